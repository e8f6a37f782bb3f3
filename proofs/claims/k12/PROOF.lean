import PyProof.Rows.All
import Wide.All
import OpenK.AllK
import Wide.FinOn
import KE.KFmtOwn
import KE.KCallOwn
import PyProof.InstEq
import HandS.ForMost
import HandS.Exc
import HandS.Defaults
import HandS.IsInst
import HandS.MakeKw
import HandS.TupAny
import HandS.ClsMeth
import HandS.ExcInit
import HandS.Lambda
import HandS.ExcField
import HandS.ExcIs
import KE.KExcIs
import HandS.ExcOwn
import HandS.HeadHook1
import HandS.HeadHook2
import HandS.HeadHook4
import HandS.Wide
import HandS.TupLe
import HandS.Deep
import HandS.Zip
import HandS.Style
import HandS.Flow
import HandS.Steps
import HandS.Rev
import KE.DatumOrd
import KE.KIndexOf
import HandS.TupMul
import HandS.Evl
import HandS.Star
import HandS.TryOnly
import HandS.Conv
import HandS.Dict
import PyProof.EnumMake
import HandS.GenYield
import HandS.Iter
import KE.GoesMore
import PyProof.Draws
import PySem.Challenge.RW_anyseven_k12_rules_kept_by_rows
import KE.KStateDown
import HandS.Head0
import HandS.Head1
import HandS.Head2
import HandS.HeadEnd
import HandS.HeadWalk
set_option Elab.async false
set_option linter.all false
set_option maxRecDepth 100000
set_option maxHeartbeats 4000000
/-! Rules more than the layer has: own len, str, == and !=, staticmethods, keywords at methods; lists joined that are locked. -/
namespace PySem.W
open PySem PySem.Spec PySem.Calls PyProof.Rows
section
variable {prog : Program} {w : World} {M : Model} {A : Around} {E : Value → Shared → Prop} {s : Shared} {K : Frag} {x C f L : Addr} {ox : Obj} {od : Option Obj} {h₀ : Heap} {m : Str → Option Value} {b tb : Value}
/-- a slot of a built-in that a class has not of its own -/
theorem ifBound_B {name : Str} {id : String} {args : List Value} {Q : Option Value → Shared → Prop} (X : K.In s.heap) (I : InstAt s.heap x ox C od) (hs : findIn K (.ref C) name = some (some (.builtin id)))
    (hb : ∀ self, bindSpecial (.builtin id) self = pure (.builtin id, [self])) (h : wpAny M A (call (.builtin id) (.ref x :: args)) (fun v => Q (some v)) E s) : wpAny M A (callSpecialIfBound? (.ref x) name args) Q E s := by
  simp only [callSpecialIfBound?, bindSpecialIfBound?]
  refine wpAny_holding (wpAny_bind (wpAny_bind (wpAny_bind (I.type.here ((looks_findIn X hs).here ?_)))))
  refine wpAny_bind (wpAny_askSetting (wpAny_ite ?_))
  have fin : wpAny M A (call (.builtin id) ([.ref x] ++ args) >>= fun v => pure (some v)) Q E s := wpAny_bind (wpAny_mono h (fun v s' h' => wpAny_pure h') fun _ _ h' => h')
  split
  · exact wpAny_bind ((Looks.of_pure (hb _)).here (wpAny_pure (by exact fin)))
  · exact wpAny_tryCatch (wpAny_bind ((Looks.of_pure (hb _)).here (wpAny_pure (by exact fin))))
/-- x != b by the own == of x's class, which has no own != -/
theorem ne_K {Q : Value → Shared → Prop} (hu : A.units < cLine) (hu1 : A.in1.units < cLine) (F : Fr h₀ L s.heap m) (X₀ : K.In h₀) (I : InstAt s.heap x ox C od) (hb : Looks (model prog w) s.heap (typeOf b) tb) (hn : notFirst K C tb = true)
    (hne : findIn K (.ref C) "__ne__" = some (some (.builtin "object.__ne__"))) (hm : mroIn K C (.type "object") = some true) (hs : findIn K (.ref C) "__eq__" = some (some (.ref f))) (hf : isFn K (.ref f) = true)
    (h : wpAny (model prog w) A.in1 (call (.ref f) [.ref x, b]) (fun v s' => ∃ r, v = .bool r ∧ Q (.bool (!r)) s') E s) : wpAny (model prog w) A (richCompare .NotEq (.ref x) b) Q E s := by
  have X := X₀.keeps F.keep
  have one : wpAny (model prog w) A (tryCompare (.ref x) (cmpInfo .NotEq).2.1 b) (fun r s' => ∃ v, r = some v ∧ Q v s') E s := by
    unfold tryCompare
    refine wpAny_bind (ifBound_B X I hne PySem.F.slot_object_ne.bind (wpAny_call (codeAny_call_builtin PySem.F.slot_object_ne.plain PySem.F.cmpEntry_ne (check_slot (i := "object.__ne__") (owner := "object") (n := "__ne__") PySem.F.cmpKind_ne PySem.F.cmpSplit_ne (I.type.andThen (looks_mroIn X hm)) (PySem.F.cmpArgs_ne _ _) ?_))))
    show wpAny _ A.in1 (Builtin.«object.__ne__» ⟨[.ref x, b], []⟩) _ _ _
    unfold Builtin.«object.__ne__»
    refine wpAny_bind (m := slotArgs "__ne__" 1 _) (wpAny_pure ?_)
    refine wpAny_bind (m := cRoomFor _ _) (wpAny_cRoomFor hu1 ?_)
    refine wpAny_bind (m := callSpecialIfBound? (.ref x) (Str.ofString "__eq__") [b]) (ifBound_K X I hs hf (wpAny_mono h (fun r s' hr => ?_) fun _ _ e => e))
    obtain ⟨r, rfl, hq⟩ := hr
    refine wpAny_bind (m := truthy (.bool r)) (wpAny_truthy_bool ?_)
    exact wpAny_pure (wpAny_pure ⟨_, rfl, hq⟩)
  unfold richCompare
  simp only [oneThing_ref]
  refine wpAny_holding (wpAny_bind (wpAny_cRoomFor hu ?_))
  refine wpAny_bind (I.type.here (wpAny_bind (hb.here ?_)))
  split
  · rename_i q
    have e : subIn K tb (.ref C) = some false := by
      rcases Bool.or_eq_true_iff.mp hn with e | e
      · rw [beq_iff_eq.mp e] at q; simp at q
      · exact beq_iff_eq.mp e
    refine wpAny_bind ((looks_subIn X e).here ?_)
    simp only [Bool.false_eq_true, if_false]
    refine wpAny_bind (wpAny_mono one (fun r s' z => ?_) fun _ _ e => e)
    obtain ⟨v, rfl, hq⟩ := z
    exact wpAny_pure hq
  · refine wpAny_bind (wpAny_pure ?_)
    simp only [Bool.false_eq_true, if_false]
    refine wpAny_bind (wpAny_mono one (fun r s' z => ?_) fun _ _ e => e)
    obtain ⟨v, rfl, hq⟩ := z
    exact wpAny_pure hq
end
end PySem.W
namespace Rl
open PySem PySem.Spec PyProof.Rows L2
section
variable {X : Cx} {pins : List (Addr × Obj)} {σ : L2.St} {H : Hp} {s : Shared}
/-- an own def called from below the running body -/
theorem run_in {CX : CXT} {k : Nat} {f : Addr} {fd : FuncData} {ps : List Str} {sp : Sp} {E : XK} {A : Around} {Q : VK} {us : List Value} {vs : List V} (F : FnOk X.prog X.w X.K X.mg X.base CX k f fd ps sp) (hr : Room k A) (hf : A.frames = X.A.frames)
    (hb : Binds X.K fd ps []) (hx : Passes CX X E) (I : Inv X pins σ H s) (r : Vals vs us) (h : sp vs H Q E) : wpAny (model X.prog X.w) A (call (.ref f) us) (EP X pins σ Q) X.xe s := by
  have e0 : Env0 X.prog X.w X.K X.mg X.base A X.stack s H := by
    have e := I.env0
    exact ⟨by rw [hf]; exact e.frames, e.mod, e.bs, e.bsz, e.funs, e.frf, e.hok, e.bare⟩
  have hl := F.len _ _ _ _ h
  have hl2 : us.length = ps.length := by rw [← r.length]; exact hl
  refine wpAny_call (codeAny_mono (F.run A X.stack s H ⟨us, []⟩ us vs _ E hr e0 (by
    have := hb s us I.kIn (by simpa using hl2)
    simpa using this) r h) fun r s' hq => ?_)
  cases r with
  | error e => exact hx pins σ H s e s' I hq
  | ok fl =>
    cases fl with
    | ret w => exact I.after hq
    | next => exact False.elim hq
    | brk => exact False.elim hq
    | cont => exact False.elim hq
/-- what an own special method is: of the class at C, named m, the def at f -/
structure Spm (K : PySem.W.Frag) (C : Addr) (m : Str) (f : Addr) : Prop where
  at_ : PySem.W.findIn K (.ref C) m = some (some (.ref f))
  fn : PySem.W.isFn K (.ref f) = true
theorem inst_of {a C dx : Addr} {fs : List (Str × V)} (I : Inv X pins σ H s) (h : H a = some (.ins C dx fs)) : ∃ od, PySem.W.InstAt s.heap a (PySem.W.instObj C dx) C (some od) := by
  obtain ⟨mA, J, _⟩ := ins_get I.hok h
  obtain ⟨od, J, _⟩ := J.look
  exact ⟨od, J⟩
/-- len(o), o's class with an own __len__ -/
def rLenO (C : Addr) (sp : Sp) (E : XK) : List V → Hp → VK → Prop := fun xs H Q => ∃ a dx fs, xs = [.ref a] ∧ H a = some (.ins C dx fs) ∧ sp [.ref a] H (fun v H' => ∃ n : Int, v = .int n ∧ 0 ≤ n ∧ n < 2 ^ 63 ∧ Q (.int n) H') E
theorem call_lenO {CX : CXT} {k : Nat} {C f : Addr} {fd : FuncData} {ps : List Str} {sp : Sp} {E : XK} (m : Spm X.K C "__len__" f) (F : FnOk X.prog X.w X.K X.mg X.base CX k f fd ps sp) (hr : Room (k + 1) X.A) (hb : Binds X.K fd ps []) (hx : Passes CX X E) :
    CallR X (.builtin "len") (rLenO C sp E) := by
  intro pins s σ H xs us Q I rv h
  obtain ⟨a, dx, fs, rfl, ha, q⟩ := h
  obtain ⟨u, rfl, ru⟩ := vals1 rv
  cases ru
  obtain ⟨od, J⟩ := inst_of I ha
  obtain ⟨mm, hF⟩ := I.fr
  refine PySem.W.len_K hF I.ok.mod.kin J m.at_ m.fn (thn (run_in F hr.in1 rfl hb hx I rv q) fun v s' ⟨x, H', I', rx, n, ex, h0, h1, q⟩ => ?_)
  subst ex
  obtain ⟨t, rfl⟩ := rx
  exact ⟨⟨h0, h1⟩, .int n, H', I'.tok _, ⟨_, rfl⟩, q⟩
/-- str(o), o's class with an own __str__ -/
def rStrO (C : Addr) (sp : Sp) (E : XK) : List V → Hp → VK → Prop := fun xs H Q => ∃ a dx fs, xs = [.ref a] ∧ H a = some (.ins C dx fs) ∧ sp [.ref a] H (fun v H' => ∃ z : Str, v = .str z ∧ Q (.str z) H') E
theorem call_strO {CX : CXT} {k : Nat} {C f : Addr} {fd : FuncData} {ps : List Str} {sp : Sp} {E : XK} (m : Spm X.K C "__str__" f) (F : FnOk X.prog X.w X.K X.mg X.base CX k f fd ps sp) (hr : Room (k + 2) X.A) (hb : Binds X.K fd ps []) (hx : Passes CX X E) :
    CallR X (.type "str") (rStrO C sp E) := by
  intro pins s σ H xs us Q I rv h
  obtain ⟨a, dx, fs, rfl, ha, q⟩ := h
  obtain ⟨u, rfl, ru⟩ := vals1 rv
  cases ru
  obtain ⟨od, J⟩ := inst_of I ha
  refine PySem.W.kso_call hr.in1.in1.units0 I.kIn J m.at_ m.fn (thn (run_in F hr.in1.in1 rfl hb hx I rv q) fun v s' ⟨x, H', I', rx, z, ex, q⟩ => ?_)
  subst ex
  obtain ⟨t, rfl⟩ := rx
  exact ⟨.str z, H', I', ⟨_, rfl⟩, q⟩
/-- the type of a value, for a comparison with an own instance -/
theorem type_of {x : V} {u t : Value} (I : Inv X pins σ H s) (rx : RelV x u) (ty : TyX X.K H x t) : PySem.W.Looks (model X.prog X.w) s.heap (typeOf u) t := by
  obtain ⟨P, Z, p, _⟩ := kit_of I rx ty
  exact Z.ty _ _ I.kIn p
/-- o == y, o's class with an own __eq__ -/
def rEqO (K : PySem.W.Frag) (C : Addr) (sp : Sp) (E : XK) : R2 := fun x y H Q => ∃ a dx fs t, x = .ref a ∧ H a = some (.ins C dx fs) ∧ TyX K H y t ∧ PySem.W.notFirst K C t = true ∧ sp [.ref a, y] H (fun v H' => ∃ b : Bool, v = .bl b ∧ Q (.bl b) H') E
theorem op_eqO {CX : CXT} {k : Nat} {C f : Addr} {fd : FuncData} {ps : List Str} {sp : Sp} {E : XK} (m : Spm X.K C "__eq__" f) (F : FnOk X.prog X.w X.K X.mg X.base CX k f fd ps sp) (hr : Room k X.A) (hb : Binds X.K fd ps []) (hx : Passes CX X E) :
    OpR X (compareOp .Eq) (rEqO X.K C sp E) := by
  intro pins s σ H x y v u Q I rx ry h
  obtain ⟨a, dx, fs, t, rfl, ha, ty, nf, q⟩ := h
  cases rx
  obtain ⟨od, J⟩ := inst_of I ha
  obtain ⟨mm, hF⟩ := I.fr
  show wpAny (model X.prog X.w) X.A (richCompare .Eq (.ref a) u) (EP X pins σ Q) X.xe s
  refine PySem.W.cmp_K (op := .Eq) (tb := t) hr.units0 hF I.ok.mod.kin J (type_of I ry ty) nf m.at_ m.fn (thn (run_in F hr rfl hb hx I (Paired.cons (show RelV (.ref a) (Value.ref a) from rfl) (Paired.cons ry .nil)) q) fun v s' ⟨x, H', I', rx, b, ex, q⟩ => ?_)
  subst ex
  cases rx
  exact ⟨.bl b, H', I', rfl, q⟩
/-- o != y, o's class with an own __eq__ and no own __ne__ -/
structure Nem (K : PySem.W.Frag) (C : Addr) : Prop where
  ne : PySem.W.findIn K (.ref C) "__ne__" = some (some (.builtin "object.__ne__"))
  ob : PySem.W.mroIn K C (.type "object") = some true
def rNeO (K : PySem.W.Frag) (C : Addr) (sp : Sp) (E : XK) : R2 := fun x y H Q => ∃ a dx fs t, x = .ref a ∧ H a = some (.ins C dx fs) ∧ TyX K H y t ∧ PySem.W.notFirst K C t = true ∧ sp [.ref a, y] H (fun v H' => ∃ b : Bool, v = .bl b ∧ Q (.bl (!b)) H') E
theorem op_neO {CX : CXT} {k : Nat} {C f : Addr} {fd : FuncData} {ps : List Str} {sp : Sp} {E : XK} (m : Spm X.K C "__eq__" f) (n : Nem X.K C) (F : FnOk X.prog X.w X.K X.mg X.base CX k f fd ps sp) (hr : Room (k + 1) X.A) (hb : Binds X.K fd ps []) (hx : Passes CX X E) :
    OpR X (compareOp .NotEq) (rNeO X.K C sp E) := by
  intro pins s σ H x y v u Q I rx ry h
  obtain ⟨a, dx, fs, t, rfl, ha, ty, nf, q⟩ := h
  cases rx
  obtain ⟨od, J⟩ := inst_of I ha
  obtain ⟨mm, hF⟩ := I.fr
  show wpAny (model X.prog X.w) X.A (richCompare .NotEq (.ref a) u) (EP X pins σ Q) X.xe s
  refine PySem.W.ne_K (tb := t) hr.units0 hr.in1.units0 hF I.ok.mod.kin J (type_of I ry ty) nf n.ne n.ob m.at_ m.fn (thn (run_in F hr.in1 rfl hb hx I (Paired.cons (show RelV (.ref a) (Value.ref a) from rfl) (Paired.cons ry .nil)) q) fun v s' ⟨x, H', I', rx, b, ex, q⟩ => ?_)
  subst ex
  cases rx
  exact ⟨b, rfl, .bl (!b), H', I', rfl, q⟩
end
end Rl

set_option Elab.async false
set_option linter.all false
set_option maxRecDepth 100000
set_option maxHeartbeats 4000000
/-! One rule for calls of own defs, classes, methods, staticmethods, by place and by name. -/
namespace Rl
open PySem PySem.Spec PyProof.Rows L2
/-- what the arguments come to: those by place, those by name -/
abbrev TC := L2.St → Hp → (List V → List V → Hp → Prop) → Prop
def tcP (ta : TA) : TC := fun σ H R => ta σ H fun vs H1 => R vs [] H1
def tcK (tk : TA) : TC := fun σ H R => tk σ H fun zs H1 => R [] zs H1
def tcPK (ta tk : TA) : TC := fun σ H R => ta σ H fun vs H1 => tk σ H1 fun zs H2 => R vs zs H2
structure PC (X : Cx) (es : List Expr) (kws : List Keyword) (ks : List Str) (t : TC) : Prop where
  run : ∀ (pos : Pos) (f : Value) (first : List Value) (pins : List (Addr × Obj)) (s : Shared) (σ : L2.St) (H : Hp) (R : List V → List V → Hp → Prop) (Q : Value → Shared → Prop), PySem.W.keepIn X.K f = true → Inv X pins σ H s → t σ H R →
    (∀ us ws vs zs H' s', Inv X pins σ H' s' → Vals vs us → Vals zs ws → R vs zs H' → wpAny (model X.prog X.w) X.A (call f (first ++ us) (ks.zip ws)) Q X.xe s') →
    wpAny (model X.prog X.w) X.A (callWith pos f first (backTo pos (starEach es X.env)) (backToKw pos (keywordEach kws X.env))) Q X.xe s
section
variable {X : Cx} {e : Expr} {es : List Expr} {kws : List Keyword} {ks : List Str} {t tk : TA}
theorem pc_0 : PC X [] [] [] (tcP tNil) := ⟨fun pos f first pins s σ H R Q hk I h g => PySem.W.callWith_K0 I.kIn hk (g [] [] [] [] H s I .nil .nil h)⟩
theorem pc_p (ha : PA X (e :: es) t) (hpl : ∀ pos, (backTo pos (starEach es X.env)).any (·.1) = false := by intro _; rfl) (he : starEach (e :: es) X.env = (false, eval e X.env) :: starEach es X.env := by rfl) : PC X (e :: es) [] [] (tcP t) :=
  ⟨fun pos f first pins s σ H R Q hk I h g => PySem.W.callWith_K (first := first) (h₀ := X.base) I.ok.mod.kin hk (thn (ha.run pos pins s σ H _ I h) fun us s1 ⟨vs, H1, I1, r, q⟩ => ⟨I1.kIn, g us [] vs [] H1 s1 I1 r .nil q⟩) he (hpl pos)⟩
theorem pc_k (hkw : PK X kws tk) (hall : ∀ pos, (backToKw pos (keywordEach kws X.env)).all (·.1.isSome) = true := by intro _; rfl) (hks : ∀ pos, (backToKw pos (keywordEach kws X.env)).filterMap (·.1) = ks := by intro _; rfl)
    (hpl : ∀ pos, ((backTo pos (starEach [] X.env)).any (·.1) || (backToKw pos (keywordEach kws X.env)).any (·.1.isNone)) = false := by intro _; rfl) : PC X [] kws ks (tcK tk) :=
  ⟨fun pos f first pins s σ H R Q hk I h g => by
    refine PySem.W.callWith_KW0 (first := first) (h₀ := X.base) I.ok.mod.kin hk (hall pos) ?_ (hpl pos)
    refine thn (hkw.run pos pins s σ H _ I h) fun ws s2 ⟨zs, H2, I2, rz, q2⟩ => ⟨I2.kIn, ?_⟩
    rw [hks pos]
    exact g [] ws [] zs H2 s2 I2 .nil rz q2⟩
theorem pc_pk (ha : PA X (e :: es) t) (hkw : PK X kws tk) (hall : ∀ pos, (backToKw pos (keywordEach kws X.env)).all (·.1.isSome) = true := by intro _; rfl) (hks : ∀ pos, (backToKw pos (keywordEach kws X.env)).filterMap (·.1) = ks := by intro _; rfl)
    (he : starEach (e :: es) X.env = (false, eval e X.env) :: starEach es X.env := by rfl) (hpl : ∀ pos, ((backTo pos (starEach (e :: es) X.env)).any (·.1) || (backToKw pos (keywordEach kws X.env)).any (·.1.isNone)) = false := by intro _; rfl) : PC X (e :: es) kws ks (tcPK t tk) :=
  ⟨fun pos f first pins s σ H R Q hk I h g => by
    refine PySem.W.callWith_KW (first := first) (h₀ := X.base) I.ok.mod.kin hk (hall pos) (thn (ha.run pos pins s σ H _ I h) fun us s1 ⟨vs, H1, I1, r, q⟩ => ?_) (hpl pos) he
    refine thn (hkw.run pos pins s1 σ H1 _ I1 q) fun ws s2 ⟨zs, H2, I2, rz, q2⟩ => ⟨I2.kIn, ?_⟩
    rw [hks pos]
    exact g us ws vs zs H2 s2 I2 r rz q2⟩
end
/-- how the arguments become the parameters -/
structure Bn (K : PySem.W.Frag) (fd : FuncData) (ps : List Str) (n : Nat) (ks : List Str) (g : List Value → List Value → List Value) (gV : List V → List V → List V) : Prop where
  to : ∀ (s : Shared) (us ws : List Value), K.In s.heap → us.length = n → ws.length = ks.length → BindsTo s fd ⟨us, ks.zip ws⟩ (ps.zip (g us ws))
  rel : ∀ {vs : List V} {us : List Value} {zs : List V} {ws : List Value}, Vals vs us → Vals zs ws → Vals (gV vs zs) (g us ws)
/-- the values at some places -/
def pick {α : Type} (d : α) (π : List Nat) (us ws : List α) : List α := π.map fun i => (us ++ ws).getD i d
theorem Vals.pick {vs zs : List V} {us ws : List Value} (π : List Nat) (r : Vals vs us) (q : Vals zs ws) : Vals (Rl.pick V.non π vs zs) (Rl.pick Value.none π us ws) := by
  have a := r.append q
  induction π with
  | nil => exact .nil
  | cons i π ih =>
    refine .cons ?_ ih
    show RelV ((vs ++ zs).getD i V.non) ((us ++ ws).getD i Value.none)
    cases e : (vs ++ zs)[i]? with
    | some x =>
      obtain ⟨u, e2, rx⟩ := a.get e
      rw [List.getD_eq_getElem?_getD, List.getD_eq_getElem?_getD, e, e2]
      exact rx
    | none =>
      rw [List.getD_eq_getElem?_getD, List.getD_eq_getElem?_getD, e, a.none_of e]
      rfl
theorem bn_pos {K : PySem.W.Frag} {fd : FuncData} {ps : List Str} {n : Nat} (h : ∀ (s : Shared) (us : List Value), us.length = n → BindsTo s fd ⟨us, []⟩ (ps.zip us)) : Bn K fd ps n [] (fun us _ => us) (fun vs _ => vs) where
  to := fun s us ws _ h1 h2 => h s us h1
  rel := fun r _ => r
theorem bn_kw {K : PySem.W.Frag} {fd : FuncData} {ps ks : List Str} {n : Nat} (π : List Nat) (h : ∀ (s : Shared) (us ws : List Value), us.length = n → ws.length = ks.length → BindsTo s fd ⟨us, ks.zip ws⟩ (ps.zip (pick Value.none π us ws))) : Bn K fd ps n ks (pick Value.none π) (pick V.non π) where
  to := fun s us ws _ h1 h2 => h s us ws h1 h2
  rel := fun r q => Vals.pick π r q
theorem bindsK {K : PySem.W.Frag} {x qual : Str} {params : Arguments} {body : List Stmt} {scope : Scope} {kws : List (Str × V)} {f : Addr} {fd : FuncData} {ps ks : List Str} (π : List Nat) {n : Nat} (F : FunD K x qual params body scope [] kws f fd)
    (h : ∀ (kV doc pm : Value) (an : Option Addr) (cdv ct : Value) (us ws : List Value), us.length = n → ws.length = ks.length → bindArgs (PySem.W.fnOf x qual params body scope .none kV doc pm an cdv ct) ⟨us, ks.zip ws⟩ = pure (ps.zip (pick Value.none π us ws))) :
    Bn K fd ps n ks (pick Value.none π) (pick V.non π) := by
  obtain ⟨oc, od, dV, kV, doc, pm, an, cdv, ct, osl, rfl, lk, hcd, hD, hK⟩ := F.ex
  rcases hD with ⟨_, rfl⟩ | ⟨e, _⟩
  · exact bn_kw π fun s us ws h1 h2 => .of_eq (h kV doc pm an cdv ct us ws h1 h2)
  · exact absurd rfl e
theorem bindsP {K : PySem.W.Frag} {x qual : Str} {params : Arguments} {body : List Stmt} {scope : Scope} {kws : List (Str × V)} {f : Addr} {fd : FuncData} {ps : List Str} {n : Nat} (F : FunD K x qual params body scope [] kws f fd)
    (h : ∀ (kV doc pm : Value) (an : Option Addr) (cdv ct : Value) (us : List Value), us.length = n → bindArgs (PySem.W.fnOf x qual params body scope .none kV doc pm an cdv ct) ⟨us, []⟩ = pure (ps.zip us)) :
    Bn K fd ps n [] (fun us _ => us) (fun vs _ => vs) := by
  obtain ⟨oc, od, dV, kV, doc, pm, an, cdv, ct, osl, rfl, lk, hcd, hD, hK⟩ := F.ex
  rcases hD with ⟨_, rfl⟩ | ⟨e, _⟩
  · exact bn_pos fun s us h1 => .of_eq (h kV doc pm an cdv ct us h1)
  · exact absurd rfl e
/-- f(..) -/
def tFn (n m : Nat) (sp : Sp) (gV : List V → List V → List V) (E : XK) (t : TC) : TE := fun σ H Q => t σ H fun vs zs H1 => vs.length = n ∧ zs.length = m ∧ sp (gV vs zs) H1 Q E
/-- o.m(..) -/
def tMt (C : Addr) (m : Str) (n k : Nat) (sp : Sp) (gV : List V → List V → List V) (E : XK) (ta : TE) (t : TC) : TE := fun σ H Q => ta σ H fun x H1 => ∃ a dx fs, x = .ref a ∧ H1 a = some (.ins C dx fs) ∧ fs.lookup m = none ∧
  t σ H1 fun vs zs H2 => vs.length = n ∧ zs.length = k ∧ sp (gV (x :: vs) zs) H2 Q E
/-- C(..) -/
def tNew (C : Addr) (n m : Nat) (sp : Sp) (gV : List V → List V → List V) (E : XK) (t : TC) : TE := fun σ H Q => t σ H fun vs zs H1 => vs.length = n ∧ zs.length = m ∧ ∀ x dx, H1 x = none → H1 dx = none → dx ≠ x →
  sp (gV (.ref x :: vs) zs) (upd (upd H1 dx (.own x)) x (.ins C dx [])) (fun v H2 => v = .non ∧ Q (.ref x) H2) E
/-- a staticmethod of the class at C: its record at p, its def at g -/
structure Stm (K : PySem.W.Frag) (C : Addr) (m : Str) (g : Addr) : Prop where
  ex : ∃ mc p rest, PySem.W.readsIn K C mc = true ∧ PySem.W.specialIn K (.ref C) "__getattribute__" = some (some (.builtin "type.__getattribute__")) ∧ PySem.W.findCls K (.ref C) mc m = some (.get (.builtin "staticmethod.__get__") (.ref p) .none (.ref C)) ∧
    PySem.W.recIn K p "staticmethod" = some (.ref g :: rest)
  kp : PySem.W.keepIn K (.ref g) = true
section
variable {X : Cx} {CX : CXT} {k n : Nat} {f C : Addr} {fd : FuncData} {ps ks : List Str} {sp : Sp} {E : XK} {x m : Str} {p pos apos : Pos} {o : Expr} {es : List Expr} {kws : List Keyword} {ta : TE} {t : TC} {g : List Value → List Value → List Value} {gV : List V → List V → List V}
theorem run_f {pins : List (Addr × Obj)} {σ : L2.St} {H : Hp} {s : Shared} {Q : VK} {us ws : List Value} {vs zs : List V} (F : FnOk X.prog X.w X.K X.mg X.base CX k f fd ps sp) (hr : Room k X.A) (hb : Bn X.K fd ps n ks g gV) (hx : Passes CX X E)
    (I : Inv X pins σ H s) (r : Vals vs us) (rz : Vals zs ws) (l1 : vs.length = n) (l2 : zs.length = ks.length) (h : sp (gV vs zs) H Q E) : wpAny (model X.prog X.w) X.A (call (.ref f) us (ks.zip ws)) (EP X pins σ Q) X.xe s :=
  run_fnN F hr ⟨hb.to, hb.rel⟩ hx I r rz l1 l2 h
theorem pe_fn (F : FnOk X.prog X.w X.K X.mg X.base CX k f fd ps sp) (hr : Room k X.A) (hg : Gl X x) (hm : X.mg x = some (.ref f)) (hk : PySem.W.keepIn X.K (.ref f) = true) (hb : Bn X.K fd ps n ks g gV) (hx : Passes CX X E) (ha : PC X es kws ks t)
    (hdb : (x == ("__debug__" : Str)) = false := by decide) : PE X (.Call (.Name x p) es kws pos) (tFn n ks.length sp gV E t) := by
  refine ⟨fun pins s σ H Q I h => ?_⟩
  refine wpAny_Call_Name_kw (ld_glob I hg hm ?_ hdb)
  exact ha.run pos (.ref f) [] pins s σ H _ _ hk I h fun us ws vs zs H' s' I' r rz ⟨l1, l2, q⟩ => run_f F hr hb hx I' r rz l1 l2 q
theorem pe_new (M : Mk X.K C f) (F : FnOk X.prog X.w X.K X.mg X.base CX k f fd ps sp) (hr : Room (k + 1) X.A) (hg : Gl X x) (hm : X.mg x = some (.ref C)) (hb : Bn X.K fd ps (n + 1) ks g gV) (hx : Passes CX X E) (ha : PC X es kws ks t)
    (hdb : (x == ("__debug__" : Str)) = false := by decide) : PE X (.Call (.Name x p) es kws pos) (tNew C n ks.length sp gV E t) := by
  refine ⟨fun pins s σ H Q I h => ?_⟩
  refine wpAny_Call_Name_kw (ld_glob I hg hm ?_ hdb)
  exact ha.run pos (.ref C) [] pins s σ H _ _ M.kp I h fun us ws vs zs H' s' I' r rz ⟨l1, l2, q⟩ => run_makeN M F hr ⟨hb.to, hb.rel⟩ hx I' r rz l1 l2 q
theorem pe_mt {pl : Sem Bool} (he : PE X o ta) (c : Cls X.K C) (hm : Meth X.K C m f) (F : FnOk X.prog X.w X.K X.mg X.base CX k f fd ps sp) (hr : Room k X.A) (hb : Bn X.K fd ps (n + 1) ks g gV) (hx : Passes CX X E) (ha : PC X es kws ks t)
    (ht : eval (.Call (.Attribute o m apos) es kws pos) X.env = (do
      let ov ← eval o X.env
      standAt apos.atName
      let (f, first) ← holding [ov] (getMethod ov m pl)
      callWith pos f first (backTo pos (starEach es X.env)) (backToKw pos (keywordEach kws X.env))) := by rfl) :
    PE X (.Call (.Attribute o m apos) es kws pos) (tMt C m n ks.length sp gV E ta t) := by
  refine ⟨fun pins s σ H Q I h => ?_⟩
  refine PySem.W.methodCall_KW (pl := pl) (thn (he.run pins s σ H _ I h) fun u s1 ⟨x, H1, I1, rx, a, dx, fs, ex, ea, l, q⟩ => ?_) ht
  subst ex
  obtain rfl : u = Value.ref a := rx
  refine getmeth_ok I1 ea c hm l ?_
  exact ha.run pos (.ref f) [.ref a] pins s1 σ H1 _ _ hm.kp I1 q fun us ws vs zs H' s' I' r rz ⟨l1, l2, q⟩ =>
    run_f (us := .ref a :: us) (vs := .ref a :: vs) F hr hb hx I' (.cons rfl r) rz (congrArg Nat.succ l1) l2 q
theorem pe_st {pl : Sem Bool} (S : Stm X.K C m f) (hg : Gl X x) (hm : X.mg x = some (.ref C)) (F : FnOk X.prog X.w X.K X.mg X.base CX k f fd ps sp) (hr : Room k X.A) (hb : Bn X.K fd ps n ks g gV) (hx : Passes CX X E) (ha : PC X es kws ks t)
    (hdb : (x == ("__debug__" : Str)) = false := by decide)
    (ht : eval (.Call (.Attribute (.Name x p) m apos) es kws pos) X.env = (do
      let ov ← eval (.Name x p) X.env
      standAt apos.atName
      let (f, first) ← holding [ov] (getMethod ov m pl)
      callWith pos f first (backTo pos (starEach es X.env)) (backToKw pos (keywordEach kws X.env))) := by rfl) :
    PE X (.Call (.Attribute (.Name x p) m apos) es kws pos) (tFn n ks.length sp gV E t) := by
  refine ⟨fun pins s σ H Q I h => ?_⟩
  refine PySem.W.methodCall_KW (pl := pl) (ld_glob I hg hm ?_ hdb) ht
  obtain ⟨mc, pp, rest, rd, ga, fc, rc⟩ := S.ex
  refine PySem.W.method_cls I.kIn ga ?_
  refine PySem.W.cls_bind I.kIn rd fc ?_
  refine wpAny_call (PySem.W.sm_get (s := { s with toks := s.toks + 1 }) I.kIn rc (PySem.W.handed_on rfl ?_))
  exact ha.run pos (.ref f) [] pins _ σ H _ _ S.kp (I.tok _) h fun us ws vs zs H' s' I' r rz ⟨l1, l2, q⟩ => run_f F hr hb hx I' r rz l1 l2 q
end
/-! ### joins of readings -/
section
variable {X : Cx}
theorem pe_or2 {e : Expr} {t u : TE} (h1 : PE X e t) (h2 : PE X e u) : PE X e (fun σ H Q => t σ H Q ∨ u σ H Q) := ⟨fun pins s σ H Q I h => h.elim (h1.run pins s σ H Q I) (h2.run pins s σ H Q I)⟩
theorem pi_or2 {tg e : Expr} {t u : TI} (h1 : PI X tg e t) (h2 : PI X tg e u) : PI X tg e (fun σ H R => t σ H R ∨ u σ H R) := ⟨fun pins s σ H R I h => h.elim (h1.run pins s σ H R I) (h2.run pins s σ H R I)⟩
theorem CallR.or {f : Value} {r r' : List V → Hp → VK → Prop} (h : CallR X f r) (h' : CallR X f r') : CallR X f (fun xs H Q => r xs H Q ∨ r' xs H Q) := fun pins s σ H xs us Q I rv q => q.elim (h pins s σ H xs us Q I rv) (h' pins s σ H xs us Q I rv)
/-! ### lists joined that may be locked -/
def rCatR : R2 := fun x y H Q => ∃ l b xs zs, x = .ref l ∧ y = .ref b ∧ Rd H l (.lst xs) ∧ Rd H b (.lst zs) ∧ xs.length + zs.length ≤ sizeLine ∧ ∀ p, H p = none → Q (.ref p) (upd H p (.lst (xs ++ zs)))
theorem rdM {pins : List (Addr × Obj)} {σ : L2.St} {H : Hp} {s : Shared} {l : Addr} {xs : List V} (I : Inv X pins σ H s) (h : Rd H l (.lst xs)) :
    xs.length ≤ sizeLine ∧ ∃ (its : List Value) (n : Nat), Vals xs its ∧ xs.length = its.length ∧ s.heap.get? l = some { cls := .type "list", data := .seq its.toArray n } := by
  obtain ⟨z, its, n, r, e⟩ := h.ok I.hok
  exact ⟨z, its, n, r, r.length, e⟩
theorem op_catR : OpR X (binaryOp .Add) rCatR := by
  intro pins s σ H x y v u Q I rx ry h
  obtain ⟨l, b, xs, zs, rfl, rfl, hH, hB, hz, q⟩ := h
  cases rx
  cases ry
  obtain ⟨z, its, n, r, hl, e⟩ := rdM I hH
  obtain ⟨z2, its2, n2, r2, hl2, e2⟩ := rdM I hB
  refine PySem.P.add_list e e2 ?_ (by rw [List.size_toArray, List.size_toArray]; omega)
  have ea : its.toArray ++ its2.toArray = (its ++ its2).toArray := by simp
  rw [ea]
  exact ⟨.ref _, _, I.lnew (t' := s.toks) (r.append r2) (by rw [List.length_append]; omega), rfl, q _ I.fresh⟩
def rExtR : V → List V → Hp → VK → Prop := fun x vs H Q => ∃ l b xs zs, x = .ref l ∧ vs = [.ref b] ∧ H l = some (.lst xs) ∧ Rd H b (.lst zs) ∧ xs.length + zs.length ≤ sizeLine ∧ Q .non (upd H l (.lst (xs ++ zs)))
theorem mt_extR : MtM X "list.extend" rExtR := by
  intro pins s σ H x vs v us Q I rx rv h
  obtain ⟨l, b, xs, zs, rfl, rfl, hH, hB, hz, q⟩ := h
  cases rx
  obtain ⟨u, rfl, ru⟩ := rv.one
  cases ru
  obtain ⟨z, its, n, r, hl, e⟩ := I.lstM hH
  obtain ⟨z2, its2, n2, r2, hl2, e2⟩ := rdM I hB
  have hsz : its.toArray.size + its2.toArray.size ≤ sizeLine := by rw [List.size_toArray, List.size_toArray]; omega
  have hlong : ¬ (!its.toArray.isEmpty && Builtin.List.listTooLong (its.toArray.size + its2.toArray.size)) = true := by
    rw [notLongL hsz, Bool.and_false]
    exact Bool.false_ne_true
  refine call_meets F.slot_list_extend ⟨_, e, rfl⟩ F.entry_list_extend (F.args_list_extend_2 _ _)
    (AutoSeq1.list_extend_list_list_0 l its.toArray n b its2.toArray n2 hlong (by rw [List.size_toArray]; omega) (by omega)) ⟨e, e2, ?_⟩
  refine ⟨.non, _, I.lset (its' := its ++ its2) hH e (by simp) (r.append r2) ?_, rfl, q⟩
  rw [List.length_append]
  omega
end
end Rl

set_option Elab.async false
set_option linter.all false
set_option maxRecDepth 100000
set_option maxHeartbeats 4000000
/-! Exceptions that outlive their except suite; calls by lambdas. -/
namespace Rl
open PySem PySem.Spec PyProof.Rows L2
/-- at a: an exception that flew and was caught -/
def exB (a : Addr) (cls : Value) (d : Option Addr) : HO := .ext fun h => ∃ oe vs, h.get? a = some oe ∧ oe.cls = cls ∧ oe.dict = d ∧ oe.data = .fields vs
theorem exB_tup {a : Addr} {cls : Value} {d : Option Addr} {xs : List V} : exB a cls d ≠ .tup xs := fun z => by
  have z' : HO.ext _ = HO.tup xs := z
  cases z'
theorem exB_own {a x : Addr} {cls : Value} {d : Option Addr} : exB a cls d ≠ .own x := fun z => by
  have z' : HO.ext _ = HO.own x := z
  cases z'
theorem exB_at {P : Program} {w : World} {H : Hp} {h : Heap} {a : Addr} {cls : Value} {d : Option Addr} (hok : HOk P w H h) (e : H a = some (exB a cls d)) : ∃ oe vs, h.get? a = some oe ∧ oe.cls = cls ∧ oe.dict = d ∧ oe.data = .fields vs := by
  have x : ObjOk P w H h a (.ext fun h => ∃ oe vs, h.get? a = some oe ∧ oe.cls = cls ∧ oe.dict = d ∧ oe.data = .fields vs) := hok a _ e
  exact x.1
abbrev Cx.suit (X : Cx) (a : Addr) : Cx := { X with A := X.A.mark (some (.ref a)), calm := false, xe := fun _ _ => False }
section
variable {X : Cx} {pins : List (Addr × Obj)} {σ : L2.St} {H : Hp} {s : Shared}
theorem ok_suit (ok : X.Ok) (a : Addr) : (Rl.Cx.suit X a).Ok :=
  ⟨ok.mod, ok.kind, ok.glob, ok.blt, ok.above, ok.inj, ok.has, ok.cab, (fun z => absurd (show false = true from z) Bool.false_ne_true), ok.frames, ok.stk, ok.exf, ok.bs, ok.bsz, ok.noex, ok.exfs, ok.funs, ok.frf⟩
theorem inv_suit (I : Inv X pins σ H s) {a : Addr} {oe : Obj} {vs : Array Value} {cls : Value} {d : Option Addr} (ha : s.heap.get? a = some oe) (hz : Zc cls d oe) (hd : oe.data = .fields vs) (na : H a = none) (nL : a ≠ X.env.locals)
    (n0 : X.s_0.heap.get? a = none) (np : ∀ p ∈ X.pn ++ pins, p.1 ≠ a) : Inv (Rl.Cx.suit X a) pins σ (upd H a (exB a cls d)) s := by
  have ne : ∀ {b o}, X.s_0.heap.get? b = some o → b ≠ a := fun {b o} e z => by rw [z, n0] at e; cases e
  refine ⟨ok_suit I.ok a, I.os, I.bare, ⟨I.base.keep, I.base.slot, fun b o e n hx => ?_, I.base.there, fun b xs e => ?_, fun b o u e => ?_, fun b ps e => ?_⟩, I.loc, I.cell, ?_, fun y c e => ?_, fun p hp => ?_, fun b o e => ?_, I.len⟩
  · rw [upd_ne (ne e)]; exact I.base.free b o e n hx
  · rw [upd_ne (ne_of_none (I.base.tups b xs e) na)]; exact I.base.tups b xs e
  · rw [upd_ne (ne_of_none (I.base.frzs b o u e) na)]; exact I.base.frzs b o u e
  · obtain ⟨more, q⟩ := I.base.tbls b ps e
    rw [upd_ne (ne_of_none q na)]; exact ⟨more, q⟩
  · rw [upd_ne (Ne.symm nL)]; exact I.free
  · obtain ⟨v, o, ho, hc⟩ := I.cell y c e
    have nc : c ≠ a := fun z => by
      rw [z, ha] at ho; cases ho
      rw [hd] at hc; cases hc
    rw [upd_ne nc]; exact I.freeC y c e
  · obtain ⟨e1, e2, e3⟩ := I.pin p hp
    exact ⟨e1, by rw [upd_ne (np p hp)]; exact e2, e3⟩
  · by_cases hb : b = a
    · subst hb
      rw [upd_same] at e; cases e
      refine ⟨⟨oe, vs, ha, hz.1, hz.2, hd⟩, ⟨oe, ha⟩, fun h1 h2 z k => ?_⟩
      obtain ⟨o1, v1, q1, q2, q3, q4⟩ := z
      exact ⟨o1, v1, k _ q1, q2, q3, q4⟩
    · rw [upd_ne hb] at e
      refine (I.hok b o e).stay (fun _ _ _ q => q) (fun c hc => ?_) fun c xs hc => ?_
      · rw [upd_ne (ne_of_none hc na)]; exact hc
      · rw [upd_ne (ne_of_none hc na)]; exact hc
theorem inv_unsuit {a : Addr} (I : Inv (Rl.Cx.suit X a) pins σ H s) (ok : X.Ok) : Inv X pins σ H s :=
  ⟨ok, I.os, I.bare, I.base, I.loc, I.cell, I.free, I.freeC, I.pin, I.hok, I.len⟩
end
/-- who flies is new: neither the def's first heap nor its pins know it -/
structure Fresh (X : Cx) (pins : List (Addr × Obj)) (a : Addr) : Prop where
  heap : X.s_0.heap.get? a = none
  pin : ∀ p ∈ X.pn ++ pins, p.1 ≠ a
theorem fresh_of {X : Cx} {pins : List (Addr × Obj)} {σ : L2.St} {H : Hp} {s : Shared} {a : Addr} {B : Heap} (I : Inv X pins σ H s) (hex : X.ex = []) (low : ∀ b o, s.heap.get? b = some o → b ∉ frs X.stack → B.get? b = some o) (hB : B.get? a = none)
    (ha : a ∉ frs X.stack) : Fresh X pins a := by
  have gone : ∀ o, s.heap.get? a ≠ some o := fun o e => by
    have z := low a o e ha
    rw [hB] at z
    cases z
  have zero : ∀ o, X.s_0.heap.get? a ≠ some o := fun o e => by
    obtain ⟨o', q⟩ := I.base.there a o e (by rw [hex]; simp)
    exact gone o' q
  refine ⟨Option.eq_none_iff_forall_ne_some.mpr zero, fun p hp z => ?_⟩
  · exact gone p.2 (z ▸ (I.pin p hp).1)
/-- a record is no frame -/
theorem no_frame {B h : Heap} {l : List Env} {a : Addr} {o : Obj} {vs : Array Value} (ff : h.FunFrames B l) (e : h.get? a = some o) (d : o.data = .fields vs) : a ∉ frs l := fun hm => by
  obtain ⟨_, o2, e2, n⟩ := ff.mem hm
  cases e.symm.trans e2
  exact n vs d
/-- the wish for what the body lets out, where 'except x as n' takes all of it: slot i is n's, N the number of slots -/
def wOut (K : PySem.W.Frag) (c : Value) (i N : Nat) (ts : TS) (D : Ends) : WX := fun cls d σ H =>
  σ.length = N → PySem.W.exmOne K cls c = some true ∧ ∀ a, H a = none → ts { nx := fun σ' H' => D.nx (σ'.set i none) H', rt := D.rt, bk := fun σ' H' => D.bk (σ'.set i none) H', ct := fun σ' H' => D.ct (σ'.set i none) H' } (σ.set i (some (.ref a))) (upd H a (exB a cls d))
section
variable {X : Cx} {x n : Str} {c : Value} {i : Nat} {body suite : List Stmt} {b₀ : Stmt} {np pos pos' : Pos} {tb : WX → TS} {ts : TS} {pins : List (Addr × Obj)} {D : Ends}
/-- the suite, the exception known from now on -/
theorem suite_run {E1 E2 : Value → Shared → Prop} {σ : L2.St} {H : Hp} {s : Shared} {a : Addr} {cls : Value} {d : Option Addr} (ok : X.Ok) (hN : X.N.Nodup) (hi : X.N[i]? = some n) (hln : X.env.kindOf n = some .local) (hsu : PSs (Rl.Cx.suit X a) (b₀ :: suite) ts)
    (J : Inv (Rl.Cx.suit X a) pins σ (upd H a (exB a cls d)) s) (h : ts { nx := fun σ' H' => D.nx (σ'.set i none) H', rt := D.rt, bk := fun σ' H' => D.bk (σ'.set i none) H', ct := fun σ' H' => D.ct (σ'.set i none) H' } (σ.set i (some (.ref a))) (upd H a (exB a cls d))) :
    wpAny (model X.prog X.w) (X.A.mark (some (.ref a))) (storeName X.env n (.ref a)) (fun _ s1 => wpAny (model X.prog X.w) (X.A.mark (some (.ref a))) (execs (b₀ :: suite) X.env)
      (fun fl s' => wpAny (model X.prog X.w) X.A (do bindName X.env n .none; unbindBehindTheSuite X.env n pos') (fun _ s2 => SP X pins D fl s2) X.xe s') E1 s1) E2 s := by
  refine store_ok (X := Rl.Cx.suit X a) (v := .ref a) J hN hi (.inl hln) rfl (fun s1 J1 => ?_) (.inr hln)
  refine wpAny_mono ((hsu.run pins s1 _ _ _ J1 h)) (fun fl s2 out => ?_) fun _ _ z => z.elim
  rcases fl with _ | _ | _ | u
  · obtain ⟨τ, H2, J2, q⟩ := out
    exact gone_ok (inv_unsuit J2 ok) hN hi hln fun s3 J3 => ⟨τ.set i none, H2, J3, q⟩
  · obtain ⟨τ, H2, J2, q⟩ := out
    exact gone_ok (inv_unsuit J2 ok) hN hi hln fun s3 J3 => ⟨τ.set i none, H2, J3, q⟩
  · obtain ⟨τ, H2, J2, q⟩ := out
    exact gone_ok (inv_unsuit J2 ok) hN hi hln fun s3 J3 => ⟨τ.set i none, H2, J3, q⟩
  · obtain ⟨v, τ, H2, J2, r, q⟩ := out
    exact gone_ok (inv_unsuit J2 ok) hN hi hln fun s3 J3 => ⟨v, τ.set i none, H2, J3, r, q⟩
/-- try: .. except x as n: .., where the clause takes whatever flies; the exception stays known -/
theorem ps_try_out (hs : X.stack = X.env :: X.outer) (hf : X.env.frame = some X.env.locals) (hN : X.N.Nodup) (hi : X.N[i]? = some n) (hln : X.env.kindOf n = some .local) (hg : Gl X x) (hm : X.mg x = some c) (hex : X.ex = [])
    (hb : ∀ (W : WX) (pn : List (Addr × Obj)) (xe : Value → Shared → Prop), Takes (X.tr pn xe) W → PSs (X.tr pn xe) body (tb W)) (hsu : ∀ (a : Addr), PSs (Rl.Cx.suit X a) (b₀ :: suite) ts) (hdb : (x == ("__debug__" : Str)) = false := by decide) :
    PS X (.Try body [.ExceptHandler (some (.Name x np)) (some n) (b₀ :: suite) pos'] [] [] pos) (fun D σ H => tb (wOut X.K c i X.N.length ts D) D σ H) := by
  refine ⟨fun pins s σ H D I h => wpAny_Try_except ?_⟩
  have ok := I.ok
  let xe' : Value → Shared → Prop := fun e s1 => wpAny (model X.prog X.w) X.A (noteFrame e X.env) (fun _ s2 => wpAny (model X.prog X.w) X.A (setFlight e none)
    (fun _ s3 => wpAny (model X.prog X.w) X.A (handleBy e X.env [.ExceptHandler (some (.Name x np)) (some n) (b₀ :: suite) pos']) (SP X pins D) X.xe s3) X.xe s2) X.xe s1
  have tk : Takes (X.tr (X.pn ++ pins) xe') (wOut X.K c i X.N.length ts D) := by
    rintro _ t ⟨a, B, sI, _, τ, H', cls, d, rfl, J', low, up, sky, na, os, ag, wish⟩
    have J : Inv X pins τ H' sI := J'.ofTry ok
    obtain ⟨ex, go⟩ := wish J.len
    have sk : Sky B (X.env :: X.outer) a (Zc cls d) X.env.locals t.heap := hs ▸ sky
    have hB : B.get? a = none := by rcases sk with q | q | q <;> exact q.2.1
    show wpAny (model X.prog X.w) X.A (noteFrame (.ref a) X.env) _ _ _
    refine Sky.land Zc.steady (ok.frames.trans (congrArg some hs)) hf sk fun g fl u1 => ?_
    obtain ⟨oe, vs, e1, z1, d1⟩ := fl.there
    have nf : a ∉ frs (X.env :: X.outer) := no_frame fl.2.2.1 e1 d1
    have nL : a ≠ X.env.locals := fun z => nf (List.mem_filterMap.mpr ⟨X.env, List.mem_cons_self, by rw [hf, z]⟩)
    have new := fresh_of J hex low hB (hs ▸ nf)
    have L1 : PySem.W.Looks (model X.prog X.w) g (typeOf (.ref a)) cls := fun A Q E s2 k q => wpAny_typeOf_ref (k _ _ e1) (z1.1 ▸ q)
    have J1 : Inv X pins τ H' { t with heap := g } := J.landed low fl.1 (up.trans u1) os ag
    have S1 := inv_suit J1 e1 z1 d1 na nL new.heap new.pin
    refine wpAny_handleBy_cons (codeAny_handlers_test ?_) (fun q => nomatch q)
    refine ld_glob (X := Rl.Cx.suit X a) S1 hg hm ?_ hdb
    refine (PySem.W.exm_one (M := model X.prog X.w) S1.kIn L1 ex).here (codeAny_handlers_suite_as ?_)
    refine HandSPX.lands_againZ fl fun g2 fl2 u2 => ?_
    obtain ⟨oe2, vs2, e2, z2, d2⟩ := fl2.there
    have J2 : Inv X pins τ H' { t with heap := g2 } := J.landed low fl2.1 ((up.trans u1).trans u2) os ag
    exact suite_run ok hN hi hln (hsu a) (inv_suit J2 e2 z2 d2 na nL new.heap new.pin) (go a na)
  refine wpAny_mono ((hb _ (X.pn ++ pins) xe' tk).run [] s σ H D (I.toTry xe') h) (fun fl t out => ?_) fun _ _ z => z
  rcases fl with _ | _ | _ | u
  · obtain ⟨τ, H', J', q⟩ := out
    exact wpAny_execs_nil ⟨τ, H', J'.ofTry ok, q⟩
  · obtain ⟨τ, H', J', q⟩ := out
    exact ⟨τ, H', J'.ofTry ok, q⟩
  · obtain ⟨τ, H', J', q⟩ := out
    exact ⟨τ, H', J'.ofTry ok, q⟩
  · obtain ⟨v, τ, H', J', r, q⟩ := out
    exact ⟨v, τ, H', J'.ofTry ok, r, q⟩
end
end Rl

set_option Elab.async false
set_option linter.all false
set_option maxRecDepth 100000
set_option maxHeartbeats 4000000
/-! Exceptions asked, raised, passed on; a lambda called by the def that got it. -/
namespace Rl
open PySem PySem.Spec PyProof.Rows L2 LamX
/-- at a: an exception of the class at D, its dict at dd -/
def Exc (K : PySem.W.Frag) (H : Hp) (a D dd : Addr) (fs : List (Str × V)) : Prop := H a = some (exB a (.ref D) (some dd)) ∧ H dd = some (.xd fs)
section
variable {X : Cx} {pins : List (Addr × Obj)} {σ : L2.St} {H : Hp} {s : Shared}
theorem exc_inst {a D dd : Addr} {fs : List (Str × V)} (I : Inv X pins σ H s) (h : Exc X.K H a D dd fs) : ∃ oe od, PySem.W.InstAt s.heap a oe D (some od) ∧ ∃ mA, s.heap.Ns1 dd mA ∧ (∀ f, RelO (fs.lookup f) (mA f)) ∧ oe.dict = some dd ∧ s.heap.get? dd = some od := by
  obtain ⟨oe, vs, ho, hc, hd, hv⟩ := exB_at I.hok h.1
  obtain ⟨mA, hns, hr⟩ := (show ObjOk X.prog X.w H s.heap dd (.xd fs) from I.hok dd _ h.2)
  obtain ⟨od, hod, _⟩ := lookIn_ns hns
  exact ⟨oe, od, ⟨ho, hc, by unfold PySem.W.notCls; rw [hv] <;> rfl, by rw [hd]; exact hod⟩, mA, hns, hr, hd, hod⟩
/-- isinstance(e, C), e an exception -/
def rIsX (K : PySem.W.Frag) : List V → Hp → VK → Prop := fun xs H Q => ∃ (a D dd : Addr) (fs : List (Str × V)) (c : V) (u : Value) (b : Bool), xs = [.ref a, c] ∧ ClsV c u ∧ Exc K H a D dd fs ∧ ExcC K D ∧ PySem.W.kitOne K (.ref D) u = some b ∧ Q (.bl b) H
theorem isSome_of {K : PySem.W.Frag} {D : Addr} (h : PySem.W.hasDictIn K D = true) : (PySem.W.clsIn K D).isSome = true := by
  unfold PySem.W.hasDictIn at h
  cases e : PySem.W.clsIn K D with
  | none => rw [e] at h; cases h
  | some c => rfl
theorem call_isX : CallR X (.builtin "isinstance") (rIsX X.K) := by
  intro pins s σ H xs us Q I r h
  obtain ⟨a, D, dd, fs, c, u, b, rfl, k, ex, C, e, q⟩ := h
  obtain ⟨u1, u2, rfl, r1, r2⟩ := vals2 r
  have e2 := k.eq r2
  subst e2
  cases r1
  obtain ⟨oe, od, J, _⟩ := exc_inst I ex
  exact PySem.W.kia_one (PySem.W.kitx_exc (isSome_of C.hd) C.hg C.hk C.hs C.ha C.hn C.ht C.hm) I.kIn J e (fun z => nomatch z) fun tk => ⟨.bl b, H, I.tok tk, rfl, q⟩
/-- isinstance(e, (C1, C2, ..)) -/
def rIsXT (K : PySem.W.Frag) : List V → Hp → VK → Prop := fun xs H Q => ∃ (a D dd : Addr) (fs : List (Str × V)) (tp : Addr) (cs : List V) (us : List Value) (b : Bool), xs = [.ref a, .ref tp] ∧ H tp = some (.tup cs) ∧ Paired ClsV cs us ∧ Exc K H a D dd fs ∧ ExcC K D ∧ PySem.W.kitAny K (.ref D) us = some b ∧ Q (.bl b) H
theorem call_isXT : CallR X (.builtin "isinstance") (rIsXT X.K) := by
  intro pins s σ H xs us Q I r h
  obtain ⟨a, D, dd, fs, tp, cs, ws, b, rfl, hT, k, ex, C, e, q⟩ := h
  obtain ⟨u1, u2, rfl, r1, r2⟩ := vals2 r
  cases (show u2 = Value.ref tp from r2)
  cases r1
  obtain ⟨oe, od, J, _⟩ := exc_inst I ex
  obtain ⟨_, its, rv, o, h1, h2, n, h3⟩ := (show ObjOk X.prog X.w H s.heap tp (.tup cs) from I.hok tp _ hT)
  have e3 := ClsV.all k rv
  subst e3
  obtain ⟨oc, od, dt, sl⟩ := o
  simp only at h2 h3
  subst h2 h3
  exact PySem.W.kia_tup (PySem.W.kitx_exc (isSome_of C.hd) C.hg C.hk C.hs C.ha C.hn C.ht C.hm) I.kIn J h1 e (fun z => nomatch z) fun tk => ⟨.bl b, H, I.tok tk, rfl, q⟩
/-- e.f, e an exception -/
def tXg (K : PySem.W.Frag) (f : Str) (te : TE) : TE := fun σ H Q => te σ H fun x H1 => ∃ (a D dd : Addr) (fs : List (Str × V)) (v : V), x = .ref a ∧ Exc K H1 a D dd fs ∧ XfC K D ∧ PySem.W.findIn K (.ref D) f = some none ∧ fs.lookup f = some v ∧ Q v H1
theorem pe_xg {e : Expr} {te : TE} {pos : Pos} {n : Str} (he : PE X e te) (hb : attributeBase e n X.env (eval e X.env) = eval e X.env := by rfl) : PE X (.Attribute e n pos) (tXg X.K n te) := by
  refine ⟨fun pins s σ H Q I h => ?_⟩
  refine attr_of hb (thn (he.run pins s σ H _ I h) fun u s1 hh => ?_)
  obtain ⟨x, H1, I1, rx, a, D, dd, fs, v, ex, hx, T, hno, l, q⟩ := hh
  subst ex
  obtain rfl : u = Value.ref a := rx
  obtain ⟨oe, od, J, mA, hns, hr, hd, hod⟩ := exc_inst I1 hx
  obtain ⟨od2, ho, hl⟩ := lookIn_ns hns
  rw [hod] at ho; cases ho
  obtain ⟨u, hu, ru⟩ := RelO.some_of (v := v) (o := mA n) (by rw [← l]; exact hr n)
  exact HandSPX.exc_get I1.kIn J T.ga T.gg T.exC (PySem.W.findObj_own T.hdC hno rfl (by rw [hl, hu])) (handed_of ru) ⟨v, H1, I1.tok _, ru, q⟩
end
/-! ### raising -/
/-- what the making of an exception of the class at C asks: fl, the fields that __init__ sets, in their order -/
structure XMk (K : PySem.W.Frag) (C : Addr) (fl : List Str) : Prop where
  o : OexC K C
  nf : ∀ f ∈ fl, PySem.W.findIn K (.ref C) f = some none
/-- __init__(self, x, ..) that sets the fields fl -/
def spX (K : PySem.W.Frag) (fl : List Str) : Sp := fun vs H Q _ => ∃ (a C : Addr) (ys : List V), vs = .ref a :: ys ∧ ys.length = fl.length ∧ H a = some (exo a C none) ∧ XMk K C fl ∧ ∀ dx, H dx = none → dx ≠ a → Q .non (upd (upd H dx (exd dx (fl.zip ys).reverse)) a (exo a C (some dx)))
theorem spX_len {K : PySem.W.Frag} {fl : List Str} {vs : List V} {H : Hp} {Q : VK} {E : XK} (h : spX K fl vs H Q E) : vs.length = fl.length + 1 := by
  obtain ⟨a, C, ys, rfl, hl, _⟩ := h
  rw [List.length_cons, hl]
theorem spX_1 {K : PySem.W.Frag} {f p : Str} {vs : List V} {H : Hp} {Q : VK} {E : XK} (h : spX K [f] vs H Q E) : tOst K f (tVar 0) (tVar 1) { nx := fun _ H' => Q .non H', rt := Q } (start ["self", p] vs) H := by
  obtain ⟨a, C, ys, rfl, hl, ha, M, q⟩ := h
  match ys, hl with
  | [y], _ => exact ⟨y, rfl, .ref a, rfl, a, C, rfl, M.o, M.nf f (by simp), .inl ⟨ha, fun dx n ne => q dx n ne⟩⟩
theorem spX_2 {K : PySem.W.Frag} {f g p1 p2 : Str} {vs : List V} {H : Hp} {Q : VK} {E : XK} (h : spX K [f, g] vs H Q E) : tSeq (tOst K f (tVar 0) (tVar 1)) (tOst K g (tVar 0) (tVar 2)) { nx := fun _ H' => Q .non H', rt := Q } (start ["self", p1, p2] vs) H := by
  obtain ⟨a, C, ys, rfl, hl, ha, M, q⟩ := h
  match ys, hl with
  | [y, z], _ =>
    refine ⟨y, rfl, .ref a, rfl, a, C, rfl, M.o, M.nf f (by simp), .inl ⟨ha, fun dx n ne => ?_⟩⟩
    refine ⟨z, rfl, .ref a, rfl, a, C, rfl, M.o, M.nf g (by simp), .inr ⟨dx, [(f, y)], upd_same, by rw [upd_ne ne, upd_same], (by show 1 ≤ 900; decide), ?_⟩⟩
    have e : upd (upd (upd H dx (exd dx [(f, y)])) a (exo a C (some dx))) dx (exd dx [(g, z), (f, y)]) = upd (upd H dx (exd dx [(g, z), (f, y)])) a (exo a C (some dx)) := by
      funext b
      unfold upd
      by_cases c1 : b = dx
      · subst c1; simp [ne]
      · by_cases c2 : b = a
        · subst c2; simp [c1]
        · simp [c1, c2]
    show Q .non _
    rw [e]
    exact q dx n ne
theorem bindsD {K : PySem.W.Frag} {x qual : Str} {params : Arguments} {body : List Stmt} {scope : Scope} {kws : List (Str × V)} {f : Addr} {fd : FuncData} {ps : List Str} (F : FunD K x qual params body scope [] kws f fd)
    (h : ∀ (kV doc pm : Value) (an : Option Addr) (cdv ct : Value) (us : List Value), us.length = ps.length → bindArgs (PySem.W.fnOf x qual params body scope .none kV doc pm an cdv ct) ⟨us, []⟩ = pure (ps.zip us)) : L2.Binds K fd ps [] := by
  obtain ⟨oc, od, dV, kV, doc, pm, an, cdv, ct, osl, rfl, lk, hcd, hD, hK⟩ := F.ex
  rcases hD with ⟨_, rfl⟩ | ⟨e, _⟩
  · exact Binds.all fun us hl => h kV doc pm an cdv ct us hl
  · exact absurd rfl e
/-- raise C(e, ..) -/
def tRaiseX (K : PySem.W.Frag) (C : Addr) (fl : List Str) (ta : TA) (E : XK) : TS := fun _ σ H => tMkO C (spX K fl) [] ta σ H fun cls d H' => E cls d H'
theorem mkX_of {K : PySem.W.Frag} {C : Addr} {fl : List Str} {E : XK} {ys : List V} {H1 : Hp} (hl : ys.length = fl.length) (h9 : fl.length ≤ 900) (M : XMk K C fl) (q : ∀ dx, H1 dx = none → E (.ref C) (some dx) (upd H1 dx (.xd (fl.zip ys).reverse))) :
    ys.length ≤ 1000 ∧ ∀ a, H1 a = none → spX K fl (.ref a :: (ys ++ [])) (upd H1 a (exo a C none))
      (fun v H2 => v = .non ∧ ∃ (d : Addr) (fs : List (Str × V)), H2 a = some (exo a C (some d)) ∧ H2 d = some (exd d fs) ∧ H1 d = none ∧ E (.ref C) (some d) (upd (del H2 a) d (.xd fs))) (fun _ _ _ => False) := by
  refine ⟨by omega, fun a na => ?_⟩
  refine ⟨a, C, ys, by rw [List.append_nil], hl, upd_same, M, fun dx n ne => ⟨rfl, dx, (fl.zip ys).reverse, upd_same, ?_, ?_, ?_⟩⟩
  · rw [upd_ne ne, upd_same]
  · rw [upd_ne ne] at n; exact n
  · rw [upd_ne ne] at n
    have e2 : upd (del (upd (upd (upd H1 a (exo a C none)) dx (exd dx (fl.zip ys).reverse)) a (exo a C (some dx))) a) dx (.xd (fl.zip ys).reverse) = upd H1 dx (.xd (fl.zip ys).reverse) := by
      funext b
      unfold upd del
      by_cases c1 : b = dx
      · subst c1; simp
      · by_cases c2 : b = a
        · subst c2; simp [c1, na]
        · simp [c1, c2]
    rw [e2]
    exact q dx n
section
variable {X : Cx} {x : Str} {C fI : Addr} {k : Nat} {fd : FuncData} {ps fl : List Str} {e : Expr} {es : List Expr} {ta : TA} {E : XK} {p pos pos' : Pos}
theorem ps_raiseX (T : OexC X.K C) (iC : PySem.W.findIn X.K (.ref C) "__init__" = some (some (.ref fI))) (tI : PySem.W.typeIn X.K (.ref fI) = some (.type "function"))
    (F1 : FnOk X.prog X.w X.K X.mg X.base C8.CX0 k fI fd ps (spX X.K fl)) (hr : Room (k + 1) X.A) (hb : L2.Binds X.K fd ps []) (hg : Gl X x) (hm : X.mg x = some (.ref C)) (ha : PA X (e :: es) ta) (hc : X.calm = true) (tk : Takes X (fun c d _ H => E c d H))
    (hdb : (x == ("__debug__" : Str)) = false := by decide) (he : starEach (e :: es) X.env = (false, eval e X.env) :: starEach es X.env := by rfl) (hpl : (backTo pos (starEach es X.env)).any (·.1) = false := by rfl) :
    PS X (.Raise (some (.Call (.Name x p) (e :: es) [] pos)) none pos') (tRaiseX X.K C fl ta E) := by
  exact ps_raise hc tk (pmk_oex (sp := spX X.K fl) (dvs := []) (ds := []) T iC tI F1 hr hb .nil (CX := C8.CX0) C8.pass0 hg hm ha hdb he hpl)
end
/-! ### the def that hears what a lambda lets out: caught = v0; try: ask() / except DE as n: suite; rest -/
def ttH (K : PySem.W.Frag) (de : Addr) (i N j : Nat) (v0 : V) (ts trest : TS) (Ng : List Str) : (XK → Hp → VK → Prop) → Hp → VK → Prop := fun tl H Q => ∀ f : Addr,
  tl (fun cls d H' => ∀ σ', wOut K (.ref de) i N ts { nx := trest { nx := fun _ H' => Q .non H', rt := Q }, rt := Q } cls d σ' H') H (fun _ H' => trest { nx := fun _ H' => Q .non H', rt := Q } ((L2.start Ng [.ref f]).set j (some v0)) H')
theorem gives_heard {X : Cx} {Ng : List Str} {x a q de n : Str} {sg : Scope} {g De : Addr} {cdg : Value} {i j : Nat} {v0 : V} {asg b₀ : Stmt} {suite rest : List Stmt} {ts trest : TS} {p1 p2 p3 p4 p5 p6 : Pos} (hj : j ≠ 0) (hNg : Ng ≠ []) (hnd : Ng.Nodup) (hi : Ng[i]? = some n) (hln : sg.names.lookup n = some .local)
    (hge : sg.names.lookup de = some .globalImplicit) (hme : X.mg de = some (.ref De)) (hde : (de == ("__debug__" : Str)) = false)
    (h0 : ∀ s H, PS (cxOf C8.CX0 X.prog X.w X.K X.mg X.base Ng x sg g cdg X.A X.stack s H C8.E0).nox asg (tAsg (tC v0) (gName j)))
    (h1 : ∀ s H e, PSs (Rl.Cx.suit (cxOf C8.CX0 X.prog X.w X.K X.mg X.base Ng x sg g cdg X.A X.stack s H C8.E0).nox e) (b₀ :: suite) ts)
    (h2 : ∀ s H, PSs (cxOf C8.CX0 X.prog X.w X.K X.mg X.base Ng x sg g cdg X.A X.stack s H C8.E0).nox rest trest) :
    GivesTo X Ng x sg g cdg (asg :: .Try [.Expr (.Call (.Name a p1) [] [] p2) p3] [.ExceptHandler (some (.Name de p4)) (some n) (b₀ :: suite) p5] [] [] p6 :: rest) a q (ttH X.K De i Ng.length j v0 ts trest Ng) := by
  intro f c' s H Q tl act hc h
  have hgl : Gl (cxOf C8.CX0 X.prog X.w X.K X.mg X.base Ng x sg g cdg X.A X.stack s H C8.E0).nox de := hge
  refine ⟨_, pss_cons (h0 s H) (pss_cons (ps_try_out (X := (cxOf C8.CX0 X.prog X.w X.K X.mg X.base Ng x sg g cdg X.A X.stack s H C8.E0).nox) (c := .ref De) (i := i)
      (tb := fun W => tDrop (fun σ H Q => σ[0]? = some (some (.ref f)) ∧ H c' = some (CodeO c' q) ∧ tl (fun cls d H' => ∀ σ', W cls d σ' H') H Q))
      rfl rfl hnd hi hln hgl hme rfl (fun W pn xe tk => pss_one (ps_expr (act W pn xe (fun cls d H' => ∀ σ', W cls d σ' H') p1 p2 tk fun cls d σ' H' z => z σ'))) (h1 s H) hde) (h2 s H)), ?_⟩
  refine ⟨?_, hc, h f⟩
  rw [List.getElem?_set_ne hj]
  match Ng, hNg with
  | y :: ys, _ => rfl
end Rl

set_option Elab.async false
set_option linter.all false
set_option maxRecDepth 100000
set_option maxHeartbeats 4000000
/-! The top's facts of my own: staticmethods, special methods, isinstance, own equality. -/
namespace Rl
open PySem PySem.Spec PyProof.Rows L2
open He (ga ma eqO eqO_ok ba)
/-- where a def stands -/
inductive Loc where
  | top (x : Str) | meth (C m : Str) | stat (C m : Str)
/-- the record of a staticmethod, its def -/
def smRec (K : PySem.W.Frag) (C : Addr) (m : Str) : Addr := match PySem.W.findCls K (.ref C) (.type "type") m with
  | some (.get _ (.ref p) _ _) => p
  | _ => 0
def smDef (K : PySem.W.Frag) (C : Addr) (m : Str) : Addr := match PySem.W.recIn K (smRec K C m) "staticmethod" with
  | some (.ref g :: _) => g
  | _ => 0
def ad (K : PySem.W.Frag) : Loc → Addr
  | .top x => ga K x
  | .meth C m => ma K (ga K C) m
  | .stat C m => smDef K (ga K C) m
structure Df where
  loc : Loc
  name : Str
  qual : Str
  params : Arguments
  body : List Stmt
  scope : Scope
  dvs : List He.Dv := []
abbrev FnW : Type := Option (Str × Str × Arguments × FuncBody × Scope × Addr × List (Str × Addr) × Addr)
def fnW (K : PySem.W.Frag) (a : Addr) : FnW := match K.lookup a with
  | some ⟨_, _, .func fd, _⟩ => some (fd.name, fd.qualname, fd.params, fd.body, fd.scope, fd.globals, fd.closure, fd.builtins)
  | _ => none
def Df.val (d : Df) : FnW := some (d.name, d.qual, d.params, .stmts d.body, d.scope, mainGlobals, [], builtinsNs)
def Df.ok (K : PySem.W.Frag) (d : Df) : Bool := PySem.W.keepIn K (.ref (ad K d.loc)) && (match K.lookup (ad K d.loc) with
  | some ⟨_, _, .func fd, _⟩ => PySem.W.codeIn K fd.code d.qual && (He.dflB K fd.defaults (d.dvs.map (He.Dv.v K)) && He.kwdB K fd.kwdefaults [])
  | _ => false)
theorem Df.funD {K : PySem.W.Frag} {d : Df} (e : fnW K (ad K d.loc) = d.val) (c : d.ok K = true) : ∃ fd, FunD K d.name d.qual d.params d.body d.scope (d.dvs.map (He.Dv.v K)) [] (ad K d.loc) fd := by
  obtain ⟨kp, c2⟩ := ba c
  unfold fnW at e
  cases q : K.lookup (ad K d.loc) with
  | none =>
    rw [q] at c2
    cases c2
  | some o =>
    obtain ⟨oc, od, dt, osl⟩ := o
    rw [q] at c2 e
    cases dt with
    | func fd =>
      obtain ⟨n1, n2, n3, n4, n5, n6, n7, n8, n9, n10, n11, n12, n13, n14, n15⟩ := fd
      have e2 : (some (n1, n2, n3, n4, n5, n6, n7, n15) : FnW) = some (d.name, d.qual, d.params, .stmts d.body, d.scope, mainGlobals, [], builtinsNs) := e
      simp only [Option.some.injEq, Prod.mk.injEq] at e2
      obtain ⟨h1, h2, h3, h4, h5, h6, h7, h8⟩ := e2
      subst h1 h2 h3 h4 h5 h6 h7 h8
      have c3 : (PySem.W.codeIn K n13 d.qual && (He.dflB K n8 (d.dvs.map (He.Dv.v K)) && He.kwdB K n9 [])) = true := c2
      obtain ⟨k1, k2⟩ := ba c3
      obtain ⟨k3, k4⟩ := ba k2
      exact ⟨_, ⟨oc, od, n8, n9, n10, n11, n12, n13, n14, osl, rfl, q, k1, He.dflB_ok k3, He.kwdB_ok k4⟩, kp⟩
    | _ => cases c2
/-- an own exception class over ValueError -/
def oexB (K : PySem.W.Frag) (C : Addr) : Bool := (match K.lookup C with
  | some ⟨.type t, _, .cls cd, sl⟩ => (match cd.mro, sl.toList with
    | .ref C' :: bm, [_, _, _, _, some (.builtin n), _] => decide (t = "type") && (decide (C' = C) && (decide (n = "ValueError.__new__") && (cd.hasDict && (!cd.hasDel && PySem.HandSPX.refsVE bm))))
    | _, _ => false)
  | _ => false) && (eqO (PySem.W.findIn K (.ref C) "__setattr__") (some (some (.builtin "object.__setattr__"))) && (decide (PySem.W.subIn K (.ref C) (.type "BaseException") = some true) && (decide (PySem.W.typeIn K (.ref C) = some (.type "type")) && PySem.W.keepIn K (.ref C))))
theorem oexB_ok {K : PySem.W.Frag} {C : Addr} (c : oexB K C = true) : OexC K C := by
  obtain ⟨c1, c⟩ := ba c
  obtain ⟨c2, c⟩ := ba c
  obtain ⟨c3, c⟩ := ba c
  obtain ⟨c4, c5⟩ := ba c
  refine ⟨?_, eqO_ok c2, of_decide_eq_true c3, of_decide_eq_true c4, c5⟩
  split at c1
  · rename_i t dd cd sl ho
    split at c1
    · rename_i C' bm k0 k1 k2 k3 n k5 hm hs
      obtain ⟨d1, d⟩ := ba c1
      obtain ⟨d2, d⟩ := ba d
      obtain ⟨d3, d⟩ := ba d
      obtain ⟨d4, d⟩ := ba d
      obtain ⟨d5, d6⟩ := ba d
      have e1 := of_decide_eq_true d1
      have e2 := of_decide_eq_true d2
      have e3 := of_decide_eq_true d3
      obtain ⟨nm, bs, mro, ns, qn, hd, sn, sub, ab, col, del⟩ := cd
      dsimp only at hm d4 d5
      have e5 : del = false := by simpa using d5
      subst e1 e2 e3 hm d4 e5
      obtain ⟨l⟩ := sl
      have hs : l = [k0, k1, k2, k3, some (.builtin "ValueError.__new__"), k5] := hs
      subst hs
      exact ⟨nm, qn, ns, bs, bm, sn, sub, ab, col, dd, k0, k1, k2, k3, k5, ho, d6⟩
    · cases c1
  · cases c1
def xecB (K : PySem.W.Frag) (D : Addr) : Bool := eqO (PySem.W.findIn K (.ref D) "__getattribute__") (some (some (.builtin "BaseException.__getattribute__"))) && (eqO (PySem.W.findIn K (.ref D) "__getattr__") (some none) && (decide (PySem.W.subIn K (.ref D) (.type "BaseException") = some true) && (PySem.W.hasDictIn K D &&
  (eqO (PySem.W.findIn K (.ref D) "__class__") (some (some (.builtin "object.__class__"))) && (eqO (PySem.W.specialIn K (.builtin "object.__class__") "__get__") (some (some (.builtin "getset_descriptor.__get__"))) && (decide (PySem.W.takesIn K (.builtin "object.__class__") = some true) && decide (PySem.W.mroIn K D (.type "object") = some true)))))))
theorem xecB_ok {K : PySem.W.Frag} {D : Addr} (c : xecB K D = true) : ExcC K D := by
  obtain ⟨c1, c⟩ := ba c
  obtain ⟨c2, c⟩ := ba c
  obtain ⟨c3, c⟩ := ba c
  obtain ⟨c4, c⟩ := ba c
  obtain ⟨c5, c⟩ := ba c
  obtain ⟨c6, c⟩ := ba c
  obtain ⟨c7, c8⟩ := ba c
  exact ⟨eqO_ok c1, eqO_ok c2, of_decide_eq_true c3, c4, eqO_ok c5, eqO_ok c6, of_decide_eq_true c7, of_decide_eq_true c8⟩
/-- facts -/
inductive Fb where
  | he (f : He.Fa)
  | stm (C m : Str)
  | spm (C m : Str)
  | nem (C : Str)
  /-- an instance's type can be told -/
  | tyi (C : Str)
  /-- isinstance of a type, of an own class -/
  | kit (t : String) (C : Str) (b : Bool)
  | kitO (C C' : Str) (b : Bool)
  | kitT (C : Str) (t : String) (b : Bool)
  | nf (t : String) (C : Str)
  | nfO (C' C : Str)
  | tup (x : Str) (vs : List He.Dv)
  /-- an own exception class whose __init__ sets the fields fl, below the class de -/
  | xcl (C : Str) (fl : List Str) (de : Str)
  /-- its __init__ is that of Ci -/
  | xin (C Ci : Str)
  /-- the makers of lambdas have tables of their own -/
  | tdf (ms : List Str)
def Fb.ok (K : PySem.W.Frag) : Fb → Bool
  | .he f => f.ok K
  | .stm C m => PySem.W.readsIn K (ga K C) (.type "type") && (eqO (PySem.W.specialIn K (.ref (ga K C)) "__getattribute__") (some (some (.builtin "type.__getattribute__"))) && ((match PySem.W.findCls K (.ref (ga K C)) (.type "type") m with
      | some (.get g p n c) => decide (g = .builtin "staticmethod.__get__") && (decide (p = .ref (smRec K (ga K C) m)) && (decide (n = .none) && decide (c = .ref (ga K C))))
      | _ => false) && ((match PySem.W.recIn K (smRec K (ga K C) m) "staticmethod" with
      | some (g :: _) => decide (g = .ref (smDef K (ga K C) m))
      | _ => false) && PySem.W.keepIn K (.ref (smDef K (ga K C) m)))))
  | .spm C m => eqO (PySem.W.findIn K (.ref (ga K C)) m) (some (some (.ref (ma K (ga K C) m)))) && PySem.W.isFn K (.ref (ma K (ga K C) m))
  | .nem C => eqO (PySem.W.findIn K (.ref (ga K C)) "__ne__") (some (some (.builtin "object.__ne__"))) && decide (PySem.W.mroIn K (ga K C) (.type "object") = some true)
  | .tyi C => eqO (PySem.W.findIn K (.ref (ga K C)) "__class__") (some (some (.builtin "object.__class__"))) && (eqO (PySem.W.specialIn K (.builtin "object.__class__") "__get__") (some (some (.builtin "getset_descriptor.__get__"))) &&
      (decide (PySem.W.takesIn K (.builtin "object.__class__") = some true) && decide (PySem.W.mroIn K (ga K C) (.type "object") = some true)))
  | .kit t C b => decide (PySem.W.kitOne K (.type t) (.ref (ga K C)) = some b)
  | .kitO C C' b => decide (PySem.W.kitOne K (.ref (ga K C)) (.ref (ga K C')) = some b)
  | .kitT C t b => decide (PySem.W.kitOne K (.ref (ga K C)) (.type t) = some b)
  | .nf t C => PySem.W.notFirst K (ga K C) (.type t)
  | .nfO C' C => PySem.W.notFirst K (ga K C) (.ref (ga K C'))
  | .tup x vs => He.tupB K x vs
  | .xcl C fl de => oexB K (ga K C) && (fl.all (fun f => eqO (PySem.W.findIn K (.ref (ga K C)) f) (some none)) && (xecB K (ga K C) && (xfB K (ga K C) && decide (PySem.W.exmOne K (.ref (ga K C)) (.ref (ga K de)) = some true))))
  | .tdf ms => decide (ms.map fun m => (He.cT K (m, none)).2).Nodup
  | .xin C Ci => eqO (PySem.W.findIn K (.ref (ga K C)) "__init__") (some (some (.ref (ma K (ga K Ci) "__init__")))) && decide (PySem.W.typeIn K (.ref (ma K (ga K Ci) "__init__")) = some (.type "function"))
theorem stm_ok {K : PySem.W.Frag} {C m : Str} (c : (Fb.stm C m).ok K = true) : Stm K (ga K C) m (ad K (.stat C m)) := by
  obtain ⟨c1, c⟩ := ba c
  obtain ⟨c2, c⟩ := ba c
  obtain ⟨c3, c⟩ := ba c
  obtain ⟨c4, c5⟩ := ba c
  refine ⟨?_, c5⟩
  cases e : PySem.W.findCls K (.ref (ga K C)) (.type "type") m with
  | none => rw [e] at c3; cases c3
  | some o =>
    rw [e] at c3
    cases o with
    | get g p n c0 =>
      obtain ⟨d1, d⟩ := ba (show (decide (g = .builtin "staticmethod.__get__") && (decide (p = .ref (smRec K (ga K C) m)) && (decide (n = .none) && decide (c0 = .ref (ga K C))))) = true from c3)
      obtain ⟨d2, d⟩ := ba d
      obtain ⟨d3, d4⟩ := ba d
      have e1 := of_decide_eq_true d1
      have e2 := of_decide_eq_true d2
      have e3 := of_decide_eq_true d3
      have e4 := of_decide_eq_true d4
      cases q : PySem.W.recIn K (smRec K (ga K C) m) "staticmethod" with
      | none => rw [q] at c4; cases c4
      | some l =>
        rw [q] at c4
        cases l with
        | nil => cases c4
        | cons g2 rest =>
          have e5 := of_decide_eq_true (show decide (g2 = .ref (smDef K (ga K C) m)) = true from c4)
          refine ⟨.type "type", smRec K (ga K C) m, rest, c1, eqO_ok c2, ?_, ?_⟩
          · rw [e, e1, e2, e3, e4]
          · rw [q, e5]; rfl
    | _ => cases c3
theorem spm_ok {K : PySem.W.Frag} {C m : Str} (c : (Fb.spm C m).ok K = true) : Spm K (ga K C) m (ad K (.meth C m)) := by
  obtain ⟨c1, c2⟩ := ba c
  exact ⟨eqO_ok c1, c2⟩
theorem nem_ok {K : PySem.W.Frag} {C : Str} (c : (Fb.nem C).ok K = true) : Nem K (ga K C) := by
  obtain ⟨c1, c2⟩ := ba c
  exact ⟨eqO_ok c1, of_decide_eq_true c2⟩
theorem xcl_ok {K : PySem.W.Frag} {C de : Str} {fl : List Str} (c : (Fb.xcl C fl de).ok K = true) : XMk K (ga K C) fl ∧ ExcC K (ga K C) ∧ XfC K (ga K C) ∧ PySem.W.exmOne K (.ref (ga K C)) (.ref (ga K de)) = some true := by
  obtain ⟨c1, c⟩ := ba c
  obtain ⟨c2, c⟩ := ba c
  obtain ⟨c3, c⟩ := ba c
  obtain ⟨c4, c5⟩ := ba c
  exact ⟨⟨oexB_ok c1, fun f hf => eqO_ok (List.all_eq_true.mp c2 f hf)⟩, xecB_ok c3, xfB_ok c4, of_decide_eq_true c5⟩
theorem xin_ok {K : PySem.W.Frag} {C Ci : Str} (c : (Fb.xin C Ci).ok K = true) : PySem.W.findIn K (.ref (ga K C)) "__init__" = some (some (.ref (ad K (.meth Ci "__init__")))) ∧ PySem.W.typeIn K (.ref (ad K (.meth Ci "__init__"))) = some (.type "function") := by
  obtain ⟨c1, c2⟩ := ba c
  exact ⟨eqO_ok c1, of_decide_eq_true c2⟩
/-- what of an own class makes its instances' type known -/
structure Tyi (K : PySem.W.Frag) (C : Addr) : Prop where
  cl : Cls K C
  ha : PySem.W.findIn K (.ref C) "__class__" = some (some (.builtin "object.__class__"))
  hn : PySem.W.specialIn K (.builtin "object.__class__") "__get__" = some (some (.builtin "getset_descriptor.__get__"))
  ht : PySem.W.takesIn K (.builtin "object.__class__") = some true
  hm : PySem.W.mroIn K C (.type "object") = some true
theorem tyi_ok {K : PySem.W.Frag} {C : Str} (l : (Fb.he (.cls C)).ok K = true) (c : (Fb.tyi C).ok K = true) : Tyi K (ga K C) := by
  obtain ⟨c1, c⟩ := ba c
  obtain ⟨c2, c⟩ := ba c
  obtain ⟨c3, c4⟩ := ba c
  exact ⟨He.cls_ok l, eqO_ok c1, eqO_ok c2, of_decide_eq_true c3, of_decide_eq_true c4⟩
theorem Tyi.ty {K : PySem.W.Frag} {C a dx : Addr} {fs : List (Str × V)} {H : Hp} (t : Tyi K C) (h : H a = some (.ins C dx fs)) : TyX K H (.ref a) (.ref C) := .base (.ins h t.cl t.ha t.hn t.ht t.hm)
/-- the Hook -/
abbrev Al : Type := Bool × List FnW
def obsB (fa : List Fb) (fn : List Df) (K : PySem.W.Frag) : Al := ((fa.all fun f => f.ok K) && fn.all fun d => d.ok K, fn.map fun d => fnW K (ad K d.loc))
def valB (fn : List Df) : Al := (true, fn.map Df.val)
def SaysB (fa : List Fb) (fn : List Df) (K : PySem.W.Frag) : Prop := obsB fa fn K = valB fn
def obsBG (n : Nat) (fa : List Fb) (fn : List Df) (g : Addr → Option Obj) : Al := obsB fa fn (He.frG g (He.asD g n))
def hookB (n : Nat) (fa : List Fb) (fn : List Df) : PySem.W.Hook where
  α := Al
  obs := fun s => obsBG n fa fn s.heap.get?
  val := fun _ => valB fn
  says := fun _ h => ∃ K : PySem.W.Frag, K.In h ∧ SaysB fa fn K
  of := fun _ _ e => ⟨_, He.frG_in, e⟩
  keeps := fun _ _ _ ⟨K, hK, c⟩ k => ⟨K, PySem.W.Frag.In.keeps hK k, c⟩
theorem obsBG_eq {n : Nat} {fa : List Fb} {fn : List Df} {g : Addr → Option Obj} {s : Shared} (h : ∀ a, g a = s.heap.get? a) : obsBG n fa fn g = (hookB n fa fn).obs s := by
  have e : g = s.heap.get? := funext h
  rw [e] <;> rfl
section
variable {fa : List Fb} {fn : List Df} {K : PySem.W.Frag}
theorem SaysB.fact (c : SaysB fa fn K) (i : Nat) {f : Fb} (h : fa[i]? = some f := by rfl) : f.ok K = true := by
  have c1 := (ba (show ((fa.all fun f => f.ok K) && fn.all fun d => d.ok K) = true from congrArg (fun z : Al => z.1) c)).1
  exact List.all_eq_true.mp c1 f (List.mem_of_getElem? h)
theorem SaysB.def_ (c : SaysB fa fn K) (i : Nat) {d : Df} (h : fn[i]? = some d := by rfl) : ∃ fd, FunD K d.name d.qual d.params d.body d.scope (d.dvs.map (He.Dv.v K)) [] (ad K d.loc) fd := by
  have c2 := (ba (show ((fa.all fun f => f.ok K) && fn.all fun d => d.ok K) = true from congrArg (fun z : Al => z.1) c)).2
  have e : fn.map (fun d => fnW K (ad K d.loc)) = fn.map Df.val := congrArg (fun z : Al => z.2) c
  have e2 : (fn.map fun d => fnW K (ad K d.loc))[i]? = (fn.map Df.val)[i]? := by rw [e]
  rw [List.getElem?_map, List.getElem?_map, h] at e2
  exact Df.funD (Option.some.inj e2) (List.all_eq_true.mp c2 d (List.mem_of_getElem? h))
end
end Rl

set_option Elab.async false
set_option linter.all false
set_option maxRecDepth 100000
set_option maxHeartbeats 4000000
namespace Rl
open PySem PySem.Spec PyProof.Rows L2
/-- arguments by place, then defaults -/
theorem bnD {K : PySem.W.Frag} {x qual : Str} {params : Arguments} {body : List Stmt} {scope : Scope} {dvs : List V} {f : Addr} {fd : FuncData} {ps : List Str} (F : FunD K x qual params body scope dvs [] f fd) (n j : Nat) (hd : dvs ≠ []) (hn : n + (dvs.length - j) = ps.length)
    (h : ∀ (T : Addr) (kV doc pm : Value) (an : Option Addr) (cdv ct : Value) (us its : List Value), us.length = n → its.length = dvs.length →
      ∃ k, bindArgs (PySem.W.fnOf x qual params body scope (.ref T) kV doc pm an cdv ct) ⟨us, []⟩ = seqItems? (.ref T) >>= k ∧ k (some its.toArray) = pure (ps.zip (us ++ its.drop j))) :
    ∃ g, Bn K fd ps n [] g (fun vs _ => vs ++ dvs.drop j) := by
  obtain ⟨ds, r, b⟩ := F.binds1 n j hd hn h
  have hl : ds.length = dvs.length - j := by rw [← r.length, List.length_drop]
  refine ⟨fun us _ => us ++ ds, fun s us ws X h1 h2 => ?_, fun r1 _ => r1.append r⟩
  have e : ws = [] := List.eq_nil_of_length_eq_zero h2
  subst e
  exact b s us X (by rw [List.length_append, h1, hl]; exact hn)
/-- a call that lets nothing out -/
theorem passN {X : Cx} : Passes (L2.CX X.prog X.w) X C8.E0 := fun _ _ _ _ _ _ _ h => by
  obtain ⟨_, _, _, _, _, _, _, _, _, _, _, _, z⟩ := h
  exact z.elim
section
variable {K : PySem.W.Frag} {x qual : Str} {params : Arguments} {body : List Stmt} {scope : Scope} {dvs : List V} {kws : List (Str × V)} {f : Addr} {fd : FuncData} {ps N : List Str}
/-- a def's promise, its code object told -/
theorem okM {CX : CXT} {P : Program} {w : World} {mg : Str → Option Value} {base : Heap} {k : Nat} {sp : Sp} (F : FunD K x qual params body scope dvs kws f fd) (S : FnScope N ps scope) (len : ∀ vs H Q E, sp vs H Q E → vs.length = ps.length)
    (hbody : ∀ (c : Addr), fd.code = .ref c → ∀ (A : Around) (outer : List Env) (s : Shared) (H : Hp) (vs : List V) (Q : VK) (E : XK), Room k (A.deeper (envOfC qual scope s.heap.objs.size f (.ref c))) → sp vs H Q E →
      ∃ t, PSs (cxOf CX P w K mg base N qual scope f (.ref c) A outer s H E) body t ∧ t { nx := fun _ H' => Q .non H', rt := Q } (start N vs) H) : FnOk P w K mg base CX (k + 1) f fd ps sp := by
  obtain ⟨oc, od, dV, kV, doc, pm, an, cdv, ct, osl, rfl, lk, hcd, _, _⟩ := F.ex
  obtain ⟨c, rfl⟩ := He.codeIn_ref hcd
  exact fn_of lk hcd S len fun A outer s H vs Q E hr h => hbody c rfl A outer s H vs Q E hr h
theorem code_is {p : Str × Option Str} (F : FunD K x qual params body scope dvs kws (He.fAd K p) fd) {c : Addr} (e : fd.code = .ref c) : He.codeOf K p = c := by
  obtain ⟨oc, od, dV, kV, doc, pm, an, cdv, ct, osl, rfl, lk, hcd, _, _⟩ := F.ex
  exact He.codeOf_eq lk e
end
/-- the tables of the defs that make lambdas -/
def tabsL (K : PySem.W.Frag) (ms : List Str) : List (Addr × Str) := ms.map fun m => ((He.cT K (m, none)).2, (m ++ ".<locals>.") ++ "<lambda>")
theorem tabsL_mem {K : PySem.W.Frag} {ms : List Str} {m : Str} (h : ms.contains m = true) : ((He.cT K (m, none)).2, (m ++ ".<locals>.") ++ "<lambda>") ∈ tabsL K ms := List.mem_map.mpr ⟨m, List.contains_iff_mem.mp h, rfl⟩
theorem tabsL_uniq {K : PySem.W.Frag} : ∀ {ms : List Str} {m : Str}, (ms.map fun m => (He.cT K (m, none)).2).Nodup → ms.contains m = true → ∀ p ∈ tabsL K ms, p.1 = (He.cT K (m, none)).2 → p.2 = (m ++ ".<locals>.") ++ "<lambda>" := fun {ms m} nd hm p hp e => by
  obtain ⟨m', h1, rfl⟩ := List.mem_map.mp hp
  have e2 : m' = m := by
    have hm := List.contains_iff_mem.mp hm
    clear hp
    induction ms with
    | nil => cases h1
    | cons y ys ih =>
      rw [List.map_cons, List.nodup_cons] at nd
      rcases List.mem_cons.mp h1 with q1 | q1
      · rcases List.mem_cons.mp hm with q2 | q2
        · rw [q1, q2]
        · exact absurd (List.mem_map.mpr ⟨m, q2, (q1 ▸ e).symm⟩) nd.1
      · rcases List.mem_cons.mp hm with q2 | q2
        · exact absurd (List.mem_map.mpr ⟨m', q1, by rw [← q2]; exact e⟩) nd.1
        · exact ih nd.2 (List.contains_iff_mem.mpr q2) q1 q2
  rw [e2]
section
variable {X : Cx}
/-- f(lambda: body), f the def that hears -/
theorem pe_hear {T : List (Addr × Str)} {TT : (XK → Hp → VK → Prop) → Hp → VK → Prop} {x a : Str} {g c P : Addr} {k : Nat} {pg : Arguments} {bg : List Stmt} {sg : Scope} {fdg : FuncData} {Ng : List Str} {params : Arguments} {body : Expr} {scope : Scope} {t : XK → TE} {p lpos pos : Pos}
    (Fg : FunD X.K x x pg bg sg [] [] g fdg) (hg : Gl X x) (hm : X.mg x = some (.ref g))
    (hbA : ∀ (kV doc pm : Value) (an : Option Addr) (cdv ct : Value) (us : List Value), us.length = 1 → bindArgs (PySem.W.fnOf x x pg bg sg .none kV doc pm an cdv ct) ⟨us, []⟩ = pure ([a].zip us)) (Sg : FnScope Ng [a] sg) (hNg : Ng[0]? = some a) (hva : Vis sg a)
    (hG : ∀ cdg, LamX.GivesTo X Ng x sg g cdg bg a (X.env.qual ++ "<lambda>") TT) (TB : LamX.TabB X.base X.mg c P) (hcode : X.env.code = .ref c) (hmT : (P, X.env.qual ++ "<lambda>") ∈ T) (hu : ∀ p ∈ T, p.1 = P → p.2 = X.env.qual ++ "<lambda>") (hr : Room (k + 2) X.A) (L : LamX.LamS X.env.scope scope) (hdef : defaultsOf params X.env = ([], []))
    (hbind : ∀ (q : Str) (cl : List (Str × Addr)) (pm cv ctv : Value), bindArgs (PySem.W.kla_fn "<lambda>" q params body scope cl pm cv ctv) ⟨[], []⟩ = pure [])
    (hbody : ∀ (A : Around) (outer : List Env) (s : Shared) (H : Hp) (E : XK) (f c' : Addr), Room k (A.deeper (LamX.lamEnv X scope s.heap.objs.size f c')) → PE (LamX.lamCx X A outer s H E scope f c') body (t E))
    (hdb : (x == ("__debug__" : Str)) = false := by decide) (hd : (a == ("__debug__" : Str)) = false := by decide) (hcd : (a == ("__classdict__" : Str)) = false := by decide) :
    PE X (.Call (.Name x p) [.Lambda params body scope lpos] [] pos) (LamX.tLam T TT t) := by
  have kp := Fg.kp
  obtain ⟨oc, od, dV, kV, doc, pm, an, cdv, ct, osl, rfl, lk, hcd2, hD, hK⟩ := Fg.ex
  rcases hD with ⟨_, rfl⟩ | ⟨e, _⟩
  · exact LamX.pe_lamcall hg hm kp lk hcd2 (Binds.all fun us hl => hbA kV doc pm an cdv ct us hl) Sg hNg hva (hG cdv) TB hcode hmT hu hr L hdef hbind hbody hdb hd hcd
  · exact absurd rfl e
end
end Rl

set_option Elab.async false
set_option linter.all false
set_option maxRecDepth 100000
set_option maxHeartbeats 4000000
/-! One reading an operator, whatever the values. -/
namespace Rl
open PySem PySem.Spec PyProof.Rows L2
def qAdd (K : PySem.W.Frag) : R2 := fun x y H Q => rI0 (fun i j => .int (i + j)) x y H Q ∨ ((∃ i j, x = .str i ∧ y = .str j ∧ i.length + j.length ≤ sizeLine ∧ Q (.str (i ++ j)) H) ∨ (rCatR x y H Q ∨ rCatA K x y H Q))
def qSub : R2 := rI0 fun i j => .int (i - j)
def qMul : R2 := fun x y H Q => rI CMul (fun i j => .int (i * j)) x y H Q ∨ (rI CMulW (fun i j => .int (i * j)) x y H Q ∨ rRep x y H Q)
def qFd : R2 := fun x y H Q => rI CDivN (fun i j => .int (i.fdiv j)) x y H Q ∨ rI CDivW (fun i j => .int (i / j)) x y H Q
def qMd : R2 := fun x y H Q => rI (fun _ j => 0 < j) (fun i j => .int (i % j)) x y H Q ∨ rI (fun _ j => j ≠ 0) (fun i j => .int (i.fmod j)) x y H Q
def qPw : R2 := rI CPow fun i j => .int (i ^ j.toNat)
def qEq (K : PySem.W.Frag) : R2 := fun x y H Q => rEq x y H Q ∨ rEqD K x y H Q
def qNe (K : PySem.W.Frag) : R2 := fun x y H Q => rNe x y H Q ∨ rNeD K x y H Q
def qLt (K : PySem.W.Frag) : R2 := fun x y H Q => rI0 (fun i j => .bl (decide (i < j))) x y H Q ∨ rLtT K x y H Q
def qLe : R2 := rI0 fun i j => .bl (decide (i ≤ j))
def qGt : R2 := rI0 fun i j => .bl (decide (j < i))
def qGe : R2 := rI0 fun i j => .bl (decide (j ≤ i))
def rInDT (K : PySem.W.Frag) : R2 := fun x y H Q => ∃ d ds, Dp K H x d ∧ Dp K H y (.tuple ds) ∧ SeqAt.shaped d = true ∧ SeqAt.shaped (.tuple ds) = true ∧ Q (.bl (ds.any fun z => PyData.eqv z d)) H
def rNotInDT (K : PySem.W.Frag) : R2 := fun x y H Q => ∃ d ds, Dp K H x d ∧ Dp K H y (.tuple ds) ∧ SeqAt.shaped d = true ∧ SeqAt.shaped (.tuple ds) = true ∧ Q (.bl (!ds.any fun z => PyData.eqv z d)) H
theorem canT {ds : List PyData} (h : SeqAt.shaped (.tuple ds) = true) : PyData.canLayAll0 ds = true := SeqAt.canLay_of_shaped h
theorem op_inDT {X : Cx} (hu : X.A.units + 65 < cLine) : OpR X (compareOp .In) (rInDT X.K) := by
  intro pins s σ H x y v u Q I rx ry h
  obtain ⟨d, ds, hd, he, sd, se, q⟩ := h
  obtain ⟨as, r1⟩ := Dp.reads I d x v hd rx
  obtain ⟨bs, r2⟩ := Dp.reads I (.tuple ds) y u he ry
  exact SeqAt.in_tuple_reads r2 r1 (canT se) (SeqAt.canLay_of_shaped sd) (room_in_shaped sd hu) ⟨.bl _, H, I, rfl, q⟩
theorem op_notInDT {X : Cx} (hu : X.A.units + 65 < cLine) : OpR X (compareOp .NotIn) (rNotInDT X.K) := by
  intro pins s σ H x y v u Q I rx ry h
  obtain ⟨d, ds, hd, he, sd, se, q⟩ := h
  obtain ⟨as, r1⟩ := Dp.reads I d x v hd rx
  obtain ⟨bs, r2⟩ := Dp.reads I (.tuple ds) y u he ry
  exact SeqAt.notIn_tuple_reads r2 r1 (canT se) (SeqAt.canLay_of_shaped sd) (room_in_shaped sd hu) ⟨.bl _, H, I, rfl, q⟩
def qIn (K : PySem.W.Frag) : R2 := fun x y H Q => (∃ (c : Nat) (z : Str), x = .str ⟨#[c]⟩ ∧ y = .str z ∧ Q (.bl (decide (c ∈ z.cps.toList))) H) ∨ (rIn K false x y H Q ∨ ((∃ i j, x = .str i ∧ y = .str j ∧ Q (.bl (!(Builtin.Str.occurrences j i 0 j.length 1).isEmpty)) H) ∨ (rInD K x y H Q ∨ rInDT K x y H Q)))
def qNin (K : PySem.W.Frag) : R2 := fun x y H Q => (∃ (c : Nat) (z : Str), x = .str ⟨#[c]⟩ ∧ y = .str z ∧ Q (.bl (!decide (c ∈ z.cps.toList))) H) ∨ (rIn K true x y H Q ∨ ((∃ i j, x = .str i ∧ y = .str j ∧ Q (.bl (!(!(Builtin.Str.occurrences j i 0 j.length 1).isEmpty))) H) ∨ (rNotInD K x y H Q ∨ rNotInDT K x y H Q)))
def qIs : R2 := fun x y H Q => y = .non ∧ Q (.bl (decide (x = .non))) H
def qIsn : R2 := fun x y H Q => y = .non ∧ Q (.bl (!decide (x = .non))) H
section
variable {X : Cx}
theorem og_add : OpR X (binaryOp .Add) (qAdd X.K) := op_add.or (op_add_str.or (op_catR.or op_catA))
theorem og_sub : OpR X (binaryOp .Sub) qSub := op_sub
theorem og_mul : OpR X (binaryOp .Mult) qMul := op_mul.or (op_mulW.or op_rep)
theorem og_fd : OpR X (binaryOp .FloorDiv) qFd := op_fdivN.or op_fdivW
theorem og_md : OpR X (binaryOp .Mod) qMd := op_mod.or op_modN
theorem og_pw : OpR X (binaryOp .Pow) qPw := op_pow
theorem og_eq (hu : X.A.units + 64 < cLine) : OpR X (compareOp .Eq) (qEq X.K) := op_eq.or (op_eqD hu)
theorem og_ne (hu : X.A.units + 64 < cLine) : OpR X (compareOp .NotEq) (qNe X.K) := op_ne.or (op_neD hu)
theorem og_lt (hu : X.A.units < cLine) : OpR X (compareOp .Lt) (qLt X.K) := op_lt.or (op_ltT hu)
theorem og_le : OpR X (compareOp .LtE) qLe := op_le
theorem og_gt : OpR X (compareOp .Gt) qGt := op_gt
theorem og_ge : OpR X (compareOp .GtE) qGe := op_ge
theorem og_in (hu : X.A.units + 65 < cLine) : OpR X (compareOp .In) (qIn X.K) := op_in_sign.or (op_in_seq.or (op_in_str.or ((op_inD hu).or (op_inDT hu))))
theorem og_nin (hu : X.A.units + 65 < cLine) : OpR X (compareOp .NotIn) (qNin X.K) := op_notIn_sign.or (op_notIn_seq.or (op_notIn_str.or ((op_notInD hu).or (op_notInDT hu))))
theorem og_is : OpR X (compareOp .Is) qIs := op_isN
theorem og_isn : OpR X (compareOp .IsNot) qIsn := op_notN
/-- slices -/
def qSl (K : PySem.W.Frag) : V → Option Int → Option Int → Hp → VK → Prop := fun x lo hi H Q => rSlL K x lo hi H Q ∨ (rSlA K x lo hi H Q ∨ rSlS x lo hi H Q)
theorem sg_all : SlR X (qSl X.K) := sl_list.or (sl_tupA.or sl_str)
/-- what is walked: a list, a tuple -/
def iAny (K : PySem.W.Frag) (te : TE) : TI := fun σ H R => iList K te σ H R ∨ iTup K te σ H R
theorem pi_any {tg e : Expr} {te : TE} (h : PE X e te) : PI X tg e (iAny X.K te) := pi_or2 (pi_list h) (pi_tup h)
/-- calls of built-ins -/
def qLen (K : PySem.W.Frag) : List V → Hp → VK → Prop := fun xs H Q => ∃ x n, xs = [x] ∧ LenV K x H n ∧ Q (.int n) H
theorem cg_len : CallR X (.builtin "len") (qLen X.K) := call_len
def qInt : List V → Hp → VK → Prop := fun xs H Q => ((∃ i, xs = [.int i] ∧ Q (.int i) H) ∨ ∃ k, xs = [.bl k] ∧ Q (.int (if k then 1 else 0)) H) ∨ ∃ a n, xs = [.str a] ∧ PySem.intText? a = some n ∧ a.length ≤ 640 ∧ Q (.int n) H
theorem cg_int : CallR X (.type "int") qInt := Rl.CallR.or call_int1 call_int_str
def qStr : List V → Hp → VK → Prop := fun xs H Q => ∃ i, xs = [.int i] ∧ i.natAbs.log2 < 1920 ∧ Q (.str (toString i)) H
theorem cg_str : CallR X (.type "str") qStr := call_str_int
def qAbs : List V → Hp → VK → Prop := fun xs H Q => ∃ i, xs = [.int i] ∧ Q (.int (if i < 0 then -i else i)) H
theorem cg_abs : CallR X (.builtin "abs") qAbs := call_abs
def qMx (K : PySem.W.Frag) : List V → Hp → VK → Prop := fun xs H Q => (∃ i j, xs = [.int i, .int j] ∧ Q (.int (if j > i then j else i)) H) ∨ rMax K xs H Q
theorem cg_max (hc : X.calm = true) : CallR X (.builtin "max") (qMx X.K) := Rl.CallR.or (call_max2 hc) (cr_max hc)
def qMn (K : PySem.W.Frag) : List V → Hp → VK → Prop := fun xs H Q => (∃ i j, xs = [.int i, .int j] ∧ Q (.int (if j < i then j else i)) H) ∨ rMin K xs H Q
theorem cg_min (hc : X.calm = true) : CallR X (.builtin "min") (qMn X.K) := Rl.CallR.or (call_min2 hc) (cr_min hc)
theorem cg_sum (hc : X.calm = true) : CallR X (.builtin "sum") (rSum X.K) := cr_sum hc
theorem cg_all (hc : X.calm = true) : CallR X (.builtin "all") (rAll X.K) := cr_all hc
theorem cg_any (hc : X.calm = true) : CallR X (.builtin "any") (rAny X.K) := cr_any hc
def qTup (K : PySem.W.Frag) : List V → Hp → VK → Prop := fun xs H Q => ∃ p ys, xs = [.ref p] ∧ ((SqL K H p ys ∧ ∀ l, H l = none → Q (.ref l) (upd H l (.tup ys))) ∨ (SqT K H p ys ∧ Q (.ref p) H))
theorem cg_tuple : CallR X (.type "tuple") (qTup X.K) := call_tuple_of
def qLst (K : PySem.W.Frag) : List V → Hp → VK → Prop := fun xs H Q => ∃ p ys, xs = [.ref p] ∧ (SqL K H p ys ∨ SqT K H p ys) ∧ ∀ l, H l = none → Q (.ref l) (upd H l (.lst ys))
theorem cg_list : CallR X (.type "list") (qLst X.K) := call_list_of
def qIsi (K : PySem.W.Frag) : List V → Hp → VK → Prop := fun xs H Q => rIsi K xs H Q ∨ rIsiT K xs H Q
theorem cg_isi : CallR X (.builtin "isinstance") (qIsi X.K) := Rl.CallR.or call_isi call_isiT
/-- sep.join(xs) -/
def qJoin (K : PySem.W.Frag) : V → List V → Hp → VK → Prop := fun x xs H Q => ∃ a p, ∃ ys : List Str, x = .str a ∧ xs = [.ref p] ∧ (SqL K H p (ys.map V.str) ∨ SqT K H p (ys.map V.str)) ∧ (ys.map (·.length)).sum + ys.length * a.length ≤ 16777216 ∧ Q (.str (Txt.join a ys)) H
def qSplit : V → List V → Hp → VK → Prop := fun x xs H Q => ∃ a b, x = .str a ∧ xs = [.str b] ∧ (b.length == 0) = false ∧ a.length + 2 ≤ sizeLine ∧ rNewStrs (Txt.split a b) H Q
def qStarts : V → List V → Hp → VK → Prop := fun x xs H Q => ∃ a b, x = .str a ∧ xs = [.str b] ∧ Q (.bl (Txt.startswith a b)) H
def qBool : List V → Hp → VK → Prop := fun xs H Q => (∃ i, xs = [.int i] ∧ Q (.bl (i != 0)) H) ∨ ∃ k, xs = [.bl k] ∧ Q (.bl k) H
def orR2 (r r' : R2) : R2 := fun x y H Q => r x y H Q ∨ r' x y H Q
def orC (r r' : List V → Hp → VK → Prop) : List V → Hp → VK → Prop := fun xs H Q => r xs H Q ∨ r' xs H Q
def orE (t u : TE) : TE := fun σ H Q => t σ H Q ∨ u σ H Q
end
end Rl

set_option Elab.async false
set_option linter.all false
set_option maxRecDepth 100000
set_option maxHeartbeats 4000000
/-! More rules over the hand layer. -/
namespace Rl
open PySem PySem.Spec PyProof.Rows L2
def iSeq (K : PySem.W.Frag) (tl : TE) : TI := fun σ H R => tl σ H fun x H1 => ∃ a, x = .ref a ∧ (((∃ xs, SqL K H1 a xs) ∧ R (Itl K a) H1) ∨ ((∃ xs, SqT K H1 a xs) ∧ R (Itt K a) H1))
section
variable {X : Cx} {tg : Expr}
theorem pi_seq {l : Expr} {tl : TE} (hl : PE X l tl) : PI X tg l (iSeq X.K tl) := by
  refine ⟨fun pins s σ H R I h => ?_⟩
  refine thn (hl.run pins s σ H _ I h) fun v s1 ⟨x, H1, I1, r1, q1⟩ => ?_
  obtain ⟨a, e, q⟩ := q1
  subst e
  cases r1
  rcases q with ⟨⟨xs, hq⟩, q⟩ | ⟨⟨xs, hq⟩, q⟩
  · obtain ⟨its, rv, p, hz⟩ := I1.list hq
    refine wpAny_pyIter_list p.isList ?_
    refine ⟨s1.heap.objs.size, [s1.heap.objs.size], _, _, H1, rfl, I1.kept (t' := s1.toks) fun b o e => Heap.get?_push_of_some _ e, turn_list a _, ⟨_, Heap.get?_push_size _ rfl, rfl, rfl⟩, fun b hb => ?_, q⟩
    have e : b = s1.heap.objs.size := by simpa using hb
    subst e
    exact I1.fpOk (Nat.le_refl _) (I1.hok.fresh (Nat.le_refl _))
  · obtain ⟨its, rv, p, hz⟩ := I1.tuple hq
    refine wpAny_pyIter_tuple (show s1.heap.IsTuple a its.toArray from p) ?_
    refine ⟨s1.heap.objs.size, [s1.heap.objs.size], _, _, H1, rfl, I1.kept (t' := s1.toks) fun b o e => Heap.get?_push_of_some _ e, turn_tuple a _, ⟨_, Heap.get?_push_size _ rfl, rfl, rfl⟩, fun b hb => ?_, q⟩
    have e : b = s1.heap.objs.size := by simpa using hb
    subst e
    exact I1.fpOk (Nat.le_refl _) (I1.hok.fresh (Nat.le_refl _))
/-- min(t), max(t) of a tuple of ints -/
def rMinT (K : PySem.W.Frag) : List V → Hp → VK → Prop := fun vs H Q => ∃ (a : Addr) (ns : List Int), vs = [V.ref a] ∧ SqT K H a (ns.map V.int) ∧ 0 < ns.length ∧ ∀ m, m ∈ ns → (∀ y, y ∈ ns → m ≤ y) → Q (.int m) H
def rMaxT (K : PySem.W.Frag) : List V → Hp → VK → Prop := fun vs H Q => ∃ (a : Addr) (ns : List Int), vs = [V.ref a] ∧ SqT K H a (ns.map V.int) ∧ 0 < ns.length ∧ ∀ m, m ∈ ns → (∀ y, y ∈ ns → y ≤ m) → Q (.int m) H
theorem reads_ints {h : Heap} : ∀ {ns : List Int} {us : List Value}, Vals (ns.map V.int) us → ∃ as, ReadsAll h us (ns.map PyData.int) as
  | [], _, r => by
    cases r
    exact ⟨[], .nil⟩
  | n :: ns, _, r => by
    cases r with
    | cons a b =>
      obtain ⟨t, rfl⟩ := a
      obtain ⟨as, q⟩ := reads_ints b
      exact ⟨_, .cons (.int n t) q⟩
theorem foldl_min_mem : ∀ (ns : List Int) (n : Int), ns.foldl min n ∈ n :: ns ∧ ∀ y ∈ n :: ns, ns.foldl min n ≤ y
  | [], n => ⟨by simp, fun y hy => by simp at hy; subst hy; exact Int.le_refl _⟩
  | k :: ns, n => by
    obtain ⟨h1, h2⟩ := foldl_min_mem ns (min n k)
    rw [List.foldl_cons]
    refine ⟨?_, fun y hy => ?_⟩
    · rcases List.mem_cons.mp h1 with e | e
      · rw [e]
        rcases Int.le_total n k with q | q
        · rw [show min n k = n by omega]; simp
        · rw [show min n k = k by omega]; simp
      · exact List.mem_cons_of_mem _ (List.mem_cons_of_mem _ e)
    · have h3 := h2 (min n k) (by simp)
      rcases List.mem_cons.mp hy with e | e
      · subst e; omega
      · rcases List.mem_cons.mp e with e | e
        · subst e; omega
        · exact h2 y (List.mem_cons_of_mem _ e)
theorem foldl_max_mem : ∀ (ns : List Int) (n : Int), ns.foldl max n ∈ n :: ns ∧ ∀ y ∈ n :: ns, y ≤ ns.foldl max n
  | [], n => ⟨by simp, fun y hy => by simp at hy; subst hy; exact Int.le_refl _⟩
  | k :: ns, n => by
    obtain ⟨h1, h2⟩ := foldl_max_mem ns (max n k)
    rw [List.foldl_cons]
    refine ⟨?_, fun y hy => ?_⟩
    · rcases List.mem_cons.mp h1 with e | e
      · rw [e]
        rcases Int.le_total n k with q | q
        · rw [show max n k = k by omega]; simp
        · rw [show max n k = n by omega]; simp
      · exact List.mem_cons_of_mem _ (List.mem_cons_of_mem _ e)
    · have h3 := h2 (max n k) (by simp)
      rcases List.mem_cons.mp hy with e | e
      · subst e; omega
      · rcases List.mem_cons.mp e with e | e
        · subst e; omega
        · exact h2 y (List.mem_cons_of_mem _ e)
theorem reads_int_of {h : Heap} {v : Value} {n : Int} {bs : List Addr} (r : Reads h v (.int n) bs) : ∃ t, v = .int n t := by
  cases r with
  | int i t => exact ⟨t, rfl⟩
theorem cr_minT (hc : X.calm = true) (hu : X.A.units + 64 < cLine) : CallR X (.builtin "min") (rMinT X.K) := by
  intro pins s σ H vs us Q I r h
  obtain ⟨a, ns, rfl, hs, hne, q⟩ := h
  obtain ⟨its, rv, hl, _⟩ := I.tuple hs
  rw [Vals.ref1 r]
  obtain ⟨as, rd⟩ := reads_ints (h := s.heap) rv
  cases ns with
  | nil => simp at hne
  | cons n ns =>
    have key := foldl_min_mem ns n
    refine PySem.W.min_tuple_data (x := .int n) (xs := ns.map .int) (I.ok.hd hc) (show s.heap.IsTuple a its.toArray from hl) rd (PySem.W.alikeAll_datum (α := Int) (n :: ns)) ?_ fun i v h' tk bs hi rr hk => ?_
    · have e : PyData.depthAll ((n :: ns).map PyData.int) = 0 := by
        have : ∀ l : List Int, PyData.depthAll (l.map PyData.int) = 0 := fun l => by induction l <;> simp_all [PyData.depthAll, PyData.depth]
        exact this _
      have e2 : PyData.depthAll (PyData.int n :: ns.map PyData.int) = 0 := e
      rw [e2]; omega
    · rw [PySem.W.minD_ints] at rr
      obtain ⟨t, rfl⟩ := reads_int_of rr
      exact ⟨.int _, H, I.kept hk, ⟨_, rfl⟩, q _ key.1 key.2⟩
theorem cr_maxT (hc : X.calm = true) (hu : X.A.units + 64 < cLine) : CallR X (.builtin "max") (rMaxT X.K) := by
  intro pins s σ H vs us Q I r h
  obtain ⟨a, ns, rfl, hs, hne, q⟩ := h
  obtain ⟨its, rv, hl, _⟩ := I.tuple hs
  rw [Vals.ref1 r]
  obtain ⟨as, rd⟩ := reads_ints (h := s.heap) rv
  cases ns with
  | nil => simp at hne
  | cons n ns =>
    have key := foldl_max_mem ns n
    refine PySem.W.max_tuple_data (x := .int n) (xs := ns.map .int) (I.ok.hd hc) (show s.heap.IsTuple a its.toArray from hl) rd (PySem.W.alikeAll_datum (α := Int) (n :: ns)) ?_ fun i v h' tk bs hi rr hk => ?_
    · have e : PyData.depthAll ((n :: ns).map PyData.int) = 0 := by
        have : ∀ l : List Int, PyData.depthAll (l.map PyData.int) = 0 := fun l => by induction l <;> simp_all [PyData.depthAll, PyData.depth]
        exact this _
      have e2 : PyData.depthAll (PyData.int n :: ns.map PyData.int) = 0 := e
      rw [e2]; omega
    · rw [PySem.W.maxD_ints] at rr
      obtain ⟨t, rfl⟩ := reads_int_of rr
      exact ⟨.int _, H, I.kept hk, ⟨_, rfl⟩, q _ key.1 key.2⟩
def qMnT (K : PySem.W.Frag) : List V → Hp → VK → Prop := orC (qMn K) (rMinT K)
def qMxT (K : PySem.W.Frag) : List V → Hp → VK → Prop := orC (qMx K) (rMaxT K)
theorem cg_minT (hc : X.calm = true) (hu : X.A.units + 64 < cLine) : CallR X (.builtin "min") (qMnT X.K) := Rl.CallR.or (cg_min hc) (cr_minT hc hu)
theorem cg_maxT (hc : X.calm = true) (hu : X.A.units + 64 < cLine) : CallR X (.builtin "max") (qMxT X.K) := Rl.CallR.or (cg_max hc) (cr_maxT hc hu)
/-- is True, is False -/
def qIsB : R2 := fun x y H Q => ∃ b, y = .bl b ∧ Q (.bl (decide (x = .bl b))) H
def qIsnB : R2 := fun x y H Q => ∃ b, y = .bl b ∧ Q (.bl (!decide (x = .bl b))) H
theorem is_bool_gen {M : Model} {A : Around} {E : Value → Shared → Prop} {s : Shared} {Q : Value → Shared → Prop} {v : Value} {b : Bool} (hv : ∀ id, v ≠ .builtin id) (h : Q (.bool (v == .bool b)) s) : wpAny M A (compareOp .Is v (.bool b)) Q E s := by
  cases v <;> first | exact wpAny_pure h | exact absurd rfl (hv _)
theorem isn_bool_gen {M : Model} {A : Around} {E : Value → Shared → Prop} {s : Shared} {Q : Value → Shared → Prop} {v : Value} {b : Bool} (hv : ∀ id, v ≠ .builtin id) (h : Q (.bool (!(v == .bool b))) s) : wpAny M A (compareOp .IsNot v (.bool b)) Q E s := by
  cases v <;> first | exact wpAny_pure h | exact absurd rfl (hv _)
theorem relv_nb {x : V} {v : Value} (r : RelV x v) : ∀ id, v ≠ .builtin id := fun id e => by
  subst e
  cases x <;> first | (obtain ⟨t, h⟩ := r; cases h) | cases r
theorem relv_bl {x : V} {v : Value} {b : Bool} (r : RelV x v) : (v == .bool b) = decide (x = .bl b) := by
  cases x <;> first
    | (cases r; rfl)
    | (obtain ⟨t, rfl⟩ := r; rfl)
    | (cases r; rename_i c; cases c <;> cases b <;> rfl)
theorem og_isB : OpR X (compareOp .Is) qIsB := by
  intro pins s σ H x y v u Q I rx ry h
  obtain ⟨b, rfl, q⟩ := h
  cases ry
  refine is_bool_gen (relv_nb rx) ?_
  rw [relv_bl rx]
  exact ⟨.bl _, H, I, rfl, q⟩
theorem og_isnB : OpR X (compareOp .IsNot) qIsnB := by
  intro pins s σ H x y v u Q I rx ry h
  obtain ⟨b, rfl, q⟩ := h
  cases ry
  refine isn_bool_gen (relv_nb rx) ?_
  rw [relv_bl rx]
  exact ⟨.bl _, H, I, rfl, q⟩
end
end Rl

set_option Elab.async false
set_option linter.all false
set_option maxRecDepth 100000
set_option maxHeartbeats 4000000
/-! x[::-1] of a list or a tuple; t * n. -/
namespace Rl
open PySem PySem.Spec PyProof.Rows L2
section
variable {prog : Program} {w : World} {A : Around} {E : Value → Shared → Prop} {s : Shared}
theorem pick_rev (xs : Array Value) : ((List.range xs.size).filterMap fun (m : Nat) => xs[(((xs.size : Int) - 1) + (m : Int) * (-1)).toNat]?).toArray = xs.toList.reverse.toArray := by
  have key : (List.range xs.size).filterMap (fun (m : Nat) => xs[(((xs.size : Int) - 1) + (m : Int) * (-1)).toNat]?) = xs.toList.reverse := by
    have e1 : xs.toList.reverse = (List.range xs.size).map fun m => xs.toList.reverse.getD m .none := by
      refine List.ext_getElem? fun i => ?_
      rw [List.getElem?_map]
      by_cases hi : i < xs.size
      · rw [List.getElem?_range hi, Option.map_some, List.getD_eq_getElem?_getD, List.getElem?_eq_getElem (by simpa using hi)]
        rfl
      · rw [List.getElem?_eq_none (by simpa using hi), List.getElem?_eq_none (by simpa using hi)]
        rfl
    rw [e1]
    have : ∀ l : List Nat, (∀ m ∈ l, m < xs.size) → l.filterMap (fun (m : Nat) => xs[(((xs.size : Int) - 1) + (m : Int) * (-1)).toNat]?) = l.map fun m => xs.toList.reverse.getD m .none := fun l => by
      induction l with
      | nil => intro _; rfl
      | cons m l ih =>
        intro h
        have hm := h m (by simp)
        have e2 : (((xs.size : Int) - 1) + (m : Int) * (-1)).toNat = xs.size - 1 - m := by omega
        have e3 : xs[xs.size - 1 - m]? = some (xs.toList.reverse.getD m .none) := by
          rw [List.getD_eq_getElem?_getD, List.getElem?_reverse (by simpa using hm), Array.getElem?_eq_getElem (by omega), Array.length_toList, List.getElem?_eq_getElem (by rw [Array.length_toList]; omega)]
          rfl
        rw [List.filterMap_cons, e2, e3, List.map_cons, ih fun k hk => h k (List.mem_cons_of_mem _ hk)]
    exact this _ fun m hm => List.mem_range.mp hm
  rw [key]
theorem adjust_rev (n : Nat) : Builtin.Slice.sliceAdjust none none (-1) (n : Int) = ((n : Int) - 1, -1) := rfl
theorem places_rev (n : Nat) : Builtin.Slice.slicePlaces ((n : Int) - 1) (-1) (-1) = n := by
  unfold Builtin.Slice.slicePlaces
  have h1 : ¬ ((-1 : Int) > 0) := by omega
  simp only [h1, if_false, Int.neg_neg, Int.ediv_one]
  split <;> omega
theorem getItem_tuple_rev {t sl : Addr} {items : Array Value} {u : Tok} {Q : Value → Shared → Prop} (ht : IsTup s.heap t items) (hs : s.heap.IsSliceOf sl .none .none (.int (-1) u)) (hsz : items.size ≤ sizeLine)
    (h : Q (.ref s.heap.objs.size) { s with heap := s.heap.push { cls := .type "tuple", data := .seq items.toList.reverse.toArray } }) : wpAny (model prog w) A (getItem (.ref t) (.ref sl)) Q E s := by
  have htake : sizeOk (.seq items.toList.reverse.toArray) := by
    show items.toList.reverse.toArray.size ≤ sizeLine
    rw [List.size_toArray, List.length_reverse, Array.length_toList]
    exact hsz
  obtain ⟨os, hos, hcs, hds⟩ := id hs
  have hTs : s.TypeIs (.ref sl) "slice" := ⟨os, hos, hcs⟩
  unfold getItem
  try with_reducible refine wpAny_holding ?_
  first | refine wpAny_bind (wpAny_pure ?_) | skip
  refine wpAny_bind (wpAny_sequenceKey ht.typeIs (by decide) ?_)
  refine wpAny_bind (wpAny_callSpecial?_slot (name := Str.ofString "__getitem__") ht.typeIs PyProof.Rows.slot_tuple_getitem
    (wpAny_call_entry PyProof.Rows.slot_tuple_getitem ht.typeIs entry_tuple_getitem ?_ (args_tuple_getitem _ _)))
  show wpAny _ _ (Builtin.Tuple.tupleItemsOf (.ref t) >>= _) _ _ s
  refine wpAny_bind (tupleItemsOf_ ht ?_)
  refine wpAny_bind (wpAny_typeOf hTs ?_)
  rw [if_pos (by decide)]
  have applied : ∀ {A : Around} {E : Value → Shared → Prop} {Q : Int × Int × Nat → Shared → Prop}, Q ((items.size : Int) - 1, -1, items.size) s → wpAny (model prog w) A (Builtin.Slice.sliceApplied (.ref sl) (pure (items.size : Int))) Q E s := fun {A E Q} h => by
    unfold Builtin.Slice.sliceApplied Builtin.Slice.sliceFields
    refine wpAny_bind (wpAny_bind (wpAny_field hos hds (x := .none) rfl (wpAny_bind (wpAny_field hos hds (x := .none) rfl (wpAny_bind (wpAny_field hos hds (x := .int (-1) u) rfl (wpAny_pure ?_)))))))
    refine wpAny_bind (slicePart_int ?_)
    show wpAny _ _ (if ((-1 : Int) == 0) = true then _ else _) _ _ s
    rw [if_neg (by decide)]
    refine wpAny_bind (slicePart_none (wpAny_bind (slicePart_none (wpAny_bind (wpAny_pure ?_)))))
    show wpAny _ _ (match Builtin.Slice.sliceAdjust none none (-1) (items.size : Int) with | (lo, hi) => pure (lo, (-1 : Int), Builtin.Slice.slicePlaces lo hi (-1))) _ _ s
    rw [adjust_rev]
    show wpAny _ _ (pure (((items.size : Int) - 1), (-1 : Int), Builtin.Slice.slicePlaces ((items.size : Int) - 1) (-1) (-1))) _ _ s
    rw [places_rev]
    exact wpAny_pure h
  refine wpAny_bind (applied ?_)
  have hno : ¬ (((((items.size : Int) - 1 : Int)) == 0 && (-1 : Int) == 1 && items.size == items.size) = true) := by
    intro q
    rw [Bool.and_eq_true, Bool.and_eq_true] at q
    exact absurd q.1.2 (by decide)
  show wpAny _ _ (if ((((items.size : Int) - 1 : Int)) == 0 && (-1 : Int) == 1 && items.size == items.size) = true then _ else _) _ _ s
  rw [if_neg hno, pick_rev]
  first
    | exact wpAny_bind (m := Builtin.Tuple.tupleExact _) (wpAny_newObj_type (wpAny_pure ⟨_, rfl, wpAny_pure h⟩) htake)
    | exact wpAny_bind (m := Builtin.Tuple.tupleExact _) (wpAny_newObj_type (wpAny_bind (wpAny_pure (wpAny_pure ⟨_, rfl, wpAny_pure h⟩))) htake)
    | exact wpAny_bind (wpAny_bind (m := Builtin.Tuple.tupleExact _) (wpAny_newObj_type (wpAny_pure (wpAny_pure ⟨_, rfl, wpAny_pure h⟩)) htake))
    | exact wpAny_bind (wpAny_bind (m := Builtin.Tuple.tupleExact _) (wpAny_newObj_type (wpAny_pure ⟨_, rfl, wpAny_pure h⟩) htake))
end
def tRevA (K : PySem.W.Frag) (te : TE) : TE := fun σ H Q => te σ H fun x H1 => ∃ a xs, x = .ref a ∧ ((SqL K H1 a xs ∧ ∀ p, H1 p = none → Q (.ref p) (upd H1 p (.lst xs.reverse))) ∨ (SqT K H1 a xs ∧ ∀ p, H1 p = none → Q (.ref p) (upd H1 p (.tup xs.reverse))))
theorem pe_revA {X : Cx} {e : Expr} {te : TE} {k : Nat} {p1 p2 p3 pos : Pos} (he : PE X e te) : PE X (.Subscript e (.Slice none none (some (.UnaryOp .USub (.Constant (.int 1) k p1) p2)) p3) pos) (tRevA X.K te) := by
  refine ⟨fun pins s σ H Q I h => ?_⟩
  refine Subscript_ (thn (he.run pins s σ H _ I h) fun v s1 ⟨x, H1, I1, r1, q1⟩ => ?_)
  obtain ⟨a, xs, ex, q⟩ := q1
  subst ex
  cases r1
  have hst : PO X (some (.UnaryOp .USub (.Constant (.int 1) k p1) p2)) (tPart (tUn (rU fun i => .int (-i)) (tC (.int 1)))) := po_some (pe_un un_neg pe_int)
  refine wpAny_Slice (thn (po_none.run pins s1 σ H1 (fun o H2 => o = none ∧ H2 = H1) I1 ⟨rfl, rfl⟩) fun vl s2 ⟨l, H2, I2, pl, el, e2⟩ => ?_)
  subst el e2
  refine thn (po_none.run pins s2 σ H2 (fun o H3 => o = none ∧ H3 = H2) I2 ⟨rfl, rfl⟩) fun vu s3 ⟨u, H3, I3, pu, eu, e3⟩ => ?_
  subst eu e3
  refine thn (hst.run pins s3 σ H3 (fun o H4 => o = some (-1) ∧ H4 = H3) I3 ⟨1, rfl, -1, rfl, rfl, rfl⟩) fun vs s4 ⟨o, H4, I4, ps, eo, e4⟩ => ?_
  subst eo e4
  have I5 : Inv X pins σ H4 { s4 with heap := s4.heap.push { cls := .type "slice", data := .fields #[vl, vu, vs] } } := I4.kept (t' := s4.toks) fun b ob q => Heap.get?_push_of_some _ q
  show wpAny (model X.prog X.w) X.A (subscriptTail e (.Slice none none (some (.UnaryOp .USub (.Constant (.int 1) k p1) p2)) p3) (.ref a) (.ref s4.heap.objs.size)) (EP X pins σ Q) X.xe { s4 with heap := s4.heap.push { cls := .type "slice", data := .fields #[vl, vu, vs] } }
  rcases q with ⟨hx, q⟩ | ⟨hx, q⟩
  · obtain ⟨its, r, ht, hz⟩ := I5.list hx
    have hlen := r.length
    refine tail_any (ops := [.ref a, .ref s4.heap.objs.size]) ht.isList.typeIs (PySem.slot_list_getitem.lookup) ?_ (by with_unfolding_all rfl)
    refine wpAny_getItem_list_slice ht.isList (Heap.IsSliceOf.new _ vl vu vs) pl pu ps (by decide) ?_ (by rw [List.size_toArray]; omega)
    rw [PySem.W.krv_pick]
    refine ⟨.ref _, _, I5.laid (t' := s4.toks) (o := .lst xs.reverse) (fun b ob q => Heap.get?_push_of_some _ q) (Nat.le_refl _) ?_, rfl, q _ (I5.hok.fresh (Nat.le_refl _))⟩
    exact ⟨by rw [List.length_reverse]; exact hz, _, 0, r.reverse, Heap.get?_push_size _ rfl⟩
  · obtain ⟨its, r, ht, hz⟩ := I5.tuple hx
    have hlen := r.length
    cases pl
    cases pu
    cases ps with
    | int _ tk =>
      refine tail_any (ops := [.ref a, .ref s4.heap.objs.size]) (T := "tuple") ht.typeIs (PyProof.Rows.slot_tuple_getitem.lookup) ?_ (by with_unfolding_all rfl)
      refine getItem_tuple_rev ht (Heap.IsSliceOf.new _ _ _ _) (by rw [List.size_toArray]; omega) ?_
      refine ⟨.ref _, _, I5.laid (t' := s4.toks) (o := .tup xs.reverse) (fun b ob q => Heap.get?_push_of_some _ q) (Nat.le_refl _) ?_, rfl, q _ (I5.hok.fresh (Nat.le_refl _))⟩
      exact ⟨by rw [List.length_reverse]; exact hz, _, r.reverse, IsTup.new _ _⟩
theorem tuple_mulW1 (l : Addr) (items : Array Value) (n : Nat) (dd : Option Addr) (sl : Array (Option Value)) (x : Int) (u : Tok) (c0 : (decide (x < -(2 ^ 63)) || decide (x ≥ 2 ^ 63)) = false) (c1 : (items.isEmpty || x == 1) = true) :
    Meets (Builtin.«tuple.__mul__» ⟨[.ref l, .int x u], []⟩) (fun _ R s => s.heap.get? l = some { cls := .type "tuple", dict := dd, data := .seq items n, slots := sl } ∧
      R (.ok (.ret (Value.ref l))) s) :=
  .of_wp fun prog w A R s h => by
    obtain ⟨hp, g, d, tk, os⟩ := s
    obtain ⟨hl, h⟩ := h
    have f1 := AutoSeq1.idx_int
    wp_walk using wpAny_loadPart' hl
    repeat (first
      | (refine wpAny_ite_false (decide_eq_false (by rw [c0]; exact Bool.false_ne_true)) ?_; wp_walk using wpAny_loadPart' hl)
      | (refine wpAny_ite_true (decide_eq_true c1) ?_; wp_walk using wpAny_loadPart' hl))
    exact ⟨_, rfl, h⟩
def rRepT1 (K : PySem.W.Frag) : R2 := fun x y H Q => ∃ l xs, x = .ref l ∧ y = .int 1 ∧ SqT K H l xs ∧ Q (.ref l) H
theorem op_repT1 {X : Cx} : OpR X (binaryOp .Mult) (rRepT1 X.K) := by
  intro pins s σ H x y v u Q I rx ry h
  obtain ⟨l, xs, rfl, rfl, hT, q⟩ := h
  cases rx
  obtain ⟨t, rfl⟩ := ry
  obtain ⟨its, r, ⟨⟨cls, dd, data, sl⟩, ho, hc, n, hd⟩, hs⟩ := I.tuple hT
  simp only at hc hd
  subst hc hd
  have c0 : (decide ((1 : Int) < -(2 ^ 63)) || decide ((1 : Int) ≥ 2 ^ 63)) = false := by decide
  have c1 : (its.toArray.isEmpty || (1 : Int) == 1) = true := by simp
  refine wpAny_binaryOp_repeat_ref (T := "tuple") (U := "int") (by decide) ⟨_, ho, rfl⟩ (fun s' => typeIs_int s' 1 t) noFill_tuple_mul F.fills_int_mul F.slot_int_rmul repeat_tuple F.slot_int_index.lookup
    (call_meets F.slot_int_rmul (typeIs_int s 1 t) F.entry_int_rmul (F.args_int_rmul_2 _ _) (int_rmul_tuple 1 t l its.toArray n dd sl)
      ⟨ho, rfl, ⟨_, ho, rfl⟩, call_meets F.slot_tuple_mul ⟨_, ho, rfl⟩ F.entry_tuple_mul (F.args_tuple_mul_2 _ _) (tuple_mulW1 l its.toArray n dd sl 1 t c0 c1) ⟨ho, ?_⟩⟩)
  exact ⟨.ref l, _, I, rfl, q⟩
theorem rm65 {k : Nat} {A : Around} (r : Room k A) : A.units + 65 < cLine := by have := r.un; omega
def qMulT (K : PySem.W.Frag) : R2 := orR2 qMul (orR2 (rRepT K) (rRepT1 K))
theorem og_mulT {X : Cx} : OpR X (binaryOp .Mult) (qMulT X.K) := OpR.or og_mul (OpR.or op_repT op_repT1)
end Rl

set_option Elab.async false
set_option linter.all false
set_option maxRecDepth 100000
set_option maxHeartbeats 4000000
/-! Tuples of whole numbers whose methods are called: tracked as known objects. -/
namespace RT
open PySem PySem.Spec PyProof.Rows L2 Rl RZ
section
variable {X : Cx}
theorem ints_are : ∀ {ns : List Int} {us : List Value}, Vals (ns.map V.int) us → IntsAre us ns
  | [], _, h => by cases h; exact .nil
  | n :: ns, _, h => by
    cases h with
    | cons r t =>
      obtain ⟨q, rfl⟩ := r
      exact .cons n q (ints_are t)
def rIndexT (K : PySem.W.Frag) : V → List V → Hp → VK → Prop := fun x xs H Q => ∃ (a : Addr) (ns : List Int) (k : Int), x = .ref a ∧ xs = [.int k] ∧ SqT K H a (ns.map V.int) ∧ k ∈ ns ∧ Q (.int (ns.idxOf k : Nat)) H
theorem mt_indexT : MtR X "tuple.index" (rIndexT X.K) := by
  intro pins s σ H x xs v us Q I rx rxs h
  obtain ⟨a, ns, k, rfl, rfl, hs, hk, q⟩ := h
  cases rx
  obtain ⟨u, rfl, ru⟩ := Vals.one rxs
  obtain ⟨t, rfl⟩ := ru
  obtain ⟨its, rv, hl, hz⟩ := I.tuple hs
  exact SeqAt.tuple_index_ints (vs := its) (show s.heap.IsTuple a its.toArray from hl) (ints_are rv) hk ⟨.int _, H, I.tok _, ⟨_, rfl⟩, q⟩
def tIdx (K : PySem.W.Frag) (to : TE) (t : TA) : TE := fun σ H Q => to σ H fun x H1 => (∃ a o ws, x = .ref a ∧ H1 a = some (.frz o (.tup ws)) ∧ o.cls = .type "tuple" ∧ o.dict = none) ∧ t σ H1 fun xs H2 => rIndexT K x xs H2 Q
variable {o e : Expr} {es : List Expr} {to : TE} {t : TA} {apos cpos : Pos}
theorem pe_idx (ho : PE X o to) (ha : PA X (e :: es) t)
    (hbase : attributeBase o "index" X.env (eval o X.env) = eval o X.env := by rfl)
    (hfew : ((backTo cpos (starEach (e :: es) X.env)).all (fun x => !x.1) && (backToKw cpos (keywordEach [] X.env)).all (fun x => x.1.isSome)
      && decide ((e :: es).length + ([] : List Keyword).length + (if ([] : List Keyword).isEmpty then 0 else 1) < 30)) = true := by rfl)
    (hline : (apos.endLine == cpos.line) = true := by rfl) (hs : starEach (e :: es) X.env = (false, eval e X.env) :: starEach es X.env := by rfl) (hplain : (backTo cpos (starEach es X.env)).any (·.1) = false := by rfl) :
    PE X (.Call (.Attribute o "index" apos) (e :: es) [] cpos) (tIdx X.K to t) := by
  refine ⟨fun pins s σ H Q I h => ?_⟩
  refine wpAny_Call_method_late hbase hfew hline rfl (thn (ho.run pins s σ H _ I h) fun v s1 ⟨x, H1, I1, r1, q1⟩ => ?_)
  obtain ⟨⟨a, ob, ws, rfl, hq, hc, hd⟩, q1⟩ := q1
  cases r1
  obtain ⟨e1, _⟩ := I1.hok a _ hq
  refine ⟨"tuple", "tuple.index", PySem.F.plainAttrs_tuple, PySem.F.slot_tuple_index, PySem.F.type_tuple_index, ⟨ob, e1, hc⟩, (fun b eb => by cases eb; exact ⟨ob, e1, hd⟩), ?_⟩
  have hA := ha.run cpos pins s1 σ H1 _ I1 q1
  rw [hs] at hA ⊢
  refine Calls.callWith_builtin (by show (false || (backTo cpos (starEach es X.env)).any (·.1)) = false; rw [hplain] <;> rfl) (Calls.evalArgs_plain ?_)
  exact thn hA fun us s2 ⟨vs, H2, I2, r2, q2⟩ => mt_indexT pins s2 σ H2 (.ref a) vs (.ref a) us Q I2 rfl r2 q2
/-- tuple(xs), xs a list: the new tuple is a known object -/
def qTupF (K : PySem.W.Frag) : List V → Hp → VK → Prop := fun xs H Q => ∃ p ys, xs = [.ref p] ∧ SqL K H p ys ∧ ∀ l o, H l = none → o.cls = .type "tuple" → o.dict = none → Q (.ref l) (upd H l (.frz o (.tup ys)))
theorem cg_tupleF : CallR X (.type "tuple") (qTupF X.K) := by
  intro pins s σ H xs us Q I r h
  obtain ⟨p, ys, rfl, hq, q⟩ := h
  obtain ⟨u, rfl, rx⟩ := vals1 r
  cases rx
  obtain ⟨its, r', pl, hz⟩ := I.list hq
  have hlen := r'.length
  refine call_tuple_list pl.isList (fun h' kp => ?_) (by simp only [List.size_toArray] <;> omega)
  have I1 : Inv X pins σ H { s with heap := h' } := I.kept (t' := s.toks) kp
  have I2 : Inv X pins σ (upd H h'.objs.size (.frz { cls := .type "tuple", data := .seq its.toArray } (.tup ys))) { s with heap := h'.push { cls := .type "tuple", data := .seq its.toArray } } :=
    I1.laid (t' := s.toks) (fun b o e => Heap.get?_push_of_some _ e) (Nat.le_refl _) (show ObjOk X.prog X.w _ _ _ (.frz _ (.tup ys)) from ⟨Heap.get?_push_size _ rfl, hz, its, r', IsTup.new _ _⟩)
  exact ⟨.ref h'.objs.size, _, I2, rfl, q _ _ (I1.hok.fresh (Nat.le_refl _)) rfl rfl⟩
end
end RT

set_option Elab.async false
set_option linter.all false
set_option maxRecDepth 100000
set_option maxHeartbeats 4000000
/-! Plain data, a memory of cells, and what a reading comes to over them. -/
namespace Px
open PySem PySem.Spec PyProof.Rows L2 Rl RZ RT
open Evl (Ex)
abbrev Frag := PySem.W.Frag
/-- plain data -/
inductive D where
  | non | bl (b : Bool) | int (i : Int) | str (s : Str) | ty (n : String)
  | lst (xs : List D) | tup (xs : List D)
  | ins (c : Str) (ns : List Str) (xs : List D)
  /-- an own class -/
  | cls (c : Str)
  /-- a cell of the memory -/
  | ref (a : Addr)
  /-- the script -/
  | scr (l : List Int)
  /-- a tuple of whole numbers whose methods are called -/
  | tux (l : List Int)
  /-- an exception that was caught -/
  | exc (c : Str) (ns : List Str) (xs : List D)
  /-- an empty dict -/
  | dic
/-- what is known of an own class whose instances bear some attributes -/
structure CF (K : Frag) (c : Str) (ns : List Str) : Prop where
  cl : Cls K (He.ga K c)
  ty : Tyi K (He.ga K c)
  na : ∀ f ∈ ns, NoAttr K (He.ga K c) f
mutual
inductive Is (K : Frag) (F : Hp) : V → D → Prop
  | non : Is K F .non .non
  | bl (b : Bool) : Is K F (.bl b) (.bl b)
  | int (i : Int) : Is K F (.int i) (.int i)
  | str (s : Str) : Is K F (.str s) (.str s)
  | ty (n : String) : Is K F (.ty n) (.ty n)
  | lst {a : Addr} {xs : List V} {ds : List D} : F a = some (.lst xs) → IsAll K F xs ds → Is K F (.ref a) (.lst ds)
  | tup {a : Addr} {xs : List V} {ds : List D} : SqT K F a xs → IsAll K F xs ds → Is K F (.ref a) (.tup ds)
  | ins {a dx : Addr} {fs : List (Str × V)} {c : Str} {ns : List Str} {ds : List D} : F a = some (.ins (He.ga K c) dx fs) → CF K c ns → fs.map (·.1) = ns → IsAll K F (fs.map (·.2)) ds → Is K F (.ref a) (.ins c ns ds)
  | cls (c : Str) : Is K F (.ref (He.ga K c)) (.cls c)
  | ref (a : Addr) : Is K F (.ref a) (.ref a)
  | scr {a : Addr} {l : List Int} : SqL K F a (l.map V.int) → Is K F (.ref a) (.scr l)
  | tux {a : Addr} {l : List Int} (o : Obj) : F a = some (.frz o (.tup (l.map V.int))) → o.cls = .type "tuple" → o.dict = none → Is K F (.ref a) (.tux l)
  | exc {a dd : Addr} {fs : List (Str × V)} {c : Str} {ns : List Str} {ds : List D} : Rl.Exc K F a (He.ga K c) dd fs → fs.map (·.1) = ns → IsAll K F (fs.map (·.2)) ds → Is K F (.ref a) (.exc c ns ds)
  | dic {a : Addr} : F a = some (.dK []) → Is K F (.ref a) .dic
inductive IsAll (K : Frag) (F : Hp) : List V → List D → Prop
  | nil : IsAll K F [] []
  | cons {v : V} {vs : List V} {d : D} {ds : List D} : Is K F v d → IsAll K F vs ds → IsAll K F (v :: vs) (d :: ds)
end
section
variable {K : Frag} {F F' H H' : Hp}
mutual
theorem Is.mono (e : Ex F F') : ∀ (d : D) (v : V), Is K F v d → Is K F' v d
  | .non, _, h => by cases h; exact .non
  | .bl b, _, h => by cases h; exact .bl b
  | .int i, _, h => by cases h; exact .int i
  | .str s, _, h => by cases h; exact .str s
  | .ty s, _, h => by cases h; exact .ty s
  | .cls s, _, h => by cases h; exact .cls s
  | .ref s, _, h => by cases h; exact .ref s
  | .scr l, _, h => by
    cases h with
    | scr h => exact .scr (Evl.ex_l e h)
  | .tux l, _, h => by
    cases h with
    | tux o h h1 h2 => exact .tux o (e _ _ h) h1 h2
  | .exc c ns ds, _, h => by
    cases h with
    | exc h1 h2 h3 => exact .exc ⟨e _ _ h1.1, e _ _ h1.2⟩ h2 (IsAll.mono e ds _ h3)
  | .dic, _, h => by
    cases h with
    | dic h1 => exact .dic (e _ _ h1)
  | .lst ds, _, h => by
    cases h with
    | lst h1 h2 => exact .lst (e _ _ h1) (IsAll.mono e ds _ h2)
  | .tup ds, _, h => by
    cases h with
    | tup h1 h2 => exact .tup (Evl.ex_t e h1) (IsAll.mono e ds _ h2)
  | .ins c ns ds, _, h => by
    cases h with
    | ins h1 h0 h2 h3 => exact .ins (e _ _ h1) h0 h2 (IsAll.mono e ds _ h3)
theorem IsAll.mono (e : Ex F F') : ∀ (ds : List D) (vs : List V), IsAll K F vs ds → IsAll K F' vs ds
  | [], _, h => by cases h; exact .nil
  | d :: ds, _, h => by
    cases h with
    | cons h1 h2 => exact .cons (Is.mono e d _ h1) (IsAll.mono e ds _ h2)
end
theorem Is.up {v : V} {d : D} (h : Is K F v d) (e : Ex F F') : Is K F' v d := Is.mono e d v h
theorem IsAll.up {v : List V} {d : List D} (h : IsAll K F v d) (e : Ex F F') : IsAll K F' v d := IsAll.mono e d v h
theorem IsAll.len : ∀ {vs : List V} {ds : List D}, IsAll K F vs ds → vs.length = ds.length
  | _, _, .nil => rfl
  | _, _, .cons _ h => by rw [List.length_cons, List.length_cons, IsAll.len h]
theorem IsAll.get : ∀ {vs : List V} {ds : List D} {i : Nat} {d : D}, IsAll K F vs ds → ds[i]? = some d → ∃ v, vs[i]? = some v ∧ Is K F v d
  | _, _, _, _, .nil, e => by simp at e
  | _, _, 0, _, .cons h _, e => by simp at e; subst e; exact ⟨_, rfl, h⟩
  | _, _, i + 1, d, .cons _ t, e => by
    obtain ⟨v, h1, h2⟩ := IsAll.get (i := i) (d := d) t (by simpa using e)
    exact ⟨v, by simpa using h1, h2⟩
theorem IsAll.app : ∀ {vs ws : List V} {ds es : List D}, IsAll K F vs ds → IsAll K F ws es → IsAll K F (vs ++ ws) (ds ++ es)
  | _, _, _, _, .nil, h => h
  | _, _, _, _, .cons h t, g => .cons h (IsAll.app t g)
theorem IsAll.set : ∀ {vs : List V} {ds : List D} {v : V} {d : D} (i : Nat), IsAll K F vs ds → Is K F v d → IsAll K F (vs.set i v) (ds.set i d)
  | _, _, _, _, _, .nil, _ => .nil
  | _, _, _, _, 0, .cons _ t, g => .cons g t
  | _, _, _, _, i + 1, .cons h t, g => .cons h (IsAll.set i t g)
theorem IsAll.take : ∀ {vs : List V} {ds : List D} (i : Nat), IsAll K F vs ds → IsAll K F (vs.take i) (ds.take i)
  | _, _, 0, _ => .nil
  | _, _, _ + 1, .nil => .nil
  | _, _, i + 1, .cons h t => .cons h (IsAll.take i t)
theorem IsAll.drop : ∀ {vs : List V} {ds : List D} (i : Nat), IsAll K F vs ds → IsAll K F (vs.drop i) (ds.drop i)
  | _, _, 0, h => h
  | _, _, _ + 1, .nil => .nil
  | _, _, i + 1, .cons _ t => IsAll.drop i t
theorem IsAll.rev {vs : List V} {ds : List D} (h : IsAll K F vs ds) : IsAll K F vs.reverse ds.reverse := by
  induction ds generalizing vs with
  | nil => cases h; exact .nil
  | cons d ds ih =>
    cases h with
    | cons h t =>
      rw [List.reverse_cons, List.reverse_cons]
      exact (ih t).app (.cons h .nil)
theorem IsAll.rep {vs : List V} {ds : List D} (h : IsAll K F vs ds) : ∀ n : Nat, IsAll K F (List.replicate n vs).flatten (List.replicate n ds).flatten
  | 0 => .nil
  | n + 1 => by
    rw [List.replicate_succ, List.replicate_succ, List.flatten_cons, List.flatten_cons]
    exact h.app (IsAll.rep h n)
abbrev Li (l : List Int) : List D := l.map D.int
abbrev Ls (l : List Str) : List D := l.map D.str
abbrev Lb (l : List Bool) : List D := l.map D.bl
theorem IsAll.li : ∀ (l : List Int) {vs : List V}, IsAll K F vs (l.map D.int) → vs = l.map V.int
  | [], _, h => by cases h; rfl
  | i :: l, _, h => by
    cases h with
    | cons h t => cases h; rw [IsAll.li l t]; rfl
theorem IsAll.ls : ∀ (l : List Str) {vs : List V}, IsAll K F vs (l.map D.str) → vs = l.map V.str
  | [], _, h => by cases h; rfl
  | i :: l, _, h => by
    cases h with
    | cons h t => cases h; rw [IsAll.ls l t]; rfl
theorem IsAll.lb : ∀ (l : List Bool) {vs : List V}, IsAll K F vs (l.map D.bl) → vs = l.map V.bl
  | [], _, h => by cases h; rfl
  | i :: l, _, h => by
    cases h with
    | cons h t => cases h; rw [IsAll.lb l t]; rfl
theorem IsAll.of_li : ∀ (l : List Int), IsAll K F (l.map V.int) (l.map D.int)
  | [] => .nil
  | i :: l => .cons (.int i) (IsAll.of_li l)
theorem IsAll.of_ls : ∀ (l : List Str), IsAll K F (l.map V.str) (l.map D.str)
  | [] => .nil
  | i :: l => .cons (.str i) (IsAll.of_ls l)
end
/-! ### the memory -/
inductive Cell where
  | lst (xs : List D)
  | ins (c : Str) (ns : List Str) (xs : List D)
def Cell.toD : Cell → D
  | .lst xs => .lst xs
  | .ins c ns xs => .ins c ns xs
abbrev Mem := Addr → Option Cell
def mu (M : Mem) (a : Addr) (c : Cell) : Mem := fun b => if b = a then some c else M b
def er (M : Mem) (a : Addr) : Mem := fun b => if b = a then none else M b
theorem mu_same {M : Mem} {a : Addr} {c : Cell} : mu M a c a = some c := by unfold mu; rw [if_pos rfl]
theorem mu_ne {M : Mem} {a b : Addr} {c : Cell} (h : b ≠ a) : mu M a c b = M b := by unfold mu; rw [if_neg h]
theorem er_same {M : Mem} {a : Addr} : er M a a = none := by unfold er; rw [if_pos rfl]
theorem er_ne {M : Mem} {a b : Addr} (h : b ≠ a) : er M a b = M b := by unfold er; rw [if_neg h]
theorem mu_mu {M : Mem} {a : Addr} {c d : Cell} : mu (mu M a c) a d = mu M a d := by funext b; unfold mu; split <;> rfl
theorem er_mu {M : Mem} {a : Addr} {c : Cell} (h : M a = none) : er (mu M a c) a = M := by
  funext b; unfold er mu
  by_cases e : b = a
  · rw [if_pos e, e, h]
  · rw [if_neg e, if_neg e]
theorem mu_comm {M : Mem} {a b : Addr} {c d : Cell} (h : a ≠ b) : mu (mu M a c) b d = mu (mu M b d) a c := by
  funext x; unfold mu
  by_cases e : x = a
  · rw [if_pos e, if_neg (by rw [e]; exact h), if_pos e]
  · by_cases e2 : x = b
    · rw [if_pos e2, if_neg e, if_pos e2]
    · rw [if_neg e2, if_neg e, if_neg e, if_neg e2]
theorem er_mu_ne {M : Mem} {a b : Addr} {c : Cell} (h : a ≠ b) : er (mu M a c) b = mu (er M b) a c := by
  funext x
  show (if x = b then none else if x = a then some c else M x) = if x = a then some c else if x = b then none else M x
  by_cases e : x = b
  · rw [if_pos e, if_neg (by rw [e]; exact h.symm), if_pos e]
  · rw [if_neg e, if_neg e]
theorem er_none {M : Mem} {a : Addr} (h : M a = none) : er M a = M := by
  funext b; unfold er
  by_cases e : b = a
  · rw [if_pos e, e, h]
  · rw [if_neg e]
theorem mu_id {M : Mem} {a : Addr} {c : Cell} (h : M a = some c) : mu M a c = M := by
  funext b; unfold mu
  by_cases e : b = a
  · rw [if_pos e, e, h]
  · rw [if_neg e]
theorem ne_some_none {M : Mem} {a b : Addr} {c : Cell} (h : M a = some c) (n : M b = none) : a ≠ b := fun e => by subst e; rw [h] at n; cases n
/-- a cell's content -/
def At (K : Frag) (F H : Hp) (a : Addr) : Cell → Prop
  | .lst ds => ∃ vs, H a = some (.lst vs) ∧ IsAll K F vs ds
  | .ins c ns ds => ∃ dx fs, H a = some (.ins (He.ga K c) dx fs) ∧ CF K c ns ∧ fs.map (·.1) = ns ∧ IsAll K F (fs.map (·.2)) ds
theorem At.there {K : Frag} {F H : Hp} {a : Addr} {c : Cell} (h : At K F H a c) : ∃ o, H a = some o := by
  cases c with
  | lst ds => obtain ⟨vs, h, _⟩ := h; exact ⟨_, h⟩
  | ins c ns ds => obtain ⟨dx, fs, h, _⟩ := h; exact ⟨_, h⟩
theorem At.mono {K : Frag} {F F' H H' : Hp} {a : Addr} {c : Cell} (h : At K F H a c) (e : Ex F F') (k : ∀ o, H a = some o → H' a = some o) : At K F' H' a c := by
  cases c with
  | lst ds => obtain ⟨vs, h, g⟩ := h; exact ⟨_, k _ h, g.up e⟩
  | ins c ns ds => obtain ⟨dx, fs, h, g0, g1, g2⟩ := h; exact ⟨dx, fs, k _ h, g0, g1, g2.up e⟩
theorem At.toIs {K : Frag} {F H : Hp} {a : Addr} {c : Cell} (h : At K F H a c) (n : F a = none) : ∃ o, H a = some o ∧ Is K (upd F a o) (.ref a) c.toD := by
  have e : ∀ {o : HO}, Ex F (upd F a o) := fun {o} => Ex.new n
  cases c with
  | lst ds =>
    obtain ⟨vs, h1, h2⟩ := h
    exact ⟨_, h1, .lst upd_same (h2.up e)⟩
  | ins c ns ds =>
    obtain ⟨dx, fs, h1, h0, h2, h3⟩ := h
    exact ⟨_, h1, .ins upd_same h0 h2 (h3.up e)⟩
/-- the tables of code objects that a law's lambdas ask for -/
class Tb (K : Frag) where
  T : List (Addr × Str)
/-- an object that is no table, no code object -/
def NT (H : Hp) (p : Addr) : Prop := ∀ o, H p = some o → (∀ ps, o ≠ .tbl ps) ∧ ∀ c q, o ≠ LamX.CodeO c q
theorem NT.none {H : Hp} {p : Addr} (n : H p = none) : NT H p := fun o e => by rw [n] at e; cases e
theorem codeO_lst {c : Addr} {q : Str} {xs : List V} : HO.lst xs ≠ LamX.CodeO c q := fun z => by unfold LamX.CodeO at z; cases z
theorem codeO_ins {c : Addr} {q : Str} {C dx : Addr} {fs : List (Str × V)} : HO.ins C dx fs ≠ LamX.CodeO c q := fun z => by unfold LamX.CodeO at z; cases z
theorem NT.lst {H : Hp} {p : Addr} {xs : List V} (n : H p = some (.lst xs)) : NT H p := fun o e => by
  rw [n] at e; cases e
  exact ⟨fun ps z => (by cases z), fun c q => codeO_lst⟩
theorem NT.at {K : Frag} {F H : Hp} {p : Addr} {c : Cell} (h : At K F H p c) : NT H p := fun o e => by
  cases c with
  | lst ds =>
    obtain ⟨vs, q, _⟩ := h
    exact NT.lst q o e
  | ins c ns ds =>
    obtain ⟨dx, fs, q, _⟩ := h
    rw [q] at e; cases e
    exact ⟨fun ps z => (by cases z), fun c q => codeO_ins⟩
theorem tabs_put {T : List (Addr × Str)} {H : Hp} {p : Addr} {o : HO} (t : LamX.Tabs T H) (n : NT H p) : LamX.Tabs T (upd H p o) := fun q hq => by
  obtain ⟨ps, h1, h2, h3⟩ := t q hq
  have e1 : q.1 ≠ p := fun z => (n _ (z ▸ h1)).1 ps rfl
  refine ⟨ps, by rw [upd_ne e1]; exact h1, h2, fun pos cv hc => ?_⟩
  obtain ⟨c, r1, r2⟩ := h3 pos cv hc
  have e2 : c ≠ p := fun z => (n _ (z ▸ r2)).2 c q.2 (by subst z; rfl)
  exact ⟨c, r1, by rw [upd_ne e2]; exact r2⟩
/-- G: what must stay; F: what is frozen; M: the cells -/
structure Fr (K : Frag) [Tb K] (G F H : Hp) (M : Mem) : Prop where
  tb : LamX.Tabs (Tb.T K) H
  ft : ∀ a ps, F a ≠ some (.tbl ps)
  gt : ∀ a ps, G a ≠ some (.tbl ps)
  gh : Ex G H
  fh : Ex F H
  gf : ∀ a o, G a = some o → F a = none
  gm : ∀ a o, G a = some o → M a = none
  mc : ∀ a c, M a = some c → F a = none ∧ At K F H a c
section
variable {K : Frag} [Tb K] {G F H : Hp} {M : Mem}
theorem Fr.mh (f : Fr K G F H M) {p : Addr} (n : H p = none) : M p = none := by
  cases e : M p with
  | none => rfl
  | some c =>
    obtain ⟨o, ho⟩ := (f.mc p c e).2.there
    rw [n] at ho; cases ho
theorem ft_put {F : Hp} {p : Addr} {o : HO} (h : ∀ a ps, F a ≠ some (.tbl ps)) (ho : ∀ ps, o ≠ .tbl ps) : ∀ a ps, upd F p o a ≠ some (.tbl ps) := fun a ps e => by
  by_cases c : a = p
  · subst c; rw [upd_same] at e; exact ho ps (Option.some.inj e)
  · rw [upd_ne c] at e; exact h a ps e
theorem Fr.laid (f : Fr K G F H M) {p : Addr} {o : HO} (n : H p = none) (ho : ∀ ps, o ≠ HO.tbl ps := by intro _ z; cases z) : Fr K G (upd F p o) (upd H p o) M where
  tb := tabs_put f.tb (.none n)
  ft := ft_put f.ft ho
  gt := f.gt
  gh := fun a u e => by rw [upd_ne (ne_of_none (f.gh a u e) n)]; exact f.gh a u e
  fh := fun a u e => by
    by_cases ha : a = p
    · subst ha; rw [upd_same] at e ⊢; exact e
    · rw [upd_ne ha] at e ⊢; exact f.fh a u e
  gf := fun a u e => by rw [upd_ne (ne_of_none (f.gh a u e) n)]; exact f.gf a u e
  gm := f.gm
  mc := fun a c e => by
    have np : a ≠ p := fun q => by subst q; rw [f.mh n] at e; cases e
    obtain ⟨h1, h2⟩ := f.mc a c e
    exact ⟨by rw [upd_ne np]; exact h1, h2.mono (Ex.new (Evl.fresh_back f.fh n)) fun u q => by rw [upd_ne np]; exact q⟩
theorem Fr.exl (f : Fr K G F H M) {p : Addr} {o : HO} (n : H p = none) : Ex F (upd F p o) := Ex.new (Evl.fresh_back f.fh n)
/-- a new object that nobody knows -/
theorem Fr.more (f : Fr K G F H M) {p : Addr} {o : HO} (n : H p = none) : Fr K G F (upd H p o) M where
  tb := tabs_put f.tb (.none n)
  ft := f.ft
  gt := f.gt
  gh := fun a u e => by rw [upd_ne (ne_of_none (f.gh a u e) n)]; exact f.gh a u e
  fh := fun a u e => by rw [upd_ne (ne_of_none (f.fh a u e) n)]; exact f.fh a u e
  gf := f.gf
  gm := f.gm
  mc := fun a c e => by
    have np : a ≠ p := fun q => by subst q; rw [f.mh n] at e; cases e
    obtain ⟨h1, h2⟩ := f.mc a c e
    exact ⟨h1, h2.mono (Ex.refl F) fun u q => by rw [upd_ne np]; exact q⟩
/-- a cell is new, or changed -/
theorem Fr.cell (f : Fr K G F H M) {p : Addr} {o : HO} {c : Cell} (fp : F p = none) (gp : G p = none) (nt : NT H p) (h : At K F (upd H p o) p c) : Fr K G F (upd H p o) (mu M p c) where
  tb := tabs_put f.tb nt
  ft := f.ft
  gt := f.gt
  gh := fun a u e => by rw [upd_ne (ne_of_none e gp)]; exact f.gh a u e
  fh := fun a u e => by rw [upd_ne (ne_of_none e fp)]; exact f.fh a u e
  gf := f.gf
  gm := fun a u e => by rw [mu_ne (ne_of_none e gp)]; exact f.gm a u e
  mc := fun a d e => by
    by_cases ea : a = p
    · subst ea
      rw [mu_same] at e; cases e
      exact ⟨fp, h⟩
    · rw [mu_ne ea] at e
      obtain ⟨h1, h2⟩ := f.mc a d e
      exact ⟨h1, h2.mono (Ex.refl F) fun u q => by rw [upd_ne ea]; exact q⟩
theorem Fr.own (f : Fr K G F H M) {p : Addr} {o : HO} {c : Cell} (n : H p = none) (h : At K F (upd H p o) p c) : Fr K G F (upd H p o) (mu M p c) := f.cell (Evl.fresh_back f.fh n) (Evl.fresh_back f.gh n) (.none n) h
theorem Fr.gn (f : Fr K G F H M) {a : Addr} {c : Cell} (e : M a = some c) : G a = none := by
  cases q : G a with
  | none => rfl
  | some o => rw [f.gm a o q] at e; cases e
theorem Fr.chg (f : Fr K G F H M) {p : Addr} {o : HO} {c c0 : Cell} (e : M p = some c0) (h : At K F (upd H p o) p c) : Fr K G F (upd H p o) (mu M p c) := f.cell (f.mc p c0 e).1 (f.gn e) (.at (f.mc p c0 e).2) h
/-- a cell is forgotten -/
theorem Fr.drop (f : Fr K G F H M) (a : Addr) : Fr K G F H (er M a) where
  tb := f.tb
  ft := f.ft
  gt := f.gt
  gh := f.gh
  fh := f.fh
  gf := f.gf
  gm := fun b u e => by
    by_cases q : b = a
    · subst q; exact er_same
    · rw [er_ne q]; exact f.gm b u e
  mc := fun b d e => by
    by_cases q : b = a
    · subst q; rw [er_same] at e; cases e
    · rw [er_ne q] at e; exact f.mc b d e
/-- a cell is frozen -/
theorem Fr.frz (f : Fr K G F H M) {a : Addr} {c : Cell} (e : M a = some c) : ∃ F', Ex F F' ∧ Fr K G F' H (er M a) ∧ Is K F' (.ref a) c.toD := by
  obtain ⟨fa, at_⟩ := f.mc a c e
  obtain ⟨o, ho, is⟩ := at_.toIs fa
  have ex : Ex F (upd F a o) := Ex.new fa
  refine ⟨upd F a o, ex, ⟨f.tb, ft_put f.ft (NT.at at_ o ho).1, f.gt, f.gh, fun b u q => ?_, fun b u q => ?_, (f.drop a).gm, fun b d q => ?_⟩, is⟩
  · by_cases eb : b = a
    · subst eb; rw [upd_same] at q; cases q; exact ho
    · rw [upd_ne eb] at q; exact f.fh b u q
  · rw [upd_ne (ne_of_none q (f.gn e))]; exact f.gf b u q
  · by_cases eb : b = a
    · subst eb; rw [er_same] at q; cases q
    · rw [er_ne eb] at q
      obtain ⟨h1, h2⟩ := f.mc b d q
      exact ⟨by rw [upd_ne eb]; exact h1, h2.mono ex fun _ z => z⟩
end
/-- a step that keeps all but the tables -/
theorem Fr.ext {K : Frag} [Tb K] {G F H H1 : Hp} {M : Mem} (f : Fr K G F H M) (e : LamX.ExtN H H1) (t : LamX.Tabs (Tb.T K) H1) : Fr K G F H1 M where
  tb := t
  ft := f.ft
  gt := f.gt
  gh := fun a o q => e a o (f.gh a o q) fun ps z => f.gt a ps (z ▸ q)
  fh := fun a o q => e a o (f.fh a o q) fun ps z => f.ft a ps (z ▸ q)
  gf := f.gf
  gm := f.gm
  mc := fun a c q => ⟨(f.mc a c q).1, (f.mc a c q).2.mono (Ex.refl F) fun o z => e a o z (NT.at (f.mc a c q).2 o z).1⟩
abbrev St' := List (Option D)
def Sto (K : Frag) (F : Hp) (σ : L2.St) (ρ : St') : Prop := σ.length = ρ.length ∧ ∀ (i : Nat) (x : D), ρ[i]? = some (some x) → ∃ v, σ[i]? = some (some v) ∧ Is K F v x
section
variable {K : Frag} [Tb K] {F F' : Hp} {σ : L2.St} {ρ : St'}
theorem Sto.up (s : Sto K F σ ρ) (e : Ex F F') : Sto K F' σ ρ := ⟨s.1, fun i x h => let ⟨v, h1, h2⟩ := s.2 i x h; ⟨v, h1, h2.up e⟩⟩
theorem setE {α : Type} {l : List α} {x y : α} {i j : Nat} (h : (l.set i x)[j]? = some y) : (j = i ∧ x = y) ∨ (j ≠ i ∧ l[j]? = some y) := by
  by_cases e : i = j
  · subst e
    by_cases hl : i < l.length
    · rw [List.getElem?_set_self hl] at h; simp at h; exact .inl ⟨rfl, h⟩
    · rw [List.getElem?_eq_none (by simpa using hl)] at h; cases h
  · rw [List.getElem?_set_ne e] at h; exact .inr ⟨fun q => e q.symm, h⟩
theorem Sto.set (s : Sto K F σ ρ) {v : V} {x : D} (h : Is K F v x) (i : Nat) : Sto K F (σ.set i (some v)) (ρ.set i (some x)) := by
  refine ⟨by rw [List.length_set, List.length_set, s.1], fun j y e => ?_⟩
  by_cases hl : i < ρ.length
  · rcases setE e with ⟨a1, a2⟩ | ⟨a1, a2⟩
    · subst a1; cases a2
      exact ⟨v, List.getElem?_set_self (by rw [s.1]; exact hl), h⟩
    · rw [List.getElem?_set_ne (Ne.symm a1)]
      exact s.2 j y a2
  · rw [List.set_eq_of_length_le (by omega)] at e
    obtain ⟨u, h1, h2⟩ := s.2 j y e
    have : j < ρ.length := (List.getElem?_eq_some_iff.mp e).1
    exact ⟨u, by rw [List.getElem?_set_ne (by omega)]; exact h1, h2⟩
theorem Sto.forget (s : Sto K F σ ρ) (o : Option V) (i : Nat) : Sto K F (σ.set i o) (ρ.set i none) := by
  refine ⟨by rw [List.length_set, List.length_set, s.1], fun j y e => ?_⟩
  rcases setE e with ⟨a1, a2⟩ | ⟨a1, a2⟩
  · cases a2
  · rw [List.getElem?_set_ne (Ne.symm a1)]
    exact s.2 j y a2
theorem Sto.kill (s : Sto K F σ ρ) (i : Nat) : Sto K F σ (ρ.set i none) := by
  refine ⟨by rw [List.length_set, s.1], fun j y e => ?_⟩
  rcases setE e with ⟨a1, a2⟩ | ⟨a1, a2⟩
  · cases a2
  · exact s.2 j y a2
def wipe' (ρ : St') : List Nat → St'
  | [] => ρ
  | v :: vs => (wipe' ρ vs).set v none
theorem Sto.wipe (s : Sto K F σ ρ) : ∀ l : List Nat, Sto K F (L2.wipe σ l) (wipe' ρ l)
  | [] => s
  | v :: l => (Sto.wipe s l).forget none v
theorem Sto.kills (s : Sto K F σ ρ) : ∀ l : List Nat, Sto K F σ (wipe' ρ l)
  | [] => s
  | v :: l => (Sto.kills s l).kill v
end
/-! ### what stops a transformer: named, each with its ways in -/
/-- a size that the model allows -/
@[irreducible] def Sz (n : Nat) (P : Prop) : Prop := n ≤ sizeLine ∧ P
theorem Sz.get {n : Nat} {P : Prop} (h : Sz n P) : n ≤ sizeLine ∧ P := by unfold Sz at h; exact h
theorem sz {n : Nat} {P : Prop} (hn : n ≤ 16777216) (h : P) : Sz n P := by unfold Sz; exact ⟨by rw [sizeLine_eq]; exact hn, h⟩
@[irreducible] def cellL (a : Addr) (M : Mem) (k : List D → Prop) : Prop := ∃ xs, M a = some (.lst xs) ∧ k xs
theorem cellL.get {a : Addr} {M : Mem} {k : List D → Prop} (h : cellL a M k) : ∃ xs, M a = some (.lst xs) ∧ k xs := by unfold cellL at h; exact h
theorem cell_of {a : Addr} {M : Mem} {k : List D → Prop} {xs : List D} (e : M a = some (.lst xs)) (h : k xs) : cellL a M k := by unfold cellL; exact ⟨xs, e, h⟩
theorem cell_mu {a : Addr} {M : Mem} {k : List D → Prop} {xs : List D} (h : k xs) : cellL a (mu M a (.lst xs)) k := cell_of mu_same h
/-- a cell is forgotten, is written -/
@[irreducible] def ern (a : Addr) (M : Mem) (k : Mem → Prop) : Prop := k (er M a)
theorem ern.get {a : Addr} {M : Mem} {k : Mem → Prop} (h : ern a M k) : k (er M a) := by unfold ern at h; exact h
theorem ern_of {a : Addr} {M : Mem} {k : Mem → Prop} (h : k (er M a)) : ern a M k := by unfold ern; exact h
theorem ern_mu {a : Addr} {M : Mem} {c : Cell} {k : Mem → Prop} (e : M a = none) (h : k M) : ern a (mu M a c) k := ern_of (by rw [er_mu e]; exact h)
@[irreducible] def mun (a : Addr) (c : Cell) (M : Mem) (k : Mem → Prop) : Prop := k (mu M a c)
theorem mun.get {a : Addr} {c : Cell} {M : Mem} {k : Mem → Prop} (h : mun a c M k) : k (mu M a c) := by unfold mun at h; exact h
theorem mun_of {a : Addr} {c : Cell} {M : Mem} {k : Mem → Prop} (h : k (mu M a c)) : mun a c M k := by unfold mun; exact h
theorem mun_mu {a : Addr} {c c' : Cell} {M : Mem} {k : Mem → Prop} (h : k (mu M a c)) : mun a c (mu M a c') k := mun_of (by rw [mu_mu]; exact h)
@[irreducible] def cellI (a : Addr) (M : Mem) (k : Str → List Str → List D → Prop) : Prop := ∃ c ns xs, M a = some (.ins c ns xs) ∧ k c ns xs
theorem cellI.get {a : Addr} {M : Mem} {k : Str → List Str → List D → Prop} (h : cellI a M k) : ∃ c ns xs, M a = some (.ins c ns xs) ∧ k c ns xs := by unfold cellI at h; exact h
theorem cellI_of {a : Addr} {M : Mem} {k : Str → List Str → List D → Prop} {c : Str} {ns : List Str} {xs : List D} (e : M a = some (.ins c ns xs)) (h : k c ns xs) : cellI a M k := by unfold cellI; exact ⟨c, ns, xs, e, h⟩
theorem cellI_mu {a : Addr} {M : Mem} {k : Str → List Str → List D → Prop} {c : Str} {ns : List Str} {xs : List D} (h : k c ns xs) : cellI a (mu M a (.ins c ns xs)) k := cellI_of mu_same h
/-! ### what is wanted of exceptions -/
structure Xn where
  c : Str
  ns : List Str
  xs : List D
abbrev XP := Xn → Mem → Prop
/-- how the wish for exceptions is linked with that of the heap's side -/
structure XL where
  ok : Hp → Hp → XP → Prop
  mono : ∀ {G F F' E}, ok G F E → Ex F F' → ok G F' E
  no : ∀ {G F}, ok G F fun _ _ => False
  gm : ∀ {G G' F E}, ok G F E → Ex G G' → ok G' F E
/-- less need stay -/
theorem Fr.sub {K : Frag} [Tb K] {G G' F H : Hp} {M : Mem} (f : Fr K G' F H M) (e : Ex G G') : Fr K G F H M :=
  ⟨f.tb, f.ft, fun a ps q => f.gt a ps (e _ _ q), fun a o q => f.gh a o (e _ _ q), f.fh, fun a o q => f.gf a o (e _ _ q), fun a o q => f.gm a o (e _ _ q), f.mc⟩
/-- the datum of an exception: its dict at d -/
def XAt (K : Frag) (F : Hp) (d : Option Addr) (x : Xn) : Prop := ∃ dd fs, d = some dd ∧ F dd = some (.xd fs) ∧ fs.map (·.1) = x.ns ∧ IsAll K F (fs.map (·.2)) x.xs
def XOk (K : Frag) [Tb K] (G F : Hp) (E : XP) (EX : XK) : Prop := ∀ F' H' x M' d, E x M' → Ex F F' → Fr K G F' H' M' → XAt K F' d x → EX (.ref (He.ga K x.c)) d H'
def XL.of (K : Frag) [Tb K] (EX : XK) : XL := ⟨fun G F E => XOk K G F E EX, fun h e F' H' x M' d a b c k => h F' H' x M' d a (e.trans b) c k, fun F' H' x M' d a _ _ _ => a.elim, fun h e F' H' x M' d a b c k => h F' H' x M' d a b (c.sub e) k⟩
def XL.never : XL := ⟨fun _ _ _ => True, fun h _ => h, trivial, fun _ _ => trivial⟩
def noX : XP := fun _ _ => False
/-! ### what readings come to -/
abbrev W := St' → Mem → (D → Mem → Prop) → XP → Prop
abbrev WT := St' → Mem → (Bool → Mem → Prop) → XP → Prop
abbrev WA := St' → Mem → (List D → Mem → Prop) → XP → Prop
abbrev WO := St' → Mem → (Option Int → Mem → Prop) → XP → Prop
abbrev WG := D → St' → Mem → (St' → Mem → Prop) → XP → Prop
abbrev WGs := List D → St' → Mem → (St' → Mem → Prop) → XP → Prop
structure Ps where
  nx : St' → Mem → Prop
  rt : D → Mem → Prop
  bk : St' → Mem → Prop := fun _ _ => False
  ct : St' → Mem → Prop := fun _ _ => False
abbrev WS := St' → Mem → Ps → XP → Prop
section
variable (K : Frag) [Tb K] (L : XL)
def Po (G F : Hp) (k : D → Mem → Prop) (Q : VK) : Prop := ∀ F' H' v x M', k x M' → Ex F F' → Fr K G F' H' M' → Is K F' v x → Q v H'
def Sd (te : TE) (we : W) : Prop := ∀ G F H σ ρ M k E (Q : VK), Fr K G F H M → Sto K F σ ρ → L.ok G F E → we ρ M k E → Po K G F k Q → te σ H Q
def SdT (tt : TT) (wt : WT) : Prop := ∀ G F H σ ρ M k E (Q : Bool → Hp → Prop), Fr K G F H M → Sto K F σ ρ → L.ok G F E → wt ρ M k E → (∀ F' H' b M', k b M' → Ex F F' → Fr K G F' H' M' → Q b H') → tt σ H Q
def SdA (ta : TA) (wa : WA) : Prop := ∀ G F H σ ρ M k E (Q : List V → Hp → Prop), Fr K G F H M → Sto K F σ ρ → L.ok G F E → wa ρ M k E → (∀ F' H' vs xs M', k xs M' → Ex F F' → Fr K G F' H' M' → IsAll K F' vs xs → Q vs H') → ta σ H Q
def SdO (to : TO) (wo : WO) : Prop := ∀ G F H σ ρ M k E (Q : Option Int → Hp → Prop), Fr K G F H M → Sto K F σ ρ → L.ok G F E → wo ρ M k E → (∀ F' H' o M', k o M' → Ex F F' → Fr K G F' H' M' → Q o H') → to σ H Q
def PoG (G F : Hp) (k : St' → Mem → Prop) (Q : L2.St → Hp → Prop) : Prop := ∀ F' H' σ' ρ' M', k ρ' M' → Ex F F' → Fr K G F' H' M' → Sto K F' σ' ρ' → Q σ' H'
def SdG (tg : TG) (wg : WG) : Prop := ∀ G F H σ ρ M v x k E (Q : L2.St → Hp → Prop), Fr K G F H M → Sto K F σ ρ → L.ok G F E → Is K F v x → wg x ρ M k E → PoG K G F k Q → tg v σ H Q
def SdGs (tg : TGs) (wg : WGs) : Prop := ∀ G F H σ ρ M vs xs k E (Q : L2.St → Hp → Prop), Fr K G F H M → Sto K F σ ρ → L.ok G F E → IsAll K F vs xs → wg xs ρ M k E → PoG K G F k Q → tg vs σ H Q
def SdS (ts : TS) (ws : WS) : Prop := ∀ G F H σ ρ M P E (D : Ends), Fr K G F H M → Sto K F σ ρ → L.ok G F E → ws ρ M P E → PoG K G F P.nx D.nx → Po K G F P.rt D.rt → PoG K G F P.bk D.bk → PoG K G F P.ct D.ct → ts D σ H
end
section
variable {K : Frag} [Tb K] {L : XL} {G F F' : Hp}
theorem Po.up {k : D → Mem → Prop} {Q : VK} (h : Po K G F k Q) (e : Ex F F') : Po K G F' k Q := fun F2 H' v x M' a b c d => h F2 H' v x M' a (e.trans b) c d
theorem PoG.up {k : St' → Mem → Prop} {Q : L2.St → Hp → Prop} (h : PoG K G F k Q) (e : Ex F F') : PoG K G F' k Q := fun F2 H' v x M' a b c d => h F2 H' v x M' a (e.trans b) c d
/-! ### names, constants -/
def wVar (i : Nat) : W := fun ρ M k _ => match ρ[i]? with
  | some (some x) => k x M
  | _ => False
theorem sd_var {i : Nat} : Sd K L (tVar i) (wVar i) := fun G F H σ ρ M k E Q f s l h q => by
  unfold wVar at h
  split at h
  · rename_i x e
    obtain ⟨v, h1, h2⟩ := s.2 i x e
    exact ⟨v, h1, q F H v x M h (Ex.refl F) f h2⟩
  · cases h
def wC (x : D) : W := fun _ M k _ => k x M
theorem sd_c {v : V} {x : D} (h : ∀ F, Is K F v x) : Sd K L (tC v) (wC x) := fun G F H σ ρ M k E Q f s l hk q => q F H v x M hk (Ex.refl F) f (h F)
theorem sd_int {i : Int} : Sd K L (tC (.int i)) (wC (.int i)) := sd_c fun _ => .int i
theorem sd_str {i : Str} : Sd K L (tC (.str i)) (wC (.str i)) := sd_c fun _ => .str i
theorem sd_bl {i : Bool} : Sd K L (tC (.bl i)) (wC (.bl i)) := sd_c fun _ => .bl i
theorem sd_non : Sd K L (tC .non) (wC .non) := sd_c fun _ => .non
theorem sd_ty {n : String} : Sd K L (tC (.ty n)) (wC (.ty n)) := sd_c fun _ => .ty n
theorem sd_cls {c : Str} : Sd K L (tC (.ref (He.ga K c))) (wC (.cls c)) := sd_c fun _ => .cls c
/-! ### operators by values -/
abbrev D1 := D → Mem → (D → Mem → Prop) → Prop
abbrev D2 := D → D → Mem → (D → Mem → Prop) → Prop
abbrev DA := List D → Mem → (D → Mem → Prop) → Prop
section
variable (K)
def Sd1 (r : V → Hp → VK → Prop) (d : D1) : Prop := ∀ G F H M x v k Q, Fr K G F H M → Is K F v x → d x M k → Po K G F k Q → r v H Q
def Sd2 (r : R2) (d : D2) : Prop := ∀ G F H M x y v u k Q, Fr K G F H M → Is K F v x → Is K F u y → d x y M k → Po K G F k Q → r v u H Q
def SdB (r : List V → Hp → VK → Prop) (d : DA) : Prop := ∀ G F H M xs vs k Q, Fr K G F H M → IsAll K F vs xs → d xs M k → Po K G F k Q → r vs H Q
end
def wOp (d : D2) (wa wb : W) : W := fun ρ M k E => wa ρ M (fun x M1 => wb ρ M1 (fun y M2 => d x y M2 k) E) E
theorem sd_op {r : R2} {d : D2} {ta tb : TE} {wa wb : W} (hr : Sd2 K r d) (ha : Sd K L ta wa) (hb : Sd K L tb wb) : Sd K L (tOp r ta tb) (wOp d wa wb) := fun G F H σ ρ M k E Q f s l h q =>
  ha G F H σ ρ M _ E _ f s l h fun F1 H1 v x M1 h1 e1 f1 i1 => hb G F1 H1 σ ρ M1 _ E _ f1 (s.up e1) (L.mono l e1) h1 fun F2 H2 u y M2 h2 e2 f2 i2 =>
  hr G F2 H2 M2 x y v u k Q f2 (i1.up e2) i2 h2 (q.up (e1.trans e2))
def wUn (d : D1) (wa : W) : W := fun ρ M k E => wa ρ M (fun x M1 => d x M1 k) E
theorem sd_un {r : V → Hp → VK → Prop} {d : D1} {ta : TE} {wa : W} (hr : Sd1 K r d) (ha : Sd K L ta wa) : Sd K L (tUn r ta) (wUn d wa) := fun G F H σ ρ M k E Q f s l h q =>
  ha G F H σ ρ M _ E _ f s l h fun F1 H1 v x M1 h1 e1 f1 i1 => hr G F1 H1 M1 x v k Q f1 i1 h1 (q.up e1)
def waNil : WA := fun _ M k _ => k [] M
def waCons (we : W) (wr : WA) : WA := fun ρ M k E => we ρ M (fun x M1 => wr ρ M1 (fun xs M2 => k (x :: xs) M2) E) E
theorem sda_nil : SdA K L tNil waNil := fun G F H σ ρ M k E Q f s l h q => q F H [] [] M h (Ex.refl F) f .nil
theorem sda_cons {te : TE} {tr : TA} {we : W} {wr : WA} (ha : Sd K L te we) (hb : SdA K L tr wr) : SdA K L (tCons te tr) (waCons we wr) := fun G F H σ ρ M k E Q f s l h q =>
  ha G F H σ ρ M _ E _ f s l h fun F1 H1 v x M1 h1 e1 f1 i1 => hb G F1 H1 σ ρ M1 _ E _ f1 (s.up e1) (L.mono l e1) h1 fun F2 H2 vs xs M2 h2 e2 f2 i2 =>
  q F2 H2 (v :: vs) (x :: xs) M2 h2 (e1.trans e2) f2 (.cons (i1.up e2) i2)
def wCB (d : DA) (wa : WA) : W := fun ρ M k E => wa ρ M (fun xs M1 => d xs M1 k) E
theorem sd_cb {r : List V → Hp → VK → Prop} {d : DA} {ta : TA} {wa : WA} (hr : SdB K r d) (ha : SdA K L ta wa) : Sd K L (tCB r ta) (wCB d wa) := fun G F H σ ρ M k E Q f s l h q =>
  ha G F H σ ρ M _ E _ f s l h fun F1 H1 vs xs M1 h1 e1 f1 i1 => hr G F1 H1 M1 xs vs k Q f1 i1 h1 (q.up e1)
/-- a new list: frozen, or a cell -/
def mkL (m : Bool) (xs : List D) (M : Mem) (k : D → Mem → Prop) : Prop := match m with
  | false => k (.lst xs) M
  | true => ∀ p, M p = none → k (.ref p) (mu M p (.lst xs))
theorem mkL_ok {m : Bool} {H : Hp} {M : Mem} {vs : List V} {xs : List D} {k : D → Mem → Prop} {Q : VK} (f : Fr K G F H M) (i : IsAll K F vs xs) (h : mkL m xs M k) (q : Po K G F k Q) {p : Addr} (n : H p = none) : Q (.ref p) (upd H p (.lst vs)) := by
  cases m with
  | false => exact q _ _ (.ref p) _ M h (f.exl n) (f.laid n) (.lst upd_same (i.up (f.exl n)))
  | true => exact q F _ (.ref p) _ _ (h p (f.mh n)) (Ex.refl F) (f.own n ⟨vs, upd_same, i⟩) (.ref p)
def wTup (wa : WA) : W := fun ρ M k E => wa ρ M (fun xs M1 => Sz xs.length (k (.tup xs) M1)) E
theorem sd_tup {ta : TA} {wa : WA} (ha : SdA K L ta wa) : Sd K L (tTup ta) (wTup wa) := fun G F H σ ρ M k E Q f s l h q =>
  ha G F H σ ρ M _ E _ f s l h fun F1 H1 vs xs M1 h1 e1 f1 i1 => ⟨by rw [i1.len]; exact h1.get.1, fun p n => q _ _ (.ref p) _ M1 h1.get.2 (e1.trans (f1.exl n)) (f1.laid n) (.tup (SqT.of upd_same) (i1.up (f1.exl n)))⟩
def wLst (m : Bool) (wa : WA) : W := fun ρ M k E => wa ρ M (fun xs M1 => Sz xs.length (mkL m xs M1 k)) E
theorem sd_lst {m : Bool} {ta : TA} {wa : WA} (ha : SdA K L ta wa) : Sd K L (tLst ta) (wLst m wa) := fun G F H σ ρ M k E Q f s l h q =>
  ha G F H σ ρ M _ E _ f s l h fun F1 H1 vs xs M1 h1 e1 f1 i1 => ⟨by rw [i1.len]; exact h1.get.1, fun p n => mkL_ok f1 i1 h1.get.2 (q.up e1) n⟩
/-! ### tests -/
structure Br (t : Bool) (A B : Prop) : Prop where
  yes : t = true → A
  no : t = false → B
theorem Br.ite {b : Bool} {A B A' B' : Prop} (h : Br b A B) (h1 : A → A') (h2 : B → B') : if b = true then A' else B' := by
  cases b with
  | true => rw [if_pos rfl]; exact h1 (h.yes rfl)
  | false => rw [if_neg Bool.false_ne_true]; exact h2 (h.no rfl)
/-- a truth value -/
def isB (k : Bool → Mem → Prop) : D → Mem → Prop
  | .bl b, M => k b M
  | _, _ => False
theorem isB_ok {k : Bool → Mem → Prop} {x : D} {M : Mem} {v : V} (h : isB k x M) (i : Is K F v x) : ∃ b, v = .bl b ∧ x = .bl b ∧ k b M := by
  cases i <;> first | exact ⟨_, rfl, rfl, h⟩ | cases h
def wTest (we : W) : WT := fun ρ M k E => we ρ M (isB k) E
theorem sdt_test {te : TE} {we : W} (ha : Sd K L te we) : SdT K L (tTest te) (wTest we) := fun G F H σ ρ M k E Q f s l h q =>
  ha G F H σ ρ M _ E _ f s l h fun F1 H1 v x M1 h1 e1 f1 i1 => by
    obtain ⟨b, rfl, rfl, hb⟩ := isB_ok h1 i1
    exact ⟨b, rfl, q F1 H1 b M1 hb e1 f1⟩
theorem sdt_B {te : TE} {we : W} (ha : Sd K L te we) : SdT K L (tB te) (wTest we) := fun G F H σ ρ M k E Q f s l h q =>
  ha G F H σ ρ M _ E _ f s l h fun F1 H1 v x M1 h1 e1 f1 i1 => by
    obtain ⟨b, rfl, rfl, hb⟩ := isB_ok h1 i1
    exact ⟨b, rfl, q F1 H1 b M1 hb e1 f1⟩
def wAnd (t u : WT) : WT := fun ρ M k E => t ρ M (fun b M1 => Br b (u ρ M1 k E) (k false M1)) E
def wOr (t u : WT) : WT := fun ρ M k E => t ρ M (fun b M1 => Br b (k true M1) (u ρ M1 k E)) E
def wNot (t : WT) : WT := fun ρ M k E => t ρ M (fun b M1 => k (!b) M1) E
theorem sdt_and {t u : TT} {wt wu : WT} (ht : SdT K L t wt) (hu : SdT K L u wu) : SdT K L (tAnd t u) (wAnd wt wu) := fun G F H σ ρ M k E Q f s l h q =>
  ht G F H σ ρ M _ E _ f s l h fun F1 H1 b M1 h1 e1 f1 => h1.ite (fun h2 => hu G F1 H1 σ ρ M1 k E Q f1 (s.up e1) (L.mono l e1) h2 fun F2 H2 b2 M2 h3 e2 f2 => q F2 H2 b2 M2 h3 (e1.trans e2) f2) fun h2 => q F1 H1 _ M1 h2 e1 f1
theorem sdt_or {t u : TT} {wt wu : WT} (ht : SdT K L t wt) (hu : SdT K L u wu) : SdT K L (tOr t u) (wOr wt wu) := fun G F H σ ρ M k E Q f s l h q =>
  ht G F H σ ρ M _ E _ f s l h fun F1 H1 b M1 h1 e1 f1 => h1.ite (fun h2 => q F1 H1 _ M1 h2 e1 f1) (fun h2 => hu G F1 H1 σ ρ M1 k E Q f1 (s.up e1) (L.mono l e1) h2 fun F2 H2 b2 M2 h3 e2 f2 => q F2 H2 b2 M2 h3 (e1.trans e2) f2)
theorem sdt_not {t : TT} {wt : WT} (ht : SdT K L t wt) : SdT K L (tNot t) (wNot wt) := fun G F H σ ρ M k E Q f s l h q =>
  ht G F H σ ρ M _ E _ f s l h fun F1 H1 b M1 h1 e1 f1 => q F1 H1 _ M1 h1 e1 f1
def wIf (t : WT) (wa wb : W) : W := fun ρ M k E => t ρ M (fun b M1 => Br b (wa ρ M1 k E) (wb ρ M1 k E)) E
theorem sd_if {t : TT} {wt : WT} {ta tb : TE} {wa wb : W} (ht : SdT K L t wt) (ha : Sd K L ta wa) (hb : Sd K L tb wb) : Sd K L (tIf t ta tb) (wIf wt wa wb) := fun G F H σ ρ M k E Q f s l h q =>
  ht G F H σ ρ M _ E _ f s l h fun F1 H1 b M1 h1 e1 f1 => h1.ite (fun h2 => ha G F1 H1 σ ρ M1 k E Q f1 (s.up e1) (L.mono l e1) h2 (q.up e1)) (fun h2 => hb G F1 H1 σ ρ M1 k E Q f1 (s.up e1) (L.mono l e1) h2 (q.up e1))
/-- truth of any datum; k gets it -/
def trD : D → Mem → (Bool → Prop) → Prop
  | .non, _, k => k false
  | .bl b, _, k => k b
  | .int i, _, k => k (i != 0)
  | .str s, _, k => Sz s.length (k ((s.length : Int) != 0))
  | .lst xs, _, k => k (!xs.isEmpty)
  | .tup xs, _, k => k (!xs.isEmpty)
  | .ref a, M, k => cellL a M fun xs => k (!xs.isEmpty)
  | _, _, _ => False
theorem trD_ok {H : Hp} {M : Mem} {x : D} {v : V} {k : Bool → Prop} (f : Fr K G F H M) (i : Is K F v x) (h : trD x M k) : ∃ b, TruV K v H b ∧ k b := by
  have key : ∀ {vs : List V} {xs : List D}, IsAll K F vs xs → (!xs.isEmpty) = !vs.isEmpty := fun {vs xs} q => by cases q <;> rfl
  cases i with
  | non => exact ⟨_, rfl, h⟩
  | bl b => exact ⟨_, rfl, h⟩
  | int i => exact ⟨_, rfl, h⟩
  | str z => exact ⟨_, ⟨(Sz.get h).1, rfl⟩, (Sz.get h).2⟩
  | ty n => cases h
  | lst h1 h2 => exact ⟨_, .inl ⟨_, .inl (.inl (f.fh _ _ h1)), key h2⟩, h⟩
  | tup h1 h2 => exact ⟨_, .inr (.inl ⟨_, Evl.ex_t f.fh h1, key h2⟩), h⟩
  | ins _ _ _ _ => cases h
  | exc _ _ _ => cases h
  | dic _ => cases h
  | cls c => cases h
  | ref a =>
    obtain ⟨xs, e, hk⟩ := cellL.get h
    obtain ⟨_, vs, q1, q2⟩ := f.mc a _ e
    exact ⟨_, .inl ⟨vs, .inl (.inl q1), key q2⟩, hk⟩
  | scr h1 => cases h
  | tux _ h1 _ _ => cases h
def wTru (we : W) : WT := fun ρ M k E => we ρ M (fun x M1 => trD x M1 fun b => k b M1) E
theorem sdt_tru {te : TE} {we : W} (ha : Sd K L te we) : SdT K L (tTru K te) (wTru we) := fun G F H σ ρ M k E Q f s l h q =>
  ha G F H σ ρ M _ E _ f s l h fun F1 H1 v x M1 h1 e1 f1 i1 => by
    obtain ⟨b, hb, hk⟩ := trD_ok f1 i1 h1
    exact ⟨b, hb, q F1 H1 b M1 hk e1 f1⟩
def wOrT (wa wb : W) : W := fun ρ M k E => wa ρ M (fun x M1 => trD x M1 fun b => Br b (k x M1) (wb ρ M1 k E)) E
def wAndT (wa wb : W) : W := fun ρ M k E => wa ρ M (fun x M1 => trD x M1 fun b => Br b (wb ρ M1 k E) (k x M1)) E
def wNotT (wa : W) : W := fun ρ M k E => wa ρ M (fun x M1 => trD x M1 fun b => k (.bl (!b)) M1) E
theorem sd_orT {ta tb : TE} {wa wb : W} (ha : Sd K L ta wa) (hb : Sd K L tb wb) : Sd K L (tOrT K ta tb) (wOrT wa wb) := fun G F H σ ρ M k E Q f s l h q =>
  ha G F H σ ρ M _ E _ f s l h fun F1 H1 v x M1 h1 e1 f1 i1 => by
    obtain ⟨b, ht, hk⟩ := trD_ok f1 i1 h1
    exact ⟨b, ht, hk.ite (fun h2 => q F1 H1 v x M1 h2 e1 f1 i1) fun h2 => hb G F1 H1 σ ρ M1 k E Q f1 (s.up e1) (L.mono l e1) h2 (q.up e1)⟩
theorem sd_andT {ta tb : TE} {wa wb : W} (ha : Sd K L ta wa) (hb : Sd K L tb wb) : Sd K L (tAndT K ta tb) (wAndT wa wb) := fun G F H σ ρ M k E Q f s l h q =>
  ha G F H σ ρ M _ E _ f s l h fun F1 H1 v x M1 h1 e1 f1 i1 => by
    obtain ⟨b, ht, hk⟩ := trD_ok f1 i1 h1
    exact ⟨b, ht, hk.ite (fun h2 => hb G F1 H1 σ ρ M1 k E Q f1 (s.up e1) (L.mono l e1) h2 (q.up e1)) fun h2 => q F1 H1 v x M1 h2 e1 f1 i1⟩
theorem sd_notT {ta : TE} {wa : W} (ha : Sd K L ta wa) : Sd K L (tNotT K ta) (wNotT wa) := fun G F H σ ρ M k E Q f s l h q =>
  ha G F H σ ρ M _ E _ f s l h fun F1 H1 v x M1 h1 e1 f1 i1 => by
    obtain ⟨b, ht, hk⟩ := trD_ok f1 i1 h1
    exact ⟨b, ht, q F1 H1 _ _ M1 hk e1 f1 (.bl _)⟩
def wChain (d d' : D2) (wa wb wc : W) : W := fun ρ M k E => wa ρ M (fun x M1 => wb ρ M1 (fun y M2 => d x y M2 (isB fun b M3 => Br b (wc ρ M3 (fun z M4 => d' y z M4 k) E) (k (.bl false) M3))) E) E
theorem sd_chain {r r' : R2} {d d' : D2} {ta tb tc : TE} {wa wb wc : W} (hr : Sd2 K r d) (hr' : Sd2 K r' d') (ha : Sd K L ta wa) (hb : Sd K L tb wb) (hc : Sd K L tc wc) : Sd K L (tChain r r' ta tb tc) (wChain d d' wa wb wc) := fun G F H σ ρ M k E Q f s l h q =>
  ha G F H σ ρ M _ E _ f s l h fun F1 H1 v x M1 h1 e1 f1 i1 => hb G F1 H1 σ ρ M1 _ E _ f1 (s.up e1) (L.mono l e1) h1 fun F2 H2 u y M2 h2 e2 f2 i2 =>
  hr G F2 H2 M2 x y v u _ _ f2 (i1.up e2) i2 h2 fun F3 H3 w z M3 h3 e3 f3 i3 => by
    obtain ⟨b, rfl, rfl, hb'⟩ := isB_ok h3 i3
    have e13 := (e1.trans e2).trans e3
    exact ⟨b, rfl, hb'.ite (fun h4 => hc G F3 H3 σ ρ M3 _ E _ f3 (s.up e13) (L.mono l e13) h4 fun F4 H4 w4 z4 M4 h5 e4 f4 i4 => hr' G F4 H4 M4 y z4 u w4 k Q f4 (i2.up (e3.trans e4)) i4 h5 (q.up (e13.trans e4)))
      fun h4 => q F3 H3 _ _ M3 h4 e13 f3 (.bl _)⟩
/-! ### statements -/
def wNext : WS := fun ρ M P _ => P.nx ρ M
def wBrk : WS := fun ρ M P _ => P.bk ρ M
def wCont : WS := fun ρ M P _ => P.ct ρ M
def wSeq (s t : WS) : WS := fun ρ M P E => s ρ M { P with nx := fun ρ' M' => t ρ' M' P E } E
def wDrop (we : W) : WS := fun ρ M P E => we ρ M (fun _ M1 => P.nx ρ M1) E
def wRet (we : W) : WS := fun ρ M P E => we ρ M P.rt E
def wRetN : WS := fun ρ M P E => P.rt .non M
def wIfS (t : WT) (a b : WS) : WS := fun ρ M P E => t ρ M (fun c M1 => Br c (a ρ M1 P E) (b ρ M1 P E)) E
def wAsg (we : W) (g : WG) : WS := fun ρ M P E => we ρ M (fun x M1 => g x ρ M1 P.nx E) E
def wNever : WS := fun _ _ _ _ => False
theorem sds_next : SdS K L tNext wNext := fun G F H σ ρ M P E D f s l h a b c d => a F H σ ρ M h (Ex.refl F) f s
theorem sds_brk : SdS K L tBreak wBrk := fun G F H σ ρ M P E D f s l h a b c d => c F H σ ρ M h (Ex.refl F) f s
theorem sds_cont : SdS K L tCont wCont := fun G F H σ ρ M P E D f s l h a b c d => d F H σ ρ M h (Ex.refl F) f s
theorem sds_never : SdS K L tNever wNever := fun G F H σ ρ M P E D f s l h a b c d => h.elim
theorem sds_seq {t u : TS} {wt wu : WS} (ht : SdS K L t wt) (hu : SdS K L u wu) : SdS K L (tSeq t u) (wSeq wt wu) := fun G F H σ ρ M P E D f s l h a b c d =>
  ht G F H σ ρ M _ E _ f s l h (fun F1 H1 σ1 ρ1 M1 h1 e1 f1 s1 => hu G F1 H1 σ1 ρ1 M1 P E D f1 s1 (L.mono l e1) h1 (a.up e1) (b.up e1) (c.up e1) (d.up e1)) b c d
theorem sds_drop {te : TE} {we : W} (ha : Sd K L te we) : SdS K L (tDrop te) (wDrop we) := fun G F H σ ρ M P E D f s l h a b c d =>
  ha G F H σ ρ M _ E _ f s l h fun F1 H1 v x M1 h1 e1 f1 i1 => a F1 H1 σ ρ M1 h1 e1 f1 (s.up e1)
theorem sds_ret {te : TE} {we : W} (ha : Sd K L te we) : SdS K L (tRet te) (wRet we) := fun G F H σ ρ M P E D f s l h a b c d => ha G F H σ ρ M _ E _ f s l h b
theorem sds_retN : SdS K L tRetN wRetN := fun G F H σ ρ M P E D f s l h a b c d => b F H .non .non M h (Ex.refl F) f .non
theorem sds_if {t : TT} {u v : TS} {wt : WT} {wu wv : WS} (ht : SdT K L t wt) (hu : SdS K L u wu) (hv : SdS K L v wv) : SdS K L (tIfS t u v) (wIfS wt wu wv) := fun G F H σ ρ M P E D f s l h a b c d =>
  ht G F H σ ρ M _ E _ f s l h fun F1 H1 bb M1 h1 e1 f1 => h1.ite (fun h2 => hu G F1 H1 σ ρ M1 P E D f1 (s.up e1) (L.mono l e1) h2 (a.up e1) (b.up e1) (c.up e1) (d.up e1)) (fun h2 => hv G F1 H1 σ ρ M1 P E D f1 (s.up e1) (L.mono l e1) h2 (a.up e1) (b.up e1) (c.up e1) (d.up e1))
theorem sds_asg {te : TE} {we : W} {tg : TG} {wg : WG} (ha : Sd K L te we) (hg : SdG K L tg wg) : SdS K L (tAsg te tg) (wAsg we wg) := fun G F H σ ρ M P E D f s l h a b c d =>
  ha G F H σ ρ M _ E _ f s l h fun F1 H1 v x M1 h1 e1 f1 i1 => hg G F1 H1 σ ρ M1 v x _ E _ f1 (s.up e1) (L.mono l e1) i1 h1 (a.up e1)
/-- ghosts: a slot's cell is frozen, forgotten; a datum is frozen -/
@[irreducible] def frzD (x : D) (M : Mem) (k : D → Mem → Prop) : Prop := ∃ a c, x = .ref a ∧ M a = some c ∧ k c.toD (er M a)
theorem frzD.get {x : D} {M : Mem} {k : D → Mem → Prop} (h : frzD x M k) : ∃ a c, x = .ref a ∧ M a = some c ∧ k c.toD (er M a) := by unfold frzD at h; exact h
theorem frz_of {a : Addr} {c : Cell} {M : Mem} {k : D → Mem → Prop} (e : M a = some c) (h : k c.toD (er M a)) : frzD (.ref a) M k := by unfold frzD; exact ⟨a, c, rfl, e, h⟩
theorem frz_mu {a : Addr} {c : Cell} {M : Mem} {k : D → Mem → Prop} (e : M a = none) (h : k c.toD M) : frzD (.ref a) (mu M a c) k := frz_of mu_same (by rw [er_mu e]; exact h)
def wFrz (i : Nat) : WS := fun ρ M P _ => match ρ[i]? with
  | some (some x) => frzD x M fun y M' => P.nx (ρ.set i (some y)) M'
  | _ => False
def wKill (l : List Nat) (w : WS) : WS := fun ρ M P E => w (wipe' ρ l) M P E
theorem sds_frz {t : TS} {w : WS} {i : Nat} (h0 : SdS K L t w) : SdS K L t (wSeq (wFrz i) w) := fun G F H σ ρ M P E D f s l h a b c d => by
  have h : (match ρ[i]? with
    | some (some x) => frzD x M fun y M' => w (ρ.set i (some y)) M' P E
    | _ => False) := h
  split at h
  case h_2 => exact h.elim
  rename_i x h1
  obtain ⟨p, cc, rfl, h2, h3⟩ := h.get
  obtain ⟨v, q1, q2⟩ := s.2 i _ h1
  cases q2
  obtain ⟨F', ex, f', is⟩ := f.frz h2
  have e : σ.set i (some (V.ref p)) = σ := by
    refine List.ext_getElem? fun j => ?_
    by_cases ej : i = j
    · subst ej; rw [List.getElem?_set_self (List.getElem?_eq_some_iff.mp q1).1, q1]
    · rw [List.getElem?_set_ne ej]
  have s' := (s.up ex).set is i
  rw [e] at s'
  exact h0 G F' H σ _ _ P E D f' s' (L.mono l ex) h3 (a.up ex) (b.up ex) (c.up ex) (d.up ex)
theorem sds_kill {t : TS} {w : WS} {l : List Nat} (h0 : SdS K L t w) : SdS K L t (wKill l w) := fun G F H σ ρ M P E D f s x h a b c d => h0 G F H σ _ M P E D f (s.kills l) x h a b c d
/-- e, frozen -/
def wFz (we : W) : W := fun ρ M k E => we ρ M (fun x M1 => frzD x M1 k) E
theorem sd_fz {te : TE} {we : W} (ha : Sd K L te we) : Sd K L te (wFz we) := fun G F H σ ρ M k E Q f s l h q =>
  ha G F H σ ρ M _ E _ f s l h fun F1 H1 v x M1 h1 e1 f1 i1 => by
    obtain ⟨p, cc, rfl, h2, h3⟩ := h1.get
    cases i1
    obtain ⟨F', ex, f', is⟩ := f1.frz h2
    exact q F' H1 _ _ _ h3 (e1.trans ex) f' is
/-- e, some slots' cells forgotten -/
def drops : List Nat → St' → Mem → (Mem → Prop) → Prop
  | [], _, M, k => k M
  | i :: is, ρ, M, k => match ρ[i]? with
    | some (some (.ref a)) => ern a M fun M' => drops is ρ M' k
    | _ => drops is ρ M k
theorem Fr.drops {H : Hp} {ρ : St'} {k : Mem → Prop} : ∀ (l : List Nat) {M : Mem}, Fr K G F H M → Px.drops l ρ M k → ∃ M', Fr K G F H M' ∧ k M'
  | [], M, f, h => ⟨M, f, h⟩
  | i :: is, M, f, h => by
    unfold Px.drops at h
    split at h
    · exact Fr.drops is (f.drop _) h.get
    · exact Fr.drops is f h
def wDp (l : List Nat) (we : W) : W := fun ρ M k E => we ρ M (fun x M1 => drops l ρ M1 fun M2 => k x M2) E
theorem sd_dp {te : TE} {we : W} {l : List Nat} (ha : Sd K L te we) : Sd K L te (wDp l we) := fun G F H σ ρ M k E Q f s x h q =>
  ha G F H σ ρ M _ E _ f s x h fun F1 H1 v y M1 h1 e1 f1 i1 => by
    obtain ⟨M2, f2, hk⟩ := f1.drops l h1
    exact q F1 H1 v y _ hk e1 f2 i1
/-! ### targets -/
def wgName (i : Nat) : WG := fun x ρ M k _ => k (ρ.set i (some x)) M
theorem sdg_name {i : Nat} : SdG K L (gName i) (wgName i) := fun G F H σ ρ M v x k E Q f s l is h q => q F H _ _ M h (Ex.refl F) f (s.set is i)
def wgNil : WGs := fun xs ρ M k _ => match xs with
  | [] => k ρ M
  | _ => False
def wgCons (g : WG) (gs : WGs) : WGs := fun xs ρ M k E => match xs with
  | x :: r => g x ρ M (fun ρ1 M1 => gs r ρ1 M1 k E) E
  | [] => False
theorem sdgs_nil : SdGs K L gNil wgNil := fun G F H σ ρ M vs xs k E Q f s l is h q => by
  cases is with
  | nil => exact ⟨rfl, q F H σ ρ M h (Ex.refl F) f s⟩
  | cons _ _ => cases h
theorem sdgs_cons {g : TG} {gs : TGs} {wg : WG} {wgs : WGs} (h1 : SdG K L g wg) (h2 : SdGs K L gs wgs) : SdGs K L (gCons g gs) (wgCons wg wgs) := fun G F H σ ρ M vs xs k E Q f s l is h q => by
  cases is with
  | nil => cases h
  | cons a b => exact ⟨_, _, rfl, h1 G F H σ ρ M _ _ _ E _ f s l a h fun F1 H1 σ1 ρ1 M1 q1 e1 f1 s1 => h2 G F1 H1 σ1 ρ1 M1 _ _ k E Q f1 s1 (L.mono l e1) (b.up e1) q1 (q.up e1)⟩
/-- a count -/
def Ck : Nat → List D → Prop → Prop
  | 0, [], P => P
  | n + 1, _ :: xs, P => Ck n xs P
  | _, _, _ => False
theorem Ck.get : ∀ {n : Nat} {xs : List D} {P : Prop}, Ck n xs P → xs.length = n ∧ P
  | 0, [], _, h => ⟨rfl, h⟩
  | n + 1, _ :: xs, _, h => by
    obtain ⟨h1, h2⟩ := Ck.get (n := n) (xs := xs) h
    exact ⟨by rw [List.length_cons, h1], h2⟩
  | 0, _ :: _, _, h => by cases h
  | _ + 1, [], _, h => by cases h
def wgTup (n : Nat) (gs : WGs) : WG := fun x ρ M k E => match x with
  | .tup xs => Ck n xs (gs xs ρ M k E)
  | _ => False
theorem sdg_tup {n : Nat} {gs : TGs} {wgs : WGs} (h2 : SdGs K L gs wgs) : SdG K L (gTup K n gs) (wgTup n wgs) := fun G F H σ ρ M v x k E Q f s l is h q => by
  cases is with
  | tup a b => exact ⟨_, _, rfl, Evl.ex_t f.fh a, by rw [b.len]; exact (Ck.get h).1, h2 G F H σ ρ M _ _ k E Q f s l b (Ck.get h).2 q⟩
  | _ => cases h
/-- o[i] = x -/
@[irreducible] def setD (o i x : D) (M : Mem) (k : Mem → Prop) : Prop := ∃ a j xs n, o = .ref a ∧ i = .int j ∧ M a = some (.lst xs) ∧ ixN xs.length j = some n ∧ k (mu M a (.lst (xs.set n x)))
theorem setD.get {o i x : D} {M : Mem} {k : Mem → Prop} (h : setD o i x M k) : ∃ a j xs n, o = .ref a ∧ i = .int j ∧ M a = some (.lst xs) ∧ ixN xs.length j = some n ∧ k (mu M a (.lst (xs.set n x))) := by unfold setD at h; exact h
theorem set_of {a : Addr} {j : Int} {x : D} {M : Mem} {xs : List D} {n : Nat} {k : Mem → Prop} (e : M a = some (.lst xs)) (hn : ixN xs.length j = some n) (h : k (mu M a (.lst (xs.set n x)))) : setD (.ref a) (.int j) x M k := by unfold setD; exact ⟨a, j, xs, n, rfl, rfl, e, hn, h⟩
theorem set_mu {a : Addr} {j : Int} {x : D} {M : Mem} {xs : List D} {n : Nat} {k : Mem → Prop} (hn : ixN xs.length j = some n) (h : k (mu M a (.lst (xs.set n x)))) : setD (.ref a) (.int j) x (mu M a (.lst xs)) k := set_of mu_same hn (by rw [mu_mu]; exact h)
def wgSub (wo wi : W) : WG := fun x ρ M k E => wo ρ M (fun o M1 => wi ρ M1 (fun i M2 => setD o i x M2 fun M3 => k ρ M3) E) E
theorem sdg_sub {to ti : TE} {wo wi : W} (ho : Sd K L to wo) (hi : Sd K L ti wi) : SdG K L (gSub to ti rSetL) (wgSub wo wi) := fun G F H σ ρ M v x k E Q f s l is h q =>
  ho G F H σ ρ M _ E _ f s l h fun F1 H1 v1 x1 M1 h1 e1 f1 i1 => hi G F1 H1 σ ρ M1 _ E _ f1 (s.up e1) (L.mono l e1) h1 fun F2 H2 u y M2 h2 e2 f2 i2 => by
    obtain ⟨a, j, xs, n, rfl, rfl, h3, h4, h5⟩ := h2.get
    cases i1
    cases i2
    obtain ⟨_, vs, q1, q2⟩ := f2.mc a _ h3
    exact ⟨a, vs, j, n, rfl, rfl, q1, by rw [q2.len]; exact h4, q F2 _ σ ρ _ h5 (e1.trans e2) (f2.chg h3 ⟨_, upd_same, q2.set n (is.up (e1.trans e2))⟩) (s.up (e1.trans e2))⟩
def wPar (i j : Nat) (wa : WA) : WS := fun ρ M P E => wa ρ M (fun xs M1 => match xs with
  | [x, y] => P.nx ((ρ.set i (some x)).set j (some y)) M1
  | _ => False) E
def wPar3 (i j m : Nat) (wa : WA) : WS := fun ρ M P E => wa ρ M (fun xs M1 => match xs with
  | [x, y, z] => P.nx (((ρ.set i (some x)).set j (some y)).set m (some z)) M1
  | _ => False) E
theorem sds_par {i j : Nat} {ta : TA} {wa : WA} (ha : SdA K L ta wa) : SdS K L (tPar i j ta) (wPar i j wa) := fun G F H σ ρ M P E D f s l h a b c d =>
  ha G F H σ ρ M _ E _ f s l h fun F1 H1 vs xs M1 h1 e1 f1 i1 => by
    split at h1
    case h_2 => exact h1.elim
    cases i1 with
    | cons i1 r => cases r with
      | cons i2 r => cases r; exact ⟨_, _, rfl, a F1 H1 _ _ M1 h1 e1 f1 (((s.up e1).set i1 i).set i2 j)⟩
theorem sds_par3 {i j m : Nat} {ta : TA} {wa : WA} (ha : SdA K L ta wa) : SdS K L (tPar3 i j m ta) (wPar3 i j m wa) := fun G F H σ ρ M P E D f s l h a b c d =>
  ha G F H σ ρ M _ E _ f s l h fun F1 H1 vs xs M1 h1 e1 f1 i1 => by
    split at h1
    case h_2 => exact h1.elim
    cases i1 with
    | cons i1 r => cases r with
      | cons i2 r => cases r with
        | cons i3 r => cases r; exact ⟨_, _, _, rfl, a F1 H1 _ _ M1 h1 e1 f1 ((((s.up e1).set i1 i).set i2 j).set i3 m)⟩
/-- parts of slices -/
def woNone : WO := fun _ M k _ => k none M
def woSome (we : W) : WO := fun ρ M k E => we ρ M (fun x M1 => match x with
  | .int i => k (some i) M1
  | _ => False) E
theorem sdo_none : SdO K L tNoPart woNone := fun G F H σ ρ M k E Q f s l h q => q F H none M h (Ex.refl F) f
theorem sdo_some {te : TE} {we : W} (ha : Sd K L te we) : SdO K L (tPart te) (woSome we) := fun G F H σ ρ M k E Q f s l h q =>
  ha G F H σ ρ M _ E _ f s l h fun F1 H1 v x M1 h1 e1 f1 i1 => by
    cases i1 <;> first | exact ⟨_, rfl, q F1 H1 _ M1 h1 e1 f1⟩ | cases h1
end
end Px

set_option Elab.async false
set_option linter.all false
set_option maxRecDepth 100000
set_option maxHeartbeats 4000000
/-! Loops, comprehensions, fields, calls. -/
namespace Px
open PySem PySem.Spec PyProof.Rows L2 Rl RZ RT
open Evl (Ex)
section
variable {K : Frag} [Tb K] {L : XL} {G F F' : Hp}
/-! ### what is walked -/
/-- the items; the lists that must not change meanwhile -/
structure Its where
  xs : List D
  gd : List (Addr × List D) := []
def Gd : List (Addr × List D) → Mem → Prop → Prop
  | [], _, P => P
  | (a, ys) :: gs, M, P => M a = some (.lst ys) ∧ Gd gs M P
theorem Gd.get {M : Mem} {P : Prop} : ∀ {gs : List (Addr × List D)}, Gd gs M P → (∀ p ∈ gs, M p.1 = some (.lst p.2)) ∧ P
  | [], h => ⟨(fun p hp => by cases hp), h⟩
  | (a, ys) :: gs, h => by
    obtain ⟨h1, h2⟩ := h
    obtain ⟨h3, h4⟩ := Gd.get h2
    refine ⟨fun p hp => ?_, h4⟩
    rcases List.mem_cons.mp hp with e | e
    · subst e; exact h1
    · exact h3 p e
abbrev WI := St' → Mem → (Its → Mem → Prop) → XP → Prop
def GdM (gs : List (Addr × List D)) (M : Mem) : Prop := ∀ p ∈ gs, M p.1 = some (.lst p.2)
structure ItOk (K : Frag) [Tb K] (G F : Hp) (J : It) (I : Its) : Prop where
  go : ∀ (i : Nat) (G1 F1 H1 : Hp) (M : Mem), i < I.xs.length → Ex F F1 → Fr K G1 F1 H1 M → GdM I.gd M → J.go i H1
  stop : ∀ (i : Nat) (G1 F1 H1 : Hp) (M : Mem), I.xs.length ≤ i → Ex F F1 → Fr K G1 F1 H1 M → GdM I.gd M → J.stop i H1
  yld : ∀ (i : Nat) (G1 F1 H1 : Hp) (M : Mem) (v : V) (H2 : Hp) (x : D), I.xs[i]? = some x → Ex F F1 → Fr K G1 F1 H1 M → GdM I.gd M → J.yld i H1 v H2 → ∃ F2, Ex F1 F2 ∧ Fr K G1 F2 H2 M ∧ Is K F2 v x
section
variable (K) (L)
def SdI (wi : TI) (wj : WI) : Prop := ∀ G F H σ ρ M k E (R : It → Hp → Prop), Fr K G F H M → Sto K F σ ρ → L.ok G F E → wj ρ M k E → (∀ F' H' J I M', k I M' → Ex F F' → Fr K G F' H' M' → ItOk K G F' J I → R J H') → wi σ H R
end
/-- a list or tuple that is read: its items; where it must not change -/
def asL : D → Mem → (List D → List (Addr × List D) → Prop) → Prop
  | .lst xs, _, k => k xs []
  | .ref a, M, k => cellL a M fun xs => k xs [(a, xs)]
  | _, _, _ => False
/-- a list at a, whatever holds it -/
def LAt (K : Frag) (F : Hp) (a : Addr) (xs : List D) (gd : List (Addr × List D)) : Prop := (gd = [] ∧ ∃ vs, F a = some (.lst vs) ∧ IsAll K F vs xs) ∨ gd = [(a, xs)]
theorem LAt.up {a : Addr} {xs : List D} {gd : List (Addr × List D)} (h : LAt K F a xs gd) (e : Ex F F') : LAt K F' a xs gd := by
  rcases h with ⟨h1, vs, h2, h3⟩ | h
  · exact .inl ⟨h1, vs, e _ _ h2, h3.up e⟩
  · exact .inr h
theorem LAt.get {a : Addr} {xs : List D} {gd : List (Addr × List D)} {G1 H1 : Hp} {M : Mem} (h : LAt K F a xs gd) (f : Fr K G1 F H1 M) (g : GdM gd M) : ∃ vs, H1 a = some (.lst vs) ∧ IsAll K F vs xs := by
  rcases h with ⟨h1, vs, h2, h3⟩ | h
  · exact ⟨vs, f.fh _ _ h2, h3⟩
  · subst h
    have := g (a, xs) (by simp)
    exact (f.mc _ _ this).2
theorem asL_ok {x : D} {v : V} {M : Mem} {H : Hp} {k : List D → List (Addr × List D) → Prop} (f : Fr K G F H M) (i : Is K F v x) (h : asL x M k) : ∃ a xs gd, v = .ref a ∧ LAt K F a xs gd ∧ GdM gd M ∧ k xs gd := by
  cases i with
  | lst h1 h2 => exact ⟨_, _, _, rfl, .inl ⟨rfl, _, h1, h2⟩, (fun p hp => by cases hp), h⟩
  | ref a =>
    obtain ⟨xs, e, hk⟩ := cellL.get h
    exact ⟨a, xs, _, rfl, .inr rfl, (fun p hp => by rw [List.mem_singleton.mp hp]; exact e), hk⟩
  | _ => cases h
theorem itok_l {a : Addr} {xs : List D} {gd : List (Addr × List D)} (h : LAt K F a xs gd) : ItOk K G F (Itl K a) ⟨xs, gd⟩ where
  go := fun i G1 F1 H1 M hi e f g => by
    obtain ⟨vs, h1, h2⟩ := (h.up e).get f g
    exact ⟨vs, vs[i]'(by rw [h2.len]; exact hi), Evl.sq_of h1, List.getElem?_eq_getElem _⟩
  stop := fun i G1 F1 H1 M hi e f g => by
    obtain ⟨vs, h1, h2⟩ := (h.up e).get f g
    exact ⟨vs, Evl.sq_of h1, by rw [h2.len]; exact hi⟩
  yld := fun i G1 F1 H1 M v H2 x hx e f g ⟨eh, q⟩ => by
    subst eh
    obtain ⟨vs, h1, h2⟩ := (h.up e).get f g
    have z := q vs (Evl.sq_of h1)
    obtain ⟨u, hu, is⟩ := h2.get hx
    rw [z] at hu; cases hu
    exact ⟨F1, Ex.refl F1, f, is⟩
theorem itok_t {a : Addr} {vs : List V} {xs : List D} (h : SqT K F a vs) (i1 : IsAll K F vs xs) : ItOk K G F (Itt K a) ⟨xs, []⟩ where
  go := fun i G1 F1 H1 M hi e f g => ⟨vs, vs[i]'(by rw [i1.len]; exact hi), Evl.ex_t (e.trans f.fh) h, List.getElem?_eq_getElem _⟩
  stop := fun i G1 F1 H1 M hi e f g => ⟨vs, Evl.ex_t (e.trans f.fh) h, by rw [i1.len]; exact hi⟩
  yld := fun i G1 F1 H1 M v H2 x hx e f g ⟨eh, q⟩ => by
    subst eh
    have z := q vs (Evl.ex_t (e.trans f.fh) h)
    obtain ⟨u, hu, is⟩ := i1.get hx
    rw [z] at hu; cases hu
    exact ⟨F1, Ex.refl F1, f, is.up e⟩
/-- lo, lo + 1, .. (n of them); by steps of c -/
@[irreducible] def irng (lo : Int) (n : Nat) : List Int := (List.range n).map fun i : Nat => lo + i
@[irreducible] def irngC (lo c : Int) (n : Nat) : List Int := (List.range n).map fun i : Nat => lo + i * c
abbrev rngD (lo : Int) (n : Nat) : List D := Li (irng lo n)
theorem itok_r {lo : Int} {n : Nat} : ItOk K G F (Itr lo n) ⟨rngD lo n, []⟩ where
  go := fun i G1 F1 H1 M hi e f g => by
    have h : i < n := by simpa [irng] using hi
    exact h
  stop := fun i G1 F1 H1 M hi e f g => by
    have h : n ≤ i := by simpa [irng] using hi
    exact h
  yld := fun i G1 F1 H1 M v H2 x hx e f g ⟨eh, q⟩ => by
    subst eh q
    refine ⟨F1, Ex.refl F1, f, ?_⟩
    have hx : (Li (irng lo n))[i]? = some x := hx
    rw [List.getElem?_map] at hx
    obtain ⟨j, hj, ex⟩ := Option.map_eq_some_iff.mp hx
    unfold irng at hj
    rw [List.getElem?_map] at hj
    obtain ⟨p, hp, e⟩ := Option.map_eq_some_iff.mp hj
    obtain ⟨h1, h2⟩ := List.getElem?_eq_some_iff.mp hp
    rw [List.getElem_range] at h2
    subst h2 e ex
    exact .int _
abbrev rngC (lo c : Int) (n : Nat) : List D := Li (irngC lo c n)
theorem itok_c {lo c : Int} {n : Nat} : ItOk K G F (Itc lo c n) ⟨rngC lo c n, []⟩ where
  go := fun i G1 F1 H1 M hi e f g => by
    have h : i < n := by simpa [irngC] using hi
    exact h
  stop := fun i G1 F1 H1 M hi e f g => by
    have h : n ≤ i := by simpa [irngC] using hi
    exact h
  yld := fun i G1 F1 H1 M v H2 x hx e f g ⟨eh, q⟩ => by
    subst eh q
    refine ⟨F1, Ex.refl F1, f, ?_⟩
    have hx : (Li (irngC lo c n))[i]? = some x := hx
    rw [List.getElem?_map] at hx
    obtain ⟨j, hj, ex⟩ := Option.map_eq_some_iff.mp hx
    unfold irngC at hj
    rw [List.getElem?_map] at hj
    obtain ⟨p, hp, e⟩ := Option.map_eq_some_iff.mp hj
    obtain ⟨h1, h2⟩ := List.getElem?_eq_some_iff.mp hp
    rw [List.getElem_range] at h2
    subst h2 e ex
    exact .int _
def wiAny (we : W) : WI := fun ρ M k E => we ρ M (fun x M1 => match x with
  | .tup xs => k ⟨xs, []⟩ M1
  | x => asL x M1 fun xs gd => k ⟨xs, gd⟩ M1) E
theorem sdi_any {te : TE} {we : W} (ha : Sd K L te we) : SdI K L (iSeq K te) (wiAny we) := fun G F H σ ρ M k E R f s l h q =>
  ha G F H σ ρ M _ E _ f s l h fun F1 H1 v x M1 h1 e1 f1 i1 => by
    have key : asL x M1 (fun xs gd => k ⟨xs, gd⟩ M1) → ∃ a, v = V.ref a ∧ (((∃ xs, SqL K H1 a xs) ∧ R (Itl K a) H1) ∨ ((∃ xs, SqT K H1 a xs) ∧ R (Itt K a) H1)) := fun h2 => by
      obtain ⟨a, xs, gd, rfl, la, g, hk⟩ := asL_ok f1 i1 h2
      obtain ⟨vs, q1, q2⟩ := la.get f1 g
      exact ⟨a, rfl, .inl ⟨⟨vs, Evl.sq_of q1⟩, q F1 H1 _ _ M1 hk e1 f1 (itok_l la)⟩⟩
    cases x with
    | tup xs =>
      cases i1 with
      | tup a b => exact ⟨_, rfl, .inr ⟨⟨_, Evl.ex_t f1.fh a⟩, q F1 H1 _ _ M1 h1 e1 f1 (itok_t a b)⟩⟩
    | _ => exact key h1
@[irreducible] def Rg (j : Int) (P : Prop) : Prop := (-(2 ^ 62) ≤ j ∧ j < 2 ^ 62) ∧ P
theorem Rg.get {j : Int} {P : Prop} (h : Rg j P) : (-(2 ^ 62) ≤ j ∧ j < 2 ^ 62) ∧ P := by unfold Rg at h; exact h
theorem rg {j : Int} {P : Prop} (h1 : -(2 ^ 62) ≤ j ∧ j < 2 ^ 62) (h : P) : Rg j P := by unfold Rg; exact ⟨h1, h⟩
@[irreducible] def Rg3 (i j c : Int) (k : Nat → Prop) : Prop := ∃ n, RgC i j c n ∧ k n
theorem Rg3.get {i j c : Int} {k : Nat → Prop} (h : Rg3 i j c k) : ∃ n, RgC i j c n ∧ k n := by unfold Rg3 at h; exact h
theorem rg3 {i j c : Int} {n : Nat} {k : Nat → Prop} (h1 : RgC i j c n) (h : k n) : Rg3 i j c k := by unfold Rg3; exact ⟨n, h1, h⟩
def wiR1 (wa : WA) : WI := fun ρ M k E => wa ρ M (fun xs M1 => match xs with
  | [.int j] => Rg j (k ⟨rngD 0 j.toNat, []⟩ M1)
  | _ => False) E
def wiR2 (wa : WA) : WI := fun ρ M k E => wa ρ M (fun xs M1 => match xs with
  | [.int i, .int j] => Rg i (Rg j (k ⟨rngD i (j - i).toNat, []⟩ M1))
  | _ => False) E
def wiR3 (wa : WA) : WI := fun ρ M k E => wa ρ M (fun xs M1 => match xs with
  | [.int i, .int j, .int c] => Rg3 i j c fun n => k ⟨rngC i c n, []⟩ M1
  | _ => False) E
theorem sdi_r1 {ta : TA} {wa : WA} (ha : SdA K L ta wa) : SdI K L (iRng1 ta) (wiR1 wa) := fun G F H σ ρ M k E R f s l h q =>
  ha G F H σ ρ M _ E _ f s l h fun F1 H1 vs xs M1 h1 e1 f1 i1 => by
    split at h1
    · cases i1 with
      | cons a b =>
        cases a; cases b
        exact ⟨_, rfl, h1.get.1.1, h1.get.1.2, q F1 H1 _ _ M1 h1.get.2 e1 f1 itok_r⟩
    · exact h1.elim
theorem sdi_r2 {ta : TA} {wa : WA} (ha : SdA K L ta wa) : SdI K L (iRng2 ta) (wiR2 wa) := fun G F H σ ρ M k E R f s l h q =>
  ha G F H σ ρ M _ E _ f s l h fun F1 H1 vs xs M1 h1 e1 f1 i1 => by
    split at h1
    · cases i1 with
      | cons a b =>
        cases b with
        | cons b c =>
          cases a; cases b; cases c
          exact ⟨_, _, rfl, ⟨h1.get.1.1, h1.get.1.2, h1.get.2.get.1⟩, q F1 H1 _ _ M1 h1.get.2.get.2 e1 f1 itok_r⟩
    · exact h1.elim
theorem sdi_r3 {ta : TA} {wa : WA} (ha : SdA K L ta wa) : SdI K L (iRng3 ta) (wiR3 wa) := fun G F H σ ρ M k E R f s l h q =>
  ha G F H σ ρ M _ E _ f s l h fun F1 H1 vs xs M1 h1 e1 f1 i1 => by
    split at h1
    · cases i1 with
      | cons a b =>
        cases b with
        | cons b c =>
          cases c with
          | cons c d =>
            cases a; cases b; cases c; cases d
            obtain ⟨n, h2, h3⟩ := h1.get
            exact ⟨_, _, _, n, rfl, h2, q F1 H1 _ _ M1 h3 e1 f1 itok_c⟩
    · exact h1.elim
def zipD : List D → List D → List D
  | x :: xs, y :: ys => .tup [x, y] :: zipD xs ys
  | _, _ => []
theorem zipD_get : ∀ {xs ys : List D} {i : Nat} {z : D}, (zipD xs ys)[i]? = some z → ∃ x y, xs[i]? = some x ∧ ys[i]? = some y ∧ z = .tup [x, y]
  | [], _, _, _, h => by simp [zipD] at h
  | _ :: _, [], _, _, h => by simp [zipD] at h
  | x :: xs, y :: ys, 0, z, h => by simp [zipD] at h; exact ⟨x, y, rfl, rfl, h.symm⟩
  | x :: xs, y :: ys, i + 1, z, h => by simpa using zipD_get (xs := xs) (ys := ys) (i := i) (by simpa [zipD] using h)
theorem zipD_len : ∀ (xs ys : List D), (zipD xs ys).length = min xs.length ys.length
  | [], _ => by simp [zipD]
  | _ :: _, [] => by simp [zipD]
  | x :: xs, y :: ys => by simp [zipD, zipD_len xs ys]
theorem itok_z {a b : Addr} {xs ys : List D} {g1 g2 : List (Addr × List D)} (h : LAt K F a xs g1) (g : LAt K F b ys g2) : ItOk K G F (Itz K a b) ⟨zipD xs ys, g1 ++ g2⟩ where
  go := fun i G1 F1 H1 M hi e f gd => by
    have hi : i < (zipD xs ys).length := hi
    rw [zipD_len] at hi
    obtain ⟨vs, p1, p2⟩ := (h.up e).get f (fun p hp => gd p (List.mem_append_left _ hp))
    obtain ⟨ws, q1, q2⟩ := (g.up e).get f (fun p hp => gd p (List.mem_append_right _ hp))
    exact ⟨vs, ws, vs[i]'(by rw [p2.len]; omega), ws[i]'(by rw [q2.len]; omega), Evl.sq_of p1, Evl.sq_of q1, List.getElem?_eq_getElem _, List.getElem?_eq_getElem _⟩
  stop := fun i G1 F1 H1 M hi e f gd => by
    have hi : (zipD xs ys).length ≤ i := hi
    rw [zipD_len] at hi
    obtain ⟨vs, p1, p2⟩ := (h.up e).get f (fun p hp => gd p (List.mem_append_left _ hp))
    obtain ⟨ws, q1, q2⟩ := (g.up e).get f (fun p hp => gd p (List.mem_append_right _ hp))
    exact ⟨vs, ws, Evl.sq_of p1, Evl.sq_of q1, by rw [p2.len, q2.len]; omega⟩
  yld := fun i G1 F1 H1 M v H2 x hx e f gd ⟨T, x1, y1, r1, r2, r3, r4, r5⟩ => by
    subst r1 r3
    obtain ⟨vs, p1, p2⟩ := (h.up e).get f (fun p hp => gd p (List.mem_append_left _ hp))
    obtain ⟨ws, q1, q2⟩ := (g.up e).get f (fun p hp => gd p (List.mem_append_right _ hp))
    obtain ⟨dx, dy, hx1, hy1, rfl⟩ := zipD_get hx
    obtain ⟨u1, hu1, is1⟩ := p2.get hx1
    obtain ⟨u2, hu2, is2⟩ := q2.get hy1
    rw [r4 vs (Evl.sq_of p1)] at hu1; cases hu1
    rw [r5 ws (Evl.sq_of q1)] at hu2; cases hu2
    exact ⟨_, f.exl r2, f.laid r2, .tup (SqT.of upd_same) (.cons (is1.up (f.exl r2)) (.cons (is2.up (f.exl r2)) .nil))⟩
theorem itok_zT {a b : Addr} {vs ws : List V} {xs ys : List D} (h : SqT K F a vs) (i1 : IsAll K F vs xs) (g : SqT K F b ws) (i2 : IsAll K F ws ys) : ItOk K G F (ItzT K a b) ⟨zipD xs ys, []⟩ where
  go := fun i G1 F1 H1 M hi e f gd => by
    have hi : i < (zipD xs ys).length := hi
    rw [zipD_len] at hi
    exact ⟨vs, ws, vs[i]'(by rw [i1.len]; omega), ws[i]'(by rw [i2.len]; omega), Evl.ex_t (e.trans f.fh) h, Evl.ex_t (e.trans f.fh) g, List.getElem?_eq_getElem _, List.getElem?_eq_getElem _⟩
  stop := fun i G1 F1 H1 M hi e f gd => ⟨vs, ws, Evl.ex_t (e.trans f.fh) h, Evl.ex_t (e.trans f.fh) g, by
    have hi : (zipD xs ys).length ≤ i := hi
    rw [zipD_len] at hi; rw [i1.len, i2.len]; omega⟩
  yld := fun i G1 F1 H1 M v H2 x hx e f gd ⟨T, x1, y1, r1, r2, r3, r4, r5⟩ => by
    subst r1 r3
    obtain ⟨dx, dy, hx1, hy1, rfl⟩ := zipD_get hx
    obtain ⟨u1, hu1, is1⟩ := i1.get hx1
    obtain ⟨u2, hu2, is2⟩ := i2.get hy1
    rw [r4 vs (Evl.ex_t (e.trans f.fh) h)] at hu1; cases hu1
    rw [r5 ws (Evl.ex_t (e.trans f.fh) g)] at hu2; cases hu2
    exact ⟨_, f.exl r2, f.laid r2, .tup (SqT.of upd_same) (.cons (is1.up (e.trans (f.exl r2))) (.cons (is2.up (e.trans (f.exl r2))) .nil))⟩
def wiZip (wa : WA) : WI := fun ρ M k E => wa ρ M (fun xs M1 => match xs with
  | [.tup xs, .tup ys] => k ⟨zipD xs ys, []⟩ M1
  | [x, y] => asL x M1 fun xs g1 => asL y M1 fun ys g2 => k ⟨zipD xs ys, g1 ++ g2⟩ M1
  | _ => False) E
theorem sdi_zip {ta : TA} {wa : WA} (ha : SdA K L ta wa) : SdI K L (iZipA K ta) (wiZip wa) := fun G F H σ ρ M k E R f s l h q =>
  ha G F H σ ρ M _ E _ f s l h fun F1 H1 vs xs M1 h1 e1 f1 i1 => by
    split at h1
    · cases i1 with
      | cons a b =>
        cases b with
        | cons b c =>
          cases c
          cases a with
          | tup a1 a2 =>
            cases b with
            | tup b1 b2 => exact ⟨_, _, _, _, rfl, .inr ⟨Evl.ex_t f1.fh a1, Evl.ex_t f1.fh b1, q F1 H1 _ _ M1 h1 e1 f1 (itok_zT a1 a2 b1 b2)⟩⟩
    · cases i1 with
      | cons a b =>
        cases b with
        | cons b c =>
          cases c
          obtain ⟨a', xs, g1, rfl, la, gd1, h2⟩ := asL_ok f1 a h1
          obtain ⟨b', ys, g2, rfl, lb, gd2, h3⟩ := asL_ok f1 b h2
          obtain ⟨vs, p1, p2⟩ := la.get f1 gd1
          obtain ⟨ws, q1, q2⟩ := lb.get f1 gd2
          exact ⟨_, _, _, _, rfl, .inl ⟨Evl.sq_of p1, Evl.sq_of q1, q F1 H1 _ _ M1 h3 e1 f1 (itok_z la lb)⟩⟩
    · exact h1.elim
def enumD (n : Nat) : List D → List D
  | [] => []
  | x :: xs => .tup [.int n, x] :: enumD (n + 1) xs
theorem enumD_get : ∀ {xs : List D} {n i : Nat} {z : D}, (enumD n xs)[i]? = some z → ∃ x, xs[i]? = some x ∧ z = .tup [.int ((n + i : Nat) : Int), x]
  | [], _, _, _, h => by simp [enumD] at h
  | x :: xs, n, 0, z, h => by simp [enumD] at h; exact ⟨x, rfl, h.symm⟩
  | x :: xs, n, i + 1, z, h => by
    obtain ⟨y, e1, e2⟩ := enumD_get (xs := xs) (n := n + 1) (i := i) (by simpa [enumD] using h)
    exact ⟨y, by simpa using e1, by rw [e2, show n + 1 + i = n + (i + 1) by omega]⟩
theorem enumD_len : ∀ (xs : List D) (n : Nat), (enumD n xs).length = xs.length
  | [], _ => rfl
  | x :: xs, n => by simp [enumD, enumD_len xs]
theorem itok_e {a : Addr} {xs : List D} {gd : List (Addr × List D)} (h : LAt K F a xs gd) : ItOk K G F (Ite K a) ⟨enumD 0 xs, gd⟩ where
  go := fun i G1 F1 H1 M hi e f g => by
    have hi : i < (enumD 0 xs).length := hi
    rw [enumD_len] at hi
    obtain ⟨vs, h1, h2⟩ := (h.up e).get f g
    exact ⟨vs, vs[i]'(by rw [h2.len]; omega), Evl.sq_of h1, List.getElem?_eq_getElem _⟩
  stop := fun i G1 F1 H1 M hi e f g => by
    have hi : (enumD 0 xs).length ≤ i := hi
    rw [enumD_len] at hi
    obtain ⟨vs, h1, h2⟩ := (h.up e).get f g
    exact ⟨vs, Evl.sq_of h1, by rw [h2.len]; omega⟩
  yld := fun i G1 F1 H1 M v H2 x hx e f g ⟨T, x1, r1, r2, r3, r4⟩ => by
    subst r1 r3
    obtain ⟨vs, h1, h2⟩ := (h.up e).get f g
    obtain ⟨dx, hx1, rfl⟩ := enumD_get hx
    obtain ⟨u1, hu1, is1⟩ := h2.get hx1
    rw [r4 vs (Evl.sq_of h1)] at hu1; cases hu1
    rw [Nat.zero_add]
    exact ⟨_, f.exl r2, f.laid r2, .tup (SqT.of upd_same) (.cons (.int _) (.cons (is1.up (f.exl r2)) .nil))⟩
def wiEnum (wa : WA) : WI := fun ρ M k E => wa ρ M (fun xs M1 => match xs with
  | [x] => asL x M1 fun xs gd => k ⟨enumD 0 xs, gd⟩ M1
  | _ => False) E
theorem sdi_enum {ta : TA} {wa : WA} (ha : SdA K L ta wa) : SdI K L (iEnum K ta) (wiEnum wa) := fun G F H σ ρ M k E R f s l h q =>
  ha G F H σ ρ M _ E _ f s l h fun F1 H1 vs xs M1 h1 e1 f1 i1 => by
    split at h1
    · cases i1 with
      | cons a b =>
        cases b
        obtain ⟨a', xs, g1, rfl, la, gd1, h2⟩ := asL_ok f1 a h1
        obtain ⟨vs, p1, p2⟩ := la.get f1 gd1
        exact ⟨_, _, rfl, Evl.sq_of p1, q F1 H1 _ _ M1 h2 e1 f1 (itok_e la)⟩
    · exact h1.elim
/-! ### loops -/
def loopS (gd : List (Addr × List D)) (tg : WG) (body : WS) (ks : List Nat) (P : Ps) (E : XP) : List D → St' → Mem → Prop
  | [], ρ, M => Gd gd M (P.nx ρ M)
  | x :: xs, ρ, M => Gd gd M (tg x ρ M (fun ρ2 M2 => body ρ2 M2 { nx := fun ρ3 M3 => loopS gd tg body ks P E xs (wipe' ρ3 ks) M3, rt := P.rt, bk := fun ρ3 M3 => P.nx (wipe' ρ3 ks) M3, ct := fun ρ3 M3 => loopS gd tg body ks P E xs (wipe' ρ3 ks) M3 } E) E)
def wFor (wi : WI) (tg : WG) (body : WS) (ks : List Nat) : WS := fun ρ M P E => wi ρ M (fun J M1 => loopS J.gd tg body ks P E J.xs (wipe' ρ ks) M1) E
theorem sds_for {wi : TI} {wj : WI} {g : TG} {wg : WG} {tb : TS} {wb : WS} {ks : List Nat} (hi : SdI K L wi wj) (hg : SdG K L g wg) (hb : SdS K L tb wb) : SdS K L (tFor wi g tb) (wFor wj wg wb ks) := fun G F H σ ρ M P E D f s l h a b c d =>
  hi G F H σ ρ M _ E _ f s l h fun F0 H0 J I M0 h0 e0 f0 it => by
    refine ⟨fun i m σ H => m = I.xs.length - i ∧ i ≤ I.xs.length ∧ ∃ F ρ M, Ex F0 F ∧ Fr K G F H M ∧ Sto K F σ ρ ∧ loopS I.gd wg wb ks P E (I.xs.drop i) ρ M, ⟨_, rfl, Nat.zero_le _, F0, _, M0, Ex.refl F0, f0, (s.up e0).kills ks, h0⟩, fun i m σ1 H1 hW => ?_⟩
    obtain ⟨rfl, hi, F1, ρ1, M1, e1, f1, s1, hl⟩ := hW
    by_cases e : i = I.xs.length
    · subst e
      rw [List.drop_length] at hl
      obtain ⟨g1, h1⟩ := Gd.get (show Gd I.gd M1 (P.nx ρ1 M1) from hl)
      exact .inl ⟨it.stop _ G F1 H1 M1 (Nat.le_refl _) e1 f1 g1, a F1 H1 σ1 ρ1 M1 h1 (e0.trans e1) f1 s1⟩
    · have hlt : i < I.xs.length := by omega
      rw [List.drop_eq_getElem_cons hlt] at hl
      obtain ⟨g1, h1⟩ := Gd.get (show Gd I.gd M1 (wg (I.xs[i]'hlt) ρ1 M1 _ E) from hl)
      refine .inr ⟨it.go i G F1 H1 M1 hlt e1 f1 g1, fun σ H => ∃ F ρ M, Ex F0 F ∧ Fr K G F H M ∧ Sto K F σ ρ ∧ loopS I.gd wg wb ks P E (I.xs.drop (i + 1)) ρ M, fun σ' H' hN => ⟨_, by omega, rfl, hlt, hN⟩, fun v H2 hy => ?_⟩
      obtain ⟨F2, e2, f2, is⟩ := it.yld i G F1 H1 M1 v H2 (I.xs[i]'hlt) (List.getElem?_eq_getElem hlt) e1 f1 g1 hy
      have e02 := e0.trans (e1.trans e2)
      refine hg G F2 H2 σ1 ρ1 M1 v _ _ E _ f2 (s1.up e2) (L.mono l e02) is h1 fun F3 H3 σ3 ρ3 M3 h3 e3 f3 s3 => ?_
      have e03 := e02.trans e3
      exact hb G F3 H3 σ3 ρ3 M3 _ E _ f3 s3 (L.mono l e03) h3 (fun F' H' σ' ρ' M' q u f' s' => ⟨F', _, M', (e1.trans e2).trans (e3.trans u), f', s'.kills ks, q⟩) (b.up e03) (fun F' H' σ' ρ' M' q u f' s' => a F' H' σ' _ M' q (e03.trans u) f' (s'.kills ks))
        (fun F' H' σ' ρ' M' q u f' s' => ⟨F', _, M', (e1.trans e2).trans (e3.trans u), f', s'.kills ks, q⟩)
def whileN (c : WT) (body : WS) (ks : List Nat) (P : Ps) (E : XP) : Nat → St' → Mem → Prop
  | 0, _, _ => False
  | n + 1, ρ, M => c ρ M (fun b M1 => Br b (body ρ M1 { nx := fun ρ3 M3 => whileN c body ks P E n (wipe' ρ3 ks) M3, rt := P.rt, bk := fun ρ3 M3 => P.nx (wipe' ρ3 ks) M3, ct := fun ρ3 M3 => whileN c body ks P E n (wipe' ρ3 ks) M3 } E) (P.nx ρ M1)) E
def wWhile (c : WT) (body : WS) (ks : List Nat) : WS := fun ρ M P E => ∃ n, whileN c body ks P E n (wipe' ρ ks) M
theorem sds_while {tc : TT} {wc : WT} {tb : TS} {wb : WS} {ks : List Nat} (hc : SdT K L tc wc) (hb : SdS K L tb wb) : SdS K L (tWhile tc tb) (wWhile wc wb ks) := fun G F H σ ρ M P E D f s l h a b c d => by
  obtain ⟨n, h⟩ := h
  refine ⟨fun m σ H => ∃ F1 ρ M, Ex F F1 ∧ Fr K G F1 H M ∧ Sto K F1 σ ρ ∧ whileN wc wb ks P E m ρ M, ⟨n, F, _, M, Ex.refl F, f, s.kills ks, h⟩, fun m σ1 H1 hW => ?_⟩
  obtain ⟨F1, ρ1, M1, e1, f1, s1, hl⟩ := hW
  cases m with
  | zero => exact hl.elim
  | succ m =>
    refine hc G F1 H1 σ1 ρ1 M1 _ E _ f1 s1 (L.mono l e1) hl fun F2 H2 bb M2 h2 e2 f2 => ?_
    have e02 := e1.trans e2
    exact h2.ite (fun h3 => ⟨fun σ H => ∃ F1 ρ M, Ex F F1 ∧ Fr K G F1 H M ∧ Sto K F1 σ ρ ∧ whileN wc wb ks P E m ρ M, fun σ' H' hN => ⟨m, Nat.lt_succ_self m, hN⟩,
        hb G F2 H2 σ1 ρ1 M2 _ E _ f2 (s1.up e2) (L.mono l e02) h3 (fun F' H' σ' ρ' M' q u f' s' => ⟨F', _, M', e02.trans u, f', s'.kills ks, q⟩) (b.up e02) (fun F' H' σ' ρ' M' q u f' s' => a F' H' σ' _ M' q (e02.trans u) f' (s'.kills ks))
          (fun F' H' σ' ρ' M' q u f' s' => ⟨F', _, M', e02.trans u, f', s'.kills ks, q⟩)⟩)
      fun h3 => a F2 H2 σ1 ρ1 M2 h3 e02 f2 (s1.up e2)
end
end Px

set_option Elab.async false
set_option linter.all false
set_option maxRecDepth 100000
set_option maxHeartbeats 4000000
/-! Comprehensions, fields, calls, promises from bodies. -/
namespace Px
open PySem PySem.Spec PyProof.Rows L2 Rl RZ RT
open Evl (Ex)
/-! ### targets that set own slots alone -/
def GIn (g : TG) (vs : List Nat) : Prop := ∀ x σ H Q, g x σ H Q → g x σ H fun σ2 H2 => L2.wipe σ2 vs = L2.wipe σ vs ∧ Q σ2 H2
def GIns (g : TGs) (vs : List Nat) : Prop := ∀ xs σ H Q, g xs σ H Q → g xs σ H fun σ2 H2 => L2.wipe σ2 vs = L2.wipe σ vs ∧ Q σ2 H2
theorem wipe_set {x : Option V} {i : Nat} (σ : L2.St) : ∀ (vs : List Nat), i ∈ vs → L2.wipe (σ.set i x) vs = L2.wipe σ vs
  | [], h => by cases h
  | v :: vs, h => by
    show (L2.wipe (σ.set i x) vs).set v none = (L2.wipe σ vs).set v none
    by_cases hm : i ∈ vs
    · rw [wipe_set σ vs hm]
    · have e : i = v := by
        rcases List.mem_cons.mp h with h | h
        · exact h
        · exact absurd h hm
      subst e
      have key : ∀ (ws : List Nat), i ∉ ws → L2.wipe (σ.set i x) ws = (L2.wipe σ ws).set i x := fun ws => by
        induction ws with
        | nil => intro _; rfl
        | cons w ws ih =>
          intro hn
          show (L2.wipe (σ.set i x) ws).set w none = ((L2.wipe σ ws).set w none).set i x
          rw [ih (fun q => hn (List.mem_cons_of_mem _ q)), List.set_comm]
          intro e; subst e; exact hn (by simp)
      rw [key vs hm, List.set_set]
theorem gin_name {i : Nat} {vs : List Nat} (h : vs.contains i = true) : GIn (gName i) vs := fun x σ H Q q => ⟨wipe_set σ vs (List.contains_iff_mem.mp h), q⟩
theorem gin_nil {vs : List Nat} : GIns gNil vs := fun xs σ H Q ⟨e, q⟩ => ⟨e, rfl, q⟩
class GMono (g : TG) : Prop where
  mono : ∀ x σ H (Q Q' : L2.St → Hp → Prop), (∀ σ H, Q σ H → Q' σ H) → g x σ H Q → g x σ H Q'
class GsMono (g : TGs) : Prop where
  mono : ∀ x σ H (Q Q' : L2.St → Hp → Prop), (∀ σ H, Q σ H → Q' σ H) → g x σ H Q → g x σ H Q'
instance {i : Nat} : GMono (gName i) := ⟨fun x σ H Q Q' h q => h _ _ q⟩
instance : GsMono gNil := ⟨fun x σ H Q Q' h ⟨e, q⟩ => ⟨e, h _ _ q⟩⟩
instance {g : TG} {gs : TGs} [a : GMono g] [b : GsMono gs] : GsMono (gCons g gs) := ⟨fun x σ H Q Q' h ⟨v, r, e, q⟩ => ⟨v, r, e, a.mono _ _ _ _ _ (fun σ H q => b.mono _ _ _ _ _ h q) q⟩⟩
instance {K : Frag} {n : Nat} {gs : TGs} [b : GsMono gs] : GMono (gTup K n gs) := ⟨fun x σ H Q Q' h ⟨a, xs, e1, e2, e3, q⟩ => ⟨a, xs, e1, e2, e3, b.mono _ _ _ _ _ h q⟩⟩
theorem gin_cons {g : TG} {gs : TGs} {vs : List Nat} [GMono g] [GsMono gs] (h : GIn g vs) (hs : GIns gs vs) : GIns (gCons g gs) vs := fun xs σ H Q ⟨v, r, e, q⟩ => ⟨v, r, e, GMono.mono _ _ _ _ _ (fun σ1 H1 ⟨e1, q1⟩ => GsMono.mono _ _ _ _ _ (fun σ2 H2 ⟨e2, q2⟩ => ⟨by rw [e2, e1], q2⟩) (hs _ _ _ _ q1)) (h _ _ _ _ q)⟩
theorem gin_tup {K : Frag} {n : Nat} {gs : TGs} {vs : List Nat} (h : GIns gs vs) : GIn (gTup K n gs) vs := fun x σ H Q ⟨a, xs, e1, e2, e3, q⟩ => ⟨a, xs, e1, e2, e3, h _ _ _ _ q⟩
theorem wipe_wipe (σ : L2.St) : ∀ (vs : List Nat), L2.wipe (L2.wipe σ vs) vs = L2.wipe σ vs := fun vs => by
  have key : ∀ (ws us : List Nat), (∀ u ∈ us, u ∈ ws) → L2.wipe (L2.wipe σ us) ws = L2.wipe σ ws := fun ws us => by
    induction us with
    | nil => intro _; rfl
    | cons u us ih =>
      intro h
      show L2.wipe ((L2.wipe σ us).set u none) ws = _
      rw [wipe_set _ ws (h u (by simp)), ih fun v hv => h v (List.mem_cons_of_mem _ hv)]
  exact key vs vs fun _ h => h
section
variable {K : Frag} [Tb K] {L : XL} {G F F' H : Hp} {M : Mem}
/-- an object that must stay -/
theorem Fr.guard (f : Fr K G F H M) {A : Addr} {o : HO} (h : H A = some o) (n : F A = none) (m : M A = none) (ho : ∀ ps, o ≠ HO.tbl ps := by intro _ z; cases z) : Fr K (upd G A o) F H M where
  tb := f.tb
  ft := f.ft
  gt := ft_put f.gt ho
  gh := fun a u e => by
    by_cases ea : a = A
    · subst ea; rw [upd_same] at e; cases e; exact h
    · rw [upd_ne ea] at e; exact f.gh a u e
  fh := f.fh
  gf := fun a u e => by
    by_cases ea : a = A
    · subst ea; exact n
    · rw [upd_ne ea] at e; exact f.gf a u e
  gm := fun a u e => by
    by_cases ea : a = A
    · subst ea; exact m
    · rw [upd_ne ea] at e; exact f.gm a u e
  mc := f.mc
theorem Fr.unguard {A : Addr} {o : HO} (f : Fr K (upd G A o) F H M) (g : G A = none) : Fr K G F H M :=
  have k : ∀ {a u}, G a = some u → upd G A o a = some u := fun {a u} e => by rw [upd_ne (ne_of_none e g)]; exact e
  ⟨f.tb, f.ft, fun a ps e => f.gt a ps (k e), fun a u e => f.gh a u (k e), f.fh, fun a u e => f.gf a u (k e), fun a u e => f.gm a u (k e), f.mc⟩
/-- an object that nobody knows is changed -/
theorem Fr.other (f : Fr K G F H M) {A : Addr} {o : HO} (n : F A = none) (g : G A = none) (m : M A = none) (nt : NT H A) : Fr K G F (upd H A o) M where
  tb := tabs_put f.tb nt
  ft := f.ft
  gt := f.gt
  gh := fun a u e => by rw [upd_ne (ne_of_none e g)]; exact f.gh a u e
  fh := fun a u e => by rw [upd_ne (ne_of_none e n)]; exact f.fh a u e
  gf := f.gf
  gm := f.gm
  mc := fun a c e => by
    have ea : a ≠ A := fun q => by subst q; rw [m] at e; cases e
    obtain ⟨h1, h2⟩ := f.mc a c e
    exact ⟨h1, h2.mono (Ex.refl F) fun u q => by rw [upd_ne ea]; exact q⟩
theorem Fr.take (f : Fr K G F H M) {A : Addr} {o : HO} (h : H A = some o) (n : F A = none) (g : G A = none) (m : M A = none) (ho : ∀ ps, o ≠ HO.tbl ps := by intro _ z; cases z) : Fr K G (upd F A o) H M where
  tb := f.tb
  ft := ft_put f.ft ho
  gt := f.gt
  gh := f.gh
  fh := fun a u e => by
    by_cases ea : a = A
    · subst ea; rw [upd_same] at e; cases e; exact h
    · rw [upd_ne ea] at e; exact f.fh a u e
  gf := fun a u e => by rw [upd_ne (ne_of_none e g)]; exact f.gf a u e
  gm := f.gm
  mc := fun a c e => by
    have ea : a ≠ A := fun q => by subst q; rw [m] at e; cases e
    obtain ⟨h1, h2⟩ := f.mc a c e
    exact ⟨by rw [upd_ne ea]; exact h1, h2.mono (Ex.new n) fun _ q => q⟩
theorem Fr.hold (f : Fr K G F H M) {A : Addr} {c : Cell} (n : F A = none) (g : G A = none) (a : At K F H A c) : Fr K G F H (mu M A c) where
  tb := f.tb
  ft := f.ft
  gt := f.gt
  gh := f.gh
  fh := f.fh
  gf := f.gf
  gm := fun b u e => by rw [mu_ne (ne_of_none e g)]; exact f.gm b u e
  mc := fun b d e => by
    by_cases eb : b = A
    · subst eb; rw [mu_same] at e; cases e; exact ⟨n, a⟩
    · rw [mu_ne eb] at e; exact f.mc b d e
/-! ### comprehensions -/
def loopC (gd : List (Addr × List D)) (wg : WG) (wt : WT) (we : W) (ρw : St') (k : List D → Mem → Prop) (E : XP) : List D → List D → Mem → Prop
  | [], acc, M => Gd gd M (k acc M)
  | x :: xs, acc, M => Gd gd M (wg x ρw M (fun ρ2 M2 => wt ρ2 M2 (fun b M3 => Br b (we ρ2 M3 (fun y M4 => Sz (acc.length + 1) (loopC gd wg wt we ρw k E xs (acc ++ [y]) M4)) E) (loopC gd wg wt we ρw k E xs acc M3)) E) E)
def wLc (m : Bool) (wi : WI) (wg : WG) (wt : WT) (we : W) (us : List Nat) : W := fun ρ M k E => wi ρ M (fun J M1 => loopC J.gd wg wt we (wipe' ρ us) (fun acc M2 => mkL m acc M2 k) E J.xs [] M1) E
def wYes : WT := fun _ M k _ => k true M
theorem sdt_yes : SdT K L tYes wYes := fun G F H σ ρ M k E Q f s l h q => q F H true M h (Ex.refl F) f
theorem sd_lc {m : Bool} {wi : TI} {wj : WI} {g : TG} [GMono g] {wg : WG} {tt : TT} {wt : WT} {te : TE} {we : W} {us : List Nat} (hgi : GIn g us) (hi : SdI K L wi wj) (hg : SdG K L g wg) (ht : SdT K L tt wt) (he : Sd K L te we) : Sd K L (tLc wi g tt te us) (wLc m wj wg wt we us) := fun G F H σ ρ M k E Q f s l h q =>
  hi G F H σ ρ M _ E _ f s l h fun F0 H0 J I M0 h0 e0 f0 it A hA => by
    have gA : G A = none := Evl.fresh_back f0.gh hA
    have fA : F0 A = none := Evl.fresh_back f0.fh hA
    have fb := f0.more (o := .lst []) hA
    have sw := (s.up e0).wipe us
    refine ⟨fun i m' H => m' = I.xs.length - i ∧ i ≤ I.xs.length ∧ ∃ F M acc accv, Ex F0 F ∧ Fr K G F H M ∧ F A = none ∧ M A = none ∧ H A = some (.lst accv) ∧ IsAll K F accv acc ∧ loopC I.gd wg wt we (wipe' ρ us) (fun acc M2 => mkL m acc M2 k) E (I.xs.drop i) acc M,
      ⟨_, rfl, Nat.zero_le _, F0, M0, [], [], Ex.refl F0, fb, fA, f0.mh hA, upd_same, .nil, h0⟩, fun i m' H1 hW => ?_⟩
    obtain ⟨rfl, hi, F1, M1, acc, accv, e1, f1, a1, a2, a3, a4, hl⟩ := hW
    by_cases e : i = I.xs.length
    · subst e
      rw [List.drop_length] at hl
      obtain ⟨g1, h1⟩ := Gd.get (show Gd I.gd M1 (mkL m acc M1 k) from hl)
      refine .inl ⟨it.stop _ G F1 H1 M1 (Nat.le_refl _) e1 f1 g1, ?_⟩
      cases m with
      | false => exact q _ H1 (.ref A) _ M1 h1 ((e0.trans e1).trans (Ex.new a1)) (f1.take a3 a1 gA a2) (.lst upd_same (a4.up (Ex.new a1)))
      | true => exact q F1 H1 (.ref A) _ _ (h1 A a2) (e0.trans e1) (f1.hold a1 gA ⟨accv, a3, a4⟩) (.ref A)
    · have hlt : i < I.xs.length := by omega
      rw [List.drop_eq_getElem_cons hlt] at hl
      obtain ⟨g1, h1⟩ := Gd.get (show Gd I.gd M1 (wg (I.xs[i]'hlt) (wipe' ρ us) M1 _ E) from hl)
      refine .inr ⟨it.go i G F1 H1 M1 hlt e1 f1 g1, fun H => ∃ F M acc accv, Ex F0 F ∧ Fr K G F H M ∧ F A = none ∧ M A = none ∧ H A = some (.lst accv) ∧ IsAll K F accv acc ∧ loopC I.gd wg wt we (wipe' ρ us) (fun acc M2 => mkL m acc M2 k) E (I.xs.drop (i + 1)) acc M, fun H' hN => ⟨_, by omega, rfl, hlt, hN⟩, fun v H2 hy => ?_⟩
      obtain ⟨F2, e2, f2, is⟩ := it.yld i _ F1 H1 M1 v H2 (I.xs[i]'hlt) (List.getElem?_eq_getElem hlt) e1 (f1.guard a3 a1 a2) g1 hy
      have gA2 : upd G A (.lst accv) A = some (.lst accv) := upd_same
      refine GMono.mono _ _ _ _ _ (fun σ2 H3 ⟨e3, q1⟩ => ?mm) (hgi _ _ _ _ (hg _ F2 H2 (L2.wipe σ us) (wipe' ρ us) M1 v _ _ E (fun σ2 H2 => L2.wipe σ2 us = L2.wipe σ us → tt σ2 H2 fun b H3 =>
        if b = true then te σ2 H3 fun y H4 => ∃ acc, H4 A = some (.lst acc) ∧ acc.length < sizeLine ∧ ∃ F M acc2 accv, Ex F0 F ∧ Fr K G F (upd H4 A (.lst (acc ++ [y]))) M ∧ F A = none ∧ M A = none ∧ (upd H4 A (.lst (acc ++ [y]))) A = some (.lst accv) ∧ IsAll K F accv acc2 ∧ loopC I.gd wg wt we (wipe' ρ us) (fun acc M2 => mkL m acc M2 k) E (I.xs.drop (i + 1)) acc2 M
        else ∃ F M acc accv, Ex F0 F ∧ Fr K G F H3 M ∧ F A = none ∧ M A = none ∧ H3 A = some (.lst accv) ∧ IsAll K F accv acc ∧ loopC I.gd wg wt we (wipe' ρ us) (fun acc M2 => mkL m acc M2 k) E (I.xs.drop (i + 1)) acc M) f2 (sw.up (e1.trans e2)) (L.gm (L.mono l ((e0.trans e1).trans e2)) (Ex.new gA)) is h1 fun F3 H3 σ3 ρ3 M3 h3 e3 f3 s3 ew => ?kk))
      case mm =>
        rw [wipe_wipe] at e3
        exact ⟨e3, q1 e3⟩
      case kk =>
        refine ht _ F3 H3 σ3 ρ3 M3 _ E _ f3 s3 (L.gm (L.mono l (((e0.trans e1).trans e2).trans e3)) (Ex.new gA)) h3 fun F4 H4 b M4 h4 e4 f4 => h4.ite (fun h5 => ?_) (fun h5 => ?_)
        · refine he _ F4 H4 σ3 ρ3 M4 _ E _ f4 (s3.up e4) (L.gm (L.mono l ((((e0.trans e1).trans e2).trans e3).trans e4)) (Ex.new gA)) h5 fun F5 H5 y x M5 h6 e5 f5 i5 => ?_
          have e15 := ((e2.trans e3).trans e4).trans e5
          have fA5 := f5.gf A _ gA2
          have mA5 := f5.gm A _ gA2
          refine ⟨accv, f5.gh A _ gA2, by rw [a4.len]; exact h6.get.1, F5, M5, acc ++ [x], accv ++ [y], e1.trans e15, (f5.unguard gA).other fA5 gA mA5 (.lst (f5.gh A _ gA2)), fA5, mA5, upd_same, (a4.up e15).app (.cons i5 .nil), h6.get.2⟩
        · have e14 := (e2.trans e3).trans e4
          exact ⟨F4, M4, acc, accv, e1.trans e14, f4.unguard gA, f4.gf A _ gA2, f4.gm A _ gA2, f4.gh A _ gA2, a4.up e14, h5⟩
/-! ### instances -/
def asI : D → Mem → (Str → List Str → List D → Prop) → Prop
  | .ins c ns xs, _, k => k c ns xs
  | .ref a, M, k => cellI a M k
  | _, _, _ => False
theorem asI_ok {x : D} {v : V} {k : Str → List Str → List D → Prop} (f : Fr K G F H M) (i : Is K F v x) (h : asI x M k) : ∃ a c ns xs dx fs, v = .ref a ∧ H a = some (.ins (He.ga K c) dx fs) ∧ CF K c ns ∧ fs.map (·.1) = ns ∧ IsAll K F (fs.map (·.2)) xs ∧ k c ns xs := by
  cases i with
  | ins h1 h0 h2 h3 => exact ⟨_, _, _, _, _, _, rfl, f.fh _ _ h1, h0, h2, h3, h⟩
  | ref a =>
    obtain ⟨c, ns, xs, e, hk⟩ := cellI.get h
    obtain ⟨_, dx, fs, q0, q1, q2, q3⟩ := f.mc a _ e
    exact ⟨a, c, ns, xs, dx, fs, rfl, q0, q1, q2, q3, hk⟩
  | _ => cases h
def fget : List Str → List D → Str → Option D
  | n :: ns, x :: xs, f => if f = n then some x else fget ns xs f
  | _, _, _ => none
theorem lookup_fs {f : Str} : ∀ {fs : List (Str × V)} {ns : List Str} {xs : List D} {x : D}, fs.map (·.1) = ns → IsAll K F (fs.map (·.2)) xs → fget ns xs f = some x → ∃ v, fs.lookup f = some v ∧ Is K F v x ∧ f ∈ ns
  | [], _, _, _, e, h, g => by subst e; simp [fget] at g
  | (n, v) :: fs, _, xs, x, e, h, g => by
    subst e
    cases xs with
    | nil => simp [fget] at g
    | cons y ys =>
      cases h with
      | cons h1 h2 =>
        have g2 : (if f = n then some y else fget (fs.map (·.1)) ys f) = some x := g
        by_cases c : f = n
        · rw [if_pos c] at g2
          cases g2
          exact ⟨v, by subst c; simp [List.lookup], h1, by subst c; simp⟩
        · rw [if_neg c] at g2
          obtain ⟨w, q1, q2, q3⟩ := lookup_fs (fs := fs) rfl h2 g2
          refine ⟨w, ?_, q2, List.mem_cons_of_mem _ q3⟩
          have c2 : (f == n) = false := by simpa using c
          simp only [List.lookup, c2]
          exact q1
theorem lookup_none {f : Str} : ∀ {fs : List (Str × V)} {ns : List Str}, fs.map (·.1) = ns → ns.contains f = false → fs.lookup f = none
  | [], _, _, _ => rfl
  | (n, v) :: fs, _, e, h => by
    subst e
    rw [List.map_cons, List.contains_cons, Bool.or_eq_false_iff] at h
    simp only [List.lookup, h.1]
    exact lookup_none rfl h.2
@[irreducible] def fldD (ns : List Str) (xs : List D) (f : Str) (k : D → Prop) : Prop := ∃ y, fget ns xs f = some y ∧ k y
theorem fldD.get {ns : List Str} {xs : List D} {f : Str} {k : D → Prop} (h : fldD ns xs f k) : ∃ y, fget ns xs f = some y ∧ k y := by unfold fldD at h; exact h
theorem fld {ns : List Str} {xs : List D} {f : Str} {k : D → Prop} {y : D} (e : fget ns xs f = some y) (h : k y) : fldD ns xs f k := by unfold fldD; exact ⟨y, e, h⟩
def wFld (f : Str) (we : W) : W := fun ρ M k E => we ρ M (fun x M1 => asI x M1 fun _ ns xs => fldD ns xs f fun y => k y M1) E
theorem sd_fld {te : TE} {we : W} {f : Str} (ha : Sd K L te we) : Sd K L (tFld K te f) (wFld f we) := fun G F H σ ρ M k E Q fr s l h q =>
  ha G F H σ ρ M _ E _ fr s l h fun F1 H1 v x M1 h1 e1 f1 i1 => by
    obtain ⟨a, c, ns, xs, dx, fs, rfl, q1, cf, q2, q3, hf⟩ := asI_ok f1 i1 h1
    obtain ⟨y, h2, h3⟩ := hf.get
    obtain ⟨u, lk, is, mem⟩ := lookup_fs q2 q3 h2
    exact ⟨a, _, dx, fs, u, rfl, q1, cf.cl, cf.na f mem, lk, q F1 H1 u y M1 h3 e1 f1 is⟩
/-- o.f = e: a new attribute, or one that is there -/
def fput : List Str → List D → Str → D → List Str × List D
  | n :: ns, y :: ys, f, x => if n = f then (n :: ns, x :: ys) else let r := fput ns ys f x; (n :: r.1, y :: r.2)
  | _, _, f, x => ([f], [x])
theorem putF_is {f : Str} {y : V} {x : D} : ∀ {fs : List (Str × V)} {ns : List Str} {xs : List D}, fs.map (·.1) = ns → IsAll K F (fs.map (·.2)) xs → Is K F y x → (putF f y fs).map (·.1) = (fput ns xs f x).1 ∧ IsAll K F ((putF f y fs).map (·.2)) (fput ns xs f x).2 ∧ ∀ g ∈ (fput ns xs f x).1, g = f ∨ g ∈ ns
  | [], _, _, e, h, g => by
    subst e
    cases h
    exact ⟨rfl, .cons g .nil, fun g hg => .inl (by simpa [fput] using hg)⟩
  | (n, v) :: fs, _, _, e, h, g => by
    subst e
    cases h with
    | cons h1 h2 =>
      simp only [putF, fput, List.map_cons]
      by_cases en : n = f
      · rw [if_pos en, if_pos en]; exact ⟨rfl, .cons g h2, fun g hg => .inr hg⟩
      · rw [if_neg en, if_neg en]
        obtain ⟨a, b, c⟩ := putF_is (f := f) (y := y) (x := x) (fs := fs) rfl h2 g
        refine ⟨by rw [List.map_cons, a], .cons h1 b, fun g hg => ?_⟩
        rcases List.mem_cons.mp hg with q | q
        · exact .inr (by rw [q]; simp)
        · rcases c g q with r | r
          · exact .inl r
          · exact .inr (List.mem_cons_of_mem _ r)
@[irreducible] def attD (cs : List Str) (o : D) (f : Str) (y : D) (M : Mem) (k : Mem → Prop) : Prop := ∃ a c ns xs, o = .ref a ∧ M a = some (.ins c ns xs) ∧ c ∈ cs ∧ ns.length < 1000 ∧ k (mu M a (.ins c (fput ns xs f y).1 (fput ns xs f y).2))
theorem attD.get {cs : List Str} {o : D} {f : Str} {y : D} {M : Mem} {k : Mem → Prop} (h : attD cs o f y M k) : ∃ a c ns xs, o = .ref a ∧ M a = some (.ins c ns xs) ∧ c ∈ cs ∧ ns.length < 1000 ∧ k (mu M a (.ins c (fput ns xs f y).1 (fput ns xs f y).2)) := by unfold attD at h; exact h
theorem att_mu {cs : List Str} {a : Addr} {c f : Str} {y : D} {M : Mem} {ns ns' : List Str} {xs xs' : List D} {k : Mem → Prop} (e : fput ns xs f y = (ns', xs')) (hc : c ∈ cs) (hn : ns.length < 1000) (h : k (mu M a (.ins c ns' xs'))) : attD cs (.ref a) f y (mu M a (.ins c ns xs)) k := by
  unfold attD
  refine ⟨a, c, ns, xs, rfl, mu_same, hc, hn, ?_⟩
  rw [mu_mu, e]
  exact h
theorem att_of {cs : List Str} {a : Addr} {c f : Str} {y : D} {M : Mem} {ns ns' : List Str} {xs xs' : List D} {k : Mem → Prop} (e0 : M a = some (.ins c ns xs)) (e : fput ns xs f y = (ns', xs')) (hc : c ∈ cs) (hn : ns.length < 1000) (h : k (mu M a (.ins c ns' xs'))) : attD cs (.ref a) f y M k := by
  unfold attD
  refine ⟨a, c, ns, xs, rfl, e0, hc, hn, ?_⟩
  rw [e]
  exact h
def wSetF (cs : List Str) (f : Str) (wo we : W) : WS := fun ρ M P E => we ρ M (fun y M1 => wo ρ M1 (fun o M2 => attD cs o f y M2 fun M3 => P.nx ρ M3) E) E
theorem sds_fld {to te : TE} {wo we : W} {cs : List Str} {f : Str} (hn : ∀ c ∈ cs, NoAttr K (He.ga K c) f) (ho : Sd K L to wo) (he : Sd K L te we) : SdS K L (sFld K to te f) (wSetF cs f wo we) := fun G F H σ ρ M P E D fr s l h a b c d =>
  he G F H σ ρ M _ E _ fr s l h fun F1 H1 u y M1 h1 e1 f1 i1 => ho G F1 H1 σ ρ M1 _ E _ f1 (s.up e1) (L.mono l e1) h1 fun F2 H2 v o M2 h2 e2 f2 i2 => by
    obtain ⟨p, cc, ns, xs, rfl, q1, q2, q3, q4⟩ := h2.get
    cases i2
    obtain ⟨_, dx, fs, r1, r2, r3, r4⟩ := f2.mc p _ q1
    have pf := putF_is (f := f) r3 r4 (i1.up e2)
    refine ⟨p, _, dx, fs, rfl, r1, r2.cl, hn _ q2, ?_, ?_⟩
    · have : fs.length = ns.length := by rw [← r3]; simp
      omega
    · refine a F2 _ σ ρ _ q4 (e1.trans e2) (f2.chg q1 ⟨dx, _, upd_same, ⟨r2.cl, r2.ty, fun g hg => ?_⟩, pf.1, pf.2.1⟩) (s.up (e1.trans e2))
      rcases pf.2.2 g hg with z | z
      · rw [z]; exact hn _ q2
      · exact r2.na g z
/-! ### calls -/
abbrev WC := St' → Mem → (List D → List D → Mem → Prop) → XP → Prop
abbrev WF := List D → Mem → (D → Mem → Prop) → XP → Prop
section
variable (K) (L)
def SdC (tc : TC) (wc : WC) : Prop := ∀ G F H σ ρ M k E (R : List V → List V → Hp → Prop), Fr K G F H M → Sto K F σ ρ → L.ok G F E → wc ρ M k E → (∀ F' H' vs us xs zs M', k xs zs M' → Ex F F' → Fr K G F' H' M' → IsAll K F' vs xs → IsAll K F' us zs → R vs us H') → tc σ H R
/-- a def's promise -/
def SdF (sp : Sp) (wf : WF) : Prop := ∀ G F H M vs xs k E (Q : VK) (EX : XK), Fr K G F H M → IsAll K F vs xs → wf xs M k E → Po K G F k Q → sp vs H Q EX
/-- .. in a def that has a wish for exceptions -/
def SdFL (EX : XK) (sp : Sp) (wf : WF) : Prop := ∀ G F H M vs xs k E (Q : VK), Fr K G F H M → IsAll K F vs xs → L.ok G F E → wf xs M k E → Po K G F k Q → sp vs H Q EX
def SdFx (sp : Sp) (wf : WF) : Prop := ∀ EX, SdFL K (XL.of K EX) EX sp wf
end
theorem SdF.l {sp : Sp} {wf : WF} {EX : XK} (h : SdF K sp wf) : SdFL K L EX sp wf := fun G F H M vs xs k E Q f i _ h1 q => h G F H M vs xs k E Q EX f i h1 q
theorem SdFx.x {sp : Sp} {wf : WF} {EX : XK} (h : SdFx K sp wf) : SdFL K (XL.of K EX) EX sp wf := h EX
/-- called where nothing may be raised -/
def nX (wf : WF) : WF := fun xs M k _ => wf xs M k noX
theorem SdFx.m {sp : Sp} {wf : WF} {EX : XK} (h : SdFx K sp wf) : SdFL K L EX sp (nX wf) := fun G F H M vs xs k E Q f i _ h1 q => h EX G F H M vs xs k noX Q f i (fun _ _ _ _ _ a => a.elim) h1 q
theorem SdFx.n {sp : Sp} {wf : WF} (h : SdFx K sp wf) : SdFL K L C8.E0 sp (nX wf) := fun G F H M vs xs k E Q f i _ h1 q => h C8.E0 G F H M vs xs k noX Q f i (fun _ _ _ _ _ a => a.elim) h1 q
def wcP (wa : WA) : WC := fun ρ M k E => wa ρ M (fun xs M1 => k xs [] M1) E
def wcK (wa : WA) : WC := fun ρ M k E => wa ρ M (fun zs M1 => k [] zs M1) E
def wcPK (wa wb : WA) : WC := fun ρ M k E => wa ρ M (fun xs M1 => wb ρ M1 (fun zs M2 => k xs zs M2) E) E
theorem sdc_p {ta : TA} {wa : WA} (ha : SdA K L ta wa) : SdC K L (tcP ta) (wcP wa) := fun G F H σ ρ M k E R f s l h q => ha G F H σ ρ M _ E _ f s l h fun F1 H1 vs xs M1 h1 e1 f1 i1 => q F1 H1 vs [] xs [] M1 h1 e1 f1 i1 .nil
theorem sdc_k {ta : TA} {wa : WA} (ha : SdA K L ta wa) : SdC K L (tcK ta) (wcK wa) := fun G F H σ ρ M k E R f s l h q => ha G F H σ ρ M _ E _ f s l h fun F1 H1 vs xs M1 h1 e1 f1 i1 => q F1 H1 [] vs [] xs M1 h1 e1 f1 .nil i1
theorem sdc_pk {ta tb : TA} {wa wb : WA} (ha : SdA K L ta wa) (hb : SdA K L tb wb) : SdC K L (tcPK ta tb) (wcPK wa wb) := fun G F H σ ρ M k E R f s l h q => ha G F H σ ρ M _ E _ f s l h fun F1 H1 vs xs M1 h1 e1 f1 i1 =>
  hb G F1 H1 σ ρ M1 _ E _ f1 (s.up e1) (L.mono l e1) h1 fun F2 H2 us zs M2 h2 e2 f2 i2 => q F2 H2 vs us xs zs M2 h2 (e1.trans e2) f2 (i1.up e2) i2
theorem pick_is {vs us : List V} {xs zs : List D} (π : List Nat) (h : IsAll K F vs xs) (g : IsAll K F us zs) : IsAll K F (Rl.pick V.non π vs us) (Rl.pick D.non π xs zs) := by
  have a := h.app g
  induction π with
  | nil => exact .nil
  | cons i π ih =>
    refine .cons ?_ ih
    show Is K F ((vs ++ us).getD i V.non) ((xs ++ zs).getD i D.non)
    cases e : (xs ++ zs)[i]? with
    | some x =>
      obtain ⟨u, e2, rx⟩ := a.get e
      rw [List.getD_eq_getElem?_getD, List.getD_eq_getElem?_getD, e, e2]
      exact rx
    | none =>
      have hl := a.len
      have e2 : (vs ++ us)[i]? = none := List.getElem?_eq_none_iff.mpr (by rw [hl]; exact List.getElem?_eq_none_iff.mp e)
      rw [List.getD_eq_getElem?_getD, List.getD_eq_getElem?_getD, e, e2]
      exact .non
/-- the arguments at some places -/
def pkD (l : List D) : List Nat → (List D → Prop) → Prop
  | [], k => k []
  | i :: π, k => match l[i]? with
    | some d => pkD l π fun ys => k (d :: ys)
    | none => False
theorem pkD_ok {xs zs : List D} : ∀ {π : List Nat} {k : List D → Prop}, pkD (xs ++ zs) π k → k (Rl.pick D.non π xs zs)
  | [], _, h => h
  | i :: π, k, h => by
    unfold pkD at h
    split at h
    · rename_i d e
      have z := pkD_ok (π := π) h
      have e2 : (xs ++ zs).getD i D.non = d := by rw [List.getD_eq_getElem?_getD, e]; rfl
      show k ((xs ++ zs).getD i D.non :: Rl.pick D.non π xs zs)
      rw [e2]; exact z
    · exact h.elim
def pkS (l : List D) : List Nat → (List D → Prop) → Prop
  | [], k => k []
  | 0 :: _, _ => False
  | (i + 1) :: π, k => match l[i]? with
    | some d => pkS l π fun ys => k (d :: ys)
    | none => False
theorem pkS_ok {xs zs : List D} : ∀ {π : List Nat} {k : List D → Prop}, pkS (xs ++ zs) π k → ∃ ys, k ys ∧ ∀ x, Rl.pick D.non π (x :: xs) zs = ys
  | [], k, h => ⟨[], h, fun _ => rfl⟩
  | 0 :: π, k, h => by unfold pkS at h; exact h.elim
  | (i + 1) :: π, k, h => by
    unfold pkS at h
    split at h
    · rename_i d e
      obtain ⟨ys, z, hz⟩ := pkS_ok (π := π) h
      refine ⟨d :: ys, z, fun x => ?_⟩
      have e2 : ((x :: xs) ++ zs).getD (i + 1) D.non = d := by
        rw [List.getD_eq_getElem?_getD, List.cons_append, List.getElem?_cons_succ, e]; rfl
      show ((x :: xs) ++ zs).getD (i + 1) D.non :: Rl.pick D.non π (x :: xs) zs = _
      rw [e2, hz x]
    · exact h.elim
/-- f(..); the arguments' own order -/
def wFn (n m : Nat) (wf : WF) (wc : WC) : W := fun ρ M k E => wc ρ M (fun xs zs M1 => Ck n xs (Ck m zs (wf xs M1 k E))) E
def wFnK (n m : Nat) (wf : WF) (π : List Nat) (wc : WC) : W := fun ρ M k E => wc ρ M (fun xs zs M1 => Ck n xs (Ck m zs (pkD (xs ++ zs) π fun ys => wf ys M1 k E))) E
theorem sd_fn {n m : Nat} {sp : Sp} {wf : WF} {EX : XK} {tc : TC} {wc : WC} (hf : SdFL K L EX sp wf) (hc : SdC K L tc wc) : Sd K L (tFn n m sp (fun vs _ => vs) EX tc) (wFn n m wf wc) := fun G F H σ ρ M k E Q f s l h q => hc G F H σ ρ M _ E _ f s l h fun F1 H1 vs us xs zs M1 h1 e1 f1 i1 i2 => by
  obtain ⟨l1, h2⟩ := h1.get
  obtain ⟨l2, h3⟩ := h2.get
  exact ⟨i1.len.trans l1, i2.len.trans l2, hf G F1 H1 M1 vs xs k E Q f1 i1 (L.mono l e1) h3 (q.up e1)⟩
theorem sd_fnK {n m : Nat} {sp : Sp} {wf : WF} {EX : XK} {π : List Nat} {tc : TC} {wc : WC} (hf : SdFL K L EX sp wf) (hc : SdC K L tc wc) : Sd K L (tFn n m sp (Rl.pick V.non π) EX tc) (wFnK n m wf π wc) := fun G F H σ ρ M k E Q f s l h q => hc G F H σ ρ M _ E _ f s l h fun F1 H1 vs us xs zs M1 h1 e1 f1 i1 i2 => by
  obtain ⟨l1, h2⟩ := h1.get
  obtain ⟨l2, h3⟩ := h2.get
  exact ⟨i1.len.trans l1, i2.len.trans l2, hf G F1 H1 M1 _ _ k E Q f1 (pick_is π i1 i2) (L.mono l e1) (pkD_ok h3) (q.up e1)⟩
@[irreducible] def mtD (c c' : Str) (ns : List Str) (nm : Str) (P : Prop) : Prop := c' = c ∧ ns.contains nm = false ∧ P
theorem mtD.get {c c' : Str} {ns : List Str} {nm : Str} {P : Prop} (h : mtD c c' ns nm P) : c' = c ∧ ns.contains nm = false ∧ P := by unfold mtD at h; exact h
theorem mt_d {c : Str} {ns : List Str} {nm : Str} {P : Prop} (e : ns.contains nm = false) (h : P) : mtD c c ns nm P := by unfold mtD; exact ⟨rfl, e, h⟩
/-- o.m(..), of an instance of the class c -/
def wMt (c : Str) (nm : Str) (n m : Nat) (wf : WF) (wo : W) (wc : WC) : W := fun ρ M k E => wo ρ M (fun x M1 => asI x M1 fun c' ns _ => mtD c c' ns nm (wc ρ M1 (fun xs zs M2 => Ck n xs (Ck m zs (wf (x :: xs) M2 k E))) E)) E
def wMtK (c : Str) (nm : Str) (n m : Nat) (wf : WF) (π : List Nat) (wo : W) (wc : WC) : W := fun ρ M k E => wo ρ M (fun x M1 => asI x M1 fun c' ns _ => mtD c c' ns nm (wc ρ M1 (fun xs zs M2 => Ck n xs (Ck m zs (pkD ((x :: xs) ++ zs) π fun ys => wf ys M2 k E))) E)) E
theorem sd_mt {c nm : Str} {n m : Nat} {sp : Sp} {wf : WF} {EX : XK} {to : TE} {wo : W} {tc : TC} {wc : WC} (hf : SdFL K L EX sp wf) (ho : Sd K L to wo) (hc : SdC K L tc wc) : Sd K L (tMt (He.ga K c) nm n m sp (fun vs _ => vs) EX to tc) (wMt c nm n m wf wo wc) := fun G F H σ ρ M k E Q f s l h q =>
  ho G F H σ ρ M _ E _ f s l h fun F1 H1 v x M1 h1 e1 f1 i1 => by
    obtain ⟨a, c', ns, xs, dx, fs, rfl, q1, cf, q2, q3, hm⟩ := asI_ok f1 i1 h1
    obtain ⟨rfl, q4, h2⟩ := hm.get
    refine ⟨a, dx, fs, rfl, q1, lookup_none q2 q4, hc G F1 H1 σ ρ M1 _ E _ f1 (s.up e1) (L.mono l e1) h2 fun F2 H2 vs us xs zs M2 h3 e2 f2 j1 j2 => ?_⟩
    obtain ⟨l1, h4⟩ := h3.get
    obtain ⟨l2, h5⟩ := h4.get
    exact ⟨j1.len.trans l1, j2.len.trans l2, hf G F2 H2 M2 _ _ k E Q f2 (.cons (i1.up e2) j1) (L.mono l (e1.trans e2)) h5 (q.up (e1.trans e2))⟩
theorem sd_mtK {c nm : Str} {n m : Nat} {sp : Sp} {wf : WF} {EX : XK} {π : List Nat} {to : TE} {wo : W} {tc : TC} {wc : WC} (hf : SdFL K L EX sp wf) (ho : Sd K L to wo) (hc : SdC K L tc wc) : Sd K L (tMt (He.ga K c) nm n m sp (Rl.pick V.non π) EX to tc) (wMtK c nm n m wf π wo wc) := fun G F H σ ρ M k E Q f s l h q =>
  ho G F H σ ρ M _ E _ f s l h fun F1 H1 v x M1 h1 e1 f1 i1 => by
    obtain ⟨a, c', ns, xs, dx, fs, rfl, q1, cf, q2, q3, hm⟩ := asI_ok f1 i1 h1
    obtain ⟨rfl, q4, h2⟩ := hm.get
    refine ⟨a, dx, fs, rfl, q1, lookup_none q2 q4, hc G F1 H1 σ ρ M1 _ E _ f1 (s.up e1) (L.mono l e1) h2 fun F2 H2 vs us xs zs M2 h3 e2 f2 j1 j2 => ?_⟩
    obtain ⟨l1, h4⟩ := h3.get
    obtain ⟨l2, h5⟩ := h4.get
    exact ⟨j1.len.trans l1, j2.len.trans l2, hf G F2 H2 M2 _ _ k E Q f2 (pick_is π (.cons (i1.up e2) j1) j2) (L.mono l (e1.trans e2)) (pkD_ok h5) (q.up (e1.trans e2))⟩
/-- C(..): a new instance; frozen behind its __init__, or a cell -/
def isNone (P : Prop) : D → Prop
  | .non => P
  | _ => False
@[irreducible] def newI (m : Bool) (c : Str) (wf : WF) (as : D → List D) (M : Mem) (k : D → Mem → Prop) (E : XP) : Prop := ∀ p, M p = none → wf (as (.ref p)) (mu M p (.ins c [] [])) (fun r M2 => isNone (match m with
  | true => k (.ref p) M2
  | false => cellI p M2 fun c' ns xs => c' = c ∧ k (.ins c ns xs) (er M2 p)) r) E
/-- an instance of a class that does not change afterwards -/
theorem new_f {c : Str} {wf : WF} {as : D → List D} {M : Mem} {k : D → Mem → Prop} {E : XP} {ns : List Str} {xs : List D} (h : ∀ p (k' : D → Mem → Prop), M p = none → k' .non (mu M p (.ins c ns xs)) → wf (as (.ref p)) (mu M p (.ins c [] [])) k' E) (hk : k (.ins c ns xs) M) : newI false c wf as M k E := by
  unfold newI
  exact fun p hp => h p _ hp (cellI_mu ⟨rfl, by rw [er_mu hp]; exact hk⟩)
theorem new_t {c : Str} {wf : WF} {as : D → List D} {M : Mem} {k : D → Mem → Prop} {E : XP} (h : ∀ p, M p = none → wf (as (.ref p)) (mu M p (.ins c [] [])) (fun r M2 => isNone (k (.ref p) M2) r) E) : newI true c wf as M k E := by
  unfold newI
  exact h
def wNew (b : Bool) (c : Str) (n m : Nat) (wf : WF) (wc : WC) : W := fun ρ M k E => wc ρ M (fun xs zs M1 => Ck n xs (Ck m zs (newI b c wf (fun x => x :: xs) M1 k E))) E
def wNewK (b : Bool) (c : Str) (n m : Nat) (wf : WF) (π : List Nat) (wc : WC) : W := fun ρ M k E => wc ρ M (fun xs zs M1 => Ck n xs (Ck m zs (match π with
  | 0 :: π' => pkS (xs ++ zs) π' fun ys => newI b c wf (fun x => x :: ys) M1 k E
  | _ => False))) E
theorem Fr.twice (f : Fr K G F H M) {x dx : Addr} {o : HO} {c : Cell} (n : H x = none) (nd : H dx = none) (ne : dx ≠ x) {o' : HO} (h : At K F (upd (upd H dx o') x o) x c) : Fr K G F (upd (upd H dx o') x o) (mu M x c) :=
  (f.more (o := o') nd).own (by rw [upd_ne ne.symm]; exact n) h
theorem newI_ok {b : Bool} {c : Str} {sp : Sp} {wf : WF} {as : D → List D} {k : D → Mem → Prop} {E : XP} {Q : VK} {EX : XK} (hf : SdFL K L EX sp wf) (cf : CF K c []) (f : Fr K G F H M) (l : L.ok G F E) (h : newI b c wf as M k E) (q : Po K G F k Q) (vs : V → List V) (hv : ∀ p, IsAll K F (vs (.ref p)) (as (.ref p))) :
    ∀ x dx, H x = none → H dx = none → dx ≠ x → sp (vs (.ref x)) (upd (upd H dx (.own x)) x (.ins (He.ga K c) dx [])) (fun v H2 => v = .non ∧ Q (.ref x) H2) EX := fun x dx nx nd ne => by
  unfold newI at h
  have f1 := f.twice (o := .ins (He.ga K c) dx []) (c := .ins c [] []) (o' := .own x) nx nd ne ⟨dx, [], upd_same, cf, rfl, .nil⟩
  refine hf G F _ _ _ _ _ E _ f1 (hv x) l (h x (f.mh nx)) fun F2 H2 v r M2 h2 e2 f2 i2 => ?_
  cases i2 with
  | non =>
    cases b with
    | true => exact ⟨rfl, q F2 H2 _ _ M2 h2 e2 f2 (.ref x)⟩
    | false =>
      obtain ⟨c', ns, xs, q1, rfl, q2⟩ := cellI.get h2
      obtain ⟨F3, e3, f3, i3⟩ := f2.frz q1
      exact ⟨rfl, q F3 H2 _ _ _ q2 (e2.trans e3) f3 i3⟩
  | _ => cases h2
theorem sd_new {b : Bool} {c : Str} {n m : Nat} {sp : Sp} {wf : WF} {EX : XK} {tc : TC} {wc : WC} (hf : SdFL K L EX sp wf) (cf : CF K c []) (hc : SdC K L tc wc) : Sd K L (tNew (He.ga K c) n m sp (fun vs _ => vs) EX tc) (wNew b c n m wf wc) := fun G F H σ ρ M k E Q f s l h q => hc G F H σ ρ M _ E _ f s l h fun F1 H1 vs us xs zs M1 h1 e1 f1 i1 i2 => by
  obtain ⟨l1, h2⟩ := h1.get
  obtain ⟨l2, h3⟩ := h2.get
  exact ⟨i1.len.trans l1, i2.len.trans l2, newI_ok hf cf f1 (L.mono l e1) h3 (q.up e1) (fun x => x :: vs) fun p => .cons (.ref p) i1⟩
theorem sd_newK {b : Bool} {c : Str} {n m : Nat} {sp : Sp} {wf : WF} {EX : XK} {π : List Nat} {tc : TC} {wc : WC} (hf : SdFL K L EX sp wf) (cf : CF K c []) (hc : SdC K L tc wc) : Sd K L (tNew (He.ga K c) n m sp (Rl.pick V.non π) EX tc) (wNewK b c n m wf π wc) := fun G F H σ ρ M k E Q f s l h q => hc G F H σ ρ M _ E _ f s l h fun F1 H1 vs us xs zs M1 h1 e1 f1 i1 i2 => by
  obtain ⟨l1, h2⟩ := h1.get
  obtain ⟨l2, h3⟩ := h2.get
  split at h3
  · rename_i π'
    obtain ⟨ys, h4, h5⟩ := pkS_ok h3
    exact ⟨i1.len.trans l1, i2.len.trans l2, newI_ok hf cf f1 (L.mono l e1) h4 (q.up e1) (fun x => Rl.pick V.non (0 :: π') (x :: vs) us) fun p => by
      have z := pick_is (0 :: π') (.cons (.ref p) i1) i2
      have e : Rl.pick D.non (0 :: π') (D.ref p :: xs) zs = D.ref p :: ys := by
        show D.ref p :: Rl.pick D.non π' (D.ref p :: xs) zs = _
        rw [h5]
      rw [e] at z
      exact z⟩
  · exact h3.elim
/-! ### promises from bodies -/
def start' (n : Nat) (xs : List D) : St' := xs.map some ++ List.replicate (n - xs.length) none
theorem start_ok {N : List Str} {vs : List V} {xs : List D} (h : IsAll K F vs xs) : Sto K F (L2.start N vs) (start' N.length xs) := by
  refine ⟨by unfold L2.start start'; simp [h.len], fun i x e => ?_⟩
  unfold start' at e
  by_cases hi : i < xs.length
  · rw [List.getElem?_append_left (by simpa using hi), List.getElem?_map] at e
    obtain ⟨y, e1, e2⟩ := Option.map_eq_some_iff.mp e
    cases e2
    obtain ⟨v, h1, h2⟩ := h.get e1
    refine ⟨v, ?_, h2⟩
    unfold L2.start
    rw [List.getElem?_append_left (by simp; exact (List.getElem?_eq_some_iff.mp h1).1), List.getElem?_map, h1]; rfl
  · rw [List.getElem?_append_right (by simpa using hi)] at e
    have := List.eq_of_mem_replicate (List.mem_of_getElem? e)
    cases this
/-- a def's transformer: n arguments, N slots -/
def wDef (n N : Nat) (ws : WS) : WF := fun xs M k E => Ck n xs (ws (start' N xs) M { nx := fun _ M' => k .non M', rt := k } E)
theorem sdf_of {sp : Sp} {ts : TS} {ws : WS} {n : Nat} {N : List Str} {M : Nat} (hM : N.length = M) (hsp : ∀ vs H Q (EX : XK), (vs.length = n ∧ ts { nx := fun _ H' => Q .non H', rt := Q } (L2.start N vs) H) → sp vs H Q EX) (hs : SdS K XL.never ts ws) : SdF K sp (wDef n M ws) := fun G F H M' vs xs k E Q EX f i h q => by
  subst hM
  obtain ⟨l1, h1⟩ := Ck.get h
  exact hsp vs H Q EX ⟨i.len.trans l1, hs G F H _ _ M' _ E _ f (start_ok i) trivial h1 (fun F' H' σ' ρ' M'' hk e f' s' => q F' H' .non .non M'' hk e f' .non) q (fun _ _ _ _ _ hk => hk.elim) fun _ _ _ _ _ hk => hk.elim⟩
theorem sdfx_of {sp : Sp} {ts : XK → TS} {ws : WS} {n : Nat} {N : List Str} {M : Nat} (hM : N.length = M) (hsp : ∀ vs H Q (EX : XK), (vs.length = n ∧ ts EX { nx := fun _ H' => Q .non H', rt := Q } (L2.start N vs) H) → sp vs H Q EX) (hs : ∀ EX, SdS K (XL.of K EX) (ts EX) ws) : SdFx K sp (wDef n M ws) := fun EX G F H M' vs xs k E Q f i l h q => by
  subst hM
  obtain ⟨l1, h1⟩ := Ck.get h
  exact hsp vs H Q EX ⟨i.len.trans l1, hs EX G F H _ _ M' _ E _ f (start_ok i) l h1 (fun F' H' σ' ρ' M'' hk e f' s' => q F' H' .non .non M'' hk e f' .non) q (fun _ _ _ _ _ hk => hk.elim) fun _ _ _ _ _ hk => hk.elim⟩
end
end Px

set_option Elab.async false
set_option linter.all false
set_option maxRecDepth 100000
set_option maxHeartbeats 4000000
/-! Operators, built-ins, methods of lists and texts. -/
namespace Px
open PySem PySem.Spec PyProof.Rows L2 Rl RZ RT
open Evl (Ex)
/-! ### data that == compares -/
mutual
def py : D → Option PyData
  | .non => some .none
  | .bl b => some (.bool b)
  | .int i => some (.int i)
  | .str s => some (.str s)
  | .lst xs => (pyAll xs).map .list
  | .tup xs => (pyAll xs).map .tuple
  | .ty _ => none
  | .ins _ _ _ => none
  | .cls _ => none
  | .ref _ => none
  | .scr _ => none
  | .tux _ => none
  | .exc _ _ _ => none
  | .dic => none
def pyAll : List D → Option (List PyData)
  | [] => some []
  | x :: xs => (py x).bind fun p => (pyAll xs).map fun ps => p :: ps
end
section
variable {K : Frag} {F H : Hp}
mutual
theorem Is.dp (e : Ex F H) : ∀ (x : D) (v : V) (p : PyData), Is K F v x → py x = some p → Dp K H v p
  | .non, _, _, h, q => by cases h; cases q; exact .non
  | .bl b, _, _, h, q => by cases h; cases q; exact .bl b
  | .int i, _, _, h, q => by cases h; cases q; exact .int i
  | .str s, _, _, h, q => by cases h; cases q; exact .str s
  | .lst xs, _, p, h, q => by
    simp only [py, Option.map_eq_some_iff] at q
    obtain ⟨ps, q, rfl⟩ := q
    cases h with
    | lst h1 h2 => exact .lst (Evl.sq_of (e _ _ h1)) (IsAll.dp e xs _ ps h2 q)
  | .tup xs, _, p, h, q => by
    simp only [py, Option.map_eq_some_iff] at q
    obtain ⟨ps, q, rfl⟩ := q
    cases h with
    | tup h1 h2 => exact .tup (Evl.ex_t e h1) (IsAll.dp e xs _ ps h2 q)
  | .ty _, _, _, _, q => by simp [py] at q
  | .ins _ _ _, _, _, _, q => by simp [py] at q
  | .cls _, _, _, _, q => by simp [py] at q
  | .ref _, _, _, _, q => by simp [py] at q
  | .scr _, _, _, _, q => by simp [py] at q
  | .tux _, _, _, _, q => by simp [py] at q
  | .exc _ _ _, _, _, _, q => by simp [py] at q
  | .dic, _, _, _, q => by simp [py] at q
theorem IsAll.dp (e : Ex F H) : ∀ (xs : List D) (vs : List V) (ps : List PyData), IsAll K F vs xs → pyAll xs = some ps → DpAll K H vs ps
  | [], _, _, h, q => by cases h; cases q; exact .nil
  | x :: xs, _, ps, h, q => by
    simp only [pyAll, Option.bind_eq_some_iff, Option.map_eq_some_iff] at q
    obtain ⟨p, q1, qs, q2, rfl⟩ := q
    cases h with
    | cons h1 h2 => exact .cons (Is.dp e x _ p h1 q1) (IsAll.dp e xs _ qs h2 q2)
end
end
/-- a datum that == compares, of some depth -/
structure Pk (n : Nat) (x : D) (p : PyData) : Prop where
  py : py x = some p
  ok : p.canLay0 = true
  dp : p.depth ≤ n
def PkAll (n : Nat) (xs : List D) (ps : List PyData) : Prop := pyAll xs = some ps ∧ PyData.canLayAll0 ps = true ∧ PyData.depthAll ps ≤ n
theorem Pk.sh {x : D} {p : PyData} {n : Nat} (h : Pk n x p) (hn : n ≤ 64) : SeqAt.shaped p = true := by
  unfold SeqAt.shaped
  rw [h.ok, decide_eq_true (Nat.le_trans h.dp hn)]
  rfl
theorem pk_non {n : Nat} : Pk n .non .none := ⟨rfl, rfl, Nat.zero_le _⟩
theorem pk_bl {n : Nat} {b : Bool} : Pk n (.bl b) (.bool b) := ⟨rfl, rfl, Nat.zero_le _⟩
theorem pk_int {n : Nat} {i : Int} : Pk n (.int i) (.int i) := ⟨rfl, rfl, Nat.zero_le _⟩
theorem pk_str {n : Nat} {s : Str} (h : PyData.canLay0 (.str s) = true) : Pk n (.str s) (.str s) := ⟨rfl, h, Nat.zero_le _⟩
theorem pka_nil {n : Nat} : PkAll n [] [] := ⟨rfl, rfl, Nat.zero_le _⟩
theorem pka_cons {n : Nat} {x : D} {p : PyData} {xs : List D} {ps : List PyData} (h : Pk n x p) (g : PkAll n xs ps) : PkAll n (x :: xs) (p :: ps) := by
  refine ⟨?_, ?_, ?_⟩
  · simp [pyAll, h.py, g.1]
  · simp [PyData.canLayAll0, h.ok, g.2.1]
  · simp only [PyData.depthAll]
    have := h.dp
    have := g.2.2
    omega
theorem pk_lst {n : Nat} {xs : List D} {ps : List PyData} (h : PkAll n xs ps) : Pk (n + 1) (.lst xs) (.list ps) := by
  refine ⟨by simp [py, h.1], ?_, ?_⟩
  · simp [PyData.canLay0, h.2.1]
  · simp only [PyData.depth]; have := h.2.2; omega
theorem pk_tup {n : Nat} {xs : List D} {ps : List PyData} (h : PkAll n xs ps) : Pk (n + 1) (.tup xs) (.tuple ps) := by
  refine ⟨by simp [py, h.1], ?_, ?_⟩
  · simp [PyData.canLay0, h.2.1]
  · simp only [PyData.depth]; have := h.2.2; omega
theorem pka_ints {n : Nat} : ∀ l : List Int, PkAll n (Li l) (l.map .int)
  | [] => pka_nil
  | i :: l => pka_cons pk_int (pka_ints l)
theorem eqv_ints : ∀ l m : List Int, PyData.eqvAll (l.map .int) (m.map .int) = decide (l = m)
  | [], [] => by simp [PyData.eqvAll]
  | [], _ :: _ => by simp [PyData.eqvAll]
  | _ :: _, [] => by simp [PyData.eqvAll]
  | i :: l, j :: m => by
    simp only [List.map_cons, PyData.eqvAll, PyData.eqv, eqv_ints l m]
    by_cases h : i = j <;> by_cases g : l = m <;> simp [h, g]
theorem dec_intV {i j : Int} : decide (V.int i = V.int j) = decide (i = j) := by by_cases h : i = j <;> simp [h]
theorem dec_strV {i j : Str} : decide (V.str i = V.str j) = decide (i = j) := by by_cases h : i = j <;> simp [h]
/-- .. that may be a cell -/
def pyM (M : Mem) : D → Option PyData
  | .ref a => match M a with
    | some (.lst xs) => (pyAll xs).map .list
    | _ => none
  | x => py x
section
variable {K : Frag} [Tb K] {G F H : Hp} {M : Mem}
theorem dp_of {x : D} {v : V} {p : PyData} (f : Fr K G F H M) (i : Is K F v x) (h : pyM M x = some p) : Dp K H v p := by
  cases x with
  | ref a =>
    cases i
    simp only [pyM] at h
    split at h
    · rename_i xs e
      obtain ⟨_, vs, q1, q2⟩ := f.mc a _ e
      obtain ⟨ps, q3, rfl⟩ := Option.map_eq_some_iff.mp h
      exact .lst (Evl.sq_of q1) (IsAll.dp f.fh xs _ ps q2 q3)
    · cases h
  | _ => exact Is.dp f.fh _ _ _ i h
/-! ### sequences by values -/
@[irreducible] def intsD (xs : List D) (k : List Int → Prop) : Prop := ∃ l, xs = Li l ∧ k l
theorem intsD.get {xs : List D} {k : List Int → Prop} (h : intsD xs k) : ∃ l, xs = Li l ∧ k l := by unfold intsD at h; exact h
theorem ints_of {l : List Int} {k : List Int → Prop} (h : k l) : intsD (Li l) k := by unfold intsD; exact ⟨l, rfl, h⟩
theorem ints_eq {xs : List D} {l : List Int} {k : List Int → Prop} (e : xs = Li l) (h : k l) : intsD xs k := by unfold intsD; exact ⟨l, e, h⟩
@[irreducible] def strsD (xs : List D) (k : List Str → Prop) : Prop := ∃ l, xs = Ls l ∧ k l
theorem strsD.get {xs : List D} {k : List Str → Prop} (h : strsD xs k) : ∃ l, xs = Ls l ∧ k l := by unfold strsD at h; exact h
theorem strs_of {l : List Str} {k : List Str → Prop} (h : k l) : strsD (Ls l) k := by unfold strsD; exact ⟨l, rfl, h⟩
theorem strs_eq {xs : List D} {l : List Str} {k : List Str → Prop} (e : xs = Ls l) (h : k l) : strsD xs k := by unfold strsD; exact ⟨l, e, h⟩
@[irreducible] def blsD (xs : List D) (k : List Bool → Prop) : Prop := ∃ l, xs = Lb l ∧ k l
theorem blsD.get {xs : List D} {k : List Bool → Prop} (h : blsD xs k) : ∃ l, xs = Lb l ∧ k l := by unfold blsD at h; exact h
theorem bls_of {l : List Bool} {k : List Bool → Prop} (h : k l) : blsD (Lb l) k := by unfold blsD; exact ⟨l, rfl, h⟩
theorem bls_eq {xs : List D} {l : List Bool} {k : List Bool → Prop} (e : xs = Lb l) (h : k l) : blsD xs k := by unfold blsD; exact ⟨l, e, h⟩
def asS : D → Mem → (List D → Prop) → Prop
  | .lst xs, _, k => k xs
  | .tup xs, _, k => k xs
  | .ref a, M, k => cellL a M k
  | _, _, _ => False
theorem asS_ok {x : D} {v : V} {k : List D → Prop} (f : Fr K G F H M) (i : Is K F v x) (h : asS x M k) : ∃ a vs xs, v = .ref a ∧ IsAll K F vs xs ∧ (SqL K H a vs ∨ SqT K H a vs) ∧ k xs := by
  cases i with
  | lst h1 h2 => exact ⟨_, _, _, rfl, h2, .inl (Evl.sq_of (f.fh _ _ h1)), h⟩
  | tup h1 h2 => exact ⟨_, _, _, rfl, h2, .inr (Evl.ex_t f.fh h1), h⟩
  | ref a =>
    obtain ⟨xs, e, hk⟩ := cellL.get h
    obtain ⟨_, vs, q1, q2⟩ := f.mc a _ e
    exact ⟨a, vs, xs, rfl, q2, .inl (Evl.sq_of q1), hk⟩
  | _ => cases h
/-- a list's items -/
def asLL : D → Mem → (List D → Prop) → Prop
  | .lst xs, _, k => k xs
  | .ref a, M, k => cellL a M k
  | _, _, _ => False
theorem asLL_ok {x : D} {v : V} {k : List D → Prop} (f : Fr K G F H M) (i : Is K F v x) (h : asLL x M k) : ∃ a vs xs, v = .ref a ∧ IsAll K F vs xs ∧ H a = some (.lst vs) ∧ k xs := by
  cases i with
  | lst h1 h2 => exact ⟨_, _, _, rfl, h2, f.fh _ _ h1, h⟩
  | ref a =>
    obtain ⟨xs, e, hk⟩ := cellL.get h
    obtain ⟨_, vs, q1, q2⟩ := f.mc a _ e
    exact ⟨a, vs, xs, rfl, q2, q1, hk⟩
  | _ => cases h
def asT : D → (List D → Prop) → Prop
  | .tup xs, k => k xs
  | _, _ => False
theorem asT_ok {x : D} {v : V} {k : List D → Prop} (f : Fr K G F H M) (i : Is K F v x) (h : asT x k) : ∃ a vs xs, v = .ref a ∧ IsAll K F vs xs ∧ SqT K H a vs ∧ k xs ∧ x = .tup xs := by
  cases i with
  | tup h1 h2 => exact ⟨_, _, _, rfl, h2, Evl.ex_t f.fh h1, h, rfl⟩
  | _ => cases h
def asInt : D → (Int → Prop) → Prop
  | .int i, k => k i
  | _, _ => False
theorem asInt_ok {x : D} {v : V} {k : Int → Prop} (i : Is K F v x) (h : asInt x k) : ∃ j, v = .int j ∧ x = .int j ∧ k j := by
  cases i <;> first | exact ⟨_, rfl, rfl, h⟩ | cases h
def asStr : D → (Str → Prop) → Prop
  | .str i, k => k i
  | _, _ => False
theorem asStr_ok {x : D} {v : V} {k : Str → Prop} (i : Is K F v x) (h : asStr x k) : ∃ j, v = .str j ∧ x = .str j ∧ k j := by
  cases i <;> first | exact ⟨_, rfl, rfl, h⟩ | cases h
theorem lend {k : D → Mem → Prop} {Q : VK} {v : V} {x : D} (f : Fr K G F H M) (q : Po K G F k Q) (i : Is K F v x) (h : k x M) : Q v H := q F H v x M h (Ex.refl F) f i
theorem lendT {k : D → Mem → Prop} {Q : VK} {vs : List V} {xs : List D} (f : Fr K G F H M) (q : Po K G F k Q) (i : IsAll K F vs xs) (h : k (.tup xs) M) {p : Addr} (n : H p = none) : Q (.ref p) (upd H p (.tup vs)) :=
  q _ _ (.ref p) _ M h (f.exl n) (f.laid n) (.tup (SqT.of upd_same) (i.up (f.exl n)))
/-! ### two-place operators -/
def dAdd (m : Bool) : D2 := fun x y M k => match x with
  | .int i => asInt y fun j => k (.int (i + j)) M
  | .str a => asStr y fun b => Sz (a.length + b.length) (k (.str (a ++ b)) M)
  | .tup xs => asT y fun ys => Sz (xs.length + ys.length) (k (.tup (xs ++ ys)) M)
  | x => asLL x M fun xs => asLL y M fun ys => Sz (xs.length + ys.length) (mkL m (xs ++ ys) M k)
theorem s_add {m : Bool} : Sd2 K (qAdd K) (dAdd m) := fun G F H M x y v u k Q f ix iy h q => by
  have lists : (asLL x M fun xs => asLL y M fun ys => Sz (xs.length + ys.length) (mkL m (xs ++ ys) M k)) → qAdd K v u H Q := fun h => by
    obtain ⟨a, vs, xs, rfl, i1, e1, h⟩ := asLL_ok f ix h
    obtain ⟨b, ws, ys, rfl, i2, e2, h⟩ := asLL_ok f iy h
    obtain ⟨hl, h⟩ := h.get
    exact .inr (.inr (.inl ⟨a, b, vs, ws, rfl, rfl, .inl e1, .inl e2, by rw [i1.len, i2.len]; exact hl, fun p n => mkL_ok f (i1.app i2) h q n⟩))
  cases x with
  | int i =>
    cases ix
    obtain ⟨j, rfl, rfl, h⟩ := asInt_ok iy h
    exact .inl ⟨i, j, rfl, rfl, lend f q (.int _) h⟩
  | str a =>
    cases ix
    obtain ⟨b, rfl, rfl, h⟩ := asStr_ok iy h
    obtain ⟨hl, h⟩ := h.get
    exact .inr (.inl ⟨a, b, rfl, rfl, hl, lend f q (.str _) h⟩)
  | tup xs =>
    obtain ⟨a, vs, xs', rfl, i1, e1, _, ex⟩ := asT_ok (k := fun _ => True) f ix trivial
    cases ex
    obtain ⟨b, ws, ys, rfl, i2, e2, hz, rfl⟩ := asT_ok f iy h
    obtain ⟨hl, hk⟩ := hz.get
    refine .inr (.inr (.inr ⟨a, b, vs, ws, rfl, rfl, e1, e2, by rw [i1.len, i2.len]; exact hl, fun e => ?_, fun _ e => ?_, fun _ _ p hp => lendT f q (i1.app i2) hk hp⟩))
    · subst e; cases i1; exact lend f q iy hk
    · subst e; cases i2
      have e2 : xs ++ [] = xs := List.append_nil xs
      rw [e2] at hk
      exact lend f q ix hk
  | _ => exact lists h
def dSub : D2 := fun x y M k => asInt x fun i => asInt y fun j => k (.int (i - j)) M
theorem s_sub : Sd2 K qSub dSub := fun G F H M x y v u k Q f ix iy h q => by
  obtain ⟨i, rfl, rfl, h⟩ := asInt_ok ix h
  obtain ⟨j, rfl, rfl, h⟩ := asInt_ok iy h
  exact ⟨i, j, rfl, rfl, lend f q (.int _) h⟩
/-- products that the model makes -/
def MulOk (i j : Int) : Prop := CMul i j ∨ CMulW i j
@[irreducible] def mulD (i j : Int) (k : Int → Prop) : Prop := MulOk i j ∧ k (i * j)
theorem mulD.get {i j : Int} {k : Int → Prop} (h : mulD i j k) : MulOk i j ∧ k (i * j) := by unfold mulD at h; exact h
theorem mul_of {i j : Int} {k : Int → Prop} (h0 : MulOk i j) (h : k (i * j)) : mulD i j k := by unfold mulD; exact ⟨h0, h⟩
theorem mul_l {i j : Int} {k : Int → Prop} (h0 : -(2 ^ 64) < i ∧ i < 2 ^ 64) (h : k (i * j)) : mulD i j k := mul_of (.inl (.inl h0)) h
theorem mul_r {i j : Int} {k : Int → Prop} (h0 : -(2 ^ 64) < j ∧ j < 2 ^ 64) (h : k (i * j)) : mulD i j k := mul_of (.inl (.inr h0)) h
theorem big_log {j : Int} {n : Nat} (hn : 0 < n) (h : j.natAbs < 2 ^ n) : j.natAbs.log2 < n := PySem.Flt.log2_lt_of hn h
theorem mul_w {i j : Int} {n m : Nat} {k : Int → Prop} (hi : i.natAbs < 2 ^ n) (hj : j.natAbs < 2 ^ m) (hn : 0 < n) (hm : 0 < m) (hs : n + m ≤ 1000000) (h : k (i * j)) : mulD i j k := mul_of (.inr (by
  have := big_log hn hi
  have := big_log hm hj
  show i.natAbs.log2 + j.natAbs.log2 < 1000000
  omega)) h
/-- a list again and again -/
@[irreducible] def repD (n : Nat) (j : Int) (P : Prop) : Prop := (-(2 ^ 63) ≤ j ∧ j < 2 ^ 63) ∧ n * j.toNat ≤ sizeLine ∧ P
theorem repD.get {n : Nat} {j : Int} {P : Prop} (h : repD n j P) : (-(2 ^ 63) ≤ j ∧ j < 2 ^ 63) ∧ n * j.toNat ≤ sizeLine ∧ P := by unfold repD at h; exact h
theorem rep_of {n : Nat} {j : Int} {P : Prop} (h1 : -(2 ^ 63) ≤ j ∧ j < 2 ^ 63) (h2 : n * j.toNat ≤ 16777216) (h : P) : repD n j P := by unfold repD; exact ⟨h1, by rw [sizeLine_eq]; exact h2, h⟩
def dMul (m : Bool) : D2 := fun x y M k => asInt y fun j => match x with
  | .int i => mulD i j fun n => k (.int n) M
  | x => asLL x M fun xs => repD xs.length j (mkL m (List.replicate j.toNat xs).flatten M k)
theorem s_mul {m : Bool} : Sd2 K qMul (dMul m) := fun G F H M x y v u k Q f ix iy h q => by
  obtain ⟨j, rfl, rfl, h⟩ := asInt_ok iy h
  have lists : (asLL x M fun xs => repD xs.length j (mkL m (List.replicate j.toNat xs).flatten M k)) → qMul v (.int j) H Q := fun h => by
    obtain ⟨a, vs, xs, rfl, i1, e1, h⟩ := asLL_ok f ix h
    obtain ⟨h1, hl, h⟩ := h.get
    exact .inr (.inr ⟨a, j, vs, rfl, rfl, e1, h1.1, h1.2, by rw [i1.len]; exact hl, fun p n => mkL_ok f (i1.rep _) h q n⟩)
  cases x with
  | int i =>
    cases ix
    obtain ⟨h0, h⟩ := mulD.get h
    rcases h0 with c | c
    · exact .inl ⟨i, j, rfl, rfl, c, lend f q (.int _) h⟩
    · exact .inr (.inl ⟨i, j, rfl, rfl, c, lend f q (.int _) h⟩)
  | _ => exact lists h
@[irreducible] def fdD (i j : Int) (k : Int → Prop) : Prop := (0 < j ∧ j.natAbs.log2 < 9000 ∧ k (i / j)) ∨ (j < 0 ∧ j.natAbs < 1073741824 ∧ k (i.fdiv j))
theorem fdD.get {i j : Int} {k : Int → Prop} (h : fdD i j k) : (0 < j ∧ j.natAbs.log2 < 9000 ∧ k (i / j)) ∨ (j < 0 ∧ j.natAbs < 1073741824 ∧ k (i.fdiv j)) := by unfold fdD at h; exact h
theorem fd_pos {i j : Int} {k : Int → Prop} (h0 : 0 < j ∧ j < 2 ^ 63) (h : k (i / j)) : fdD i j k := by unfold fdD; exact .inl ⟨h0.1, Nat.lt_trans (big_log (n := 63) (by decide) (by omega)) (by decide), h⟩
theorem fd_w {i j : Int} {k : Int → Prop} (h0 : 0 < j) (n : Nat) (hn : 0 < n) (h1 : j.natAbs < 2 ^ n) (h2 : n ≤ 9000) (h : k (i / j)) : fdD i j k := by unfold fdD; exact .inl ⟨h0, Nat.lt_of_lt_of_le (big_log hn h1) h2, h⟩
theorem fd_neg {i j : Int} {k : Int → Prop} (h0 : j < 0 ∧ -1073741824 < j) (h : k (i.fdiv j)) : fdD i j k := by unfold fdD; exact .inr ⟨h0.1, by omega, h⟩
def dFd : D2 := fun x y M k => asInt x fun i => asInt y fun j => fdD i j fun n => k (.int n) M
theorem s_fd : Sd2 K qFd dFd := fun G F H M x y v u k Q f ix iy h q => by
  obtain ⟨i, rfl, rfl, h⟩ := asInt_ok ix h
  obtain ⟨j, rfl, rfl, h⟩ := asInt_ok iy h
  rcases fdD.get h with ⟨h1, h2, h⟩ | ⟨h1, h2, h⟩
  · exact .inr ⟨i, j, rfl, rfl, ⟨h1, h2⟩, lend f q (.int _) h⟩
  · exact .inl ⟨i, j, rfl, rfl, ⟨by omega, h2⟩, lend f q (.int _) h⟩
@[irreducible] def mdD (i j : Int) (k : Int → Prop) : Prop := (0 < j ∧ k (i % j)) ∨ (j < 0 ∧ k (i.fmod j))
theorem mdD.get {i j : Int} {k : Int → Prop} (h : mdD i j k) : (0 < j ∧ k (i % j)) ∨ (j < 0 ∧ k (i.fmod j)) := by unfold mdD at h; exact h
theorem md_pos {i j : Int} {k : Int → Prop} (h0 : 0 < j) (h : k (i % j)) : mdD i j k := by unfold mdD; exact .inl ⟨h0, h⟩
theorem md_neg {i j : Int} {k : Int → Prop} (h0 : j < 0) (h : k (i.fmod j)) : mdD i j k := by unfold mdD; exact .inr ⟨h0, h⟩
def dMd : D2 := fun x y M k => asInt x fun i => asInt y fun j => mdD i j fun n => k (.int n) M
theorem s_md : Sd2 K qMd dMd := fun G F H M x y v u k Q f ix iy h q => by
  obtain ⟨i, rfl, rfl, h⟩ := asInt_ok ix h
  obtain ⟨j, rfl, rfl, h⟩ := asInt_ok iy h
  rcases mdD.get h with ⟨h1, h⟩ | ⟨h1, h⟩
  · exact .inl ⟨i, j, rfl, rfl, h1, lend f q (.int _) h⟩
  · exact .inr ⟨i, j, rfl, rfl, by omega, lend f q (.int _) h⟩
@[irreducible] def pwD (i j : Int) (k : Int → Prop) : Prop := CPow i j ∧ k (i ^ j.toNat)
theorem pwD.get {i j : Int} {k : Int → Prop} (h : pwD i j k) : CPow i j ∧ k (i ^ j.toNat) := by unfold pwD at h; exact h
theorem pw_of {i j : Int} {k : Int → Prop} (h0 : 0 ≤ j ∧ j ≤ 1000000) (h1 : i.natAbs < 2 ^ 64) (h : k (i ^ j.toNat)) : pwD i j k := by unfold pwD; exact ⟨⟨h0.1, h0.2, h1⟩, h⟩
def dPw : D2 := fun x y M k => asInt x fun i => asInt y fun j => pwD i j fun n => k (.int n) M
theorem s_pw : Sd2 K qPw dPw := fun G F H M x y v u k Q f ix iy h q => by
  obtain ⟨i, rfl, rfl, h⟩ := asInt_ok ix h
  obtain ⟨j, rfl, rfl, h⟩ := asInt_ok iy h
  obtain ⟨c, h⟩ := h.get
  exact ⟨i, j, rfl, rfl, c, lend f q (.int _) h⟩
def dLt : D2 := fun x y M k => match x with
  | .tup xs => asT y fun ys => intsD xs fun ns => intsD ys fun ms => k (.bl (HT.lexLt ns ms)) M
  | x => asInt x fun i => asInt y fun j => k (.bl (decide (i < j))) M
theorem s_lt : Sd2 K (qLt K) dLt := fun G F H M x y v u k Q f ix iy h q => by
  have two_ : (asInt x fun i => asInt y fun j => k (.bl (decide (i < j))) M) → qLt K v u H Q := fun h => by
    obtain ⟨i, rfl, rfl, h⟩ := asInt_ok ix h
    obtain ⟨j, rfl, rfl, h⟩ := asInt_ok iy h
    exact .inl ⟨i, j, rfl, rfl, lend f q (.bl _) h⟩
  cases x with
  | tup xs =>
    obtain ⟨_, _, ys, rfl, _, _, hy, rfl⟩ := asT_ok f iy h
    obtain ⟨ns, e1, hy⟩ := hy.get
    obtain ⟨ms, e2, hy⟩ := hy.get
    cases ix with
    | tup a1 a2 =>
      cases iy with
      | tup b1 b2 =>
        rw [e1] at a2
        rw [e2] at b2
        have z1 := IsAll.li ns a2
        have z2 := IsAll.li ms b2
        subst z1 z2
        exact .inr ⟨_, _, ns, ms, rfl, rfl, Evl.ex_t f.fh a1, Evl.ex_t f.fh b1, lend f q (.bl _) hy⟩
  | _ => exact two_ h
def dLe : D2 := fun x y M k => asInt x fun i => asInt y fun j => k (.bl (decide (i ≤ j))) M
def dGt : D2 := fun x y M k => asInt x fun i => asInt y fun j => k (.bl (decide (j < i))) M
def dGe : D2 := fun x y M k => asInt x fun i => asInt y fun j => k (.bl (decide (j ≤ i))) M
theorem s_le : Sd2 K qLe dLe := fun G F H M x y v u k Q f ix iy h q => by
  obtain ⟨i, rfl, rfl, h⟩ := asInt_ok ix h
  obtain ⟨j, rfl, rfl, h⟩ := asInt_ok iy h
  exact ⟨i, j, rfl, rfl, lend f q (.bl _) h⟩
theorem s_gt : Sd2 K qGt dGt := fun G F H M x y v u k Q f ix iy h q => by
  obtain ⟨i, rfl, rfl, h⟩ := asInt_ok ix h
  obtain ⟨j, rfl, rfl, h⟩ := asInt_ok iy h
  exact ⟨i, j, rfl, rfl, lend f q (.bl _) h⟩
theorem s_ge : Sd2 K qGe dGe := fun G F H M x y v u k Q f ix iy h q => by
  obtain ⟨i, rfl, rfl, h⟩ := asInt_ok ix h
  obtain ⟨j, rfl, rfl, h⟩ := asInt_ok iy h
  exact ⟨i, j, rfl, rfl, lend f q (.bl _) h⟩
/-- == of data -/
@[irreducible] def eqG (x y : D) (M : Mem) (k : Bool → Prop) : Prop := ∃ p q, pyM M x = some p ∧ pyM M y = some q ∧ SeqAt.shaped p = true ∧ SeqAt.shaped q = true ∧ k (PyData.eqv p q)
theorem eqG.get {x y : D} {M : Mem} {k : Bool → Prop} (h : eqG x y M k) : ∃ p q, pyM M x = some p ∧ pyM M y = some q ∧ SeqAt.shaped p = true ∧ SeqAt.shaped q = true ∧ k (PyData.eqv p q) := by unfold eqG at h; exact h
theorem eq_of {x y : D} {M : Mem} {k : Bool → Prop} {p q : PyData} {n m : Nat} (hx : Pk n x p) (hy : Pk m y q) (hn : n ≤ 64) (hm : m ≤ 64) (h : k (PyData.eqv p q)) : eqG x y M k := by
  have e : ∀ {x : D} {p : PyData}, py x = some p → pyM M x = some p := fun {x p} e => by
    cases x with
    | ref a => simp [py] at e
    | _ => exact e
  unfold eqG
  exact ⟨p, q, e hx.py, e hy.py, hx.sh hn, hy.sh hm, h⟩
theorem eq_ref {a : Addr} {xs : List D} {y : D} {M : Mem} {k : Bool → Prop} {p q : PyData} {n m : Nat} (ea : M a = some (.lst xs)) (hx : Pk n (.lst xs) p) (hy : Pk m y q) (hn : n ≤ 64) (hm : m ≤ 64) (h : k (PyData.eqv p q)) : eqG (.ref a) y M k := by
  have e : ∀ {x : D} {p : PyData}, py x = some p → pyM M x = some p := fun {x p} e => by
    cases x with
    | ref a => simp [py] at e
    | _ => exact e
  unfold eqG
  refine ⟨p, q, ?_, e hy.py, hx.sh hn, hy.sh hm, h⟩
  simp only [pyM, ea]
  exact hx.py
theorem eq_tt {l m : List Int} {M : Mem} {k : Bool → Prop} (h : k (decide (l = m))) : eqG (.tup (Li l)) (.tup (Li m)) M k := eq_of (pk_tup (n := 0) (pka_ints l)) (pk_tup (n := 0) (pka_ints m)) (by omega) (by omega) (by
  show k (PyData.eqvAll _ _)
  rw [eqv_ints]; exact h)
theorem eq_ll {l m : List Int} {M : Mem} {k : Bool → Prop} (h : k (decide (l = m))) : eqG (.lst (Li l)) (.lst (Li m)) M k := eq_of (pk_lst (n := 0) (pka_ints l)) (pk_lst (n := 0) (pka_ints m)) (by omega) (by omega) (by
  show k (PyData.eqvAll _ _)
  rw [eqv_ints]; exact h)
theorem eq_lref {a : Addr} {l m : List Int} {M : Mem} {k : Bool → Prop} (ea : M a = some (.lst (Li l))) (h : k (decide (l = m))) : eqG (.ref a) (.lst (Li m)) M k := eq_ref ea (pk_lst (n := 0) (pka_ints l)) (pk_lst (n := 0) (pka_ints m)) (by omega) (by omega) (by
  show k (PyData.eqvAll _ _)
  rw [eqv_ints]; exact h)
theorem eq_nonint {j : Int} {M : Mem} {k : Bool → Prop} (h : k false) : eqG .non (.int j) M k := eq_of (n := 0) (m := 0) pk_non pk_int (by omega) (by omega) (by simpa [PyData.eqv] using h)
theorem eq_intnon {j : Int} {M : Mem} {k : Bool → Prop} (h : k false) : eqG (.int j) .non M k := eq_of (n := 0) (m := 0) pk_int pk_non (by omega) (by omega) (by simpa [PyData.eqv] using h)
theorem eq_nonnon {M : Mem} {k : Bool → Prop} (h : k true) : eqG .non .non M k := eq_of (n := 0) (m := 0) pk_non pk_non (by omega) (by omega) (by simpa [PyData.eqv] using h)
theorem eq_blbl {a b : Bool} {M : Mem} {k : Bool → Prop} (h : k (a == b)) : eqG (.bl a) (.bl b) M k := eq_of (n := 0) (m := 0) pk_bl pk_bl (by omega) (by omega) (by simpa [PyData.eqv] using h)
def eqD (x y : D) (M : Mem) (k : Bool → Prop) : Prop := match x, y with
  | .int i, .int j => k (decide (i = j))
  | .str i, .str j => k (decide (i = j))
  | x, y => eqG x y M k
def dEq : D2 := fun x y M k => eqD x y M fun b => k (.bl b) M
def dNe : D2 := fun x y M k => eqD x y M fun b => k (.bl (!b)) M
theorem s_eq : Sd2 K (qEq K) dEq := fun G F H M x y v u k Q f ix iy h q => by
  unfold dEq eqD at h
  split at h
  · cases ix; cases iy; exact .inl ⟨rfl, by rw [dec_intV]; exact lend f q (.bl _) h⟩
  · cases ix; cases iy; exact .inl ⟨rfl, by rw [dec_strV]; exact lend f q (.bl _) h⟩
  · obtain ⟨p, p', h1, h2, h3, h4, h⟩ := h.get
    exact .inr ⟨p, p', dp_of f ix h1, dp_of f iy h2, h3, h4, lend f q (.bl _) h⟩
theorem s_ne : Sd2 K (qNe K) dNe := fun G F H M x y v u k Q f ix iy h q => by
  unfold dNe eqD at h
  split at h
  · cases ix; cases iy; exact .inl ⟨rfl, by rw [dec_intV]; exact lend f q (.bl _) h⟩
  · cases ix; cases iy; exact .inl ⟨rfl, by rw [dec_strV]; exact lend f q (.bl _) h⟩
  · obtain ⟨p, p', h1, h2, h3, h4, h⟩ := h.get
    exact .inr ⟨p, p', dp_of f ix h1, dp_of f iy h2, h3, h4, lend f q (.bl _) h⟩
def isNon : D → Bool
  | .non => true
  | _ => false
def asNon : D → Prop → Prop
  | .non, P => P
  | _, _ => False
theorem non_ok {x : D} {v : V} (i : Is K F v x) : decide (v = V.non) = isNon x := by cases i <;> rfl
def dIs : D2 := fun x y M k => asNon y (k (.bl (isNon x)) M)
def dIsn : D2 := fun x y M k => asNon y (k (.bl (!isNon x)) M)
theorem s_is : Sd2 K qIs dIs := fun G F H M x y v u k Q f ix iy h q => by
  cases iy with
  | non => exact ⟨rfl, by rw [non_ok ix]; exact lend f q (.bl _) h⟩
  | _ => cases h
theorem s_isn : Sd2 K qIsn dIsn := fun G F H M x y v u k Q f ix iy h q => by
  cases iy with
  | non => exact ⟨rfl, by rw [non_ok ix]; exact lend f q (.bl _) h⟩
  | _ => cases h
theorem atI_map {vs : List V} {xs : List D} {x : D} (h : IsAll K F vs xs) {i : Int} (e : atI xs i = some x) : ∃ v, atI vs i = some v ∧ Is K F v x := by
  unfold atI at e ⊢
  obtain ⟨j, e1, e2⟩ := Option.bind_eq_some_iff.mp e
  obtain ⟨v, h1, h2⟩ := h.get e2
  exact ⟨v, by rw [h.len, e1]; exact h1, h2⟩
@[irreducible] def ixD (xs : List D) (i : Int) (k : D → Prop) : Prop := ∃ d, atI xs i = some d ∧ k d
theorem ixD.get {xs : List D} {i : Int} {k : D → Prop} (h : ixD xs i k) : ∃ d, atI xs i = some d ∧ k d := by unfold ixD at h; exact h
theorem ix_of {xs : List D} {i : Int} {k : D → Prop} {d : D} (e : atI xs i = some d) (h : k d) : ixD xs i k := by unfold ixD; exact ⟨d, e, h⟩
@[irreducible] def ixS (z : Str) (i : Int) (k : D → Prop) : Prop := z.length ≤ sizeLine ∧ ∃ c, atI z.cps.toList i = some c ∧ k (.str ⟨#[c]⟩)
theorem ixS.get {z : Str} {i : Int} {k : D → Prop} (h : ixS z i k) : z.length ≤ sizeLine ∧ ∃ c, atI z.cps.toList i = some c ∧ k (.str ⟨#[c]⟩) := by unfold ixS at h; exact h
theorem ixs_of {z : Str} {i : Int} {k : D → Prop} {c : Nat} (hz : z.length ≤ 16777216) (e : atI z.cps.toList i = some c) (h : k (.str ⟨#[c]⟩)) : ixS z i k := by unfold ixS; exact ⟨by rw [sizeLine_eq]; exact hz, c, e, h⟩
def dIx : D2 := fun x y M k => asInt y fun i => match x with
  | .str z => ixS z i fun d => k d M
  | x => asS x M fun xs => ixD xs i fun d => k d M
theorem s_ix : Sd2 K (rIx K) dIx := fun G F H M x y v u k Q f ix iy h q => by
  obtain ⟨i, rfl, rfl, h⟩ := asInt_ok iy h
  have seqs : (asS x M fun xs => ixD xs i fun d => k d M) → rIx K v (.int i) H Q := fun h => by
    obtain ⟨a, vs, xs, rfl, i1, r1, h⟩ := asS_ok f ix h
    obtain ⟨d, e, h⟩ := h.get
    obtain ⟨u, e1, iu⟩ := atI_map i1 e
    rcases r1 with r1 | r1
    · exact .inl ⟨a, vs, i, u, rfl, rfl, r1, e1, lend f q iu h⟩
    · exact .inr (.inl ⟨a, vs, i, u, rfl, rfl, r1, e1, lend f q iu h⟩)
  cases x with
  | str z =>
    cases ix
    obtain ⟨hl, c, e, h⟩ := ixS.get h
    exact .inr (.inr ⟨z, i, c, rfl, rfl, hl, e, lend f q (.str _) h⟩)
  | _ => exact seqs h
theorem inV_ints {i : Int} : ∀ l : List Int, inV (.int i) (l.map V.int) = decide (i ∈ l)
  | [] => by simp [inV]
  | j :: l => by
    have z := inV_ints (i := i) l
    unfold inV at z ⊢
    rw [List.map_cons, List.any_cons, z]
    show ((j == i) || decide (i ∈ l)) = decide (i ∈ j :: l)
    by_cases h : j = i
    · subst h; simp
    · have : i ≠ j := fun e => h e.symm
      simp [h, this]
theorem flat_ints : ∀ l : List Int, (l.map V.int).all flatV = true
  | [] => rfl
  | _ :: l => flat_ints l
theorem inV_strs {i : Str} : ∀ l : List Str, inV (.str i) (l.map V.str) = decide (i ∈ l)
  | [] => by simp [inV]
  | j :: l => by
    have z := inV_strs (i := i) l
    unfold inV at z ⊢
    rw [List.map_cons, List.any_cons, z]
    show ((j == i) || decide (i ∈ l)) = decide (i ∈ j :: l)
    by_cases h : j = i
    · subst h; simp
    · have : i ≠ j := fun e => h e.symm
      have h' : (j == i) = false := by simpa using h
      rw [h']
      simp [this]
theorem flat_strs : ∀ l : List Str, (l.map V.str).all flatV = true
  | [] => rfl
  | _ :: l => flat_strs l
/-- x in y -/
@[irreducible] def signD (z : Str) (k : Nat → Prop) : Prop := ∃ c, z = ⟨#[c]⟩ ∧ k c
theorem signD.get {z : Str} {k : Nat → Prop} (h : signD z k) : ∃ c, z = ⟨#[c]⟩ ∧ k c := by unfold signD at h; exact h
theorem sign_of {c : Nat} {k : Nat → Prop} (h : k c) : signD ⟨#[c]⟩ k := by unfold signD; exact ⟨c, rfl, h⟩
@[irreducible] def inG (x y : D) (M : Mem) (k : Bool → Prop) : Prop := ∃ d ds c, pyM M x = some d ∧ pyM M y = some c ∧ (c = .list ds ∨ c = .tuple ds) ∧ SeqAt.shaped d = true ∧ SeqAt.shaped c = true ∧ k (ds.any fun z => PyData.eqv z d)
theorem inG.get {x y : D} {M : Mem} {k : Bool → Prop} (h : inG x y M k) : ∃ d ds c, pyM M x = some d ∧ pyM M y = some c ∧ (c = .list ds ∨ c = .tuple ds) ∧ SeqAt.shaped d = true ∧ SeqAt.shaped c = true ∧ k (ds.any fun z => PyData.eqv z d) := by unfold inG at h; exact h
def inD (x y : D) (M : Mem) (k : Bool → Prop) : Prop := match x with
  | .int i => asS y M fun ys => intsD ys fun l => k (decide (i ∈ l))
  | .str z => match y with
    | .str w => signD z fun c => k (decide (c ∈ w.cps.toList))
    | y => asS y M fun ys => strsD ys fun l => k (decide (z ∈ l))
  | x => inG x y M k
def dIn : D2 := fun x y M k => inD x y M fun b => k (.bl b) M
def dNin : D2 := fun x y M k => inD x y M fun b => k (.bl (!b)) M
theorem s_in : Sd2 K (qIn K) dIn := fun G F H M x y v u k Q f ix iy h q => by
  have gen : (inG x y M fun b => k (.bl (b)) M) → qIn K v u H Q := fun h => by
    obtain ⟨d, ds, c, h1, h2, hc, h3, h4, h⟩ := h.get
    rcases hc with rfl | rfl
    · exact .inr (.inr (.inr (.inl ⟨d, ds, dp_of f ix h1, dp_of f iy h2, h3, h4, lend f q (.bl _) h⟩)))
    · exact .inr (.inr (.inr (.inr ⟨d, ds, dp_of f ix h1, dp_of f iy h2, h3, h4, lend f q (.bl _) h⟩)))
  cases x with
  | int i =>
    cases ix
    obtain ⟨a, vs, xs, rfl, i1, r1, h⟩ := asS_ok f iy h
    have h2 := h.get; clear h; obtain ⟨l, rfl, h⟩ := h2
    have e := IsAll.li l i1
    subst e
    exact .inr (.inl ⟨a, _, rfl, r1, rfl, flat_ints l, by
      show Q (.bl (inV (.int i) (l.map V.int))) H
      rw [inV_ints]; exact lend f q (.bl _) h⟩)
  | str z =>
    cases ix
    have seqs : (asS y M fun ys => strsD ys fun l => k (.bl (decide (z ∈ l))) M) → qIn K (.str z) u H Q := fun h => by
      obtain ⟨a, vs, xs, rfl, i1, r1, h⟩ := asS_ok f iy h
      have h2 := h.get; clear h; obtain ⟨l, rfl, h⟩ := h2
      have e := IsAll.ls l i1
      subst e
      exact .inr (.inl ⟨a, _, rfl, r1, rfl, flat_strs l, by
        show Q (.bl (inV (.str z) (l.map V.str))) H
        rw [inV_strs]; exact lend f q (.bl _) h⟩)
    cases y with
    | str w =>
      cases iy
      have h2 := signD.get h; clear h; obtain ⟨c, rfl, h⟩ := h2
      exact .inl ⟨c, w, rfl, rfl, lend f q (.bl _) h⟩
    | _ => exact seqs h
  | _ => exact gen h
theorem s_nin : Sd2 K (qNin K) dNin := fun G F H M x y v u k Q f ix iy h q => by
  have gen : (inG x y M fun b => k (.bl (!b)) M) → qNin K v u H Q := fun h => by
    obtain ⟨d, ds, c, h1, h2, hc, h3, h4, h⟩ := h.get
    rcases hc with rfl | rfl
    · exact .inr (.inr (.inr (.inl ⟨d, ds, dp_of f ix h1, dp_of f iy h2, h3, h4, lend f q (.bl _) h⟩)))
    · exact .inr (.inr (.inr (.inr ⟨d, ds, dp_of f ix h1, dp_of f iy h2, h3, h4, lend f q (.bl _) h⟩)))
  cases x with
  | int i =>
    cases ix
    obtain ⟨a, vs, xs, rfl, i1, r1, h⟩ := asS_ok f iy h
    have h2 := h.get; clear h; obtain ⟨l, rfl, h⟩ := h2
    have e := IsAll.li l i1
    subst e
    exact .inr (.inl ⟨a, _, rfl, r1, rfl, flat_ints l, by
      show Q (.bl (!inV (.int i) (l.map V.int))) H
      rw [inV_ints]; exact lend f q (.bl _) h⟩)
  | str z =>
    cases ix
    have seqs : (asS y M fun ys => strsD ys fun l => k (.bl (!decide (z ∈ l))) M) → qNin K (.str z) u H Q := fun h => by
      obtain ⟨a, vs, xs, rfl, i1, r1, h⟩ := asS_ok f iy h
      have h2 := h.get; clear h; obtain ⟨l, rfl, h⟩ := h2
      have e := IsAll.ls l i1
      subst e
      exact .inr (.inl ⟨a, _, rfl, r1, rfl, flat_strs l, by
        show Q (.bl (!inV (.str z) (l.map V.str))) H
        rw [inV_strs]; exact lend f q (.bl _) h⟩)
    cases y with
    | str w =>
      cases iy
      have h2 := signD.get h; clear h; obtain ⟨c, rfl, h⟩ := h2
      exact .inl ⟨c, w, rfl, rfl, lend f q (.bl _) h⟩
    | _ => exact seqs h
  | _ => exact gen h
def dNeg : D1 := fun x M k => asInt x fun i => k (.int (-i)) M
theorem s_neg : Sd1 K (rU fun i => .int (-i)) dNeg := fun G F H M x v k Q f ix h q => by
  obtain ⟨i, rfl, rfl, h⟩ := asInt_ok ix h
  exact ⟨i, rfl, lend f q (.int _) h⟩
/-! ### built-ins -/
def b1 (d : D → Mem → (D → Mem → Prop) → Prop) : DA := fun xs M k => match xs with
  | [x] => d x M k
  | _ => False
theorem sb1 {r : List V → Hp → VK → Prop} {d : D1} (h : ∀ G F H M x v k Q, Fr K G F H M → Is K F v x → d x M k → Po K G F k Q → r [v] H Q) : SdB K r (b1 d) := fun G F H M xs vs k Q f i hd q => by
  cases i with
  | nil => cases hd
  | cons a b => cases b with
    | nil => exact h G F H M _ _ k Q f a hd q
    | cons _ _ => cases hd
def dLen : D1 := fun x M k => match x with
  | .str z => Sz z.length (k (.int (z.length : Nat)) M)
  | x => asS x M fun xs => k (.int (xs.length : Nat)) M
theorem s_len : SdB K (qLen K) (b1 dLen) := sb1 fun G F H M x v k Q f ix h q => by
  have seqs : (asS x M fun xs => k (.int (xs.length : Nat)) M) → qLen K [v] H Q := fun h => by
    obtain ⟨a, vs, xs, rfl, i1, r1, h⟩ := asS_ok f ix h
    refine ⟨_, vs.length, rfl, ?_, ?_⟩
    · rcases r1 with r1 | r1
      · exact .inl ⟨vs, r1, rfl⟩
      · exact .inr ⟨vs, r1, rfl⟩
    · rw [i1.len]; exact lend f q (.int _) h
  cases x with
  | str z => cases ix; exact ⟨_, z.length, rfl, ⟨(Sz.get h).1, rfl⟩, lend f q (.int _) (Sz.get h).2⟩
  | _ => exact seqs h
@[irreducible] def readD (z : Str) (k : Int → Prop) : Prop := ∃ n, PySem.intText? z = some n ∧ z.length ≤ 640 ∧ k n
theorem readD.get {z : Str} {k : Int → Prop} (h : readD z k) : ∃ n, PySem.intText? z = some n ∧ z.length ≤ 640 ∧ k n := by unfold readD at h; exact h
theorem read_of {z : Str} {k : Int → Prop} {n : Int} (e : PySem.intText? z = some n) (hz : z.length ≤ 640) (h : k n) : readD z k := by unfold readD; exact ⟨n, e, hz, h⟩
@[irreducible] def strD (i : Int) (k : Str → Prop) : Prop := i.natAbs.log2 < 1920 ∧ k (toString i)
theorem strD.get {i : Int} {k : Str → Prop} (h : strD i k) : i.natAbs.log2 < 1920 ∧ k (toString i) := by unfold strD at h; exact h
theorem str_of {i : Int} {k : Str → Prop} (h0 : i.natAbs < 10 ^ 100) (h : k (toString i)) : strD i k := by
  unfold strD
  refine ⟨Nat.lt_of_lt_of_le (big_log (n := 350) (by decide) (Nat.lt_of_lt_of_le h0 (by decide +kernel))) (by decide), h⟩
def dInt : D1 := fun x M k => match x with
  | .int i => k (.int i) M
  | .bl b => k (.int (if b then 1 else 0)) M
  | .str z => readD z fun n => k (.int n) M
  | _ => False
theorem s_int : SdB K qInt (b1 dInt) := sb1 fun G F H M x v k Q f ix h q => by
  cases ix with
  | int i => exact .inl (.inl ⟨i, rfl, lend f q (.int _) h⟩)
  | bl b => exact .inl (.inr ⟨b, rfl, lend f q (.int _) h⟩)
  | str z => obtain ⟨n, h1, h2, h⟩ := readD.get h; exact .inr ⟨z, n, rfl, h1, h2, lend f q (.int _) h⟩
  | _ => cases h
def dStr : D1 := fun x M k => asInt x fun i => strD i fun z => k (.str z) M
theorem s_str : SdB K qStr (b1 dStr) := sb1 fun G F H M x v k Q f ix h q => by
  obtain ⟨i, rfl, rfl, h⟩ := asInt_ok ix h
  obtain ⟨h1, h⟩ := h.get
  exact ⟨i, rfl, h1, lend f q (.str _) h⟩
def dAbs : D1 := fun x M k => asInt x fun i => k (.int (i.natAbs : Nat)) M
theorem s_abs : SdB K qAbs (b1 dAbs) := sb1 fun G F H M x v k Q f ix h q => by
  obtain ⟨i, rfl, rfl, h⟩ := asInt_ok ix h
  have e : (if i < 0 then -i else i) = (i.natAbs : Int) := by split <;> omega
  exact ⟨i, rfl, by rw [e]; exact lend f q (.int _) h⟩
def dBool : D1 := fun x M k => match x with
  | .int i => k (.bl (i != 0)) M
  | .bl b => k (.bl b) M
  | _ => False
theorem s_bool : SdB K qBool (b1 dBool) := sb1 fun G F H M x v k Q f ix h q => by
  cases ix with
  | int i => exact .inl ⟨i, rfl, lend f q (.bl _) h⟩
  | bl b => exact .inr ⟨b, rfl, lend f q (.bl _) h⟩
  | _ => cases h
def dSum : D1 := fun x M k => asLL x M fun xs => intsD xs fun l => k (.int l.sum) M
theorem s_sum : SdB K (rSum K) (b1 dSum) := sb1 fun G F H M x v k Q f ix h q => by
  obtain ⟨a, vs, xs, rfl, i1, r1, h⟩ := asLL_ok f ix h
  have h2 := h.get; clear h; obtain ⟨l, rfl, h⟩ := h2
  have e := IsAll.li l i1
  subst e
  exact ⟨a, l, rfl, Evl.sq_of r1, lend f q (.int _) h⟩
def dAll : D1 := fun x M k => asLL x M fun xs => blsD xs fun l => k (.bl (l.all id)) M
def dAny : D1 := fun x M k => asLL x M fun xs => blsD xs fun l => k (.bl (l.any id)) M
theorem s_all : SdB K (rAll K) (b1 dAll) := sb1 fun G F H M x v k Q f ix h q => by
  obtain ⟨a, vs, xs, rfl, i1, r1, h⟩ := asLL_ok f ix h
  have h2 := h.get; clear h; obtain ⟨l, rfl, h⟩ := h2
  have e := IsAll.lb l i1
  subst e
  exact ⟨a, l, rfl, Evl.sq_of r1, lend f q (.bl _) h⟩
theorem s_any : SdB K (rAny K) (b1 dAny) := sb1 fun G F H M x v k Q f ix h q => by
  obtain ⟨a, vs, xs, rfl, i1, r1, h⟩ := asLL_ok f ix h
  have h2 := h.get; clear h; obtain ⟨l, rfl, h⟩ := h2
  have e := IsAll.lb l i1
  subst e
  exact ⟨a, l, rfl, Evl.sq_of r1, lend f q (.bl _) h⟩
/-- the greatest, the least of some ints -/
@[irreducible] def isMax (l : List Int) (k : Int → Prop) : Prop := 0 < l.length ∧ ∀ m, m ∈ l → (∀ y, y ∈ l → y ≤ m) → k m
@[irreducible] def isMin (l : List Int) (k : Int → Prop) : Prop := 0 < l.length ∧ ∀ m, m ∈ l → (∀ y, y ∈ l → m ≤ y) → k m
theorem isMax.get {l : List Int} {k : Int → Prop} (h : isMax l k) : 0 < l.length ∧ ∀ m, m ∈ l → (∀ y, y ∈ l → y ≤ m) → k m := by unfold isMax at h; exact h
theorem isMin.get {l : List Int} {k : Int → Prop} (h : isMin l k) : 0 < l.length ∧ ∀ m, m ∈ l → (∀ y, y ∈ l → m ≤ y) → k m := by unfold isMin at h; exact h
theorem max_of {l : List Int} {k : Int → Prop} (h0 : 0 < l.length) (h : ∀ m, m ∈ l → (∀ y, y ∈ l → y ≤ m) → k m) : isMax l k := by unfold isMax; exact ⟨h0, h⟩
theorem min_of {l : List Int} {k : Int → Prop} (h0 : 0 < l.length) (h : ∀ m, m ∈ l → (∀ y, y ∈ l → m ≤ y) → k m) : isMin l k := by unfold isMin; exact ⟨h0, h⟩
def dMax : DA := fun xs M k => match xs with
  | [x, y] => asInt x fun i => asInt y fun j => k (.int (max i j)) M
  | [x] => asLL x M fun xs => intsD xs fun l => isMax l fun m => k (.int m) M
  | _ => False
def dMin : DA := fun xs M k => match xs with
  | [x, y] => asInt x fun i => asInt y fun j => k (.int (min i j)) M
  | [x] => asLL x M fun xs => intsD xs fun l => isMin l fun m => k (.int m) M
  | _ => False
theorem s_max : SdB K (qMx K) dMax := fun G F H M xs vs k Q f i h q => by
  unfold dMax at h
  split at h
  · cases i with
    | cons a b => cases b with
      | cons b c =>
        cases c
        obtain ⟨i, rfl, rfl, h⟩ := asInt_ok a h
        obtain ⟨j, rfl, rfl, h⟩ := asInt_ok b h
        have e : (if j > i then j else i) = max i j := by split <;> omega
        exact .inl ⟨i, j, rfl, by rw [e]; exact lend f q (.int _) h⟩
  · cases i with
    | cons a b =>
      cases b
      obtain ⟨p, vs, xs, rfl, i1, r1, h⟩ := asLL_ok f a h
      have h2 := h.get; clear h; obtain ⟨l, rfl, h⟩ := h2
      obtain ⟨h0, h⟩ := h.get
      have e := IsAll.li l i1
      subst e
      exact .inr ⟨p, l, rfl, Evl.sq_of r1, h0, fun m h1 h2 => lend f q (.int _) (h m h1 h2)⟩
  · exact h.elim
theorem s_min : SdB K (qMn K) dMin := fun G F H M xs vs k Q f i h q => by
  unfold dMin at h
  split at h
  · cases i with
    | cons a b => cases b with
      | cons b c =>
        cases c
        obtain ⟨i, rfl, rfl, h⟩ := asInt_ok a h
        obtain ⟨j, rfl, rfl, h⟩ := asInt_ok b h
        have e : (if j < i then j else i) = min i j := by split <;> omega
        exact .inl ⟨i, j, rfl, by rw [e]; exact lend f q (.int _) h⟩
  · cases i with
    | cons a b =>
      cases b
      obtain ⟨p, vs, xs, rfl, i1, r1, h⟩ := asLL_ok f a h
      have h2 := h.get; clear h; obtain ⟨l, rfl, h⟩ := h2
      obtain ⟨h0, h⟩ := h.get
      have e := IsAll.li l i1
      subst e
      exact .inr ⟨p, l, rfl, Evl.sq_of r1, h0, fun m h1 h2 => lend f q (.int _) (h m h1 h2)⟩
  · exact h.elim
/-- tuple(x), list(x) -/
def dTuple : D1 := fun x M k => asS x M fun xs => k (.tup xs) M
theorem s_tuple : SdB K (qTup K) (b1 dTuple) := sb1 fun G F H M x v k Q f ix h q => by
  cases x with
  | tup xs =>
    obtain ⟨a, vs, xs', rfl, i1, e1, _, ex⟩ := asT_ok (k := fun _ => True) f ix trivial
    cases ex
    exact ⟨a, vs, rfl, .inr ⟨e1, lend f q ix h⟩⟩
  | lst xs =>
    cases ix with
    | lst h1 h2 => exact ⟨_, _, rfl, .inl ⟨Evl.sq_of (f.fh _ _ h1), fun p n => lendT f q h2 h n⟩⟩
  | ref a =>
    cases ix
    obtain ⟨xs, e, h⟩ := cellL.get h
    obtain ⟨_, vs, q1, q2⟩ := f.mc a _ e
    exact ⟨_, _, rfl, .inl ⟨Evl.sq_of q1, fun p n => lendT f q q2 h n⟩⟩
  | _ => cases h
def dList (m : Bool) : D1 := fun x M k => asS x M fun xs => mkL m xs M k
theorem s_list {m : Bool} : SdB K (qLst K) (b1 (dList m)) := sb1 fun G F H M x v k Q f ix h q => by
  obtain ⟨a, vs, xs, rfl, i1, r1, h⟩ := asS_ok f ix h
  exact ⟨a, vs, rfl, r1, fun p n => mkL_ok f i1 h q n⟩
/-- sorted(xs) -/
@[irreducible] def sortI (l : List Int) (k : List Int → Prop) : Prop := l.length < 64 ∧ ∀ l' : List Int, l'.Perm l → l'.Pairwise (· ≤ ·) → k l'
@[irreducible] def sortS (l : List Str) (k : List Str → Prop) : Prop := l.length < 64 ∧ ∀ l' : List Str, l'.Perm l → sortedS l' = true → k l'
theorem sortI.get {l : List Int} {k : List Int → Prop} (h : sortI l k) : l.length < 64 ∧ ∀ l' : List Int, l'.Perm l → l'.Pairwise (· ≤ ·) → k l' := by unfold sortI at h; exact h
theorem sortS.get {l : List Str} {k : List Str → Prop} (h : sortS l k) : l.length < 64 ∧ ∀ l' : List Str, l'.Perm l → sortedS l' = true → k l' := by unfold sortS at h; exact h
theorem sort_of {l : List Int} {k : List Int → Prop} (h0 : l.length < 64) (h : ∀ l' : List Int, l'.Perm l → l'.Pairwise (· ≤ ·) → k l') : sortI l k := by unfold sortI; exact ⟨h0, h⟩
theorem sorts_of {l : List Str} {k : List Str → Prop} (h0 : l.length < 64) (h : ∀ l' : List Str, l'.Perm l → sortedS l' = true → k l') : sortS l k := by unfold sortS; exact ⟨h0, h⟩
def dSorted (m : Bool) : D1 := fun x M k => asLL x M fun xs => intsD xs fun l => sortI l fun l' => mkL m (Li l') M k
def dSortedS (m : Bool) : D1 := fun x M k => asLL x M fun xs => strsD xs fun l => sortS l fun l' => mkL m (Ls l') M k
theorem s_sorted {m : Bool} : SdB K (rSorted K) (b1 (dSorted m)) := sb1 fun G F H M x v k Q f ix h q => by
  obtain ⟨a, vs, xs, rfl, i1, r1, h⟩ := asLL_ok f ix h
  have h2 := h.get; clear h; obtain ⟨l, rfl, h⟩ := h2
  obtain ⟨hl, h⟩ := h.get
  have e := IsAll.li l i1
  subst e
  exact ⟨a, l, rfl, Evl.sq_of r1, hl, fun l' p h1 h2 n => mkL_ok f (IsAll.of_li l') (h l' h1 h2) q n⟩
theorem s_sortedS {m : Bool} : SdB K (rSortedS K) (b1 (dSortedS m)) := sb1 fun G F H M x v k Q f ix h q => by
  obtain ⟨a, vs, xs, rfl, i1, r1, h⟩ := asLL_ok f ix h
  have h2 := h.get; clear h; obtain ⟨l, rfl, h⟩ := h2
  obtain ⟨hl, h⟩ := h.get
  have e := IsAll.ls l i1
  subst e
  exact ⟨a, l, rfl, Evl.sq_of r1, hl, fun l' p h1 h2 n => mkL_ok f (IsAll.of_ls l') (h l' h1 h2) q n⟩
/-! ### slices -/
def cutD {α : Type} (xs : List α) (lo hi : Option Int) : List α := (xs.drop (HT.sIx xs.length 0 lo)).take (HT.sIx xs.length xs.length hi - HT.sIx xs.length 0 lo)
theorem cut_is {vs : List V} {xs : List D} (h : IsAll K F vs xs) (lo hi : Option Int) : IsAll K F (cutV vs lo hi) (cutD xs lo hi) := by
  unfold cutV cutD
  rw [h.len]
  exact (h.drop _).take _
def slD (m : Bool) (x : D) (lo hi : Option Int) (M : Mem) (k : D → Mem → Prop) : Prop := match x with
  | .tup xs => k (.tup (cutD xs lo hi)) M
  | .str z => Sz z.length (k (.str (cutS z lo hi)) M)
  | .scr l => mkL m (Li (cutD l lo hi)) M k
  | x => asLL x M fun xs => mkL m (cutD xs lo hi) M k
def wSl (m : Bool) (we : W) (wl wh : WO) : W := fun ρ M k E => we ρ M (fun x M1 => wl ρ M1 (fun lo M2 => wh ρ M2 (fun hi M3 => slD m x lo hi M3 k) E) E) E
end
section
variable {K : Frag} [Tb K] {L : XL}
theorem cutD_map {α β : Type} (g : α → β) (l : List α) (lo hi : Option Int) : cutD (l.map g) lo hi = (cutD l lo hi).map g := by
  unfold cutD
  rw [List.length_map, List.map_take, List.map_drop]
theorem sd_sl {m : Bool} {te : TE} {tl th : TO} {we : W} {wl wh : WO} (he : Sd K L te we) (hl : SdO K L tl wl) (hh : SdO K L th wh) : Sd K L (tSl (qSl K) te tl th) (wSl m we wl wh) := fun G F H σ ρ M k E Q f s l h q =>
  he G F H σ ρ M _ E _ f s l h fun F1 H1 v x M1 h1 e1 f1 i1 => hl G F1 H1 σ ρ M1 _ E _ f1 (s.up e1) (L.mono l e1) h1 fun F2 H2 lo M2 h2 e2 f2 =>
  hh G F2 H2 σ ρ M2 _ E _ f2 (s.up (e1.trans e2)) (L.mono l (e1.trans e2)) h2 fun F3 H3 hi M3 h3 e3 f3 => by
    have i3 := i1.up (e2.trans e3)
    have q3 := q.up ((e1.trans e2).trans e3)
    have lists : (asLL x M3 fun xs => mkL m (cutD xs lo hi) M3 k) → qSl K v lo hi H3 Q := fun h => by
      obtain ⟨a, vs, xs, rfl, j1, r1, h⟩ := asLL_ok f3 i3 h
      exact .inl ⟨a, vs, rfl, Evl.sq_of r1, fun p n => mkL_ok f3 (cut_is j1 lo hi) h q3 n⟩
    cases x with
    | tup xs =>
      cases i3 with
      | tup a1 a2 =>
        refine .inr (.inl ⟨_, _, rfl, Evl.ex_t f3.fh a1, fun hw => ?_, fun hw p n => lendT f3 q3 (cut_is a2 lo hi) h3 n⟩)
        have e : cutD xs lo hi = xs := by
          unfold cutD
          rw [← a2.len, hw.1, hw.2]
          simp [a2.len]
        have h3 : k (.tup (cutD xs lo hi)) M3 := h3
        rw [e] at h3
        exact lend f3 q3 (.tup a1 a2) h3
    | str z => cases i3; exact .inr (.inr ⟨z, rfl, (Sz.get h3).1, lend f3 q3 (.str _) (Sz.get h3).2⟩)
    | scr xs =>
      cases i3 with
      | scr a1 =>
        refine .inl ⟨_, _, rfl, Evl.ex_l f3.fh a1, fun p n => mkL_ok f3 ?_ h3 q3 n⟩
        have := cut_is (K := K) (F := F3) (IsAll.of_li xs) lo hi
        rw [cutD_map] at this
        exact this
    | _ => exact lists h3
end
end Px

set_option Elab.async false
set_option linter.all false
set_option maxRecDepth 100000
set_option maxHeartbeats 4000000
/-! Methods, own special methods, isinstance. -/
namespace Px
open PySem PySem.Spec PyProof.Rows L2 Rl RZ RT
open Evl (Ex)
section
variable {K : Frag} [Tb K] {L : XL} {G F H : Hp} {M : Mem}
abbrev DM := D → List D → Mem → (D → Mem → Prop) → Prop
def SdM (K : Frag) [Tb K] (r : V → List V → Hp → VK → Prop) (d : DM) : Prop := ∀ G F H M x v xs vs k Q, Fr K G F H M → Is K F v x → IsAll K F vs xs → d x xs M k → Po K G F k Q → r v vs H Q
def tyL (x : D) (M : Mem) (P : Prop) : Prop := match x with
  | .lst _ => P
  | .ref a => cellL a M fun _ => P
  | _ => False
def tyS (x : D) (_ : Mem) (P : Prop) : Prop := match x with
  | .str _ => P
  | _ => False
theorem tyL_ok {x : D} {v : V} {P : Prop} (f : Fr K G F H M) (i : Is K F v x) (h : tyL x M P) : tyV K "list" v H ∧ P := by
  cases i with
  | lst h1 h2 => exact ⟨.inl ⟨rfl, _, Evl.sq_of (f.fh _ _ h1)⟩, h⟩
  | ref a =>
    obtain ⟨xs, e, h⟩ := cellL.get h
    obtain ⟨_, vs, q1, q2⟩ := f.mc a _ e
    exact ⟨.inl ⟨rfl, _, Evl.sq_of q1⟩, h⟩
  | _ => cases h
theorem tyS_ok {x : D} {v : V} {P : Prop} (i : Is K F v x) (h : tyS x M P) : tyV K "str" v H ∧ P := by
  cases i with
  | str z => exact ⟨rfl, h⟩
  | _ => cases h
def wBL (d : DM) (wo : W) (wa : WA) : W := fun ρ M k E => wo ρ M (fun x M1 => tyL x M1 (wa ρ M1 (fun xs M2 => d x xs M2 k) E)) E
def wBS (d : DM) (wo : W) (wa : WA) : W := fun ρ M k E => wo ρ M (fun x M1 => tyS x M1 (wa ρ M1 (fun xs M2 => d x xs M2 k) E)) E
theorem sd_bl_ {r : V → List V → Hp → VK → Prop} {d : DM} {to : TE} {ta : TA} {wo : W} {wa : WA} (hr : SdM K r d) (ho : Sd K L to wo) (ha : SdA K L ta wa) : Sd K L (tBM K "list" r to ta) (wBL d wo wa) := fun G F H σ ρ M k E Q f s l h q =>
  ho G F H σ ρ M _ E _ f s l h fun F1 H1 v x M1 h1 e1 f1 i1 => by
    obtain ⟨ty, h2⟩ := tyL_ok f1 i1 h1
    exact ⟨ty, ha G F1 H1 σ ρ M1 _ E _ f1 (s.up e1) (L.mono l e1) h2 fun F2 H2 vs xs M2 h3 e2 f2 i2 => hr G F2 H2 M2 x v xs vs k Q f2 (i1.up e2) i2 h3 (q.up (e1.trans e2))⟩
theorem sd_bs_ {r : V → List V → Hp → VK → Prop} {d : DM} {to : TE} {ta : TA} {wo : W} {wa : WA} (hr : SdM K r d) (ho : Sd K L to wo) (ha : SdA K L ta wa) : Sd K L (tBM K "str" r to ta) (wBS d wo wa) := fun G F H σ ρ M k E Q f s l h q =>
  ho G F H σ ρ M _ E _ f s l h fun F1 H1 v x M1 h1 e1 f1 i1 => by
    obtain ⟨ty, h2⟩ := tyS_ok i1 h1
    exact ⟨ty, ha G F1 H1 σ ρ M1 _ E _ f1 (s.up e1) (L.mono l e1) h2 fun F2 H2 vs xs M2 h3 e2 f2 i2 => hr G F2 H2 M2 x v xs vs k Q f2 (i1.up e2) i2 h3 (q.up (e1.trans e2))⟩
theorem sd_bl0 {r : V → List V → Hp → VK → Prop} {d : DM} {to : TE} {wo : W} (hr : SdM K r d) (ho : Sd K L to wo) : Sd K L (tBM0 K "list" r to) (wBL d wo waNil) := fun G F H σ ρ M k E Q f s l h q =>
  ho G F H σ ρ M _ E _ f s l h fun F1 H1 v x M1 h1 e1 f1 i1 => by
    obtain ⟨ty, h2⟩ := tyL_ok f1 i1 h1
    exact ⟨ty, hr G F1 H1 M1 x v [] [] k Q f1 i1 .nil h2 (q.up e1)⟩
def dApp : DM := fun x xs M k => match x, xs with
  | .ref a, [y] => cellL a M fun ys => Sz (ys.length + 1) (mun a (.lst (ys ++ [y])) M fun M' => k .non M')
  | _, _ => False
theorem s_app : SdM K rAppend dApp := fun G F H M x v xs vs k Q f ix is h q => by
  unfold dApp at h
  split at h
  · cases ix
    cases is with
    | cons a b =>
      cases b
      obtain ⟨ys, e, h⟩ := cellL.get h
      obtain ⟨hl, h⟩ := h.get
      obtain ⟨_, ws, q1, q2⟩ := f.mc _ _ e
      exact ⟨_, ws, _, rfl, rfl, q1, by rw [q2.len]; exact hl, q F _ .non _ _ h.get (Ex.refl F) (f.chg e ⟨_, upd_same, q2.app (.cons a .nil)⟩) .non⟩
  · exact h.elim
def dExt : DM := fun x xs M k => match x, xs with
  | .ref a, [y] => cellL a M fun ys => asLL y M fun zs => Sz (ys.length + zs.length) (mun a (.lst (ys ++ zs)) M fun M' => k .non M')
  | _, _ => False
theorem s_ext : SdM K rExtR dExt := fun G F H M x v xs vs k Q f ix is h q => by
  unfold dExt at h
  split at h
  · cases ix
    cases is with
    | cons a b =>
      cases b
      obtain ⟨ys, e, h⟩ := cellL.get h
      obtain ⟨_, ws, q1, q2⟩ := f.mc _ _ e
      obtain ⟨p, us, zs, rfl, i1, r1, h⟩ := asLL_ok f a h
      obtain ⟨hl, h⟩ := h.get
      exact ⟨_, p, ws, us, rfl, rfl, q1, .inl r1, by rw [q2.len, i1.len]; exact hl, q F _ .non _ _ h.get (Ex.refl F) (f.chg e ⟨_, upd_same, q2.app i1⟩) .non⟩
  · exact h.elim
theorem IsAll.dropLast : ∀ {vs : List V} {ds : List D}, IsAll K F vs ds → IsAll K F vs.dropLast ds.dropLast
  | _, _, .nil => .nil
  | _, _, .cons _ .nil => .nil
  | _, _, .cons h (.cons g t) => .cons h (IsAll.dropLast (.cons g t))
@[irreducible] def lastD (ys : List D) (k : D → Prop) : Prop := ∃ y, ys[ys.length - 1]? = some y ∧ k y
theorem lastD.get {ys : List D} {k : D → Prop} (h : lastD ys k) : ∃ y, ys[ys.length - 1]? = some y ∧ k y := by unfold lastD at h; exact h
theorem last_of {ys : List D} {k : D → Prop} {y : D} (e : ys[ys.length - 1]? = some y) (h : k y) : lastD ys k := by unfold lastD; exact ⟨y, e, h⟩
def dPop : DM := fun x xs M k => match x, xs with
  | .ref a, [] => cellL a M fun ys => lastD ys fun y => mun a (.lst ys.dropLast) M fun M' => k y M'
  | _, _ => False
theorem s_pop : SdM K rPop dPop := fun G F H M x v xs vs k Q f ix is h q => by
  unfold dPop at h
  split at h
  · cases ix
    cases is
    obtain ⟨ys, e, h⟩ := cellL.get h
    obtain ⟨y, hy, h⟩ := h.get
    obtain ⟨_, ws, q1, q2⟩ := f.mc _ _ e
    obtain ⟨u, h1, h2⟩ := q2.get hy
    exact ⟨_, ws, u, rfl, rfl, q1, by rw [q2.len]; exact h1, q F _ u y _ h.get (Ex.refl F) (f.chg e ⟨_, upd_same, q2.dropLast⟩) h2⟩
  · exact h.elim
@[irreducible] def joinD (a : Str) (l : List Str) (k : Str → Prop) : Prop := (l.map (·.length)).sum + l.length * a.length ≤ 16777216 ∧ k (Txt.join a l)
theorem joinD.get {a : Str} {l : List Str} {k : Str → Prop} (h : joinD a l k) : (l.map (·.length)).sum + l.length * a.length ≤ 16777216 ∧ k (Txt.join a l) := by unfold joinD at h; exact h
theorem join_of {a : Str} {l : List Str} {k : Str → Prop} (h0 : (l.map (·.length)).sum + l.length * a.length ≤ 16777216) (h : k (Txt.join a l)) : joinD a l k := by unfold joinD; exact ⟨h0, h⟩
def dJoin : DM := fun x xs M k => match x, xs with
  | .str a, [y] => asS y M fun ys => strsD ys fun l => joinD a l fun z => k (.str z) M
  | _, _ => False
theorem s_join : SdM K (qJoin K) dJoin := fun G F H M x v xs vs k Q f ix is h q => by
  unfold dJoin at h
  split at h
  · cases ix
    cases is with
    | cons a b =>
      cases b
      obtain ⟨p, us, zs, rfl, i1, r1, h⟩ := asS_ok f a h
      have h2 := h.get; clear h
      obtain ⟨l, rfl, h⟩ := h2
      obtain ⟨hl, h⟩ := h.get
      have e := IsAll.ls l i1
      subst e
      exact ⟨_, p, l, rfl, rfl, r1, hl, lend f q (.str _) h⟩
  · exact h.elim
def dStarts : DM := fun x xs M k => match x, xs with
  | .str a, [.str b] => k (.bl (Txt.startswith a b)) M
  | _, _ => False
theorem s_starts : SdM K qStarts dStarts := fun G F H M x v xs vs k Q f ix is h q => by
  unfold dStarts at h
  split at h
  · cases ix
    cases is with
    | cons a b =>
      cases b
      cases a
      exact ⟨_, _, rfl, rfl, lend f q (.bl _) h⟩
  · exact h.elim
/-! ### own special methods -/
/-- what a comparison's right side may be: of a built-in type, or of one of some own classes -/
def yOk (cs : List Str) (y : D) (M : Mem) : Prop := match y with
  | .ins c _ _ => c ∈ cs
  | .ref a => cellL a M fun _ => True
  | .ty _ => False
  | .cls _ => False
  | .scr _ => False
  | .tux _ => False
  | .exc _ _ _ => False
  | .dic => False
  | _ => True
def baseT : List String := ["NoneType", "bool", "int", "str", "list", "tuple", "dict"]
theorem lst_ty {a : Addr} {vs : List V} (h : H a = some (.lst vs)) : TyX K H (.ref a) (.type "list") := .base (.lst h)
theorem tup_ty {a : Addr} {vs : List V} (h : SqT K H a vs) : TyX K H (.ref a) (.type "tuple") := by
  rcases h with (z | ⟨o, z⟩) | ⟨o, its, n, z1, z2, _⟩
  · exact .base (.tup z)
  · exact .fTuple z
  · exact .kTuple z1 z2
theorem yOk_ok {cs : List Str} {y : D} {v : V} {C : Addr} (hT : ∀ t ∈ baseT, PySem.W.notFirst K C (.type t) = true) (hO : ∀ c ∈ cs, PySem.W.notFirst K C (.ref (He.ga K c)) = true) (f : Fr K G F H M) (i : Is K F v y) (h : yOk cs y M) : ∃ t, TyX K H v t ∧ PySem.W.notFirst K C t = true := by
  cases i with
  | non => exact ⟨_, .base .non, hT _ (by simp [baseT])⟩
  | bl b => exact ⟨_, .base (.bl b), hT _ (by simp [baseT])⟩
  | int j => exact ⟨_, .base (.int j), hT _ (by simp [baseT])⟩
  | str z => exact ⟨_, .base (.str z), hT _ (by simp [baseT])⟩
  | ty n => cases h
  | lst h1 h2 => exact ⟨_, lst_ty (f.fh _ _ h1), hT _ (by simp [baseT])⟩
  | tup h1 h2 => exact ⟨_, tup_ty (Evl.ex_t f.fh h1), hT _ (by simp [baseT])⟩
  | ins h1 h0 h2 h3 => exact ⟨_, h0.ty.ty (f.fh _ _ h1), hO _ h⟩
  | cls c => cases h
  | ref a =>
    obtain ⟨xs, e, _⟩ := cellL.get h
    obtain ⟨_, vs, q1, q2⟩ := f.mc _ _ e
    exact ⟨_, lst_ty q1, hT _ (by simp [baseT])⟩
  | scr h => cases h
  | tux _ h1 _ _ => cases h
  | exc _ _ _ => cases h
  | dic _ => cases h
@[irreducible] def eqO (c c' : Str) (cs : List Str) (y : D) (M : Mem) (P R : Prop) : Prop := (c' = c ∧ yOk cs y M ∧ P) ∨ R
theorem eqO.get {c c' : Str} {cs : List Str} {y : D} {M : Mem} {P R : Prop} (h : eqO c c' cs y M P R) : (c' = c ∧ yOk cs y M ∧ P) ∨ R := by unfold eqO at h; exact h
theorem eq_own {c : Str} {cs : List Str} {y : D} {M : Mem} {P R : Prop} (h0 : yOk cs y M) (h : P) : eqO c c cs y M P R := by unfold eqO; exact .inl ⟨rfl, h0, h⟩
theorem eq_oth {c c' : Str} {cs : List Str} {y : D} {M : Mem} {P R : Prop} (h : R) : eqO c c' cs y M P R := by unfold eqO; exact .inr h
def dEqO (c : Str) (cs : List Str) (wf : WF) (d : D2) : D2 := fun x y M k => match x with
  | .ins c' _ _ => eqO c c' cs y M (wf [x, y] M (isB fun b M' => k (.bl b) M') noX) (d x y M k)
  | _ => d x y M k
def dNeO (c : Str) (cs : List Str) (wf : WF) (d : D2) : D2 := fun x y M k => match x with
  | .ins c' _ _ => eqO c c' cs y M (wf [x, y] M (isB fun b M' => k (.bl (!b)) M') noX) (d x y M k)
  | _ => d x y M k
theorem s_eqO {c : Str} {cs : List Str} {sp : Sp} {wf : WF} {r : R2} {d : D2} {EX : XK} (hT : ∀ t ∈ baseT, PySem.W.notFirst K (He.ga K c) (.type t) = true) (hO : ∀ c' ∈ cs, PySem.W.notFirst K (He.ga K c) (.ref (He.ga K c')) = true) (hf : SdF K sp wf) (hr : Sd2 K r d) : Sd2 K (orR2 r (rEqO K (He.ga K c) sp EX)) (dEqO c cs wf d) := fun G F H M x y v u k Q f ix iy h q => by
  cases x with
  | ins c' ns xs =>
    have h2 := eqO.get h; clear h; rcases h2 with ⟨rfl, hy, h⟩ | h
    · obtain ⟨t, ty, nf⟩ := yOk_ok hT hO f iy hy
      cases ix with
      | ins h1 h0 h2 h3 =>
        exact .inr ⟨_, _, _, t, rfl, f.fh _ _ h1, ty, nf, hf G F H M _ _ _ noX _ EX f (.cons (.ins h1 h0 h2 h3) (.cons iy .nil)) h fun F' H' w z M' hk e' f' i' => by
          obtain ⟨b, rfl, rfl, hb⟩ := isB_ok hk i'
          exact ⟨b, rfl, q F' H' _ _ M' hb e' f' (.bl b)⟩⟩
    · exact .inl (hr G F H M _ y v u k Q f ix iy h q)
  | _ => exact .inl (hr G F H M _ y v u k Q f ix iy h q)
theorem s_neO {c : Str} {cs : List Str} {sp : Sp} {wf : WF} {r : R2} {d : D2} {EX : XK} (hT : ∀ t ∈ baseT, PySem.W.notFirst K (He.ga K c) (.type t) = true) (hO : ∀ c' ∈ cs, PySem.W.notFirst K (He.ga K c) (.ref (He.ga K c')) = true) (hf : SdF K sp wf) (hr : Sd2 K r d) : Sd2 K (orR2 r (rNeO K (He.ga K c) sp EX)) (dNeO c cs wf d) := fun G F H M x y v u k Q f ix iy h q => by
  cases x with
  | ins c' ns xs =>
    have h2 := eqO.get h; clear h; rcases h2 with ⟨rfl, hy, h⟩ | h
    · obtain ⟨t, ty, nf⟩ := yOk_ok hT hO f iy hy
      cases ix with
      | ins h1 h0 h2 h3 =>
        exact .inr ⟨_, _, _, t, rfl, f.fh _ _ h1, ty, nf, hf G F H M _ _ _ noX _ EX f (.cons (.ins h1 h0 h2 h3) (.cons iy .nil)) h fun F' H' w z M' hk e' f' i' => by
          obtain ⟨b, rfl, rfl, hb⟩ := isB_ok hk i'
          exact ⟨b, rfl, q F' H' _ _ M' hb e' f' (.bl _)⟩⟩
    · exact .inl (hr G F H M _ y v u k Q f ix iy h q)
  | _ => exact .inl (hr G F H M _ y v u k Q f ix iy h q)
@[irreducible] def same (c c' : Str) (P : Prop) : Prop := c' = c ∧ P
theorem same.get {c c' : Str} {P : Prop} (h : same c c' P) : c' = c ∧ P := by unfold same at h; exact h
theorem same_of {c : Str} {P : Prop} (h : P) : same c c P := by unfold same; exact ⟨rfl, h⟩
@[irreducible] def lenR (n : Int) (P : Prop) : Prop := (0 ≤ n ∧ n < 2 ^ 63) ∧ P
theorem lenR.get {n : Int} {P : Prop} (h : lenR n P) : (0 ≤ n ∧ n < 2 ^ 63) ∧ P := by unfold lenR at h; exact h
theorem lenr {n : Int} {P : Prop} (h0 : 0 ≤ n ∧ n < 2 ^ 63) (h : P) : lenR n P := by unfold lenR; exact ⟨h0, h⟩
def dLenO (c : Str) (wf : WF) (d : D1) : D1 := fun x M k => match x with
  | .ins c' _ _ => same c c' (wf [x] M (fun r M' => asInt r fun n => lenR n (k (.int n) M')) noX)
  | _ => d x M k
def dStrO (c : Str) (wf : WF) (d : D1) : D1 := fun x M k => match x with
  | .ins c' _ _ => same c c' (wf [x] M (fun r M' => asStr r fun z => k (.str z) M') noX)
  | _ => d x M k
theorem s_lenO {c : Str} {sp : Sp} {wf : WF} {r : List V → Hp → VK → Prop} {d : D1} {EX : XK} (hf : SdF K sp wf) (hr : SdB K r (b1 d)) : SdB K (orC r (rLenO (He.ga K c) sp EX)) (b1 (dLenO c wf d)) := fun G F H M xs vs k Q f i h q => by
  cases i with
  | nil => cases h
  | cons a b => cases b with
    | cons _ _ => cases h
    | nil =>
      rename_i x
      cases x with
      | ins c' ns xs =>
        have h2 := same.get h; clear h; obtain ⟨rfl, h⟩ := h2
        cases a with
        | ins h1 h0 h2 h3 =>
          exact .inr ⟨_, _, _, rfl, f.fh _ _ h1, hf G F H M _ _ _ noX _ EX f (.cons (.ins h1 h0 h2 h3) .nil) h fun F' H' w z M' hk e' f' i' => by
            obtain ⟨n, rfl, rfl, hb⟩ := asInt_ok i' hk
            obtain ⟨⟨h4, h5⟩, hb⟩ := hb.get
            exact ⟨n, rfl, h4, h5, q F' H' _ _ M' hb e' f' (.int n)⟩⟩
      | _ => exact .inl (hr G F H M _ _ k Q f (.cons a .nil) h q)
theorem s_strO {c : Str} {sp : Sp} {wf : WF} {r : List V → Hp → VK → Prop} {d : D1} {EX : XK} (hf : SdF K sp wf) (hr : SdB K r (b1 d)) : SdB K (orC r (rStrO (He.ga K c) sp EX)) (b1 (dStrO c wf d)) := fun G F H M xs vs k Q f i h q => by
  cases i with
  | nil => cases h
  | cons a b => cases b with
    | cons _ _ => cases h
    | nil =>
      rename_i x
      cases x with
      | ins c' ns xs =>
        have h2 := same.get h; clear h; obtain ⟨rfl, h⟩ := h2
        cases a with
        | ins h1 h0 h2 h3 =>
          exact .inr ⟨_, _, _, rfl, f.fh _ _ h1, hf G F H M _ _ _ noX _ EX f (.cons (.ins h1 h0 h2 h3) .nil) h fun F' H' w z M' hk e' f' i' => by
            obtain ⟨n, rfl, rfl, hb⟩ := asStr_ok i' hk
            exact ⟨n, rfl, q F' H' _ _ M' hb e' f' (.str n)⟩⟩
      | _ => exact .inl (hr G F H M _ _ k Q f (.cons a .nil) h q)
/-! ### isinstance -/
/-- the own classes with those above them -/
abbrev CT := List (Str × List Str)
def CT.sub (T : CT) (c c' : Str) : Option Bool := (T.lookup c).map fun l => l.contains c'
structure CTok (K : Frag) (T : CT) : Prop where
  base : ∀ p ∈ T, ∀ t ∈ baseT, PySem.W.kitOne K (.type t) (.ref (He.ga K p.1)) = some false
  own : ∀ p ∈ T, ∀ p' ∈ T, PySem.W.kitOne K (.ref (He.ga K p.1)) (.ref (He.ga K p'.1)) = some (p.2.contains p'.1)
  ty : ∀ p ∈ T, ∀ t ∈ baseT, PySem.W.kitOne K (.ref (He.ga K p.1)) (.type t) = some false
theorem look_mem {c : Str} : ∀ {T : CT} {l : List Str}, T.lookup c = some l → (c, l) ∈ T
  | [], _, h => by cases h
  | (a, m) :: T, l, h => by
    simp only [List.lookup] at h
    split at h
    · rename_i e
      cases h
      have : c = a := by simpa using e
      subst this; simp
    · exact List.mem_cons_of_mem _ (look_mem h)
theorem isSome_mem {c : Str} {T : CT} (h : (T.lookup c).isSome = true) : ∃ l, (c, l) ∈ T := by
  obtain ⟨l, e⟩ := Option.isSome_iff_exists.mp h
  exact ⟨l, look_mem e⟩
/-- the built-in type of a datum -/
def tyD (M : Mem) : D → Option String
  | .non => some "NoneType"
  | .bl _ => some "bool"
  | .int _ => some "int"
  | .str _ => some "str"
  | .lst _ => some "list"
  | .tup _ => some "tuple"
  | .dic => some "dict"
  | .ref a => match M a with
    | some (.lst _) => some "list"
    | _ => none
  | _ => none
theorem tyD_ok {x : D} {v : V} {n : String} (f : Fr K G F H M) (i : Is K F v x) (e : tyD M x = some n) : TyX K H v (.type n) ∧ n ∈ baseT := by
  cases i with
  | non => cases e; exact ⟨.base .non, by simp [baseT]⟩
  | bl b => cases e; exact ⟨.base (.bl b), by simp [baseT]⟩
  | int j => cases e; exact ⟨.base (.int j), by simp [baseT]⟩
  | str z => cases e; exact ⟨.base (.str z), by simp [baseT]⟩
  | ty n => cases e
  | lst h1 h2 => cases e; exact ⟨lst_ty (f.fh _ _ h1), by simp [baseT]⟩
  | tup h1 h2 => cases e; exact ⟨tup_ty (Evl.ex_t f.fh h1), by simp [baseT]⟩
  | ins h1 h0 h2 h3 => cases e
  | cls c => cases e
  | ref a =>
    simp only [tyD] at e
    split at e <;> cases e
    rename_i xs e
    obtain ⟨_, vs, q1, q2⟩ := f.mc _ _ e
    exact ⟨lst_ty q1, by simp [baseT]⟩
  | scr h => cases e
  | tux _ h1 _ _ => cases e
  | exc _ _ _ => cases e
  | dic h1 => cases e; exact ⟨.base (.dK (f.fh _ _ h1)), by simp [baseT]⟩
@[irreducible] def isiOO (T : CT) (c c' : Str) (k : Bool → Prop) : Prop := ∃ b, T.sub c c' = some b ∧ (T.lookup c').isSome = true ∧ k b
theorem isiOO.get {T : CT} {c c' : Str} {k : Bool → Prop} (h : isiOO T c c' k) : ∃ b, T.sub c c' = some b ∧ (T.lookup c').isSome = true ∧ k b := by unfold isiOO at h; exact h
theorem isi_oo {T : CT} {c c' : Str} {k : Bool → Prop} {b : Bool} (e : T.sub c c' = some b) (e2 : (T.lookup c').isSome = true) (h : k b) : isiOO T c c' k := by unfold isiOO; exact ⟨b, e, e2, h⟩
@[irreducible] def isiOT (T : CT) (c : Str) (n : String) (P : Prop) : Prop := (T.lookup c).isSome = true ∧ n ∈ baseT ∧ P
theorem isiOT.get {T : CT} {c : Str} {n : String} {P : Prop} (h : isiOT T c n P) : (T.lookup c).isSome = true ∧ n ∈ baseT ∧ P := by unfold isiOT at h; exact h
theorem isi_ot {T : CT} {c : Str} {n : String} {P : Prop} (e : (T.lookup c).isSome = true) (e2 : n ∈ baseT) (h : P) : isiOT T c n P := by unfold isiOT; exact ⟨e, e2, h⟩
@[irreducible] def isiTO (T : CT) (M : Mem) (x : D) (c' : Str) (P : Prop) : Prop := ∃ n, tyD M x = some n ∧ (T.lookup c').isSome = true ∧ P
theorem isiTO.get {T : CT} {M : Mem} {x : D} {c' : Str} {P : Prop} (h : isiTO T M x c' P) : ∃ n, tyD M x = some n ∧ (T.lookup c').isSome = true ∧ P := by unfold isiTO at h; exact h
theorem isi_to {T : CT} {M : Mem} {x : D} {c' : Str} {P : Prop} {n : String} (e : tyD M x = some n) (e2 : (T.lookup c').isSome = true) (h : P) : isiTO T M x c' P := by unfold isiTO; exact ⟨n, e, e2, h⟩
@[irreducible] def isiTT (M : Mem) (x : D) (m : String) (k : Bool → Prop) : Prop := ∃ n b, tyD M x = some n ∧ kitB n m = some b ∧ k b
theorem isiTT.get {M : Mem} {x : D} {m : String} {k : Bool → Prop} (h : isiTT M x m k) : ∃ n b, tyD M x = some n ∧ kitB n m = some b ∧ k b := by unfold isiTT at h; exact h
theorem isi_tt {M : Mem} {x : D} {m : String} {k : Bool → Prop} {n : String} {b : Bool} (e : tyD M x = some n) (e2 : kitB n m = some b) (h : k b) : isiTT M x m k := by unfold isiTT; exact ⟨n, b, e, e2, h⟩
def dIsi (T : CT) : DA := fun xs M k => match xs with
  | [.ins c _ _, .cls c'] => isiOO T c c' fun b => k (.bl b) M
  | [.ins c _ _, .ty n] => isiOT T c n (k (.bl false) M)
  | [x, .cls c'] => isiTO T M x c' (k (.bl false) M)
  | [x, .ty m] => isiTT M x m fun b => k (.bl b) M
  | _ => False
theorem s_isi {T : CT} (ok : CTok K T) : SdB K (qIsi K) (dIsi T) := fun G F H M xs vs k Q f i h q => by
  unfold dIsi at h
  split at h
  · cases i with
    | cons a b => cases b with
      | cons b r =>
        cases r
        cases b
        obtain ⟨b, h1, h2, h⟩ := isiOO.get h
        cases a with
        | ins p1 p0 p2 p3 => exact .inl ⟨_, _, _, _, b, rfl, .own _, p0.ty.ty (f.fh _ _ p1), (by obtain ⟨l, e1, e2⟩ := Option.map_eq_some_iff.mp h1; obtain ⟨l', e3⟩ := isSome_mem h2; rw [← e2]; exact ok.own _ (look_mem e1) _ e3), lend f q (.bl _) h⟩
  · cases i with
    | cons a b => cases b with
      | cons b r =>
        cases r
        cases b
        obtain ⟨h1, h2, h⟩ := isiOT.get h
        cases a with
        | ins p1 p0 p2 p3 => exact .inl ⟨_, _, _, _, false, rfl, .ty _, p0.ty.ty (f.fh _ _ p1), (by obtain ⟨l, e⟩ := isSome_mem h1; exact ok.ty _ e _ h2), lend f q (.bl _) h⟩
  · cases i with
    | cons a b => cases b with
      | cons b r =>
        cases r
        cases b
        obtain ⟨n, h1, h2, h⟩ := isiTO.get h
        obtain ⟨ty, hn⟩ := tyD_ok f a h1
        exact .inl ⟨_, _, _, _, false, rfl, .own _, ty, (by obtain ⟨l, e⟩ := isSome_mem h2; exact ok.base _ e n hn), lend f q (.bl _) h⟩
  · cases i with
    | cons a b => cases b with
      | cons b r =>
        cases r
        cases b
        obtain ⟨n, b, h1, h2, h⟩ := isiTT.get h
        obtain ⟨ty, hn⟩ := tyD_ok f a h1
        exact .inl ⟨_, _, _, _, b, rfl, .ty _, ty, kit_ty h2, lend f q (.bl _) h⟩
  · exact h.elim
/-- isinstance(x, (A, B)): the answer of both -/
def kit2 (n m1 m2 : String) : Option Bool := match kitB n m1 with
  | some true => some true
  | some false => kitB n m2
  | none => none
@[irreducible] def isi2D (M : Mem) (x : D) (m1 m2 : String) (k : Bool → Prop) : Prop := ∃ n b, tyD M x = some n ∧ kit2 n m1 m2 = some b ∧ k b
theorem isi2D.get {M : Mem} {x : D} {m1 m2 : String} {k : Bool → Prop} (h : isi2D M x m1 m2 k) : ∃ n b, tyD M x = some n ∧ kit2 n m1 m2 = some b ∧ k b := by unfold isi2D at h; exact h
theorem isi_2 {M : Mem} {x : D} {m1 m2 : String} {k : Bool → Prop} {n : String} {b : Bool} (e : tyD M x = some n) (e2 : kit2 n m1 m2 = some b) (h : k b) : isi2D M x m1 m2 k := by unfold isi2D; exact ⟨n, b, e, e2, h⟩
def wIsi2 (m1 m2 : String) (we : W) : W := fun ρ M k E => we ρ M (fun x M1 => isi2D M1 x m1 m2 fun b => k (.bl b) M1) E
theorem sd_isi2 {te : TE} {we : W} {m1 m2 : String} (he : Sd K L te we) : Sd K L (tCB (qIsi K) (tCons te (tCons (tTup (tCons (tC (.ty m1)) (tCons (tC (.ty m2)) tNil))) tNil))) (wIsi2 m1 m2 we) := fun G F H σ ρ M k E Q f s l h q =>
  he G F H σ ρ M _ E _ f s l h fun F1 H1 v x M1 h1 e1 f1 i1 => by
    have key : (∃ n b, tyD M1 x = some n ∧ kit2 n m1 m2 = some b ∧ k (.bl b) M1) → (2 ≤ sizeLine ∧ ∀ p, H1 p = none → qIsi K [v, .ref p] (upd H1 p (.tup [.ty m1, .ty m2])) Q) := fun ⟨n, b, h2, h3, h4⟩ => by
      refine ⟨by decide, fun p np => ?_⟩
      have f2 := f1.laid (o := .tup [.ty m1, .ty m2]) np
      have ty := (tyD_ok f2 (i1.up (f1.exl np)) h2).1
      refine .inr ⟨v, p, [.ty m1, .ty m2], .type n, [.type m1, .type m2], b, rfl, upd_same, .cons (.ty m1) (.cons (.ty m2) .nil), ty, ?_, q _ _ _ _ M1 h4 (e1.trans (f1.exl np)) f2 (.bl b)⟩
      unfold kit2 at h3
      cases qq : kitB n m1 with
      | none => rw [qq] at h3; cases h3
      | some r =>
        rw [qq] at h3
        cases r with
        | true => cases h3; exact kitAny_cons (kit_ty qq) (fun z => by cases z) fun _ => rfl
        | false =>
          have e3 : kitB n m2 = some b := h3
          exact kitAny_cons (kit_ty qq) (fun _ => kitAny_cons (kit_ty e3) (fun z => by rw [z]; exact kitAny_nil) fun z => z) fun z => by cases z
    exact key h1.get
end
end Px

set_option Elab.async false
set_option linter.all false
set_option maxRecDepth 100000
set_option maxHeartbeats 4000000
/-! More constructs; how transformers are worked with. -/
namespace Px
open PySem PySem.Spec PyProof.Rows L2 Rl RZ RT
open Evl (Ex)
theorem memN {α : Type} {P : α → Prop} : ∀ c ∈ ([] : List α), P c := fun c h => by cases h
theorem memC {α : Type} {P : α → Prop} {a : α} {l : List α} (h : P a) (g : ∀ c ∈ l, P c) : ∀ c ∈ a :: l, P c := fun c hc => by
  rcases List.mem_cons.mp hc with e | e
  · subst e; exact h
  · exact g c e
section
variable {K : Frag} [Tb K] {L : XL}
def isBl (b : Bool) : D → Bool
  | .bl c => c == b
  | _ => false
def asBl : D → (Bool → Prop) → Prop
  | .bl b, k => k b
  | _, _ => False
def dIsB : D2 := fun x y M k => asBl y fun b => k (.bl (isBl b x)) M
def dIsnB : D2 := fun x y M k => asBl y fun b => k (.bl (!isBl b x)) M
theorem isBl_ok {F : Hp} {x : D} {v : V} {b : Bool} (i : Is K F v x) : decide (v = V.bl b) = isBl b x := by
  cases i <;> first | rfl | (rename_i c; cases c <;> cases b <;> rfl)
theorem s_isB : Sd2 K qIsB dIsB := fun G F H M x y v u k Q f ix iy h q => by
  cases iy with
  | bl b => exact ⟨b, rfl, by rw [isBl_ok ix]; exact lend f q (.bl _) h⟩
  | _ => cases h
theorem s_isnB : Sd2 K qIsnB dIsnB := fun G F H M x y v u k Q f ix iy h q => by
  cases iy with
  | bl b => exact ⟨b, rfl, by rw [isBl_ok ix]; exact lend f q (.bl _) h⟩
  | _ => cases h
/-- min, max, also of tuples -/
def dMaxT : DA := fun xs M k => match xs with
  | [.tup xs] => intsD xs fun l => isMax l fun m => k (.int m) M
  | [.tux l] => isMax l fun m => k (.int m) M
  | xs => dMax xs M k
def dMinT : DA := fun xs M k => match xs with
  | [.tup xs] => intsD xs fun l => isMin l fun m => k (.int m) M
  | [.tux l] => isMin l fun m => k (.int m) M
  | xs => dMin xs M k
theorem s_maxT : SdB K (qMxT K) dMaxT := fun G F H M xs vs k Q f i h q => by
  unfold dMaxT at h
  split at h
  · have h2 := intsD.get h; clear h
    obtain ⟨l, rfl, h⟩ := h2
    obtain ⟨h0, h⟩ := h.get
    cases i with
    | cons a b =>
      cases b
      cases a with
      | tup a1 a2 =>
        have e := IsAll.li l a2
        subst e
        exact .inr ⟨_, l, rfl, Evl.ex_t f.fh a1, h0, fun m h1 h2 => lend f q (.int _) (h m h1 h2)⟩
  · obtain ⟨h0, h⟩ := h.get
    cases i with
    | cons a b =>
      cases b
      cases a with
      | tux o a1 _ _ => exact .inr ⟨_, _, rfl, .inl (.inr ⟨o, f.fh _ _ a1⟩), h0, fun m h1 h2 => lend f q (.int _) (h m h1 h2)⟩
  · exact .inl (s_max G F H M _ vs k Q f i h q)
theorem s_minT : SdB K (qMnT K) dMinT := fun G F H M xs vs k Q f i h q => by
  unfold dMinT at h
  split at h
  · have h2 := intsD.get h; clear h
    obtain ⟨l, rfl, h⟩ := h2
    obtain ⟨h0, h⟩ := h.get
    cases i with
    | cons a b =>
      cases b
      cases a with
      | tup a1 a2 =>
        have e := IsAll.li l a2
        subst e
        exact .inr ⟨_, l, rfl, Evl.ex_t f.fh a1, h0, fun m h1 h2 => lend f q (.int _) (h m h1 h2)⟩
  · obtain ⟨h0, h⟩ := h.get
    cases i with
    | cons a b =>
      cases b
      cases a with
      | tux o a1 _ _ => exact .inr ⟨_, _, rfl, .inl (.inr ⟨o, f.fh _ _ a1⟩), h0, fun m h1 h2 => lend f q (.int _) (h m h1 h2)⟩
  · exact .inl (s_min G F H M _ vs k Q f i h q)
/-- products, tuples again and again -/
@[irreducible] def repT (xs : List D) (j : Int) (P : Prop) : Prop := xs ≠ [] ∧ (1 ≤ j ∧ j ≤ 1000) ∧ xs.length ≤ 1000 ∧ P
theorem repT.get {xs : List D} {j : Int} {P : Prop} (h : repT xs j P) : xs ≠ [] ∧ (1 ≤ j ∧ j ≤ 1000) ∧ xs.length ≤ 1000 ∧ P := by unfold repT at h; exact h
theorem rep_t {xs : List D} {j : Int} {P : Prop} (h1 : xs ≠ []) (h2 : 1 ≤ j ∧ j ≤ 1000) (h3 : xs.length ≤ 1000) (h : P) : repT xs j P := by unfold repT; exact ⟨h1, h2, h3, h⟩
def dMulT (m : Bool) : D2 := fun x y M k => match x with
  | .tup xs => asInt y fun j => repT xs j (k (.tup (List.replicate j.toNat xs).flatten) M)
  | x => dMul m x y M k
theorem s_mulT {m : Bool} : Sd2 K (qMulT K) (dMulT m) := fun G F H M x y v u k Q f ix iy h q => by
  cases x with
  | tup xs =>
    obtain ⟨j, rfl, rfl, h⟩ := asInt_ok iy h
    obtain ⟨h1, h2, h3, h⟩ := h.get
    cases ix with
    | tup a1 a2 =>
      by_cases e1 : j = 1
      · subst e1
        have e : (List.replicate (Int.toNat 1) xs).flatten = xs := by simp
        rw [e] at h
        exact .inr (.inr ⟨_, _, rfl, rfl, Evl.ex_t f.fh a1, q F H _ _ M h (Ex.refl F) f (.tup a1 a2)⟩)
      · exact .inr (.inl ⟨_, j, _, rfl, rfl, Evl.ex_t f.fh a1, (fun e => h1 (by subst e; cases a2; rfl)), by omega, h2.2, by rw [a2.len]; exact h3, fun p n => lendT f q (a2.rep _) h n⟩)
  | _ => exact .inl (s_mul (m := m) G F H M _ y v u k Q f ix iy h q)
/-- x[::-1] -/
def wRev (m : Bool) (we : W) : W := fun ρ M k E => we ρ M (fun x M1 => match x with
  | .tup xs => k (.tup xs.reverse) M1
  | x => asLL x M1 fun xs => mkL m xs.reverse M1 k) E
theorem sd_rev {m : Bool} {te : TE} {we : W} (he : Sd K L te we) : Sd K L (tRevA K te) (wRev m we) := fun G F H σ ρ M k E Q f s l h q =>
  he G F H σ ρ M _ E _ f s l h fun F1 H1 v x M1 h1 e1 f1 i1 => by
    have lists : (asLL x M1 fun xs => mkL m xs.reverse M1 k) → ∃ a xs, v = V.ref a ∧ ((SqL K H1 a xs ∧ ∀ p, H1 p = none → Q (.ref p) (upd H1 p (.lst xs.reverse))) ∨ (SqT K H1 a xs ∧ ∀ p, H1 p = none → Q (.ref p) (upd H1 p (.tup xs.reverse)))) := fun h => by
      obtain ⟨a, vs, xs, rfl, j1, r1, h⟩ := asLL_ok f1 i1 h
      exact ⟨a, vs, rfl, .inl ⟨Evl.sq_of r1, fun p n => mkL_ok f1 j1.rev h (q.up e1) n⟩⟩
    cases x with
    | tup xs =>
      cases i1 with
      | tup a1 a2 => exact ⟨_, _, rfl, .inr ⟨Evl.ex_t f1.fh a1, fun p n => lendT f1 (q.up e1) a2.rev h1 n⟩⟩
    | _ => exact lists h1
/-- *x among arguments -/
def waStar (we : W) (wr : WA) : WA := fun ρ M k E => we ρ M (fun x M1 => asS x M1 fun xs => wr ρ M1 (fun ys M2 => k (xs ++ ys) M2) E) E
theorem sda_star {te : TE} {tr : TA} {we : W} {wr : WA} (ha : Sd K L te we) (hb : SdA K L tr wr) : SdA K L (StX.tStar K te tr) (waStar we wr) := fun G F H σ ρ M k E Q f s l h q =>
  ha G F H σ ρ M _ E _ f s l h fun F1 H1 v x M1 h1 e1 f1 i1 => by
    obtain ⟨a, vs, xs, rfl, j1, r1, h2⟩ := asS_ok f1 i1 h1
    exact ⟨a, vs, rfl, r1.symm, hb G F1 H1 σ ρ M1 _ E _ f1 (s.up e1) (L.mono l e1) h2 fun F2 H2 us ys M2 h3 e2 f2 j2 => q F2 H2 _ _ M2 h3 (e1.trans e2) f2 ((j1.up e2).app j2)⟩
end
/-- a, b = a list -/
def wgLst (n : Nat) (gs : WGs) : WG := fun x ρ M k E => match x with
  | .lst xs => Ck n xs (gs xs ρ M k E)
  | _ => False
theorem sdg_lst {K : Frag} [Tb K] {L : XL} {n : Nat} {gs : TGs} {wgs : WGs} (h2 : SdGs K L gs wgs) : SdG K L (gLst K n gs) (wgLst n wgs) := fun G F H σ ρ M v x k E Q f s l is h q => by
  cases is with
  | lst a b => exact ⟨_, _, rfl, Evl.sq_of (f.fh _ _ a), by rw [b.len]; exact (Ck.get h).1, h2 G F H σ ρ M _ _ k E Q f s l b (Ck.get h).2 q⟩
  | _ => cases h
instance {K : Frag} {n : Nat} {gs : TGs} [b : GsMono gs] : GMono (gLst K n gs) := ⟨fun x σ H Q Q' h ⟨a, xs, e1, e2, e3, q⟩ => ⟨a, xs, e1, e2, e3, b.mono _ _ _ _ _ h q⟩⟩
theorem gin_lst {K : Frag} {n : Nat} {gs : TGs} {vs : List Nat} (h : GIns gs vs) : GIn (gLst K n gs) vs := fun x σ H Q ⟨a, xs, e1, e2, e3, q⟩ => ⟨a, xs, e1, e2, e3, h _ _ _ _ q⟩
/-- a cell in a slot, frozen; what is none stays -/
def wFrzA (i : Nat) : WS := fun ρ M P _ => match ρ[i]? with
  | some (some (.ref a)) => frzD (.ref a) M fun y M' => P.nx (ρ.set i (some y)) M'
  | _ => P.nx ρ M
theorem sds_frzA {K : Frag} [Tb K] {L : XL} {t : TS} {w : WS} {i : Nat} (h0 : SdS K L t w) : SdS K L t (wSeq (wFrzA i) w) := fun G F H σ ρ M P E D f s l h a b c d => by
  have h1 : wFrzA i ρ M { P with nx := fun ρ' M' => w ρ' M' P E } E := h
  unfold wFrzA at h1
  split at h1
  · rename_i p e
    refine sds_frz (i := i) h0 G F H σ ρ M P E D f s l ?_ a b c d
    show (match ρ[i]? with
      | some (some x) => frzD x M fun y M' => w (ρ.set i (some y)) M' P E
      | _ => False)
    rw [e]
    exact h1
  · exact h0 G F H σ ρ M P E D f s l h1 a b c d
end Px

set_option Elab.async false
set_option linter.all false
set_option maxRecDepth 100000
set_option maxHeartbeats 4000000
/-! Working with transformers: branches, loops, comprehensions, lists of ints. -/
namespace Px
open PySem PySem.Spec PyProof.Rows L2 Rl RZ RT
/-! ### branches -/
theorem br_t {A B : Prop} (h : A) : Br true A B := ⟨fun _ => h, fun e => by cases e⟩
theorem br_f {A B : Prop} (h : B) : Br false A B := ⟨(fun e => by cases e), fun _ => h⟩
theorem br_not {b : Bool} {A B : Prop} (h : Br b B A) : Br (!b) A B := by cases b; exact br_t (h.no rfl); exact br_f (h.yes rfl)
theorem br_d {p : Prop} {inst : Decidable p} {A B : Prop} (h1 : p → A) (h2 : ¬ p → B) : Br (decide p) A B := ⟨fun e => h1 (of_decide_eq_true e), fun e => h2 (of_decide_eq_false e)⟩
theorem br_p {p : Prop} {inst : Decidable p} {A B : Prop} (hp : p) (h : A) : Br (decide p) A B := br_d (fun _ => h) fun n => absurd hp n
theorem br_n {p : Prop} {inst : Decidable p} {A B : Prop} (hp : ¬ p) (h : B) : Br (decide p) A B := br_d (fun q => absurd q hp) fun _ => h
theorem br_bne {i : Int} {A B : Prop} (h : Br (decide (i ≠ 0)) A B) : Br (i != 0) A B := by
  have e : (i != 0) = decide (i ≠ 0) := by by_cases q : i = 0 <;> simp [q]
  rw [e]; exact h
theorem br_emp {xs : List D} {A B : Prop} (h : Br (decide (xs ≠ [])) A B) : Br (!xs.isEmpty) A B := by
  have e : (!xs.isEmpty) = decide (xs ≠ []) := by cases xs <;> simp
  rw [e]; exact h
theorem br_empL {l : List Int} {A B : Prop} (h : Br (decide (l ≠ [])) A B) : Br (!(Li l).isEmpty) A B := by
  have e : (!(Li l).isEmpty) = decide (l ≠ []) := by cases l <;> simp
  rw [e]; exact h
theorem br_nonT {x : D} {A B : Prop} (e : Px.isNon x = true) (h : A) : Br (Px.isNon x) A B := by rw [e]; exact br_t h
theorem br_nonF {x : D} {A B : Prop} (e : Px.isNon x = false) (h : B) : Br (Px.isNon x) A B := by rw [e]; exact br_f h
theorem br_blT {b : Bool} {x : D} {A B : Prop} (e : isBl b x = true) (h : A) : Br (isBl b x) A B := by rw [e]; exact br_t h
theorem br_blF {b : Bool} {x : D} {A B : Prop} (e : isBl b x = false) (h : B) : Br (isBl b x) A B := by rw [e]; exact br_f h
theorem isi_ooT {T : CT} {c c' : Str} {k : Bool → Prop} (e : T.sub c c' = some true) (e2 : (T.lookup c').isSome = true) (h : k true) : isiOO T c c' k := isi_oo e e2 h
theorem isi_ooF {T : CT} {c c' : Str} {k : Bool → Prop} (e : T.sub c c' = some false) (e2 : (T.lookup c').isSome = true) (h : k false) : isiOO T c c' k := isi_oo e e2 h
theorem isi_ttT {M : Mem} {x : D} {m : String} {k : Bool → Prop} {n : String} (e : tyD M x = some n) (e2 : kitB n m = some true) (h : k true) : isiTT M x m k := isi_tt e e2 h
theorem isi_ttF {M : Mem} {x : D} {m : String} {k : Bool → Prop} {n : String} (e : tyD M x = some n) (e2 : kitB n m = some false) (h : k false) : isiTT M x m k := isi_tt e e2 h
theorem isi_2T {M : Mem} {x : D} {m1 m2 : String} {k : Bool → Prop} {n : String} (e : tyD M x = some n) (e2 : kit2 n m1 m2 = some true) (h : k true) : isi2D M x m1 m2 k := isi_2 e e2 h
theorem isi_2F {M : Mem} {x : D} {m1 m2 : String} {k : Bool → Prop} {n : String} (e : tyD M x = some n) (e2 : kit2 n m1 m2 = some false) (h : k false) : isi2D M x m1 m2 k := isi_2 e e2 h
/-! ### loops -/
theorem Gd.mk {gd : List (Addr × List D)} {M : Mem} {P : Prop} (h : GdM gd M) (hp : P) : Gd gd M P := by
  induction gd with
  | nil => exact hp
  | cons p gs ih =>
    obtain ⟨a, ys⟩ := p
    exact ⟨h (a, ys) (by simp), ih fun p hp => h p (List.mem_cons_of_mem _ hp)⟩
theorem gd0 {M : Mem} : GdM [] M := fun p hp => by cases hp
theorem gd1 {M : Mem} {a : Addr} {ys : List D} (h : M a = some (.lst ys)) : GdM [(a, ys)] M := fun p hp => by
  rw [List.mem_singleton.mp hp]; exact h
theorem for_inv {gd : List (Addr × List D)} {tg : WG} {body : WS} {ks : List Nat} {P : Ps} {E : XP} {xs : List D} {ρ : St'} {M : Mem} (inv : Nat → St' → Mem → Prop) (h0 : inv 0 ρ M) (hg : ∀ i ρ M, inv i ρ M → GdM gd M)
    (step : ∀ i x ρ M, xs[i]? = some x → inv i ρ M → ∀ K : St' → Mem → Prop, (∀ ρ' M', inv (i + 1) ρ' M' → K ρ' M') →
      tg x ρ M (fun ρ2 M2 => body ρ2 M2 { nx := fun ρ3 M3 => K (wipe' ρ3 ks) M3, rt := P.rt, bk := fun ρ3 M3 => P.nx (wipe' ρ3 ks) M3, ct := fun ρ3 M3 => K (wipe' ρ3 ks) M3 } E) E)
    (last : ∀ ρ M, inv xs.length ρ M → P.nx ρ M) : loopS gd tg body ks P E xs ρ M := by
  have key : ∀ (n i : Nat) (ρ : St') (M : Mem), i + n = xs.length → inv i ρ M → loopS gd tg body ks P E (xs.drop i) ρ M := fun n => by
    induction n with
    | zero =>
      intro i ρ M hi h
      have e : i = xs.length := by omega
      subst e
      rw [List.drop_length]
      exact Gd.mk (hg _ _ _ h) (last _ _ h)
    | succ n ih =>
      intro i ρ M hi h
      have hlt : i < xs.length := by omega
      rw [List.drop_eq_getElem_cons hlt]
      exact Gd.mk (hg _ _ _ h) (step i _ ρ M (List.getElem?_eq_getElem hlt) h _ fun ρ' M' h' => ih (i + 1) ρ' M' (by omega) h')
  have := key xs.length 0 ρ M (by omega) h0
  rwa [List.drop_zero] at this
/-- the state behind each turn is known -/
theorem for_det {gd : List (Addr × List D)} {tg : WG} {body : WS} {ks : List Nat} {P : Ps} {E : XP} {xs : List D} {ρ : St'} {M : Mem} (r : Nat → St') (m : Nat → Mem) (h0 : r 0 = ρ) (h0' : m 0 = M) (hg : ∀ i, i ≤ xs.length → GdM gd (m i))
    (step : ∀ i x, xs[i]? = some x → ∀ K : St' → Mem → Prop, K (r (i + 1)) (m (i + 1)) →
      tg x (r i) (m i) (fun ρ2 M2 => body ρ2 M2 { nx := fun ρ3 M3 => K (wipe' ρ3 ks) M3, rt := P.rt, bk := fun ρ3 M3 => P.nx (wipe' ρ3 ks) M3, ct := fun ρ3 M3 => K (wipe' ρ3 ks) M3 } E) E)
    (last : P.nx (r xs.length) (m xs.length)) : loopS gd tg body ks P E xs ρ M := by
  refine for_inv (fun i ρ M => i ≤ xs.length ∧ ρ = r i ∧ M = m i) ⟨Nat.zero_le _, h0.symm, h0'.symm⟩ (fun i ρ M h => by rw [h.2.2]; exact hg i h.1) (fun i x ρ M hx h K hK => ?_) fun ρ M h => by rw [h.2.1, h.2.2]; exact last
  rw [h.2.1, h.2.2]
  exact step i x hx K (hK _ _ ⟨(List.getElem?_eq_some_iff.mp hx).1, rfl, rfl⟩)
theorem while_inv {c : WT} {body : WS} {ks : List Nat} {P : Ps} {E : XP} {ρ : St'} {M : Mem} (inv : Nat → St' → Mem → Prop) (m0 : Nat) (h0 : inv m0 (wipe' ρ ks) M)
    (step : ∀ m ρ M, inv m ρ M → ∀ K : St' → Mem → Prop, (∀ m' ρ' M', m' < m → inv m' ρ' M' → K ρ' M') →
      c ρ M (fun b M1 => Br b (body ρ M1 { nx := fun ρ3 M3 => K (wipe' ρ3 ks) M3, rt := P.rt, bk := fun ρ3 M3 => P.nx (wipe' ρ3 ks) M3, ct := fun ρ3 M3 => K (wipe' ρ3 ks) M3 } E) (P.nx ρ M1)) E) : wWhile c body ks ρ M P E := by
  refine ⟨m0 + 1, ?_⟩
  have key : ∀ (n m : Nat) (ρ : St') (M : Mem), m < n → inv m ρ M → whileN c body ks P E n ρ M := fun n => by
    induction n with
    | zero => intro m ρ M h; omega
    | succ n ih =>
      intro m ρ M hm h
      exact step m ρ M h _ fun m' ρ' M' h1 h2 => ih m' ρ' M' (by omega) h2
  exact key (m0 + 1) m0 _ M (by omega) h0
/-! ### comprehensions -/
section
variable {gd : List (Addr × List D)} {wg : WG} {wt : WT} {we : W} {ρw : St'} {k : List D → Mem → Prop} {xs : List D} {M : Mem}
theorem lc_inv (inv : Nat → List D → Mem → Prop) (h0 : inv 0 [] M) (hg : ∀ i acc M, inv i acc M → GdM gd M)
    (step : ∀ i x acc M, xs[i]? = some x → inv i acc M → ∀ K : List D → Mem → Prop, (∀ acc' M', inv (i + 1) acc' M' → K acc' M') →
      wg x ρw M (fun ρ2 M2 => wt ρ2 M2 (fun b M3 => Br b (we ρ2 M3 (fun y M4 => Sz (acc.length + 1) (K (acc ++ [y]) M4)) E) (K acc M3)) E) E)
    (last : ∀ acc M, inv xs.length acc M → k acc M) : loopC gd wg wt we ρw k E xs [] M := by
  have key : ∀ (n i : Nat) (acc : List D) (M : Mem), i + n = xs.length → inv i acc M → loopC gd wg wt we ρw k E (xs.drop i) acc M := fun n => by
    induction n with
    | zero =>
      intro i acc M hi h
      have e : i = xs.length := by omega
      subst e
      rw [List.drop_length]
      exact Gd.mk (hg _ _ _ h) (last _ _ h)
    | succ n ih =>
      intro i acc M hi h
      have hlt : i < xs.length := by omega
      rw [List.drop_eq_getElem_cons hlt]
      exact Gd.mk (hg _ _ _ h) (step i _ acc M (List.getElem?_eq_getElem hlt) h (fun acc M => loopC gd wg wt we ρw k E (xs.drop (i + 1)) acc M) fun ρ' M' h' => ih (i + 1) ρ' M' (by omega) h')
  have := key xs.length 0 [] M (by omega) h0
  rwa [List.drop_zero] at this
theorem lc_filterG (p : D → Bool) (f : D → D) (hg : GdM gd M) (hl : xs.length ≤ 16777216)
    (step : ∀ x, x ∈ xs → ∀ (K : D → Mem → Prop) (Z : Mem → Prop), (p x = true → K (f x) M) → (p x = false → Z M) → wg x ρw M (fun ρ2 M2 => wt ρ2 M2 (fun b M3 => Br b (we ρ2 M3 K E) (Z M3)) E) E)
    (hk : k ((xs.filter p).map f) M) : loopC gd wg wt we ρw k E xs [] M := by
  have key : ∀ (ys acc : List D), (∀ x ∈ ys, x ∈ xs) → acc.length + ys.length ≤ 16777216 → k (acc ++ (ys.filter p).map f) M → loopC gd wg wt we ρw k E ys acc M := fun ys => by
    induction ys with
    | nil =>
      intro acc _ _ h
      exact Gd.mk hg (by simpa using h)
    | cons y ys ih =>
      intro acc hs hn h
      have hn' : acc.length + ys.length + 1 ≤ 16777216 := by rw [List.length_cons] at hn; omega
      refine Gd.mk hg (step y (hs y (by simp)) (fun y M4 => Sz (acc.length + 1) (loopC gd wg wt we ρw k E ys (acc ++ [y]) M4)) (fun M3 => loopC gd wg wt we ρw k E ys acc M3) (fun e => ?_) fun e => ?_)
      · refine sz (by omega) (ih (acc ++ [f y]) (fun x hx => hs x (List.mem_cons_of_mem _ hx)) (by rw [List.length_append]; show acc.length + 1 + ys.length ≤ _; omega) ?_)
        rw [List.filter_cons_of_pos e, List.map_cons] at h
        rw [List.append_assoc]
        exact h
      · refine ih acc (fun x hx => hs x (List.mem_cons_of_mem _ hx)) (by omega) ?_
        rw [List.filter_cons_of_neg (by rw [e]; exact Bool.false_ne_true)] at h
        exact h
  exact key xs [] (fun x h => h) (by simpa using hl) (by simpa using hk)
theorem lc_mapG (f : D → D) (hg : GdM gd M) (hl : xs.length ≤ 16777216)
    (step : ∀ x, x ∈ xs → ∀ (K : D → Mem → Prop) (Z : Mem → Prop), K (f x) M → wg x ρw M (fun ρ2 M2 => wYes ρ2 M2 (fun b M3 => Br b (we ρ2 M3 K E) (Z M3)) E) E)
    (hk : k (xs.map f) M) : loopC gd wg wYes we ρw k E xs [] M :=
  lc_filterG (fun _ => true) f hg hl (fun x hx K Z h _ => step x hx K Z (h rfl)) (by rw [List.filter_eq_self.mpr (fun _ _ => rfl)]; exact hk)
theorem mem_Li {l : List Int} {x : D} (h : x ∈ Li l) : ∃ i, i ∈ l ∧ x = .int i := by
  obtain ⟨i, h1, h2⟩ := List.mem_map.mp h
  exact ⟨i, h1, h2.symm⟩
def onI (f : Int → D) : D → D
  | .int i => f i
  | x => x
def onIB (p : Int → Bool) : D → Bool
  | .int i => p i
  | _ => false
theorem map_onI (f : Int → D) (l : List Int) : (Li l).map (onI f) = l.map f := by
  rw [List.map_map]; rfl
theorem filter_onI (p : Int → Bool) (l : List Int) : (Li l).filter (onIB p) = Li (l.filter p) := by
  rw [List.filter_map]; rfl
theorem Li_map (f : Int → Int) (l : List Int) : l.map (fun i => D.int (f i)) = Li (l.map f) := by
  show _ = List.map D.int (l.map f)
  rw [List.map_map]; rfl
/-- over a list of ints -/
theorem lc_int {l : List Int} (f : Int → D) (hg : GdM gd M) (hl : l.length ≤ 16777216)
    (step : ∀ i, i ∈ l → ∀ (K : D → Mem → Prop) (Z : Mem → Prop), K (f i) M → wg (.int i) ρw M (fun ρ2 M2 => wYes ρ2 M2 (fun b M3 => Br b (we ρ2 M3 K E) (Z M3)) E) E)
    (hk : k (l.map f) M) : loopC gd wg wYes we ρw k E (Li l) [] M :=
  lc_mapG (onI f) hg (by simpa using hl) (fun x hx K Z h => by
    obtain ⟨i, hi, rfl⟩ := mem_Li hx
    exact step i hi K Z h) (by rw [map_onI]; exact hk)
theorem lc_intI {l : List Int} (f : Int → Int) (hg : GdM gd M) (hl : l.length ≤ 16777216)
    (step : ∀ i, i ∈ l → ∀ (K : D → Mem → Prop) (Z : Mem → Prop), K (.int (f i)) M → wg (.int i) ρw M (fun ρ2 M2 => wYes ρ2 M2 (fun b M3 => Br b (we ρ2 M3 K E) (Z M3)) E) E)
    (hk : k (Li (l.map f)) M) : loopC gd wg wYes we ρw k E (Li l) [] M := lc_int (fun i => .int (f i)) hg hl step (by rw [Li_map]; exact hk)
theorem lc_filt {l : List Int} (p : Int → Bool) (f : Int → D) (hg : GdM gd M) (hl : l.length ≤ 16777216)
    (step : ∀ i, i ∈ l → ∀ (K : D → Mem → Prop) (Z : Mem → Prop), (p i = true → K (f i) M) → (p i = false → Z M) → wg (.int i) ρw M (fun ρ2 M2 => wt ρ2 M2 (fun b M3 => Br b (we ρ2 M3 K E) (Z M3)) E) E)
    (hk : k ((l.filter p).map f) M) : loopC gd wg wt we ρw k E (Li l) [] M :=
  lc_filterG (onIB p) (onI f) hg (by simpa using hl) (fun x hx K Z h1 h2 => by
    obtain ⟨i, hi, rfl⟩ := mem_Li hx
    exact step i hi K Z h1 h2) (by rw [filter_onI, map_onI]; exact hk)
theorem lc_filtI {l : List Int} (p : Int → Bool) (hg : GdM gd M) (hl : l.length ≤ 16777216)
    (step : ∀ i, i ∈ l → ∀ (K : D → Mem → Prop) (Z : Mem → Prop), (p i = true → K (.int i) M) → (p i = false → Z M) → wg (.int i) ρw M (fun ρ2 M2 => wt ρ2 M2 (fun b M3 => Br b (we ρ2 M3 K E) (Z M3)) E) E)
    (hk : k (Li (l.filter p)) M) : loopC gd wg wt we ρw k E (Li l) [] M := lc_filt p .int hg hl step hk
/-- nothing passes -/
theorem lc_none {l : List Int} (hg : GdM gd M) (hl : l.length ≤ 16777216)
    (step : ∀ i, i ∈ l → ∀ (K : D → Mem → Prop) (Z : Mem → Prop), Z M → wg (.int i) ρw M (fun ρ2 M2 => wt ρ2 M2 (fun b M3 => Br b (we ρ2 M3 K E) (Z M3)) E) E)
    (hk : k (Li []) M) : loopC gd wg wt we ρw k E (Li l) [] M := lc_filtI (fun _ => false) hg hl (fun i hi K Z _ h => step i hi K Z (h rfl)) (by
  have e : l.filter (fun _ => false) = [] := by induction l <;> simp_all
  rw [e]; exact hk)
theorem zipD_Li : ∀ (a b : List Int), zipD (Li a) (Li b) = (a.zip b).map fun q => D.tup [.int q.1, .int q.2]
  | [], _ => by simp [zipD]
  | _ :: _, [] => by simp [zipD]
  | x :: a, y :: b => by
    have z := zipD_Li a b
    simp only [List.map_cons, List.zip_cons_cons, zipD] at z ⊢
    rw [z]
/-- over a list whose items are told by others -/
theorem lc_any {α : Type} {l : List α} {g : α → D} (f : α → D) (hg : GdM gd M) (hl : l.length ≤ 16777216)
    (step : ∀ i, i ∈ l → ∀ (K : D → Mem → Prop) (Z : Mem → Prop), K (f i) M → wg (g i) ρw M (fun ρ2 M2 => wYes ρ2 M2 (fun b M3 => Br b (we ρ2 M3 K E) (Z M3)) E) E)
    (hk : k (l.map f) M) : loopC gd wg wYes we ρw k E (l.map g) [] M := by
  have key : ∀ (ys : List α) (acc : List D), (∀ x ∈ ys, x ∈ l) → acc.length + ys.length ≤ 16777216 → k (acc ++ ys.map f) M → loopC gd wg wYes we ρw k E (ys.map g) acc M := fun ys => by
    induction ys with
    | nil =>
      intro acc _ _ h
      exact Gd.mk hg (by simpa using h)
    | cons y ys ih =>
      intro acc hs hn h
      have hn' : acc.length + ys.length + 1 ≤ 16777216 := by rw [List.length_cons] at hn; omega
      refine Gd.mk hg (step y (hs y (by simp)) (fun y M4 => Sz (acc.length + 1) (loopC gd wg wYes we ρw k E (ys.map g) (acc ++ [y]) M4)) (fun M3 => loopC gd wg wYes we ρw k E (ys.map g) acc M3) ?_)
      refine sz (by omega) (ih (acc ++ [f y]) (fun x hx => hs x (List.mem_cons_of_mem _ hx)) (by rw [List.length_append]; show acc.length + 1 + ys.length ≤ _; omega) ?_)
      rw [List.append_assoc]
      exact h
  exact key l [] (fun x h => h) (by simpa using hl) (by simpa using hk)
theorem lc_zipI {a b : List Int} (f : Int → Int → Int) (hg : GdM gd M) (hl : a.length ≤ 16777216)
    (step : ∀ i j, (i, j) ∈ a.zip b → ∀ (K : D → Mem → Prop) (Z : Mem → Prop), K (.int (f i j)) M → wg (.tup [.int i, .int j]) ρw M (fun ρ2 M2 => wYes ρ2 M2 (fun b M3 => Br b (we ρ2 M3 K E) (Z M3)) E) E)
    (hk : k (Li (List.zipWith f a b)) M) : loopC gd wg wYes we ρw k E (zipD (Li a) (Li b)) [] M := by
  rw [zipD_Li]
  refine lc_any (l := a.zip b) (fun q => .int (f q.1 q.2)) hg (by rw [List.length_zip]; omega) (fun q hq K Z h => step q.1 q.2 hq K Z h) ?_
  have e : (a.zip b).map (fun q => D.int (f q.1 q.2)) = Li (List.zipWith f a b) := by
    clear hk step hl
    induction a generalizing b with
    | nil => simp
    | cons x a ih =>
      cases b with
      | nil => simp
      | cons y b => simp only [List.zip_cons_cons, List.map_cons, List.zipWith_cons_cons]; rw [ih]
  rw [e]; exact hk
end
/-! ### storing fields -/
theorem fput_new {f : Str} {x : D} : ∀ {ns : List Str} {xs : List D}, ns.contains f = false → ns.length = xs.length → fput ns xs f x = (ns ++ [f], xs ++ [x])
  | [], [], _, _ => rfl
  | [], _ :: _, _, h => by simp at h
  | _ :: _, [], _, h => by simp at h
  | n :: ns, y :: ys, h, hl => by
    rw [List.contains_cons, Bool.or_eq_false_iff] at h
    have hn : n ≠ f := fun e => by subst e; simp at h
    simp only [fput, if_neg hn]
    rw [fput_new h.2 (by simpa using hl)]
    rfl
def fixB (f : Str) : List Str → Nat → Bool
  | n :: _, 0 => n == f
  | n :: ns, i + 1 => n != f && fixB f ns i
  | [], _ => false
theorem fput_set {f : Str} {x : D} : ∀ {ns : List Str} {xs : List D} {i : Nat}, fixB f ns i = true → ns.length = xs.length → fput ns xs f x = (ns, xs.set i x)
  | [], _, _, h, _ => by simp [fixB] at h
  | _ :: _, [], _, _, h => by simp at h
  | n :: ns, y :: ys, 0, h, hl => by
    have e : n = f := by simpa [fixB] using h
    simp only [fput, if_pos e, List.set_cons_zero]
  | n :: ns, y :: ys, i + 1, h, hl => by
    simp only [fixB, Bool.and_eq_true] at h
    have hn : n ≠ f := fun e => by subst e; simp at h
    simp only [fput, if_neg hn]
    rw [fput_set h.2 (by simpa using hl)]
    rfl
theorem att_new {cs : List Str} {a : Addr} {c f : Str} {y : D} {M : Mem} {ns : List Str} {xs : List D} {k : Mem → Prop} (e : ns.contains f = false) (hl : ns.length = xs.length) (hc : c ∈ cs) (hn : ns.length < 1000) (h : k (mu M a (.ins c (ns ++ [f]) (xs ++ [y])))) : attD cs (.ref a) f y (mu M a (.ins c ns xs)) k := att_mu (fput_new e hl) hc hn h
theorem att_set {cs : List Str} {a : Addr} {c f : Str} {y : D} {M : Mem} {ns : List Str} {xs : List D} {k : Mem → Prop} (i : Nat) (e : fixB f ns i = true) (hl : ns.length = xs.length) (hc : c ∈ cs) (hn : ns.length < 1000) (h : k (mu M a (.ins c ns (xs.set i y)))) : attD cs (.ref a) f y (mu M a (.ins c ns xs)) k := att_mu (fput_set e hl) hc hn h
theorem att_newO {cs : List Str} {a : Addr} {c f : Str} {y : D} {M : Mem} {ns : List Str} {xs : List D} {k : Mem → Prop} (e0 : M a = some (.ins c ns xs)) (e : ns.contains f = false) (hl : ns.length = xs.length) (hc : c ∈ cs) (hn : ns.length < 1000) (h : k (mu M a (.ins c (ns ++ [f]) (xs ++ [y])))) : attD cs (.ref a) f y M k := att_of e0 (fput_new e hl) hc hn h
theorem att_setO {cs : List Str} {a : Addr} {c f : Str} {y : D} {M : Mem} {ns : List Str} {xs : List D} {k : Mem → Prop} (e0 : M a = some (.ins c ns xs)) (i : Nat) (e : fixB f ns i = true) (hl : ns.length = xs.length) (hc : c ∈ cs) (hn : ns.length < 1000) (h : k (mu M a (.ins c ns (xs.set i y)))) : attD cs (.ref a) f y M k := att_of e0 (fput_set e hl) hc hn h
theorem eq_l0 {l : List Int} {M : Mem} {k : Bool → Prop} (h : k (decide (l = []))) : eqG (.lst (Li l)) (.lst []) M k := eq_ll (m := []) h
theorem eq_0l {l : List Int} {M : Mem} {k : Bool → Prop} (h : k (decide ([] = l))) : eqG (.lst []) (.lst (Li l)) M k := eq_ll (l := []) h
theorem eq_00 {M : Mem} {k : Bool → Prop} (h : k true) : eqG (.lst []) (.lst []) M k := eq_ll (l := []) (m := []) h
theorem eq_t0 {l : List Int} {M : Mem} {k : Bool → Prop} (h : k (decide (l = []))) : eqG (.tup (Li l)) (.tup []) M k := eq_tt (m := []) h
theorem eq_tG {xs ys : List D} {l m : List Int} {M : Mem} {k : Bool → Prop} (hx : xs = Li l) (hy : ys = Li m) (h : k (decide (l = m))) : eqG (.tup xs) (.tup ys) M k := by subst hx hy; exact eq_tt h
theorem eq_lG {xs ys : List D} {l m : List Int} {M : Mem} {k : Bool → Prop} (hx : xs = Li l) (hy : ys = Li m) (h : k (decide (l = m))) : eqG (.lst xs) (.lst ys) M k := by subst hx hy; exact eq_ll h
theorem mem_irng {lo i : Int} {n : Nat} (h : i ∈ irng lo n) : lo ≤ i ∧ i < lo + n := by
  unfold irng at h
  obtain ⟨j, h1, h2⟩ := List.mem_map.mp h
  have := List.mem_range.mp h1
  omega
theorem ints_cut {l : List Int} {a b : Option Int} {k : List Int → Prop} (h : k (Px.cutD l a b)) : intsD (Px.cutD (Li l) a b) k := ints_eq (cutD_map _ _ _ _) h
theorem lc_id {gd : List (Addr × List D)} {wg : WG} {wt : WT} {we : W} {ρw : St'} {k : List D → Mem → Prop} {xs acc : List D} {M : Mem} (h : loopC gd wg wt we ρw k E xs acc M) : loopC gd wg wt we ρw k E xs acc M := h
theorem irng_len (lo : Int) (n : Nat) : (irng lo n).length = n := by unfold irng; simp
theorem irng_at {lo : Int} {n i : Nat} (h : i < n) : (irng lo n)[i]? = some (lo + i) := by
  unfold irng
  rw [List.getElem?_map, List.getElem?_range h]
  rfl
theorem irngC_len (lo c : Int) (n : Nat) : (irngC lo c n).length = n := by unfold irngC; simp
theorem irngC_at {lo c : Int} {n i : Nat} (h : i < n) : (irngC lo c n)[i]? = some (lo + i * c) := by
  unfold irngC
  rw [List.getElem?_map, List.getElem?_range h]
  rfl
theorem mem_irngC {lo c i : Int} {n : Nat} (h : i ∈ irngC lo c n) : ∃ j : Nat, j < n ∧ i = lo + j * c := by
  unfold irngC at h
  obtain ⟨j, h1, h2⟩ := List.mem_map.mp h
  exact ⟨j, List.mem_range.mp h1, h2.symm⟩
/-- the first one that passes, of a list -/
theorem filter_head {l : List Int} {p : Int → Bool} {i : Nat} {x : Int} (h : l[i]? = some x) (hp : p x = true) (hn : ∀ j y, j < i → l[j]? = some y → p y = false) : (l.filter p)[0]? = some x := by
  rw [← List.head?_eq_getElem?, List.head?_filter, List.find?_eq_some_iff_getElem]
  obtain ⟨h1, h2⟩ := List.getElem?_eq_some_iff.mp h
  refine ⟨hp, i, h1, h2, fun j hj => ?_⟩
  rw [hn j _ hj (List.getElem?_eq_getElem (by omega))]
  rfl
theorem eq_pair {a b c d : Int} {M : Mem} {k : Bool → Prop} (h : k (decide ([a, b] = [c, d]))) : eqG (.tup [.int a, .int b]) (.tup [.int c, .int d]) M k := eq_tt (l := [a, b]) (m := [c, d]) h
theorem br_same {b c : Bool} {A B : Prop} (e : b = c) (h : A) : Br (b == c) A B := by subst e; rw [beq_self_eq_true]; exact br_t h
theorem br_isD {p : Prop} {inst : Decidable p} {A B : Prop} (hp : p) (h : A) : Br (isBl true (.bl (decide p))) A B := by
  have e : isBl true (.bl (decide p)) = true := by rw [decide_eq_true hp]; rfl
  rw [e]; exact br_t h
end Px

set_option Elab.async false
set_option linter.all false
set_option maxRecDepth 100000
set_option maxHeartbeats 4000000
/-! Tuples of whole numbers whose methods are called. -/
namespace Px
open PySem PySem.Spec PyProof.Rows L2 Rl RZ RT
section
variable {K : Frag} [Tb K] {L : XL}
def dTupX : D1 := fun x M k => asLL x M fun xs => intsD xs fun l => k (.tux l) M
theorem s_tupX : SdB K (qTupF K) (b1 dTupX) := sb1 fun G F H M x v k Q f ix h q => by
  obtain ⟨a, vs, xs, rfl, i1, r1, h⟩ := asLL_ok f ix h
  have h2 := intsD.get h; clear h
  obtain ⟨l, rfl, h⟩ := h2
  have e := IsAll.li l i1
  subst e
  exact ⟨a, _, rfl, Evl.sq_of r1, fun p o n hc hd => q _ _ (.ref p) _ M h (f.exl n) (f.laid n) (.tux o upd_same hc hd)⟩
/-- x is such a tuple -/
def tyX (x : D) (P : Prop) : Prop := match x with
  | .tux _ => P
  | _ => False
theorem tyX_ok {F H : Hp} {x : D} {v : V} {P : Prop} {G : Hp} {M : Mem} (f : Fr K G F H M) (i : Is K F v x) (h : tyX x P) : (∃ a o ws, v = .ref a ∧ H a = some (.frz o (.tup ws)) ∧ o.cls = .type "tuple" ∧ o.dict = none) ∧ P := by
  cases i with
  | tux o h1 h2 h3 => exact ⟨⟨_, o, _, rfl, f.fh _ _ h1, h2, h3⟩, h⟩
  | _ => cases h
@[irreducible] def hasI (l : List Int) (k : Int) (P : Prop) : Prop := k ∈ l ∧ P
theorem hasI.get {l : List Int} {k : Int} {P : Prop} (h : hasI l k P) : k ∈ l ∧ P := by unfold hasI at h; exact h
theorem hasI.of {l : List Int} {k : Int} {P : Prop} (h : k ∈ l) (p : P) : hasI l k P := by unfold hasI; exact ⟨h, p⟩
def dIdx : DM := fun x xs M k => match x, xs with
  | .tux l, [.int i] => hasI l i (k (.int (l.idxOf i : Nat)) M)
  | _, _ => False
theorem s_idx : SdM K (rIndexT K) dIdx := fun G F H M x v xs vs k Q f ix is h q => by
  unfold dIdx at h
  split at h
  · obtain ⟨hm, h⟩ := h.get
    cases is with
    | cons a b =>
      cases b
      cases a
      cases ix with
      | tux o a1 _ _ => exact ⟨_, _, _, rfl, rfl, .inl (.inr ⟨o, f.fh _ _ a1⟩), hm, lend f q (.int _) h⟩
  · exact h.elim
def wIdx (wo : W) (wa : WA) : W := fun ρ M k E => wo ρ M (fun x M1 => tyX x (wa ρ M1 (fun xs M2 => dIdx x xs M2 k) E)) E
theorem sd_idx {to : TE} {ta : TA} {wo : W} {wa : WA} (ho : Sd K L to wo) (ha : SdA K L ta wa) : Sd K L (tIdx K to ta) (wIdx wo wa) := fun G F H σ ρ M k E Q f s l h q =>
  ho G F H σ ρ M _ E _ f s l h fun F1 H1 v x M1 h1 e1 f1 i1 => by
    obtain ⟨ty, h2⟩ := tyX_ok f1 i1 h1
    exact ⟨ty, ha G F1 H1 σ ρ M1 _ E _ f1 (s.up e1) (L.mono l e1) h2 fun F2 H2 vs xs M2 h3 e2 f2 i2 => s_idx G F2 H2 M2 x v xs vs k Q f2 (i1.up e2) i2 h3 (q.up (e1.trans e2))⟩
/-! list(range(..)) -/
def rgL (i j : Int) : List Int := (List.range (j - i).toNat).map fun n => i + (n : Nat)
theorem rgV_eq (i j : Int) : rgV i j = (rgL i j).map V.int := by unfold rgV rgL; rw [List.map_map]; rfl
@[irreducible] def rgG (i j : Int) (P : Prop) : Prop := RgOk i j ∧ P
theorem rgG.get {i j : Int} {P : Prop} (h : rgG i j P) : RgOk i j ∧ P := by unfold rgG at h; exact h
theorem rgG.of {i j : Int} {P : Prop} (h : RgOk i j) (p : P) : rgG i j P := by unfold rgG; exact ⟨h, p⟩
def wLR2 (wa wb : W) : W := fun ρ M k E => wa ρ M (fun x M1 => wb ρ M1 (fun y M2 => asInt x fun i => asInt y fun j => rgG i j (k (.lst (Li (rgL i j))) M2)) E) E
def wLR1 (wb : W) : W := fun ρ M k E => wb ρ M (fun y M2 => asInt y fun j => rgG 0 j (k (.lst (Li (rgL 0 j))) M2)) E
theorem sd_lr2 {ta tb : TE} {wa wb : W} (ha : Sd K L ta wa) (hb : Sd K L tb wb) : Sd K L (tLstRg (tRg2 ta tb)) (wLR2 wa wb) := fun G F H σ ρ M k E Q f s l h q =>
  ha G F H σ ρ M _ E _ f s l h fun F1 H1 v x M1 h1 e1 f1 i1 => hb G F1 H1 σ ρ M1 _ E _ f1 (s.up e1) (L.mono l e1) h1 fun F2 H2 u y M2 h2 e2 f2 i2 => by
    obtain ⟨i, rfl, rfl, h2⟩ := asInt_ok (i1.up e2) h2
    obtain ⟨j, rfl, rfl, h2⟩ := asInt_ok i2 h2
    obtain ⟨h0, h2⟩ := h2.get
    exact ⟨i, j, rfl, rfl, h0, fun p n => q _ _ (.ref p) _ M2 h2 ((e1.trans e2).trans (f2.exl n)) (f2.laid n) (.lst upd_same (by rw [rgV_eq]; exact IsAll.of_li _))⟩
theorem sd_lr1 {tb : TE} {wb : W} (hb : Sd K L tb wb) : Sd K L (tLstRg (tRg1 tb)) (wLR1 wb) := fun G F H σ ρ M k E Q f s l h q =>
  hb G F H σ ρ M _ E _ f s l h fun F2 H2 u y M2 h2 e2 f2 i2 => by
    obtain ⟨j, rfl, rfl, h2⟩ := asInt_ok i2 h2
    obtain ⟨h0, h2⟩ := h2.get
    exact ⟨j, rfl, h0, fun p n => q _ _ (.ref p) _ M2 h2 (e2.trans (f2.exl n)) (f2.laid n) (.lst upd_same (by rw [rgV_eq]; exact IsAll.of_li _))⟩
end
end Px

set_option Elab.async false
set_option linter.all false
set_option maxRecDepth 100000
set_option maxHeartbeats 4000000
/-! A place in a list of texts; {..}.get(x, y). -/
namespace RT
open PySem PySem.Spec PyProof.Rows L2 Rl RZ
section
variable {X : Cx}
theorem strs_are : ∀ {ns : List Str} {us : List Value}, Vals (ns.map V.str) us → StrsAre us ns
  | [], _, h => by cases h; exact .nil
  | n :: ns, _, h => by
    cases h with
    | cons r t =>
      obtain ⟨q, rfl⟩ := r
      exact .cons n q (strs_are t)
def rIndexS (K : PySem.W.Frag) : V → List V → Hp → VK → Prop := fun x xs H Q => ∃ (a : Addr) (ns : List Str) (k : Str), x = .ref a ∧ xs = [.str k] ∧ SqL K H a (ns.map V.str) ∧ k ∈ ns ∧ Q (.int (ns.idxOf k : Nat)) H
theorem mt_indexS : MtR X "list.index" (rIndexS X.K) := by
  intro pins s σ H x xs v us Q I rx rxs h
  obtain ⟨a, ns, k, rfl, rfl, hs, hk, q⟩ := h
  cases rx
  obtain ⟨u, rfl, ru⟩ := Vals.one rxs
  obtain ⟨t, rfl⟩ := ru
  obtain ⟨its, rv, pl, hz⟩ := I.list hs
  exact SeqAt.list_index_strs (vs := its) pl.isList (strs_are rv) (by simpa using hz) hk ⟨.int _, H, I.tok _, ⟨_, rfl⟩, q⟩
/-- a dict of texts -/
def kvS (l : List (Str × Str)) : List (Key × V) := l.map fun p => (.inr p.1, V.str p.2)
def trsS (l : List (Str × Str)) : List (TE × TE) := l.map fun p => (tC (.str p.1), tC (.str p.2))
def dgV (l : List (Str × Str)) (s : Str) : Option V := valV (mergeK [] (kvS l)) (.inr s)
theorem pairs_c : ∀ (l : List (Str × Str)) (σ : L2.St) (H : Hp) (Q : List (V × V) → Hp → Prop), Q ((kvS l).map fun kv => (kV kv.1, kv.2)) H → tPairs (trsS l) σ H Q
  | [], _, _, _, h => h
  | p :: l, σ, H, Q, h => pairs_c l σ H _ h
end
end RT
namespace Px
open PySem PySem.Spec PyProof.Rows L2 Rl RZ RT
section
variable {K : Frag} [Tb K] {L : XL}
theorem all_str {F : Hp} : ∀ (l : List Str) {vs : List V}, IsAll K F vs (l.map D.str) → vs = l.map V.str
  | [], _, h => by cases h; rfl
  | x :: l, _, h => by
    cases h with
    | cons a b => cases a; rw [all_str l b]; rfl
@[irreducible] def hasS (l : List Str) (k : Str) (P : Prop) : Prop := k ∈ l ∧ P
theorem hasS.get {l : List Str} {k : Str} {P : Prop} (h : hasS l k P) : k ∈ l ∧ P := by unfold hasS at h; exact h
theorem hasS.of {l : List Str} {k : Str} {P : Prop} (h : k ∈ l) (p : P) : hasS l k P := by unfold hasS; exact ⟨h, p⟩
def dIdxS : DM := fun x xs M k => match x, xs with
  | .lst ys, [.str z] => strsD ys fun l => hasS l z (k (.int (l.idxOf z : Nat)) M)
  | _, _ => False
theorem s_idxS : SdM K (rIndexS K) dIdxS := fun G F H M x v xs vs k Q f ix is h q => by
  unfold dIdxS at h
  split at h
  · have h2 := strsD.get h; clear h
    obtain ⟨l, rfl, h⟩ := h2
    obtain ⟨hm, h⟩ := h.get
    cases is with
    | cons a b =>
      cases b
      cases a
      cases ix with
      | lst a1 a2 =>
        have e := all_str l a2
        subst e
        exact ⟨_, l, _, rfl, rfl, Evl.sq_of (f.fh _ _ a1), hm, lend f q (.int _) h⟩
  · exact h.elim
def dgD (o : Option V) (y : D) (k : D → Prop) : Prop := match o with
  | some (.str t) => k (.str t)
  | none => k y
  | _ => False
def wDG (l : List (Str × Str)) (wx wy : W) : W := fun ρ M k E => wx ρ M (fun x M1 => wy ρ M1 (fun y M2 => asStr x fun s => dgD (dgV l s) y fun z => k z M2) E) E
theorem sd_dg {l : List (Str × Str)} (hl : l.length ≤ 15) {tx ty : TE} {wx wy : W} (hx : Sd K L tx wx) (hy : Sd K L ty wy) : Sd K L (tDGet2 (tDisp (trsS l)) tx ty) (wDG l wx wy) := fun G F H σ ρ M k E Q f s lx h q => by
  intro p n
  refine pairs_c l σ (upd H p (.dK [])) _ ⟨upd_same, kvS l, rfl, by unfold kvS; rw [List.length_map]; exact hl, ?_⟩
  rw [upd_upd]
  have e0 := f.exl (o := .dK (mergeK [] (kvS l))) n
  refine ⟨p, rfl, .inl ⟨_, .inl upd_same⟩, ?_⟩
  refine hx G _ _ σ ρ M _ E _ (f.laid n) (s.up e0) (L.mono lx e0) h fun F1 H1 v x M1 h1 e1 f1 i1 => hy G F1 H1 σ ρ M1 _ E _ f1 (s.up (e0.trans e1)) (L.mono lx (e0.trans e1)) h1 fun F2 H2 u y M2 h2 e2 f2 i2 => ?_
  obtain ⟨z, rfl, rfl, h2⟩ := asStr_ok (i1.up e2) h2
  refine ⟨_, .k (k := .inr z) (f2.fh _ _ (e2 _ _ (e1 _ _ upd_same))), ?_⟩
  have h2 : dgD (valV (mergeK [] (kvS l)) (.inr z)) y fun z => k z M2 := h2
  revert h2
  cases valV (mergeK [] (kvS l)) (.inr z) with
  | none => exact fun h2 => q F2 H2 u y M2 h2 ((e0.trans e1).trans e2) f2 i2
  | some w =>
    cases w with
    | str t => exact fun h2 => q F2 H2 (.str t) (.str t) M2 h2 ((e0.trans e1).trans e2) f2 (.str t)
    | _ => exact fun h2 => h2.elim
end
end Px

set_option Elab.async false
set_option linter.all false
set_option maxRecDepth 100000
set_option maxHeartbeats 4000000
/-! enumerate of a tuple: it is made. -/
namespace RT
open PySem PySem.Spec PyProof.Rows L2 Rl RZ
open Sem (wp)
open AutoSeq1 (wpAny_loadPart')
theorem enum_newT (l : Addr) (items : Array Value) (n : Nat) (dct : Option Addr) (sl : Array (Option Value)) :
    Meets (Builtin.«enumerate.__new__» ⟨[.type "enumerate", .ref l], []⟩) (fun _ R s => s.heap.get? l = some { cls := .type "tuple", dict := dct, data := .seq items n, slots := sl } ∧
      R (.ok (.ret (.ref (s.heap.push { cls := .type "tuple_iterator", data := .fields #[.ref l, .int 0 0] }).objs.size)))
        { s with heap := (s.heap.push { cls := .type "tuple_iterator", data := .fields #[.ref l, .int 0 0] }).push { cls := .type "enumerate", data := .fields #[.none, .bool false, .ref s.heap.objs.size, rawInt 0, .none, .none] } }) :=
  .of_wp fun prog w A R s h => by
    obtain ⟨hp, g, d, tk, os⟩ := s; obtain ⟨hl, h⟩ := h
    have hsub := sub_enumerate
    have hT : IsTup (Shared.heap ⟨hp, g, d, tk, os⟩) l items := ⟨_, hl, rfl, n, rfl⟩
    wp_walk using wpAny_loadPart' hl
    refine wpAny_stack_any fun st => wpAny_pure ?_
    split
    · rename_i c _ _ _ _ _
      cases (c == Value.type "enumerate")
      · wp_walk using wpAny_loadPart' hl, iter_tuple hT
        exact ⟨_, rfl, h⟩
      · wp_walk using wpAny_loadPart' hl, iter_tuple hT
        exact ⟨_, rfl, h⟩
    · wp_walk using wpAny_loadPart' hl, iter_tuple hT
      exact ⟨_, rfl, h⟩
section
variable {prog : Program} {w : World} {A : Around} {E : Value → Shared → Prop} {s : Shared}
theorem call_enumerate_tup {l : Addr} {items : Array Value} {Q : Value → Shared → Prop} (hL : IsTup s.heap l items)
    (h : ∀ h', IsEnum h' (s.heap.objs.size + 1) s.heap.objs.size 0 .none → IsTupIter h' s.heap.objs.size l 0 → h'.objs.size = s.heap.objs.size + 2 →
      (∀ b o, s.heap.get? b = some o → h'.get? b = some o) → Q (.ref (s.heap.objs.size + 1)) { s with heap := h' }) :
    wpAny (model prog w) A (call (.type "enumerate") [.ref l]) Q E s := by
  obtain ⟨⟨c, dct, dt, sl⟩, hl, hc, n, hd⟩ := hL
  replace hc : c = .type "tuple" := hc
  replace hd : dt = .seq items n := hd
  subst hc hd
  refine callType_new F.called_enumerate (by decide) (F.typeCall_enumerate_1 _) (F.newCall_enumerate_1 _) (fun obj => F.args_object_init_2 obj _) F.entry_enumerate_new
    (enum_newT l items n dct sl) ⟨hl, ?_⟩
  have hz : (s.heap.push { cls := .type "tuple_iterator", data := .fields #[.ref l, .int 0 0] }).objs.size = s.heap.objs.size + 1 := Heap.size_push ..
  show _ ∧ _
  rw [hz]
  have he : IsEnum ((s.heap.push { cls := .type "tuple_iterator", data := .fields #[.ref l, .int 0 0] }).push
      { cls := .type "enumerate", data := .fields #[.none, .bool false, .ref s.heap.objs.size, rawInt 0, .none, .none] }) (s.heap.objs.size + 1) s.heap.objs.size 0 .none := by
    have := Heap.get?_push_size (s.heap.push { cls := .type "tuple_iterator", data := .fields #[.ref l, .int 0 0] })
      (o := { cls := .type "enumerate", data := .fields #[.none, .bool false, .ref s.heap.objs.size, rawInt 0, .none, .none] }) rfl
    rw [hz] at this; exact this
  refine ⟨⟨_, he, rfl⟩, h _ he ⟨_, Heap.get?_push_of_some _ (Heap.get?_push_size _ rfl), rfl, rfl⟩ (by rw [Heap.size_push, hz]) fun b o x => Heap.get?_push_of_some _ (Heap.get?_push_of_some _ x)⟩
end
section
variable {prog : Program} {w : World} {A : Around} {E : Value → Shared → Prop} {s : Shared}
theorem enum_endT {e it l : Addr} {i : Nat} {items : Array Value} {old : Value} {Q : Option Value → Shared → Prop} (hh : A.handled = none)
    (he : IsEnum s.heap e it i old) (hit : s.heap.IsTupleIter it l i) (hl : s.heap.IsTuple l items) (hx : items[i]? = none)
    (hQ : ∀ h', Heap.ExtBut it s.heap h' → Q none { s with heap := h' }) : wpAny (model prog w) A (pyNext (.ref e)) Q E s := by
  have hT : s.TypeIs (.ref e) "enumerate" := ⟨_, he, rfl⟩
  unfold pyNext
  refine wpAny_bind (wpAny_attempt (wpAny_callSpecial?_slot (name := Str.ofString "__next__") hT F.slot_enumerate_next
    (wpAny_call_entry F.slot_enumerate_next hT F.entry_enumerate_next ?_ (F.args_enumerate_next_1 _))))
  show wpAny _ _ (field (.ref e) 2 >>= _) _ _ _
  refine wpAny_bind (wpAny_field he rfl (x := .ref it) rfl ?_)
  refine wpAny_bind (wpAny_nextOf_tuple_end hh hit hl hx fun h' x he' hx' => ?_)
  obtain ⟨o, ho, hc⟩ := hx'
  refine wpAny_bind (wpAny_isInstance (T := "StopIteration") (b := true) ⟨o, ho, hc⟩ isSubtype_stop ?_)
  exact wpAny_pure (hQ _ he')
end
/-- the tuple at a, each item in a new pair -/
def IteT (K : PySem.W.Frag) (a : Addr) : It :=
  ⟨fun i H => ∃ (xs : List V) (x : V), SqT K H a xs ∧ xs[i]? = some x, fun i H v H' => ∃ T x, v = .ref T ∧ H T = none ∧ H' = upd H T (.tup [.int (i : Nat), x]) ∧ ∀ xs, SqT K H a xs → xs[i]? = some x, fun i H => ∃ xs : List V, SqT K H a xs ∧ xs.length ≤ i⟩
theorem apart {h : Heap} {a b : Addr} {S T : String} (ha : ∃ o, h.get? a = some o ∧ o.cls = .type S) (hb : ∃ o, h.get? b = some o ∧ o.cls = .type T) (hne : S ≠ T) : a ≠ b := by
  rintro rfl
  obtain ⟨o, e, c⟩ := ha
  obtain ⟨o', e', c'⟩ := hb
  rw [e] at e'; cases e'
  rw [c] at c'; cases c'
  exact hne rfl
theorem turn_enumT {P : Program} {w : World} {K : PySem.W.Frag} {elts : List Expr} {kk : Nat} {tpos : Pos} (a e it : Addr) :
    Turn P w K (.Tuple elts kk tpos) (IteT K a) [e, it] e (fun i h => (∃ old, IsEnum h e it ((i : Nat) : Int) old) ∧ h.IsTupleIter it a i ∧ e ≠ it) where
  mem := by simp
  obj := fun i h st b hb => by
    obtain ⟨⟨old, he⟩, ⟨o, ho, hc, hd⟩, _⟩ := st
    have e' : b = e ∨ b = it := by simpa using hb
    rcases e' with z | z
    · rw [z]; exact ⟨_, he, fun v q => nomatch q⟩
    · rw [z]; exact ⟨o, ho, fun v q => by rw [hd] at q; cases q⟩
  keep := fun i h h' st k => let ⟨⟨old, he⟩, ⟨o, ho, r⟩, hne⟩ := st; ⟨⟨old, k e (by simp) _ he⟩, ⟨o, k it (by simp) o ho, r⟩, hne⟩
  item := by
    intro X hP hw hK hc i pins s σ H E I hf st hg
    subst hP hw hK
    obtain ⟨⟨old, he⟩, hit, hne⟩ := st
    obtain ⟨xs, x, hq, hx⟩ := hg
    obtain ⟨its, rv, p, hz⟩ := I.tuple hq
    obtain ⟨u, hu, ru⟩ := rv.get hx
    have hel : e < s.heap.objs.size := Heap.lt_size he
    have hil : it < s.heap.objs.size := by obtain ⟨_, q, _⟩ := hit; exact Heap.lt_size q
    have ct : ∃ o, s.heap.get? a = some o ∧ o.cls = .type "tuple" := let ⟨o, h1, h2, _⟩ := p; ⟨o, h1, h2⟩
    have ci : ∃ o, s.heap.get? it = some o ∧ o.cls = .type "tuple_iterator" := let ⟨o, h1, h2, _⟩ := hit; ⟨o, h1, h2⟩
    have ce : ∃ o, s.heap.get? e = some o ∧ o.cls = .type "enumerate" := ⟨_, he, rfl⟩
    have D := Draws.tuple (prog := X.prog) (w := X.w) (A := X.A.in1) (I.ok.hd hc) it a (apart ct ci (by decide)) its.toArray
    have hef : e ∉ [it, a] := by
      have h1 := apart ce ci (by decide)
      have h2 := apart ce ct (by decide)
      simp [h1, h2]
    have hlt : i < its.toArray.size := by simpa using (List.getElem?_eq_some_iff.mp hu).1
    refine wpAny_pyNext_enum_itemD D he ⟨hit, p⟩ hlt hne hef fun u' h' tk hP' ho hst hT hsz hk => ?_
    have eu : u' = u := by
      have z : its.toArray[i]? = some u' := hP'
      rw [show its.toArray[i]? = some u by simpa using hu] at z
      exact (Option.some.inj z).symm
    subst eu
    refine ⟨_, rfl, wpAny_letOwnedTupleGo_enum (s := { s with heap := h', toks := tk + 1 }) ho fun h'' he' sb => ?_⟩
    have hT2 : h''.get? s.heap.objs.size = some { cls := .type "tuple", data := .seq #[.int i tk, u'] } := (sb.2 _ (Nat.ne_of_gt hel)).trans hT
    have new : ObjOk X.prog X.w (upd H s.heap.objs.size (.tup [.int (i : Nat), x])) h'' s.heap.objs.size (.tup [.int (i : Nat), x]) :=
      ⟨by show 2 ≤ sizeLine; decide, [.int i tk, u'], .cons ⟨_, rfl⟩ (.cons ru .nil), ⟨_, hT2, rfl, _, rfl⟩⟩
    have I1 : Inv X pins σ (upd H s.heap.objs.size (.tup [.int (i : Nat), x])) { s with heap := h'', toks := tk + 1 } :=
      I.turnedNew (ch := [e, it]) (fun b ob hb q => (sb.2 b (fun z => hb (by simp [z]))).trans (hk b ob (fun z => hb (by simp [z])) (fun z => hb (by simp [z])) q)) hf (Nat.le_refl _) new
    refine ⟨.ref s.heap.objs.size, _, I1, rfl, ⟨_, x, rfl, I.hok.fresh (Nat.le_refl _), rfl, fun ys hy => ?_⟩, ⟨⟨u', ?_⟩, ?_, hne⟩, fun b hb => ?_⟩
    · rw [I.tuple_inj hy hq]; exact hx
    · have e1 : ((i + 1 : Nat) : Int) = (i : Int) + 1 := by omega
      rw [e1]; exact he'
    · obtain ⟨⟨o, ho, r⟩, _⟩ := hst
      exact ⟨o, (sb.2 it (Ne.symm hne)).trans ho, r⟩
    · have hb' : b < s.heap.objs.size := by
        have e' : b = e ∨ b = it := by simpa using hb
        rcases e' with z | z
        · rw [z]; exact hel
        · rw [z]; exact hil
      rw [upd_ne (Nat.ne_of_lt hb')]
      exact (hf b hb).1
  done := by
    intro X hP hw hK hc i pins s σ H E I hf st hg
    subst hP hw hK
    obtain ⟨⟨old, he⟩, hit, hne⟩ := st
    obtain ⟨xs, hq, hx⟩ := hg
    obtain ⟨its, rv, p, hz⟩ := I.tuple hq
    obtain ⟨f0, f1, f2, f3, f4, f5⟩ := hf it (by simp)
    have hl := rv.length
    have hT : s.TypeIs (.ref e) "enumerate" := ⟨_, he, rfl⟩
    refine wpAny_mono (enum_endT (I.ok.hd hc) he hit p (by simp; omega) fun h' eb => (⟨rfl, I.turned (t' := s.toks) (fun b o hb q => eb b o hb q) f0 f1 f3 f4 f5⟩ : _)) (fun _ _ z => z) fun _ _ z => z
  self := fun A i s Q E st h => let ⟨⟨_, he⟩, _⟩ := st; wpAny_pyIter_enum he h
def iEnumT (K : PySem.W.Frag) (ta : TA) : TI := fun σ H R => ta σ H fun vs H1 => ∃ a, vs = [.ref a] ∧ (((∃ xs, SqL K H1 a xs) ∧ R (Ite K a) H1) ∨ ((∃ xs, SqT K H1 a xs) ∧ R (IteT K a) H1))
theorem pi_enumT {X : Cx} {e : Expr} {ta : TA} {p pos tpos : Pos} {elts : List Expr} {kk : Nat} (hg : Gl X "enumerate") (hm : X.mg "enumerate" = none) (ha : PA X [e] ta) (hs : starEach [e] X.env = [(false, eval e X.env)] := by rfl) :
    PI X (.Tuple elts kk tpos) (.Call (.Name "enumerate" p) [e] [] pos) (iEnumT X.K ta) := by
  refine ⟨fun pins s σ H R I h => ?_⟩
  refine Call_ (ld_blt I hg hm boot_enumerate (PyProof.Rows.callWith_type1 (thn (ha.run pos pins s σ H _ I h) fun us s1 ⟨vs, H1, I1, r1, q1⟩ => ?_) hs rfl))
  obtain ⟨a, ex, q⟩ := q1
  subst ex
  cases r1 with
  | cons r rr =>
    cases rr
    cases r
    have fin : ∀ b, b ∈ [s1.heap.objs.size + 1, s1.heap.objs.size] → s1.heap.objs.size ≤ b := fun b hb => by
      have e' : b = s1.heap.objs.size + 1 ∨ b = s1.heap.objs.size := by simpa using hb
      rcases e' with z | z
      · rw [z]; exact Nat.le_add_right _ _
      · rw [z]; exact Nat.le_refl _
    rcases q with ⟨⟨xs, hq⟩, q⟩ | ⟨⟨xs, hq⟩, q⟩
    · obtain ⟨its, rv, p', hz⟩ := I1.list hq
      refine call_enumerate_list p'.isList fun h' he hit hsz hk => wpAny_pyIter_enum he ?_
      have I2 : Inv X pins σ H1 { s1 with heap := h' } := I1.kept (t' := s1.toks) hk
      exact ⟨s1.heap.objs.size + 1, [s1.heap.objs.size + 1, s1.heap.objs.size], _, _, H1, rfl, I2, turn_enum a (s1.heap.objs.size + 1) s1.heap.objs.size, ⟨⟨.none, he⟩, hit, Nat.succ_ne_self _⟩, fun b hb => I1.fpOk (fin b hb) (I1.hok.fresh (fin b hb)), q⟩
    · obtain ⟨its, rv, p', hz⟩ := I1.tuple hq
      refine call_enumerate_tup p' fun h' he hit hsz hk => wpAny_pyIter_enum he ?_
      have I2 : Inv X pins σ H1 { s1 with heap := h' } := I1.kept (t' := s1.toks) hk
      exact ⟨s1.heap.objs.size + 1, [s1.heap.objs.size + 1, s1.heap.objs.size], _, _, H1, rfl, I2, turn_enumT a (s1.heap.objs.size + 1) s1.heap.objs.size, ⟨⟨.none, he⟩, hit, Nat.succ_ne_self _⟩, fun b hb => I1.fpOk (fin b hb) (I1.hok.fresh (fin b hb)), q⟩
end RT

set_option Elab.async false
set_option linter.all false
set_option maxRecDepth 100000
set_option maxHeartbeats 4000000
/-! enumerate of a list or a tuple. -/
namespace Px
open PySem PySem.Spec PyProof.Rows L2 Rl RZ RT
section
variable {K : Frag} [Tb K] {L : XL} {G F : Hp}
theorem itok_eT {a : Addr} {vs : List V} {xs : List D} (h : SqT K F a vs) (i1 : IsAll K F vs xs) : ItOk K G F (IteT K a) ⟨enumD 0 xs, []⟩ where
  go := fun i G1 F1 H1 M hi e f g => by
    have hi : i < (enumD 0 xs).length := hi
    rw [enumD_len] at hi
    exact ⟨vs, vs[i]'(by rw [i1.len]; exact hi), Evl.ex_t (e.trans f.fh) h, List.getElem?_eq_getElem _⟩
  stop := fun i G1 F1 H1 M hi e f g => by
    have hi : (enumD 0 xs).length ≤ i := hi
    rw [enumD_len] at hi
    exact ⟨vs, Evl.ex_t (e.trans f.fh) h, by rw [i1.len]; exact hi⟩
  yld := fun i G1 F1 H1 M v H2 x hx e f g ⟨T, x1, r1, r2, r3, r4⟩ => by
    subst r1 r3
    obtain ⟨dx, hx1, rfl⟩ := enumD_get hx
    obtain ⟨u1, hu1, is1⟩ := i1.get hx1
    rw [r4 vs (Evl.ex_t (e.trans f.fh) h)] at hu1; cases hu1
    rw [Nat.zero_add]
    exact ⟨_, f.exl r2, f.laid r2, .tup (SqT.of upd_same) (.cons (.int _) (.cons (is1.up (e.trans (f.exl r2))) .nil))⟩
def wiEnumT (wa : WA) : WI := fun ρ M k E => wa ρ M (fun xs M1 => match xs with
  | [.tup xs] => k ⟨enumD 0 xs, []⟩ M1
  | [x] => asL x M1 fun xs gd => k ⟨enumD 0 xs, gd⟩ M1
  | _ => False) E
theorem sdi_enumT {ta : TA} {wa : WA} (ha : SdA K L ta wa) : SdI K L (iEnumT K ta) (wiEnumT wa) := fun G F H σ ρ M k E R f s l h q =>
  ha G F H σ ρ M _ E _ f s l h fun F1 H1 vs xs M1 h1 e1 f1 i1 => by
    split at h1
    · cases i1 with
      | cons a b =>
        cases b
        cases a with
        | tup a1 a2 => exact ⟨_, rfl, .inr ⟨⟨_, Evl.ex_t f1.fh a1⟩, q F1 H1 _ _ M1 h1 e1 f1 (itok_eT a1 a2)⟩⟩
    · cases i1 with
      | cons a b =>
        cases b
        obtain ⟨a', xs, g1, rfl, la, gd1, h2⟩ := asL_ok f1 a h1
        obtain ⟨vs, p1, p2⟩ := la.get f1 gd1
        exact ⟨_, rfl, .inl ⟨⟨_, Evl.sq_of p1⟩, q F1 H1 _ _ M1 h2 e1 f1 (itok_e la)⟩⟩
    · exact h1.elim
end
end Px

set_option Elab.async false
set_option linter.all false
set_option maxRecDepth 100000
set_option maxHeartbeats 4000000
/-! Exceptions: raised, heard, asked. -/
namespace Px
open PySem PySem.Spec PyProof.Rows L2 Rl RZ RT
open Evl (Ex)
/-- own exception classes, each with the fields that its __init__ sets -/
abbrev XT := List (Str × List Str)
section
variable {K : Frag} [Tb K] {L : XL}
structure XTok (K : Frag) (de : Str) (T : XT) : Prop where
  mx : ∀ p ∈ T, XMk K (He.ga K p.1) p.2
  ec : ∀ p ∈ T, ExcC K (He.ga K p.1)
  xf : ∀ p ∈ T, XfC K (He.ga K p.1)
  ex : ∀ p ∈ T, PySem.W.exmOne K (.ref (He.ga K p.1)) (.ref (He.ga K de)) = some true
theorem xt_mem {c : Str} {l : List Str} : ∀ {T : XT}, T.lookup c = some l → (c, l) ∈ T
  | [], h => by cases h
  | (a, m) :: T, h => by
    simp only [List.lookup] at h
    split at h
    · rename_i e
      cases h
      have : c = a := by simpa using e
      subst this; simp
    · exact List.mem_cons_of_mem _ (xt_mem h)
/-- raise C(..) -/
def wRaise (T : XT) (c : Str) (wa : WA) : WS := fun ρ M _ E => wa ρ M (fun xs M1 => match T.lookup c with
  | some fl => Ck fl.length xs (fl.length ≤ 900 ∧ E ⟨c, fl.reverse, xs.reverse⟩ M1)
  | none => False) E
theorem sds_raise {de : Str} {T : XT} {c : Str} {fl : List Str} {EX : XK} {ta : TA} {wa : WA} (X : XTok K de T) (hc : T.lookup c = some fl) (ha : SdA K (XL.of K EX) ta wa) : SdS K (XL.of K EX) (tRaiseX K (He.ga K c) fl ta EX) (wRaise T c wa) := fun G F H σ ρ M P E D f s l h _ _ _ _ =>
  ha G F H σ ρ M _ E _ f s l h fun F1 H1 ys xs M1 h1 e1 f1 i1 => by
    rw [hc] at h1
    obtain ⟨hl, h9, he⟩ := Ck.get h1
    refine mkX_of (i1.len.trans hl) h9 (X.mx _ (xt_mem hc)) fun dx n => ?_
    refine l _ _ _ _ _ he (e1.trans (f1.exl n)) (f1.laid n) ⟨dx, _, rfl, upd_same, ?_, ?_⟩
    · rw [List.map_reverse, List.map_fst_zip (by rw [i1.len, hl]; exact Nat.le_refl _)]
    · rw [List.map_reverse, List.map_snd_zip (by rw [i1.len, hl]; exact Nat.le_refl _)]
      exact (i1.up (f1.exl n)).rev
/-! ### what a lambda's caller hears -/
/-- the cells' objects must stay -/
def gM (G H : Hp) (M : Mem) : Hp := fun a => if (M a).isSome then H a else G a
theorem gM_some {G H : Hp} {M : Mem} {a : Addr} {c : Cell} (e : M a = some c) : gM G H M a = H a := by unfold gM; rw [e]; rfl
theorem gM_none {G H : Hp} {M : Mem} {a : Addr} (e : M a = none) : gM G H M a = G a := by unfold gM; rw [e]; rfl
theorem gM_cases {G H : Hp} {M : Mem} (a : Addr) : (∃ c, M a = some c ∧ gM G H M a = H a) ∨ (M a = none ∧ gM G H M a = G a) := by
  cases e : M a with
  | some c => exact .inl ⟨c, rfl, gM_some e⟩
  | none => exact .inr ⟨rfl, gM_none e⟩
theorem Fr.lock {G F H : Hp} {M : Mem} (f : Fr K G F H M) : Fr K (gM G H M) F H (fun _ => none) where
  tb := f.tb
  ft := f.ft
  gt := fun a ps e => by
    rcases gM_cases (G := G) (H := H) (M := M) a with ⟨c, q, z⟩ | ⟨q, z⟩
    · exact (NT.at (f.mc a c q).2 _ (z ▸ e)).1 ps rfl
    · exact f.gt a ps (z ▸ e)
  gh := fun a o e => by
    rcases gM_cases (G := G) (H := H) (M := M) a with ⟨c, q, z⟩ | ⟨q, z⟩
    · exact z ▸ e
    · exact f.gh a o (z ▸ e)
  fh := f.fh
  gf := fun a o e => by
    rcases gM_cases (G := G) (H := H) (M := M) a with ⟨c, q, z⟩ | ⟨q, z⟩
    · exact (f.mc a c q).1
    · exact f.gf a o (z ▸ e)
  gm := fun _ _ _ => rfl
  mc := fun _ _ e => by cases e
theorem Fr.unlock {G F H F' H' : Hp} {M M' : Mem} (f : Fr K G F H M) (f' : Fr K (gM G H M) F' H' M') (e : Ex F F') : Fr K G F' H' M where
  tb := f'.tb
  ft := f'.ft
  gt := f.gt
  gh := fun a o q => by
    have n := f.gm a o q
    exact f'.gh a o ((gM_none n).trans q)
  fh := f'.fh
  gf := fun a o q => f'.gf a o ((gM_none (f.gm a o q)).trans q)
  gm := f.gm
  mc := fun a c q => by
    obtain ⟨o, ho⟩ := (f.mc a c q).2.there
    have g : gM G H M a = some o := (gM_some q).trans ho
    refine ⟨f'.gf a o g, (f.mc a c q).2.mono e fun o2 q2 => ?_⟩
    rw [ho] at q2; cases q2
    exact f'.gh a o g
theorem exB_tbl {a : Addr} {cls : Value} {d : Option Addr} (ps : Array Value) : exB a cls d ≠ .tbl ps := fun z => by
  have z' : HO.ext _ = HO.tbl ps := z
  cases z'
def noM : Mem := fun _ => none
/-- heard: slot j is what is told at last, slot i the caught one's, N the number of slots; ws the except suite, wr what stands behind, wt the lambda's body -/
def wLam (T : XT) (i N j : Nat) (d0 : D) (ws wr : WS) (wt : W) : W := fun ρ M k _ =>
  wt ρ noM (fun _ _ => wr ((List.replicate N none).set j (some d0)) M { nx := fun _ M' => k .non M', rt := k } noX)
    (fun x _ => (T.lookup x.c).isSome = true ∧ ws ((List.replicate N none).set i (some (.exc x.c x.ns x.xs))) M { nx := fun ρ' M' => wr (ρ'.set i none) M' { nx := fun _ M' => k .non M', rt := k } noX, rt := k } noX)
theorem sto_none {F : Hp} {σ : L2.St} {N : Nat} (h : σ.length = N) : Sto K F σ (List.replicate N none) := ⟨by rw [List.length_replicate, h], fun i x e => by
  have := List.eq_of_mem_replicate (List.mem_of_getElem? e)
  cases this⟩
theorem sd_lam {de : Str} {T : XT} {i N j : Nat} {v0 : V} {d0 : D} {ts trest : TS} {ws wr : WS} {t : XK → TE} {wt : W} {Ng : List Str} (X : XTok K de T) (hN : Ng.length = N) (hN1 : 1 ≤ N) (h0 : ∀ F, Is K F v0 d0) (ht : ∀ EX, Sd K (XL.of K EX) (t EX) wt) (hs : SdS K XL.never ts ws) (hr : SdS K XL.never trest wr) :
    Sd K L (LamX.tLam (Tb.T K) (ttH K (He.ga K de) i N j v0 ts trest Ng) t) (wLam T i N j d0 ws wr wt) := fun G F H σ ρ M k E Q f s l h q => by
  refine ⟨f.tb, fun H1 eN T1 fa => ?_⟩
  have f1 : Fr K G F H1 M := f.ext eN T1
  have rest : ∀ {F' H' : Hp} {σ' : L2.St} {ρ' : St'} {M' : Mem}, wr ρ' M' { nx := fun _ M' => k .non M', rt := k } noX → Ex F F' → Fr K G F' H' M' → Sto K F' σ' ρ' → trest { nx := fun _ H' => Q .non H', rt := Q } σ' H' := fun {F' H' σ' ρ' M'} hw e f' s' =>
    hr G F' H' σ' ρ' M' { nx := fun _ M' => k .non M', rt := k } noX { nx := fun _ H' => Q .non H', rt := Q } f' s' trivial hw (fun F2 H2 _ _ M2 hk e2 f2 _ => q F2 H2 .non .non M2 hk (e.trans e2) f2 .non) (q.up e) (fun _ _ _ _ _ z => z.elim) fun _ _ _ _ _ z => z.elim
  refine ht _ (gM G H1 M) F H1 σ ρ noM _ _ _ f1.lock s (fun F' H' x M' d hx e f' xa σ' hl => ?_) h fun F' H' v x M' hk e f' is => ?_
  · obtain ⟨hT, hw⟩ := hx
    obtain ⟨fl, hfl⟩ := Option.isSome_iff_exists.mp hT
    obtain ⟨dd, fs, rfl, hd, hn, hxs⟩ := xa
    refine ⟨X.ex _ (xt_mem hfl), fun a na => ?_⟩
    have fu : Fr K G F' H' M := f1.unlock f' e
    have fe := fu.exl (o := exB a (.ref (He.ga K x.c)) (some dd)) na
    have fl2 : Fr K G (upd F' a (exB a (.ref (He.ga K x.c)) (some dd))) (upd H' a (exB a (.ref (He.ga K x.c)) (some dd))) M := fu.laid na exB_tbl
    have is : Is K (upd F' a (exB a (.ref (He.ga K x.c)) (some dd))) (.ref a) (.exc x.c x.ns x.xs) := .exc ⟨upd_same, fe _ _ hd⟩ hn (hxs.up fe)
    exact hs G _ _ _ _ M { nx := fun ρ' M' => wr (ρ'.set i none) M' { nx := fun _ M' => k .non M', rt := k } noX, rt := k } noX _ fl2 ((sto_none hl).set is i) trivial hw
      (fun F2 H2 σ2 ρ2 M2 hk e2 f2 s2 => rest hk ((e.trans fe).trans e2) f2 (s2.forget none i)) (q.up (e.trans fe)) (fun _ _ _ _ _ z => z.elim) fun _ _ _ _ _ z => z.elim
  · refine rest hk e (f1.unlock f' e) ((sto_none ?_).set (h0 F') j)
    unfold L2.start
    simp [hN]; omega
/-! ### asked -/
def wXg (T : XT) (f : Str) (we : W) : W := fun ρ M k E => we ρ M (fun x M1 => match x with
  | .exc c ns xs => (∃ fl, T.lookup c = some fl ∧ fl.contains f = true) ∧ fldD ns xs f fun y => k y M1
  | _ => False) E
theorem sd_xg {de : Str} {T : XT} {f : Str} {te : TE} {we : W} (X : XTok K de T) (ha : Sd K L te we) : Sd K L (tXg K f te) (wXg T f we) := fun G F H σ ρ M k E Q fr s l h q =>
  ha G F H σ ρ M _ E _ fr s l h fun F1 H1 v x M1 h1 e1 f1 i1 => by
    cases i1 with
    | exc hx hn hxs =>
      obtain ⟨⟨fl, hc, hf⟩, h2⟩ := h1
      obtain ⟨y, e2, h3⟩ := h2.get
      obtain ⟨u, lk, is, mem⟩ := lookup_fs hn hxs e2
      have m := xt_mem hc
      exact ⟨_, _, _, _, u, rfl, ⟨f1.fh _ _ hx.1, f1.fh _ _ hx.2⟩, X.xf _ m, (X.mx _ m).nf f (List.contains_iff_mem.mp hf), lk, q F1 H1 u y M1 h3 e1 f1 is⟩
    | _ => cases h1
/-- isinstance, also of exceptions -/
def qIsiX (K : Frag) : List V → Hp → VK → Prop := orC (qIsi K) (orC (rIsX K) (rIsXT K))
theorem cg_isiX {X : Cx} : CallR X (.builtin "isinstance") (qIsiX X.K) := Rl.CallR.or cg_isi (Rl.CallR.or call_isX call_isXT)
/-- of two own classes -/
def sub2 (C : CT) (c c1 c2 : Str) : Option Bool := match C.sub c c1 with
  | some true => some true
  | some false => C.sub c c2
  | none => none
def dIsiX (C : CT) (T : XT) : DA := fun xs M k => match xs with
  | [.exc c _ _, .cls c'] => (T.lookup c).isSome = true ∧ isiOO C c c' fun b => k (.bl b) M
  | [.exc c _ _, .tup [.cls c1, .cls c2]] => False
  | xs => dIsi C xs M k
theorem ct_own {C : CT} (ok : CTok K C) {c c' : Str} {b : Bool} (h1 : C.sub c c' = some b) (h2 : (C.lookup c').isSome = true) : PySem.W.kitOne K (.ref (He.ga K c)) (.ref (He.ga K c')) = some b := by
  obtain ⟨l, e1, e2⟩ := Option.map_eq_some_iff.mp h1
  obtain ⟨l', e3⟩ := isSome_mem h2
  rw [← e2]; exact ok.own _ (look_mem e1) _ e3
theorem s_isiX {de : Str} {C : CT} {T : XT} (ok : CTok K C) (X : XTok K de T) : SdB K (qIsiX K) (dIsiX C T) := fun G F H M xs vs k Q f i h q => by
  unfold dIsiX at h
  split at h
  · cases i with
    | cons a b => cases b with
      | cons b r =>
        cases r
        cases b
        obtain ⟨hT, h0⟩ := h
        obtain ⟨b, h1, h2, h⟩ := isiOO.get h0
        obtain ⟨fl, hfl⟩ := Option.isSome_iff_exists.mp hT
        cases a with
        | exc hx hn hxs => exact .inr (.inl ⟨_, _, _, _, _, _, b, rfl, .own _, ⟨f.fh _ _ hx.1, f.fh _ _ hx.2⟩, X.ec _ (xt_mem hfl), ct_own ok h1 h2, lend f q (.bl _) h⟩)
  · exact h.elim
  · exact .inl (s_isi ok G F H M _ vs k Q f i h q)
/-! ### {} -/
def wDic : W := fun _ M k _ => k .dic M
theorem sd_dic : Sd K L tDNewK wDic := fun G F H σ ρ M k E Q f s l h q => fun p n => q _ _ (.ref p) _ M h (f.exl n) (f.laid n) (.dic upd_same)
/-! ### calls where defaults fill up -/
def wFnD (n : Nat) (ds : List D) (wf : WF) (wc : WC) : W := fun ρ M k E => wc ρ M (fun xs zs M1 => Ck n xs (Ck 0 zs (wf (xs ++ ds) M1 k E))) E
theorem sd_fnD {n : Nat} {sp : Sp} {wf : WF} {EX : XK} {tc : TC} {wc : WC} {dv : List V} {ds : List D} (hd : ∀ F, IsAll K F dv ds) (hf : SdFL K L EX sp wf) (hc : SdC K L tc wc) : Sd K L (tFn n 0 sp (fun vs _ => vs ++ dv) EX tc) (wFnD n ds wf wc) := fun G F H σ ρ M k E Q f s l h q => hc G F H σ ρ M _ E _ f s l h fun F1 H1 vs us xs zs M1 h1 e1 f1 i1 i2 => by
  obtain ⟨l1, h2⟩ := h1.get
  obtain ⟨l2, h3⟩ := h2.get
  exact ⟨i1.len.trans l1, i2.len.trans l2, hf G F1 H1 M1 _ _ k E Q f1 (i1.app (hd F1)) (L.mono l e1) h3 (q.up e1)⟩
def wNewD (b : Bool) (c : Str) (n : Nat) (ds : List D) (wf : WF) (wc : WC) : W := fun ρ M k E => wc ρ M (fun xs zs M1 => Ck n xs (Ck 0 zs (newI b c wf (fun x => x :: (xs ++ ds)) M1 k E))) E
theorem sd_newD {b : Bool} {c : Str} {n : Nat} {sp : Sp} {wf : WF} {EX : XK} {tc : TC} {wc : WC} {dv : List V} {ds : List D} (hd : ∀ F, IsAll K F dv ds) (hf : SdFL K L EX sp wf) (cf : CF K c []) (hc : SdC K L tc wc) : Sd K L (tNew (He.ga K c) n 0 sp (fun vs _ => vs ++ dv) EX tc) (wNewD b c n ds wf wc) := fun G F H σ ρ M k E Q f s l h q => hc G F H σ ρ M _ E _ f s l h fun F1 H1 vs us xs zs M1 h1 e1 f1 i1 i2 => by
  obtain ⟨l1, h2⟩ := h1.get
  obtain ⟨l2, h3⟩ := h2.get
  exact ⟨i1.len.trans l1, i2.len.trans l2, newI_ok hf cf f1 (L.mono l e1) h3 (q.up e1) (fun x => x :: (vs ++ dv)) fun p => .cons (.ref p) (i1.app (hd F1))⟩
end
end Px

set_option Elab.async false
set_option linter.all false
set_option maxRecDepth 100000
set_option maxHeartbeats 4000000
/-! Typed code and what it says of transformers: expressions. -/
namespace Ty
open PySem PySem.Spec PyProof.Rows L2 Rl RZ RT Px
inductive Res (α : Type) where
  | ok (a : α)
  | ex (x : Xn)
  | no

section
variable {α β γ : Type}
def Res.bind : Res α → (α → Res β) → Res β
  | .ok a, f => f a
  | .ex x, _ => .ex x
  | .no, _ => .no
def Res.wp (m : Res α) (Q : α → Prop) : Prop := match m with
  | .ok a => Q a
  | _ => False
theorem bind_ok (a : α) (f : α → Res β) : (Res.ok a).bind f = f a := rfl
theorem bind_no (f : α → Res β) : (Res.no).bind f = .no := rfl
theorem wp_ok {a : α} {Q : α → Prop} : (Res.ok a).wp Q = Q a := rfl
theorem bind_assoc (m : Res α) (f : α → Res β) (g : β → Res γ) : (m.bind f).bind g = m.bind fun a => (f a).bind g := by cases m <;> rfl
theorem wp_bind {m : Res α} {f : α → Res β} {Q : β → Prop} : (m.bind f).wp Q = m.wp fun a => (f a).wp Q := by cases m <;> rfl
theorem Res.wp.mono {m : Res α} {Q Q' : α → Prop} (h : m.wp Q) (q : ∀ a, Q a → Q' a) : m.wp Q' := by
  cases m with
  | ok a => exact q a h
  | _ => cases h
theorem Res.wp.get {m : Res α} {Q : α → Prop} (h : m.wp Q) : ∃ a, m = .ok a ∧ Q a := by
  cases m with
  | ok a => exact ⟨a, rfl, h⟩
  | _ => cases h
theorem wp_of {m : Res α} {Q : α → Prop} {a : α} (e : m = .ok a) (h : Q a) : m.wp Q := by rw [e]; exact h
/-- what may be raised satisfies the wish E -/
def Res.wx (E : XP) (m : Res α) (Q : α → Prop) : Prop := match m with
  | .ok a => Q a
  | .ex x => ∀ M, E x M
  | .no => False
theorem wx_bind {E : XP} {m : Res α} {f : α → Res β} {Q : β → Prop} : (m.bind f).wx E Q = m.wx E fun a => (f a).wx E Q := by cases m <;> rfl
theorem wx_ok {E : XP} {a : α} {Q : α → Prop} : (Res.ok a).wx E Q = Q a := rfl
theorem Res.wx.mono {E : XP} {m : Res α} {Q Q' : α → Prop} (h : m.wx E Q) (q : ∀ a, Q a → Q' a) : m.wx E Q' := by
  cases m with
  | ok a => exact q a h
  | ex x => exact h
  | no => cases h
theorem wx_of {E : XP} {m : Res α} {Q : α → Prop} {a : α} (e : m = .ok a) (h : Q a) : m.wx E Q := by rw [e]; exact h
/-- where nothing may be raised -/
def nx (m : Res α) : Res α := match m with
  | .ok a => .ok a
  | _ => .no
theorem nx_ok {a : α} : nx (.ok a) = .ok a := rfl
theorem nx_wx {E E' : XP} {m : Res α} {Q : α → Prop} (h : (nx m).wx E Q) : m.wx E' Q := by
  cases m with
  | ok a => exact h
  | ex x => cases h
  | no => cases h
theorem wx_of_wp {E : XP} {m : Res α} {Q : α → Prop} (h : m.wp Q) : m.wx E Q := by
  obtain ⟨a, rfl, q⟩ := h.get
  exact q
end
/-! ### encodings -/
abbrev eN : Unit → D := fun _ => .non
abbrev eX : D → D := fun d => d
abbrev eL {τ : Type} (e : τ → D) : List τ → D := fun l => .lst (l.map e)
abbrev eT {τ : Type} (e : τ → D) : List τ → D := fun l => .tup (l.map e)
abbrev eT2 {τ1 τ2 : Type} (e1 : τ1 → D) (e2 : τ2 → D) : τ1 × τ2 → D := fun p => .tup [e1 p.1, e2 p.2]
abbrev eT3 {τ1 τ2 τ3 : Type} (e1 : τ1 → D) (e2 : τ2 → D) (e3 : τ3 → D) : τ1 × τ2 × τ3 → D := fun p => .tup [e1 p.1, e2 p.2.1, e3 p.2.2]
abbrev eT4 {τ1 τ2 τ3 τ4 : Type} (e1 : τ1 → D) (e2 : τ2 → D) (e3 : τ3 → D) (e4 : τ4 → D) : τ1 × τ2 × τ3 × τ4 → D := fun p => .tup [e1 p.1, e2 p.2.1, e3 p.2.2.1, e4 p.2.2.2]
abbrev eL2 {τ1 τ2 : Type} (e1 : τ1 → D) (e2 : τ2 → D) : τ1 × τ2 → D := fun p => .lst [e1 p.1, e2 p.2]
abbrev eL3 {τ1 τ2 τ3 : Type} (e1 : τ1 → D) (e2 : τ2 → D) (e3 : τ3 → D) : τ1 × τ2 × τ3 → D := fun p => .lst [e1 p.1, e2 p.2.1, e3 p.2.2]
def eO {τ : Type} (e : τ → D) : Option τ → D
  | none => .non
  | some x => e x
abbrev cL {τ : Type} (e : τ → D) : List τ → Cell := fun l => .lst (l.map e)
abbrev cL3 {τ1 τ2 τ3 : Type} (e1 : τ1 → D) (e2 : τ2 → D) (e3 : τ3 → D) : τ1 × τ2 × τ3 → Cell := fun p => .lst [e1 p.1, e2 p.2.1, e3 p.2.2]
/-! ### what code says of a transformer -/
section
variable {S τ β : Type}
def EJ (μ : S → Mem) (ρ : St') (s : S) (we : W) (e : τ → D) (C : (τ → S → Res β) → Res β) : Prop :=
  ∀ (k : D → Mem → Prop) (E : XP) (Q : β → Prop) (rest : τ → S → Res β), (C rest).wx E Q → (∀ a s', (rest a s').wx E Q → k (e a) (μ s')) → we ρ (μ s) k E
def TJ (μ : S → Mem) (ρ : St') (s : S) (wt : WT) (C : (Bool → S → Res β) → Res β) : Prop :=
  ∀ (k : Bool → Mem → Prop) (E : XP) (Q : β → Prop) (rest : Bool → S → Res β), (C rest).wx E Q → (∀ a s', (rest a s').wx E Q → k a (μ s')) → wt ρ (μ s) k E
def AJ (μ : S → Mem) (ρ : St') (s : S) (wa : WA) (e : τ → List D) (C : (τ → S → Res β) → Res β) : Prop :=
  ∀ (k : List D → Mem → Prop) (E : XP) (Q : β → Prop) (rest : τ → S → Res β), (C rest).wx E Q → (∀ a s', (rest a s').wx E Q → k (e a) (μ s')) → wa ρ (μ s) k E
def OJ (μ : S → Mem) (ρ : St') (s : S) (wo : WO) (C : (Option Int → S → Res β) → Res β) : Prop :=
  ∀ (k : Option Int → Mem → Prop) (E : XP) (Q : β → Prop) (rest : Option Int → S → Res β), (C rest).wx E Q → (∀ a s', (rest a s').wx E Q → k a (μ s')) → wo ρ (μ s) k E
def CJ (μ : S → Mem) (ρ : St') (s : S) (wc : WC) (e f : τ → List D) (C : (τ → S → Res β) → Res β) : Prop :=
  ∀ (k : List D → List D → Mem → Prop) (E : XP) (Q : β → Prop) (rest : τ → S → Res β), (C rest).wx E Q → (∀ a s', (rest a s').wx E Q → k (e a) (f a) (μ s')) → wc ρ (μ s) k E
def IJ (μ : S → Mem) (ρ : St') (s : S) (wi : WI) (e : τ → D) (C : (List τ → S → Res β) → Res β) : Prop :=
  ∀ (k : Its → Mem → Prop) (E : XP) (Q : β → Prop) (rest : List τ → S → Res β), (C rest).wx E Q → (∀ a s', (rest a s').wx E Q → k ⟨a.map e, []⟩ (μ s')) → wi ρ (μ s) k E
end
section
variable {S β : Type} {μ : S → Mem} {ρ : St'} {s : S}
/-! ### leaves -/
theorem ej_var {τ : Type} {e : τ → D} {i : Nat} (x : τ) (h : ρ[i]? = some (some (e x))) : EJ (β := β) μ ρ s (wVar i) e fun rest => rest x s := fun k E Q rest h1 h2 => by
  unfold wVar; rw [h]; exact h2 _ _ h1
theorem ej_int {i : Int} : EJ (β := β) μ ρ s (wC (.int i)) D.int fun rest => rest i s := fun k E Q rest h1 h2 => h2 _ _ h1
theorem ej_str {i : Str} : EJ (β := β) μ ρ s (wC (.str i)) D.str fun rest => rest i s := fun k E Q rest h1 h2 => h2 _ _ h1
theorem ej_bl {i : Bool} : EJ (β := β) μ ρ s (wC (.bl i)) D.bl fun rest => rest i s := fun k E Q rest h1 h2 => h2 _ _ h1
theorem ej_non : EJ (β := β) μ ρ s (wC .non) eN fun rest => rest () s := fun k E Q rest h1 h2 => h2 _ _ h1
theorem ej_c {d : D} : EJ (β := β) μ ρ s (wC d) (fun _ : Unit => d) fun rest => rest () s := fun k E Q rest h1 h2 => h2 _ _ h1
/-- another look at a datum -/
theorem ej_as {τ τ' : Type} {e : τ → D} {e' : τ' → D} (f : τ → τ') {we : W} {C : (τ → S → Res β) → Res β} (h : EJ μ ρ s we e C) (he : ∀ a, e a = e' (f a)) : EJ μ ρ s we e' fun rest => C fun a s1 => rest (f a) s1 := fun k E Q rest h1 h2 =>
  h k E Q _ h1 fun a s' h3 => by rw [he]; exact h2 _ _ h3
/-! ### operators -/
def O2 (β : Type) {τ1 τ2 τ : Type} (d : D2) (e1 : τ1 → D) (e2 : τ2 → D) (e : τ → D) (f : τ1 → τ2 → (τ → Res β) → Res β) : Prop :=
  ∀ a b M (k : D → Mem → Prop) (E : XP) (Q : β → Prop) (rest : τ → Res β), (f a b rest).wx E Q → (∀ c, (rest c).wx E Q → k (e c) M) → d (e1 a) (e2 b) M k
def O1 (β : Type) {τ1 τ : Type} (d : D1) (e1 : τ1 → D) (e : τ → D) (f : τ1 → (τ → Res β) → Res β) : Prop :=
  ∀ a M (k : D → Mem → Prop) (E : XP) (Q : β → Prop) (rest : τ → Res β), (f a rest).wx E Q → (∀ c, (rest c).wx E Q → k (e c) M) → d (e1 a) M k
def OB (β : Type) {τ1 τ : Type} (d : DA) (e1 : τ1 → List D) (e : τ → D) (f : τ1 → (τ → Res β) → Res β) : Prop :=
  ∀ a M (k : D → Mem → Prop) (E : XP) (Q : β → Prop) (rest : τ → Res β), (f a rest).wx E Q → (∀ c, (rest c).wx E Q → k (e c) M) → d (e1 a) M k
theorem ej_op {τ1 τ2 τ : Type} {d : D2} {e1 : τ1 → D} {e2 : τ2 → D} {e : τ → D} {f : τ1 → τ2 → (τ → Res β) → Res β} {wa wb : W} {Ca : (τ1 → S → Res β) → Res β} {Cb : τ1 → S → (τ2 → S → Res β) → Res β}
    (hd : O2 β d e1 e2 e f) (ha : EJ μ ρ s wa e1 Ca) (hb : ∀ a s1, EJ μ ρ s1 wb e2 (Cb a s1)) : EJ μ ρ s (wOp d wa wb) e fun rest => Ca fun a s1 => Cb a s1 fun b s2 => f a b fun c => rest c s2 := fun k E Q rest h q =>
  ha _ E Q _ h fun a s1 h1 => hb a s1 _ E Q _ h1 fun b s2 h2 => hd a b _ k E Q _ h2 fun c h3 => q c s2 h3
theorem ej_un {τ1 τ : Type} {d : D1} {e1 : τ1 → D} {e : τ → D} {f : τ1 → (τ → Res β) → Res β} {wa : W} {Ca : (τ1 → S → Res β) → Res β}
    (hd : O1 β d e1 e f) (ha : EJ μ ρ s wa e1 Ca) : EJ μ ρ s (wUn d wa) e fun rest => Ca fun a s1 => f a fun c => rest c s1 := fun k E Q rest h q =>
  ha _ E Q _ h fun a s1 h1 => hd a _ k E Q _ h1 fun c h3 => q c s1 h3
theorem ej_cb {τ1 τ : Type} {d : DA} {e1 : τ1 → List D} {e : τ → D} {f : τ1 → (τ → Res β) → Res β} {wa : WA} {Ca : (τ1 → S → Res β) → Res β}
    (hd : OB β d e1 e f) (ha : AJ μ ρ s wa e1 Ca) : EJ μ ρ s (wCB d wa) e fun rest => Ca fun a s1 => f a fun c => rest c s1 := fun k E Q rest h q =>
  ha _ E Q _ h fun a s1 h1 => hd a _ k E Q _ h1 fun c h3 => q c s1 h3
theorem ej_cb1 {τ1 τ : Type} {d : D1} {e1 : τ1 → D} {e : τ → D} {f : τ1 → (τ → Res β) → Res β} {we : W} {Ca : (τ1 → S → Res β) → Res β}
    (hd : O1 β d e1 e f) (ha : EJ μ ρ s we e1 Ca) : EJ μ ρ s (wCB (b1 d) (waCons we waNil)) e fun rest => Ca fun a s1 => f a fun c => rest c s1 := fun k E Q rest h q =>
  ha _ E Q _ h fun a s1 h1 => hd a _ k E Q _ h1 fun c h3 => q c s1 h3
/-! ### arguments -/
theorem aj_nil : AJ (β := β) μ ρ s waNil (fun _ : Unit => []) fun rest => rest () s := fun k E Q rest h q => q _ _ h
theorem aj_one {τ : Type} {e : τ → D} {we : W} {C : (τ → S → Res β) → Res β} (h : EJ μ ρ s we e C) : AJ μ ρ s (waCons we waNil) (fun x => [e x]) C := fun k E Q rest h1 q => h _ E Q _ h1 fun a s1 h2 => q _ _ h2
theorem aj_cons {τ1 τ2 : Type} {e : τ1 → D} {er : τ2 → List D} {we : W} {wr : WA} {Ca : (τ1 → S → Res β) → Res β} {Cb : τ1 → S → (τ2 → S → Res β) → Res β} (ha : EJ μ ρ s we e Ca) (hb : ∀ a s1, AJ μ ρ s1 wr er (Cb a s1)) :
    AJ μ ρ s (waCons we wr) (fun p : τ1 × τ2 => e p.1 :: er p.2) fun rest => Ca fun a s1 => Cb a s1 fun b s2 => rest (a, b) s2 := fun k E Q rest h1 q => ha _ E Q _ h1 fun a s1 h2 => hb a s1 _ E Q _ h2 fun b s2 h3 => q (a, b) _ h3
theorem aj_lnil {τ : Type} {e : τ → D} : AJ (β := β) μ ρ s waNil (List.map e) fun rest => rest [] s := fun k E Q rest h q => q _ _ h
theorem aj_lcons {τ1 : Type} {e : τ1 → D} {we : W} {wr : WA} {Ca : (τ1 → S → Res β) → Res β} {Cb : τ1 → S → (List τ1 → S → Res β) → Res β} (ha : EJ μ ρ s we e Ca) (hb : ∀ a s1, AJ μ ρ s1 wr (List.map e) (Cb a s1)) :
    AJ μ ρ s (waCons we wr) (List.map e) fun rest => Ca fun a s1 => Cb a s1 fun b s2 => rest (a :: b) s2 := fun k E Q rest h1 q => ha _ E Q _ h1 fun a s1 h2 => hb a s1 _ E Q _ h2 fun b s2 h3 => q (a :: b) _ h3
theorem ej_tup {τ : Type} {ea : τ → List D} {e : τ → D} {wa : WA} {C : (τ → S → Res β) → Res β} (h : AJ μ ρ s wa ea C) (hl : ∀ a, (ea a).length ≤ 16777216) (he : ∀ a, e a = .tup (ea a)) : EJ μ ρ s (wTup wa) e C := fun k E Q rest h1 q =>
  h _ E Q _ h1 fun a s1 h2 => sz (hl a) (by have z := q a s1 h2; rw [he] at z; exact z)
theorem ej_lst {τ : Type} {ea : τ → List D} {e : τ → D} {wa : WA} {C : (τ → S → Res β) → Res β} (h : AJ μ ρ s wa ea C) (hl : ∀ a, (ea a).length ≤ 16777216) (he : ∀ a, e a = .lst (ea a)) : EJ μ ρ s (wLst false wa) e C := fun k E Q rest h1 q =>
  h _ E Q _ h1 fun a s1 h2 => sz (hl a) (by have z := q a s1 h2; rw [he] at z; exact z)
/-- items of one kind, as many as are written -/
def LJ {S τ β : Type} (μ : S → Mem) (ρ : St') (s : S) (wa : WA) (e : τ → D) (n : Nat) (C : (List τ → S → Res β) → Res β) : Prop :=
  ∀ (k : List D → Mem → Prop) (E : XP) (Q : β → Prop) (rest : List τ → S → Res β), (C rest).wx E Q → (∀ a s', a.length = n → (rest a s').wx E Q → k (a.map e) (μ s')) → wa ρ (μ s) k E
theorem lj_nil {τ : Type} {e : τ → D} : LJ (β := β) μ ρ s waNil e 0 fun rest => rest [] s := fun k E Q rest h q => q _ _ rfl h
theorem lj_cons {τ : Type} {e : τ → D} {n : Nat} {we : W} {wr : WA} {Ca : (τ → S → Res β) → Res β} {Cb : τ → S → (List τ → S → Res β) → Res β} (ha : EJ μ ρ s we e Ca) (hb : ∀ a s1, LJ μ ρ s1 wr e n (Cb a s1)) :
    LJ μ ρ s (waCons we wr) e (n + 1) fun rest => Ca fun a s1 => Cb a s1 fun b s2 => rest (a :: b) s2 := fun k E Q rest h1 q => ha _ E Q _ h1 fun a s1 h2 => hb a s1 _ E Q _ h2 fun b s2 hl h3 => q (a :: b) _ (by rw [List.length_cons, hl]) h3
theorem ej_lstL {τ : Type} {e : τ → D} {wa : WA} {n : Nat} {C : (List τ → S → Res β) → Res β} (h : LJ μ ρ s wa e n C) (hn : n ≤ 16777216) : EJ μ ρ s (wLst false wa) (eL e) C := fun k E Q rest h1 q =>
  h _ E Q _ h1 fun a s1 hl h2 => sz (by rw [List.length_map]; omega) (q a s1 h2)
theorem ej_tupL {τ : Type} {e : τ → D} {wa : WA} {n : Nat} {C : (List τ → S → Res β) → Res β} (h : LJ μ ρ s wa e n C) (hn : n ≤ 16777216) : EJ μ ρ s (wTup wa) (eT e) C := fun k E Q rest h1 q =>
  h _ E Q _ h1 fun a s1 hl h2 => sz (by rw [List.length_map]; omega) (q a s1 h2)
/-! ### tests -/
theorem tj_test {we : W} {C : (Bool → S → Res β) → Res β} (h : EJ μ ρ s we D.bl C) : TJ μ ρ s (wTest we) C := fun k E Q rest h1 q => h _ E Q _ h1 fun a s1 h2 => q a s1 h2
theorem tj_not {wt : WT} {C : (Bool → S → Res β) → Res β} (h : TJ μ ρ s wt C) : TJ μ ρ s (wNot wt) fun rest => C fun b s1 => rest (!b) s1 := fun k E Q rest h1 q => h _ E Q _ h1 fun a s1 h2 => q _ s1 h2
/-- the second one says at once -/
theorem tj_andP {wa wb : WT} {Ca : (Bool → S → Res β) → Res β} {y : S → Bool} (ha : TJ μ ρ s wa Ca) (hb : ∀ s1, TJ (β := β) μ ρ s1 wb fun rest => rest (y s1) s1) : TJ μ ρ s (wAnd wa wb) fun rest => Ca fun x s1 => rest (x && y s1) s1 := fun k E Q rest h1 q =>
  ha _ E Q _ h1 fun x s1 h2 => by
    cases x with
    | true => exact br_t (hb s1 _ E Q _ h2 fun b s2 h3 => q b s2 h3)
    | false => exact br_f (q _ _ h2)
theorem tj_orP {wa wb : WT} {Ca : (Bool → S → Res β) → Res β} {y : S → Bool} (ha : TJ μ ρ s wa Ca) (hb : ∀ s1, TJ (β := β) μ ρ s1 wb fun rest => rest (y s1) s1) : TJ μ ρ s (wOr wa wb) fun rest => Ca fun x s1 => rest (x || y s1) s1 := fun k E Q rest h1 q =>
  ha _ E Q _ h1 fun x s1 h2 => by
    cases x with
    | true => exact br_t (q _ _ h2)
    | false => exact br_f (hb s1 _ E Q _ h2 fun b s2 h3 => q b s2 h3)
open Classical in
/-- code that leaves the state as it is, joined -/
theorem keep {E : XP} {τ : Type} {G : (τ → Mem → Prop) → Prop} {s1 : S} {C2 : (τ → S → Res τ) → Res τ} {C' : (τ → Res τ) → Res τ}
    (h : ∀ (k : τ → Mem → Prop) (Q : τ → Prop) (rest : τ → S → Res τ), (C2 rest).wx E Q → (∀ a s', (rest a s').wx E Q → k a (μ s')) → G k)
    (he : ∀ rest, C2 rest = C' fun y => rest y s1) {k : τ → Mem → Prop} {Q : τ → Prop} (h1 : (C' fun y => .ok y).wx E Q) (q : ∀ a, Q a → k a (μ s1)) : G k := by
  refine h k Q (fun y s' => if s' = s1 then .ok y else .no) ?_ fun a s' h2 => ?_
  · rw [he]
    have e : (fun y : τ => if s1 = s1 then Res.ok y else Res.no) = fun y => .ok y := by funext y; rw [if_pos rfl]
    rw [e]; exact h1
  · by_cases c : s' = s1
    · subst c
      have h2 : (if s' = s' then Res.ok a else Res.no).wx E Q := h2
      rw [if_pos rfl] at h2
      exact q a h2
    · have h2 : (if s' = s1 then Res.ok a else Res.no).wx E Q := h2
      rw [if_neg c] at h2; cases h2
/-- the second one may fail -/
theorem tj_andS {wa wb : WT} {Ca : (Bool → S → Res β) → Res β} {Cb : S → (Bool → S → Res Bool) → Res Bool} (Cb' : S → (Bool → Res Bool) → Res Bool) (ha : TJ μ ρ s wa Ca) (hb : ∀ s1, TJ μ ρ s1 wb (Cb s1)) (he : ∀ s1 rest, Cb s1 rest = Cb' s1 fun y => rest y s1) :
    TJ μ ρ s (wAnd wa wb) fun rest => Ca fun x s1 => Res.bind (if x then Cb' s1 fun y => .ok y else .ok false) fun y => rest y s1 := fun k E Q rest h1 q =>
  ha _ E Q _ h1 fun x s1 h2 => by
    rw [wx_bind] at h2
    cases x with
    | true => exact br_t (keep (G := fun k => wb ρ (μ s1) k E) (fun k Q rest => hb s1 k E Q rest) (he s1) h2 fun a h3 => q a s1 h3)
    | false => exact br_f (q _ _ h2)
theorem tj_orS {wa wb : WT} {Ca : (Bool → S → Res β) → Res β} {Cb : S → (Bool → S → Res Bool) → Res Bool} (Cb' : S → (Bool → Res Bool) → Res Bool) (ha : TJ μ ρ s wa Ca) (hb : ∀ s1, TJ μ ρ s1 wb (Cb s1)) (he : ∀ s1 rest, Cb s1 rest = Cb' s1 fun y => rest y s1) :
    TJ μ ρ s (wOr wa wb) fun rest => Ca fun x s1 => Res.bind (if x then .ok true else Cb' s1 fun y => .ok y) fun y => rest y s1 := fun k E Q rest h1 q =>
  ha _ E Q _ h1 fun x s1 h2 => by
    rw [wx_bind] at h2
    cases x with
    | true => exact br_t (q _ _ h2)
    | false => exact br_f (keep (G := fun k => wb ρ (μ s1) k E) (fun k Q rest => hb s1 k E Q rest) (he s1) h2 fun a h3 => q a s1 h3)
/-! with a changed state -/
theorem tj_andE {wa wb : WT} {Ca : (Bool → S → Res β) → Res β} {Cb : S → (Bool → S → Res (Bool × S)) → Res (Bool × S)} (ha : TJ μ ρ s wa Ca) (hb : ∀ s1, TJ μ ρ s1 wb (Cb s1)) :
    TJ μ ρ s (wAnd wa wb) fun rest => Ca fun x s1 => Res.bind (if x then Cb s1 fun y s2 => .ok (y, s2) else .ok (false, s1)) fun p => rest p.1 p.2 := fun k E Q rest h1 q =>
  ha _ E Q _ h1 fun x s1 h2 => by
    rw [wx_bind] at h2
    cases x with
    | true => exact br_t (hb s1 k E _ _ h2 fun a s' h3 => q a s' h3)
    | false => exact br_f (q _ _ h2)
theorem tj_orE {wa wb : WT} {Ca : (Bool → S → Res β) → Res β} {Cb : S → (Bool → S → Res (Bool × S)) → Res (Bool × S)} (ha : TJ μ ρ s wa Ca) (hb : ∀ s1, TJ μ ρ s1 wb (Cb s1)) :
    TJ μ ρ s (wOr wa wb) fun rest => Ca fun x s1 => Res.bind (if x then .ok (true, s1) else Cb s1 fun y s2 => .ok (y, s2)) fun p => rest p.1 p.2 := fun k E Q rest h1 q =>
  ha _ E Q _ h1 fun x s1 h2 => by
    rw [wx_bind] at h2
    cases x with
    | true => exact br_t (q _ _ h2)
    | false => exact br_f (hb s1 k E _ _ h2 fun a s' h3 => q a s' h3)
/-! a if t else b -/
theorem ej_ifP {τ : Type} {e : τ → D} {wt : WT} {wa wb : W} {Ct : (Bool → S → Res β) → Res β} {x y : S → τ} (ht : TJ μ ρ s wt Ct) (ha : ∀ s1, EJ (β := β) μ ρ s1 wa e fun rest => rest (x s1) s1) (hb : ∀ s1, EJ (β := β) μ ρ s1 wb e fun rest => rest (y s1) s1) :
    EJ μ ρ s (wIf wt wa wb) e fun rest => Ct fun b s1 => rest (if b then x s1 else y s1) s1 := fun k E Q rest h1 q =>
  ht _ E Q _ h1 fun b s1 h2 => by
    cases b with
    | true => exact br_t (ha s1 _ E Q _ h2 q)
    | false => exact br_f (hb s1 _ E Q _ h2 q)
theorem ej_ifS {τ : Type} {e : τ → D} {wt : WT} {wa wb : W} {Ct : (Bool → S → Res β) → Res β} {Ca Cb : S → (τ → S → Res τ) → Res τ} (Ca' Cb' : S → (τ → Res τ) → Res τ) (ht : TJ μ ρ s wt Ct) (ha : ∀ s1, EJ μ ρ s1 wa e (Ca s1)) (hb : ∀ s1, EJ μ ρ s1 wb e (Cb s1)) (hea : ∀ s1 rest, Ca s1 rest = Ca' s1 fun y => rest y s1) (heb : ∀ s1 rest, Cb s1 rest = Cb' s1 fun y => rest y s1) :
    EJ μ ρ s (wIf wt wa wb) e fun rest => Ct fun b s1 => Res.bind (if b then Ca' s1 fun y => .ok y else Cb' s1 fun y => .ok y) fun y => rest y s1 := fun k E Q rest h1 q =>
  ht _ E Q _ h1 fun b s1 h2 => by
    rw [wx_bind] at h2
    cases b with
    | true => exact br_t (keep (G := fun k' => (∀ d M, k' d M → k (e d) M) → wa ρ (μ s1) k E) (k := fun a M => k (e a) M) (fun k' Q rest g g' hk => ha s1 k E Q rest g fun a s' z => hk _ _ (g' a s' z)) (hea s1) h2 (fun a h3 => q a s1 h3) fun _ _ z => z)
    | false => exact br_f (keep (G := fun k' => (∀ d M, k' d M → k (e d) M) → wb ρ (μ s1) k E) (k := fun a M => k (e a) M) (fun k' Q rest g g' hk => hb s1 k E Q rest g fun a s' z => hk _ _ (g' a s' z)) (heb s1) h2 (fun a h3 => q a s1 h3) fun _ _ z => z)
theorem ej_ifE {τ : Type} {e : τ → D} {wt : WT} {wa wb : W} {Ct : (Bool → S → Res β) → Res β} {Ca Cb : S → (τ → S → Res (τ × S)) → Res (τ × S)} (ht : TJ μ ρ s wt Ct) (ha : ∀ s1, EJ μ ρ s1 wa e (Ca s1)) (hb : ∀ s1, EJ μ ρ s1 wb e (Cb s1)) :
    EJ μ ρ s (wIf wt wa wb) e fun rest => Ct fun b s1 => Res.bind (if b then Ca s1 fun y s2 => .ok (y, s2) else Cb s1 fun y s2 => .ok (y, s2)) fun p => rest p.1 p.2 := fun k E Q rest h1 q =>
  ht _ E Q _ h1 fun b s1 h2 => by
    rw [wx_bind] at h2
    cases b with
    | true => exact br_t (ha s1 k E _ _ h2 fun a s' h3 => q a s' h3)
    | false => exact br_f (hb s1 k E _ _ h2 fun a s' h3 => q a s' h3)
end
end Ty

set_option Elab.async false
set_option linter.all false
set_option maxRecDepth 100000
set_option maxHeartbeats 4000000
/-! Operators and built-ins over typed values. -/
namespace Ty
open PySem PySem.Spec PyProof.Rows L2 Rl RZ RT Px
/-! ### what may fail, as code -/
def mulR (a b : Int) : Res Int := if (a.natAbs < 2 ^ 64 ∨ b.natAbs < 2 ^ 64) ∨ a.natAbs.log2 + b.natAbs.log2 + 2 ≤ 1000000 then .ok (a * b) else .no
def fdR (a b : Int) : Res Int := if 0 < b ∧ b.natAbs.log2 < 9000 then .ok (a / b) else .no
def mdR (a b : Int) : Res Int := if 0 < b then .ok (a % b) else .no
def pwR (a b : Int) : Res Int := if 0 ≤ b ∧ b ≤ 1000000 ∧ a.natAbs < 2 ^ 64 then .ok (a ^ b.toNat) else .no
def addS (a b : Str) : Res Str := if a.length + b.length ≤ 16777216 then .ok (a ++ b) else .no
def addL {τ : Type} (a b : List τ) : Res (List τ) := if a.length + b.length ≤ 16777216 then .ok (a ++ b) else .no
def repL {τ : Type} (a : List τ) (j : Int) : Res (List τ) := if (-(2 ^ 63) ≤ j ∧ j < 2 ^ 63) ∧ a.length * j.toNat ≤ 16777216 then .ok (List.replicate j.toNat a).flatten else .no
def ixR {τ : Type} (l : List τ) (i : Int) : Res τ := match atI l i with
  | some a => .ok a
  | none => .no
def appR {τ : Type} (l : List τ) (a : τ) : Res (List τ) := if l.length + 1 ≤ 16777216 then .ok (l ++ [a]) else .no
def setR {τ : Type} (l : List τ) (i : Int) (a : τ) : Res (List τ) := match ixN l.length i with
  | some n => .ok (l.set n a)
  | none => .no
def maxL : List Int → Int
  | [] => 0
  | [x] => x
  | x :: xs => max x (maxL xs)
def minL : List Int → Int
  | [] => 0
  | [x] => x
  | x :: xs => min x (minL xs)
def maxR (l : List Int) : Res Int := if l = [] then .no else .ok (maxL l)
def minR (l : List Int) : Res Int := if l = [] then .no else .ok (minL l)
def sortL (l : List Int) : List Int := l.mergeSort fun a b => decide (a ≤ b)
def sortR (l : List Int) : Res (List Int) := if l.length < 64 then .ok (sortL l) else .no
def strR (i : Int) : Res Str := if i.natAbs < 10 ^ 100 then .ok (toString i) else .no
def joinR (a : Str) (l : List Str) : Res Str := if (l.map (·.length)).sum + l.length * a.length ≤ 16777216 then .ok (Txt.join a l) else .no
def rngR (a b : Int) : Res (List Int) := if (-(2 ^ 62) ≤ a ∧ a < 2 ^ 62) ∧ (-(2 ^ 62) ≤ b ∧ b < 2 ^ 62) then .ok (irng a (b - a).toNat) else .no
theorem mem_maxL : ∀ {l : List Int}, l ≠ [] → maxL l ∈ l
  | [], h => absurd rfl h
  | [x], _ => by simp [maxL]
  | x :: y :: l, _ => by
    have ih := mem_maxL (l := y :: l) (by simp)
    show max x (maxL (y :: l)) ∈ _
    by_cases c : x ≤ maxL (y :: l)
    · rw [Int.max_eq_right c]; exact List.mem_cons_of_mem _ ih
    · rw [Int.max_eq_left (by omega)]; simp
theorem le_maxL : ∀ {l : List Int} {y : Int}, y ∈ l → y ≤ maxL l
  | [], _, h => by cases h
  | [x], y, h => by simp at h; subst h; exact Int.le_refl _
  | x :: z :: l, y, h => by
    show y ≤ max x (maxL (z :: l))
    rcases List.mem_cons.mp h with e | e
    · subst e; exact Int.le_max_left ..
    · exact Int.le_trans (le_maxL e) (Int.le_max_right ..)
theorem mem_minL : ∀ {l : List Int}, l ≠ [] → minL l ∈ l
  | [], h => absurd rfl h
  | [x], _ => by simp [minL]
  | x :: y :: l, _ => by
    have ih := mem_minL (l := y :: l) (by simp)
    show min x (minL (y :: l)) ∈ _
    by_cases c : x ≤ minL (y :: l)
    · rw [Int.min_eq_left c]; simp
    · rw [Int.min_eq_right (by omega)]; exact List.mem_cons_of_mem _ ih
theorem minL_le : ∀ {l : List Int} {y : Int}, y ∈ l → minL l ≤ y
  | [], _, h => by cases h
  | [x], y, h => by simp at h; subst h; exact Int.le_refl _
  | x :: z :: l, y, h => by
    show min x (minL (z :: l)) ≤ y
    rcases List.mem_cons.mp h with e | e
    · subst e; exact Int.min_le_left ..
    · exact Int.le_trans (Int.min_le_right ..) (minL_le e)
theorem is_maxL {l : List Int} {k : Int → Prop} (h : l ≠ []) (hk : k (maxL l)) : isMax l k := max_of (by cases l <;> simp_all) fun m hm hy => by
  have e : m = maxL l := Int.le_antisymm (le_maxL hm) (hy _ (mem_maxL h))
  rw [e]; exact hk
theorem is_minL {l : List Int} {k : Int → Prop} (h : l ≠ []) (hk : k (minL l)) : isMin l k := min_of (by cases l <;> simp_all) fun m hm hy => by
  have e : m = minL l := Int.le_antisymm (hy _ (mem_minL h)) (minL_le hm)
  rw [e]; exact hk
theorem sortL_perm (l : List Int) : (sortL l).Perm l := List.mergeSort_perm _ _
theorem sortL_sorted (l : List Int) : (sortL l).Pairwise (· ≤ ·) := by
  have h := List.pairwise_mergeSort (le := fun a b : Int => decide (a ≤ b)) (fun a b c h1 h2 => by simp at *; omega) (fun a b => by simp; omega) l
  exact h.imp fun hab => by simpa using hab
theorem perm_sorted_eq : ∀ {l m : List Int}, l.Perm m → l.Pairwise (· ≤ ·) → m.Pairwise (· ≤ ·) → l = m := fun p h1 h2 => p.eq_of_pairwise (fun a b _ _ h3 h4 => Int.le_antisymm h3 h4) h1 h2
theorem is_sortL {l : List Int} {k : List Int → Prop} (h : l.length < 64) (hk : k (sortL l)) : sortI l k := sort_of h fun l' p s => by
  rw [perm_sorted_eq (p.trans (sortL_perm l).symm) s (sortL_sorted l)]; exact hk
theorem atI_map' {α γ : Type} (e : α → γ) (l : List α) (i : Int) : atI (l.map e) i = (atI l i).map e := by
  unfold atI
  rw [List.length_map]
  cases ixN l.length i <;> simp
section
variable {β : Type}
theorem ite_wp {τ : Type} {c : Prop} [Decidable c] {a : τ} {f : τ → Res β} {Q : β → Prop} (h : (Res.bind (if c then Res.ok a else .no) f).wx E Q) : c ∧ (f a).wx E Q := by
  by_cases q : c
  · rw [if_pos q] at h; exact ⟨q, h⟩
  · rw [if_neg q] at h; cases h
/-! ### numbers -/
theorem o_add {m : Bool} : O2 β (dAdd m) D.int D.int D.int fun a b rest => rest (a + b) := fun a b M k E Q rest h q => q _ h
theorem o_sub : O2 β dSub D.int D.int D.int fun a b rest => rest (a - b) := fun a b M k E Q rest h q => q _ h
theorem o_mul {m : Bool} : O2 β (dMulT m) D.int D.int D.int fun a b rest => (mulR a b).bind rest := fun a b M k E Q rest h q => by
  obtain ⟨h1, h2⟩ := ite_wp h
  rcases h1 with (h1 | h1) | h1
  · exact mul_l (by omega) (q _ h2)
  · exact mul_r (by omega) (q _ h2)
  exact mul_w (n := a.natAbs.log2 + 1) (m := b.natAbs.log2 + 1) Nat.lt_log2_self Nat.lt_log2_self (by omega) (by omega) (by omega) (q _ h2)
theorem o_fd : O2 β dFd D.int D.int D.int fun a b rest => (fdR a b).bind rest := fun a b M k E Q rest h q => by
  obtain ⟨h1, h2⟩ := ite_wp h
  show fdD a b _
  unfold fdD
  exact .inl ⟨h1.1, h1.2, q _ h2⟩
theorem o_md : O2 β dMd D.int D.int D.int fun a b rest => (mdR a b).bind rest := fun a b M k E Q rest h q => by
  obtain ⟨h1, h2⟩ := ite_wp h
  exact md_pos h1 (q _ h2)
theorem o_pw : O2 β dPw D.int D.int D.int fun a b rest => (pwR a b).bind rest := fun a b M k E Q rest h q => by
  obtain ⟨h1, h2⟩ := ite_wp h
  exact pw_of ⟨h1.1, h1.2.1⟩ h1.2.2 (q _ h2)
theorem o_neg : O1 β dNeg D.int D.int fun a rest => rest (-a) := fun a M k E Q rest h q => q _ h
theorem o_abs : O1 β dAbs D.int D.int fun a rest => rest (a.natAbs : Int) := fun a M k E Q rest h q => q _ h
theorem o_lt : O2 β dLt D.int D.int D.bl fun a b rest => rest (decide (a < b)) := fun a b M k E Q rest h q => q _ h
theorem o_le : O2 β dLe D.int D.int D.bl fun a b rest => rest (decide (a ≤ b)) := fun a b M k E Q rest h q => q _ h
theorem o_gt : O2 β dGt D.int D.int D.bl fun a b rest => rest (decide (a > b)) := fun a b M k E Q rest h q => q _ h
theorem o_ge : O2 β dGe D.int D.int D.bl fun a b rest => rest (decide (a ≥ b)) := fun a b M k E Q rest h q => q _ h
theorem o_int : O1 β dInt D.int D.int fun a rest => rest a := fun a M k E Q rest h q => q _ h
theorem o_intB : O1 β dInt D.bl D.int fun a rest => rest (if a then 1 else 0) := fun a M k E Q rest h q => q _ h
theorem o_bool : O1 β dBool D.int D.bl fun a rest => rest (a != 0) := fun a M k E Q rest h q => q _ h
theorem o_boolB : O1 β dBool D.bl D.bl fun a rest => rest a := fun a M k E Q rest h q => q _ h
theorem o_str : O1 β dStr D.int D.str fun a rest => (strR a).bind rest := fun a M k E Q rest h q => by
  obtain ⟨h1, h2⟩ := ite_wp h
  exact str_of h1 (q _ h2)
theorem o_max2 : OB β dMaxT (fun p : Int × Int => [.int p.1, .int p.2]) D.int fun p rest => rest (max p.1 p.2) := fun a M k E Q rest h q => q _ h
theorem o_min2 : OB β dMinT (fun p : Int × Int => [.int p.1, .int p.2]) D.int fun p rest => rest (min p.1 p.2) := fun a M k E Q rest h q => q _ h
theorem o_maxL : OB β dMaxT (fun l : List Int => [eL D.int l]) D.int fun l rest => (maxR l).bind rest := fun a M k E Q rest h q => by
  have h : (Res.bind (if a = [] then Res.no else .ok (maxL a)) rest).wx E Q := h
  by_cases c : a = []
  · rw [if_pos c] at h; cases h
  · rw [if_neg c] at h; exact ints_of (is_maxL c (q _ h))
theorem o_minL : OB β dMinT (fun l : List Int => [eL D.int l]) D.int fun l rest => (minR l).bind rest := fun a M k E Q rest h q => by
  have h : (Res.bind (if a = [] then Res.no else .ok (minL a)) rest).wx E Q := h
  by_cases c : a = []
  · rw [if_pos c] at h; cases h
  · rw [if_neg c] at h; exact ints_of (is_minL c (q _ h))
theorem o_maxT : OB β dMaxT (fun l : List Int => [eT D.int l]) D.int fun l rest => (maxR l).bind rest := fun a M k E Q rest h q => by
  have h : (Res.bind (if a = [] then Res.no else .ok (maxL a)) rest).wx E Q := h
  by_cases c : a = []
  · rw [if_pos c] at h; cases h
  · rw [if_neg c] at h; exact ints_of (is_maxL c (q _ h))
theorem o_minT : OB β dMinT (fun l : List Int => [eT D.int l]) D.int fun l rest => (minR l).bind rest := fun a M k E Q rest h q => by
  have h : (Res.bind (if a = [] then Res.no else .ok (minL a)) rest).wx E Q := h
  by_cases c : a = []
  · rw [if_pos c] at h; cases h
  · rw [if_neg c] at h; exact ints_of (is_minL c (q _ h))
/-! ### truth -/
def O1T (β : Type) {τ1 : Type} (e1 : τ1 → D) (f : τ1 → Bool) : Prop := ∀ a M (k : Bool → Prop), k (f a) → trD (e1 a) M k
theorem t_bl : O1T β D.bl fun a => a := fun a M k h => h
theorem t_int : O1T β D.int fun a => a != 0 := fun a M k h => h
theorem t_L {τ : Type} {e : τ → D} : O1T β (eL e) fun a => !a.isEmpty := fun a M k h => by cases a <;> exact h
theorem t_T {τ : Type} {e : τ → D} : O1T β (eT e) fun a => !a.isEmpty := fun a M k h => by cases a <;> exact h
theorem tj_tru {S : Type} {μ : S → Mem} {ρ : St'} {s : S} {τ : Type} {e : τ → D} {f : τ → Bool} {we : W} {C : (τ → S → Res β) → Res β} (ht : O1T β e f) (h : EJ μ ρ s we e C) : TJ μ ρ s (wTru we) fun rest => C fun a s1 => rest (f a) s1 := fun k E Q rest h1 q =>
  h _ E Q _ h1 fun a s1 h2 => ht a _ _ (q _ s1 h2)
theorem ej_notT {S : Type} {μ : S → Mem} {ρ : St'} {s : S} {τ : Type} {e : τ → D} {f : τ → Bool} {we : W} {C : (τ → S → Res β) → Res β} (ht : O1T β e f) (h : EJ μ ρ s we e C) : EJ μ ρ s (wNotT we) D.bl fun rest => C fun a s1 => rest (!f a) s1 := fun k E Q rest h1 q =>
  h _ E Q _ h1 fun a s1 h2 => ht a _ _ (q _ s1 h2)
section
variable {S : Type} {μ : S → Mem} {ρ : St'} {s : S}
/-- and, or of truths -/
theorem ej_andP {wa wb : W} {Ca : (Bool → S → Res β) → Res β} {y : S → Bool} (ha : EJ μ ρ s wa D.bl Ca) (hb : ∀ s1, EJ (β := β) μ ρ s1 wb D.bl fun rest => rest (y s1) s1) : EJ μ ρ s (wAndT wa wb) D.bl fun rest => Ca fun x s1 => rest (x && y s1) s1 := fun k E Q rest h1 q =>
  ha _ E Q _ h1 fun x s1 h2 => by
    cases x with
    | true => exact br_t (hb s1 _ E Q _ h2 fun b s2 h3 => q b s2 h3)
    | false => exact br_f (q _ _ h2)
theorem ej_orP {wa wb : W} {Ca : (Bool → S → Res β) → Res β} {y : S → Bool} (ha : EJ μ ρ s wa D.bl Ca) (hb : ∀ s1, EJ (β := β) μ ρ s1 wb D.bl fun rest => rest (y s1) s1) : EJ μ ρ s (wOrT wa wb) D.bl fun rest => Ca fun x s1 => rest (x || y s1) s1 := fun k E Q rest h1 q =>
  ha _ E Q _ h1 fun x s1 h2 => by
    cases x with
    | true => exact br_t (q _ _ h2)
    | false => exact br_f (hb s1 _ E Q _ h2 fun b s2 h3 => q b s2 h3)
theorem ej_andS {wa wb : W} {Ca : (Bool → S → Res β) → Res β} {Cb : S → (Bool → S → Res Bool) → Res Bool} (Cb' : S → (Bool → Res Bool) → Res Bool) (ha : EJ μ ρ s wa D.bl Ca) (hb : ∀ s1, EJ μ ρ s1 wb D.bl (Cb s1)) (he : ∀ s1 rest, Cb s1 rest = Cb' s1 fun y => rest y s1) :
    EJ μ ρ s (wAndT wa wb) D.bl fun rest => Ca fun x s1 => Res.bind (if x then Cb' s1 fun y => .ok y else .ok false) fun y => rest y s1 := fun k E Q rest h1 q =>
  ha _ E Q _ h1 fun x s1 h2 => by
    rw [wx_bind] at h2
    cases x with
    | true => exact br_t (keep (G := fun k' => (∀ d M, k' d M → k (.bl d) M) → wb ρ (μ s1) k E) (k := fun a M => k (.bl a) M) (fun k' Q rest g g' hk => hb s1 k E Q rest g fun a s' z => hk _ _ (g' a s' z)) (he s1) h2 (fun a h3 => q a s1 h3) fun _ _ z => z)
    | false => exact br_f (q _ _ h2)
theorem ej_orS {wa wb : W} {Ca : (Bool → S → Res β) → Res β} {Cb : S → (Bool → S → Res Bool) → Res Bool} (Cb' : S → (Bool → Res Bool) → Res Bool) (ha : EJ μ ρ s wa D.bl Ca) (hb : ∀ s1, EJ μ ρ s1 wb D.bl (Cb s1)) (he : ∀ s1 rest, Cb s1 rest = Cb' s1 fun y => rest y s1) :
    EJ μ ρ s (wOrT wa wb) D.bl fun rest => Ca fun x s1 => Res.bind (if x then .ok true else Cb' s1 fun y => .ok y) fun y => rest y s1 := fun k E Q rest h1 q =>
  ha _ E Q _ h1 fun x s1 h2 => by
    rw [wx_bind] at h2
    cases x with
    | true => exact br_t (q _ _ h2)
    | false => exact br_f (keep (G := fun k' => (∀ d M, k' d M → k (.bl d) M) → wb ρ (μ s1) k E) (k := fun a M => k (.bl a) M) (fun k' Q rest g g' hk => hb s1 k E Q rest g fun a s' z => hk _ _ (g' a s' z)) (he s1) h2 (fun a h3 => q a s1 h3) fun _ _ z => z)
end
/-! ### == -/
def PEq {τ : Type} [DecidableEq τ] (e : τ → D) : Prop := ∀ x y M (k : Bool → Prop), k (decide (x = y)) → eqD (e x) (e y) M k
structure PDat {τ : Type} (e : τ → D) (n : Nat) (p : τ → PyData) : Prop where
  pk : ∀ x, Pk n (e x) (p x)
  eqv : ∀ x y, PyData.eqv (p x) (p y) = true ↔ x = y
theorem pd_int : PDat D.int 0 .int := ⟨fun _ => pk_int, fun x y => by simp [PyData.eqv]⟩
theorem pd_bl : PDat D.bl 0 .bool := ⟨fun _ => pk_bl, fun x y => by simp [PyData.eqv]⟩
theorem pd_non : PDat eN 0 fun _ => .none := ⟨fun _ => pk_non, fun x y => by simp [PyData.eqv]⟩
theorem pka_map {τ : Type} {e : τ → D} {n : Nat} {p : τ → PyData} (h : PDat e n p) : ∀ l : List τ, PkAll n (l.map e) (l.map p)
  | [] => pka_nil
  | x :: l => pka_cons (h.pk x) (pka_map h l)
theorem eqv_map {τ : Type} {e : τ → D} {n : Nat} {p : τ → PyData} (h : PDat e n p) : ∀ l m : List τ, PyData.eqvAll (l.map p) (m.map p) = true ↔ l = m
  | [], [] => by simp [PyData.eqvAll]
  | [], _ :: _ => by simp [PyData.eqvAll]
  | _ :: _, [] => by simp [PyData.eqvAll]
  | i :: l, j :: m => by
    simp only [List.map_cons, PyData.eqvAll, Bool.and_eq_true, h.eqv, eqv_map h l m, List.cons.injEq]
theorem pd_L {τ : Type} {e : τ → D} {n : Nat} {p : τ → PyData} (h : PDat e n p) : PDat (eL e) (n + 1) fun l => .list (l.map p) := ⟨fun l => pk_lst (pka_map h l), fun l m => by simp only [PyData.eqv, eqv_map h]⟩
theorem pd_T {τ : Type} {e : τ → D} {n : Nat} {p : τ → PyData} (h : PDat e n p) : PDat (eT e) (n + 1) fun l => .tuple (l.map p) := ⟨fun l => pk_tup (pka_map h l), fun l m => by simp only [PyData.eqv, eqv_map h]⟩
theorem pk_mono {n m : Nat} {x : D} {p : PyData} (h : Pk n x p) (hm : n ≤ m) : Pk m x p := ⟨h.py, h.ok, Nat.le_trans h.dp hm⟩
theorem pd_T2 {τ1 τ2 : Type} {e1 : τ1 → D} {e2 : τ2 → D} {n1 n2 : Nat} {p1 : τ1 → PyData} {p2 : τ2 → PyData} (h1 : PDat e1 n1 p1) (h2 : PDat e2 n2 p2) : PDat (eT2 e1 e2) (n1 + n2 + 1) fun q => .tuple [p1 q.1, p2 q.2] :=
  ⟨fun q => pk_tup (pka_cons (pk_mono (h1.pk q.1) (by omega)) (pka_cons (pk_mono (h2.pk q.2) (by omega)) pka_nil)), fun q r => by
    simp only [PyData.eqv, PyData.eqvAll, Bool.and_eq_true, Bool.and_true, h1.eqv, h2.eqv, Prod.ext_iff]⟩
theorem pd_T3 {τ1 τ2 τ3 : Type} {e1 : τ1 → D} {e2 : τ2 → D} {e3 : τ3 → D} {n1 n2 n3 : Nat} {p1 : τ1 → PyData} {p2 : τ2 → PyData} {p3 : τ3 → PyData} (h1 : PDat e1 n1 p1) (h2 : PDat e2 n2 p2) (h3 : PDat e3 n3 p3) : PDat (eT3 e1 e2 e3) (n1 + n2 + n3 + 1) fun q => .tuple [p1 q.1, p2 q.2.1, p3 q.2.2] :=
  ⟨fun q => pk_tup (pka_cons (pk_mono (h1.pk q.1) (by omega)) (pka_cons (pk_mono (h2.pk q.2.1) (by omega)) (pka_cons (pk_mono (h3.pk q.2.2) (by omega)) pka_nil))), fun q r => by
    simp only [PyData.eqv, PyData.eqvAll, Bool.and_eq_true, Bool.and_true, h1.eqv, h2.eqv, h3.eqv, Prod.ext_iff]⟩
theorem pd_emb {τ : Type} {e : τ → D} {n : Nat} {p : τ → PyData} (h : PDat e n p) {τ' : Type} {e' : τ' → D} (f : τ' → τ) (he : ∀ x, e' x = e (f x)) (hi : ∀ x y, f x = f y → x = y) : PDat e' n fun x => p (f x) := ⟨fun x => by rw [he]; exact h.pk _, fun x y => by rw [h.eqv]; exact ⟨hi x y, fun e => by rw [e]⟩⟩
theorem peq_int : PEq D.int := fun x y M k h => h
theorem peq_str : PEq D.str := fun x y M k h => h
theorem peq_of {τ : Type} [DecidableEq τ] {e : τ → D} {n : Nat} {p : τ → PyData} (h : PDat e n p) (hn : n ≤ 64) (he : ∀ x y M k, eqG (e x) (e y) M k → eqD (e x) (e y) M k) : PEq e := fun x y M k hk => he _ _ _ _ (eq_of (h.pk x) (h.pk y) hn hn (by
  have e : PyData.eqv (p x) (p y) = decide (x = y) := by
    rw [Bool.eq_iff_iff, h.eqv]; simp
  rw [e]; exact hk))
theorem o_eq {τ : Type} [DecidableEq τ] {e : τ → D} (h : PEq e) : O2 β dEq e e D.bl fun a b rest => rest (decide (a = b)) := fun a b M k E Q rest h1 q => h a b M _ (q _ h1)
theorem o_ne {τ : Type} [DecidableEq τ] {e : τ → D} (h : PEq e) : O2 β dNe e e D.bl fun a b rest => rest (!decide (a = b)) := fun a b M k E Q rest h1 q => h a b M _ (q _ h1)
/-- unlike kinds of data -/
theorem o_eqF {τ1 τ2 : Type} {e1 : τ1 → D} {e2 : τ2 → D} (h : ∀ a b M k, k false → eqD (e1 a) (e2 b) M k) : O2 β dEq e1 e2 D.bl fun a b rest => rest false := fun a b M k E Q rest h1 q => h a b M _ (q _ h1)
theorem o_neF {τ1 τ2 : Type} {e1 : τ1 → D} {e2 : τ2 → D} (h : ∀ a b M k, k false → eqD (e1 a) (e2 b) M k) : O2 β dNe e1 e2 D.bl fun a b rest => rest true := fun a b M k E Q rest h1 q => h a b M _ (q _ h1)
/-! ### None -/
theorem o_isF {τ : Type} {e : τ → D} (h : ∀ a, Px.isNon (e a) = false) : O2 β dIs e eN D.bl fun a _ rest => rest false := fun a b M k E Q rest h1 q => by
  have z := q _ h1
  show k (.bl (Px.isNon (e a))) M
  rw [h]; exact z
theorem o_isnF {τ : Type} {e : τ → D} (h : ∀ a, Px.isNon (e a) = false) : O2 β dIsn e eN D.bl fun a _ rest => rest true := fun a b M k E Q rest h1 q => by
  have z := q _ h1
  show k (.bl (!Px.isNon (e a))) M
  rw [h]; exact z
theorem o_isO {τ : Type} {e : τ → D} (h : ∀ a, Px.isNon (e a) = false) : O2 β dIs (eO e) eN D.bl fun a _ rest => rest a.isNone := fun a b M k E Q rest h1 q => by
  have z := q _ h1
  cases a with
  | none => exact z
  | some x =>
    show k (.bl (Px.isNon (e x))) M
    rw [h]; exact z
theorem o_isnO {τ : Type} {e : τ → D} (h : ∀ a, Px.isNon (e a) = false) : O2 β dIsn (eO e) eN D.bl fun a _ rest => rest a.isSome := fun a b M k E Q rest h1 q => by
  have z := q _ h1
  cases a with
  | none => exact z
  | some x =>
    show k (.bl (!Px.isNon (e x))) M
    rw [h]; exact z
theorem o_isN : O2 β dIs eN eN D.bl fun a _ rest => rest true := fun a b M k E Q rest h1 q => q _ h1
theorem o_isnN : O2 β dIsn eN eN D.bl fun a _ rest => rest false := fun a b M k E Q rest h1 q => q _ h1
/-! ### lists and tuples -/
theorem o_len {τ : Type} {e : τ → D} : O1 β dLen (eL e) D.int fun l rest => rest (l.length : Int) := fun a M k E Q rest h q => by
  have z := q _ h
  show k (.int ((a.map e).length : Nat)) M
  rw [List.length_map]; exact z
theorem o_lenT {τ : Type} {e : τ → D} : O1 β dLen (eT e) D.int fun l rest => rest (l.length : Int) := fun a M k E Q rest h q => by
  have z := q _ h
  show k (.int ((a.map e).length : Nat)) M
  rw [List.length_map]; exact z
theorem o_lenF {τ : Type} {e : τ → D} (n : Int) (h : ∀ a M k, k (.int n) M → dLen (e a) M k) : O1 β dLen e D.int fun l rest => rest n := fun a M k E Q rest h1 q => h _ _ _ (q _ h1)
theorem ixR_wp {τ : Type} {l : List τ} {i : Int} {f : τ → Res β} {Q : β → Prop} (h : ((ixR l i).bind f).wx E Q) : ∃ a, atI l i = some a ∧ (f a).wx E Q := by
  unfold ixR at h
  split at h
  · exact ⟨_, by assumption, h⟩
  · cases h
theorem o_ix {τ : Type} {e : τ → D} : O2 β dIx (eL e) D.int e fun l i rest => (ixR l i).bind rest := fun a b M k E Q rest h q => by
  obtain ⟨x, h1, h2⟩ := ixR_wp h
  exact ix_of (by rw [atI_map', h1]; rfl) (q _ h2)
theorem o_ixT {τ : Type} {e : τ → D} : O2 β dIx (eT e) D.int e fun l i rest => (ixR l i).bind rest := fun a b M k E Q rest h q => by
  obtain ⟨x, h1, h2⟩ := ixR_wp h
  exact ix_of (by rw [atI_map', h1]; rfl) (q _ h2)
/-- a written place of a tuple whose items are of unlike kinds -/
theorem ej_ixk {S : Type} {μ : S → Mem} {ρ : St'} {s : S} {τ1 τ : Type} {e1 : τ1 → D} {e : τ → D} {i : Int} (f : τ1 → τ) {wa : W} {Ca : (τ1 → S → Res β) → Res β} (hd : ∀ a M k, k (e (f a)) M → dIx (e1 a) (.int i) M k) (ha : EJ μ ρ s wa e1 Ca) :
    EJ μ ρ s (wOp dIx wa (wC (.int i))) e fun rest => Ca fun a s1 => rest (f a) s1 := fun k E Q rest h q =>
  ha _ E Q _ h fun a s1 h1 => hd a _ _ (q _ s1 h1)
theorem o_addL {τ : Type} {e : τ → D} : O2 β (dAdd false) (eL e) (eL e) (eL e) fun a b rest => (addL a b).bind rest := fun a b M k E Q rest h q => by
  obtain ⟨h1, h2⟩ := ite_wp h
  have z := q _ h2
  exact sz (by rw [List.length_map, List.length_map]; exact h1) (by rw [← List.map_append]; exact z)
theorem o_addT {τ : Type} {e : τ → D} {m : Bool} : O2 β (dAdd m) (eT e) (eT e) (eT e) fun a b rest => (addL a b).bind rest := fun a b M k E Q rest h q => by
  obtain ⟨h1, h2⟩ := ite_wp h
  have z := q _ h2
  exact sz (by rw [List.length_map, List.length_map]; exact h1) (by rw [← List.map_append]; exact z)
theorem o_addS {m : Bool} : O2 β (dAdd m) D.str D.str D.str fun a b rest => (addS a b).bind rest := fun a b M k E Q rest h q => by
  obtain ⟨h1, h2⟩ := ite_wp h
  exact sz h1 (q _ h2)
theorem map_rep {τ : Type} {e : τ → D} (a : List τ) (n : Nat) : (List.replicate n (a.map e)).flatten = ((List.replicate n a).flatten).map e := by
  rw [List.map_flatten, List.map_replicate]
theorem o_repL {τ : Type} {e : τ → D} : O2 β (dMulT false) (eL e) D.int (eL e) fun a b rest => (repL a b).bind rest := fun a b M k E Q rest h q => by
  obtain ⟨h1, h2⟩ := ite_wp h
  have z := q _ h2
  exact rep_of h1.1 (by rw [List.length_map]; exact h1.2) (by rw [map_rep]; exact z)
theorem o_inI : O2 β dIn D.int (eL D.int) D.bl fun a l rest => rest (decide (a ∈ l)) := fun a b M k E Q rest h q => ints_of (q _ h)
theorem o_inIT : O2 β dIn D.int (eT D.int) D.bl fun a l rest => rest (decide (a ∈ l)) := fun a b M k E Q rest h q => ints_of (q _ h)
theorem o_ninI : O2 β dNin D.int (eL D.int) D.bl fun a l rest => rest (!decide (a ∈ l)) := fun a b M k E Q rest h q => ints_of (q _ h)
theorem o_ninIT : O2 β dNin D.int (eT D.int) D.bl fun a l rest => rest (!decide (a ∈ l)) := fun a b M k E Q rest h q => ints_of (q _ h)
theorem o_inS : O2 β dIn D.str (eL D.str) D.bl fun a l rest => rest (decide (a ∈ l)) := fun a b M k E Q rest h q => strs_of (q _ h)
theorem o_inST : O2 β dIn D.str (eT D.str) D.bl fun a l rest => rest (decide (a ∈ l)) := fun a b M k E Q rest h q => strs_of (q _ h)
theorem o_ninS : O2 β dNin D.str (eL D.str) D.bl fun a l rest => rest (!decide (a ∈ l)) := fun a b M k E Q rest h q => strs_of (q _ h)
theorem o_ninST : O2 β dNin D.str (eT D.str) D.bl fun a l rest => rest (!decide (a ∈ l)) := fun a b M k E Q rest h q => strs_of (q _ h)
theorem any_eqv {τ : Type} [DecidableEq τ] {e : τ → D} {n : Nat} {p : τ → PyData} (h : PDat e n p) (x : τ) (l : List τ) : ((l.map p).any fun z => PyData.eqv z (p x)) = decide (x ∈ l) := by
  rw [Bool.eq_iff_iff, List.any_map, List.any_eq_true]
  simp only [Function.comp, h.eqv, decide_eq_true_eq]
  exact ⟨fun ⟨y, h1, h2⟩ => h2 ▸ h1, fun h => ⟨x, h, rfl⟩⟩
theorem in_of {τ : Type} [DecidableEq τ] {e : τ → D} {n : Nat} {p : τ → PyData} (h : PDat e n p) (hn : n ≤ 63) (x : τ) (l : List τ) {M : Mem} {k : Bool → Prop} (hr : ∀ x, pyM M (e x) = py (e x)) (hk : k (decide (x ∈ l))) : inG (e x) (eL e l) M k := by
  unfold inG
  refine ⟨p x, l.map p, _, by rw [hr]; exact (h.pk x).py, (pk_lst (pka_map h l)).py, .inl rfl, (h.pk x).sh (by omega), (pk_lst (pka_map h l)).sh (by omega), ?_⟩
  rw [any_eqv h]; exact hk
theorem o_inG {τ : Type} [DecidableEq τ] {e : τ → D} {n : Nat} {p : τ → PyData} (h : PDat e n p) (hn : n ≤ 63) (hr : ∀ M x, pyM M (e x) = py (e x)) (hi : ∀ x y M k, inG (e x) y M k → inD (e x) y M k) : O2 β dIn e (eL e) D.bl fun a l rest => rest (decide (a ∈ l)) := fun a b M k E Q rest h1 q => hi _ _ _ _ (in_of h hn a b (hr M) (q _ h1))
theorem o_ninG {τ : Type} [DecidableEq τ] {e : τ → D} {n : Nat} {p : τ → PyData} (h : PDat e n p) (hn : n ≤ 63) (hr : ∀ M x, pyM M (e x) = py (e x)) (hi : ∀ x y M k, inG (e x) y M k → inD (e x) y M k) : O2 β dNin e (eL e) D.bl fun a l rest => rest (!decide (a ∈ l)) := fun a b M k E Q rest h1 q => hi _ _ _ _ (in_of h hn a b (hr M) (q _ h1))
theorem in_ofT {τ : Type} [DecidableEq τ] {e : τ → D} {n : Nat} {p : τ → PyData} (h : PDat e n p) (hn : n ≤ 63) (x : τ) (l : List τ) {M : Mem} {k : Bool → Prop} (hr : ∀ x, pyM M (e x) = py (e x)) (hk : k (decide (x ∈ l))) : inG (e x) (eT e l) M k := by
  unfold inG
  refine ⟨p x, l.map p, _, by rw [hr]; exact (h.pk x).py, (pk_tup (pka_map h l)).py, .inr rfl, (h.pk x).sh (by omega), (pk_tup (pka_map h l)).sh (by omega), ?_⟩
  rw [any_eqv h]; exact hk
theorem o_inGT {τ : Type} [DecidableEq τ] {e : τ → D} {n : Nat} {p : τ → PyData} (h : PDat e n p) (hn : n ≤ 63) (hr : ∀ M x, pyM M (e x) = py (e x)) (hi : ∀ x y M k, inG (e x) y M k → inD (e x) y M k) : O2 β dIn e (eT e) D.bl fun a l rest => rest (decide (a ∈ l)) := fun a b M k E Q rest h1 q => hi _ _ _ _ (in_ofT h hn a b (hr M) (q _ h1))
theorem o_ninGT {τ : Type} [DecidableEq τ] {e : τ → D} {n : Nat} {p : τ → PyData} (h : PDat e n p) (hn : n ≤ 63) (hr : ∀ M x, pyM M (e x) = py (e x)) (hi : ∀ x y M k, inG (e x) y M k → inD (e x) y M k) : O2 β dNin e (eT e) D.bl fun a l rest => rest (!decide (a ∈ l)) := fun a b M k E Q rest h1 q => hi _ _ _ _ (in_ofT h hn a b (hr M) (q _ h1))
theorem o_tuple {τ : Type} {e : τ → D} : O1 β dTuple (eL e) (eT e) fun l rest => rest l := fun a M k E Q rest h q => q _ h
theorem o_tupleT {τ : Type} {e : τ → D} : O1 β dTuple (eT e) (eT e) fun l rest => rest l := fun a M k E Q rest h q => q _ h
theorem o_list {τ : Type} {e : τ → D} : O1 β (dList false) (eL e) (eL e) fun l rest => rest l := fun a M k E Q rest h q => q _ h
theorem o_listT {τ : Type} {e : τ → D} : O1 β (dList false) (eT e) (eL e) fun l rest => rest l := fun a M k E Q rest h q => q _ h
theorem o_sum : O1 β dSum (eL D.int) D.int fun l rest => rest l.sum := fun a M k E Q rest h q => ints_of (q _ h)
theorem o_all : O1 β dAll (eL D.bl) D.bl fun l rest => rest (l.all id) := fun a M k E Q rest h q => bls_of (q _ h)
theorem o_any : O1 β dAny (eL D.bl) D.bl fun l rest => rest (l.any id) := fun a M k E Q rest h q => bls_of (q _ h)
theorem o_sorted : O1 β (dSorted false) (eL D.int) (eL D.int) fun l rest => (sortR l).bind rest := fun a M k E Q rest h q => by
  obtain ⟨h1, h2⟩ := ite_wp h
  exact ints_of (is_sortL h1 (q _ h2))
/-- two texts, put in order -/
def sortS2 (a b : Str) : List Str := if sortedS [a, b] then [a, b] else [b, a]
/-! slices -/
section
variable {S : Type} {μ : S → Mem} {ρ : St'} {s : S}
theorem oj_none : OJ (β := β) μ ρ s woNone fun rest => rest none s := fun k E Q rest h q => q _ _ h
theorem oj_some {we : W} {C : (Int → S → Res β) → Res β} (h : EJ μ ρ s we D.int C) : OJ μ ρ s (woSome we) fun rest => C fun a s1 => rest (some a) s1 := fun k E Q rest h1 q => h _ E Q _ h1 fun a s1 h2 => q _ _ h2
def OSl (β : Type) {τ1 τ : Type} (m : Bool) (e1 : τ1 → D) (e : τ → D) (f : τ1 → Option Int → Option Int → τ) : Prop := ∀ a lo hi M k, k (e (f a lo hi)) M → slD m (e1 a) lo hi M k
theorem sl_L {τ : Type} {e : τ → D} : OSl β false (eL e) (eL e) Px.cutD := fun a lo hi M k h => by
  show k (.lst (Px.cutD (a.map e) lo hi)) M
  rw [cutD_map]; exact h
theorem sl_T {τ : Type} {e : τ → D} {m : Bool} : OSl β m (eT e) (eT e) Px.cutD := fun a lo hi M k h => by
  show k (.tup (Px.cutD (a.map e) lo hi)) M
  rw [cutD_map]; exact h
theorem sl_scr : OSl β false D.scr (eL D.int) Px.cutD := fun a lo hi M k h => h
theorem ej_sl {τ1 τ : Type} {m : Bool} {e1 : τ1 → D} {e : τ → D} {f : τ1 → Option Int → Option Int → τ} {we : W} {wl wh : WO} {Ca : (τ1 → S → Res β) → Res β} {Cl : τ1 → S → (Option Int → S → Res β) → Res β} {Ch : τ1 → S → Option Int → S → (Option Int → S → Res β) → Res β}
    (hs : OSl β m e1 e f) (ha : EJ μ ρ s we e1 Ca) (hl : ∀ a s1, OJ μ ρ s1 wl (Cl a s1)) (hh : ∀ a s1 lo s2, OJ μ ρ s2 wh (Ch a s1 lo s2)) : EJ μ ρ s (wSl m we wl wh) e fun rest => Ca fun a s1 => Cl a s1 fun lo s2 => Ch a s1 lo s2 fun hi s3 => rest (f a lo hi) s3 := fun k E Q rest h q =>
  ha _ E Q _ h fun a s1 h1 => hl a s1 _ E Q _ h1 fun lo s2 h2 => hh a s1 lo s2 _ E Q _ h2 fun hi s3 h3 => hs a lo hi _ _ (q _ s3 h3)
theorem ej_revT {τ : Type} {m : Bool} {e : τ → D} {we : W} {Ca : (List τ → S → Res β) → Res β} (ha : EJ μ ρ s we (eT e) Ca) : EJ μ ρ s (wRev m we) (eT e) fun rest => Ca fun a s1 => rest a.reverse s1 := fun k E Q rest h q =>
  ha _ E Q _ h fun a s1 h1 => by
    show k (.tup (a.map e).reverse) (μ s1)
    rw [← List.map_reverse]; exact q _ _ h1
theorem ej_revL {τ : Type} {e : τ → D} {we : W} {Ca : (List τ → S → Res β) → Res β} (ha : EJ μ ρ s we (eL e) Ca) : EJ μ ρ s (wRev false we) (eL e) fun rest => Ca fun a s1 => rest a.reverse s1 := fun k E Q rest h q =>
  ha _ E Q _ h fun a s1 h1 => by
    show k (.lst (a.map e).reverse) (μ s1)
    rw [← List.map_reverse]; exact q _ _ h1
/-! kinds -/
theorem ej_isi {τ : Type} {T : CT} {e : τ → D} {c : D} (b : Bool) {we : W} {C : (τ → S → Res β) → Res β} (hd : ∀ a M k, k (.bl b) M → dIsi T [e a, c] M k) (h : EJ μ ρ s we e C) : EJ μ ρ s (wCB (dIsi T) (waCons we (waCons (wC c) waNil))) D.bl fun rest => C fun a s1 => rest b s1 := fun k E Q rest h1 q =>
  h _ E Q _ h1 fun a s1 h2 => hd a _ _ (q _ s1 h2)
theorem ej_isi2 {τ : Type} {e : τ → D} {m1 m2 : String} (b : Bool) {we : W} {C : (τ → S → Res β) → Res β} (hd : ∀ a M k, k b → isi2D M (e a) m1 m2 k) (h : EJ μ ρ s we e C) : EJ μ ρ s (wIsi2 m1 m2 we) D.bl fun rest => C fun a s1 => rest b s1 := fun k E Q rest h1 q =>
  h _ E Q _ h1 fun a s1 h2 => hd a _ _ (q _ s1 h2)
end
end
end Ty

set_option Elab.async false
set_option linter.all false
set_option maxRecDepth 100000
set_option maxHeartbeats 4000000
/-! Fields, calls, iteration, comprehensions, cells. -/
namespace Ty
open PySem PySem.Spec PyProof.Rows L2 Rl RZ RT Px
section
variable {S β : Type} {μ : S → Mem} {ρ : St'} {s : S}
/-! ### fields, calls -/
theorem ej_fld {τ1 τ : Type} {e1 : τ1 → D} {e : τ → D} {f : Str} (g : τ1 → τ) {we : W} {C : (τ1 → S → Res β) → Res β} (hf : ∀ a M (k : D → Prop), k (e (g a)) → asI (e1 a) M fun _ ns xs => fldD ns xs f k) (ha : EJ μ ρ s we e1 C) : EJ μ ρ s (wFld f we) e fun rest => C fun a s1 => rest (g a) s1 := fun k E Q rest h q =>
  ha _ E Q _ h fun a s1 h1 => hf a _ _ (q _ s1 h1)
theorem cj_p {τ : Type} {ea : τ → List D} {wa : WA} {C : (τ → S → Res β) → Res β} (h : AJ μ ρ s wa ea C) : CJ μ ρ s (wcP wa) ea (fun _ => []) C := fun k E Q rest h1 q => h _ E Q _ h1 fun a s1 h2 => q _ _ h2
theorem cj_k {τ : Type} {ea : τ → List D} {wa : WA} {C : (τ → S → Res β) → Res β} (h : AJ μ ρ s wa ea C) : CJ μ ρ s (wcK wa) (fun _ => []) ea C := fun k E Q rest h1 q => h _ E Q _ h1 fun a s1 h2 => q _ _ h2
theorem cj_pk {τ1 τ2 : Type} {ea : τ1 → List D} {eb : τ2 → List D} {wa wb : WA} {Ca : (τ1 → S → Res β) → Res β} {Cb : τ1 → S → (τ2 → S → Res β) → Res β} (h : AJ μ ρ s wa ea Ca) (g : ∀ a s1, AJ μ ρ s1 wb eb (Cb a s1)) : CJ μ ρ s (wcPK wa wb) (fun p : τ1 × τ2 => ea p.1) (fun p => eb p.2) fun rest => Ca fun a s1 => Cb a s1 fun b s2 => rest (a, b) s2 := fun k E Q rest h1 q =>
  h _ E Q _ h1 fun a s1 h2 => g a s1 _ E Q _ h2 fun b s2 h3 => q (a, b) _ h3
theorem ej_fn {τ υ : Type} {n m : Nat} {wf : WF} {wc : WC} {ea eb : τ → List D} {e : υ → D} {C : (τ → S → Res β) → Res β} (ha : CJ μ ρ s wc ea eb C) (mf : τ → Res υ) (hk : ∀ x P, P → Ck n (ea x) (Ck m (eb x) P)) (hw : ∀ x M (k : D → Mem → Prop) E, (mf x).wx E (fun r => k (e r) M) → wf (ea x) M k E) :
    EJ μ ρ s (wFn n m wf wc) e fun rest => C fun x s1 => (mf x).bind fun r => rest r s1 := fun k E Q rest h q =>
  ha _ E Q _ h fun x s1 h1 => hk x _ (hw x _ k E (by rw [wx_bind] at h1; exact h1.mono fun r h2 => q r s1 h2))
theorem ej_fnK {τ υ : Type} {n m : Nat} {wf : WF} {wc : WC} {π : List Nat} {ea eb ec : τ → List D} {e : υ → D} {C : (τ → S → Res β) → Res β} (ha : CJ μ ρ s wc ea eb C) (mf : τ → Res υ) (hk : ∀ x (P : List D → Prop), P (ec x) → Ck n (ea x) (Ck m (eb x) (pkD (ea x ++ eb x) π P))) (hw : ∀ x M (k : D → Mem → Prop) E, (mf x).wx E (fun r => k (e r) M) → wf (ec x) M k E) :
    EJ μ ρ s (wFnK n m wf π wc) e fun rest => C fun x s1 => (mf x).bind fun r => rest r s1 := fun k E Q rest h q =>
  ha _ E Q _ h fun x s1 h1 => hk x (fun ys => wf ys _ k E) (hw x _ k E (by rw [wx_bind] at h1; exact h1.mono fun r h2 => q r s1 h2))
theorem ej_mt {τ0 τ υ : Type} {c nm : Str} {n m : Nat} {wf : WF} {wo : W} {wc : WC} {e0 : τ0 → D} {ea eb : τ → List D} {e : υ → D} {Co : (τ0 → S → Res β) → Res β} {C : τ0 → S → (τ → S → Res β) → Res β} (ho : EJ μ ρ s wo e0 Co) (ha : ∀ o s1, CJ μ ρ s1 wc ea eb (C o s1)) (mf : τ0 → τ → Res υ) (hm : ∀ o M P, P → asI (e0 o) M fun c' ns _ => mtD c c' ns nm P) (hk : ∀ x P, P → Ck n (ea x) (Ck m (eb x) P)) (hw : ∀ o x M (k : D → Mem → Prop) E, (mf o x).wx E (fun r => k (e r) M) → wf (e0 o :: ea x) M k E) :
    EJ μ ρ s (wMt c nm n m wf wo wc) e fun rest => Co fun o s1 => C o s1 fun x s2 => (mf o x).bind fun r => rest r s2 := fun k E Q rest h q =>
  ho _ E Q _ h fun o s1 h0 => hm o _ _ (ha o s1 _ E Q _ h0 fun x s2 h1 => hk x _ (hw o x _ k E (by rw [wx_bind] at h1; exact h1.mono fun r h2 => q r s2 h2)))
theorem ej_mtK {τ0 τ υ : Type} {c nm : Str} {n m : Nat} {wf : WF} {π : List Nat} {wo : W} {wc : WC} {e0 : τ0 → D} {ea eb ec : τ → List D} {e : υ → D} {Co : (τ0 → S → Res β) → Res β} {C : τ0 → S → (τ → S → Res β) → Res β} (ho : EJ μ ρ s wo e0 Co) (ha : ∀ o s1, CJ μ ρ s1 wc ea eb (C o s1)) (mf : τ0 → τ → Res υ) (hm : ∀ o M P, P → asI (e0 o) M fun c' ns _ => mtD c c' ns nm P) (hk : ∀ o x (P : List D → Prop), P (e0 o :: ec x) → Ck n (ea x) (Ck m (eb x) (pkD ((e0 o :: ea x) ++ eb x) π P))) (hw : ∀ o x M (k : D → Mem → Prop) E, (mf o x).wx E (fun r => k (e r) M) → wf (e0 o :: ec x) M k E) :
    EJ μ ρ s (wMtK c nm n m wf π wo wc) e fun rest => Co fun o s1 => C o s1 fun x s2 => (mf o x).bind fun r => rest r s2 := fun k E Q rest h q =>
  ho _ E Q _ h fun o s1 h0 => hm o _ _ (ha o s1 _ E Q _ h0 fun x s2 h1 => hk o x (fun ys => wf ys _ k E) (hw o x _ k E (by rw [wx_bind] at h1; exact h1.mono fun r h2 => q r s2 h2)))
/-- an instance that does not change behind its making -/
theorem ej_new {τ υ : Type} {c : Str} {n m : Nat} {wf : WF} {wc : WC} {ea eb : τ → List D} {e : υ → D} {ns : List Str} {fs : υ → List D} {C : (τ → S → Res β) → Res β} (ha : CJ μ ρ s wc ea eb C) (mf : τ → Res υ) (he : ∀ r, e r = .ins c ns (fs r)) (hk : ∀ x P, P → Ck n (ea x) (Ck m (eb x) P)) (hw : ∀ x M p (k : D → Mem → Prop) E, M p = none → (mf x).wx E (fun r => k .non (mu M p (.ins c ns (fs r)))) → wf (.ref p :: ea x) (mu M p (.ins c [] [])) k E) :
    EJ μ ρ s (wNew false c n m wf wc) e fun rest => C fun x s1 => (mf x).bind fun r => rest r s1 := fun k E Q rest h q =>
  ha _ E Q _ h fun x s1 h1 => hk x _ (by
    rw [wx_bind] at h1
    cases hm : mf x with
    | ok r => rw [hm] at h1; exact new_f (fun p k' hp hk' => hw x _ p k' E hp (by rw [hm]; exact hk')) (by rw [← he]; exact q r s1 h1)
    | ex z => rw [hm] at h1; unfold newI; exact fun p hp => hw x _ p _ E hp (by rw [hm]; exact h1)
    | no => rw [hm] at h1; exact h1.elim)
theorem ej_newK {τ υ : Type} {c : Str} {n m : Nat} {wf : WF} {wc : WC} {π : List Nat} {ea eb ec : τ → List D} {e : υ → D} {ns : List Str} {fs : υ → List D} {C : (τ → S → Res β) → Res β} (ha : CJ μ ρ s wc ea eb C) (mf : τ → Res υ) (he : ∀ r, e r = .ins c ns (fs r)) (hk : ∀ x (P : List D → Prop), P (ec x) → Ck n (ea x) (Ck m (eb x) (pkS (ea x ++ eb x) π P))) (hw : ∀ x M p (k : D → Mem → Prop) E, M p = none → (mf x).wx E (fun r => k .non (mu M p (.ins c ns (fs r)))) → wf (.ref p :: ec x) (mu M p (.ins c [] [])) k E) :
    EJ μ ρ s (wNewK false c n m wf (0 :: π) wc) e fun rest => C fun x s1 => (mf x).bind fun r => rest r s1 := fun k E Q rest h q =>
  ha _ E Q _ h fun x s1 h1 => by
    rw [wx_bind] at h1
    refine hk x (fun ys => newI false c wf (fun z => z :: ys) (μ s1) k E) ?_
    cases hm : mf x with
    | ok r => rw [hm] at h1; exact new_f (fun p k' hp hk' => hw x _ p k' E hp (by rw [hm]; exact hk')) (by rw [← he]; exact q r s1 h1)
    | ex z => rw [hm] at h1; unfold newI; exact fun p hp => hw x _ p _ E hp (by rw [hm]; exact h1)
    | no => rw [hm] at h1; exact h1.elim
/-- == by an own __eq__ -/
theorem ej_eqO {τ1 τ2 : Type} {c : Str} {cs : List Str} {wf : WF} {d : D2} {e1 : τ1 → D} {e2 : τ2 → D} {wa wb : W} {Ca : (τ1 → S → Res β) → Res β} {Cb : τ1 → S → (τ2 → S → Res β) → Res β} (mf : τ1 → τ2 → Res Bool) (hd : ∀ a b M (k : D → Mem → Prop), wf [e1 a, e2 b] M (isB fun b M' => k (.bl b) M') noX → dEqO c cs wf d (e1 a) (e2 b) M k) (hw : ∀ a b M (k : D → Mem → Prop) E, (mf a b).wx E (fun r => k (.bl r) M) → wf [e1 a, e2 b] M k E) (ha : EJ μ ρ s wa e1 Ca) (hb : ∀ a s1, EJ μ ρ s1 wb e2 (Cb a s1)) :
    EJ μ ρ s (wOp (dEqO c cs wf d) wa wb) D.bl fun rest => Ca fun a s1 => Cb a s1 fun b s2 => (nx (mf a b)).bind fun r => rest r s2 := fun k E Q rest h q =>
  ha _ E Q _ h fun a s1 h1 => hb a s1 _ E Q _ h1 fun b s2 h2 => hd a b _ k (hw a b _ _ _ (by rw [wx_bind] at h2; exact (nx_wx h2).mono fun r h3 => q r s2 h3))
theorem ej_neO {τ1 τ2 : Type} {c : Str} {cs : List Str} {wf : WF} {d : D2} {e1 : τ1 → D} {e2 : τ2 → D} {wa wb : W} {Ca : (τ1 → S → Res β) → Res β} {Cb : τ1 → S → (τ2 → S → Res β) → Res β} (mf : τ1 → τ2 → Res Bool) (hd : ∀ a b M (k : D → Mem → Prop), wf [e1 a, e2 b] M (isB fun b M' => k (.bl (!b)) M') noX → dNeO c cs wf d (e1 a) (e2 b) M k) (hw : ∀ a b M (k : D → Mem → Prop) E, (mf a b).wx E (fun r => k (.bl r) M) → wf [e1 a, e2 b] M k E) (ha : EJ μ ρ s wa e1 Ca) (hb : ∀ a s1, EJ μ ρ s1 wb e2 (Cb a s1)) :
    EJ μ ρ s (wOp (dNeO c cs wf d) wa wb) D.bl fun rest => Ca fun a s1 => Cb a s1 fun b s2 => (nx (mf a b)).bind fun r => rest (!r) s2 := fun k E Q rest h q =>
  ha _ E Q _ h fun a s1 h1 => hb a s1 _ E Q _ h1 fun b s2 h2 => hd a b _ k (hw a b _ _ _ (by rw [wx_bind] at h2; exact (nx_wx h2).mono fun r h3 => q _ s2 h3))
/-! where the own method is not asked -/
theorem o_eqQ {τ1 τ2 τ : Type} {c : Str} {cs : List Str} {wf : WF} {d : D2} {e1 : τ1 → D} {e2 : τ2 → D} {e : τ → D} {f : τ1 → τ2 → (τ → Res β) → Res β} (hn : ∀ a y M k, d (e1 a) y M k → dEqO c cs wf d (e1 a) y M k) (h : O2 β d e1 e2 e f) : O2 β (dEqO c cs wf d) e1 e2 e f := fun a b M k E Q rest h1 q => hn a _ M k (h a b M k E Q rest h1 q)
theorem o_neQ {τ1 τ2 τ : Type} {c : Str} {cs : List Str} {wf : WF} {d : D2} {e1 : τ1 → D} {e2 : τ2 → D} {e : τ → D} {f : τ1 → τ2 → (τ → Res β) → Res β} (hn : ∀ a y M k, d (e1 a) y M k → dNeO c cs wf d (e1 a) y M k) (h : O2 β d e1 e2 e f) : O2 β (dNeO c cs wf d) e1 e2 e f := fun a b M k E Q rest h1 q => hn a _ M k (h a b M k E Q rest h1 q)
theorem o_lenQ {τ1 τ : Type} {c : Str} {wf : WF} {d : D1} {e1 : τ1 → D} {e : τ → D} {f : τ1 → (τ → Res β) → Res β} (hn : ∀ a M k, d (e1 a) M k → dLenO c wf d (e1 a) M k) (h : O1 β d e1 e f) : O1 β (dLenO c wf d) e1 e f := fun a M k E Q rest h1 q => hn a M k (h a M k E Q rest h1 q)
theorem o_strQ {τ1 τ : Type} {c : Str} {wf : WF} {d : D1} {e1 : τ1 → D} {e : τ → D} {f : τ1 → (τ → Res β) → Res β} (hn : ∀ a M k, d (e1 a) M k → dStrO c wf d (e1 a) M k) (h : O1 β d e1 e f) : O1 β (dStrO c wf d) e1 e f := fun a M k E Q rest h1 q => hn a M k (h a M k E Q rest h1 q)
/-! ### what is walked -/
theorem ij_L {τ : Type} {e : τ → D} {we : W} {C : (List τ → S → Res β) → Res β} (h : EJ μ ρ s we (eL e) C) : IJ μ ρ s (wiAny we) e C := fun k E Q rest h1 q => h _ E Q _ h1 fun a s1 h2 => q _ _ h2
theorem ij_T {τ : Type} {e : τ → D} {we : W} {C : (List τ → S → Res β) → Res β} (h : EJ μ ρ s we (eT e) C) : IJ μ ρ s (wiAny we) e C := fun k E Q rest h1 q => h _ E Q _ h1 fun a s1 h2 => q _ _ h2
theorem ij_F {τ0 τ : Type} {e0 : τ0 → D} {e : τ → D} {we : W} {C : (τ0 → S → Res β) → Res β} (f : τ0 → List τ) (hf : ∀ a, e0 a = .tup ((f a).map e) ∨ e0 a = .lst ((f a).map e)) (h : EJ μ ρ s we e0 C) : IJ μ ρ s (wiAny we) e fun rest => C fun a s1 => rest (f a) s1 := fun k E Q rest h1 q => h _ E Q _ h1 fun a s1 h2 => by
  have z := q _ _ h2
  rcases hf a with e | e <;> rw [e] <;> exact z
theorem ij_r1 {wa : WA} {C : (Int → S → Res β) → Res β} (h : AJ μ ρ s wa (fun i => [.int i]) C) : IJ μ ρ s (wiR1 wa) D.int fun rest => C fun j s1 => (rngR 0 j).bind fun l => rest l s1 := fun k E Q rest h1 q => h _ E Q _ h1 fun a s1 h2 => by
  obtain ⟨h3, h4⟩ := ite_wp h2
  rw [Int.sub_zero] at h4
  exact rg h3.2 (q _ _ h4)
theorem ij_r2 {wa : WA} {C : (Int × Int → S → Res β) → Res β} (h : AJ μ ρ s wa (fun p => [.int p.1, .int p.2]) C) : IJ μ ρ s (wiR2 wa) D.int fun rest => C fun p s1 => (rngR p.1 p.2).bind fun l => rest l s1 := fun k E Q rest h1 q => h _ E Q _ h1 fun a s1 h2 => by
  obtain ⟨h3, h4⟩ := ite_wp h2
  exact rg h3.1 (rg h3.2 (q _ _ h4))
theorem zipD_map {τ1 τ2 : Type} (e1 : τ1 → D) (e2 : τ2 → D) : ∀ (l : List τ1) (m : List τ2), zipD (l.map e1) (m.map e2) = (l.zip m).map (eT2 e1 e2)
  | [], _ => by simp [zipD]
  | _ :: _, [] => by simp [zipD]
  | x :: l, y :: m => by simp [zipD, zipD_map e1 e2 l m]
theorem ij_zipLL {τ1 τ2 : Type} {e1 : τ1 → D} {e2 : τ2 → D} {wa : WA} {C : (List τ1 × List τ2 → S → Res β) → Res β} (h : AJ μ ρ s wa (fun p => [eL e1 p.1, eL e2 p.2]) C) : IJ μ ρ s (wiZip wa) (eT2 e1 e2) fun rest => C fun p s1 => rest (p.1.zip p.2) s1 := fun k E Q rest h1 q => h _ E Q _ h1 fun a s1 h2 => by
  show k ⟨zipD (a.1.map e1) (a.2.map e2), [] ++ []⟩ _
  rw [zipD_map]; exact q _ _ h2
theorem ij_zipTT {τ1 τ2 : Type} {e1 : τ1 → D} {e2 : τ2 → D} {wa : WA} {C : (List τ1 × List τ2 → S → Res β) → Res β} (h : AJ μ ρ s wa (fun p => [eT e1 p.1, eT e2 p.2]) C) : IJ μ ρ s (wiZip wa) (eT2 e1 e2) fun rest => C fun p s1 => rest (p.1.zip p.2) s1 := fun k E Q rest h1 q => h _ E Q _ h1 fun a s1 h2 => by
  show k ⟨zipD (a.1.map e1) (a.2.map e2), []⟩ _
  rw [zipD_map]; exact q _ _ h2
def enumT {τ : Type} (n : Nat) : List τ → List (Int × τ)
  | [] => []
  | x :: xs => ((n : Int), x) :: enumT (n + 1) xs
theorem enumD_map {τ : Type} (e : τ → D) : ∀ (l : List τ) (n : Nat), enumD n (l.map e) = (enumT n l).map (eT2 D.int e)
  | [], _ => rfl
  | x :: l, n => by simp [enumD, enumT, enumD_map e l (n + 1)]
theorem ij_enumL {τ : Type} {e : τ → D} {wa : WA} {C : (List τ → S → Res β) → Res β} (h : AJ μ ρ s wa (fun l => [eL e l]) C) : IJ μ ρ s (wiEnum wa) (eT2 D.int e) fun rest => C fun l s1 => rest (enumT 0 l) s1 := fun k E Q rest h1 q => h _ E Q _ h1 fun a s1 h2 => by
  show k ⟨enumD 0 (a.map e), []⟩ _
  rw [enumD_map]; exact q _ _ h2
/-! ### comprehensions -/
def GJ (wg : WG) (d : D) (ρ ρ' : St') : Prop := ∀ M (k : St' → Mem → Prop) E, k ρ' M → wg d ρ M k E
def lcS {τ υ S : Type} (step : τ → S → Res (Option υ × S)) : List τ → List υ → S → Res (List υ × S)
  | [], acc, s => .ok (acc, s)
  | x :: xs, acc, s => (step x s).bind fun r => match r.1 with
    | none => lcS step xs acc r.2
    | some y => if acc.length + 1 ≤ 16777216 then lcS step xs (acc ++ [y]) r.2 else .no
theorem loopC_S {E : XP} {τ υ : Type} {ei : τ → D} {eo : υ → D} {wg : WG} {wt : WT} {we : W} {ρw : St'} {ρt : τ → St'} {k : List D → Mem → Prop} {Ct : τ → S → (Bool → S → Res (Option υ × S)) → Res (Option υ × S)} {Ce : τ → S → (υ → S → Res (Option υ × S)) → Res (Option υ × S)}
    (hg : ∀ x, GJ wg (ei x) ρw (ρt x)) (ht : ∀ x s, TJ μ (ρt x) s wt (Ct x s)) (he : ∀ x s, EJ μ (ρt x) s we eo (Ce x s)) :
    ∀ (xs : List τ) (acc : List υ) (s : S), (lcS (fun x s => Ct x s fun b s1 => if b then Ce x s1 fun y s2 => .ok (some y, s2) else .ok (none, s1)) xs acc s).wx E (fun r => k (r.1.map eo) (μ r.2)) → loopC [] wg wt we ρw k E (xs.map ei) (acc.map eo) (μ s)
  | [], acc, s, h => h
  | x :: xs, acc, s, h => by
    show wg (ei x) ρw (μ s) _ E
    refine hg x _ _ _ ?_
    unfold lcS at h
    rw [wx_bind] at h
    refine ht x s _ E _ _ h fun b s1 h1 => ?_
    cases b with
    | false => exact br_f (loopC_S hg ht he xs acc s1 h1)
    | true =>
      refine br_t (he x s1 _ E _ _ h1 fun y s2 h2 => ?_)
      have h2 : (if acc.length + 1 ≤ 16777216 then lcS (fun x s => Ct x s fun b s1 => if b then Ce x s1 fun y s2 => .ok (some y, s2) else .ok (none, s1)) xs (acc ++ [y]) s2 else Res.no).wx E (fun r => k (r.1.map eo) (μ r.2)) := h2
      by_cases c : acc.length + 1 ≤ 16777216
      · rw [if_pos c] at h2
        refine sz (by rw [List.length_map]; exact c) ?_
        have z := loopC_S hg ht he xs (acc ++ [y]) s2 h2
        rw [List.map_append] at z
        exact z
      · rw [if_neg c] at h2; cases h2
/-- [e for x in xs if t], the state going along -/
theorem ej_lcS {τ υ : Type} {ei : τ → D} {eo : υ → D} {wi : WI} {wg : WG} {wt : WT} {we : W} {us : List Nat} {ρt : τ → St'} {Ci : (List τ → S → Res β) → Res β} {Ct : τ → S → (Bool → S → Res (Option υ × S)) → Res (Option υ × S)} {Ce : τ → S → (υ → S → Res (Option υ × S)) → Res (Option υ × S)}
    (hi : IJ μ ρ s wi ei Ci) (hg : ∀ x, GJ wg (ei x) (wipe' ρ us) (ρt x)) (ht : ∀ x s, TJ μ (ρt x) s wt (Ct x s)) (he : ∀ x s, EJ μ (ρt x) s we eo (Ce x s)) :
    EJ μ ρ s (wLc false wi wg wt we us) (eL eo) fun rest => Ci fun xs s1 => (lcS (fun x s => Ct x s fun b s1 => if b then Ce x s1 fun y s2 => .ok (some y, s2) else .ok (none, s1)) xs [] s1).bind fun r => rest r.1 r.2 := fun k E Q rest h q =>
  hi _ E Q _ h fun xs s1 h1 => by
    rw [wx_bind] at h1
    exact loopC_S hg ht he xs [] s1 (h1.mono fun r h2 => q _ _ h2)
/-- .. that says at once -/
def lcF {τ υ : Type} (p : τ → Bool) (f : τ → υ) (xs : List τ) : Res (List υ) := if (xs.filter p).length ≤ 16777216 then .ok ((xs.filter p).map f) else .no
def lcM {τ υ : Type} (f : τ → υ) (xs : List τ) : Res (List υ) := if xs.length ≤ 16777216 then .ok (xs.map f) else .no
theorem lcS_pure {τ υ : Type} (p : τ → Bool) (f : τ → υ) (s : S) : ∀ (xs : List τ) (acc : List υ), acc.length + (xs.filter p).length ≤ 16777216 → lcS (fun x (s : S) => if p x then .ok (some (f x), s) else .ok (none, s)) xs acc s = .ok (acc ++ (xs.filter p).map f, s)
  | [], acc, _ => by simp [lcS]
  | x :: xs, acc, h => by
    unfold lcS
    by_cases c : p x = true
    · rw [List.filter_cons_of_pos c] at h ⊢
      rw [if_pos c]
      show (if acc.length + 1 ≤ 16777216 then _ else _) = _
      rw [List.length_cons] at h
      rw [if_pos (by omega), lcS_pure p f s xs (acc ++ [f x]) (by rw [List.length_append, List.length_singleton]; omega), List.append_assoc]; rfl
    · rw [List.filter_cons_of_neg c] at h ⊢
      rw [if_neg c]
      exact lcS_pure p f s xs acc h
theorem ej_lcF {τ υ : Type} {ei : τ → D} {eo : υ → D} {wi : WI} {wg : WG} {wt : WT} {we : W} {us : List Nat} {ρt : τ → St'} {Ci : (List τ → S → Res β) → Res β} {p : τ → S → Bool} {f : τ → S → υ}
    (hi : IJ μ ρ s wi ei Ci) (hg : ∀ x, GJ wg (ei x) (wipe' ρ us) (ρt x)) (ht : ∀ x s, TJ (β := Option υ × S) μ (ρt x) s wt fun rest => rest (p x s) s) (he : ∀ x s, EJ (β := Option υ × S) μ (ρt x) s we eo fun rest => rest (f x s) s) :
    EJ μ ρ s (wLc false wi wg wt we us) (eL eo) fun rest => Ci fun xs s1 => (lcF (fun x => p x s1) (fun x => f x s1) xs).bind fun r => rest r s1 := fun k E Q rest h q =>
  hi _ E Q _ h fun xs s1 h1 => by
    obtain ⟨h2, h3⟩ := ite_wp h1
    have key : ∀ (xs : List τ) (acc : List υ), acc.length + (xs.filter fun x => p x s1).length ≤ 16777216 → lcS (fun x (s : S) => if p x s then .ok (some (f x s), s) else .ok (none, s)) xs acc s1 = .ok (acc ++ (xs.filter fun x => p x s1).map fun x => f x s1, s1) := fun xs => by
      induction xs with
      | nil => intro acc _; simp [lcS]
      | cons x xs ih =>
        intro acc hl
        unfold lcS
        by_cases c : p x s1 = true
        · rw [List.filter_cons_of_pos (p := fun x => p x s1) c] at hl ⊢
          rw [if_pos c]
          show (if acc.length + 1 ≤ 16777216 then _ else _) = _
          rw [List.length_cons] at hl
          rw [if_pos (by omega), ih (acc ++ [f x s1]) (by rw [List.length_append, List.length_singleton]; omega), List.append_assoc]; rfl
        · rw [List.filter_cons_of_neg (p := fun x => p x s1) c] at hl ⊢
          rw [if_neg c]
          exact ih acc hl
    refine loopC_S hg ht he xs [] s1 (wx_of (key xs [] (by simpa using h2)) ?_)
    have z := q _ s1 h3
    show k (.lst (([] ++ (xs.filter fun x => p x s1).map fun x => f x s1).map eo)) (μ s1)
    rw [List.nil_append]; exact z
theorem ej_lcM {τ υ : Type} {ei : τ → D} {eo : υ → D} {wi : WI} {wg : WG} {we : W} {us : List Nat} {ρt : τ → St'} {Ci : (List τ → S → Res β) → Res β} {f : τ → S → υ}
    (hi : IJ μ ρ s wi ei Ci) (hg : ∀ x, GJ wg (ei x) (wipe' ρ us) (ρt x)) (he : ∀ x s, EJ (β := Option υ × S) μ (ρt x) s we eo fun rest => rest (f x s) s) :
    EJ μ ρ s (wLc false wi wg wYes we us) (eL eo) fun rest => Ci fun xs s1 => (lcM (fun x => f x s1) xs).bind fun r => rest r s1 := fun k E Q rest h q =>
  ej_lcF (p := fun _ _ => true) hi hg (fun x s k E Q rest h q => q _ _ h) he k E Q rest (by
    have e : (fun (xs : List τ) (s1 : S) => (lcF (fun x => true) (fun x => f x s1) xs).bind fun r => rest r s1) = fun xs s1 => (lcM (fun x => f x s1) xs).bind fun r => rest r s1 := by
      funext xs s1
      unfold lcF lcM
      rw [List.filter_eq_self.mpr fun _ _ => rfl]
    show (Ci fun (xs : List τ) (s1 : S) => (lcF (fun x => true) (fun x => f x s1) xs).bind fun r => rest r s1).wx E Q
    rw [e]; exact h) q
/-- .. that may fail, the state as it is -/
def lcR {τ υ : Type} (p : τ → Res Bool) (g : τ → Res υ) : List τ → List υ → Res (List υ)
  | [], acc => .ok acc
  | x :: xs, acc => (p x).bind fun b => if b then (g x).bind fun y => if acc.length + 1 ≤ 16777216 then lcR p g xs (acc ++ [y]) else .no else lcR p g xs acc
theorem ej_lcR {τ υ : Type} {ei : τ → D} {eo : υ → D} {wi : WI} {wg : WG} {wt : WT} {we : W} {us : List Nat} {ρt : τ → St'} {Ci : (List τ → S → Res β) → Res β} {Ct : τ → S → (Bool → S → Res Bool) → Res Bool} {Ce : τ → S → (υ → S → Res υ) → Res υ} (Ct' : τ → S → (Bool → Res Bool) → Res Bool) (Ce' : τ → S → (υ → Res υ) → Res υ)
    (hi : IJ μ ρ s wi ei Ci) (hg : ∀ x, GJ wg (ei x) (wipe' ρ us) (ρt x)) (ht : ∀ x s, TJ μ (ρt x) s wt (Ct x s)) (he : ∀ x s, EJ μ (ρt x) s we eo (Ce x s)) (het : ∀ x s rest, Ct x s rest = Ct' x s fun y => rest y s) (hee : ∀ x s rest, Ce x s rest = Ce' x s fun y => rest y s) :
    EJ μ ρ s (wLc false wi wg wt we us) (eL eo) fun rest => Ci fun xs s1 => (lcR (fun x => Ct' x s1 fun y => .ok y) (fun x => Ce' x s1 fun y => .ok y) xs []).bind fun r => rest r s1 := fun k E Q rest h q =>
  hi _ E Q _ h fun xs s1 h1 => by
    rw [wx_bind] at h1
    have key : ∀ (xs : List τ) (acc : List υ), (lcR (fun x => Ct' x s1 fun y => .ok y) (fun x => Ce' x s1 fun y => .ok y) xs acc).wx E (fun r => k (.lst (r.map eo)) (μ s1)) → loopC [] wg wt we (wipe' ρ us) (fun acc M2 => mkL false acc M2 k) E (xs.map ei) (acc.map eo) (μ s1) := fun xs => by
      induction xs with
      | nil => intro acc h; exact h
      | cons x xs ih =>
        intro acc h
        show wg (ei x) (wipe' ρ us) (μ s1) _ E
        refine hg x _ _ _ ?_
        unfold lcR at h
        rw [wx_bind] at h
        refine keep (G := fun k => wt (ρt x) (μ s1) k E) (fun k Q rest => ht x s1 k E Q rest) (het x s1) h fun b h1 => ?_
        cases b with
        | false => exact br_f (ih acc h1)
        | true =>
          have h1 : ((Ce' x s1 fun y => Res.ok y).bind fun y => if acc.length + 1 ≤ 16777216 then lcR (fun x => Ct' x s1 fun y => .ok y) (fun x => Ce' x s1 fun y => .ok y) xs (acc ++ [y]) else .no).wx E (fun r => k (.lst (r.map eo)) (μ s1)) := h1
          rw [wx_bind] at h1
          refine br_t (keep (G := fun k' => (∀ d M, k' d M → _) → we (ρt x) (μ s1) _ E) (fun k' Q rest g g' hk => he x s1 _ E Q rest g fun a s' z => hk a _ (g' a s' z)) (hee x s1) (k := fun y M => Sz ((acc.map eo).length + 1) (loopC [] wg wt we (wipe' ρ us) (fun acc M2 => mkL false acc M2 k) E (xs.map ei) (acc.map eo ++ [eo y]) M)) h1 (fun y h2 => ?_) fun d M z => z)
          by_cases c : acc.length + 1 ≤ 16777216
          · rw [if_pos c] at h2
            refine sz (by rw [List.length_map]; exact c) ?_
            have z := ih (acc ++ [y]) h2
            rw [List.map_append] at z
            exact z
          · rw [if_neg c] at h2; cases h2
    exact key xs [] (h1.mono fun r h2 => q _ _ h2)
end
end Ty

set_option Elab.async false
set_option linter.all false
set_option maxRecDepth 100000
set_option maxHeartbeats 4000000
/-! Cells, statements, loops. -/
namespace Ty
open PySem PySem.Spec PyProof.Rows L2 Rl RZ RT Px
/-! ### cells -/
def CA {S T : Type} (μ : S → Mem) (p : Addr) (c : T → Cell) (get : S → T) (put : S → T → S) : Prop := ∀ s, ∃ N, N p = none ∧ μ s = mu N p (c (get s)) ∧ ∀ t, μ (put s t) = mu N p (c t)
def DI {S : Type} (μ : S → Mem) : Prop := ∀ s s' a, μ s a = none → μ s' a = none
/-- a cell is taken away -/
def CR {S T : Type} (μ : S → Mem) (p : Addr) (c : T → Cell) (get : S → T) (μ' : S → Mem) : Prop := ∀ s, μ s p = some (c (get s)) ∧ er (μ s) p = μ' s
section
variable {S T T' : Type} {μ μ' : S → Mem} {p p' : Addr} {c : T → Cell} {c' : T' → Cell} {get : S → T} {put : S → T → S}
theorem mu_none {M : Mem} {a b : Addr} {c : Cell} (h : mu M a c b = none) : b ≠ a ∧ M b = none := by
  by_cases e : b = a
  · subst e; rw [mu_same] at h; cases h
  · rw [mu_ne e] at h; exact ⟨e, h⟩
theorem mu_fresh {M : Mem} {a b : Addr} {c : Cell} (e : b ≠ a) (h : M b = none) : mu M a c b = none := by rw [mu_ne e]; exact h
/-- μ' is μ and a new cell -/
structure NewC {S T : Type} (μ : S → Mem) (μ' : S × T → Mem) (p : Addr) (c : T → Cell) : Prop where
  fr : ∀ s, μ s p = none
  eq : ∀ q, μ' q = mu (μ q.1) p (c q.2)
theorem di_unit {M : Mem} : DI fun _ : Unit => M := fun _ _ _ h => h
theorem di_base {M : Mem} : DI fun t : T => mu M p (c t) := fun _ _ _ h => mu_fresh (mu_none h).1 (mu_none h).2
theorem NewC.di {μ2 : S × T' → Mem} (n : NewC μ μ2 p' c') (h : DI μ) : DI μ2 := fun q q' a g => by
  rw [n.eq] at g ⊢
  exact mu_fresh (mu_none g).1 (h _ _ _ (mu_none g).2)
theorem ca_base {M : Mem} (h : M p = none) : CA (fun t : T => mu M p (c t)) p c (fun t => t) (fun _ t => t) := fun s => ⟨M, h, rfl, fun _ => rfl⟩
theorem NewC.ca {μ2 : S × T' → Mem} (n : NewC μ μ2 p' c') : CA μ2 p' c' (fun q => q.2) (fun q t => (q.1, t)) := fun q => ⟨μ q.1, n.fr _, n.eq q, fun _ => n.eq _⟩
theorem CA.up {μ2 : S × T' → Mem} (h : CA μ p c get put) (n : NewC μ μ2 p' c') : CA μ2 p c (fun q => get q.1) (fun q t => (put q.1 t, q.2)) := fun q => by
  obtain ⟨N, h0, h1, h3⟩ := h q.1
  have nn := n.fr q.1
  rw [h1] at nn
  have ne := (mu_none nn).1
  refine ⟨mu N p' (c' q.2), mu_fresh ne.symm h0, ?_, fun t => ?_⟩
  · rw [n.eq, h1, mu_comm ne.symm]
  · rw [n.eq]
    show mu (μ (put q.1 t)) p' _ = _
    rw [h3, mu_comm ne.symm]
theorem CA.at (h : CA μ p c get put) (s : S) : μ s p = some (c (get s)) := by
  obtain ⟨N, h0, h1, h3⟩ := h s
  rw [h1, mu_same]
theorem NewC.cr {μ2 : S × T' → Mem} (n : NewC μ μ2 p' c') : CR μ2 p' c' (fun q => q.2) (fun q => μ q.1) := fun q => ⟨by rw [n.eq, mu_same], by rw [n.eq]; exact er_mu (n.fr _)⟩
theorem CR.up {μ2 : S × T' → Mem} (h : CR μ p c get μ') (n : NewC μ μ2 p' c') : CR μ2 p c (fun q => get q.1) (fun q => mu (μ' q.1) p' (c' q.2)) := fun q => by
  obtain ⟨h0, h1⟩ := h q.1
  have ne : p' ≠ p := fun e => by have nn := n.fr q.1; rw [e, h0] at nn; cases nn
  exact ⟨by rw [n.eq, mu_ne ne.symm]; exact h0, by rw [n.eq, er_mu_ne ne, h1]⟩
/-- .. and then the one above -/
theorem CR.top {μ2 : S × T' → Mem} (h : CR μ p c get μ') (n : NewC μ μ2 p' c') (hk : ∀ s a, μ s a = none → μ' s a = none) : CR (fun q : S × T' => mu (μ' q.1) p' (c' q.2)) p' c' (fun q => q.2) (fun q => μ' q.1) := fun q => ⟨mu_same, er_mu (hk _ _ (n.fr _))⟩
theorem drop1 (h : CR μ p c get μ') {s : S} {k : Mem → Prop} (hk : k (μ' s)) : ern p (μ s) k := ern_of (by rw [(h s).2]; exact hk)
theorem frz1 (h : CR μ p c get μ') {s : S} {k : D → Mem → Prop} (hk : k (c (get s)).toD (μ' s)) : frzD (.ref p) (μ s) k := frz_of (h s).1 (by rw [(h s).2]; exact hk)
end
section
variable {S β : Type} {μ : S → Mem} {ρ : St'} {s : S}
/-! reading a cell -/
theorem ej_ixkC {T τ : Type} {p : Addr} {c : T → Cell} {get : S → T} {put : S → T → S} {e : τ → D} {i : Nat} {j : Int} (h : CA μ p c get put) (hi : ρ[i]? = some (some (.ref p))) (f : T → τ) (hd : ∀ t N (k : D → Mem → Prop), k (e (f t)) (mu N p (c t)) → dIx (.ref p) (.int j) (mu N p (c t)) k) : EJ (β := β) μ ρ s (wOp dIx (wVar i) (wC (.int j))) e fun rest => rest (f (get s)) s := fun k E Q rest h1 q => by
  have z := q _ _ h1
  show wVar i ρ (μ s) _ E
  unfold wVar; rw [hi]
  show dIx (.ref p) (.int j) (μ s) k
  obtain ⟨N, h0, e1, h3⟩ := h s
  rw [e1] at z ⊢
  exact hd _ _ _ z
theorem ej_ixC {τ : Type} {p : Addr} {e : τ → D} {get : S → List τ} {put : S → List τ → S} {i : Nat} {wi : W} {Ci : (Int → S → Res β) → Res β} (h : CA μ p (cL e) get put) (hi : ρ[i]? = some (some (.ref p))) (hj : EJ μ ρ s wi D.int Ci) : EJ μ ρ s (wOp dIx (wVar i) wi) e fun rest => Ci fun j s1 => (ixR (get s1) j).bind fun v => rest v s1 := fun k E Q rest h1 q => by
  show wVar i ρ (μ s) _ E
  unfold wVar; rw [hi]
  refine hj _ E Q _ h1 fun j s1 h2 => ?_
  obtain ⟨x, h3, h4⟩ := ixR_wp h2
  exact cell_of (h.at s1) (ix_of (by rw [atI_map', h3]; rfl) (q _ _ h4))
/-- a built-in upon a cell -/
def O1C (β : Type) {T τ : Type} (d : D1) (p : Addr) (c : T → Cell) (e : τ → D) (f : T → (τ → Res β) → Res β) : Prop :=
  ∀ t N (k : D → Mem → Prop) (E : XP) (Q : β → Prop) (rest : τ → Res β), (f t rest).wx E Q → (∀ x, (rest x).wx E Q → k (e x) (mu N p (c t))) → d (.ref p) (mu N p (c t)) k
theorem ej_cb1C {T τ : Type} {d : D1} {p : Addr} {c : T → Cell} {get : S → T} {put : S → T → S} {e : τ → D} {f : T → (τ → Res β) → Res β} {i : Nat} (h : CA μ p c get put) (hi : ρ[i]? = some (some (.ref p))) (hd : O1C β d p c e f) : EJ μ ρ s (wCB (b1 d) (waCons (wVar i) waNil)) e fun rest => f (get s) fun x => rest x s := fun k E Q rest h1 q => by
  show wVar i ρ (μ s) _ E
  unfold wVar; rw [hi]
  show d (.ref p) (μ s) k
  obtain ⟨N, h0, e1, h3⟩ := h s
  have q' : ∀ x, (rest x s).wx E Q → k (e x) (mu N p (c (get s))) := fun x g => by rw [← e1]; exact q x s g
  rw [e1]
  exact hd _ N k E Q _ h1 q'
theorem c_len {τ : Type} {e : τ → D} {p : Addr} : O1C β dLen p (cL e) D.int fun l rest => rest (l.length : Int) := fun t N k E Q rest h q => by
  have z := q _ h
  refine cell_mu ?_
  rw [List.length_map]; exact z
theorem c_tuple {τ : Type} {e : τ → D} {p : Addr} : O1C β dTuple p (cL e) (eT e) fun l rest => rest l := fun t N k E Q rest h q => cell_mu (q _ h)
theorem c_list {τ : Type} {e : τ → D} {p : Addr} : O1C β (dList false) p (cL e) (eL e) fun l rest => rest l := fun t N k E Q rest h q => cell_mu (q _ h)
theorem c_sum {p : Addr} : O1C β dSum p (cL D.int) D.int fun l rest => rest l.sum := fun t N k E Q rest h q => cell_mu (ints_of (q _ h))
theorem c_all {p : Addr} : O1C β dAll p (cL D.bl) D.bl fun l rest => rest (l.all id) := fun t N k E Q rest h q => cell_mu (bls_of (q _ h))
theorem c_any {p : Addr} : O1C β dAny p (cL D.bl) D.bl fun l rest => rest (l.any id) := fun t N k E Q rest h q => cell_mu (bls_of (q _ h))
theorem c_sorted {p : Addr} : O1C β (dSorted false) p (cL D.int) (eL D.int) fun l rest => (sortR l).bind rest := fun t N k E Q rest h q => by
  obtain ⟨h1, h2⟩ := ite_wp h
  exact cell_mu (ints_of (is_sortL h1 (q _ h2)))
/-- x op cell -/
theorem ej_opC2 {T τ1 τ : Type} {d : D2} {p : Addr} {c : T → Cell} {get : S → T} {put : S → T → S} {e1 : τ1 → D} {e : τ → D} {f : τ1 → T → (τ → Res β) → Res β} {i : Nat} {wa : W} {Ca : (τ1 → S → Res β) → Res β} (h : CA μ p c get put) (hi : ρ[i]? = some (some (.ref p))) (hd : ∀ a t N (k : D → Mem → Prop) (E : XP) (Q : β → Prop) (rest : τ → Res β), (f a t rest).wx E Q → (∀ x, (rest x).wx E Q → k (e x) (mu N p (c t))) → d (e1 a) (.ref p) (mu N p (c t)) k) (ha : EJ μ ρ s wa e1 Ca) : EJ μ ρ s (wOp d wa (wVar i)) e fun rest => Ca fun a s1 => f a (get s1) fun x => rest x s1 := fun k E Q rest h1 q =>
  ha _ E Q _ h1 fun a s1 h2 => by
    show wVar i ρ (μ s1) _ E
    unfold wVar; rw [hi]
    show d (e1 a) (.ref p) (μ s1) k
    obtain ⟨N, h0, e1', h3⟩ := h s1
    have q' : ∀ x, (rest x s1).wx E Q → k (e x) (mu N p (c (get s1))) := fun x g => by rw [← e1']; exact q x s1 g
    rw [e1']
    exact hd _ _ N k E Q _ h2 q'
/-- cell op x -/
theorem ej_opC1 {T τ1 τ : Type} {d : D2} {p : Addr} {c : T → Cell} {get : S → T} {put : S → T → S} {e1 : τ1 → D} {e : τ → D} {f : T → τ1 → (τ → Res β) → Res β} {i : Nat} {wa : W} {Ca : (τ1 → S → Res β) → Res β} (h : CA μ p c get put) (hi : ρ[i]? = some (some (.ref p))) (hd : ∀ a t N (k : D → Mem → Prop) (E : XP) (Q : β → Prop) (rest : τ → Res β), (f t a rest).wx E Q → (∀ x, (rest x).wx E Q → k (e x) (mu N p (c t))) → d (.ref p) (e1 a) (mu N p (c t)) k) (ha : EJ μ ρ s wa e1 Ca) : EJ μ ρ s (wOp d (wVar i) wa) e fun rest => Ca fun a s1 => f (get s1) a fun x => rest x s1 := fun k E Q rest h1 q => by
  show wVar i ρ (μ s) _ E
  unfold wVar; rw [hi]
  refine ha _ E Q _ h1 fun a s1 h2 => ?_
  show d (.ref p) (e1 a) (μ s1) k
  obtain ⟨N, h0, e1', h3⟩ := h s1
  have q' : ∀ x, (rest x s1).wx E Q → k (e x) (mu N p (c (get s1))) := fun x g => by rw [← e1']; exact q x s1 g
  rw [e1']
  exact hd _ _ N k E Q _ h2 q'
section
variable {p : Addr} {τ : Type} {e : τ → D}
theorem c_eq [DecidableEq τ] {n : Nat} {q : τ → PyData} (hp : PDat e n q) (hn : n ≤ 63) (b : List τ) (t : List τ) (N : Mem) (k : Bool → Prop) (h : k (decide (t = b))) : eqD (.ref p) (eL e b) (mu N p (cL e t)) k :=
  eq_ref mu_same (pk_lst (pka_map hp t)) (pk_lst (pka_map hp b)) (by omega) (by omega) (by
    have z : PyData.eqv (.list (t.map q)) (.list (b.map q)) = decide (t = b) := by rw [Bool.eq_iff_iff, (pd_L hp).eqv]; simp
    rw [z]; exact h)
theorem oc_eq [DecidableEq τ] {n : Nat} {q : τ → PyData} (hp : PDat e n q) (hn : n ≤ 63) : ∀ (a : List τ) (t : List τ) N (k : D → Mem → Prop) (E : XP) (Q : β → Prop) (rest : Bool → Res β), (rest (decide (t = a))).wx E Q → (∀ x, (rest x).wx E Q → k (.bl x) (mu N p (cL e t))) → dEq (.ref p) (eL e a) (mu N p (cL e t)) k := fun a t N k E Q rest h g => c_eq hp hn a t N _ (g _ h)
theorem oc_ne [DecidableEq τ] {n : Nat} {q : τ → PyData} (hp : PDat e n q) (hn : n ≤ 63) : ∀ (a : List τ) (t : List τ) N (k : D → Mem → Prop) (E : XP) (Q : β → Prop) (rest : Bool → Res β), (rest (!decide (t = a))).wx E Q → (∀ x, (rest x).wx E Q → k (.bl x) (mu N p (cL e t))) → dNe (.ref p) (eL e a) (mu N p (cL e t)) k := fun a t N k E Q rest h g => c_eq hp hn a t N _ (g _ h)
theorem oc_inI : ∀ (a : Int) (t : List Int) N (k : D → Mem → Prop) (E : XP) (Q : β → Prop) (rest : Bool → Res β), (rest (decide (a ∈ t))).wx E Q → (∀ x, (rest x).wx E Q → k (.bl x) (mu N p (cL D.int t))) → dIn (.int a) (.ref p) (mu N p (cL D.int t)) k := fun a t N k E Q rest h g => cell_mu (ints_of (g _ h))
theorem oc_ninI : ∀ (a : Int) (t : List Int) N (k : D → Mem → Prop) (E : XP) (Q : β → Prop) (rest : Bool → Res β), (rest (!decide (a ∈ t))).wx E Q → (∀ x, (rest x).wx E Q → k (.bl x) (mu N p (cL D.int t))) → dNin (.int a) (.ref p) (mu N p (cL D.int t)) k := fun a t N k E Q rest h g => cell_mu (ints_of (g _ h))
theorem oc_addL : ∀ (a : List τ) (t : List τ) N (k : D → Mem → Prop) (E : XP) (Q : β → Prop) (rest : List τ → Res β), ((addL t a).bind rest).wx E Q → (∀ x, (rest x).wx E Q → k (eL e x) (mu N p (cL e t))) → dAdd false (.ref p) (eL e a) (mu N p (cL e t)) k := fun a t N k E Q rest h g => by
  obtain ⟨h1, h2⟩ := ite_wp h
  have z := g _ h2
  exact cell_mu (sz (by rw [List.length_map, List.length_map]; exact h1) (by rw [← List.map_append]; exact z))
end
/-! a call that changes a cell -/
theorem ej_fnM {T τ υ : Type} {n m : Nat} {wf : WF} {wc : WC} {ea eb : τ → List D} {e : υ → D} {p : Addr} {c : T → Cell} {get : S → T} {put : S → T → S} {C : (τ → S → Res β) → Res β} (ha : CJ μ ρ s wc ea eb C) (mf : τ → T → Res (υ × T)) (h : CA μ p c get put) (hk : ∀ x P, P → Ck n (ea x) (Ck m (eb x) P)) (hw : ∀ x N t (k : D → Mem → Prop) E, N p = none → (mf x t).wx E (fun r => k (e r.1) (mu N p (c r.2))) → wf (ea x) (mu N p (c t)) k E) :
    EJ μ ρ s (wFn n m wf wc) e fun rest => C fun x s1 => (mf x (get s1)).bind fun r => rest r.1 (put s1 r.2) := fun k E Q rest h0 q =>
  ha _ E Q _ h0 fun x s1 h1 => hk x _ (by
    obtain ⟨N, h2, h3, h4⟩ := h s1
    rw [wx_bind] at h1
    rw [h3]
    exact hw x N _ k E h2 (h1.mono fun r h5 => by rw [← h4]; exact q _ _ h5))
/-! ### statements -/
def BJ (μ : S → Mem) (ρ : St') (s : S) (ws : WS) (Φ : Ps → β → Prop) (m : Res β) : Prop := ∀ P E, m.wx E (Φ P) → ws ρ (μ s) P E
/-- what a def's end says -/
def Φd {υ : Type} (e : υ → D) (M : υ → Mem) : Ps → υ → Prop := fun P r => P.rt (e r) (M r) ∧ ∀ ρ', e r = .non → P.nx ρ' (M r)
theorem Φd.of {υ : Type} {e : υ → D} {M : υ → Mem} {k : D → Mem → Prop} {r : υ} (h : k (e r) (M r)) : Φd e M { nx := fun _ M' => k .non M', rt := k } r := ⟨h, fun _ e1 => by rw [← e1]; exact h⟩
variable {Φ : Ps → β → Prop}
theorem bj_one {w : WS} {m : Res β} (h : BJ μ ρ s (wSeq w wNext) Φ m) : BJ μ ρ s w Φ m := h
theorem bj_assoc {a b c : WS} {m : Res β} (h : BJ μ ρ s (wSeq a (wSeq b c)) Φ m) : BJ μ ρ s (wSeq (wSeq a b) c) Φ m := h
theorem bj_skip {t : WS} {m : Res β} (h : BJ μ ρ s t Φ m) : BJ μ ρ s (wSeq wNext t) Φ m := h
theorem bj_kill {l : List Nat} {t : WS} {m : Res β} (h : BJ μ (wipe' ρ l) s t Φ m) : BJ μ ρ s (wKill l t) Φ m := h
theorem bj_killS {l : List Nat} {t u : WS} {m : Res β} (h : BJ μ (wipe' ρ l) s (wSeq t u) Φ m) : BJ μ ρ s (wSeq (wKill l t) u) Φ m := h
theorem bj_asg {τ : Type} {e : τ → D} {i : Nat} {we : W} {t : WS} {C : (τ → S → Res β) → Res β} {mT : τ → S → Res β} (h : EJ μ ρ s we e C) (hT : ∀ a s', BJ μ (ρ.set i (some (e a))) s' t Φ (mT a s')) : BJ μ ρ s (wSeq (wAsg we (wgName i)) t) Φ (C fun a s' => mT a s') := fun P E hm =>
  h _ E _ _ hm fun a s' h2 => hT a s' P E h2
theorem bj_asgG {τ : Type} {e : τ → D} {wg : WG} {we : W} {t : WS} {C : (τ → S → Res β) → Res β} {ρt : τ → St'} {mT : τ → S → Res β} (h : EJ μ ρ s we e C) (hg : ∀ a, GJ wg (e a) ρ (ρt a)) (hT : ∀ a s', BJ μ (ρt a) s' t Φ (mT a s')) : BJ μ ρ s (wSeq (wAsg we wg) t) Φ (C fun a s' => mT a s') := fun P E hm =>
  h _ E _ _ hm fun a s' h2 => hg a _ _ E (hT a s' P E h2)
theorem bj_par {τ1 τ2 : Type} {e1 : τ1 → D} {e2 : τ2 → D} {i j : Nat} {wa : WA} {t : WS} {C : (τ1 × τ2 → S → Res β) → Res β} {mT : τ1 × τ2 → S → Res β} (h : AJ μ ρ s wa (fun p => [e1 p.1, e2 p.2]) C) (hT : ∀ a s', BJ μ ((ρ.set i (some (e1 a.1))).set j (some (e2 a.2))) s' t Φ (mT a s')) : BJ μ ρ s (wSeq (wPar i j wa) t) Φ (C fun a s' => mT a s') := fun P E hm =>
  h _ E _ _ hm fun a s' h2 => hT a s' P E h2
theorem bj_par3 {τ1 τ2 τ3 : Type} {e1 : τ1 → D} {e2 : τ2 → D} {e3 : τ3 → D} {i j l : Nat} {wa : WA} {t : WS} {C : (τ1 × τ2 × τ3 → S → Res β) → Res β} {mT : τ1 × τ2 × τ3 → S → Res β} (h : AJ μ ρ s wa (fun p => [e1 p.1, e2 p.2.1, e3 p.2.2]) C) (hT : ∀ a s', BJ μ (((ρ.set i (some (e1 a.1))).set j (some (e2 a.2.1))).set l (some (e3 a.2.2))) s' t Φ (mT a s')) : BJ μ ρ s (wSeq (wPar3 i j l wa) t) Φ (C fun a s' => mT a s') := fun P E hm =>
  h _ E _ _ hm fun a s' h2 => hT a s' P E h2
theorem bj_drop {τ : Type} {e : τ → D} {we : W} {t : WS} {C : (τ → S → Res β) → Res β} {mT : τ → S → Res β} (h : EJ μ ρ s we e C) (hT : ∀ a s', BJ μ ρ s' t Φ (mT a s')) : BJ μ ρ s (wSeq (wDrop we) t) Φ (C fun a s' => mT a s') := fun P E hm =>
  h _ E _ _ hm fun a s' h2 => hT a s' P E h2
theorem bj_ret {τ : Type} {e : τ → D} {we : W} {t : WS} {C : (τ → S → Res β) → Res β} {fin : τ → S → β} (h : EJ μ ρ s we e C) (hΦ : ∀ P a s', Φ P (fin a s') → P.rt (e a) (μ s')) : BJ μ ρ s (wSeq (wRet we) t) Φ (C fun a s' => .ok (fin a s')) := fun P E hm =>
  h _ E _ _ hm fun a s' h2 => hΦ P a s' h2
/-- own cells are forgotten -/
theorem bj_retD {τ : Type} {e : τ → D} {we : W} {t : WS} {l : List Nat} {C : (τ → S → Res β) → Res β} {fin : τ → S → β} (h : EJ μ ρ s we e C) (hΦ : ∀ P a s', Φ P (fin a s') → drops l ρ (μ s') fun M2 => P.rt (e a) M2) : BJ μ ρ s (wSeq (wRet (wDp l we)) t) Φ (C fun a s' => .ok (fin a s')) := fun P E hm =>
  h _ E _ _ hm fun a s' h2 => hΦ P a s' h2
/-- a cell of one's own is handed out, frozen -/
theorem bj_retF {t : WS} {i : Nat} {p : Addr} {fin : S → β} (hi : ρ[i]? = some (some (.ref p))) (hΦ : ∀ P s', Φ P (fin s') → frzD (.ref p) (μ s') fun y M1 => P.rt y M1) : BJ μ ρ s (wSeq (wRet (wFz (wVar i))) t) Φ (.ok (fin s)) := fun P E hm => by
  unfold wSeq wRet
  simp only [wFz, wDp]
  show wVar i ρ (μ s) _ E
  unfold wVar; rw [hi]
  exact hΦ P s hm
theorem bj_retFD {t : WS} {i : Nat} {l : List Nat} {p : Addr} {fin : S → β} (hi : ρ[i]? = some (some (.ref p))) (hΦ : ∀ P s', Φ P (fin s') → frzD (.ref p) (μ s') fun y M1 => drops l ρ M1 fun M2 => P.rt y M2) : BJ μ ρ s (wSeq (wRet (wDp l (wFz (wVar i)))) t) Φ (.ok (fin s)) := fun P E hm => by
  unfold wSeq wRet
  simp only [wFz, wDp]
  show wVar i ρ (μ s) _ E
  unfold wVar; rw [hi]
  exact hΦ P s hm
theorem bj_retN {t : WS} {b : β} (hΦ : ∀ P, Φ P b → P.rt .non (μ s)) : BJ μ ρ s (wSeq wRetN t) Φ (.ok b) := fun P E hm => hΦ P hm
theorem bj_end {b : β} (hΦ : ∀ P, Φ P b → P.nx ρ (μ s)) : BJ μ ρ s wNext Φ (.ok b) := fun P E hm => hΦ P hm
theorem bj_never {t : WS} : BJ μ ρ s (wSeq wNever t) Φ (.no) := fun P E hm => hm.elim
theorem bj_if {wt : WT} {a b t : WS} {Ct : (Bool → S → Res β) → Res β} {m1 m2 : S → Res β} (ht : TJ μ ρ s wt Ct) (ha : ∀ s', BJ μ ρ s' (wSeq a t) Φ (m1 s')) (hb : ∀ s', BJ μ ρ s' (wSeq b t) Φ (m2 s')) : BJ μ ρ s (wSeq (wIfS wt a b) t) Φ (Ct fun c s' => if c then m1 s' else m2 s') := fun P E hm =>
  ht _ E _ _ hm fun c s' h2 => by
    cases c with
    | true => exact br_t (ha s' P E h2)
    | false => exact br_f (hb s' P E h2)
/-- both ways go on: joined -/
def Φj {σ : Type} (μ : S → Mem) (l : List Nat) (ρj : σ → St') : Ps → σ × S → Prop := fun P v => ∀ ρ', wipe' ρ' l = ρj v.1 → P.nx ρ' (μ v.2)
theorem bj_ifJ {σ : Type} {wt : WT} {a b t : WS} {l : List Nat} {ρj : σ → St'} {Ct : (Bool → S → Res (σ × S)) → Res (σ × S)} {m1 m2 : S → Res (σ × S)} {mT : σ → S → Res β} (ht : TJ μ ρ s wt Ct) (ha : ∀ s', BJ μ ρ s' a (Φj μ l ρj) (m1 s')) (hb : ∀ s', BJ μ ρ s' b (Φj μ l ρj) (m2 s')) (hT : ∀ v s', BJ μ (ρj v) s' t Φ (mT v s')) :
    BJ μ ρ s (wSeq (wIfS wt a b) (wKill l t)) Φ ((Ct fun c s' => if c then m1 s' else m2 s').bind fun v => mT v.1 v.2) := fun P E hm => by
  rw [wx_bind] at hm
  have go : ∀ v : σ × S, (mT v.1 v.2).wx E (Φ P) → Φj μ l ρj { P with nx := fun ρ' M' => wKill l t ρ' M' P E } v := fun v h ρ' e => by
    show t (wipe' ρ' l) (μ v.2) P E
    rw [e]; exact hT _ _ P E h
  refine ht _ E _ _ hm fun c s' h2 => ?_
  cases c with
  | true => exact br_t (ha s' _ E (h2.mono go))
  | false => exact br_f (hb s' _ E (h2.mono go))
theorem bj_jn {σ : Type} {l : List Nat} {ρj : σ → St'} {v : σ} (h : wipe' ρ l = ρj v) : BJ μ ρ s wNext (Φj μ l ρj) (.ok (v, s)) := fun P E hm => hm ρ h
/-! ### loops -/
inductive Flow (σ S β : Type) where
  | nx (v : σ) (s : S)
  | bk (v : σ) (s : S)
  | rt (b : β)
def ΦL {σ : Type} (μ : S → Mem) (ks : List Nat) (ρh : σ → St') (Φ : Ps → β → Prop) : Ps → Flow σ S β → Prop
  | P, .nx v s => ∀ ρ', wipe' ρ' ks = ρh v → P.nx ρ' (μ s) ∧ P.ct ρ' (μ s)
  | P, .bk v s => ∀ ρ', wipe' ρ' ks = ρh v → P.bk ρ' (μ s)
  | P, .rt b => ∃ P0 : Ps, P0.rt = P.rt ∧ Φ P0 b
def forR {σ τ : Type} (step : σ → S → τ → Res (Flow σ S β)) (rest : σ → S → Res β) : List τ → σ → S → Res β
  | [], v, s => rest v s
  | x :: xs, v, s => (step v s x).bind fun r => match r with
    | .nx v s => forR step rest xs v s
    | .bk v s => rest v s
    | .rt b => .ok b
theorem bj_nx {σ : Type} {ks : List Nat} {ρh : σ → St'} {v : σ} (h : wipe' ρ ks = ρh v) : BJ μ ρ s wNext (ΦL μ ks ρh Φ) (.ok (.nx v s)) := fun P E hm => (hm ρ h).1
theorem bj_ct {σ : Type} {ks : List Nat} {ρh : σ → St'} {v : σ} {t : WS} (h : wipe' ρ ks = ρh v) : BJ μ ρ s (wSeq wCont t) (ΦL μ ks ρh Φ) (.ok (.nx v s)) := fun P E hm => (hm ρ h).2
theorem bj_bk {σ : Type} {ks : List Nat} {ρh : σ → St'} {v : σ} {t : WS} (h : wipe' ρ ks = ρh v) : BJ μ ρ s (wSeq wBrk t) (ΦL μ ks ρh Φ) (.ok (.bk v s)) := fun P E hm => hm ρ h
theorem bj_for {σ τ : Type} {ei : τ → D} {wi : WI} {wg : WG} {wb t : WS} {ks : List Nat} {ρh : σ → St'} {ρt : σ → τ → St'} {Ci : (List τ → S → Res β) → Res β} {step : σ → S → τ → Res (Flow σ S β)} {mT : σ → S → Res β} (v0 : σ)
    (hi : IJ μ ρ s wi ei Ci) (h0 : wipe' ρ ks = ρh v0) (hg : ∀ v x, GJ wg (ei x) (ρh v) (ρt v x)) (hb : ∀ v s x, BJ μ (ρt v x) s wb (ΦL μ ks ρh Φ) (step v s x)) (hT : ∀ v s, BJ μ (ρh v) s t Φ (mT v s)) :
    BJ μ ρ s (wSeq (wFor wi wg wb ks) t) Φ (Ci fun xs s1 => forR step mT xs v0 s1) := fun P E hm =>
  hi _ E _ _ hm fun xs s1 h1 => by
    rw [h0]
    have key : ∀ (xs : List τ) (v : σ) (s1 : S), (forR step mT xs v s1).wx E (Φ P) → loopS [] wg wb ks { P with nx := fun ρ' M' => t ρ' M' P E } E (xs.map ei) (ρh v) (μ s1) := fun xs => by
      induction xs with
      | nil => exact fun v s1 h => hT v s1 P E h
      | cons x xs ih =>
        intro v s1 h
        show wg (ei x) (ρh v) (μ s1) _ E
        refine hg v x _ _ E (hb v s1 x _ E ?_)
        unfold forR at h
        rw [wx_bind] at h
        refine h.mono fun r h2 => ?_
        cases r with
        | nx v' s' =>
          have z := ih v' s' h2
          exact fun ρ' e => by
            show loopS [] wg wb ks _ E (xs.map ei) (wipe' ρ' ks) (μ s') ∧ loopS [] wg wb ks _ E (xs.map ei) (wipe' ρ' ks) (μ s')
            rw [e]; exact ⟨z, z⟩
        | bk v' s' =>
          exact fun ρ' e => by
            show t (wipe' ρ' ks) (μ s') P E
            rw [e]; exact hT v' s' P E h2
        | rt b => exact ⟨P, rfl, h2⟩
    exact key xs v0 s1 h1
def whN {σ : Type} (cond : σ → S → Res Bool) (body : σ → S → Res (Flow σ S β)) : Nat → σ → S → Res (Flow σ S β)
  | 0, _, _ => .no
  | n + 1, v, s => (cond v s).bind fun b => if b then (body v s).bind fun r => match r with
    | .nx v s => whN cond body n v s
    | .bk v s => .ok (.nx v s)
    | .rt b => .ok (.rt b) else .ok (.nx v s)
open Classical in
noncomputable def whR {σ : Type} (cond : σ → S → Res Bool) (body : σ → S → Res (Flow σ S β)) (v : σ) (s : S) : Res (Flow σ S β) := if h : ∃ n r, whN cond body n v s = .ok r then whN cond body h.choose v s else .no
theorem whN_mono {σ : Type} {cond : σ → S → Res Bool} {body : σ → S → Res (Flow σ S β)} : ∀ {n : Nat} {v : σ} {s : S} {r : Flow σ S β} (m : Nat), whN cond body n v s = .ok r → n ≤ m → whN cond body m v s = .ok r
  | 0, _, _, _, _, h, _ => by cases h
  | n + 1, v, s, r, 0, h, hm => absurd hm (by omega)
  | n + 1, v, s, r, m + 1, h, hm => by
    unfold whN at h ⊢
    cases e : cond v s with
    | ok b =>
      rw [e] at h
      rw [bind_ok] at h ⊢
      cases b with
      | false => exact h
      | true =>
        rw [if_pos rfl] at h ⊢
        cases e2 : body v s with
        | ok q =>
          rw [e2] at h
          rw [bind_ok] at h ⊢
          cases q with
          | nx v' s' => exact whN_mono m h (by omega)
          | bk v' s' => exact h
          | rt b => exact h
        | ex x => rw [e2] at h; cases h
        | no => rw [e2] at h; cases h
    | ex x => rw [e] at h; cases h
    | no => rw [e] at h; cases h
theorem whR_of {σ : Type} {cond : σ → S → Res Bool} {body : σ → S → Res (Flow σ S β)} {n : Nat} {v : σ} {s : S} {r : Flow σ S β} (h : whN cond body n v s = .ok r) : whR cond body v s = .ok r := by
  unfold whR
  have hx : ∃ n r, whN cond body n v s = .ok r := ⟨n, r, h⟩
  rw [dif_pos hx]
  obtain ⟨r', e⟩ := hx.choose_spec
  rcases Nat.le_total n hx.choose with c | c
  · exact whN_mono _ h c
  · have z := whN_mono _ e c
    rw [h] at z; cases z; exact e
theorem whR_ex {σ : Type} {cond : σ → S → Res Bool} {body : σ → S → Res (Flow σ S β)} {v : σ} {s : S} {Q : Flow σ S β → Prop} (h : (whR cond body v s).wx E Q) : ∃ n, (whN cond body n v s).wx E Q := by
  unfold whR at h
  split at h
  · exact ⟨_, h⟩
  · cases h
def afterR {σ : Type} (rest : σ → S → Res β) : Flow σ S β → Res β
  | .nx v s => rest v s
  | .bk v s => rest v s
  | .rt b => .ok b
theorem bj_while {σ : Type} {wt : WT} {wb t : WS} {ks : List Nat} {ρh : σ → St'} {Ct : σ → S → (Bool → S → Res Bool) → Res Bool} (Ct' : σ → S → (Bool → Res Bool) → Res Bool) {body : σ → S → Res (Flow σ S β)} {mT : σ → S → Res β} (v0 : σ)
    (h0 : wipe' ρ ks = ρh v0) (ht : ∀ v s, TJ μ (ρh v) s wt (Ct v s)) (he : ∀ v s rest, Ct v s rest = Ct' v s fun y => rest y s) (hb : ∀ v s, BJ μ (ρh v) s wb (ΦL μ ks ρh Φ) (body v s)) (hT : ∀ v s, BJ μ (ρh v) s t Φ (mT v s)) :
    BJ μ ρ s (wSeq (wWhile wt wb ks) t) Φ ((whR (fun v s => Ct' v s fun y => .ok y) body v0 s).bind (afterR mT)) := fun P E hm => by
  rw [wx_bind] at hm
  obtain ⟨n, h⟩ := whR_ex hm
  refine ⟨n, ?_⟩
  rw [h0]
  have key : ∀ (n : Nat) (v : σ) (s : S), (whN (fun v s => Ct' v s fun y => .ok y) body n v s).wx E (fun r => (afterR mT r).wx E (Φ P)) → whileN wt wb ks { P with nx := fun ρ' M' => t ρ' M' P E } E n (ρh v) (μ s) := fun n => by
    induction n with
    | zero => exact fun v s h => h.elim
    | succ n ih =>
      intro v s h
      unfold whN at h
      rw [wx_bind] at h
      refine keep (G := fun k => wt (ρh v) (μ s) k E) (fun k Q rest => ht v s k E Q rest) (he v s) h fun b h1 => ?_
      cases b with
      | false => exact br_f (hT v s P E h1)
      | true =>
        have h1 : ((body v s).bind fun r => match r with
          | .nx v s => whN (fun v s => Ct' v s fun y => .ok y) body n v s
          | .bk v s => .ok (.nx v s)
          | .rt b => .ok (.rt b)).wx E (fun r => (afterR mT r).wx E (Φ P)) := h1
        rw [wx_bind] at h1
        refine br_t (hb v s _ E (h1.mono fun r h2 => ?_))
        cases r with
        | nx v' s' =>
          have z := ih v' s' h2
          exact fun ρ' e => by
            show whileN wt wb ks _ E n (wipe' ρ' ks) (μ s') ∧ whileN wt wb ks _ E n (wipe' ρ' ks) (μ s')
            rw [e]; exact ⟨z, z⟩
        | bk v' s' =>
          exact fun ρ' e => by
            show t (wipe' ρ' ks) (μ s') P E
            rw [e]; exact hT v' s' P E h2
        | rt b => exact ⟨P, rfl, h2⟩
  exact key n v0 s h
theorem rtL {σ : Type} {ks : List Nat} {ρh : σ → St'} {b : β} (F : (D → Mem → Prop) → Prop) (h : ∀ P : Ps, Φ P b → F P.rt) (P : Ps) (g : ΦL μ ks ρh Φ P (.rt b)) : F P.rt := by
  obtain ⟨P0, e, g⟩ := g
  rw [← e]; exact h P0 g
/-! ### changing cells -/
theorem bj_app {τ : Type} {e : τ → D} {p : Addr} {get : S → List τ} {put : S → List τ → S} {i : Nat} {we : W} {t : WS} {C : (τ → S → Res β) → Res β} {mT : S → Res β} (h : CA μ p (cL e) get put) (hi : ρ[i]? = some (some (.ref p))) (ha : EJ μ ρ s we e C) (hT : ∀ s', BJ μ ρ s' t Φ (mT s')) : BJ μ ρ s (wSeq (wDrop (wBL dApp (wVar i) (waCons we waNil))) t) Φ (C fun a s' => (appR (get s') a).bind fun l => mT (put s' l)) := fun P E hm => by
  unfold wSeq wDrop wBL
  show wVar i ρ (μ s) _ E
  unfold wVar; rw [hi]
  show tyL (.ref p) (μ s) _
  refine cell_of (h.at s) (ha _ E _ _ hm fun a s' h2 => ?_)
  obtain ⟨h3, h4⟩ := ite_wp h2
  refine cell_of (h.at s') (sz (by rw [List.length_map]; exact h3) ?_)
  obtain ⟨N, e0, e1, e2⟩ := h s'
  rw [e1]
  refine mun_mu ?_
  have z := hT _ P E h4
  rw [e2, show cL e (get s' ++ [a]) = .lst ((get s').map e ++ [e a]) by simp] at z
  exact z
theorem bj_ext {τ : Type} {e : τ → D} {p : Addr} {get : S → List τ} {put : S → List τ → S} {i : Nat} {we : W} {t : WS} {C : (List τ → S → Res β) → Res β} {mT : S → Res β} (h : CA μ p (cL e) get put) (hi : ρ[i]? = some (some (.ref p))) (ha : EJ μ ρ s we (eL e) C) (hT : ∀ s', BJ μ ρ s' t Φ (mT s')) : BJ μ ρ s (wSeq (wDrop (wBL dExt (wVar i) (waCons we waNil))) t) Φ (C fun a s' => (addL (get s') a).bind fun l => mT (put s' l)) := fun P E hm => by
  unfold wSeq wDrop wBL
  show wVar i ρ (μ s) _ E
  unfold wVar; rw [hi]
  show tyL (.ref p) (μ s) _
  refine cell_of (h.at s) (ha _ E _ _ hm fun a s' h2 => ?_)
  obtain ⟨h3, h4⟩ := ite_wp h2
  refine cell_of (h.at s') (sz (by rw [List.length_map, List.length_map]; exact h3) ?_)
  obtain ⟨N, e0, e1, e2⟩ := h s'
  rw [e1]
  refine mun_mu ?_
  have z := hT _ P E h4
  rw [e2, show cL e (get s' ++ a) = .lst ((get s').map e ++ a.map e) by simp] at z
  exact z
theorem bj_set {τ : Type} {e : τ → D} {p : Addr} {get : S → List τ} {put : S → List τ → S} {i : Nat} {we wi : W} {t : WS} {C : (τ → S → Res β) → Res β} {Ci : τ → S → (Int → S → Res β) → Res β} {mT : S → Res β} (h : CA μ p (cL e) get put) (hi : ρ[i]? = some (some (.ref p))) (ha : EJ μ ρ s we e C) (hj : ∀ a s1, EJ μ ρ s1 wi D.int (Ci a s1)) (hT : ∀ s', BJ μ ρ s' t Φ (mT s')) : BJ μ ρ s (wSeq (wAsg we (wgSub (wVar i) wi)) t) Φ (C fun a s1 => Ci a s1 fun j s' => (setR (get s') j a).bind fun l => mT (put s' l)) := fun P E hm =>
  ha _ E _ _ hm fun a s1 h1 => by
    show wVar i ρ (μ s1) _ E
    unfold wVar; rw [hi]
    refine hj a s1 _ E _ _ h1 fun j s' h2 => ?_
    obtain ⟨N, e0, e1, e2⟩ := h s'
    show setD (.ref p) (.int j) (e a) (μ s') _
    have h2 : ((setR (get s') j a).bind fun l => mT (put s' l)).wx E (Φ P) := h2
    unfold setR at h2
    split at h2
    · rename_i n hn
      have z := hT _ P E (show (mT (put s' ((get s').set n a))).wx E (Φ P) from h2)
      rw [e2, show cL e ((get s').set n a) = .lst (((get s').map e).set n (e a)) by simp [List.map_set]] at z
      rw [e1]
      exact set_mu (n := n) (by rw [List.length_map]; exact hn) z
    · cases h2
/-- a written place of a cell whose items are of unlike kinds -/
theorem bj_setk {T τ : Type} {e : τ → D} {p : Addr} {c : T → Cell} {get : S → T} {put : S → T → S} {i : Nat} {j : Int} {we : W} {t : WS} {C : (τ → S → Res β) → Res β} {mT : S → Res β} (upd : T → τ → T) (h : CA μ p c get put) (hi : ρ[i]? = some (some (.ref p))) (hd : ∀ t a N (k : Mem → Prop), k (mu N p (c (upd t a))) → setD (.ref p) (.int j) (e a) (mu N p (c t)) k) (ha : EJ μ ρ s we e C) (hT : ∀ s', BJ μ ρ s' t Φ (mT s')) : BJ μ ρ s (wSeq (wAsg we (wgSub (wVar i) (wC (.int j)))) t) Φ (C fun a s' => mT (put s' (upd (get s') a))) := fun P E hm =>
  ha _ E _ _ hm fun a s' h1 => by
    show wVar i ρ (μ s') _ E
    unfold wVar; rw [hi]
    show setD (.ref p) (.int j) (e a) (μ s') _
    obtain ⟨N, e0, e1, e2⟩ := h s'
    have z := hT _ P E h1
    rw [e2] at z
    rw [e1]
    exact hd _ _ _ _ z
/-- a new cell -/
def NJ {T : Type} (μ : S → Mem) (ρ : St') (s : S) (we : W) (c : T → Cell) (C : (T → S → Res β) → Res β) : Prop :=
  ∀ (k : D → Mem → Prop) (E : XP) (Q : β → Prop) (rest : T → S → Res β), (C rest).wx E Q → (∀ a s', (rest a s').wx E Q → ∀ p, μ s' p = none → k (.ref p) (mu (μ s') p (c a))) → we ρ (μ s) k E
theorem bj_new {T : Type} {c : T → Cell} {i : Nat} {we : W} {t : WS} {C : (T → S → Res β) → Res β} {mT : T → S → Res β} (hD : DI μ) (h : NJ μ ρ s we c C) (hT : ∀ a s' p (μ' : S × T → Mem), NewC μ μ' p c → BJ μ' (ρ.set i (some (.ref p))) (s', a) t Φ (mT a s')) : BJ μ ρ s (wSeq (wAsg we (wgName i)) t) Φ (C fun a s' => mT a s') := fun P E hm =>
  h _ E _ _ hm fun a s' h2 p hp => hT a s' p (fun q => mu (μ q.1) p (c q.2)) ⟨fun s => hD _ _ _ hp, fun _ => rfl⟩ P E h2
theorem nj_lst {T : Type} {c : T → Cell} {ea : T → List D} {wa : WA} {C : (T → S → Res β) → Res β} (h : AJ μ ρ s wa ea C) (hl : ∀ a, (ea a).length ≤ 16777216) (hc : ∀ a, c a = .lst (ea a)) : NJ μ ρ s (wLst true wa) c C := fun k E Q rest h1 q =>
  h _ E Q _ h1 fun a s' h2 => sz (hl a) fun p hp => by rw [← hc]; exact q a s' h2 p hp
theorem nj_lstL {τ : Type} {e : τ → D} {wa : WA} {n : Nat} {C : (List τ → S → Res β) → Res β} (h : LJ μ ρ s wa e n C) (hn : n ≤ 16777216) : NJ μ ρ s (wLst true wa) (cL e) C := fun k E Q rest h1 q =>
  h _ E Q _ h1 fun a s1 hl h2 => sz (by rw [List.length_map]; omega) fun p hp => q a s1 h2 p hp
theorem nj_list {τ : Type} {e : τ → D} {we : W} {C : (List τ → S → Res β) → Res β} (h : EJ μ ρ s we (eL e) C) : NJ μ ρ s (wCB (b1 (dList true)) (waCons we waNil)) (cL e) C := fun k E Q rest h1 q =>
  h _ E Q _ h1 fun a s1 h2 p hp => q a s1 h2 p hp
theorem nj_listT {τ : Type} {e : τ → D} {we : W} {C : (List τ → S → Res β) → Res β} (h : EJ μ ρ s we (eT e) C) : NJ μ ρ s (wCB (b1 (dList true)) (waCons we waNil)) (cL e) C := fun k E Q rest h1 q =>
  h _ E Q _ h1 fun a s1 h2 p hp => q a s1 h2 p hp
theorem bj_retN' {T : Type} {c : T → Cell} {we : W} {t : WS} {C : (T → S → Res β) → Res β} {fin : T → S → β} (h : NJ μ ρ s we c C) (hΦ : ∀ P a s', Φ P (fin a s') → ∀ p, μ s' p = none → P.rt (.ref p) (mu (μ s') p (c a))) : BJ μ ρ s (wSeq (wRet we) t) Φ (C fun a s' => .ok (fin a s')) := fun P E hm =>
  h _ E _ _ hm fun a s' h2 p hp => hΦ P a s' h2 p hp
/-- a call that hands out a new cell -/
theorem nj_fn {τ T : Type} {n m : Nat} {wf : WF} {wc : WC} {ea eb : τ → List D} {c : T → Cell} {C : (τ → S → Res β) → Res β} (ha : CJ μ ρ s wc ea eb C) (mf : τ → Res T) (hk : ∀ x P, P → Ck n (ea x) (Ck m (eb x) P)) (hw : ∀ x M (k : D → Mem → Prop) E, (mf x).wx E (fun r => ∀ p, M p = none → k (.ref p) (mu M p (c r))) → wf (ea x) M k E) :
    NJ μ ρ s (wFn n m wf wc) c fun rest => C fun x s1 => (mf x).bind fun r => rest r s1 := fun k E Q rest h q =>
  ha _ E Q _ h fun x s1 h1 => hk x _ (hw x _ k E (by rw [wx_bind] at h1; exact h1.mono fun r h2 => q r s1 h2))
/-- a comprehension's list, to be changed later -/
theorem nj_lcS {τ υ : Type} {ei : τ → D} {eo : υ → D} {wi : WI} {wg : WG} {wt : WT} {we : W} {us : List Nat} {ρt : τ → St'} {Ci : (List τ → S → Res β) → Res β} {Ct : τ → S → (Bool → S → Res (Option υ × S)) → Res (Option υ × S)} {Ce : τ → S → (υ → S → Res (Option υ × S)) → Res (Option υ × S)}
    (hi : IJ μ ρ s wi ei Ci) (hg : ∀ x, GJ wg (ei x) (wipe' ρ us) (ρt x)) (ht : ∀ x s, TJ μ (ρt x) s wt (Ct x s)) (he : ∀ x s, EJ μ (ρt x) s we eo (Ce x s)) :
    NJ μ ρ s (wLc true wi wg wt we us) (cL eo) fun rest => Ci fun xs s1 => (lcS (fun x s => Ct x s fun b s1 => if b then Ce x s1 fun y s2 => .ok (some y, s2) else .ok (none, s1)) xs [] s1).bind fun r => rest r.1 r.2 := fun k E Q rest h q =>
  hi _ E Q _ h fun xs s1 h1 => by
    rw [wx_bind] at h1
    exact loopC_S hg ht he xs [] s1 (h1.mono fun r h2 p hp => q _ _ h2 p hp)
end
end Ty

set_option Elab.async false
set_option linter.all false
set_option maxRecDepth 100000
set_option maxHeartbeats 4000000
/-! Making instances; ways that are not gone; chains. -/
namespace Ty
open PySem PySem.Spec PyProof.Rows L2 Rl RZ RT Px
section
variable {S β : Type} {μ : S → Mem} {ρ : St'} {s : S} {Φ : Ps → β → Prop}
theorem bj_no {w : WS} : BJ μ ρ s w Φ .no := fun P E h => h.elim
theorem tj_no {w : WT} : TJ (β := β) μ ρ s w fun _ => .no := fun k E Q rest h q => h.elim
theorem ej_no {τ : Type} {e : τ → D} {w : W} : EJ (β := β) μ ρ s w e fun _ => .no := fun k E Q rest h q => h.elim
theorem aj_no {τ : Type} {e : τ → List D} {w : WA} : AJ (β := β) μ ρ s w e fun _ => .no := fun k E Q rest h q => h.elim
def optR {α γ : Type} (x : Option α) (a : γ) (b : α → γ) : γ := match x with
  | none => a
  | some y => b y
theorem bj_opt {τ : Type} (x : Option τ) (ρf : Option τ → St') {w : WS} {m1 : Res β} {m2 : τ → Res β} (h1 : BJ μ (ρf none) s w Φ m1) (h2 : ∀ y, BJ μ (ρf (some y)) s w Φ (m2 y)) : BJ μ (ρf x) s w Φ (optR x m1 m2) := by
  cases x with
  | none => exact h1
  | some y => exact h2 y
theorem ej_chain {τ1 τ2 τ3 : Type} {d d' : D2} {e1 : τ1 → D} {e2 : τ2 → D} {e3 : τ3 → D} {wa wb wc : W} {Ca : (τ1 → S → Res β) → Res β} {Cb : τ1 → S → (τ2 → S → Res β) → Res β} {c : τ1 → τ2 → S → τ3} {f : τ1 → τ2 → Bool} {g : τ2 → τ3 → Bool}
    (hd : ∀ a b M (k : D → Mem → Prop), k (.bl (f a b)) M → d (e1 a) (e2 b) M k) (hd' : ∀ a b M (k : D → Mem → Prop), k (.bl (g a b)) M → d' (e2 a) (e3 b) M k) (ha : EJ μ ρ s wa e1 Ca) (hb : ∀ a s1, EJ μ ρ s1 wb e2 (Cb a s1)) (hc : ∀ a b s2, EJ (β := β) μ ρ s2 wc e3 fun rest => rest (c a b s2) s2) :
    EJ μ ρ s (wChain d d' wa wb wc) D.bl fun rest => Ca fun a s1 => Cb a s1 fun b s2 => rest (f a b && g b (c a b s2)) s2 := fun k E Q rest h q =>
  ha _ E Q _ h fun a s1 h1 => hb a s1 _ E Q _ h1 fun b s2 h2 => hd a b _ _ (by
    show Br (f a b) _ _
    cases e : f a b with
    | true =>
      refine br_t (hc a b s2 _ E Q (fun x s3 => rest (f a b && g b x) s3) h2 fun x s3 h3 => hd' _ _ _ _ ?_)
      have z := q _ s3 h3
      rw [e] at z; exact z
    | false =>
      have h2 : (rest (f a b && g b (c a b s2)) s2).wx E Q := h2
      have z := q _ s2 h2
      rw [e] at z
      exact br_f z)
theorem k_lt (a b : Int) (M : Mem) (k : D → Mem → Prop) (h : k (.bl (decide (a < b))) M) : dLt (.int a) (.int b) M k := h
theorem k_le (a b : Int) (M : Mem) (k : D → Mem → Prop) (h : k (.bl (decide (a ≤ b))) M) : dLe (.int a) (.int b) M k := h
theorem k_gt (a b : Int) (M : Mem) (k : D → Mem → Prop) (h : k (.bl (decide (a > b))) M) : dGt (.int a) (.int b) M k := h
theorem k_ge (a b : Int) (M : Mem) (k : D → Mem → Prop) (h : k (.bl (decide (a ≥ b))) M) : dGe (.int a) (.int b) M k := h
theorem k_eq (a b : Int) (M : Mem) (k : D → Mem → Prop) (h : k (.bl (decide (a = b))) M) : dEq (.int a) (.int b) M k := h
theorem map_eX {τ : Type} (e : τ → D) (l : List τ) : l.map e = (l.map e).map eX := by rw [List.map_map]; rfl
theorem map_some {τ : Type} (e : τ → D) (l : List τ) : l.map e = (l.map some).map (eO e) := by rw [List.map_map]; rfl
/-! ### making an instance -/
/-- what an __init__'s end says -/
def Φi {υ : Type} (M : υ → Mem) : Ps → υ → Prop := fun P r => P.rt .non (M r) ∧ ∀ ρ', P.nx ρ' (M r)
section
variable {M : Mem} {p : Addr} {c : Str} {ns : List Str} {fs : S → List D}
theorem bj_fset {τ : Type} {e : τ → D} {cs : List Str} {f : Str} {we : W} {t : WS} {C : (τ → S → Res β) → Res β} {mT : τ → S → Res β} (hi : ρ[0]? = some (some (.ref p))) (hl : ∀ q, ns.length = (fs q).length) (hn : ns.contains f = false) (hm : ns.length < 1000) (hc : c ∈ cs) (h : EJ (fun q => mu M p (.ins c ns (fs q))) ρ s we e C)
    (hT : ∀ a s', BJ (fun q : S × τ => mu M p (.ins c (ns ++ [f]) (fs q.1 ++ [e q.2]))) ρ (s', a) t Φ (mT a s')) : BJ (fun q => mu M p (.ins c ns (fs q))) ρ s (wSeq (wSetF cs f (wVar 0) we) t) Φ (C fun a s' => mT a s') := fun P E hm' =>
  h _ E _ _ hm' fun a s' h2 => by
    show wVar 0 ρ _ _ E
    unfold wVar; rw [hi]
    exact att_new hn (hl s') hc hm (hT a s' P E h2)
theorem ej_fldS {τ : Type} {e : τ → D} {f : Str} (g : S → τ) (hi : ρ[0]? = some (some (.ref p))) (hf : ∀ q, fget ns (fs q) f = some (e (g q))) : EJ (β := β) (fun q => mu M p (.ins c ns (fs q))) ρ s (wFld f (wVar 0)) e fun rest => rest (g s) s := fun k E Q rest h q => by
  show wVar 0 ρ _ _ E
  unfold wVar; rw [hi]
  exact cellI_mu (fld (hf s) (q _ s h))
end
end
end Ty

set_option Elab.async false
set_option linter.all false
set_option maxRecDepth 100000
set_option maxHeartbeats 4000000
/-! More: texts within data, and small things. -/
namespace Ty
open PySem PySem.Spec PyProof.Rows L2 Rl RZ RT Px
structure PDg {τ : Type} (e : τ → D) (n : Nat) (p : τ → PyData) (okf : τ → Bool) : Prop where
  pk : ∀ x, okf x = true → Pk n (e x) (p x)
  eqv : ∀ x y, PyData.eqv (p x) (p y) = true ↔ x = y
def okS (z : Str) : Bool := PyData.canLay0 (.str z)
def okA {τ : Type} (_ : τ) : Bool := true
def okL {τ : Type} (f : τ → Bool) (l : List τ) : Bool := l.all f
def ok2 {τ1 τ2 : Type} (f : τ1 → Bool) (g : τ2 → Bool) (p : τ1 × τ2) : Bool := f p.1 && g p.2
theorem pg_of {τ : Type} {e : τ → D} {n : Nat} {p : τ → PyData} (h : PDat e n p) : PDg e n p okA := ⟨fun x _ => h.pk x, h.eqv⟩
theorem pg_str : PDg D.str 0 .str okS := ⟨fun x h => pk_str h, fun x y => by simp [PyData.eqv]⟩
theorem pgk_map {τ : Type} {e : τ → D} {n : Nat} {p : τ → PyData} {f : τ → Bool} (h : PDg e n p f) : ∀ l : List τ, okL f l = true → PkAll n (l.map e) (l.map p)
  | [], _ => pka_nil
  | x :: l, g => by
    have g := Bool.and_eq_true_iff.mp (show (f x && l.all f) = true from g)
    exact pka_cons (h.pk x g.1) (pgk_map h l g.2)
theorem gqv_map {τ : Type} {e : τ → D} {n : Nat} {p : τ → PyData} {f : τ → Bool} (h : PDg e n p f) : ∀ l m : List τ, PyData.eqvAll (l.map p) (m.map p) = true ↔ l = m
  | [], [] => by simp [PyData.eqvAll]
  | [], _ :: _ => by simp [PyData.eqvAll]
  | _ :: _, [] => by simp [PyData.eqvAll]
  | i :: l, j :: m => by
    simp only [List.map_cons, PyData.eqvAll, Bool.and_eq_true, h.eqv, gqv_map h l m, List.cons.injEq]
theorem pg_L {τ : Type} {e : τ → D} {n : Nat} {p : τ → PyData} {f : τ → Bool} (h : PDg e n p f) : PDg (eL e) (n + 1) (fun l => .list (l.map p)) (okL f) := ⟨fun l g => pk_lst (pgk_map h l g), fun l m => by simp only [PyData.eqv, gqv_map h]⟩
theorem pg_T {τ : Type} {e : τ → D} {n : Nat} {p : τ → PyData} {f : τ → Bool} (h : PDg e n p f) : PDg (eT e) (n + 1) (fun l => .tuple (l.map p)) (okL f) := ⟨fun l g => pk_tup (pgk_map h l g), fun l m => by simp only [PyData.eqv, gqv_map h]⟩
theorem pg_T2 {τ1 τ2 : Type} {e1 : τ1 → D} {e2 : τ2 → D} {n1 n2 : Nat} {p1 : τ1 → PyData} {p2 : τ2 → PyData} {f1 : τ1 → Bool} {f2 : τ2 → Bool} (h1 : PDg e1 n1 p1 f1) (h2 : PDg e2 n2 p2 f2) : PDg (eT2 e1 e2) (n1 + n2 + 1) (fun q => .tuple [p1 q.1, p2 q.2]) (ok2 f1 f2) :=
  ⟨fun q g => by
    have g := Bool.and_eq_true_iff.mp g
    exact pk_tup (pka_cons (pk_mono (h1.pk q.1 g.1) (by omega)) (pka_cons (pk_mono (h2.pk q.2 g.2) (by omega)) pka_nil)), fun q r => by
    simp only [PyData.eqv, PyData.eqvAll, Bool.and_eq_true, Bool.and_true, h1.eqv, h2.eqv, Prod.ext_iff]⟩
def eqR {τ : Type} [DecidableEq τ] (okf : τ → Bool) (a b : τ) : Res Bool := if okf a = true ∧ okf b = true then .ok (decide (a = b)) else .no
section
variable {β : Type}
theorem geq {τ : Type} [DecidableEq τ] {e : τ → D} {n : Nat} {p : τ → PyData} {okf : τ → Bool} (h : PDg e n p okf) (x y : τ) : PyData.eqv (p x) (p y) = decide (x = y) := by
  rw [Bool.eq_iff_iff, h.eqv]; simp
theorem o_eqG {τ : Type} [DecidableEq τ] {e : τ → D} {n : Nat} {p : τ → PyData} {okf : τ → Bool} (h : PDg e n p okf) (hn : n ≤ 64) (he : ∀ x y M k, eqG (e x) (e y) M k → eqD (e x) (e y) M k) : O2 β dEq e e D.bl fun a b rest => (eqR okf a b).bind rest := fun a b M k E Q rest h1 q => by
  obtain ⟨h2, h3⟩ := ite_wp h1
  exact he _ _ _ _ (eq_of (h.pk a h2.1) (h.pk b h2.2) hn hn (by rw [geq h]; exact q _ h3))
theorem o_neG {τ : Type} [DecidableEq τ] {e : τ → D} {n : Nat} {p : τ → PyData} {okf : τ → Bool} (h : PDg e n p okf) (hn : n ≤ 64) (he : ∀ x y M k, eqG (e x) (e y) M k → eqD (e x) (e y) M k) : O2 β dNe e e D.bl fun a b rest => (eqR okf a b).bind fun t => rest (!t) := fun a b M k E Q rest h1 q => by
  obtain ⟨h2, h3⟩ := ite_wp h1
  exact he _ _ _ _ (eq_of (h.pk a h2.1) (h.pk b h2.2) hn hn (by rw [geq h]; exact q _ h3))
def inR {τ : Type} [DecidableEq τ] (okf : τ → Bool) (a : τ) (l : List τ) : Res Bool := if okf a = true ∧ okL okf l = true then .ok (decide (a ∈ l)) else .no
theorem gany {τ : Type} [DecidableEq τ] {e : τ → D} {n : Nat} {p : τ → PyData} {okf : τ → Bool} (h : PDg e n p okf) (x : τ) (l : List τ) : ((l.map p).any fun z => PyData.eqv z (p x)) = decide (x ∈ l) := by
  rw [Bool.eq_iff_iff, List.any_map, List.any_eq_true]
  simp only [Function.comp, h.eqv, decide_eq_true_eq]
  exact ⟨fun ⟨y, h1, h2⟩ => h2 ▸ h1, fun h => ⟨x, h, rfl⟩⟩
theorem gin {τ : Type} [DecidableEq τ] {e : τ → D} {n : Nat} {p : τ → PyData} {okf : τ → Bool} (h : PDg e n p okf) (hn : n ≤ 63) {x : τ} {l : List τ} (h1 : okf x = true) (h2 : okL okf l = true) {M : Mem} {k : Bool → Prop} (hr : ∀ x, pyM M (e x) = py (e x)) (hk : k (decide (x ∈ l))) : inG (e x) (eL e l) M k := by
  unfold inG
  refine ⟨p x, l.map p, _, by rw [hr]; exact (h.pk x h1).py, (pk_lst (pgk_map h l h2)).py, .inl rfl, (h.pk x h1).sh (by omega), (pk_lst (pgk_map h l h2)).sh (by omega), ?_⟩
  rw [gany h]; exact hk
theorem o_inGg {τ : Type} [DecidableEq τ] {e : τ → D} {n : Nat} {p : τ → PyData} {okf : τ → Bool} (h : PDg e n p okf) (hn : n ≤ 63) (hr : ∀ M x, pyM M (e x) = py (e x)) (hi : ∀ x y M k, inG (e x) y M k → inD (e x) y M k) : O2 β dIn e (eL e) D.bl fun a l rest => (inR okf a l).bind rest := fun a b M k E Q rest h1 q => by
  obtain ⟨h2, h3⟩ := ite_wp h1
  exact hi _ _ _ _ (gin h hn h2.1 h2.2 (hr M) (q _ h3))
theorem o_ninGg {τ : Type} [DecidableEq τ] {e : τ → D} {n : Nat} {p : τ → PyData} {okf : τ → Bool} (h : PDg e n p okf) (hn : n ≤ 63) (hr : ∀ M x, pyM M (e x) = py (e x)) (hi : ∀ x y M k, inG (e x) y M k → inD (e x) y M k) : O2 β dNin e (eL e) D.bl fun a l rest => (inR okf a l).bind fun t => rest (!t) := fun a b M k E Q rest h1 q => by
  obtain ⟨h2, h3⟩ := ite_wp h1
  exact hi _ _ _ _ (gin h hn h2.1 h2.2 (hr M) (q _ h3))
theorem ginT {τ : Type} [DecidableEq τ] {e : τ → D} {n : Nat} {p : τ → PyData} {okf : τ → Bool} (h : PDg e n p okf) (hn : n ≤ 63) {x : τ} {l : List τ} (h1 : okf x = true) (h2 : okL okf l = true) {M : Mem} {k : Bool → Prop} (hr : ∀ x, pyM M (e x) = py (e x)) (hk : k (decide (x ∈ l))) : inG (e x) (eT e l) M k := by
  unfold inG
  refine ⟨p x, l.map p, _, by rw [hr]; exact (h.pk x h1).py, (pk_tup (pgk_map h l h2)).py, .inr rfl, (h.pk x h1).sh (by omega), (pk_tup (pgk_map h l h2)).sh (by omega), ?_⟩
  rw [gany h]; exact hk
theorem o_inGgT {τ : Type} [DecidableEq τ] {e : τ → D} {n : Nat} {p : τ → PyData} {okf : τ → Bool} (h : PDg e n p okf) (hn : n ≤ 63) (hr : ∀ M x, pyM M (e x) = py (e x)) (hi : ∀ x y M k, inG (e x) y M k → inD (e x) y M k) : O2 β dIn e (eT e) D.bl fun a l rest => (inR okf a l).bind rest := fun a b M k E Q rest h1 q => by
  obtain ⟨h2, h3⟩ := ite_wp h1
  exact hi _ _ _ _ (ginT h hn h2.1 h2.2 (hr M) (q _ h3))
theorem o_ninGgT {τ : Type} [DecidableEq τ] {e : τ → D} {n : Nat} {p : τ → PyData} {okf : τ → Bool} (h : PDg e n p okf) (hn : n ≤ 63) (hr : ∀ M x, pyM M (e x) = py (e x)) (hi : ∀ x y M k, inG (e x) y M k → inD (e x) y M k) : O2 β dNin e (eT e) D.bl fun a l rest => (inR okf a l).bind fun t => rest (!t) := fun a b M k E Q rest h1 q => by
  obtain ⟨h2, h3⟩ := ite_wp h1
  exact hi _ _ _ _ (ginT h hn h2.1 h2.2 (hr M) (q _ h3))
theorem oc_eqg {p : Addr} {τ : Type} {e : τ → D} [DecidableEq τ] {n : Nat} {q : τ → PyData} {okf : τ → Bool} (hp : PDg e n q okf) (hn : n ≤ 63) : ∀ (a : List τ) (t : List τ) N (k : D → Mem → Prop) (E : XP) (Q : β → Prop) (rest : Bool → Res β), ((eqR (okL okf) t a).bind rest).wx E Q → (∀ x, (rest x).wx E Q → k (.bl x) (mu N p (cL e t))) → dEq (.ref p) (eL e a) (mu N p (cL e t)) k := fun a t N k E Q rest h g => by
  obtain ⟨h2, h3⟩ := ite_wp h
  refine eq_ref mu_same (pk_lst (pgk_map hp t h2.1)) (pk_lst (pgk_map hp a h2.2)) (by omega) (by omega) ?_
  have z := geq (pg_L hp) t a
  rw [z]; exact g _ h3
theorem oc_neg {p : Addr} {τ : Type} {e : τ → D} [DecidableEq τ] {n : Nat} {q : τ → PyData} {okf : τ → Bool} (hp : PDg e n q okf) (hn : n ≤ 63) : ∀ (a : List τ) (t : List τ) N (k : D → Mem → Prop) (E : XP) (Q : β → Prop) (rest : Bool → Res β), ((eqR (okL okf) t a).bind fun t => rest (!t)).wx E Q → (∀ x, (rest x).wx E Q → k (.bl x) (mu N p (cL e t))) → dNe (.ref p) (eL e a) (mu N p (cL e t)) k := fun a t N k E Q rest h g => by
  obtain ⟨h2, h3⟩ := ite_wp h
  refine eq_ref mu_same (pk_lst (pgk_map hp t h2.1)) (pk_lst (pgk_map hp a h2.2)) (by omega) (by omega) ?_
  have z := geq (pg_L hp) t a
  rw [z]; exact g _ h3
theorem c_lenQ {T τ : Type} {p : Addr} {c : T → Cell} {cc : Str} {wf : WF} {d : D1} {e : τ → D} {f : T → (τ → Res β) → Res β} (hn : ∀ M k, d (.ref p) M k → dLenO cc wf d (.ref p) M k) (h : O1C β d p c e f) : O1C β (dLenO cc wf d) p c e f := fun t N k E Q rest h1 q => hn _ _ (h t N k E Q rest h1 q)
theorem oc_Q {T τ1 τ : Type} {p : Addr} {c : T → Cell} {e1 : τ1 → D} {e : τ → D} {d d' : D2} {f : T → τ1 → (τ → Res β) → Res β} (hn : ∀ y M k, d (.ref p) y M k → d' (.ref p) y M k) (h : ∀ (a : τ1) (t : T) N (k : D → Mem → Prop) (E : XP) (Q : β → Prop) (rest : τ → Res β), (f t a rest).wx E Q → (∀ x, (rest x).wx E Q → k (e x) (mu N p (c t))) → d (.ref p) (e1 a) (mu N p (c t)) k) : ∀ (a : τ1) (t : T) N (k : D → Mem → Prop) (E : XP) (Q : β → Prop) (rest : τ → Res β), (f t a rest).wx E Q → (∀ x, (rest x).wx E Q → k (e x) (mu N p (c t))) → d' (.ref p) (e1 a) (mu N p (c t)) k := fun a t N k E Q rest h1 q => hn _ _ _ (h a t N k E Q rest h1 q)
section
variable {S : Type} {μ : S → Mem} {ρ : St'} {s : S}
theorem tj_yes : TJ (β := β) μ ρ s wYes fun rest => rest true s := fun k E Q rest h q => q _ _ h
theorem ej_cell {i : Nat} {p : Addr} (h : ρ[i]? = some (some (.ref p))) : EJ (β := β) μ ρ s (wVar i) (fun _ : Unit => D.ref p) fun rest => rest () s := fun k E Q rest h1 h2 => by
  unfold wVar; rw [h]; exact h2 _ _ h1
theorem ej_nilas {τ : Type} {e e' : τ → D} {we : W} (h : EJ (β := β) μ ρ s we (eL e) fun rest => rest [] s) : EJ (β := β) μ ρ s we (eL e') fun rest => rest [] s := fun k E Q rest h1 q =>
  h k E Q (fun a s1 => if a.isEmpty then rest [] s1 else .no) h1 fun a s1 h2 => by
    cases a with
    | nil => exact q [] s1 h2
    | cons x l => cases h2
end
def rng3R (a b c : Int) : Res (List Int) := if c ≠ 0 ∧ c.natAbs < 1073741824 ∧ Builtin.Range.small a b c = true ∧ 0 ≤ Builtin.Range.rangeSize a b c then .ok (irngC a c (Builtin.Range.rangeSize a b c).toNat) else .no
theorem ij_r3 {S : Type} {μ : S → Mem} {ρ : St'} {s : S} {wa : WA} {C : (Int × Int × Int → S → Res β) → Res β} (h : AJ μ ρ s wa (fun p => [.int p.1, .int p.2.1, .int p.2.2]) C) : IJ μ ρ s (wiR3 wa) D.int fun rest => C fun p s1 => (rng3R p.1 p.2.1 p.2.2).bind fun l => rest l s1 := fun k E Q rest h1 q => h _ E Q _ h1 fun a s1 h2 => by
  obtain ⟨h3, h4⟩ := ite_wp h2
  exact rg3 ⟨h3.1, h3.2.1, h3.2.2.1, (Int.toNat_of_nonneg h3.2.2.2).symm⟩ (q _ _ h4)
/-! texts in order -/
open Classical in
noncomputable def sortSL (l : List Str) : List Str := if h : ∃ l' : List Str, l'.Perm l ∧ sortedS l' = true ∧ ∀ l'' : List Str, l''.Perm l → sortedS l'' = true → l'' = l' then h.choose else l
noncomputable def sortSR (l : List Str) : Res (List Str) := open Classical in if l.length < 64 ∧ ∃ l' : List Str, l'.Perm l ∧ sortedS l' = true ∧ ∀ l'' : List Str, l''.Perm l → sortedS l'' = true → l'' = l' then .ok (sortSL l) else .no
open Classical in
theorem o_sortedS : O1 β (dSortedS false) (eL D.str) (eL D.str) fun l rest => (sortSR l).bind rest := fun a M k E Q rest h q => by
  obtain ⟨h1, h2⟩ := ite_wp h
  refine strs_of (sorts_of h1.1 fun l' p s => ?_)
  have e : l' = sortSL a := by
    unfold sortSL
    rw [dif_pos h1.2]
    exact h1.2.choose_spec.2.2 l' p s
  rw [e]; exact q _ h2
open Classical in
theorem sortSR_of {l m : List Str} (hl : l.length < 64) (hm : m.Perm l) (hs : sortedS m = true) (hu : ∀ l'' : List Str, l''.Perm l → sortedS l'' = true → l'' = m) : sortSR l = .ok m := by
  have hx : ∃ l' : List Str, l'.Perm l ∧ sortedS l' = true ∧ ∀ l'' : List Str, l''.Perm l → sortedS l'' = true → l'' = l' := ⟨m, hm, hs, hu⟩
  unfold sortSR
  rw [if_pos ⟨hl, hx⟩]
  unfold sortSL
  rw [dif_pos hx]
  rw [hu _ hx.choose_spec.1 hx.choose_spec.2.1]
theorem o_join : ∀ (a : Str) (l : List Str) M (k : D → Mem → Prop) (E : XP) (Q : β → Prop) (rest : Str → Res β), ((joinR a l).bind rest).wx E Q → (∀ c, (rest c).wx E Q → k (.str c) M) → dJoin (.str a) [eL D.str l] M k := fun a l M k E Q rest h q => by
  obtain ⟨h1, h2⟩ := ite_wp h
  exact strs_of (join_of h1 (q _ h2))
end
end Ty

set_option Elab.async false
set_option linter.all false
set_option maxRecDepth 100000
set_option maxHeartbeats 4000000
/-! Tuples of whole numbers whose methods are called. -/
namespace Ty
open PySem PySem.Spec PyProof.Rows L2 Rl RZ RT Px
def idxR (l : List Int) (i : Int) : Res Int := if i ∈ l then .ok (l.idxOf i : Nat) else .no
def lrR (a b : Int) : Res (List Int) := if 0 ≤ a ∧ b ≤ 16777216 ∧ a ≤ 16777216 ∧ 0 ≤ b then .ok (rgL a b) else .no
section
variable {β S : Type} {μ : S → Mem} {ρ : St'} {s : S}
theorem bj_rho {Φ : Ps → β → Prop} {ρ2 : St'} {t : WS} {m : Res β} (e : ρ = ρ2) (h : BJ μ ρ2 s t Φ m) : BJ μ ρ s t Φ m := by rw [e]; exact h
theorem o_tupX : O1 β dTupX (eL D.int) D.tux fun l rest => rest l := fun a M k E Q rest h q => ints_of (q _ h)
theorem o_maxX : OB β dMaxT (fun l : List Int => [D.tux l]) D.int fun l rest => (maxR l).bind rest := fun a M k E Q rest h q => by
  have h : (Res.bind (if a = [] then Res.no else .ok (maxL a)) rest).wx E Q := h
  by_cases c : a = []
  · rw [if_pos c] at h; cases h
  · rw [if_neg c] at h; exact is_maxL c (q _ h)
theorem o_minX : OB β dMinT (fun l : List Int => [D.tux l]) D.int fun l rest => (minR l).bind rest := fun a M k E Q rest h q => by
  have h : (Res.bind (if a = [] then Res.no else .ok (minL a)) rest).wx E Q := h
  by_cases c : a = []
  · rw [if_pos c] at h; cases h
  · rw [if_neg c] at h; exact is_minL c (q _ h)
theorem ej_idx {wo : W} {wa : WA} {Ca : (List Int → S → Res β) → Res β} {Cb : List Int → S → (Int → S → Res β) → Res β} (ha : EJ μ ρ s wo D.tux Ca) (hb : ∀ a s1, AJ μ ρ s1 wa (fun x => [D.int x]) (Cb a s1)) :
    EJ μ ρ s (wIdx wo wa) D.int fun rest => Ca fun a s1 => Cb a s1 fun b s2 => (idxR a b).bind fun c => rest c s2 := fun k E Q rest h q =>
  ha _ E Q _ h fun a s1 h1 => hb a s1 _ E Q _ h1 fun b s2 h2 => by
    have h2 : (Res.bind (if b ∈ a then Res.ok ((a.idxOf b : Nat) : Int) else Res.no) fun c => rest c s2).wx E Q := h2
    by_cases c : b ∈ a
    · rw [if_pos c] at h2; exact hasI.of c (q _ _ h2)
    · rw [if_neg c] at h2; cases h2
theorem ej_lr2 {wa wb : W} {Ca : (Int → S → Res β) → Res β} {Cb : Int → S → (Int → S → Res β) → Res β} (ha : EJ μ ρ s wa D.int Ca) (hb : ∀ a s1, EJ μ ρ s1 wb D.int (Cb a s1)) :
    EJ μ ρ s (wLR2 wa wb) (eL D.int) fun rest => Ca fun a s1 => Cb a s1 fun b s2 => (lrR a b).bind fun c => rest c s2 := fun k E Q rest h q =>
  ha _ E Q _ h fun a s1 h1 => hb a s1 _ E Q _ h1 fun b s2 h2 => by
    have h2 : (Res.bind (if 0 ≤ a ∧ b ≤ 16777216 ∧ a ≤ 16777216 ∧ 0 ≤ b then Res.ok (rgL a b) else Res.no) fun c => rest c s2).wx E Q := h2
    by_cases c : 0 ≤ a ∧ b ≤ 16777216 ∧ a ≤ 16777216 ∧ 0 ≤ b
    · rw [if_pos c] at h2; exact rgG.of (RgOk.of_le c.1 c.2.1 c.2.2.1 c.2.2.2) (q _ _ h2)
    · rw [if_neg c] at h2; cases h2
theorem ej_lr1 {wb : W} {Cb : (Int → S → Res β) → Res β} (hb : EJ μ ρ s wb D.int Cb) :
    EJ μ ρ s (wLR1 wb) (eL D.int) fun rest => Cb fun b s2 => (lrR 0 b).bind fun c => rest c s2 := fun k E Q rest h q =>
  hb _ E Q _ h fun b s2 h2 => by
    have h2 : (Res.bind (if 0 ≤ (0 : Int) ∧ b ≤ 16777216 ∧ (0 : Int) ≤ 16777216 ∧ 0 ≤ b then Res.ok (rgL 0 b) else Res.no) fun c => rest c s2).wx E Q := h2
    by_cases c : 0 ≤ (0 : Int) ∧ b ≤ 16777216 ∧ (0 : Int) ≤ 16777216 ∧ 0 ≤ b
    · rw [if_pos c] at h2; exact rgG.of (RgOk.of_le c.1 c.2.1 c.2.2.1 c.2.2.2) (q _ _ h2)
    · rw [if_neg c] at h2; cases h2
end
end Ty

set_option Elab.async false
set_option linter.all false
set_option maxRecDepth 100000
set_option maxHeartbeats 4000000
/-! Typed code that raises, hears, asks. -/
namespace Ty
open PySem PySem.Spec PyProof.Rows L2 Rl RZ RT Px
theorem ck_mk {P : Prop} : ∀ {n : Nat} {xs : List D}, xs.length = n → P → Ck n xs P
  | 0, [], _, h => h
  | n + 1, _ :: xs, e, h => ck_mk (n := n) (xs := xs) (by simpa using e) h
  | 0, _ :: _, e, _ => by cases e
  | _ + 1, [], e, _ => by cases e
abbrev eXn : Xn → D := fun x => .exc x.c x.ns x.xs
section
variable {S β : Type} {μ : S → Mem} {ρ : St'} {s : S} {Φ : Ps → β → Prop}
theorem ej_bad {τ : Type} {e : τ → D} {we : W} : EJ (β := β) μ ρ s we e fun _ => .no := fun k E Q rest h _ => h.elim
theorem bj_raise {τ : Type} {ea : τ → List D} {wa : WA} {T : XT} {c : Str} {fl : List Str} {t : WS} {C : (τ → S → Res β) → Res β} (hc : T.lookup c = some fl) (hl : ∀ a, (ea a).length = fl.length) (h9 : fl.length ≤ 900) (h : AJ μ ρ s wa ea C) :
    BJ μ ρ s (wSeq (wRaise T c wa) t) Φ (C fun a _ => .ex ⟨c, fl.reverse, (ea a).reverse⟩) := fun P E hm =>
  h _ E _ _ hm fun a s' h2 => by
    show (match T.lookup c with
      | some fl => Ck fl.length (ea a) (fl.length ≤ 900 ∧ E ⟨c, fl.reverse, (ea a).reverse⟩ (μ s'))
      | none => False)
    rw [hc]
    exact ck_mk (hl a) ⟨h9, h2 _⟩
/-- a def called where nothing may be raised -/
theorem nx_fn {υ : Type} {wf : WF} {xs : List D} {M : Mem} {k : D → Mem → Prop} {E : XP} {m : Res υ} {Q : υ → Prop} (hw : m.wx noX Q → wf xs M k noX) (h : (nx m).wx E Q) : nX wf xs M k E := hw (nx_wx h)
/-! heard -/
/-- what the def that hears makes of an outcome -/
def HJ {υ : Type} (T : XT) (i N j : Nat) (d0 : D) (ws wr : WS) (e : υ → D) (mh : Res Unit → Res υ) : Prop := ∀ (r : Res Unit) (M : Mem) (k : D → Mem → Prop), (mh r).wx noX (fun v => k (e v) M) → match r with
  | .ok _ => wr ((List.replicate N none).set j (some d0)) M { nx := fun _ M' => k .non M', rt := k } noX
  | .ex x => (T.lookup x.c).isSome = true ∧ ws ((List.replicate N none).set i (some (.exc x.c x.ns x.xs))) M { nx := fun ρ' M' => wr (ρ'.set i none) M' { nx := fun _ M' => k .non M', rt := k } noX, rt := k } noX
  | .no => False
theorem ej_lam {υ τ : Type} {T : XT} {i N j : Nat} {d0 : D} {ws wr : WS} {wt : W} {e : υ → D} {ea : τ → D} {Ca : (τ → Unit → Res Unit) → Res Unit} (mh : Res Unit → Res υ) (H : HJ T i N j d0 ws wr e mh) (ha : EJ (fun _ : Unit => noM) ρ () wt ea Ca) :
    EJ (β := β) μ ρ s (wLam T i N j d0 ws wr wt) e fun rest => (nx (mh (Ca fun _ _ => .ok ()))).bind fun v => rest v s := fun k E Q rest h q => by
  rw [wx_bind] at h
  have z := H _ (μ s) k ((nx_wx h).mono fun v hv => q v s hv)
  have key : (Ca fun _ _ => Res.ok ()).wx (fun x _ => (T.lookup x.c).isSome = true ∧ ws ((List.replicate N none).set i (some (.exc x.c x.ns x.xs))) (μ s) { nx := fun ρ' M' => wr (ρ'.set i none) M' { nx := fun _ M' => k .non M', rt := k } noX, rt := k } noX)
      (fun _ => wr ((List.replicate N none).set j (some d0)) (μ s) { nx := fun _ M' => k .non M', rt := k } noX) := by
    generalize (Ca fun _ _ => Res.ok ()) = r at z
    cases r with
    | ok a => exact z
    | ex x => exact fun _ => z
    | no => exact z
  exact ha (fun _ _ => wr ((List.replicate N none).set j (some d0)) (μ s) { nx := fun _ M' => k .non M', rt := k } noX) _ _ _ key fun a s' h => h
/-- behind an except suite -/
def wEnd (i : Nat) (wr : WS) : WS := fun ρ M P E => wr (ρ.set i none) M P E
theorem bj_wend {i : Nat} {wr : WS} {m : Res β} (h : BJ μ (ρ.set i none) s wr Φ m) : BJ μ ρ s (wEnd i wr) Φ m := h
theorem hj_of {υ : Type} {T : XT} {i N j : Nat} {d0 : D} {ws wr : WS} {e : υ → D} {c1 : Res υ} {c2 : Xn → Res υ} (h1 : ∀ M, BJ (fun _ : Unit => M) ((List.replicate N none).set j (some d0)) () wr (Φd e fun _ => M) c1)
    (h2 : ∀ M x, BJ (fun _ : Unit => M) ((List.replicate N none).set i (some (eXn x))) () (wSeq ws (wEnd i wr)) (Φd e fun _ => M) (c2 x)) :
    HJ T i N j d0 ws wr e fun r => match r with
      | .ok _ => c1
      | .ex x => if (T.lookup x.c).isSome = true then c2 x else .no
      | .no => .no := fun r M k h => by
  cases r with
  | ok a => exact h1 M { nx := fun _ M' => k .non M', rt := k } noX (h.mono fun v hv => Φd.of (e := e) (M := fun _ => M) hv)
  | ex x =>
    have h : (if (T.lookup x.c).isSome = true then c2 x else .no).wx noX (fun v => k (e v) M) := h
    by_cases c : (T.lookup x.c).isSome = true
    · rw [if_pos c] at h
      exact ⟨c, h2 M x { nx := fun _ M' => k .non M', rt := k } noX (h.mono fun v hv => Φd.of (e := e) (M := fun _ => M) hv)⟩
    · rw [if_neg c] at h; exact h.elim
  | no => exact h
/-! asked -/
def isxR (C : CT) (T : XT) (x : Xn) (c' : Str) : Res Bool := if (T.lookup x.c).isSome = true then (match C.sub x.c c' with
  | some b => .ok b
  | none => .no) else .no
theorem ej_isx {C : CT} {T : XT} {c' : Str} {we : W} {Ca : (Xn → S → Res β) → Res β} (hc : (C.lookup c').isSome = true) (h : EJ μ ρ s we eXn Ca) :
    EJ μ ρ s (wCB (dIsiX C T) (waCons we (waCons (wC (.cls c')) waNil))) D.bl fun rest => Ca fun x s1 => (isxR C T x c').bind fun b => rest b s1 := fun k E Q rest h1 q =>
  h _ E Q _ h1 fun x s1 h2 => by
    show (T.lookup x.c).isSome = true ∧ isiOO C x.c c' fun b => k (.bl b) (μ s1)
    have h2 : ((if (T.lookup x.c).isSome = true then (match C.sub x.c c' with
      | some b => .ok b
      | none => .no) else .no : Res Bool).bind fun b => rest b s1).wx E Q := h2
    by_cases c : (T.lookup x.c).isSome = true
    · rw [if_pos c] at h2
      cases e : C.sub x.c c' with
      | none => rw [e] at h2; cases h2
      | some b => rw [e] at h2; exact ⟨c, isi_oo e hc (q b s1 h2)⟩
    · rw [if_neg c] at h2; cases h2
/-- of what is no exception -/
theorem ej_isn {τ : Type} {C : CT} {T : XT} {c : D} {e : τ → D} {we : W} {Ca : (τ → S → Res β) → Res β} (b : Bool) (hx : ∀ a M k, dIsi C [e a, c] M k → dIsiX C T [e a, c] M k) (hb : ∀ a M (k : D → Mem → Prop), k (.bl b) M → dIsi C [e a, c] M k) (h : EJ μ ρ s we e Ca) :
    EJ μ ρ s (wCB (dIsiX C T) (waCons we (waCons (wC c) waNil))) D.bl fun rest => Ca fun _ s1 => rest b s1 := fun k E Q rest h1 q =>
  h _ E Q _ h1 fun x s1 h2 => hx _ _ _ (hb _ _ _ (q _ _ h2))
def xfR (T : XT) (x : Xn) (f : Str) : Res D := match T.lookup x.c with
  | some fl => if fl.contains f = true then (match fget x.ns x.xs f with
    | some d => .ok d
    | none => .no) else .no
  | none => .no
def asSR : D → Res Str
  | .str z => .ok z
  | _ => .no
def asIR : D → Res Int
  | .int z => .ok z
  | _ => .no
theorem ej_xg {T : XT} {f : Str} {we : W} {Ca : (Xn → S → Res β) → Res β} (h : EJ μ ρ s we eXn Ca) : EJ μ ρ s (wXg T f we) eX fun rest => Ca fun x s1 => (xfR T x f).bind fun d => rest d s1 := fun k E Q rest h1 q =>
  h _ E Q _ h1 fun x s1 h2 => by
    show (∃ fl, T.lookup x.c = some fl ∧ fl.contains f = true) ∧ fldD x.ns x.xs f fun y => k y (μ s1)
    unfold xfR at h2
    cases e : T.lookup x.c with
    | none => rw [e] at h2; cases h2
    | some fl =>
      rw [e] at h2
      have h2 : ((if fl.contains f = true then (match fget x.ns x.xs f with
        | some d => .ok d
        | none => .no) else .no : Res D).bind fun d => rest d s1).wx E Q := h2
      by_cases c : fl.contains f = true
      · rw [if_pos c] at h2
        cases e2 : fget x.ns x.xs f with
        | none => rw [e2] at h2; cases h2
        | some d => rw [e2] at h2; exact ⟨⟨fl, rfl, c⟩, fld e2 (q d s1 h2)⟩
      · rw [if_neg c] at h2; cases h2
theorem ej_asS {we : W} {Ca : (D → S → Res β) → Res β} (h : EJ μ ρ s we eX Ca) : EJ μ ρ s we D.str fun rest => Ca fun d s1 => (asSR d).bind fun z => rest z s1 := fun k E Q rest h1 q =>
  h _ E Q _ h1 fun d s1 h2 => by
    cases d with
    | str z => exact q z s1 h2
    | _ => cases h2
theorem ej_asI {we : W} {Ca : (D → S → Res β) → Res β} (h : EJ μ ρ s we eX Ca) : EJ μ ρ s we D.int fun rest => Ca fun d s1 => (asIR d).bind fun z => rest z s1 := fun k E Q rest h1 q =>
  h _ E Q _ h1 fun d s1 h2 => by
    cases d with
    | int z => exact q z s1 h2
    | _ => cases h2
theorem ej_dic : EJ (β := β) μ ρ s wDic (fun _ : Unit => D.dic) fun rest => rest () s := fun k E Q rest h q => q _ _ h
/-! a datum of any kind asked for its type -/
def tyDD : D → Option String
  | .non => some "NoneType"
  | .bl _ => some "bool"
  | .int _ => some "int"
  | .str _ => some "str"
  | .lst _ => some "list"
  | .tup _ => some "tuple"
  | .dic => some "dict"
  | _ => none
theorem tyDD_ok {M : Mem} {d : D} {n : String} (h : tyDD d = some n) : tyD M d = some n := by
  cases d <;> first | exact h | cases h
def isdR (C : CT) (d : D) (c' : Str) : Res Bool := match d with
  | .ins c _ _ => (match C.sub c c' with
    | some b => .ok b
    | none => .no)
  | d => (match tyDD d with
    | some _ => .ok false
    | none => .no)
theorem ej_isd {C : CT} {c' : Str} {we : W} {Ca : (D → S → Res β) → Res β} (hc : (C.lookup c').isSome = true) (h : EJ μ ρ s we eX Ca) :
    EJ μ ρ s (wCB (dIsi C) (waCons we (waCons (wC (.cls c')) waNil))) D.bl fun rest => Ca fun x s1 => (isdR C x c').bind fun b => rest b s1 := fun k E Q rest h1 q =>
  h _ E Q _ h1 fun x s1 h2 => by
    cases x with
    | ins c ns xs =>
      show isiOO C c c' fun b => k (.bl b) (μ s1)
      have h2 : ((match C.sub c c' with
        | some b => .ok b
        | none => .no : Res Bool).bind fun b => rest b s1).wx E Q := h2
      cases e : C.sub c c' with
      | none => rw [e] at h2; cases h2
      | some b => rw [e] at h2; exact isi_oo e hc (q b s1 h2)
    | non => exact isi_to (tyDD_ok rfl) hc (q _ _ h2)
    | bl b => exact isi_to (tyDD_ok rfl) hc (q _ _ h2)
    | int b => exact isi_to (tyDD_ok rfl) hc (q _ _ h2)
    | str b => exact isi_to (tyDD_ok rfl) hc (q _ _ h2)
    | lst b => exact isi_to (tyDD_ok rfl) hc (q _ _ h2)
    | tup b => exact isi_to (tyDD_ok rfl) hc (q _ _ h2)
    | dic => exact isi_to (tyDD_ok rfl) hc (q _ _ h2)
    | _ => cases h2
/-! defaults -/
theorem ej_fnD {τ υ : Type} {n : Nat} {ds : List D} {wf : WF} {wc : WC} {ea eb : τ → List D} {e : υ → D} {C : (τ → S → Res β) → Res β} (ha : CJ μ ρ s wc ea eb C) (mf : τ → Res υ) (hk : ∀ x P, P → Ck n (ea x) (Ck 0 (eb x) P)) (hw : ∀ x M (k : D → Mem → Prop) E, (mf x).wx E (fun r => k (e r) M) → wf (ea x ++ ds) M k E) :
    EJ μ ρ s (wFnD n ds wf wc) e fun rest => C fun x s1 => (mf x).bind fun r => rest r s1 := fun k E Q rest h q =>
  ha _ E Q _ h fun x s1 h1 => hk x _ (hw x _ k E (by rw [wx_bind] at h1; exact h1.mono fun r h2 => q r s1 h2))
theorem ej_newD {τ υ : Type} {c : Str} {n : Nat} {ds : List D} {wf : WF} {wc : WC} {ea eb : τ → List D} {e : υ → D} {ns : List Str} {fs : υ → List D} {C : (τ → S → Res β) → Res β} (ha : CJ μ ρ s wc ea eb C) (mf : τ → Res υ) (he : ∀ r, e r = .ins c ns (fs r)) (hk : ∀ x P, P → Ck n (ea x) (Ck 0 (eb x) P))
    (hw : ∀ x M p (k : D → Mem → Prop) E, M p = none → (mf x).wx E (fun r => k .non (mu M p (.ins c ns (fs r)))) → wf (.ref p :: (ea x ++ ds)) (mu M p (.ins c [] [])) k E) :
    EJ μ ρ s (wNewD false c n ds wf wc) e fun rest => C fun x s1 => (mf x).bind fun r => rest r s1 := fun k E Q rest h q =>
  ha _ E Q _ h fun x s1 h1 => hk x _ (by
    rw [wx_bind] at h1
    cases hm : mf x with
    | ok r => rw [hm] at h1; exact new_f (fun p k' hp hk' => hw x _ p k' E hp (by rw [hm]; exact hk')) (by rw [← he]; exact q r s1 h1)
    | ex z => rw [hm] at h1; unfold newI; exact fun p hp => hw x _ p _ E hp (by rw [hm]; exact h1)
    | no => rw [hm] at h1; exact h1.elim)
/-! x is True, x is False -/
theorem o_isB {b : Bool} : O1 β (fun x M k => dIsB x (.bl b) M k) D.bl D.bl fun a rest => rest (a == b) := fun a M k E Q rest h q => q _ h
theorem ej_isB {b : Bool} {we : W} {Ca : (Bool → S → Res β) → Res β} (h : EJ μ ρ s we D.bl Ca) : EJ μ ρ s (wOp dIsB we (wC (.bl b))) D.bl fun rest => Ca fun a s1 => rest (a == b) s1 := fun k E Q rest h1 q =>
  h _ E Q _ h1 fun a s1 h2 => q _ _ h2
/-! data that may be None -/
theorem pd_O {τ : Type} {e : τ → D} {n : Nat} {p : τ → PyData} (h : PDat e n p) (hn : ∀ x, PyData.eqv .none (p x) = false ∧ PyData.eqv (p x) .none = false) : PDat (eO e) n fun o => match o with
    | none => .none
    | some x => p x := ⟨fun o => by
  cases o with
  | none => exact pk_mono pk_non (Nat.zero_le _)
  | some x => exact h.pk x, fun a b => by
  cases a with
  | none => cases b with
    | none => simp [PyData.eqv]
    | some y => simp [(hn y).1]
  | some x => cases b with
    | none => simp [(hn x).2]
    | some y => simp [h.eqv]⟩
def okO {τ : Type} (f : τ → Bool) : Option τ → Bool
  | none => true
  | some x => f x
theorem pg_O {τ : Type} {e : τ → D} {n : Nat} {p : τ → PyData} {f : τ → Bool} (h : PDg e n p f) (hn : ∀ x, PyData.eqv .none (p x) = false ∧ PyData.eqv (p x) .none = false) : PDg (eO e) n (fun o => match o with
    | none => .none
    | some x => p x) (okO f) := ⟨fun o g => by
  cases o with
  | none => exact pk_mono pk_non (Nat.zero_le _)
  | some x => exact h.pk x g, fun a b => by
  cases a with
  | none => cases b with
    | none => simp [PyData.eqv]
    | some y => simp [(hn y).1]
  | some x => cases b with
    | none => simp [(hn x).2]
    | some y => simp [h.eqv]⟩
/-! what may be None, where it is not -/
def getO {τ : Type} : Option τ → Res τ
  | some x => .ok x
  | none => .no
theorem ej_getO {τ : Type} {e : τ → D} {we : W} {C : (Option τ → S → Res β) → Res β} (h : EJ μ ρ s we (eO e) C) : EJ μ ρ s we e fun rest => C fun o s1 => (getO o).bind fun x => rest x s1 := fun k E Q rest h1 q =>
  h _ E Q _ h1 fun o s1 h2 => by
    cases o with
    | some x => exact q x s1 h2
    | none => cases h2
theorem ej_isiO {τ : Type} {C : CT} {c : D} {e : τ → D} {we : W} {Ca : (Option τ → S → Res β) → Res β} (b : Bool) (h0 : ∀ M (k : D → Mem → Prop), k (.bl false) M → dIsi C [.non, c] M k) (h1 : ∀ a M (k : D → Mem → Prop), k (.bl b) M → dIsi C [e a, c] M k) (h : EJ μ ρ s we (eO e) Ca) :
    EJ μ ρ s (wCB (dIsi C) (waCons we (waCons (wC c) waNil))) D.bl fun rest => Ca fun o s1 => rest (o.isSome && b) s1 := fun k E Q rest h2 q =>
  h _ E Q _ h2 fun o s1 h3 => by
    cases o with
    | none => exact h0 _ _ (q _ _ h3)
    | some x => exact h1 x _ _ (q _ _ h3)
theorem eqd_int {i j : Int} {M : Mem} {k : Bool → Prop} (h : eqG (.int i) (.int j) M k) : eqD (.int i) (.int j) M k := by
  obtain ⟨p, q, e1, e2, _, _, h⟩ := h.get
  have e1 : some (PyData.int i) = some p := e1
  have e2 : some (PyData.int j) = some q := e2
  cases e1
  cases e2
  show k (decide (i = j))
  have e : PyData.eqv (.int i) (.int j) = decide (i = j) := by rw [Bool.eq_iff_iff]; simp [PyData.eqv]
  rw [← e]; exact h
theorem eqd_str {i j : Str} {M : Mem} {k : Bool → Prop} (h : eqG (.str i) (.str j) M k) : eqD (.str i) (.str j) M k := by
  obtain ⟨p, q, e1, e2, _, _, h⟩ := h.get
  have e1 : some (PyData.str i) = some p := e1
  have e2 : some (PyData.str j) = some q := e2
  cases e1
  cases e2
  show k (decide (i = j))
  have e : PyData.eqv (.str i) (.str j) = decide (i = j) := by rw [Bool.eq_iff_iff]; simp [PyData.eqv]
  rw [← e]; exact h
theorem ej_bs {τ1 τ : Type} {d : DM} {ea : τ1 → List D} {e : τ → D} {f : Str → τ1 → (τ → Res β) → Res β} {wo : W} {wa : WA} {Ca : (Str → S → Res β) → Res β} {Cb : Str → S → (τ1 → S → Res β) → Res β}
    (hd : ∀ (a : Str) (l : τ1) M (k : D → Mem → Prop) (E : XP) (Q : β → Prop) (rest : τ → Res β), (f a l rest).wx E Q → (∀ c, (rest c).wx E Q → k (e c) M) → d (.str a) (ea l) M k) (ho : EJ μ ρ s wo D.str Ca) (ha : ∀ a s1, AJ μ ρ s1 wa ea (Cb a s1)) :
    EJ μ ρ s (wBS d wo wa) e fun rest => Ca fun a s1 => Cb a s1 fun l s2 => f a l fun c => rest c s2 := fun k E Q rest h q =>
  ho _ E Q _ h fun a s1 h1 => ha a s1 _ E Q _ h1 fun l s2 h2 => hd a l _ k E Q _ h2 fun c h3 => q c s2 h3
end
end Ty

set_option Elab.async false
set_option linter.all false
set_option maxRecDepth 100000
set_option maxHeartbeats 4000000
/-! A place in a list of texts; {..}.get(x, y). -/
namespace Ty
open PySem PySem.Spec PyProof.Rows L2 Rl RZ RT Px
def idxSR (l : List Str) (i : Str) : Res Int := if i ∈ l then .ok (l.idxOf i : Nat) else .no
def dgO (o : Option V) (y : Str) : Res Str := match o with
  | some (.str t) => .ok t
  | none => .ok y
  | _ => .no
def dgR (l : List (Str × Str)) (s y : Str) : Res Str := dgO (dgV l s) y
def repTR {τ : Type} (a : List τ) (j : Int) : Res (List τ) := if a.length ≠ 0 ∧ (1 ≤ j ∧ j ≤ 1000) ∧ a.length ≤ 1000 then .ok (List.replicate j.toNat a).flatten else .no
def szR {τ : Type} (a : List τ) : Res (List τ) := if a.length ≤ 16777216 then .ok a else .no
section
variable {β S : Type} {μ : S → Mem} {ρ : St'} {s : S}
theorem ej_idxS {wo : W} {wa : WA} {Ca : (List Str → S → Res β) → Res β} {Cb : List Str → S → (Str → S → Res β) → Res β} (ha : EJ μ ρ s wo (eL D.str) Ca) (hb : ∀ a s1, AJ μ ρ s1 wa (fun x => [D.str x]) (Cb a s1)) :
    EJ μ ρ s (wBL dIdxS wo wa) D.int fun rest => Ca fun a s1 => Cb a s1 fun b s2 => (idxSR a b).bind fun c => rest c s2 := fun k E Q rest h q =>
  ha _ E Q _ h fun a s1 h1 => hb a s1 _ E Q _ h1 fun b s2 h2 => by
    have h2 : (Res.bind (if b ∈ a then Res.ok ((a.idxOf b : Nat) : Int) else Res.no) fun c => rest c s2).wx E Q := h2
    by_cases c : b ∈ a
    · rw [if_pos c] at h2; exact strs_of (hasS.of c (q _ _ h2))
    · rw [if_neg c] at h2; cases h2
theorem ej_dg {l : List (Str × Str)} {wx wy : W} {Ca : (Str → S → Res β) → Res β} {Cb : Str → S → (Str → S → Res β) → Res β} (ha : EJ μ ρ s wx D.str Ca) (hb : ∀ a s1, EJ μ ρ s1 wy D.str (Cb a s1)) :
    EJ μ ρ s (wDG l wx wy) D.str fun rest => Ca fun a s1 => Cb a s1 fun b s2 => (dgR l a b).bind fun c => rest c s2 := fun k E Q rest h q =>
  ha _ E Q _ h fun a s1 h1 => hb a s1 _ E Q _ h1 fun b s2 h2 => by
    have h2 : (Res.bind (dgO (dgV l a) b) fun c => rest c s2).wx E Q := h2
    show dgD (dgV l a) (D.str b) fun z => k z (μ s2)
    revert h2
    cases dgV l a with
    | none => exact fun h2 => q _ _ h2
    | some w =>
      cases w with
      | str t => exact fun h2 => q _ _ h2
      | _ => exact fun h2 => h2.elim
theorem o_repT {τ : Type} {e : τ → D} : O2 β (dMulT false) (eT e) D.int (eT e) fun a b rest => (repTR a b).bind rest := fun a b M k E Q rest h q => by
  obtain ⟨h1, h2⟩ := ite_wp h
  have z := q _ h2
  exact rep_t (by intro c; exact h1.1 (by rw [← List.length_map (f := e), c]; rfl)) h1.2.1 (by rw [List.length_map]; exact h1.2.2) (by rw [map_rep]; exact z)
theorem ij_enumTL {τ : Type} {e : τ → D} {wa : WA} {C : (List τ → S → Res β) → Res β} (h : AJ μ ρ s wa (fun l => [eL e l]) C) : IJ μ ρ s (wiEnumT wa) (eT2 D.int e) fun rest => C fun l s1 => rest (enumT 0 l) s1 := fun k E Q rest h1 q => h _ E Q _ h1 fun a s1 h2 => by
  show k ⟨enumD 0 (a.map e), []⟩ _
  rw [enumD_map]; exact q _ _ h2
theorem ij_enumTT {τ : Type} {e : τ → D} {wa : WA} {C : (List τ → S → Res β) → Res β} (h : AJ μ ρ s wa (fun l => [eT e l]) C) : IJ μ ρ s (wiEnumT wa) (eT2 D.int e) fun rest => C fun l s1 => rest (enumT 0 l) s1 := fun k E Q rest h1 q => h _ E Q _ h1 fun a s1 h2 => by
  show k ⟨enumD 0 (a.map e), []⟩ _
  rw [enumD_map]; exact q _ _ h2
theorem aj_lstarL {τ : Type} {e : τ → D} {we : W} {wr : WA} {Ca : (List τ → S → Res β) → Res β} {Cb : List τ → S → (List τ → S → Res β) → Res β} (ha : EJ μ ρ s we (eL e) Ca) (hb : ∀ a s1, AJ μ ρ s1 wr (List.map e) (Cb a s1)) :
    AJ μ ρ s (waStar we wr) (List.map e) fun rest => Ca fun a s1 => Cb a s1 fun b s2 => rest (a ++ b) s2 := fun k E Q rest h1 q => ha _ E Q _ h1 fun a s1 h2 => hb a s1 _ E Q _ h2 fun b s2 h3 => by
  have z := q (a ++ b) _ h3
  rw [List.map_append] at z
  exact z
theorem aj_lstarT {τ : Type} {e : τ → D} {we : W} {wr : WA} {Ca : (List τ → S → Res β) → Res β} {Cb : List τ → S → (List τ → S → Res β) → Res β} (ha : EJ μ ρ s we (eT e) Ca) (hb : ∀ a s1, AJ μ ρ s1 wr (List.map e) (Cb a s1)) :
    AJ μ ρ s (waStar we wr) (List.map e) fun rest => Ca fun a s1 => Cb a s1 fun b s2 => rest (a ++ b) s2 := fun k E Q rest h1 q => ha _ E Q _ h1 fun a s1 h2 => hb a s1 _ E Q _ h2 fun b s2 h3 => by
  have z := q (a ++ b) _ h3
  rw [List.map_append] at z
  exact z
theorem ej_lstS {τ : Type} {e : τ → D} {wa : WA} {C : (List τ → S → Res β) → Res β} (h : AJ μ ρ s wa (List.map e) C) : EJ μ ρ s (wLst false wa) (eL e) fun rest => C fun a s1 => (szR a).bind fun l => rest l s1 := fun k E Q rest h1 q =>
  h _ E Q _ h1 fun a s1 h2 => by
    obtain ⟨g1, g2⟩ := ite_wp h2
    exact sz (by rw [List.length_map]; exact g1) (q a s1 g2)
end
end Ty

set_option Elab.async false
set_option linter.all false
set_option maxRecDepth 100000
set_option maxHeartbeats 4000000
/-! Working with typed code. -/
namespace Ty
open PySem PySem.Spec PyProof.Rows L2 Rl RZ RT Px
theorem wp_iff {α : Type} {m : Res α} {Q : α → Prop} : m.wp Q ↔ ∃ a, m = .ok a ∧ Q a := ⟨fun h => h.get, fun ⟨a, e, h⟩ => by rw [e]; exact h⟩
theorem ok_of_wp {α : Type} {m : Res α} {a : α} (h : m.wp fun r => r = a) : m = .ok a := by
  obtain ⟨b, e, q⟩ := h.get
  rw [e, q]
theorem bind_eq {α β : Type} {m : Res α} {a : α} {f : α → Res β} (e : m = .ok a) : m.bind f = f a := by rw [e]; rfl
theorem wp_bnd {α β : Type} {m : Res α} {f : α → Res β} {Q : β → Prop} {R : α → Prop} (h : m.wp R) (g : ∀ a, R a → (f a).wp Q) : (m.bind f).wp Q := by
  rw [wp_bind]; exact h.mono g
theorem wp_bok {α β : Type} {m : Res α} {a : α} {f : α → Res β} {Q : β → Prop} (e : m = .ok a) (g : (f a).wp Q) : (m.bind f).wp Q := by
  rw [e]; exact g
theorem wp_ite {α : Type} {c : Bool} {a b : Res α} {Q : α → Prop} (h1 : c = true → a.wp Q) (h2 : c = false → b.wp Q) : (if c = true then a else b).wp Q := by
  cases c with
  | true => exact h1 rfl
  | false => exact h2 rfl
/-! ### what may fail -/
theorem rngR_ok {a b : Int} (h : (-(2 ^ 62) ≤ a ∧ a < 2 ^ 62) ∧ (-(2 ^ 62) ≤ b ∧ b < 2 ^ 62)) : rngR a b = .ok (irng a (b - a).toNat) := if_pos h
theorem irng_len' (a : Int) (n : Nat) : (irng a n).length = n := by simp [irng]
theorem irng_get {a : Int} {n i : Nat} (h : i < n) : (irng a n)[i]? = some (a + i) := by
  unfold irng; simp [h]
theorem mem_irng {a x : Int} {n : Nat} : x ∈ irng a n ↔ a ≤ x ∧ x < a + n := by
  unfold irng
  rw [List.mem_map]
  constructor
  · rintro ⟨i, hi, rfl⟩
    have := List.mem_range.mp hi
    omega
  · intro h
    exact ⟨(x - a).toNat, List.mem_range.mpr (by omega), by omega⟩
theorem lcM_ok {τ υ : Type} {f : τ → υ} {xs : List τ} (h : xs.length ≤ 16777216) : lcM f xs = .ok (xs.map f) := if_pos h
theorem lcF_ok {τ υ : Type} {p : τ → Bool} {f : τ → υ} {xs : List τ} (h : xs.length ≤ 16777216) : lcF p f xs = .ok ((xs.filter p).map f) := if_pos (Nat.le_trans (List.length_filter_le ..) h)
theorem lcR_acc {τ υ : Type} {p : τ → Res Bool} {g : τ → Res υ} (b : τ → Bool) (f : τ → υ) : ∀ (xs : List τ) (acc : List υ), acc.length + xs.length ≤ 16777216 → (∀ x ∈ xs, p x = .ok (b x)) → (∀ x ∈ xs, b x = true → g x = .ok (f x)) → lcR p g xs acc = .ok (acc ++ (xs.filter b).map f)
  | [], acc, _, _, _ => by simp [lcR]
  | x :: xs, acc, h, hp, hg => by
    rw [List.length_cons] at h
    unfold lcR
    rw [hp x (List.mem_cons_self ..), bind_ok]
    by_cases c : b x = true
    · rw [c, if_pos rfl, hg x (List.mem_cons_self ..) c, bind_ok, if_pos (by omega), lcR_acc b f xs (acc ++ [f x]) (by rw [List.length_append, List.length_singleton]; omega) (fun y hy => hp y (List.mem_cons_of_mem _ hy)) fun y hy => hg y (List.mem_cons_of_mem _ hy), List.filter_cons_of_pos c, List.map_cons, List.append_assoc]; rfl
    · rw [if_neg c, lcR_acc b f xs acc (by omega) (fun y hy => hp y (List.mem_cons_of_mem _ hy)) fun y hy => hg y (List.mem_cons_of_mem _ hy), List.filter_cons_of_neg c]
theorem lcR_ok {τ υ : Type} {p : τ → Res Bool} {g : τ → Res υ} (b : τ → Bool) (f : τ → υ) {xs : List τ} (h : xs.length ≤ 16777216) (hp : ∀ x ∈ xs, p x = .ok (b x)) (hg : ∀ x ∈ xs, b x = true → g x = .ok (f x)) : lcR p g xs [] = .ok ((xs.filter b).map f) := lcR_acc b f xs [] (by simpa using h) hp hg
theorem lcR_map {τ υ : Type} {g : τ → Res υ} (f : τ → υ) {xs : List τ} (h : xs.length ≤ 16777216) (hg : ∀ x ∈ xs, g x = .ok (f x)) : lcR (fun _ => .ok true) g xs [] = .ok (xs.map f) := by
  rw [lcR_ok (fun _ => true) f h (fun _ _ => rfl) fun x hx _ => hg x hx, List.filter_eq_self.mpr fun _ _ => rfl]
/-- nothing passes -/
theorem lcR_nil {τ υ : Type} {p : τ → Res Bool} {g : τ → Res υ} {xs : List τ} (hp : ∀ x ∈ xs, p x = .ok false) : lcR p g xs [] = .ok [] := by
  induction xs with
  | nil => rfl
  | cons x xs ih =>
    unfold lcR
    rw [hp x (List.mem_cons_self ..), bind_ok, if_neg Bool.false_ne_true]
    exact ih fun y hy => hp y (List.mem_cons_of_mem _ hy)
/-- a comprehension along which the state goes -/
theorem lcS_wp {τ υ S : Type} {step : τ → S → Res (Option υ × S)} {Q : List υ × S → Prop} (inv : Nat → List υ → S → Prop) : ∀ (xs : List τ) (i : Nat) (acc : List υ) (s : S), acc.length ≤ i → i + xs.length ≤ 16777216 → inv i acc s →
    (∀ j x acc s, xs[j]? = some x → inv (i + j) acc s → (step x s).wp fun r => match r.1 with
      | none => inv (i + j + 1) acc r.2
      | some y => inv (i + j + 1) (acc ++ [y]) r.2) → (∀ acc s, inv (i + xs.length) acc s → Q (acc, s)) → (lcS step xs acc s).wp Q
  | [], i, acc, s, _, _, h0, _, hq => hq acc s h0
  | x :: xs, i, acc, s, ha, hl, h0, hs, hq => by
    rw [List.length_cons] at hl hq
    unfold lcS
    refine wp_bnd (hs 0 x acc s rfl h0) fun r hr => ?_
    have hs' : ∀ j y acc s, xs[j]? = some y → inv (i + 1 + j) acc s → (step y s).wp fun r => match r.1 with
      | none => inv (i + 1 + j + 1) acc r.2
      | some y => inv (i + 1 + j + 1) (acc ++ [y]) r.2 := fun j y acc s hy hi => by
      have z := hs (j + 1) y acc s hy (by rw [show i + (j + 1) = i + 1 + j by omega]; exact hi)
      rw [show i + (j + 1) + 1 = i + 1 + j + 1 by omega] at z
      exact z
    obtain ⟨o, s'⟩ := r
    cases o with
    | none => exact lcS_wp inv xs (i + 1) acc s' (by omega) (by omega) hr hs' fun acc s h => hq acc s (by rw [show i + (xs.length + 1) = i + 1 + xs.length by omega]; exact h)
    | some y =>
      show (if acc.length + 1 ≤ 16777216 then lcS step xs (acc ++ [y]) s' else Res.no).wp Q
      rw [if_pos (by omega)]
      exact lcS_wp inv xs (i + 1) (acc ++ [y]) s' (by rw [List.length_append, List.length_singleton]; omega) (by omega) hr hs' fun acc s h => hq acc s (by rw [show i + (xs.length + 1) = i + 1 + xs.length by omega]; exact h)
theorem atI_ok {τ : Type} {l : List τ} {i : Int} (h0 : 0 ≤ i) (h : i < l.length) : atI l i = some (l[i.toNat]'(by omega)) := by
  unfold atI ixN
  rw [if_pos h0, if_pos h]
  show l[i.toNat]? = _
  rw [List.getElem?_eq_getElem]
theorem ixR_ok {τ : Type} {l : List τ} {i : Int} (h0 : 0 ≤ i) (h : i < l.length) : ixR l i = .ok (l[i.toNat]'(by omega)) := by
  unfold ixR; rw [atI_ok h0 h]
theorem ixR_get {τ : Type} {l : List τ} {i : Int} {x : τ} (h0 : 0 ≤ i) (h : l[i.toNat]? = some x) : ixR l i = .ok x := by
  obtain ⟨h1, h2⟩ := List.getElem?_eq_some_iff.mp h
  rw [ixR_ok h0 (by omega), h2]
theorem ixR_app {τ : Type} {l : List τ} {x : τ} : ixR (l ++ [x]) (-1) = .ok x := by
  unfold ixR atI ixN
  rw [if_neg (by omega), List.length_append, List.length_singleton, if_pos (by omega)]
  show (match (l ++ [x])[((-1 : Int) + ((l.length + 1 : Nat) : Int)).toNat]? with
    | some a => Res.ok a
    | none => .no) = _
  rw [show ((-1 : Int) + ((l.length + 1 : Nat) : Int)).toNat = l.length by omega]
  simp
theorem appR_ok {τ : Type} {l : List τ} {a : τ} (h : l.length + 1 ≤ 16777216) : appR l a = .ok (l ++ [a]) := if_pos h
theorem setR_ok {τ : Type} {l : List τ} {i : Int} {a : τ} (h0 : 0 ≤ i) (h : i < l.length) : setR l i a = .ok (l.set i.toNat a) := by
  unfold setR ixN
  rw [if_pos h0, if_pos h]
theorem addL_ok {τ : Type} {a b : List τ} (h : a.length + b.length ≤ 16777216) : addL a b = .ok (a ++ b) := if_pos h
theorem log2_lt {a : Int} {n : Nat} (hn : 0 < n) (h : a.natAbs < 2 ^ n) : a.natAbs.log2 < n := big_log hn h
theorem mulR_ok {a b : Int} (n m : Nat) (hn : 0 < n) (hm : 0 < m) (ha : a.natAbs < 2 ^ n) (hb : b.natAbs < 2 ^ m) (h : n + m ≤ 1000000) : mulR a b = .ok (a * b) := if_pos (.inr (by
  have := log2_lt hn ha
  have := log2_lt hm hb
  omega))
theorem mulR_l {a b : Int} (h : a.natAbs < 2 ^ 64) : mulR a b = .ok (a * b) := if_pos (.inl (.inl h))
theorem mulR_r {a b : Int} (h : b.natAbs < 2 ^ 64) : mulR a b = .ok (a * b) := if_pos (.inl (.inr h))
theorem fdR_ok {a b : Int} (h0 : 0 < b) (h : b < 2 ^ 63) : fdR a b = .ok (a / b) := if_pos ⟨h0, by
  have := log2_lt (a := b) (n := 63) (by decide) (by omega)
  omega⟩
theorem mdR_ok {a b : Int} (h0 : 0 < b) : mdR a b = .ok (a % b) := if_pos h0
theorem pwR_ok {a b : Int} (h : 0 ≤ b ∧ b ≤ 1000000 ∧ a.natAbs < 2 ^ 64) : pwR a b = .ok (a ^ b.toNat) := if_pos h
theorem repL_ok {τ : Type} {a : List τ} {j : Int} (h : (-(2 ^ 63) ≤ j ∧ j < 2 ^ 63) ∧ a.length * j.toNat ≤ 16777216) : repL a j = .ok (List.replicate j.toNat a).flatten := if_pos h
theorem maxR_ok {l : List Int} (h : l ≠ []) : maxR l = .ok (maxL l) := if_neg h
theorem minR_ok {l : List Int} (h : l ≠ []) : minR l = .ok (minL l) := if_neg h
theorem sortR_ok {l : List Int} (h : l.length < 64) : sortR l = .ok (sortL l) := if_pos h
theorem eqR_ok {τ : Type} [DecidableEq τ] {okf : τ → Bool} {a b : τ} (ha : okf a = true) (hb : okf b = true) : eqR okf a b = .ok (decide (a = b)) := if_pos ⟨ha, hb⟩
theorem inR_ok {τ : Type} [DecidableEq τ] {okf : τ → Bool} {a : τ} {l : List τ} (ha : okf a = true) (hb : okL okf l = true) : inR okf a l = .ok (decide (a ∈ l)) := if_pos ⟨ha, hb⟩
/-! ### loops -/
section
variable {σ S τ β : Type} {step : σ → S → τ → Res (Flow σ S β)} {rest : σ → S → Res β} {Q : β → Prop}
theorem forR_wp (inv : Nat → σ → S → Prop) : ∀ (xs : List τ) (i : Nat) (v : σ) (s : S), inv i v s →
    (∀ j x v s, xs[j]? = some x → inv (i + j) v s → (step v s x).wp fun r => match r with
      | .nx v s => inv (i + j + 1) v s
      | .bk v s => (rest v s).wp Q
      | .rt b => Q b) → (∀ v s, inv (i + xs.length) v s → (rest v s).wp Q) → (forR step rest xs v s).wp Q
  | [], i, v, s, h0, _, hq => hq v s h0
  | x :: xs, i, v, s, h0, hs, hq => by
    unfold forR
    refine wp_bnd (hs 0 x v s rfl h0) fun r hr => ?_
    cases r with
    | nx v' s' =>
      refine forR_wp inv xs (i + 1) v' s' hr (fun j y v s hy hi => ?_) fun v s h => hq v s (by rw [List.length_cons, show i + (xs.length + 1) = i + 1 + xs.length by omega]; exact h)
      have z := hs (j + 1) y v s hy (by rw [show i + (j + 1) = i + 1 + j by omega]; exact hi)
      rw [show i + (j + 1) + 1 = i + 1 + j + 1 by omega] at z
      exact z
    | bk v' s' => exact hr
    | rt b => exact hr
/-- every turn goes on; the state is told by the items taken -/
theorem forR_to (f : List τ → σ × S) {xs : List τ} (hs : ∀ pre x post, xs = pre ++ x :: post → step (f pre).1 (f pre).2 x = .ok (.nx (f (pre ++ [x])).1 (f (pre ++ [x])).2)) : forR step rest xs (f []).1 (f []).2 = rest (f xs).1 (f xs).2 := by
  have key : ∀ (ys pre : List τ), xs = pre ++ ys → forR step rest ys (f pre).1 (f pre).2 = rest (f xs).1 (f xs).2 := fun ys => by
    induction ys with
    | nil => intro pre h; rw [h, List.append_nil]; rfl
    | cons y ys ih =>
      intro pre h
      unfold forR
      rw [hs pre y ys h, bind_ok]
      exact ih (pre ++ [y]) (by rw [h, List.append_assoc]; rfl)
  exact key xs [] rfl
/-- no turn says anything -/
theorem forR_all {xs : List τ} {v : σ} {s : S} (hs : ∀ x ∈ xs, step v s x = .ok (.nx v s)) : forR step rest xs v s = rest v s := by
  induction xs with
  | nil => rfl
  | cons x xs ih =>
    unfold forR
    rw [hs x (List.mem_cons_self ..), bind_ok]
    exact ih fun y hy => hs y (List.mem_cons_of_mem _ hy)
end
/-! ### the drawing of numbers -/
abbrev TapT := List Int × Int × Int
/-- as many draws so far, at most -/
structure TapOk (b : Int) (t : TapT) : Prop where
  len : t.1.length ≤ 64
  lo : 0 ≤ t.2.1
  hi : t.2.1 ≤ b
theorem TapOk.b0 {b : Int} {t : TapT} (h : TapOk b t) : 0 ≤ b := Int.le_trans h.lo h.hi
theorem TapOk.mono {b c : Int} {t : TapT} (h : TapOk b t) (hc : b ≤ c) : TapOk c t := ⟨h.len, h.lo, Int.le_trans h.hi hc⟩
theorem pw_bound {m a c1 c2 c3 : Int} (h0 : 0 ≤ m) (h1 : m < 2147483648) (h2 : 0 ≤ a) (h3 : a ≤ 1048576) (k1 : 0 ≤ c1 ∧ c1 ≤ 1000000) (k2 : 0 ≤ c2 ∧ c2 ≤ 1000000) (k3 : 0 ≤ c3 ∧ c3 ≤ 1000000) : (m * (2 * a + c1) + c2 * a * a + c3).natAbs < 2 ^ 64 := by
  have e1 : m * (2 * a + c1) ≤ 2147483648 * (2 * 1048576 + 1000000) := Int.mul_le_mul (by omega) (by omega) (by omega) (by omega)
  have e2 : 0 ≤ m * (2 * a + c1) := Int.mul_nonneg h0 (by omega)
  have e5 : 0 ≤ c2 * a := Int.mul_nonneg k2.1 h2
  have e6 : c2 * a ≤ 1000000 * 1048576 := Int.mul_le_mul k2.2 h3 h2 (by omega)
  have e3 : c2 * a * a ≤ (1000000 * 1048576) * 1048576 := Int.mul_le_mul e6 h3 h2 (by omega)
  have e4 : 0 ≤ c2 * a * a := Int.mul_nonneg e5 h2
  omega
theorem cut60 (l : List Int) (n : Int) (hn : 0 ≤ n) : (Px.cutD l none (some n)).length ≤ n.toNat := by
  unfold Px.cutD
  rw [List.length_take]
  have h : HT.sIx l.length l.length (some n) ≤ n.toNat := by
    unfold HT.sIx
    simp only []
    rw [if_neg (by omega)]
    exact Nat.min_le_left _ _
  omega
end Ty

set_option Elab.async false
set_option linter.all false
set_option maxRecDepth 100000
set_option maxHeartbeats 4000000
namespace K12
open PySem PySem.Spec PyProof.Rows L2 Rl RZ RT
def mkrs : List Str := ["_law_refused_right"]
instance tbI (K : PySem.W.Frag) : Px.Tb K := ⟨tabsL K mkrs⟩
def ts_law_heard (K : PySem.W.Frag) (w : World) : TS :=
  (tAsg (tVar 2) (gName 1))
def tr_law_heard (K : PySem.W.Frag) (w : World) : TS :=
  (tRet (tIf (tTru K (tCB (Px.qIsiX K) (tCons (tVar 1) (tCons (tC (.ref (He.ga K "BadRow"))) tNil)))) (tXg K "part" (tVar 1)) (tC .non)))
abbrev N_law_heard : List Str := ["_law_ask", "_law_caught", "error"]
def t_is_integer (K : PySem.W.Frag) (w : World) : TS :=
  (tRet (tAndT K (tCB (qIsi K) (tCons (tVar 0) (tCons (tC (.ty "int")) tNil))) (tNotT K (tCB (qIsi K) (tCons (tVar 0) (tCons (tC (.ty "bool")) tNil))))))
abbrev N_is_integer : List Str := ["value"]
def sp_is_integer (K : PySem.W.Frag) (w : World) : Sp := fun vs H Q _ => vs.length = 1 ∧ t_is_integer K w { nx := fun _ H' => Q .non H', rt := Q } (start N_is_integer vs) H
def t_is_within (K : PySem.W.Frag) (w : World) : TS :=
  (tSeq (tIfS (tNot (tTru K (tFn 1 0 (sp_is_integer K w) (fun vs _ => vs) C8.E0 (tcP (tCons (tVar 0) tNil))))) (tRet (tC (.bl false))) tNext)
  (tRet (tAndT K (tOrT K (tOp qIs (tVar 1) (tC .non)) (tOp qLe (tVar 1) (tVar 0))) (tOrT K (tOp qIs (tVar 2) (tC .non)) (tOp qLe (tVar 0) (tVar 2))))))
abbrev N_is_within : List Str := ["value", "least", "most"]
def sp_is_within (K : PySem.W.Frag) (w : World) : Sp := fun vs H Q _ => vs.length = 3 ∧ t_is_within K w { nx := fun _ H' => Q .non H', rt := Q } (start N_is_within vs) H
abbrev N_BadRow_init : List Str := ["self", "part"]
def t_need_row (K : PySem.W.Frag) (w : World) (EX : XK) : TS :=
  (tIfS (tNot (tTru K (tCB (qIsi K) (tCons (tVar 0) (tCons (tC (.ref (He.ga K "Row"))) tNil))))) (tRaiseX K (He.ga K "BadRow") ["part"] (tCons (tVar 1) tNil) EX) tNext)
abbrev N_need_row : List Str := ["value", "part"]
def sp_need_row (K : PySem.W.Frag) (w : World) : Sp := fun vs H Q EX => vs.length = 2 ∧ t_need_row K w EX { nx := fun _ H' => Q .non H', rt := Q } (start N_need_row vs) H
def t_Rule_first_broken (K : PySem.W.Frag) (w : World) (EX : XK) : TS :=
  (tSeq (tDrop (tFn 2 0 (sp_need_row K w) (fun vs _ => vs) EX (tcP (tCons (tVar 1) (tCons (tC (.str "row")) tNil)))))
  (tSeq (tFor (iRng1 (tCons (tOp (qAdd K) (tOp qSub (tFld K (tVar 1) "days") (tFld K (tVar 0) "length")) (tC (.int 1))) tNil)) (gName 2) (tIfS (tNot (tTru K (tFn 3 0 (sp_is_within K w) (fun vs _ => vs) C8.E0 (tcP (tCons (tOp qSub (tOp (rIx K) (tFld K (tVar 1) "heights") (tOp (qAdd K) (tVar 2) (tFld K (tVar 0) "length"))) (tOp (rIx K) (tFld K (tVar 1) "heights") (tVar 2))) (tCons (tFld K (tVar 0) "low") (tCons (tFld K (tVar 0) "high") tNil))))))) (tRet (tVar 2)) tNext))
  (tRet (tC .non))))
abbrev N_Rule_first_broken : List Str := ["self", "row", "begin"]
def sp_Rule_first_broken (K : PySem.W.Frag) (w : World) : Sp := fun vs H Q EX => vs.length = 2 ∧ t_Rule_first_broken K w EX { nx := fun _ H' => Q .non H', rt := Q } (start N_Rule_first_broken vs) H
def t_Rule_keeps (K : PySem.W.Frag) (w : World) (EX : XK) : TS :=
  (tRet (tOp qIs (tMt (He.ga K "Rule") "first_broken" 1 0 (sp_Rule_first_broken K w) (fun vs _ => vs) EX (tVar 0) (tcP (tCons (tVar 1) tNil))) (tC .non)))
abbrev N_Rule_keeps : List Str := ["self", "row"]
def sp_Rule_keeps (K : PySem.W.Frag) (w : World) : Sp := fun vs H Q EX => vs.length = 2 ∧ t_Rule_keeps K w EX { nx := fun _ H' => Q .non H', rt := Q } (start N_Rule_keeps vs) H
def t_law_draw (K : PySem.W.Frag) (w : World) : TS :=
  (tSeq (tIfS (tTest (tOp qGt (tOp (rIx K) (tVar 0) (tC (.int 2))) (tC (.int 0)))) (tSeq (tAsg (tOp (rIx K) (tVar 0) (tC (.int 2))) (gName 2))
  (tSeq (tAsg (tOp qFd (tCB qInt (tCons (tVar 2) tNil)) (tVar 1)) (gSub (tVar 0) (tC (.int 2)) rSetL))
  (tRet (tOp qMd (tCB qInt (tCons (tVar 2) tNil)) (tVar 1))))) tNext)
  (tSeq (tAsg (tOp (rIx K) (tVar 0) (tC (.int 1))) (gName 3))
  (tSeq (tAsg (tOp (qAdd K) (tVar 3) (tC (.int 1))) (gSub (tVar 0) (tC (.int 1)) rSetL))
  (tSeq (tAsg (tOp (qAdd K) (tOp (qMulT K) (tC (.int 61007)) (tVar 3)) (tC (.int 4217))) (gName 4))
  (tSeq (tIfS (tTest (tOp (qNe K) (tOp (rIx K) (tVar 0) (tC (.int 0))) (tLst tNil))) (tAsg (tOp (rIx K) (tOp (rIx K) (tVar 0) (tC (.int 0))) (tOp qMd (tCB qInt (tCons (tVar 3) tNil)) (tCB (qLen K) (tCons (tOp (rIx K) (tVar 0) (tC (.int 0))) tNil)))) (gName 4)) tNext)
  (tSeq (tIfS (tAnd (tTest (tOp (qLt K) (tVar 3) (tCB (qLen K) (tCons (tOp (rIx K) (tVar 0) (tC (.int 0))) tNil)))) (tTest (tOp qGe (tCB qAbs (tCons (tVar 4) tNil)) (tOp qPw (tC (.int 10)) (tC (.int 18)))))) (tSeq (tAsg (tOp (qAdd K) (tOp (qMulT K) (tC (.int 2)) (tOp qSub (tCB qAbs (tCons (tVar 4) tNil)) (tOp qPw (tC (.int 10)) (tC (.int 18))))) (tCB qInt (tCons (tOp (qLt K) (tVar 4) (tC (.int 0))) tNil))) (gName 2))
  (tSeq (tAsg (tOp qFd (tCB qInt (tCons (tVar 2) tNil)) (tVar 1)) (gSub (tVar 0) (tC (.int 2)) rSetL))
  (tRet (tOp qMd (tCB qInt (tCons (tVar 2) tNil)) (tVar 1))))) tNext)
  (tSeq (tAsg (tOp qMd (tCB qInt (tCons (tOp qPw (tOp (qAdd K) (tOp (qAdd K) (tOp qMd (tCB qInt (tCons (tVar 4) tNil)) (tC (.int 2147483563))) (tOp (qMulT K) (tC (.int 73013)) (tVar 3))) (tC (.int 4217))) (tC (.int 5))) tNil)) (tC (.int 2147483579))) (gName 5))
  (tSeq (tAsg (tOp qMd (tCB qInt (tCons (tOp qPw (tOp (qAdd K) (tOp (qAdd K) (tOp (qMulT K) (tVar 5) (tOp (qAdd K) (tOp (qMulT K) (tC (.int 2)) (tVar 3)) (tC (.int 2207)))) (tOp (qMulT K) (tOp (qMulT K) (tC (.int 61007)) (tVar 3)) (tVar 3))) (tC (.int 73013))) (tC (.int 3))) tNil)) (tC (.int 2147483587))) (gName 5))
  (tRet (tOp qMd (tCB qInt (tCons (tOp qFd (tVar 5) (tC (.int 64))) tNil)) (tVar 1)))))))))))
abbrev N_law_draw : List Str := ["_law_pen_here", "_law_many", "_law_rest", "_law_turn", "_law_cell", "_law_mixed"]
def sp_law_draw (K : PySem.W.Frag) (w : World) : Sp := fun vs H Q _ => vs.length = 2 ∧ t_law_draw K w { nx := fun _ H' => Q .non H', rt := Q } (start N_law_draw vs) H
def t_law_of (K : PySem.W.Frag) (w : World) : TS :=
  (tRet (tOp (rIx K) (tVar 1) (tFn 2 0 (sp_law_draw K w) (fun vs _ => vs) C8.E0 (tcP (tCons (tVar 0) (tCons (tCB (qLen K) (tCons (tVar 1) tNil)) tNil))))))
abbrev N_law_of : List Str := ["_law_pen_here", "_law_some"]
def sp_law_of (K : PySem.W.Frag) (w : World) : Sp := fun vs H Q _ => vs.length = 2 ∧ t_law_of K w { nx := fun _ H' => Q .non H', rt := Q } (start N_law_of vs) H
def t_are_bounds (K : PySem.W.Frag) (w : World) : TS :=
  (tSeq (tIfS (tOr (tTest (tOp qIs (tVar 0) (tC .non))) (tTest (tOp qIs (tVar 1) (tC .non)))) (tRet (tOrT K (tOp qIsn (tVar 0) (tC .non)) (tOp qIsn (tVar 1) (tC .non)))) tNext)
  (tRet (tOp qLe (tVar 0) (tVar 1))))
abbrev N_are_bounds : List Str := ["low", "high"]
def sp_are_bounds (K : PySem.W.Frag) (w : World) : Sp := fun vs H Q _ => vs.length = 2 ∧ t_are_bounds K w { nx := fun _ H' => Q .non H', rt := Q } (start N_are_bounds vs) H
abbrev N_BadRule_init : List Str := ["self", "part"]
abbrev N_BadNumber_init : List Str := ["self", "part"]
def t_need_bound (K : PySem.W.Frag) (w : World) (EX : XK) : TS :=
  (tIfS (tAnd (tTest (tOp qIsn (tVar 0) (tC .non))) (tNot (tTru K (tFn 1 0 (sp_is_integer K w) (fun vs _ => vs) C8.E0 (tcP (tCons (tVar 0) tNil)))))) (tRaiseX K (He.ga K "BadNumber") ["part"] (tCons (tVar 1) tNil) EX) tNext)
abbrev N_need_bound : List Str := ["value", "part"]
def sp_need_bound (K : PySem.W.Frag) (w : World) : Sp := fun vs H Q EX => vs.length = 2 ∧ t_need_bound K w EX { nx := fun _ H' => Q .non H', rt := Q } (start N_need_bound vs) H
def t_need_number (K : PySem.W.Frag) (w : World) (EX : XK) : TS :=
  (tIfS (tNot (tTru K (tFn 3 0 (sp_is_within K w) (fun vs _ => vs) C8.E0 (tcP (tCons (tVar 0) (tCons (tVar 2) (tCons (tVar 3) tNil))))))) (tRaiseX K (He.ga K "BadNumber") ["part"] (tCons (tVar 1) tNil) EX) tNext)
abbrev N_need_number : List Str := ["value", "part", "least", "most"]
def sp_need_number (K : PySem.W.Frag) (w : World) : Sp := fun vs H Q EX => vs.length = 4 ∧ t_need_number K w EX { nx := fun _ H' => Q .non H', rt := Q } (start N_need_number vs) H
def t_Rule_init (K : PySem.W.Frag) (w : World) (EX : XK) : TS :=
  (tSeq (tDrop (tFn 4 0 (sp_need_number K w) (fun vs _ => vs) EX (tcP (tCons (tVar 1) (tCons (tC (.str "length")) (tCons (tC (.int 1)) (tCons (tC (.int (48))) tNil)))))))
  (tSeq (tDrop (tFn 2 0 (sp_need_bound K w) (fun vs _ => vs) EX (tcP (tCons (tVar 2) (tCons (tC (.str "low")) tNil)))))
  (tSeq (tDrop (tFn 2 0 (sp_need_bound K w) (fun vs _ => vs) EX (tcP (tCons (tVar 3) (tCons (tC (.str "high")) tNil)))))
  (tSeq (tIfS (tNot (tTru K (tFn 2 0 (sp_are_bounds K w) (fun vs _ => vs) C8.E0 (tcP (tCons (tVar 2) (tCons (tVar 3) tNil)))))) (tRaiseX K (He.ga K "BadRule") ["part"] (tCons (tC (.str "bounds")) tNil) EX) tNext)
  (tSeq (sFld K (tVar 0) (tVar 1) "length")
  (tSeq (sFld K (tVar 0) (tVar 2) "low")
  (sFld K (tVar 0) (tVar 3) "high")))))))
abbrev N_Rule_init : List Str := ["self", "length", "low", "high"]
def sp_Rule_init (K : PySem.W.Frag) (w : World) : Sp := fun vs H Q EX => vs.length = 4 ∧ t_Rule_init K w EX { nx := fun _ H' => Q .non H', rt := Q } (start N_Rule_init vs) H
def t_law_number (K : PySem.W.Frag) (w : World) : TS :=
  (tSeq (tAsg (tFn 2 0 (sp_law_draw K w) (fun vs _ => vs) C8.E0 (tcP (tCons (tVar 0) (tCons (tC (.int 9)) tNil)))) (gName 1))
  (tSeq (tIfS (tTest (tOp (qLt K) (tVar 1) (tC (.int 6)))) (tRet (tOp qSub (tFn 2 0 (sp_law_draw K w) (fun vs _ => vs) C8.E0 (tcP (tCons (tVar 0) (tCons (tC (.int 7)) tNil)))) (tC (.int 3)))) tNext)
  (tSeq (tIfS (tTest (tOp (qLt K) (tVar 1) (tC (.int 8)))) (tRet (tOp qSub (tFn 2 0 (sp_law_draw K w) (fun vs _ => vs) C8.E0 (tcP (tCons (tVar 0) (tCons (tC (.int 1999)) tNil)))) (tC (.int 999)))) tNext)
  (tRet (tOp (qMulT K) (tOp qSub (tC (.int 1)) (tOp (qMulT K) (tC (.int 2)) (tFn 2 0 (sp_law_draw K w) (fun vs _ => vs) C8.E0 (tcP (tCons (tVar 0) (tCons (tC (.int 2)) tNil)))))) (tOp (qAdd K) (tOp qPw (tC (.int 10)) (tC (.int 24))) (tFn 2 0 (sp_law_draw K w) (fun vs _ => vs) C8.E0 (tcP (tCons (tVar 0) (tCons (tC (.int 1000003)) tNil))))))))))
abbrev N_law_number : List Str := ["_law_pen_here", "_law_way"]
def sp_law_number (K : PySem.W.Frag) (w : World) : Sp := fun vs H Q _ => vs.length = 1 ∧ t_law_number K w { nx := fun _ H' => Q .non H', rt := Q } (start N_law_number vs) H
def t_law_refused_right (K : PySem.W.Frag) (w : World) : TS :=
  (tSeq (tAsg (tNew (He.ga K "Rule") 2 0 (sp_Rule_init K w) (fun vs _ => vs ++ [.non]) C8.E0 (tcP (tCons (tFn 2 0 (sp_law_of K w) (fun vs _ => vs) C8.E0 (tcP (tCons (tVar 0) (tCons (tLst (tCons (tC (.int 1)) (tCons (tC (.int 2)) (tCons (tC (.int 48)) tNil)))) tNil)))) (tCons (tFn 1 0 (sp_law_number K w) (fun vs _ => vs) C8.E0 (tcP (tCons (tVar 0) tNil))) tNil)))) (gName 4))
  (tSeq (tAsg (tFn 2 0 (sp_law_of K w) (fun vs _ => vs) C8.E0 (tcP (tCons (tVar 0) (tCons (tLst (tCons (tC .non) (tCons (tC (.int 5)) (tCons (tVar 1) (tCons (tCB (qTup K) (tCons (tVar 1) tNil)) (tCons (tBM K "str" (qJoin K) (tC (.str " ")) (tCons (tLc (iSeq K (tVar 1)) (gName 5) tYes (tCB qStr (tCons (tVar 5) tNil)) [5]) tNil)) (tCons (tVar 4) (tCons tDNewK (tCons (tC (.bl true)) tNil))))))))) tNil)))) (gName 3))
  (tSeq (tAsg (tLst (tCons (LamX.tLam (tabsL K mkrs) (ttH K (He.ga K "DayError") 2 3 1 .non (ts_law_heard K w) (tr_law_heard K w) N_law_heard) (fun EX => (tMt (He.ga K "Rule") "keeps" 1 0 (sp_Rule_keeps K w) (fun vs _ => vs) EX (tVar 4) (tcP (tCons (tVar 3) tNil))))) tNil)) (gName 2))
  (tSeq (tDrop (tBM K "list" rAppend (tVar 2) (tCons (LamX.tLam (tabsL K mkrs) (ttH K (He.ga K "DayError") 2 3 1 .non (ts_law_heard K w) (tr_law_heard K w) N_law_heard) (fun EX => (tMt (He.ga K "Rule") "first_broken" 1 0 (sp_Rule_first_broken K w) (fun vs _ => vs) EX (tVar 4) (tcP (tCons (tVar 3) tNil))))) tNil)))
  (tRet (tOp (qEq K) (tVar 2) (tLst (tCons (tC (.str "row")) (tCons (tC (.str "row")) tNil)))))))))
abbrev N_law_refused_right : List Str := ["_law_pen_here", "_law_gains_here", "_law_heard_here", "_law_odd", "_law_rule", "_law_gain"]
def sp_law_refused_right (K : PySem.W.Frag) (w : World) : Sp := fun vs H Q _ => vs.length = 2 ∧ t_law_refused_right K w { nx := fun _ H' => Q .non H', rt := Q } (start N_law_refused_right vs) H
def t_heights_of (K : PySem.W.Frag) (w : World) : TS :=
  (tSeq (tAsg (tLst (tCons (tC (.int 0)) tNil)) (gName 1))
  (tSeq (tFor (iSeq K (tVar 0)) (gName 2) (tDrop (tBM K "list" rAppend (tVar 1) (tCons (tOp (qAdd K) (tOp (rIx K) (tVar 1) (tUn (rU fun i => .int (-i)) (tC (.int 1)))) (tVar 2)) tNil))))
  (tRet (tCB (qTup K) (tCons (tVar 1) tNil)))))
abbrev N_heights_of : List Str := ["gains", "found", "gain"]
def sp_heights_of (K : PySem.W.Frag) (w : World) : Sp := fun vs H Q _ => vs.length = 1 ∧ t_heights_of K w { nx := fun _ H' => Q .non H', rt := Q } (start N_heights_of vs) H
abbrev N_TooMany_init : List Str := ["self", "what", "most"]
def t_are_integers (K : PySem.W.Frag) (w : World) : TS :=
  (tRet (tAndT K (tCB (qIsi K) (tCons (tVar 0) (tCons (tTup (tCons (tC (.ty "list")) (tCons (tC (.ty "tuple")) tNil))) tNil))) (tCB (rAll K) (tCons (tLc (iSeq K (tVar 0)) (gName 1) tYes (tFn 1 0 (sp_is_integer K w) (fun vs _ => vs) C8.E0 (tcP (tCons (tVar 1) tNil))) [1]) tNil))))
abbrev N_are_integers : List Str := ["value", "each"]
def sp_are_integers (K : PySem.W.Frag) (w : World) : Sp := fun vs H Q _ => vs.length = 1 ∧ t_are_integers K w { nx := fun _ H' => Q .non H', rt := Q } (start N_are_integers vs) H
def t_Row_init (K : PySem.W.Frag) (w : World) (EX : XK) : TS :=
  (tSeq (tIfS (tOr (tNot (tTru K (tFn 1 0 (sp_are_integers K w) (fun vs _ => vs) C8.E0 (tcP (tCons (tVar 1) tNil))))) (tTest (tOp (qEq K) (tCB (qLen K) (tCons (tVar 1) tNil)) (tC (.int 0))))) (tRaiseX K (He.ga K "BadRow") ["part"] (tCons (tC (.str "gains")) tNil) EX) tNext)
  (tSeq (tIfS (tTest (tOp qGt (tCB (qLen K) (tCons (tVar 1) tNil)) (tC (.int (48))))) (tRaiseX K (He.ga K "TooMany") ["what", "most"] (tCons (tC (.str "days")) (tCons (tC (.int (48))) tNil)) EX) tNext)
  (tSeq (sFld K (tVar 0) (tCB (qTup K) (tCons (tVar 1) tNil)) "gains")
  (tSeq (sFld K (tVar 0) (tFn 1 0 (sp_heights_of K w) (fun vs _ => vs) C8.E0 (tcP (tCons (tVar 1) tNil))) "heights")
  (tSeq (sFld K (tVar 0) (tCB (qLen K) (tCons (tVar 1) tNil)) "days")
  (sFld K (tVar 0) (tOp (rIx K) (tFld K (tVar 0) "heights") (tUn (rU fun i => .int (-i)) (tC (.int 1)))) "total"))))))
abbrev N_Row_init : List Str := ["self", "gains"]
def sp_Row_init (K : PySem.W.Frag) (w : World) : Sp := fun vs H Q EX => vs.length = 2 ∧ t_Row_init K w EX { nx := fun _ H' => Q .non H', rt := Q } (start N_Row_init vs) H
def t_law_bounds (K : PySem.W.Frag) (w : World) : TS :=
  (tSeq (tIfS (tTest (tOp (qEq K) (tVar 1) (tLst tNil))) (tSeq (tAsg (tFn 1 0 (sp_law_number K w) (fun vs _ => vs) C8.E0 (tcP (tCons (tVar 0) tNil))) (gName 2))
  (tRet (tLst (tCons (tTup (tCons (tVar 2) (tCons (tC .non) tNil))) (tCons (tTup (tCons (tC .non) (tCons (tVar 2) tNil))) (tCons (tTup (tCons (tVar 2) (tCons (tVar 2) tNil))) tNil)))))) tNext)
  (tSeq (tPar3 3 4 5 (tCons (tCB (qMnT K) (tCons (tVar 1) tNil)) (tCons (tCB (qMxT K) (tCons (tVar 1) tNil)) (tCons (tFn 2 0 (sp_law_of K w) (fun vs _ => vs) C8.E0 (tcP (tCons (tVar 0) (tCons (tVar 1) tNil)))) tNil))))
  (tSeq (tAsg (tLst (tCons (tTup (tCons (tVar 3) (tCons (tVar 4) tNil))) (tCons (tTup (tCons (tOp (qAdd K) (tVar 3) (tC (.int 1))) (tCons (tC .non) tNil))) (tCons (tTup (tCons (tC .non) (tCons (tOp qSub (tVar 4) (tC (.int 1))) tNil))) (tCons (tTup (tCons (tVar 3) (tCons (tC .non) tNil))) (tCons (tTup (tCons (tC .non) (tCons (tVar 4) tNil))) (tCons (tTup (tCons (tVar 5) (tCons (tVar 5) tNil))) (tCons (tTup (tCons (tVar 5) (tCons (tC .non) tNil))) tNil)))))))) (gName 6))
  (tSeq (tPar 2 7 (tCons (tFn 1 0 (sp_law_number K w) (fun vs _ => vs) C8.E0 (tcP (tCons (tVar 0) tNil))) (tCons (tFn 2 0 (sp_law_draw K w) (fun vs _ => vs) C8.E0 (tcP (tCons (tVar 0) (tCons (tC (.int 7)) tNil)))) tNil)))
  (tRet (tOp (qAdd K) (tVar 6) (tLst (tCons (tTup (tCons (tOp qSub (tVar 3) (tC (.int 1))) (tCons (tOp (qAdd K) (tVar 4) (tC (.int 1))) tNil))) (tCons (tTup (tCons (tC .non) (tCons (tVar 5) tNil))) (tCons (tTup (tCons (tVar 2) (tCons (tOp (qAdd K) (tVar 2) (tVar 7)) tNil))) (tCons (tTup (tCons (tOp (qAdd K) (tVar 4) (tC (.int 1))) (tCons (tOp (qAdd K) (tOp (qAdd K) (tVar 4) (tC (.int 1))) (tVar 7)) tNil))) tNil)))))))))))
abbrev N_law_bounds : List Str := ["_law_pen_here", "_law_sums_here", "_law_low", "_law_least", "_law_most", "_law_some", "_law_found", "_law_more"]
def sp_law_bounds (K : PySem.W.Frag) (w : World) : Sp := fun vs H Q _ => vs.length = 2 ∧ t_law_bounds K w { nx := fun _ H' => Q .non H', rt := Q } (start N_law_bounds vs) H
def t_law_says (K : PySem.W.Frag) (w : World) : TS :=
  (tRet (tIf (tTru K (tVar 1)) (tOp qIsB (tVar 0) (tC (.bl true))) (tOp qIsB (tVar 0) (tC (.bl false)))))
abbrev N_law_says : List Str := ["_law_value", "_law_due"]
def sp_law_says (K : PySem.W.Frag) (w : World) : Sp := fun vs H Q _ => vs.length = 2 ∧ t_law_says K w { nx := fun _ H' => Q .non H', rt := Q } (start N_law_says vs) H
def t_law_first (K : PySem.W.Frag) (w : World) : TS :=
  (tSeq (tFor (iEnumT K (tCons (tVar 0) tNil)) (gTup K 2 (gCons (gName 3) (gCons (gName 4) gNil))) (tIfS (tOr (tAnd (tTest (tOp qIsn (tVar 1) (tC .non))) (tTest (tOp (qLt K) (tVar 4) (tVar 1)))) (tAnd (tTest (tOp qIsn (tVar 2) (tC .non))) (tTest (tOp qGt (tVar 4) (tVar 2))))) (tRet (tVar 3)) tNext))
  (tRet (tC .non)))
abbrev N_law_first : List Str := ["_law_sums_here", "_law_low", "_law_high", "_law_begin", "_law_many"]
def sp_law_first (K : PySem.W.Frag) (w : World) : Sp := fun vs H Q _ => vs.length = 3 ∧ t_law_first K w { nx := fun _ H' => Q .non H', rt := Q } (start N_law_first vs) H
def t_law_sums (K : PySem.W.Frag) (w : World) : TS :=
  (tRet (tLc (iRng1 (tCons (tOp (qAdd K) (tOp qSub (tCB (qLen K) (tCons (tVar 0) tNil)) (tVar 1)) (tC (.int 1))) tNil)) (gName 2) tYes (tCB (rSum K) (tCons (tSl (qSl K) (tVar 0) (tPart (tVar 2)) (tPart (tOp (qAdd K) (tVar 2) (tVar 1)))) tNil)) [2]))
abbrev N_law_sums : List Str := ["_law_gains_here", "_law_length", "_law_begin"]
def sp_law_sums (K : PySem.W.Frag) (w : World) : Sp := fun vs H Q _ => vs.length = 2 ∧ t_law_sums K w { nx := fun _ H' => Q .non H', rt := Q } (start N_law_sums vs) H
def t_law_told_right (K : PySem.W.Frag) (w : World) : TS :=
  (tSeq (tPar3 3 4 5 (tCons (tNew (He.ga K "Row") 1 0 (sp_Row_init K w) (fun vs _ => vs) C8.E0 (tcP (tCons (tVar 1) tNil))) (tCons (tNew (He.ga K "Row") 1 0 (sp_Row_init K w) (fun vs _ => vs) C8.E0 (tcP (tCons (tRevA K (tVar 1)) tNil))) (tCons (tFn 2 0 (sp_law_sums K w) (fun vs _ => vs) C8.E0 (tcP (tCons (tVar 1) (tCons (tVar 2) tNil)))) tNil))))
  (tSeq (tAsg (tFn 2 0 (sp_law_draw K w) (fun vs _ => vs) C8.E0 (tcP (tCons (tVar 0) (tCons (tCB (qLen K) (tCons (tVar 1) tNil)) tNil)))) (gName 6))
  (tSeq (tAsg (tOp (qAdd K) (tOp (qAdd K) (tVar 6) (tC (.int 1))) (tFn 2 0 (sp_law_draw K w) (fun vs _ => vs) C8.E0 (tcP (tCons (tVar 0) (tCons (tOp qSub (tCB (qLen K) (tCons (tVar 1) tNil)) (tVar 6)) tNil))))) (gName 7))
  (tSeq (tPar 8 9 (tCons (tNew (He.ga K "Row") 1 0 (sp_Row_init K w) (fun vs _ => vs) C8.E0 (tcP (tCons (tSl (qSl K) (tVar 1) (tPart (tVar 6)) (tPart (tVar 7))) tNil))) (tCons (tFn 2 0 (sp_law_sums K w) (fun vs _ => vs) C8.E0 (tcP (tCons (tSl (qSl K) (tVar 1) (tPart (tVar 6)) (tPart (tVar 7))) (tCons (tVar 2) tNil)))) tNil)))
  (tSeq (tFor (iSeq K (tFn 2 0 (sp_law_bounds K w) (fun vs _ => vs) C8.E0 (tcP (tCons (tVar 0) (tCons (tVar 5) tNil))))) (gTup K 2 (gCons (gName 10) (gCons (gName 11) gNil))) (tSeq (tPar 12 13 (tCons (tNew (He.ga K "Rule") 3 0 (sp_Rule_init K w) (fun vs _ => vs ++ []) C8.E0 (tcP (tCons (tVar 2) (tCons (tVar 10) (tCons (tVar 11) tNil))))) (tCons (tFn 3 0 (sp_law_first K w) (fun vs _ => vs) C8.E0 (tcP (tCons (tVar 5) (tCons (tVar 10) (tCons (tVar 11) tNil))))) tNil)))
  (tSeq (tAsg (tMt (He.ga K "Rule") "first_broken" 1 0 (sp_Rule_first_broken K w) (fun vs _ => vs) C8.E0 (tVar 12) (tcP (tCons (tVar 3) tNil))) (gName 14))
  (tSeq (tIfS (tOr (tTest (tOp (qNe K) (tVar 14) (tVar 13))) (tOr (tTru K (tCB (qIsi K) (tCons (tVar 14) (tCons (tC (.ty "bool")) tNil)))) (tNot (tTru K (tFn 2 0 (sp_law_says K w) (fun vs _ => vs) C8.E0 (tcP (tCons (tMt (He.ga K "Rule") "keeps" 1 0 (sp_Rule_keeps K w) (fun vs _ => vs) C8.E0 (tVar 12) (tcP (tCons (tVar 3) tNil))) (tCons (tOp qIs (tVar 13) (tC .non)) tNil)))))))) (tRet (tC (.bl false))) tNext)
  (tSeq (tIfS (tOr (tNot (tTru K (tFn 2 0 (sp_law_says K w) (fun vs _ => vs) C8.E0 (tcP (tCons (tMt (He.ga K "Rule") "keeps" 0 1 (sp_Rule_keeps K w) (pick V.non [0, 1]) C8.E0 (tVar 12) (tcK (tCons (tVar 4) tNil))) (tCons (tOp qIs (tVar 13) (tC .non)) tNil)))))) (tTest (tOp (qNe K) (tMt (He.ga K "Rule") "first_broken" 0 1 (sp_Rule_first_broken K w) (pick V.non [0, 1]) C8.E0 (tVar 12) (tcK (tCons (tVar 4) tNil))) (tFn 3 0 (sp_law_first K w) (fun vs _ => vs) C8.E0 (tcP (tCons (tRevA K (tVar 5)) (tCons (tVar 10) (tCons (tVar 11) tNil)))))))) (tRet (tC (.bl false))) tNext)
  (tIfS (tOr (tNot (tTru K (tFn 2 0 (sp_law_says K w) (fun vs _ => vs) C8.E0 (tcP (tCons (tMt (He.ga K "Rule") "keeps" 1 0 (sp_Rule_keeps K w) (fun vs _ => vs) C8.E0 (tVar 12) (tcP (tCons (tVar 8) tNil))) (tCons (tOp qIs (tFn 3 0 (sp_law_first K w) (fun vs _ => vs) C8.E0 (tcP (tCons (tVar 9) (tCons (tVar 10) (tCons (tVar 11) tNil))))) (tC .non)) tNil)))))) (tAnd (tTest (tOp qIs (tVar 13) (tC .non))) (tNot (tTru K (tMt (He.ga K "Rule") "keeps" 1 0 (sp_Rule_keeps K w) (fun vs _ => vs) C8.E0 (tVar 12) (tcP (tCons (tVar 8) tNil))))))) (tRet (tC (.bl false))) tNext))))))
  (tRet (tOp (qEq K) (tFld K (tVar 3) "gains") (tCB (qTup K) (tCons (tVar 1) tNil)))))))))
abbrev N_law_told_right : List Str := ["_law_pen_here", "_law_gains_here", "_law_length", "_law_row", "_law_back", "_law_sums_here", "_law_first_here", "_law_last", "_law_part", "_law_its", "_law_low", "_law_high", "_law_rule", "_law_due", "_law_told"]
def sp_law_told_right (K : PySem.W.Frag) (w : World) : Sp := fun vs H Q _ => vs.length = 3 ∧ t_law_told_right K w { nx := fun _ H' => Q .non H', rt := Q } (start N_law_told_right vs) H
def t_law_gains (K : PySem.W.Frag) (w : World) : TS :=
  (tSeq (tAsg (tLc (iRng1 (tCons (tVar 1) tNil)) (gName 4) tYes (tFn 1 0 (sp_law_number K w) (fun vs _ => vs) C8.E0 (tcP (tCons (tVar 0) tNil))) [4]) (gName 2))
  (tSeq (tAsg (tOp (qAdd K) (tC (.int 1)) (tFn 2 0 (sp_law_draw K w) (fun vs _ => vs) C8.E0 (tcP (tCons (tVar 0) (tCons (tC (.int 12)) tNil))))) (gName 3))
  (tRet (tIf (tTest (tOp (qEq K) (tFn 2 0 (sp_law_draw K w) (fun vs _ => vs) C8.E0 (tcP (tCons (tVar 0) (tCons (tC (.int 3)) tNil)))) (tC (.int 0)))) (tLc (iRng1 (tCons (tVar 1) tNil)) (gName 4) tYes (tOp (rIx K) (tVar 2) (tOp qMd (tVar 4) (tVar 3))) [4]) (tVar 2)))))
abbrev N_law_gains : List Str := ["_law_pen_here", "_law_many", "_law_gains_here", "_law_again", "_law_day"]
def sp_law_gains (K : PySem.W.Frag) (w : World) : Sp := fun vs H Q _ => vs.length = 2 ∧ t_law_gains K w { nx := fun _ H' => Q .non H', rt := Q } (start N_law_gains vs) H
def t_law_pen (K : PySem.W.Frag) (w : World) : TS :=
  (tRet (tLst (tCons (tLc (iSeq K (tSl (qSl K) (tVar 0) tNoPart (tPart (tC (.int 61))))) (gName 1) tYes (tCB qInt (tCons (tVar 1) tNil)) [1]) (tCons (tC (.int 0)) (tCons (tC (.int 0)) tNil)))))
abbrev N_law_pen : List Str := ["_law_script", "_law_cell"]
def sp_law_pen (K : PySem.W.Frag) (w : World) : Sp := fun vs H Q _ => vs.length = 1 ∧ t_law_pen K w { nx := fun _ H' => Q .non H', rt := Q } (start N_law_pen vs) H
def t_law (K : PySem.W.Frag) (w : World) : TS :=
  (tSeq (tAsg (tFn 1 0 (sp_law_pen K w) (fun vs _ => vs) C8.E0 (tcP (tCons (tVar 0) tNil))) (gName 1))
  (tSeq (tAsg (tFn 2 0 (sp_law_of K w) (fun vs _ => vs) C8.E0 (tcP (tCons (tVar 1) (tCons (tLst (tCons (tC (.int 5)) (tCons (tC (.int 1)) (tCons (tC (.int 2)) (tCons (tC (.int 3)) (tCons (tC (.int 7)) (tCons (tC (.int 12)) (tCons (tC (.int 30)) (tCons (tC (.int 48)) (tCons (tC (.int 4)) (tCons (tC (.int 6)) tNil))))))))))) tNil)))) (gName 2))
  (tSeq (tAsg (tFn 2 0 (sp_law_gains K w) (fun vs _ => vs) C8.E0 (tcP (tCons (tVar 1) (tCons (tVar 2) tNil)))) (gName 3))
  (tSeq (tAsg (tLst (tCons (tC (.int 1)) (tCons (tVar 2) (tCons (tCB (qMnT K) (tCons (tOp (qAdd K) (tVar 2) (tC (.int 1))) (tCons (tC (.int 48)) tNil))) (tCons (tOp (qAdd K) (tC (.int 1)) (tFn 2 0 (sp_law_draw K w) (fun vs _ => vs) C8.E0 (tcP (tCons (tVar 1) (tCons (tVar 2) tNil))))) (tCons (tOp (qAdd K) (tC (.int 1)) (tFn 2 0 (sp_law_draw K w) (fun vs _ => vs) C8.E0 (tcP (tCons (tVar 1) (tCons (tVar 2) tNil))))) (tCons (tOp (qAdd K) (tC (.int 1)) (tFn 2 0 (sp_law_draw K w) (fun vs _ => vs) C8.E0 (tcP (tCons (tVar 1) (tCons (tC (.int 48)) tNil))))) tNil))))))) (gName 4))
  (tSeq (tIfS (tTest (tOp (qNe K) (tLc (iSeq K (tVar 4)) (gName 6) (tNot (tTru K (tFn 3 0 (sp_law_told_right K w) (fun vs _ => vs) C8.E0 (tcP (tCons (tVar 1) (tCons (tVar 3) (tCons (tVar 6) tNil))))))) (tVar 6) [6]) (tLst tNil))) (tRet (tC (.bl false))) tNext)
  (tSeq (tAsg (tLst (tCons (tUn (rU fun i => .int (-i)) (tC (.int 3))) (tCons (tC (.int 5)) (tCons (tUn (rU fun i => .int (-i)) (tC (.int 3))) (tCons (tUn (rU fun i => .int (-i)) (tC (.int 3))) (tCons (tC (.int 5)) (tCons (tUn (rU fun i => .int (-i)) (tC (.int 3))) tNil))))))) (gName 5))
  (tSeq (tIfS (tOr (tNot (tTru K (tMt (He.ga K "Rule") "keeps" 1 0 (sp_Rule_keeps K w) (fun vs _ => vs) C8.E0 (tNew (He.ga K "Rule") 3 0 (sp_Rule_init K w) (fun vs _ => vs ++ []) C8.E0 (tcP (tCons (tC (.int 3)) (tCons (tC .non) (tCons (tUn (rU fun i => .int (-i)) (tC (.int 1))) tNil))))) (tcP (tCons (tNew (He.ga K "Row") 1 0 (sp_Row_init K w) (fun vs _ => vs) C8.E0 (tcP (tCons (tVar 5) tNil))) tNil))))) (tOr (tNot (tTru K (tMt (He.ga K "Rule") "keeps" 1 0 (sp_Rule_keeps K w) (fun vs _ => vs) C8.E0 (tNew (He.ga K "Rule") 2 0 (sp_Rule_init K w) (fun vs _ => vs ++ [.non]) C8.E0 (tcP (tCons (tC (.int 5)) (tCons (tC (.int 1)) tNil)))) (tcP (tCons (tNew (He.ga K "Row") 1 0 (sp_Row_init K w) (fun vs _ => vs) C8.E0 (tcP (tCons (tVar 5) tNil))) tNil))))) (tOr (tTest (tOp (qNe K) (tMt (He.ga K "Rule") "first_broken" 1 0 (sp_Rule_first_broken K w) (fun vs _ => vs) C8.E0 (tNew (He.ga K "Rule") 3 0 (sp_Rule_init K w) (fun vs _ => vs ++ []) C8.E0 (tcP (tCons (tC (.int 3)) (tCons (tC .non) (tCons (tUn (rU fun i => .int (-i)) (tC (.int 2))) tNil))))) (tcP (tCons (tNew (He.ga K "Row") 1 0 (sp_Row_init K w) (fun vs _ => vs) C8.E0 (tcP (tCons (tVar 5) tNil))) tNil))) (tC (.int 0)))) (tTest (tOp (qNe K) (tMt (He.ga K "Rule") "first_broken" 1 0 (sp_Rule_first_broken K w) (fun vs _ => vs) C8.E0 (tNew (He.ga K "Rule") 2 0 (sp_Rule_init K w) (fun vs _ => vs ++ [.non]) C8.E0 (tcP (tCons (tC (.int 2)) (tCons (tUn (rU fun i => .int (-i)) (tC (.int 5))) tNil)))) (tcP (tCons (tNew (He.ga K "Row") 1 0 (sp_Row_init K w) (fun vs _ => vs) C8.E0 (tcP (tCons (tVar 5) tNil))) tNil))) (tC (.int 2))))))) (tRet (tC (.bl false))) tNext)
  (tRet (tFn 2 0 (sp_law_refused_right K w) (fun vs _ => vs) C8.E0 (tcP (tCons (tVar 1) (tCons (tVar 3) tNil))))))))))))
abbrev N_law : List Str := ["_law_script", "_law_pen_here", "_law_many", "_law_gains_here", "_law_lengths", "_law_six", "_law_length"]
def sp_law (K : PySem.W.Frag) (w : World) : Sp := fun vs H Q _ => vs.length = 1 ∧ t_law K w { nx := fun _ H' => Q .non H', rt := Q } (start N_law vs) H
end K12

set_option Elab.async false
set_option linter.all false
set_option maxRecDepth 100000
set_option maxHeartbeats 4000000
namespace K12
open PySem PySem.Spec PyProof.Rows L2 Rl RZ RT Px
def clsT : CT := [("Row", ["Row"]), ("Rule", ["Rule"]), ("BadRow", ["BadRow", "DayError"]), ("BadNumber", ["BadNumber", "DayError"]), ("TooMany", ["TooMany", "DayError"]), ("BadRule", ["BadRule", "DayError"])]
def xT : XT := [("BadRow", ["part"]), ("BadNumber", ["part"]), ("TooMany", ["what", "most"]), ("BadRule", ["part"])]
abbrev ws_law_heard : WS :=
  (wAsg (wVar 2) (wgName 1))
abbrev wr_law_heard : WS :=
  (wRet (wIf (wTru (wCB (dIsiX clsT xT) (waCons (wVar 1) (waCons (wC (.cls "BadRow")) waNil)))) (wXg xT "part" (wVar 1)) (wC .non)))
theorem wx_is_integer : ∃ w : WF, w = wDef 1 1
  (wRet (wAndT (wCB (dIsi clsT) (waCons (wVar 0) (waCons (wC (.ty "int")) waNil))) (wNotT (wCB (dIsi clsT) (waCons (wVar 0) (waCons (wC (.ty "bool")) waNil)))))) := ⟨_, rfl⟩
@[irreducible] noncomputable def w_is_integer : WF := Classical.choose wx_is_integer
theorem w_is_integer_eq : w_is_integer = wDef 1 1
  (wRet (wAndT (wCB (dIsi clsT) (waCons (wVar 0) (waCons (wC (.ty "int")) waNil))) (wNotT (wCB (dIsi clsT) (waCons (wVar 0) (waCons (wC (.ty "bool")) waNil)))))) := by
  unfold w_is_integer
  exact Classical.choose_spec wx_is_integer
theorem wx_is_within : ∃ w : WF, w = wDef 3 3
  (wSeq (wIfS (wNot (wTru (wFn 1 0 w_is_integer (wcP (waCons (wVar 0) waNil))))) (wRet (wC (.bl false))) wNext)
  (wKill [] (wRet (wAndT (wOrT (wOp dIs (wVar 1) (wC .non)) (wOp dLe (wVar 1) (wVar 0))) (wOrT (wOp dIs (wVar 2) (wC .non)) (wOp dLe (wVar 0) (wVar 2))))))) := ⟨_, rfl⟩
@[irreducible] noncomputable def w_is_within : WF := Classical.choose wx_is_within
theorem w_is_within_eq : w_is_within = wDef 3 3
  (wSeq (wIfS (wNot (wTru (wFn 1 0 w_is_integer (wcP (waCons (wVar 0) waNil))))) (wRet (wC (.bl false))) wNext)
  (wKill [] (wRet (wAndT (wOrT (wOp dIs (wVar 1) (wC .non)) (wOp dLe (wVar 1) (wVar 0))) (wOrT (wOp dIs (wVar 2) (wC .non)) (wOp dLe (wVar 0) (wVar 2))))))) := by
  unfold w_is_within
  exact Classical.choose_spec wx_is_within
theorem wx_need_row : ∃ w : WF, w = wDef 2 2
  (wIfS (wNot (wTru (wCB (dIsi clsT) (waCons (wVar 0) (waCons (wC (.cls "Row")) waNil))))) (wRaise xT "BadRow" (waCons (wVar 1) waNil)) wNext) := ⟨_, rfl⟩
@[irreducible] noncomputable def w_need_row : WF := Classical.choose wx_need_row
theorem w_need_row_eq : w_need_row = wDef 2 2
  (wIfS (wNot (wTru (wCB (dIsi clsT) (waCons (wVar 0) (waCons (wC (.cls "Row")) waNil))))) (wRaise xT "BadRow" (waCons (wVar 1) waNil)) wNext) := by
  unfold w_need_row
  exact Classical.choose_spec wx_need_row
theorem wx_Rule_first_broken : ∃ w : WF, w = wDef 2 3
  (wSeq (wDrop (wFn 2 0 w_need_row (wcP (waCons (wVar 1) (waCons (wC (.str "row")) waNil)))))
  (wSeq (wFor (wiR1 (waCons (wOp (dAdd false) (wOp dSub (wFld "days" (wVar 1)) (wFld "length" (wVar 0))) (wC (.int 1))) waNil)) (wgName 2) (wIfS (wNot (wTru (wFn 3 0 w_is_within (wcP (waCons (wOp dSub (wOp dIx (wFld "heights" (wVar 1)) (wOp (dAdd false) (wVar 2) (wFld "length" (wVar 0)))) (wOp dIx (wFld "heights" (wVar 1)) (wVar 2))) (waCons (wFld "low" (wVar 0)) (waCons (wFld "high" (wVar 0)) waNil))))))) (wRet (wVar 2)) wNext) [2])
  (wRet (wC .non)))) := ⟨_, rfl⟩
@[irreducible] noncomputable def w_Rule_first_broken : WF := Classical.choose wx_Rule_first_broken
theorem w_Rule_first_broken_eq : w_Rule_first_broken = wDef 2 3
  (wSeq (wDrop (wFn 2 0 w_need_row (wcP (waCons (wVar 1) (waCons (wC (.str "row")) waNil)))))
  (wSeq (wFor (wiR1 (waCons (wOp (dAdd false) (wOp dSub (wFld "days" (wVar 1)) (wFld "length" (wVar 0))) (wC (.int 1))) waNil)) (wgName 2) (wIfS (wNot (wTru (wFn 3 0 w_is_within (wcP (waCons (wOp dSub (wOp dIx (wFld "heights" (wVar 1)) (wOp (dAdd false) (wVar 2) (wFld "length" (wVar 0)))) (wOp dIx (wFld "heights" (wVar 1)) (wVar 2))) (waCons (wFld "low" (wVar 0)) (waCons (wFld "high" (wVar 0)) waNil))))))) (wRet (wVar 2)) wNext) [2])
  (wRet (wC .non)))) := by
  unfold w_Rule_first_broken
  exact Classical.choose_spec wx_Rule_first_broken
theorem wx_Rule_keeps : ∃ w : WF, w = wDef 2 2
  (wRet (wOp dIs (wMt "Rule" "first_broken" 1 0 w_Rule_first_broken (wVar 0) (wcP (waCons (wVar 1) waNil))) (wC .non))) := ⟨_, rfl⟩
@[irreducible] noncomputable def w_Rule_keeps : WF := Classical.choose wx_Rule_keeps
theorem w_Rule_keeps_eq : w_Rule_keeps = wDef 2 2
  (wRet (wOp dIs (wMt "Rule" "first_broken" 1 0 w_Rule_first_broken (wVar 0) (wcP (waCons (wVar 1) waNil))) (wC .non))) := by
  unfold w_Rule_keeps
  exact Classical.choose_spec wx_Rule_keeps
theorem wx_law_draw : ∃ w : WF, w = wDef 2 6
  (wSeq (wIfS (wTest (wOp dGt (wOp dIx (wVar 0) (wC (.int 2))) (wC (.int 0)))) (wSeq (wAsg (wOp dIx (wVar 0) (wC (.int 2))) (wgName 2))
  (wSeq (wAsg (wOp dFd (wCB (b1 dInt) (waCons (wVar 2) waNil)) (wVar 1)) (wgSub (wVar 0) (wC (.int 2))))
  (wRet (wOp dMd (wCB (b1 dInt) (waCons (wVar 2) waNil)) (wVar 1))))) wNext)
  (wKill [2, 3, 4, 5] (wSeq (wAsg (wOp dIx (wVar 0) (wC (.int 1))) (wgName 3))
  (wSeq (wAsg (wOp (dAdd false) (wVar 3) (wC (.int 1))) (wgSub (wVar 0) (wC (.int 1))))
  (wSeq (wAsg (wOp (dAdd false) (wOp (dMulT false) (wC (.int 61007)) (wVar 3)) (wC (.int 4217))) (wgName 4))
  (wSeq (wIfS (wTest (wOp dNe (wOp dIx (wVar 0) (wC (.int 0))) (wLst false waNil))) (wAsg (wOp dIx (wOp dIx (wVar 0) (wC (.int 0))) (wOp dMd (wCB (b1 dInt) (waCons (wVar 3) waNil)) (wCB (b1 dLen) (waCons (wOp dIx (wVar 0) (wC (.int 0))) waNil)))) (wgName 4)) wNext)
  (wKill [2, 5] (wSeq (wIfS (wAnd (wTest (wOp dLt (wVar 3) (wCB (b1 dLen) (waCons (wOp dIx (wVar 0) (wC (.int 0))) waNil)))) (wTest (wOp dGe (wCB (b1 dAbs) (waCons (wVar 4) waNil)) (wOp dPw (wC (.int 10)) (wC (.int 18)))))) (wSeq (wAsg (wOp (dAdd false) (wOp (dMulT false) (wC (.int 2)) (wOp dSub (wCB (b1 dAbs) (waCons (wVar 4) waNil)) (wOp dPw (wC (.int 10)) (wC (.int 18))))) (wCB (b1 dInt) (waCons (wOp dLt (wVar 4) (wC (.int 0))) waNil))) (wgName 2))
  (wSeq (wAsg (wOp dFd (wCB (b1 dInt) (waCons (wVar 2) waNil)) (wVar 1)) (wgSub (wVar 0) (wC (.int 2))))
  (wRet (wOp dMd (wCB (b1 dInt) (waCons (wVar 2) waNil)) (wVar 1))))) wNext)
  (wKill [2, 5] (wSeq (wAsg (wOp dMd (wCB (b1 dInt) (waCons (wOp dPw (wOp (dAdd false) (wOp (dAdd false) (wOp dMd (wCB (b1 dInt) (waCons (wVar 4) waNil)) (wC (.int 2147483563))) (wOp (dMulT false) (wC (.int 73013)) (wVar 3))) (wC (.int 4217))) (wC (.int 5))) waNil)) (wC (.int 2147483579))) (wgName 5))
  (wSeq (wAsg (wOp dMd (wCB (b1 dInt) (waCons (wOp dPw (wOp (dAdd false) (wOp (dAdd false) (wOp (dMulT false) (wVar 5) (wOp (dAdd false) (wOp (dMulT false) (wC (.int 2)) (wVar 3)) (wC (.int 2207)))) (wOp (dMulT false) (wOp (dMulT false) (wC (.int 61007)) (wVar 3)) (wVar 3))) (wC (.int 73013))) (wC (.int 3))) waNil)) (wC (.int 2147483587))) (wgName 5))
  (wRet (wOp dMd (wCB (b1 dInt) (waCons (wOp dFd (wVar 5) (wC (.int 64))) waNil)) (wVar 1)))))))))))))) := ⟨_, rfl⟩
@[irreducible] noncomputable def w_law_draw : WF := Classical.choose wx_law_draw
theorem w_law_draw_eq : w_law_draw = wDef 2 6
  (wSeq (wIfS (wTest (wOp dGt (wOp dIx (wVar 0) (wC (.int 2))) (wC (.int 0)))) (wSeq (wAsg (wOp dIx (wVar 0) (wC (.int 2))) (wgName 2))
  (wSeq (wAsg (wOp dFd (wCB (b1 dInt) (waCons (wVar 2) waNil)) (wVar 1)) (wgSub (wVar 0) (wC (.int 2))))
  (wRet (wOp dMd (wCB (b1 dInt) (waCons (wVar 2) waNil)) (wVar 1))))) wNext)
  (wKill [2, 3, 4, 5] (wSeq (wAsg (wOp dIx (wVar 0) (wC (.int 1))) (wgName 3))
  (wSeq (wAsg (wOp (dAdd false) (wVar 3) (wC (.int 1))) (wgSub (wVar 0) (wC (.int 1))))
  (wSeq (wAsg (wOp (dAdd false) (wOp (dMulT false) (wC (.int 61007)) (wVar 3)) (wC (.int 4217))) (wgName 4))
  (wSeq (wIfS (wTest (wOp dNe (wOp dIx (wVar 0) (wC (.int 0))) (wLst false waNil))) (wAsg (wOp dIx (wOp dIx (wVar 0) (wC (.int 0))) (wOp dMd (wCB (b1 dInt) (waCons (wVar 3) waNil)) (wCB (b1 dLen) (waCons (wOp dIx (wVar 0) (wC (.int 0))) waNil)))) (wgName 4)) wNext)
  (wKill [2, 5] (wSeq (wIfS (wAnd (wTest (wOp dLt (wVar 3) (wCB (b1 dLen) (waCons (wOp dIx (wVar 0) (wC (.int 0))) waNil)))) (wTest (wOp dGe (wCB (b1 dAbs) (waCons (wVar 4) waNil)) (wOp dPw (wC (.int 10)) (wC (.int 18)))))) (wSeq (wAsg (wOp (dAdd false) (wOp (dMulT false) (wC (.int 2)) (wOp dSub (wCB (b1 dAbs) (waCons (wVar 4) waNil)) (wOp dPw (wC (.int 10)) (wC (.int 18))))) (wCB (b1 dInt) (waCons (wOp dLt (wVar 4) (wC (.int 0))) waNil))) (wgName 2))
  (wSeq (wAsg (wOp dFd (wCB (b1 dInt) (waCons (wVar 2) waNil)) (wVar 1)) (wgSub (wVar 0) (wC (.int 2))))
  (wRet (wOp dMd (wCB (b1 dInt) (waCons (wVar 2) waNil)) (wVar 1))))) wNext)
  (wKill [2, 5] (wSeq (wAsg (wOp dMd (wCB (b1 dInt) (waCons (wOp dPw (wOp (dAdd false) (wOp (dAdd false) (wOp dMd (wCB (b1 dInt) (waCons (wVar 4) waNil)) (wC (.int 2147483563))) (wOp (dMulT false) (wC (.int 73013)) (wVar 3))) (wC (.int 4217))) (wC (.int 5))) waNil)) (wC (.int 2147483579))) (wgName 5))
  (wSeq (wAsg (wOp dMd (wCB (b1 dInt) (waCons (wOp dPw (wOp (dAdd false) (wOp (dAdd false) (wOp (dMulT false) (wVar 5) (wOp (dAdd false) (wOp (dMulT false) (wC (.int 2)) (wVar 3)) (wC (.int 2207)))) (wOp (dMulT false) (wOp (dMulT false) (wC (.int 61007)) (wVar 3)) (wVar 3))) (wC (.int 73013))) (wC (.int 3))) waNil)) (wC (.int 2147483587))) (wgName 5))
  (wRet (wOp dMd (wCB (b1 dInt) (waCons (wOp dFd (wVar 5) (wC (.int 64))) waNil)) (wVar 1)))))))))))))) := by
  unfold w_law_draw
  exact Classical.choose_spec wx_law_draw
theorem wx_law_of : ∃ w : WF, w = wDef 2 2
  (wRet (wOp dIx (wVar 1) (wFn 2 0 w_law_draw (wcP (waCons (wVar 0) (waCons (wCB (b1 dLen) (waCons (wVar 1) waNil)) waNil)))))) := ⟨_, rfl⟩
@[irreducible] noncomputable def w_law_of : WF := Classical.choose wx_law_of
theorem w_law_of_eq : w_law_of = wDef 2 2
  (wRet (wOp dIx (wVar 1) (wFn 2 0 w_law_draw (wcP (waCons (wVar 0) (waCons (wCB (b1 dLen) (waCons (wVar 1) waNil)) waNil)))))) := by
  unfold w_law_of
  exact Classical.choose_spec wx_law_of
theorem wx_are_bounds : ∃ w : WF, w = wDef 2 2
  (wSeq (wIfS (wOr (wTest (wOp dIs (wVar 0) (wC .non))) (wTest (wOp dIs (wVar 1) (wC .non)))) (wRet (wOrT (wOp dIsn (wVar 0) (wC .non)) (wOp dIsn (wVar 1) (wC .non)))) wNext)
  (wKill [] (wRet (wOp dLe (wVar 0) (wVar 1))))) := ⟨_, rfl⟩
@[irreducible] noncomputable def w_are_bounds : WF := Classical.choose wx_are_bounds
theorem w_are_bounds_eq : w_are_bounds = wDef 2 2
  (wSeq (wIfS (wOr (wTest (wOp dIs (wVar 0) (wC .non))) (wTest (wOp dIs (wVar 1) (wC .non)))) (wRet (wOrT (wOp dIsn (wVar 0) (wC .non)) (wOp dIsn (wVar 1) (wC .non)))) wNext)
  (wKill [] (wRet (wOp dLe (wVar 0) (wVar 1))))) := by
  unfold w_are_bounds
  exact Classical.choose_spec wx_are_bounds
theorem wx_need_bound : ∃ w : WF, w = wDef 2 2
  (wIfS (wAnd (wTest (wOp dIsn (wVar 0) (wC .non))) (wNot (wTru (wFn 1 0 w_is_integer (wcP (waCons (wVar 0) waNil)))))) (wRaise xT "BadNumber" (waCons (wVar 1) waNil)) wNext) := ⟨_, rfl⟩
@[irreducible] noncomputable def w_need_bound : WF := Classical.choose wx_need_bound
theorem w_need_bound_eq : w_need_bound = wDef 2 2
  (wIfS (wAnd (wTest (wOp dIsn (wVar 0) (wC .non))) (wNot (wTru (wFn 1 0 w_is_integer (wcP (waCons (wVar 0) waNil)))))) (wRaise xT "BadNumber" (waCons (wVar 1) waNil)) wNext) := by
  unfold w_need_bound
  exact Classical.choose_spec wx_need_bound
theorem wx_need_number : ∃ w : WF, w = wDef 4 4
  (wIfS (wNot (wTru (wFn 3 0 w_is_within (wcP (waCons (wVar 0) (waCons (wVar 2) (waCons (wVar 3) waNil))))))) (wRaise xT "BadNumber" (waCons (wVar 1) waNil)) wNext) := ⟨_, rfl⟩
@[irreducible] noncomputable def w_need_number : WF := Classical.choose wx_need_number
theorem w_need_number_eq : w_need_number = wDef 4 4
  (wIfS (wNot (wTru (wFn 3 0 w_is_within (wcP (waCons (wVar 0) (waCons (wVar 2) (waCons (wVar 3) waNil))))))) (wRaise xT "BadNumber" (waCons (wVar 1) waNil)) wNext) := by
  unfold w_need_number
  exact Classical.choose_spec wx_need_number
theorem wx_Rule_init : ∃ w : WF, w = wDef 4 4
  (wSeq (wDrop (wFn 4 0 w_need_number (wcP (waCons (wVar 1) (waCons (wC (.str "length")) (waCons (wC (.int 1)) (waCons (wC (.int (48))) waNil)))))))
  (wSeq (wDrop (wFn 2 0 w_need_bound (wcP (waCons (wVar 2) (waCons (wC (.str "low")) waNil)))))
  (wSeq (wDrop (wFn 2 0 w_need_bound (wcP (waCons (wVar 3) (waCons (wC (.str "high")) waNil)))))
  (wSeq (wIfS (wNot (wTru (wFn 2 0 w_are_bounds (wcP (waCons (wVar 2) (waCons (wVar 3) waNil)))))) (wRaise xT "BadRule" (waCons (wC (.str "bounds")) waNil)) wNext)
  (wKill [] (wSeq (wSetF ["Rule"] "length" (wVar 0) (wVar 1))
  (wSeq (wSetF ["Rule"] "low" (wVar 0) (wVar 2))
  (wSetF ["Rule"] "high" (wVar 0) (wVar 3))))))))) := ⟨_, rfl⟩
@[irreducible] noncomputable def w_Rule_init : WF := Classical.choose wx_Rule_init
theorem w_Rule_init_eq : w_Rule_init = wDef 4 4
  (wSeq (wDrop (wFn 4 0 w_need_number (wcP (waCons (wVar 1) (waCons (wC (.str "length")) (waCons (wC (.int 1)) (waCons (wC (.int (48))) waNil)))))))
  (wSeq (wDrop (wFn 2 0 w_need_bound (wcP (waCons (wVar 2) (waCons (wC (.str "low")) waNil)))))
  (wSeq (wDrop (wFn 2 0 w_need_bound (wcP (waCons (wVar 3) (waCons (wC (.str "high")) waNil)))))
  (wSeq (wIfS (wNot (wTru (wFn 2 0 w_are_bounds (wcP (waCons (wVar 2) (waCons (wVar 3) waNil)))))) (wRaise xT "BadRule" (waCons (wC (.str "bounds")) waNil)) wNext)
  (wKill [] (wSeq (wSetF ["Rule"] "length" (wVar 0) (wVar 1))
  (wSeq (wSetF ["Rule"] "low" (wVar 0) (wVar 2))
  (wSetF ["Rule"] "high" (wVar 0) (wVar 3))))))))) := by
  unfold w_Rule_init
  exact Classical.choose_spec wx_Rule_init
theorem wx_law_number : ∃ w : WF, w = wDef 1 2
  (wSeq (wAsg (wFn 2 0 w_law_draw (wcP (waCons (wVar 0) (waCons (wC (.int 9)) waNil)))) (wgName 1))
  (wSeq (wIfS (wTest (wOp dLt (wVar 1) (wC (.int 6)))) (wRet (wOp dSub (wFn 2 0 w_law_draw (wcP (waCons (wVar 0) (waCons (wC (.int 7)) waNil)))) (wC (.int 3)))) wNext)
  (wKill [] (wSeq (wIfS (wTest (wOp dLt (wVar 1) (wC (.int 8)))) (wRet (wOp dSub (wFn 2 0 w_law_draw (wcP (waCons (wVar 0) (waCons (wC (.int 1999)) waNil)))) (wC (.int 999)))) wNext)
  (wKill [1] (wRet (wOp (dMulT false) (wOp dSub (wC (.int 1)) (wOp (dMulT false) (wC (.int 2)) (wFn 2 0 w_law_draw (wcP (waCons (wVar 0) (waCons (wC (.int 2)) waNil)))))) (wOp (dAdd false) (wOp dPw (wC (.int 10)) (wC (.int 24))) (wFn 2 0 w_law_draw (wcP (waCons (wVar 0) (waCons (wC (.int 1000003)) waNil)))))))))))) := ⟨_, rfl⟩
@[irreducible] noncomputable def w_law_number : WF := Classical.choose wx_law_number
theorem w_law_number_eq : w_law_number = wDef 1 2
  (wSeq (wAsg (wFn 2 0 w_law_draw (wcP (waCons (wVar 0) (waCons (wC (.int 9)) waNil)))) (wgName 1))
  (wSeq (wIfS (wTest (wOp dLt (wVar 1) (wC (.int 6)))) (wRet (wOp dSub (wFn 2 0 w_law_draw (wcP (waCons (wVar 0) (waCons (wC (.int 7)) waNil)))) (wC (.int 3)))) wNext)
  (wKill [] (wSeq (wIfS (wTest (wOp dLt (wVar 1) (wC (.int 8)))) (wRet (wOp dSub (wFn 2 0 w_law_draw (wcP (waCons (wVar 0) (waCons (wC (.int 1999)) waNil)))) (wC (.int 999)))) wNext)
  (wKill [1] (wRet (wOp (dMulT false) (wOp dSub (wC (.int 1)) (wOp (dMulT false) (wC (.int 2)) (wFn 2 0 w_law_draw (wcP (waCons (wVar 0) (waCons (wC (.int 2)) waNil)))))) (wOp (dAdd false) (wOp dPw (wC (.int 10)) (wC (.int 24))) (wFn 2 0 w_law_draw (wcP (waCons (wVar 0) (waCons (wC (.int 1000003)) waNil)))))))))))) := by
  unfold w_law_number
  exact Classical.choose_spec wx_law_number
theorem wx_law_refused_right : ∃ w : WF, w = wDef 2 6
  (wSeq (wAsg (wNewD false "Rule" 2 [.non] (nX w_Rule_init) (wcP (waCons (wFn 2 0 w_law_of (wcP (waCons (wVar 0) (waCons (wLst false (waCons (wC (.int 1)) (waCons (wC (.int 2)) (waCons (wC (.int 48)) waNil)))) waNil)))) (waCons (wFn 1 0 w_law_number (wcP (waCons (wVar 0) waNil))) waNil)))) (wgName 4))
  (wSeq (wAsg (wFn 2 0 w_law_of (wcP (waCons (wVar 0) (waCons (wLst false (waCons (wC .non) (waCons (wC (.int 5)) (waCons (wVar 1) (waCons (wCB (b1 dTuple) (waCons (wVar 1) waNil)) (waCons (wBS dJoin (wC (.str " ")) (waCons (wLc false (wiAny (wVar 1)) (wgName 5) wYes (wCB (b1 dStr) (waCons (wVar 5) waNil)) [5]) waNil)) (waCons (wVar 4) (waCons wDic (waCons (wC (.bl true)) waNil))))))))) waNil)))) (wgName 3))
  (wSeq (wAsg (wLst true (waCons (wLam xT 2 3 1 .non ws_law_heard wr_law_heard (wMt "Rule" "keeps" 1 0 w_Rule_keeps (wVar 4) (wcP (waCons (wVar 3) waNil)))) waNil)) (wgName 2))
  (wSeq (wDrop (wBL dApp (wVar 2) (waCons (wLam xT 2 3 1 .non ws_law_heard wr_law_heard (wMt "Rule" "first_broken" 1 0 w_Rule_first_broken (wVar 4) (wcP (waCons (wVar 3) waNil)))) waNil)))
  (wRet (wDp [2] (wOp dEq (wVar 2) (wLst false (waCons (wC (.str "row")) (waCons (wC (.str "row")) waNil)))))))))) := ⟨_, rfl⟩
@[irreducible] noncomputable def w_law_refused_right : WF := Classical.choose wx_law_refused_right
theorem w_law_refused_right_eq : w_law_refused_right = wDef 2 6
  (wSeq (wAsg (wNewD false "Rule" 2 [.non] (nX w_Rule_init) (wcP (waCons (wFn 2 0 w_law_of (wcP (waCons (wVar 0) (waCons (wLst false (waCons (wC (.int 1)) (waCons (wC (.int 2)) (waCons (wC (.int 48)) waNil)))) waNil)))) (waCons (wFn 1 0 w_law_number (wcP (waCons (wVar 0) waNil))) waNil)))) (wgName 4))
  (wSeq (wAsg (wFn 2 0 w_law_of (wcP (waCons (wVar 0) (waCons (wLst false (waCons (wC .non) (waCons (wC (.int 5)) (waCons (wVar 1) (waCons (wCB (b1 dTuple) (waCons (wVar 1) waNil)) (waCons (wBS dJoin (wC (.str " ")) (waCons (wLc false (wiAny (wVar 1)) (wgName 5) wYes (wCB (b1 dStr) (waCons (wVar 5) waNil)) [5]) waNil)) (waCons (wVar 4) (waCons wDic (waCons (wC (.bl true)) waNil))))))))) waNil)))) (wgName 3))
  (wSeq (wAsg (wLst true (waCons (wLam xT 2 3 1 .non ws_law_heard wr_law_heard (wMt "Rule" "keeps" 1 0 w_Rule_keeps (wVar 4) (wcP (waCons (wVar 3) waNil)))) waNil)) (wgName 2))
  (wSeq (wDrop (wBL dApp (wVar 2) (waCons (wLam xT 2 3 1 .non ws_law_heard wr_law_heard (wMt "Rule" "first_broken" 1 0 w_Rule_first_broken (wVar 4) (wcP (waCons (wVar 3) waNil)))) waNil)))
  (wRet (wDp [2] (wOp dEq (wVar 2) (wLst false (waCons (wC (.str "row")) (waCons (wC (.str "row")) waNil)))))))))) := by
  unfold w_law_refused_right
  exact Classical.choose_spec wx_law_refused_right
theorem wx_heights_of : ∃ w : WF, w = wDef 1 3
  (wSeq (wAsg (wLst true (waCons (wC (.int 0)) waNil)) (wgName 1))
  (wSeq (wFor (wiAny (wVar 0)) (wgName 2) (wDrop (wBL dApp (wVar 1) (waCons (wOp (dAdd false) (wOp dIx (wVar 1) (wUn dNeg (wC (.int 1)))) (wVar 2)) waNil))) [0, 2])
  (wRet (wDp [1] (wCB (b1 dTuple) (waCons (wVar 1) waNil)))))) := ⟨_, rfl⟩
@[irreducible] noncomputable def w_heights_of : WF := Classical.choose wx_heights_of
theorem w_heights_of_eq : w_heights_of = wDef 1 3
  (wSeq (wAsg (wLst true (waCons (wC (.int 0)) waNil)) (wgName 1))
  (wSeq (wFor (wiAny (wVar 0)) (wgName 2) (wDrop (wBL dApp (wVar 1) (waCons (wOp (dAdd false) (wOp dIx (wVar 1) (wUn dNeg (wC (.int 1)))) (wVar 2)) waNil))) [0, 2])
  (wRet (wDp [1] (wCB (b1 dTuple) (waCons (wVar 1) waNil)))))) := by
  unfold w_heights_of
  exact Classical.choose_spec wx_heights_of
theorem wx_are_integers : ∃ w : WF, w = wDef 1 2
  (wRet (wAndT (wIsi2 "list" "tuple" (wVar 0)) (wCB (b1 dAll) (waCons (wLc false (wiAny (wVar 0)) (wgName 1) wYes (wFn 1 0 w_is_integer (wcP (waCons (wVar 1) waNil))) [1]) waNil)))) := ⟨_, rfl⟩
@[irreducible] noncomputable def w_are_integers : WF := Classical.choose wx_are_integers
theorem w_are_integers_eq : w_are_integers = wDef 1 2
  (wRet (wAndT (wIsi2 "list" "tuple" (wVar 0)) (wCB (b1 dAll) (waCons (wLc false (wiAny (wVar 0)) (wgName 1) wYes (wFn 1 0 w_is_integer (wcP (waCons (wVar 1) waNil))) [1]) waNil)))) := by
  unfold w_are_integers
  exact Classical.choose_spec wx_are_integers
theorem wx_Row_init : ∃ w : WF, w = wDef 2 2
  (wSeq (wIfS (wOr (wNot (wTru (wFn 1 0 w_are_integers (wcP (waCons (wVar 1) waNil))))) (wTest (wOp dEq (wCB (b1 dLen) (waCons (wVar 1) waNil)) (wC (.int 0))))) (wRaise xT "BadRow" (waCons (wC (.str "gains")) waNil)) wNext)
  (wKill [] (wSeq (wIfS (wTest (wOp dGt (wCB (b1 dLen) (waCons (wVar 1) waNil)) (wC (.int (48))))) (wRaise xT "TooMany" (waCons (wC (.str "days")) (waCons (wC (.int (48))) waNil))) wNext)
  (wKill [] (wSeq (wSetF ["Row"] "gains" (wVar 0) (wCB (b1 dTuple) (waCons (wVar 1) waNil)))
  (wSeq (wSetF ["Row"] "heights" (wVar 0) (wFn 1 0 w_heights_of (wcP (waCons (wVar 1) waNil))))
  (wSeq (wSetF ["Row"] "days" (wVar 0) (wCB (b1 dLen) (waCons (wVar 1) waNil)))
  (wSetF ["Row"] "total" (wVar 0) (wOp dIx (wFld "heights" (wVar 0)) (wUn dNeg (wC (.int 1)))))))))))) := ⟨_, rfl⟩
@[irreducible] noncomputable def w_Row_init : WF := Classical.choose wx_Row_init
theorem w_Row_init_eq : w_Row_init = wDef 2 2
  (wSeq (wIfS (wOr (wNot (wTru (wFn 1 0 w_are_integers (wcP (waCons (wVar 1) waNil))))) (wTest (wOp dEq (wCB (b1 dLen) (waCons (wVar 1) waNil)) (wC (.int 0))))) (wRaise xT "BadRow" (waCons (wC (.str "gains")) waNil)) wNext)
  (wKill [] (wSeq (wIfS (wTest (wOp dGt (wCB (b1 dLen) (waCons (wVar 1) waNil)) (wC (.int (48))))) (wRaise xT "TooMany" (waCons (wC (.str "days")) (waCons (wC (.int (48))) waNil))) wNext)
  (wKill [] (wSeq (wSetF ["Row"] "gains" (wVar 0) (wCB (b1 dTuple) (waCons (wVar 1) waNil)))
  (wSeq (wSetF ["Row"] "heights" (wVar 0) (wFn 1 0 w_heights_of (wcP (waCons (wVar 1) waNil))))
  (wSeq (wSetF ["Row"] "days" (wVar 0) (wCB (b1 dLen) (waCons (wVar 1) waNil)))
  (wSetF ["Row"] "total" (wVar 0) (wOp dIx (wFld "heights" (wVar 0)) (wUn dNeg (wC (.int 1)))))))))))) := by
  unfold w_Row_init
  exact Classical.choose_spec wx_Row_init
theorem wx_law_bounds : ∃ w : WF, w = wDef 2 8
  (wSeq (wIfS (wTest (wOp dEq (wVar 1) (wLst false waNil))) (wSeq (wAsg (wFn 1 0 w_law_number (wcP (waCons (wVar 0) waNil))) (wgName 2))
  (wRet (wLst false (waCons (wTup (waCons (wVar 2) (waCons (wC .non) waNil))) (waCons (wTup (waCons (wC .non) (waCons (wVar 2) waNil))) (waCons (wTup (waCons (wVar 2) (waCons (wVar 2) waNil))) waNil)))))) wNext)
  (wKill [2, 3, 4, 5, 6, 7] (wSeq (wPar3 3 4 5 (waCons (wCB dMinT (waCons (wVar 1) waNil)) (waCons (wCB dMaxT (waCons (wVar 1) waNil)) (waCons (wFn 2 0 w_law_of (wcP (waCons (wVar 0) (waCons (wVar 1) waNil)))) waNil))))
  (wSeq (wAsg (wLst false (waCons (wTup (waCons (wVar 3) (waCons (wVar 4) waNil))) (waCons (wTup (waCons (wOp (dAdd false) (wVar 3) (wC (.int 1))) (waCons (wC .non) waNil))) (waCons (wTup (waCons (wC .non) (waCons (wOp dSub (wVar 4) (wC (.int 1))) waNil))) (waCons (wTup (waCons (wVar 3) (waCons (wC .non) waNil))) (waCons (wTup (waCons (wC .non) (waCons (wVar 4) waNil))) (waCons (wTup (waCons (wVar 5) (waCons (wVar 5) waNil))) (waCons (wTup (waCons (wVar 5) (waCons (wC .non) waNil))) waNil)))))))) (wgName 6))
  (wSeq (wPar 2 7 (waCons (wFn 1 0 w_law_number (wcP (waCons (wVar 0) waNil))) (waCons (wFn 2 0 w_law_draw (wcP (waCons (wVar 0) (waCons (wC (.int 7)) waNil)))) waNil)))
  (wRet (wOp (dAdd false) (wVar 6) (wLst false (waCons (wTup (waCons (wOp dSub (wVar 3) (wC (.int 1))) (waCons (wOp (dAdd false) (wVar 4) (wC (.int 1))) waNil))) (waCons (wTup (waCons (wC .non) (waCons (wVar 5) waNil))) (waCons (wTup (waCons (wVar 2) (waCons (wOp (dAdd false) (wVar 2) (wVar 7)) waNil))) (waCons (wTup (waCons (wOp (dAdd false) (wVar 4) (wC (.int 1))) (waCons (wOp (dAdd false) (wOp (dAdd false) (wVar 4) (wC (.int 1))) (wVar 7)) waNil))) waNil)))))))))))) := ⟨_, rfl⟩
@[irreducible] noncomputable def w_law_bounds : WF := Classical.choose wx_law_bounds
theorem w_law_bounds_eq : w_law_bounds = wDef 2 8
  (wSeq (wIfS (wTest (wOp dEq (wVar 1) (wLst false waNil))) (wSeq (wAsg (wFn 1 0 w_law_number (wcP (waCons (wVar 0) waNil))) (wgName 2))
  (wRet (wLst false (waCons (wTup (waCons (wVar 2) (waCons (wC .non) waNil))) (waCons (wTup (waCons (wC .non) (waCons (wVar 2) waNil))) (waCons (wTup (waCons (wVar 2) (waCons (wVar 2) waNil))) waNil)))))) wNext)
  (wKill [2, 3, 4, 5, 6, 7] (wSeq (wPar3 3 4 5 (waCons (wCB dMinT (waCons (wVar 1) waNil)) (waCons (wCB dMaxT (waCons (wVar 1) waNil)) (waCons (wFn 2 0 w_law_of (wcP (waCons (wVar 0) (waCons (wVar 1) waNil)))) waNil))))
  (wSeq (wAsg (wLst false (waCons (wTup (waCons (wVar 3) (waCons (wVar 4) waNil))) (waCons (wTup (waCons (wOp (dAdd false) (wVar 3) (wC (.int 1))) (waCons (wC .non) waNil))) (waCons (wTup (waCons (wC .non) (waCons (wOp dSub (wVar 4) (wC (.int 1))) waNil))) (waCons (wTup (waCons (wVar 3) (waCons (wC .non) waNil))) (waCons (wTup (waCons (wC .non) (waCons (wVar 4) waNil))) (waCons (wTup (waCons (wVar 5) (waCons (wVar 5) waNil))) (waCons (wTup (waCons (wVar 5) (waCons (wC .non) waNil))) waNil)))))))) (wgName 6))
  (wSeq (wPar 2 7 (waCons (wFn 1 0 w_law_number (wcP (waCons (wVar 0) waNil))) (waCons (wFn 2 0 w_law_draw (wcP (waCons (wVar 0) (waCons (wC (.int 7)) waNil)))) waNil)))
  (wRet (wOp (dAdd false) (wVar 6) (wLst false (waCons (wTup (waCons (wOp dSub (wVar 3) (wC (.int 1))) (waCons (wOp (dAdd false) (wVar 4) (wC (.int 1))) waNil))) (waCons (wTup (waCons (wC .non) (waCons (wVar 5) waNil))) (waCons (wTup (waCons (wVar 2) (waCons (wOp (dAdd false) (wVar 2) (wVar 7)) waNil))) (waCons (wTup (waCons (wOp (dAdd false) (wVar 4) (wC (.int 1))) (waCons (wOp (dAdd false) (wOp (dAdd false) (wVar 4) (wC (.int 1))) (wVar 7)) waNil))) waNil)))))))))))) := by
  unfold w_law_bounds
  exact Classical.choose_spec wx_law_bounds
theorem wx_law_says : ∃ w : WF, w = wDef 2 2
  (wRet (wIf (wTru (wVar 1)) (wOp dIsB (wVar 0) (wC (.bl true))) (wOp dIsB (wVar 0) (wC (.bl false))))) := ⟨_, rfl⟩
@[irreducible] noncomputable def w_law_says : WF := Classical.choose wx_law_says
theorem w_law_says_eq : w_law_says = wDef 2 2
  (wRet (wIf (wTru (wVar 1)) (wOp dIsB (wVar 0) (wC (.bl true))) (wOp dIsB (wVar 0) (wC (.bl false))))) := by
  unfold w_law_says
  exact Classical.choose_spec wx_law_says
theorem wx_law_first : ∃ w : WF, w = wDef 3 5
  (wSeq (wFor (wiEnumT (waCons (wVar 0) waNil)) (wgTup 2 (wgCons (wgName 3) (wgCons (wgName 4) wgNil))) (wIfS (wOr (wAnd (wTest (wOp dIsn (wVar 1) (wC .non))) (wTest (wOp dLt (wVar 4) (wVar 1)))) (wAnd (wTest (wOp dIsn (wVar 2) (wC .non))) (wTest (wOp dGt (wVar 4) (wVar 2))))) (wRet (wVar 3)) wNext) [0, 3, 4])
  (wRet (wC .non))) := ⟨_, rfl⟩
@[irreducible] noncomputable def w_law_first : WF := Classical.choose wx_law_first
theorem w_law_first_eq : w_law_first = wDef 3 5
  (wSeq (wFor (wiEnumT (waCons (wVar 0) waNil)) (wgTup 2 (wgCons (wgName 3) (wgCons (wgName 4) wgNil))) (wIfS (wOr (wAnd (wTest (wOp dIsn (wVar 1) (wC .non))) (wTest (wOp dLt (wVar 4) (wVar 1)))) (wAnd (wTest (wOp dIsn (wVar 2) (wC .non))) (wTest (wOp dGt (wVar 4) (wVar 2))))) (wRet (wVar 3)) wNext) [0, 3, 4])
  (wRet (wC .non))) := by
  unfold w_law_first
  exact Classical.choose_spec wx_law_first
theorem wx_law_sums : ∃ w : WF, w = wDef 2 3
  (wRet (wLc false (wiR1 (waCons (wOp (dAdd false) (wOp dSub (wCB (b1 dLen) (waCons (wVar 0) waNil)) (wVar 1)) (wC (.int 1))) waNil)) (wgName 2) wYes (wCB (b1 dSum) (waCons (wSl false (wVar 0) (woSome (wVar 2)) (woSome (wOp (dAdd false) (wVar 2) (wVar 1)))) waNil)) [2])) := ⟨_, rfl⟩
@[irreducible] noncomputable def w_law_sums : WF := Classical.choose wx_law_sums
theorem w_law_sums_eq : w_law_sums = wDef 2 3
  (wRet (wLc false (wiR1 (waCons (wOp (dAdd false) (wOp dSub (wCB (b1 dLen) (waCons (wVar 0) waNil)) (wVar 1)) (wC (.int 1))) waNil)) (wgName 2) wYes (wCB (b1 dSum) (waCons (wSl false (wVar 0) (woSome (wVar 2)) (woSome (wOp (dAdd false) (wVar 2) (wVar 1)))) waNil)) [2])) := by
  unfold w_law_sums
  exact Classical.choose_spec wx_law_sums
theorem wx_law_told_right : ∃ w : WF, w = wDef 3 15
  (wSeq (wPar3 3 4 5 (waCons (wNew false "Row" 1 0 (nX w_Row_init) (wcP (waCons (wVar 1) waNil))) (waCons (wNew false "Row" 1 0 (nX w_Row_init) (wcP (waCons (wRev false (wVar 1)) waNil))) (waCons (wFn 2 0 w_law_sums (wcP (waCons (wVar 1) (waCons (wVar 2) waNil)))) waNil))))
  (wSeq (wAsg (wFn 2 0 w_law_draw (wcP (waCons (wVar 0) (waCons (wCB (b1 dLen) (waCons (wVar 1) waNil)) waNil)))) (wgName 6))
  (wSeq (wAsg (wOp (dAdd false) (wOp (dAdd false) (wVar 6) (wC (.int 1))) (wFn 2 0 w_law_draw (wcP (waCons (wVar 0) (waCons (wOp dSub (wCB (b1 dLen) (waCons (wVar 1) waNil)) (wVar 6)) waNil))))) (wgName 7))
  (wSeq (wPar 8 9 (waCons (wNew false "Row" 1 0 (nX w_Row_init) (wcP (waCons (wSl false (wVar 1) (woSome (wVar 6)) (woSome (wVar 7))) waNil))) (waCons (wFn 2 0 w_law_sums (wcP (waCons (wSl false (wVar 1) (woSome (wVar 6)) (woSome (wVar 7))) (waCons (wVar 2) waNil)))) waNil)))
  (wSeq (wFor (wiAny (wFn 2 0 w_law_bounds (wcP (waCons (wVar 0) (waCons (wVar 5) waNil))))) (wgTup 2 (wgCons (wgName 10) (wgCons (wgName 11) wgNil))) (wSeq (wPar 12 13 (waCons (wNewD false "Rule" 3 [] (nX w_Rule_init) (wcP (waCons (wVar 2) (waCons (wVar 10) (waCons (wVar 11) waNil))))) (waCons (wFn 3 0 w_law_first (wcP (waCons (wVar 5) (waCons (wVar 10) (waCons (wVar 11) waNil))))) waNil)))
  (wSeq (wAsg (wMt "Rule" "first_broken" 1 0 (nX w_Rule_first_broken) (wVar 12) (wcP (waCons (wVar 3) waNil))) (wgName 14))
  (wSeq (wIfS (wOr (wTest (wOp dNe (wVar 14) (wVar 13))) (wOr (wTru (wCB (dIsi clsT) (waCons (wVar 14) (waCons (wC (.ty "bool")) waNil)))) (wNot (wTru (wFn 2 0 w_law_says (wcP (waCons (wMt "Rule" "keeps" 1 0 (nX w_Rule_keeps) (wVar 12) (wcP (waCons (wVar 3) waNil))) (waCons (wOp dIs (wVar 13) (wC .non)) waNil)))))))) (wRet (wC (.bl false))) wNext)
  (wKill [6, 7, 14] (wSeq (wIfS (wOr (wNot (wTru (wFn 2 0 w_law_says (wcP (waCons (wMtK "Rule" "keeps" 0 1 (nX w_Rule_keeps) [0, 1] (wVar 12) (wcK (waCons (wVar 4) waNil))) (waCons (wOp dIs (wVar 13) (wC .non)) waNil)))))) (wTest (wOp dNe (wMtK "Rule" "first_broken" 0 1 (nX w_Rule_first_broken) [0, 1] (wVar 12) (wcK (waCons (wVar 4) waNil))) (wFn 3 0 w_law_first (wcP (waCons (wRev false (wVar 5)) (waCons (wVar 10) (waCons (wVar 11) waNil)))))))) (wRet (wC (.bl false))) wNext)
  (wKill [6, 7, 14] (wIfS (wOr (wNot (wTru (wFn 2 0 w_law_says (wcP (waCons (wMt "Rule" "keeps" 1 0 (nX w_Rule_keeps) (wVar 12) (wcP (waCons (wVar 8) waNil))) (waCons (wOp dIs (wFn 3 0 w_law_first (wcP (waCons (wVar 9) (waCons (wVar 10) (waCons (wVar 11) waNil))))) (wC .non)) waNil)))))) (wAnd (wTest (wOp dIs (wVar 13) (wC .non))) (wNot (wTru (wMt "Rule" "keeps" 1 0 (nX w_Rule_keeps) (wVar 12) (wcP (waCons (wVar 8) waNil))))))) (wRet (wC (.bl false))) wNext))))))) [6, 7, 10, 11, 12, 13, 14])
  (wRet (wOp dEq (wFld "gains" (wVar 3)) (wCB (b1 dTuple) (waCons (wVar 1) waNil))))))))) := ⟨_, rfl⟩
@[irreducible] noncomputable def w_law_told_right : WF := Classical.choose wx_law_told_right
theorem w_law_told_right_eq : w_law_told_right = wDef 3 15
  (wSeq (wPar3 3 4 5 (waCons (wNew false "Row" 1 0 (nX w_Row_init) (wcP (waCons (wVar 1) waNil))) (waCons (wNew false "Row" 1 0 (nX w_Row_init) (wcP (waCons (wRev false (wVar 1)) waNil))) (waCons (wFn 2 0 w_law_sums (wcP (waCons (wVar 1) (waCons (wVar 2) waNil)))) waNil))))
  (wSeq (wAsg (wFn 2 0 w_law_draw (wcP (waCons (wVar 0) (waCons (wCB (b1 dLen) (waCons (wVar 1) waNil)) waNil)))) (wgName 6))
  (wSeq (wAsg (wOp (dAdd false) (wOp (dAdd false) (wVar 6) (wC (.int 1))) (wFn 2 0 w_law_draw (wcP (waCons (wVar 0) (waCons (wOp dSub (wCB (b1 dLen) (waCons (wVar 1) waNil)) (wVar 6)) waNil))))) (wgName 7))
  (wSeq (wPar 8 9 (waCons (wNew false "Row" 1 0 (nX w_Row_init) (wcP (waCons (wSl false (wVar 1) (woSome (wVar 6)) (woSome (wVar 7))) waNil))) (waCons (wFn 2 0 w_law_sums (wcP (waCons (wSl false (wVar 1) (woSome (wVar 6)) (woSome (wVar 7))) (waCons (wVar 2) waNil)))) waNil)))
  (wSeq (wFor (wiAny (wFn 2 0 w_law_bounds (wcP (waCons (wVar 0) (waCons (wVar 5) waNil))))) (wgTup 2 (wgCons (wgName 10) (wgCons (wgName 11) wgNil))) (wSeq (wPar 12 13 (waCons (wNewD false "Rule" 3 [] (nX w_Rule_init) (wcP (waCons (wVar 2) (waCons (wVar 10) (waCons (wVar 11) waNil))))) (waCons (wFn 3 0 w_law_first (wcP (waCons (wVar 5) (waCons (wVar 10) (waCons (wVar 11) waNil))))) waNil)))
  (wSeq (wAsg (wMt "Rule" "first_broken" 1 0 (nX w_Rule_first_broken) (wVar 12) (wcP (waCons (wVar 3) waNil))) (wgName 14))
  (wSeq (wIfS (wOr (wTest (wOp dNe (wVar 14) (wVar 13))) (wOr (wTru (wCB (dIsi clsT) (waCons (wVar 14) (waCons (wC (.ty "bool")) waNil)))) (wNot (wTru (wFn 2 0 w_law_says (wcP (waCons (wMt "Rule" "keeps" 1 0 (nX w_Rule_keeps) (wVar 12) (wcP (waCons (wVar 3) waNil))) (waCons (wOp dIs (wVar 13) (wC .non)) waNil)))))))) (wRet (wC (.bl false))) wNext)
  (wKill [6, 7, 14] (wSeq (wIfS (wOr (wNot (wTru (wFn 2 0 w_law_says (wcP (waCons (wMtK "Rule" "keeps" 0 1 (nX w_Rule_keeps) [0, 1] (wVar 12) (wcK (waCons (wVar 4) waNil))) (waCons (wOp dIs (wVar 13) (wC .non)) waNil)))))) (wTest (wOp dNe (wMtK "Rule" "first_broken" 0 1 (nX w_Rule_first_broken) [0, 1] (wVar 12) (wcK (waCons (wVar 4) waNil))) (wFn 3 0 w_law_first (wcP (waCons (wRev false (wVar 5)) (waCons (wVar 10) (waCons (wVar 11) waNil)))))))) (wRet (wC (.bl false))) wNext)
  (wKill [6, 7, 14] (wIfS (wOr (wNot (wTru (wFn 2 0 w_law_says (wcP (waCons (wMt "Rule" "keeps" 1 0 (nX w_Rule_keeps) (wVar 12) (wcP (waCons (wVar 8) waNil))) (waCons (wOp dIs (wFn 3 0 w_law_first (wcP (waCons (wVar 9) (waCons (wVar 10) (waCons (wVar 11) waNil))))) (wC .non)) waNil)))))) (wAnd (wTest (wOp dIs (wVar 13) (wC .non))) (wNot (wTru (wMt "Rule" "keeps" 1 0 (nX w_Rule_keeps) (wVar 12) (wcP (waCons (wVar 8) waNil))))))) (wRet (wC (.bl false))) wNext))))))) [6, 7, 10, 11, 12, 13, 14])
  (wRet (wOp dEq (wFld "gains" (wVar 3)) (wCB (b1 dTuple) (waCons (wVar 1) waNil))))))))) := by
  unfold w_law_told_right
  exact Classical.choose_spec wx_law_told_right
theorem wx_law_gains : ∃ w : WF, w = wDef 2 5
  (wSeq (wAsg (wLc false (wiR1 (waCons (wVar 1) waNil)) (wgName 4) wYes (wFn 1 0 w_law_number (wcP (waCons (wVar 0) waNil))) [4]) (wgName 2))
  (wSeq (wAsg (wOp (dAdd false) (wC (.int 1)) (wFn 2 0 w_law_draw (wcP (waCons (wVar 0) (waCons (wC (.int 12)) waNil))))) (wgName 3))
  (wRet (wIf (wTest (wOp dEq (wFn 2 0 w_law_draw (wcP (waCons (wVar 0) (waCons (wC (.int 3)) waNil)))) (wC (.int 0)))) (wLc false (wiR1 (waCons (wVar 1) waNil)) (wgName 4) wYes (wOp dIx (wVar 2) (wOp dMd (wVar 4) (wVar 3))) [4]) (wVar 2))))) := ⟨_, rfl⟩
@[irreducible] noncomputable def w_law_gains : WF := Classical.choose wx_law_gains
theorem w_law_gains_eq : w_law_gains = wDef 2 5
  (wSeq (wAsg (wLc false (wiR1 (waCons (wVar 1) waNil)) (wgName 4) wYes (wFn 1 0 w_law_number (wcP (waCons (wVar 0) waNil))) [4]) (wgName 2))
  (wSeq (wAsg (wOp (dAdd false) (wC (.int 1)) (wFn 2 0 w_law_draw (wcP (waCons (wVar 0) (waCons (wC (.int 12)) waNil))))) (wgName 3))
  (wRet (wIf (wTest (wOp dEq (wFn 2 0 w_law_draw (wcP (waCons (wVar 0) (waCons (wC (.int 3)) waNil)))) (wC (.int 0)))) (wLc false (wiR1 (waCons (wVar 1) waNil)) (wgName 4) wYes (wOp dIx (wVar 2) (wOp dMd (wVar 4) (wVar 3))) [4]) (wVar 2))))) := by
  unfold w_law_gains
  exact Classical.choose_spec wx_law_gains
theorem wx_law_pen : ∃ w : WF, w = wDef 1 2
  (wRet (wLst true (waCons (wLc false (wiAny (wSl false (wVar 0) woNone (woSome (wC (.int 61))))) (wgName 1) wYes (wCB (b1 dInt) (waCons (wVar 1) waNil)) [1]) (waCons (wC (.int 0)) (waCons (wC (.int 0)) waNil))))) := ⟨_, rfl⟩
@[irreducible] noncomputable def w_law_pen : WF := Classical.choose wx_law_pen
theorem w_law_pen_eq : w_law_pen = wDef 1 2
  (wRet (wLst true (waCons (wLc false (wiAny (wSl false (wVar 0) woNone (woSome (wC (.int 61))))) (wgName 1) wYes (wCB (b1 dInt) (waCons (wVar 1) waNil)) [1]) (waCons (wC (.int 0)) (waCons (wC (.int 0)) waNil))))) := by
  unfold w_law_pen
  exact Classical.choose_spec wx_law_pen
theorem wx_law : ∃ w : WF, w = wDef 1 7
  (wSeq (wAsg (wFn 1 0 w_law_pen (wcP (waCons (wVar 0) waNil))) (wgName 1))
  (wSeq (wAsg (wFn 2 0 w_law_of (wcP (waCons (wVar 1) (waCons (wLst false (waCons (wC (.int 5)) (waCons (wC (.int 1)) (waCons (wC (.int 2)) (waCons (wC (.int 3)) (waCons (wC (.int 7)) (waCons (wC (.int 12)) (waCons (wC (.int 30)) (waCons (wC (.int 48)) (waCons (wC (.int 4)) (waCons (wC (.int 6)) waNil))))))))))) waNil)))) (wgName 2))
  (wSeq (wAsg (wFn 2 0 w_law_gains (wcP (waCons (wVar 1) (waCons (wVar 2) waNil)))) (wgName 3))
  (wSeq (wAsg (wLst false (waCons (wC (.int 1)) (waCons (wVar 2) (waCons (wCB dMinT (waCons (wOp (dAdd false) (wVar 2) (wC (.int 1))) (waCons (wC (.int 48)) waNil))) (waCons (wOp (dAdd false) (wC (.int 1)) (wFn 2 0 w_law_draw (wcP (waCons (wVar 1) (waCons (wVar 2) waNil))))) (waCons (wOp (dAdd false) (wC (.int 1)) (wFn 2 0 w_law_draw (wcP (waCons (wVar 1) (waCons (wVar 2) waNil))))) (waCons (wOp (dAdd false) (wC (.int 1)) (wFn 2 0 w_law_draw (wcP (waCons (wVar 1) (waCons (wC (.int 48)) waNil))))) waNil))))))) (wgName 4))
  (wSeq (wIfS (wTest (wOp dNe (wLc false (wiAny (wVar 4)) (wgName 6) (wNot (wTru (wFn 3 0 w_law_told_right (wcP (waCons (wVar 1) (waCons (wVar 3) (waCons (wVar 6) waNil))))))) (wVar 6) [6]) (wLst false waNil))) (wRet (wDp [1] (wC (.bl false)))) wNext)
  (wKill [0, 2, 4, 5, 6] (wSeq (wAsg (wLst false (waCons (wUn dNeg (wC (.int 3))) (waCons (wC (.int 5)) (waCons (wUn dNeg (wC (.int 3))) (waCons (wUn dNeg (wC (.int 3))) (waCons (wC (.int 5)) (waCons (wUn dNeg (wC (.int 3))) waNil))))))) (wgName 5))
  (wSeq (wIfS (wOr (wNot (wTru (wMt "Rule" "keeps" 1 0 (nX w_Rule_keeps) (wNewD false "Rule" 3 [] (nX w_Rule_init) (wcP (waCons (wC (.int 3)) (waCons (wC .non) (waCons (wUn dNeg (wC (.int 1))) waNil))))) (wcP (waCons (wNew false "Row" 1 0 (nX w_Row_init) (wcP (waCons (wVar 5) waNil))) waNil))))) (wOr (wNot (wTru (wMt "Rule" "keeps" 1 0 (nX w_Rule_keeps) (wNewD false "Rule" 2 [.non] (nX w_Rule_init) (wcP (waCons (wC (.int 5)) (waCons (wC (.int 1)) waNil)))) (wcP (waCons (wNew false "Row" 1 0 (nX w_Row_init) (wcP (waCons (wVar 5) waNil))) waNil))))) (wOr (wTest (wOp dNe (wMt "Rule" "first_broken" 1 0 (nX w_Rule_first_broken) (wNewD false "Rule" 3 [] (nX w_Rule_init) (wcP (waCons (wC (.int 3)) (waCons (wC .non) (waCons (wUn dNeg (wC (.int 2))) waNil))))) (wcP (waCons (wNew false "Row" 1 0 (nX w_Row_init) (wcP (waCons (wVar 5) waNil))) waNil))) (wC (.int 0)))) (wTest (wOp dNe (wMt "Rule" "first_broken" 1 0 (nX w_Rule_first_broken) (wNewD false "Rule" 2 [.non] (nX w_Rule_init) (wcP (waCons (wC (.int 2)) (waCons (wUn dNeg (wC (.int 5))) waNil)))) (wcP (waCons (wNew false "Row" 1 0 (nX w_Row_init) (wcP (waCons (wVar 5) waNil))) waNil))) (wC (.int 2))))))) (wRet (wDp [1] (wC (.bl false)))) wNext)
  (wKill [0, 2, 4, 5, 6] (wRet (wDp [1] (wFn 2 0 w_law_refused_right (wcP (waCons (wVar 1) (waCons (wVar 3) waNil))))))))))))))) := ⟨_, rfl⟩
@[irreducible] noncomputable def w_law : WF := Classical.choose wx_law
theorem w_law_eq : w_law = wDef 1 7
  (wSeq (wAsg (wFn 1 0 w_law_pen (wcP (waCons (wVar 0) waNil))) (wgName 1))
  (wSeq (wAsg (wFn 2 0 w_law_of (wcP (waCons (wVar 1) (waCons (wLst false (waCons (wC (.int 5)) (waCons (wC (.int 1)) (waCons (wC (.int 2)) (waCons (wC (.int 3)) (waCons (wC (.int 7)) (waCons (wC (.int 12)) (waCons (wC (.int 30)) (waCons (wC (.int 48)) (waCons (wC (.int 4)) (waCons (wC (.int 6)) waNil))))))))))) waNil)))) (wgName 2))
  (wSeq (wAsg (wFn 2 0 w_law_gains (wcP (waCons (wVar 1) (waCons (wVar 2) waNil)))) (wgName 3))
  (wSeq (wAsg (wLst false (waCons (wC (.int 1)) (waCons (wVar 2) (waCons (wCB dMinT (waCons (wOp (dAdd false) (wVar 2) (wC (.int 1))) (waCons (wC (.int 48)) waNil))) (waCons (wOp (dAdd false) (wC (.int 1)) (wFn 2 0 w_law_draw (wcP (waCons (wVar 1) (waCons (wVar 2) waNil))))) (waCons (wOp (dAdd false) (wC (.int 1)) (wFn 2 0 w_law_draw (wcP (waCons (wVar 1) (waCons (wVar 2) waNil))))) (waCons (wOp (dAdd false) (wC (.int 1)) (wFn 2 0 w_law_draw (wcP (waCons (wVar 1) (waCons (wC (.int 48)) waNil))))) waNil))))))) (wgName 4))
  (wSeq (wIfS (wTest (wOp dNe (wLc false (wiAny (wVar 4)) (wgName 6) (wNot (wTru (wFn 3 0 w_law_told_right (wcP (waCons (wVar 1) (waCons (wVar 3) (waCons (wVar 6) waNil))))))) (wVar 6) [6]) (wLst false waNil))) (wRet (wDp [1] (wC (.bl false)))) wNext)
  (wKill [0, 2, 4, 5, 6] (wSeq (wAsg (wLst false (waCons (wUn dNeg (wC (.int 3))) (waCons (wC (.int 5)) (waCons (wUn dNeg (wC (.int 3))) (waCons (wUn dNeg (wC (.int 3))) (waCons (wC (.int 5)) (waCons (wUn dNeg (wC (.int 3))) waNil))))))) (wgName 5))
  (wSeq (wIfS (wOr (wNot (wTru (wMt "Rule" "keeps" 1 0 (nX w_Rule_keeps) (wNewD false "Rule" 3 [] (nX w_Rule_init) (wcP (waCons (wC (.int 3)) (waCons (wC .non) (waCons (wUn dNeg (wC (.int 1))) waNil))))) (wcP (waCons (wNew false "Row" 1 0 (nX w_Row_init) (wcP (waCons (wVar 5) waNil))) waNil))))) (wOr (wNot (wTru (wMt "Rule" "keeps" 1 0 (nX w_Rule_keeps) (wNewD false "Rule" 2 [.non] (nX w_Rule_init) (wcP (waCons (wC (.int 5)) (waCons (wC (.int 1)) waNil)))) (wcP (waCons (wNew false "Row" 1 0 (nX w_Row_init) (wcP (waCons (wVar 5) waNil))) waNil))))) (wOr (wTest (wOp dNe (wMt "Rule" "first_broken" 1 0 (nX w_Rule_first_broken) (wNewD false "Rule" 3 [] (nX w_Rule_init) (wcP (waCons (wC (.int 3)) (waCons (wC .non) (waCons (wUn dNeg (wC (.int 2))) waNil))))) (wcP (waCons (wNew false "Row" 1 0 (nX w_Row_init) (wcP (waCons (wVar 5) waNil))) waNil))) (wC (.int 0)))) (wTest (wOp dNe (wMt "Rule" "first_broken" 1 0 (nX w_Rule_first_broken) (wNewD false "Rule" 2 [.non] (nX w_Rule_init) (wcP (waCons (wC (.int 2)) (waCons (wUn dNeg (wC (.int 5))) waNil)))) (wcP (waCons (wNew false "Row" 1 0 (nX w_Row_init) (wcP (waCons (wVar 5) waNil))) waNil))) (wC (.int 2))))))) (wRet (wDp [1] (wC (.bl false)))) wNext)
  (wKill [0, 2, 4, 5, 6] (wRet (wDp [1] (wFn 2 0 w_law_refused_right (wcP (waCons (wVar 1) (waCons (wVar 3) waNil))))))))))))))) := by
  unfold w_law
  exact Classical.choose_spec wx_law
end K12

set_option Elab.async false
set_option linter.all false
set_option maxRecDepth 100000
set_option maxHeartbeats 4000000
namespace K12
open PySem PySem.Spec PyProof.Rows L2 Rl RZ RT
def top (i : Nat) : Stmt := PySem.Challenge.pw_anyseven_k12_rules_kept_by_rows.main.body.getD i (.Pass ⟨0, 0, 0, 0⟩)
abbrev st_law_heard : Stmt := top 44
abbrev d_law_heard : Df := ⟨.top "_law_heard", "_law_heard", "_law_heard", defArgs st_law_heard, defBody st_law_heard, defScope st_law_heard, []⟩
abbrev st_is_integer : Stmt := top 10
abbrev d_is_integer : Df := ⟨.top "is_integer", "is_integer", "is_integer", defArgs st_is_integer, defBody st_is_integer, defScope st_is_integer, []⟩
abbrev st_is_within : Stmt := top 11
abbrev d_is_within : Df := ⟨.top "is_within", "is_within", "is_within", defArgs st_is_within, defBody st_is_within, defScope st_is_within, []⟩
abbrev st_BadRow_init : Stmt := inClass (top 3) 0
abbrev d_BadRow_init : Df := ⟨.meth "BadRow" "__init__", "__init__", "BadRow.__init__", defArgs st_BadRow_init, defBody st_BadRow_init, defScope st_BadRow_init, []⟩
abbrev st_need_row : Stmt := top 20
abbrev d_need_row : Df := ⟨.top "need_row", "need_row", "need_row", defArgs st_need_row, defBody st_need_row, defScope st_need_row, []⟩
abbrev st_Rule_first_broken : Stmt := inClass (top 32) 3
abbrev d_Rule_first_broken : Df := ⟨.meth "Rule" "first_broken", "first_broken", "Rule.first_broken", defArgs st_Rule_first_broken, defBody st_Rule_first_broken, defScope st_Rule_first_broken, []⟩
abbrev st_Rule_keeps : Stmt := inClass (top 32) 2
abbrev d_Rule_keeps : Df := ⟨.meth "Rule" "keeps", "keeps", "Rule.keeps", defArgs st_Rule_keeps, defBody st_Rule_keeps, defScope st_Rule_keeps, []⟩
abbrev st_law_draw : Stmt := top 35
abbrev d_law_draw : Df := ⟨.top "_law_draw", "_law_draw", "_law_draw", defArgs st_law_draw, defBody st_law_draw, defScope st_law_draw, []⟩
abbrev st_law_of : Stmt := top 36
abbrev d_law_of : Df := ⟨.top "_law_of", "_law_of", "_law_of", defArgs st_law_of, defBody st_law_of, defScope st_law_of, []⟩
abbrev st_are_bounds : Stmt := top 28
abbrev d_are_bounds : Df := ⟨.top "are_bounds", "are_bounds", "are_bounds", defArgs st_are_bounds, defBody st_are_bounds, defScope st_are_bounds, []⟩
abbrev st_BadRule_init : Stmt := inClass (top 4) 0
abbrev d_BadRule_init : Df := ⟨.meth "BadRule" "__init__", "__init__", "BadRule.__init__", defArgs st_BadRule_init, defBody st_BadRule_init, defScope st_BadRule_init, []⟩
abbrev st_BadNumber_init : Stmt := inClass (top 5) 0
abbrev d_BadNumber_init : Df := ⟨.meth "BadNumber" "__init__", "__init__", "BadNumber.__init__", defArgs st_BadNumber_init, defBody st_BadNumber_init, defScope st_BadNumber_init, []⟩
abbrev st_need_bound : Stmt := top 27
abbrev d_need_bound : Df := ⟨.top "need_bound", "need_bound", "need_bound", defArgs st_need_bound, defBody st_need_bound, defScope st_need_bound, []⟩
abbrev st_need_number : Stmt := top 13
abbrev d_need_number : Df := ⟨.top "need_number", "need_number", "need_number", defArgs st_need_number, defBody st_need_number, defScope st_need_number, []⟩
abbrev st_Rule_init : Stmt := inClass (top 32) 0
abbrev d_Rule_init : Df := ⟨.meth "Rule" "__init__", "__init__", "Rule.__init__", defArgs st_Rule_init, defBody st_Rule_init, defScope st_Rule_init, [.non, .non]⟩
abbrev st_law_number : Stmt := top 37
abbrev d_law_number : Df := ⟨.top "_law_number", "_law_number", "_law_number", defArgs st_law_number, defBody st_law_number, defScope st_law_number, []⟩
abbrev st_law_refused_right : Stmt := top 45
abbrev d_law_refused_right : Df := ⟨.top "_law_refused_right", "_law_refused_right", "_law_refused_right", defArgs st_law_refused_right, defBody st_law_refused_right, defScope st_law_refused_right, []⟩
abbrev st_heights_of : Stmt := top 22
abbrev d_heights_of : Df := ⟨.top "heights_of", "heights_of", "heights_of", defArgs st_heights_of, defBody st_heights_of, defScope st_heights_of, []⟩
abbrev st_TooMany_init : Stmt := inClass (top 6) 0
abbrev d_TooMany_init : Df := ⟨.meth "TooMany" "__init__", "__init__", "TooMany.__init__", defArgs st_TooMany_init, defBody st_TooMany_init, defScope st_TooMany_init, []⟩
abbrev st_are_integers : Stmt := top 12
abbrev d_are_integers : Df := ⟨.top "are_integers", "are_integers", "are_integers", defArgs st_are_integers, defBody st_are_integers, defScope st_are_integers, []⟩
abbrev st_Row_init : Stmt := inClass (top 23) 0
abbrev d_Row_init : Df := ⟨.meth "Row" "__init__", "__init__", "Row.__init__", defArgs st_Row_init, defBody st_Row_init, defScope st_Row_init, []⟩
abbrev st_law_bounds : Stmt := top 41
abbrev d_law_bounds : Df := ⟨.top "_law_bounds", "_law_bounds", "_law_bounds", defArgs st_law_bounds, defBody st_law_bounds, defScope st_law_bounds, []⟩
abbrev st_law_says : Stmt := top 42
abbrev d_law_says : Df := ⟨.top "_law_says", "_law_says", "_law_says", defArgs st_law_says, defBody st_law_says, defScope st_law_says, []⟩
abbrev st_law_first : Stmt := top 40
abbrev d_law_first : Df := ⟨.top "_law_first", "_law_first", "_law_first", defArgs st_law_first, defBody st_law_first, defScope st_law_first, []⟩
abbrev st_law_sums : Stmt := top 39
abbrev d_law_sums : Df := ⟨.top "_law_sums", "_law_sums", "_law_sums", defArgs st_law_sums, defBody st_law_sums, defScope st_law_sums, []⟩
abbrev st_law_told_right : Stmt := top 43
abbrev d_law_told_right : Df := ⟨.top "_law_told_right", "_law_told_right", "_law_told_right", defArgs st_law_told_right, defBody st_law_told_right, defScope st_law_told_right, []⟩
abbrev st_law_gains : Stmt := top 38
abbrev d_law_gains : Df := ⟨.top "_law_gains", "_law_gains", "_law_gains", defArgs st_law_gains, defBody st_law_gains, defScope st_law_gains, []⟩
abbrev st_law_pen : Stmt := top 34
abbrev d_law_pen : Df := ⟨.top "_law_pen", "_law_pen", "_law_pen", defArgs st_law_pen, defBody st_law_pen, defScope st_law_pen, []⟩
abbrev st_law : Stmt := top 46
abbrev d_law : Df := ⟨.top "law", "law", "law", defArgs st_law, defBody st_law, defScope st_law, []⟩
def fn : List Df := [d_law_heard, d_is_integer, d_is_within, d_BadRow_init, d_need_row, d_Rule_first_broken, d_Rule_keeps, d_law_draw, d_law_of, d_are_bounds, d_BadRule_init, d_BadNumber_init, d_need_bound, d_need_number, d_Rule_init, d_law_number, d_law_refused_right, d_heights_of, d_TooMany_init, d_are_integers, d_Row_init, d_law_bounds, d_law_says, d_law_first, d_law_sums, d_law_told_right, d_law_gains, d_law_pen, d_law]
def fa : List Fb := [.he (.glo "BadRow"),
  .he (.free "isinstance"),
  .he (.glo "DayError"),
  .he (.free "range"),
  .he (.free "bool"),
  .he (.free "int"),
  .he (.glo "is_integer"),
  .he (.glo "is_within"),
  .he (.glo "Row"),
  .xcl "BadRow" ["part"] "DayError",
  .xin "BadRow" "BadRow",
  .he (.glo "need_row"),
  .he (.cls "Rule"),
  .he (.meth "Rule" "first_broken"),
  .tdf mkrs,
  .he (.glo "_law_heard"),
  .he (.meth "Rule" "keeps"),
  .he (.free "abs"),
  .he (.free "len"),
  .he (.glo "_law_draw"),
  .he (.free "str"),
  .he (.free "tuple"),
  .he (.glo "_law_of"),
  .he (.noat "Rule" "high"),
  .he (.noat "Rule" "low"),
  .he (.noat "Rule" "length"),
  .he (.glo "are_bounds"),
  .xcl "BadRule" ["part"] "DayError",
  .xin "BadRule" "BadRule",
  .he (.glo "BadRule"),
  .xcl "BadNumber" ["part"] "DayError",
  .xin "BadNumber" "BadNumber",
  .he (.glo "BadNumber"),
  .he (.glo "need_bound"),
  .he (.int "MOST_LENGTH" (48)),
  .he (.glo "need_number"),
  .he (.glo "_law_number"),
  .tyi "Rule",
  .he (.mkr "Rule"),
  .he (.glo "Rule"),
  .he (.glo "_law_refused_right"),
  .he (.noat "Row" "total"),
  .he (.noat "Row" "days"),
  .he (.glo "heights_of"),
  .he (.noat "Row" "heights"),
  .he (.noat "Row" "gains"),
  .he (.int "MOST_DAYS" (48)),
  .xcl "TooMany" ["what", "most"] "DayError",
  .xin "TooMany" "TooMany",
  .he (.glo "TooMany"),
  .he (.free "all"),
  .he (.free "list"),
  .he (.glo "are_integers"),
  .he (.cls "Row"),
  .tyi "Row",
  .he (.mkr "Row"),
  .he (.free "max"),
  .he (.free "min"),
  .he (.glo "_law_bounds"),
  .he (.free "enumerate"),
  .he (.glo "_law_first"),
  .he (.glo "_law_says"),
  .he (.free "sum"),
  .he (.glo "_law_sums"),
  .he (.glo "_law_told_right"),
  .he (.glo "_law_gains"),
  .he (.glo "_law_pen"),
  .kit "NoneType" "Row" false,
  .kit "bool" "Row" false,
  .kit "int" "Row" false,
  .kit "str" "Row" false,
  .kit "list" "Row" false,
  .kit "tuple" "Row" false,
  .kit "dict" "Row" false,
  .kitT "Row" "NoneType" false,
  .kitT "Row" "bool" false,
  .kitT "Row" "int" false,
  .kitT "Row" "str" false,
  .kitT "Row" "list" false,
  .kitT "Row" "tuple" false,
  .kitT "Row" "dict" false,
  .kitO "Row" "Row" true,
  .kitO "Row" "Rule" false,
  .kitO "Row" "BadRow" false,
  .kitO "Row" "BadNumber" false,
  .kitO "Row" "TooMany" false,
  .kitO "Row" "BadRule" false,
  .kit "NoneType" "Rule" false,
  .kit "bool" "Rule" false,
  .kit "int" "Rule" false,
  .kit "str" "Rule" false,
  .kit "list" "Rule" false,
  .kit "tuple" "Rule" false,
  .kit "dict" "Rule" false,
  .kitT "Rule" "NoneType" false,
  .kitT "Rule" "bool" false,
  .kitT "Rule" "int" false,
  .kitT "Rule" "str" false,
  .kitT "Rule" "list" false,
  .kitT "Rule" "tuple" false,
  .kitT "Rule" "dict" false,
  .kitO "Rule" "Row" false,
  .kitO "Rule" "Rule" true,
  .kitO "Rule" "BadRow" false,
  .kitO "Rule" "BadNumber" false,
  .kitO "Rule" "TooMany" false,
  .kitO "Rule" "BadRule" false,
  .kit "NoneType" "BadRow" false,
  .kit "bool" "BadRow" false,
  .kit "int" "BadRow" false,
  .kit "str" "BadRow" false,
  .kit "list" "BadRow" false,
  .kit "tuple" "BadRow" false,
  .kit "dict" "BadRow" false,
  .kitT "BadRow" "NoneType" false,
  .kitT "BadRow" "bool" false,
  .kitT "BadRow" "int" false,
  .kitT "BadRow" "str" false,
  .kitT "BadRow" "list" false,
  .kitT "BadRow" "tuple" false,
  .kitT "BadRow" "dict" false,
  .kitO "BadRow" "Row" false,
  .kitO "BadRow" "Rule" false,
  .kitO "BadRow" "BadRow" true,
  .kitO "BadRow" "BadNumber" false,
  .kitO "BadRow" "TooMany" false,
  .kitO "BadRow" "BadRule" false,
  .kit "NoneType" "BadNumber" false,
  .kit "bool" "BadNumber" false,
  .kit "int" "BadNumber" false,
  .kit "str" "BadNumber" false,
  .kit "list" "BadNumber" false,
  .kit "tuple" "BadNumber" false,
  .kit "dict" "BadNumber" false,
  .kitT "BadNumber" "NoneType" false,
  .kitT "BadNumber" "bool" false,
  .kitT "BadNumber" "int" false,
  .kitT "BadNumber" "str" false,
  .kitT "BadNumber" "list" false,
  .kitT "BadNumber" "tuple" false,
  .kitT "BadNumber" "dict" false,
  .kitO "BadNumber" "Row" false,
  .kitO "BadNumber" "Rule" false,
  .kitO "BadNumber" "BadRow" false,
  .kitO "BadNumber" "BadNumber" true,
  .kitO "BadNumber" "TooMany" false,
  .kitO "BadNumber" "BadRule" false,
  .kit "NoneType" "TooMany" false,
  .kit "bool" "TooMany" false,
  .kit "int" "TooMany" false,
  .kit "str" "TooMany" false,
  .kit "list" "TooMany" false,
  .kit "tuple" "TooMany" false,
  .kit "dict" "TooMany" false,
  .kitT "TooMany" "NoneType" false,
  .kitT "TooMany" "bool" false,
  .kitT "TooMany" "int" false,
  .kitT "TooMany" "str" false,
  .kitT "TooMany" "list" false,
  .kitT "TooMany" "tuple" false,
  .kitT "TooMany" "dict" false,
  .kitO "TooMany" "Row" false,
  .kitO "TooMany" "Rule" false,
  .kitO "TooMany" "BadRow" false,
  .kitO "TooMany" "BadNumber" false,
  .kitO "TooMany" "TooMany" true,
  .kitO "TooMany" "BadRule" false,
  .kit "NoneType" "BadRule" false,
  .kit "bool" "BadRule" false,
  .kit "int" "BadRule" false,
  .kit "str" "BadRule" false,
  .kit "list" "BadRule" false,
  .kit "tuple" "BadRule" false,
  .kit "dict" "BadRule" false,
  .kitT "BadRule" "NoneType" false,
  .kitT "BadRule" "bool" false,
  .kitT "BadRule" "int" false,
  .kitT "BadRule" "str" false,
  .kitT "BadRule" "list" false,
  .kitT "BadRule" "tuple" false,
  .kitT "BadRule" "dict" false,
  .kitO "BadRule" "Row" false,
  .kitO "BadRule" "Rule" false,
  .kitO "BadRule" "BadRow" false,
  .kitO "BadRule" "BadNumber" false,
  .kitO "BadRule" "TooMany" false,
  .kitO "BadRule" "BadRule" true]
structure Bd (K : PySem.W.Frag) (mg : Str → Option Value) : Prop where
  ex : ∃ h : Heap, K.In h ∧ h.Ns mainGlobals mg ∧ SaysB fa fn K
section
variable {K : PySem.W.Frag} {mg : Str → Option Value}
theorem n_BadRow (b : Bd K mg) : mg "BadRow" = some (.ref (He.ga K "BadRow")) := by
  obtain ⟨h, X, G, c⟩ := b.ex
  exact He.glo_ok X G (c.fact 0 (f := .he (.glo "BadRow")) rfl)
theorem g_isinstance (b : Bd K mg) : mg "isinstance" = none := by
  obtain ⟨h, X, G, c⟩ := b.ex
  exact He.free_ok X G (c.fact 1 (f := .he (.free "isinstance")) rfl)
theorem n_DayError (b : Bd K mg) : mg "DayError" = some (.ref (He.ga K "DayError")) := by
  obtain ⟨h, X, G, c⟩ := b.ex
  exact He.glo_ok X G (c.fact 2 (f := .he (.glo "DayError")) rfl)
theorem g_range (b : Bd K mg) : mg "range" = none := by
  obtain ⟨h, X, G, c⟩ := b.ex
  exact He.free_ok X G (c.fact 3 (f := .he (.free "range")) rfl)
theorem g_bool (b : Bd K mg) : mg "bool" = none := by
  obtain ⟨h, X, G, c⟩ := b.ex
  exact He.free_ok X G (c.fact 4 (f := .he (.free "bool")) rfl)
theorem g_int (b : Bd K mg) : mg "int" = none := by
  obtain ⟨h, X, G, c⟩ := b.ex
  exact He.free_ok X G (c.fact 5 (f := .he (.free "int")) rfl)
theorem n_is_integer (b : Bd K mg) : mg "is_integer" = some (.ref (He.ga K "is_integer")) := by
  obtain ⟨h, X, G, c⟩ := b.ex
  exact He.glo_ok X G (c.fact 6 (f := .he (.glo "is_integer")) rfl)
theorem n_is_within (b : Bd K mg) : mg "is_within" = some (.ref (He.ga K "is_within")) := by
  obtain ⟨h, X, G, c⟩ := b.ex
  exact He.glo_ok X G (c.fact 7 (f := .he (.glo "is_within")) rfl)
theorem n_Row (b : Bd K mg) : mg "Row" = some (.ref (He.ga K "Row")) := by
  obtain ⟨h, X, G, c⟩ := b.ex
  exact He.glo_ok X G (c.fact 8 (f := .he (.glo "Row")) rfl)
theorem xcl_BadRow (b : Bd K mg) : XMk K (He.ga K "BadRow") ["part"] ∧ ExcC K (He.ga K "BadRow") ∧ XfC K (He.ga K "BadRow") ∧ PySem.W.exmOne K (.ref (He.ga K "BadRow")) (.ref (He.ga K "DayError")) = some true := by
  obtain ⟨h, X, G, c⟩ := b.ex
  exact xcl_ok (c.fact 9 (f := .xcl "BadRow" ["part"] "DayError") rfl)
theorem xin_BadRow (b : Bd K mg) : PySem.W.findIn K (.ref (He.ga K "BadRow")) "__init__" = some (some (.ref (ad K (.meth "BadRow" "__init__")))) ∧ PySem.W.typeIn K (.ref (ad K (.meth "BadRow" "__init__"))) = some (.type "function") := by
  obtain ⟨h, X, G, c⟩ := b.ex
  exact xin_ok (c.fact 10 (f := .xin "BadRow" "BadRow") rfl)
theorem n_need_row (b : Bd K mg) : mg "need_row" = some (.ref (He.ga K "need_row")) := by
  obtain ⟨h, X, G, c⟩ := b.ex
  exact He.glo_ok X G (c.fact 11 (f := .he (.glo "need_row")) rfl)
theorem cl_Rule (b : Bd K mg) : Cls K (He.ga K "Rule") := by
  obtain ⟨h, X, G, c⟩ := b.ex
  exact He.cls_ok (c.fact 12 (f := .he (.cls "Rule")) rfl)
theorem me_Rule_first_broken (b : Bd K mg) : Meth K (He.ga K "Rule") "first_broken" (ad K (.meth "Rule" "first_broken")) := by
  obtain ⟨h, X, G, c⟩ := b.ex
  exact He.meth_ok (c.fact 13 (f := .he (.meth "Rule" "first_broken")) rfl)
theorem tnd (b : Bd K mg) : (mkrs.map fun m => (He.cT K (m, none)).2).Nodup := by
  obtain ⟨h, X, G, c⟩ := b.ex
  exact of_decide_eq_true (c.fact 14 (f := .tdf mkrs) rfl)
theorem n_law_heard (b : Bd K mg) : mg "_law_heard" = some (.ref (He.ga K "_law_heard")) := by
  obtain ⟨h, X, G, c⟩ := b.ex
  exact He.glo_ok X G (c.fact 15 (f := .he (.glo "_law_heard")) rfl)
theorem me_Rule_keeps (b : Bd K mg) : Meth K (He.ga K "Rule") "keeps" (ad K (.meth "Rule" "keeps")) := by
  obtain ⟨h, X, G, c⟩ := b.ex
  exact He.meth_ok (c.fact 16 (f := .he (.meth "Rule" "keeps")) rfl)
theorem g_abs (b : Bd K mg) : mg "abs" = none := by
  obtain ⟨h, X, G, c⟩ := b.ex
  exact He.free_ok X G (c.fact 17 (f := .he (.free "abs")) rfl)
theorem g_len (b : Bd K mg) : mg "len" = none := by
  obtain ⟨h, X, G, c⟩ := b.ex
  exact He.free_ok X G (c.fact 18 (f := .he (.free "len")) rfl)
theorem n_law_draw (b : Bd K mg) : mg "_law_draw" = some (.ref (He.ga K "_law_draw")) := by
  obtain ⟨h, X, G, c⟩ := b.ex
  exact He.glo_ok X G (c.fact 19 (f := .he (.glo "_law_draw")) rfl)
theorem g_str (b : Bd K mg) : mg "str" = none := by
  obtain ⟨h, X, G, c⟩ := b.ex
  exact He.free_ok X G (c.fact 20 (f := .he (.free "str")) rfl)
theorem g_tuple (b : Bd K mg) : mg "tuple" = none := by
  obtain ⟨h, X, G, c⟩ := b.ex
  exact He.free_ok X G (c.fact 21 (f := .he (.free "tuple")) rfl)
theorem n_law_of (b : Bd K mg) : mg "_law_of" = some (.ref (He.ga K "_law_of")) := by
  obtain ⟨h, X, G, c⟩ := b.ex
  exact He.glo_ok X G (c.fact 22 (f := .he (.glo "_law_of")) rfl)
theorem na_Rule_high (b : Bd K mg) : NoAttr K (He.ga K "Rule") "high" := by
  obtain ⟨h, X, G, c⟩ := b.ex
  exact He.noat_ok (c.fact 23 (f := .he (.noat "Rule" "high")) rfl)
theorem na_Rule_low (b : Bd K mg) : NoAttr K (He.ga K "Rule") "low" := by
  obtain ⟨h, X, G, c⟩ := b.ex
  exact He.noat_ok (c.fact 24 (f := .he (.noat "Rule" "low")) rfl)
theorem na_Rule_length (b : Bd K mg) : NoAttr K (He.ga K "Rule") "length" := by
  obtain ⟨h, X, G, c⟩ := b.ex
  exact He.noat_ok (c.fact 25 (f := .he (.noat "Rule" "length")) rfl)
theorem n_are_bounds (b : Bd K mg) : mg "are_bounds" = some (.ref (He.ga K "are_bounds")) := by
  obtain ⟨h, X, G, c⟩ := b.ex
  exact He.glo_ok X G (c.fact 26 (f := .he (.glo "are_bounds")) rfl)
theorem xcl_BadRule (b : Bd K mg) : XMk K (He.ga K "BadRule") ["part"] ∧ ExcC K (He.ga K "BadRule") ∧ XfC K (He.ga K "BadRule") ∧ PySem.W.exmOne K (.ref (He.ga K "BadRule")) (.ref (He.ga K "DayError")) = some true := by
  obtain ⟨h, X, G, c⟩ := b.ex
  exact xcl_ok (c.fact 27 (f := .xcl "BadRule" ["part"] "DayError") rfl)
theorem xin_BadRule (b : Bd K mg) : PySem.W.findIn K (.ref (He.ga K "BadRule")) "__init__" = some (some (.ref (ad K (.meth "BadRule" "__init__")))) ∧ PySem.W.typeIn K (.ref (ad K (.meth "BadRule" "__init__"))) = some (.type "function") := by
  obtain ⟨h, X, G, c⟩ := b.ex
  exact xin_ok (c.fact 28 (f := .xin "BadRule" "BadRule") rfl)
theorem n_BadRule (b : Bd K mg) : mg "BadRule" = some (.ref (He.ga K "BadRule")) := by
  obtain ⟨h, X, G, c⟩ := b.ex
  exact He.glo_ok X G (c.fact 29 (f := .he (.glo "BadRule")) rfl)
theorem xcl_BadNumber (b : Bd K mg) : XMk K (He.ga K "BadNumber") ["part"] ∧ ExcC K (He.ga K "BadNumber") ∧ XfC K (He.ga K "BadNumber") ∧ PySem.W.exmOne K (.ref (He.ga K "BadNumber")) (.ref (He.ga K "DayError")) = some true := by
  obtain ⟨h, X, G, c⟩ := b.ex
  exact xcl_ok (c.fact 30 (f := .xcl "BadNumber" ["part"] "DayError") rfl)
theorem xin_BadNumber (b : Bd K mg) : PySem.W.findIn K (.ref (He.ga K "BadNumber")) "__init__" = some (some (.ref (ad K (.meth "BadNumber" "__init__")))) ∧ PySem.W.typeIn K (.ref (ad K (.meth "BadNumber" "__init__"))) = some (.type "function") := by
  obtain ⟨h, X, G, c⟩ := b.ex
  exact xin_ok (c.fact 31 (f := .xin "BadNumber" "BadNumber") rfl)
theorem n_BadNumber (b : Bd K mg) : mg "BadNumber" = some (.ref (He.ga K "BadNumber")) := by
  obtain ⟨h, X, G, c⟩ := b.ex
  exact He.glo_ok X G (c.fact 32 (f := .he (.glo "BadNumber")) rfl)
theorem n_need_bound (b : Bd K mg) : mg "need_bound" = some (.ref (He.ga K "need_bound")) := by
  obtain ⟨h, X, G, c⟩ := b.ex
  exact He.glo_ok X G (c.fact 33 (f := .he (.glo "need_bound")) rfl)
theorem k_MOST_LENGTH (b : Bd K mg) : ∃ t, mg "MOST_LENGTH" = some (.int (48) t) := by
  obtain ⟨h, X, G, c⟩ := b.ex
  exact He.int_ok X G (c.fact 34 (f := .he (.int "MOST_LENGTH" (48))) rfl)
theorem n_need_number (b : Bd K mg) : mg "need_number" = some (.ref (He.ga K "need_number")) := by
  obtain ⟨h, X, G, c⟩ := b.ex
  exact He.glo_ok X G (c.fact 35 (f := .he (.glo "need_number")) rfl)
theorem n_law_number (b : Bd K mg) : mg "_law_number" = some (.ref (He.ga K "_law_number")) := by
  obtain ⟨h, X, G, c⟩ := b.ex
  exact He.glo_ok X G (c.fact 36 (f := .he (.glo "_law_number")) rfl)
theorem ty_Rule (b : Bd K mg) : Tyi K (He.ga K "Rule") := by
  obtain ⟨h, X, G, c⟩ := b.ex
  exact tyi_ok (c.fact 12 (f := .he (.cls "Rule")) rfl) (c.fact 37 (f := .tyi "Rule") rfl)
theorem mk_Rule (b : Bd K mg) : Mk K (He.ga K "Rule") (ad K (.meth "Rule" "__init__")) := by
  obtain ⟨h, X, G, c⟩ := b.ex
  exact He.mkr_ok (c.fact 38 (f := .he (.mkr "Rule")) rfl)
theorem n_Rule (b : Bd K mg) : mg "Rule" = some (.ref (He.ga K "Rule")) := by
  obtain ⟨h, X, G, c⟩ := b.ex
  exact He.glo_ok X G (c.fact 39 (f := .he (.glo "Rule")) rfl)
theorem n_law_refused_right (b : Bd K mg) : mg "_law_refused_right" = some (.ref (He.ga K "_law_refused_right")) := by
  obtain ⟨h, X, G, c⟩ := b.ex
  exact He.glo_ok X G (c.fact 40 (f := .he (.glo "_law_refused_right")) rfl)
theorem na_Row_total (b : Bd K mg) : NoAttr K (He.ga K "Row") "total" := by
  obtain ⟨h, X, G, c⟩ := b.ex
  exact He.noat_ok (c.fact 41 (f := .he (.noat "Row" "total")) rfl)
theorem na_Row_days (b : Bd K mg) : NoAttr K (He.ga K "Row") "days" := by
  obtain ⟨h, X, G, c⟩ := b.ex
  exact He.noat_ok (c.fact 42 (f := .he (.noat "Row" "days")) rfl)
theorem n_heights_of (b : Bd K mg) : mg "heights_of" = some (.ref (He.ga K "heights_of")) := by
  obtain ⟨h, X, G, c⟩ := b.ex
  exact He.glo_ok X G (c.fact 43 (f := .he (.glo "heights_of")) rfl)
theorem na_Row_heights (b : Bd K mg) : NoAttr K (He.ga K "Row") "heights" := by
  obtain ⟨h, X, G, c⟩ := b.ex
  exact He.noat_ok (c.fact 44 (f := .he (.noat "Row" "heights")) rfl)
theorem na_Row_gains (b : Bd K mg) : NoAttr K (He.ga K "Row") "gains" := by
  obtain ⟨h, X, G, c⟩ := b.ex
  exact He.noat_ok (c.fact 45 (f := .he (.noat "Row" "gains")) rfl)
theorem k_MOST_DAYS (b : Bd K mg) : ∃ t, mg "MOST_DAYS" = some (.int (48) t) := by
  obtain ⟨h, X, G, c⟩ := b.ex
  exact He.int_ok X G (c.fact 46 (f := .he (.int "MOST_DAYS" (48))) rfl)
theorem xcl_TooMany (b : Bd K mg) : XMk K (He.ga K "TooMany") ["what", "most"] ∧ ExcC K (He.ga K "TooMany") ∧ XfC K (He.ga K "TooMany") ∧ PySem.W.exmOne K (.ref (He.ga K "TooMany")) (.ref (He.ga K "DayError")) = some true := by
  obtain ⟨h, X, G, c⟩ := b.ex
  exact xcl_ok (c.fact 47 (f := .xcl "TooMany" ["what", "most"] "DayError") rfl)
theorem xin_TooMany (b : Bd K mg) : PySem.W.findIn K (.ref (He.ga K "TooMany")) "__init__" = some (some (.ref (ad K (.meth "TooMany" "__init__")))) ∧ PySem.W.typeIn K (.ref (ad K (.meth "TooMany" "__init__"))) = some (.type "function") := by
  obtain ⟨h, X, G, c⟩ := b.ex
  exact xin_ok (c.fact 48 (f := .xin "TooMany" "TooMany") rfl)
theorem n_TooMany (b : Bd K mg) : mg "TooMany" = some (.ref (He.ga K "TooMany")) := by
  obtain ⟨h, X, G, c⟩ := b.ex
  exact He.glo_ok X G (c.fact 49 (f := .he (.glo "TooMany")) rfl)
theorem g_all (b : Bd K mg) : mg "all" = none := by
  obtain ⟨h, X, G, c⟩ := b.ex
  exact He.free_ok X G (c.fact 50 (f := .he (.free "all")) rfl)
theorem g_list (b : Bd K mg) : mg "list" = none := by
  obtain ⟨h, X, G, c⟩ := b.ex
  exact He.free_ok X G (c.fact 51 (f := .he (.free "list")) rfl)
theorem n_are_integers (b : Bd K mg) : mg "are_integers" = some (.ref (He.ga K "are_integers")) := by
  obtain ⟨h, X, G, c⟩ := b.ex
  exact He.glo_ok X G (c.fact 52 (f := .he (.glo "are_integers")) rfl)
theorem cl_Row (b : Bd K mg) : Cls K (He.ga K "Row") := by
  obtain ⟨h, X, G, c⟩ := b.ex
  exact He.cls_ok (c.fact 53 (f := .he (.cls "Row")) rfl)
theorem ty_Row (b : Bd K mg) : Tyi K (He.ga K "Row") := by
  obtain ⟨h, X, G, c⟩ := b.ex
  exact tyi_ok (c.fact 53 (f := .he (.cls "Row")) rfl) (c.fact 54 (f := .tyi "Row") rfl)
theorem mk_Row (b : Bd K mg) : Mk K (He.ga K "Row") (ad K (.meth "Row" "__init__")) := by
  obtain ⟨h, X, G, c⟩ := b.ex
  exact He.mkr_ok (c.fact 55 (f := .he (.mkr "Row")) rfl)
theorem g_max (b : Bd K mg) : mg "max" = none := by
  obtain ⟨h, X, G, c⟩ := b.ex
  exact He.free_ok X G (c.fact 56 (f := .he (.free "max")) rfl)
theorem g_min (b : Bd K mg) : mg "min" = none := by
  obtain ⟨h, X, G, c⟩ := b.ex
  exact He.free_ok X G (c.fact 57 (f := .he (.free "min")) rfl)
theorem n_law_bounds (b : Bd K mg) : mg "_law_bounds" = some (.ref (He.ga K "_law_bounds")) := by
  obtain ⟨h, X, G, c⟩ := b.ex
  exact He.glo_ok X G (c.fact 58 (f := .he (.glo "_law_bounds")) rfl)
theorem g_enumerate (b : Bd K mg) : mg "enumerate" = none := by
  obtain ⟨h, X, G, c⟩ := b.ex
  exact He.free_ok X G (c.fact 59 (f := .he (.free "enumerate")) rfl)
theorem n_law_first (b : Bd K mg) : mg "_law_first" = some (.ref (He.ga K "_law_first")) := by
  obtain ⟨h, X, G, c⟩ := b.ex
  exact He.glo_ok X G (c.fact 60 (f := .he (.glo "_law_first")) rfl)
theorem n_law_says (b : Bd K mg) : mg "_law_says" = some (.ref (He.ga K "_law_says")) := by
  obtain ⟨h, X, G, c⟩ := b.ex
  exact He.glo_ok X G (c.fact 61 (f := .he (.glo "_law_says")) rfl)
theorem g_sum (b : Bd K mg) : mg "sum" = none := by
  obtain ⟨h, X, G, c⟩ := b.ex
  exact He.free_ok X G (c.fact 62 (f := .he (.free "sum")) rfl)
theorem n_law_sums (b : Bd K mg) : mg "_law_sums" = some (.ref (He.ga K "_law_sums")) := by
  obtain ⟨h, X, G, c⟩ := b.ex
  exact He.glo_ok X G (c.fact 63 (f := .he (.glo "_law_sums")) rfl)
theorem n_law_told_right (b : Bd K mg) : mg "_law_told_right" = some (.ref (He.ga K "_law_told_right")) := by
  obtain ⟨h, X, G, c⟩ := b.ex
  exact He.glo_ok X G (c.fact 64 (f := .he (.glo "_law_told_right")) rfl)
theorem n_law_gains (b : Bd K mg) : mg "_law_gains" = some (.ref (He.ga K "_law_gains")) := by
  obtain ⟨h, X, G, c⟩ := b.ex
  exact He.glo_ok X G (c.fact 65 (f := .he (.glo "_law_gains")) rfl)
theorem n_law_pen (b : Bd K mg) : mg "_law_pen" = some (.ref (He.ga K "_law_pen")) := by
  obtain ⟨h, X, G, c⟩ := b.ex
  exact He.glo_ok X G (c.fact 66 (f := .he (.glo "_law_pen")) rfl)
theorem kit_NoneType_Row (b : Bd K mg) : PySem.W.kitOne K (.type "NoneType") (.ref (He.ga K "Row")) = some false := by
  obtain ⟨h, X, G, c⟩ := b.ex
  exact of_decide_eq_true (c.fact 67 (f := .kit "NoneType" "Row" false) rfl)
theorem kit_bool_Row (b : Bd K mg) : PySem.W.kitOne K (.type "bool") (.ref (He.ga K "Row")) = some false := by
  obtain ⟨h, X, G, c⟩ := b.ex
  exact of_decide_eq_true (c.fact 68 (f := .kit "bool" "Row" false) rfl)
theorem kit_int_Row (b : Bd K mg) : PySem.W.kitOne K (.type "int") (.ref (He.ga K "Row")) = some false := by
  obtain ⟨h, X, G, c⟩ := b.ex
  exact of_decide_eq_true (c.fact 69 (f := .kit "int" "Row" false) rfl)
theorem kit_str_Row (b : Bd K mg) : PySem.W.kitOne K (.type "str") (.ref (He.ga K "Row")) = some false := by
  obtain ⟨h, X, G, c⟩ := b.ex
  exact of_decide_eq_true (c.fact 70 (f := .kit "str" "Row" false) rfl)
theorem kit_list_Row (b : Bd K mg) : PySem.W.kitOne K (.type "list") (.ref (He.ga K "Row")) = some false := by
  obtain ⟨h, X, G, c⟩ := b.ex
  exact of_decide_eq_true (c.fact 71 (f := .kit "list" "Row" false) rfl)
theorem kit_tuple_Row (b : Bd K mg) : PySem.W.kitOne K (.type "tuple") (.ref (He.ga K "Row")) = some false := by
  obtain ⟨h, X, G, c⟩ := b.ex
  exact of_decide_eq_true (c.fact 72 (f := .kit "tuple" "Row" false) rfl)
theorem kit_dict_Row (b : Bd K mg) : PySem.W.kitOne K (.type "dict") (.ref (He.ga K "Row")) = some false := by
  obtain ⟨h, X, G, c⟩ := b.ex
  exact of_decide_eq_true (c.fact 73 (f := .kit "dict" "Row" false) rfl)
theorem kitT_Row_NoneType (b : Bd K mg) : PySem.W.kitOne K (.ref (He.ga K "Row")) (.type "NoneType") = some false := by
  obtain ⟨h, X, G, c⟩ := b.ex
  exact of_decide_eq_true (c.fact 74 (f := .kitT "Row" "NoneType" false) rfl)
theorem kitT_Row_bool (b : Bd K mg) : PySem.W.kitOne K (.ref (He.ga K "Row")) (.type "bool") = some false := by
  obtain ⟨h, X, G, c⟩ := b.ex
  exact of_decide_eq_true (c.fact 75 (f := .kitT "Row" "bool" false) rfl)
theorem kitT_Row_int (b : Bd K mg) : PySem.W.kitOne K (.ref (He.ga K "Row")) (.type "int") = some false := by
  obtain ⟨h, X, G, c⟩ := b.ex
  exact of_decide_eq_true (c.fact 76 (f := .kitT "Row" "int" false) rfl)
theorem kitT_Row_str (b : Bd K mg) : PySem.W.kitOne K (.ref (He.ga K "Row")) (.type "str") = some false := by
  obtain ⟨h, X, G, c⟩ := b.ex
  exact of_decide_eq_true (c.fact 77 (f := .kitT "Row" "str" false) rfl)
theorem kitT_Row_list (b : Bd K mg) : PySem.W.kitOne K (.ref (He.ga K "Row")) (.type "list") = some false := by
  obtain ⟨h, X, G, c⟩ := b.ex
  exact of_decide_eq_true (c.fact 78 (f := .kitT "Row" "list" false) rfl)
theorem kitT_Row_tuple (b : Bd K mg) : PySem.W.kitOne K (.ref (He.ga K "Row")) (.type "tuple") = some false := by
  obtain ⟨h, X, G, c⟩ := b.ex
  exact of_decide_eq_true (c.fact 79 (f := .kitT "Row" "tuple" false) rfl)
theorem kitT_Row_dict (b : Bd K mg) : PySem.W.kitOne K (.ref (He.ga K "Row")) (.type "dict") = some false := by
  obtain ⟨h, X, G, c⟩ := b.ex
  exact of_decide_eq_true (c.fact 80 (f := .kitT "Row" "dict" false) rfl)
theorem kitO_Row_Row (b : Bd K mg) : PySem.W.kitOne K (.ref (He.ga K "Row")) (.ref (He.ga K "Row")) = some true := by
  obtain ⟨h, X, G, c⟩ := b.ex
  exact of_decide_eq_true (c.fact 81 (f := .kitO "Row" "Row" true) rfl)
theorem kitO_Row_Rule (b : Bd K mg) : PySem.W.kitOne K (.ref (He.ga K "Row")) (.ref (He.ga K "Rule")) = some false := by
  obtain ⟨h, X, G, c⟩ := b.ex
  exact of_decide_eq_true (c.fact 82 (f := .kitO "Row" "Rule" false) rfl)
theorem kitO_Row_BadRow (b : Bd K mg) : PySem.W.kitOne K (.ref (He.ga K "Row")) (.ref (He.ga K "BadRow")) = some false := by
  obtain ⟨h, X, G, c⟩ := b.ex
  exact of_decide_eq_true (c.fact 83 (f := .kitO "Row" "BadRow" false) rfl)
theorem kitO_Row_BadNumber (b : Bd K mg) : PySem.W.kitOne K (.ref (He.ga K "Row")) (.ref (He.ga K "BadNumber")) = some false := by
  obtain ⟨h, X, G, c⟩ := b.ex
  exact of_decide_eq_true (c.fact 84 (f := .kitO "Row" "BadNumber" false) rfl)
theorem kitO_Row_TooMany (b : Bd K mg) : PySem.W.kitOne K (.ref (He.ga K "Row")) (.ref (He.ga K "TooMany")) = some false := by
  obtain ⟨h, X, G, c⟩ := b.ex
  exact of_decide_eq_true (c.fact 85 (f := .kitO "Row" "TooMany" false) rfl)
theorem kitO_Row_BadRule (b : Bd K mg) : PySem.W.kitOne K (.ref (He.ga K "Row")) (.ref (He.ga K "BadRule")) = some false := by
  obtain ⟨h, X, G, c⟩ := b.ex
  exact of_decide_eq_true (c.fact 86 (f := .kitO "Row" "BadRule" false) rfl)
theorem kit_NoneType_Rule (b : Bd K mg) : PySem.W.kitOne K (.type "NoneType") (.ref (He.ga K "Rule")) = some false := by
  obtain ⟨h, X, G, c⟩ := b.ex
  exact of_decide_eq_true (c.fact 87 (f := .kit "NoneType" "Rule" false) rfl)
theorem kit_bool_Rule (b : Bd K mg) : PySem.W.kitOne K (.type "bool") (.ref (He.ga K "Rule")) = some false := by
  obtain ⟨h, X, G, c⟩ := b.ex
  exact of_decide_eq_true (c.fact 88 (f := .kit "bool" "Rule" false) rfl)
theorem kit_int_Rule (b : Bd K mg) : PySem.W.kitOne K (.type "int") (.ref (He.ga K "Rule")) = some false := by
  obtain ⟨h, X, G, c⟩ := b.ex
  exact of_decide_eq_true (c.fact 89 (f := .kit "int" "Rule" false) rfl)
theorem kit_str_Rule (b : Bd K mg) : PySem.W.kitOne K (.type "str") (.ref (He.ga K "Rule")) = some false := by
  obtain ⟨h, X, G, c⟩ := b.ex
  exact of_decide_eq_true (c.fact 90 (f := .kit "str" "Rule" false) rfl)
theorem kit_list_Rule (b : Bd K mg) : PySem.W.kitOne K (.type "list") (.ref (He.ga K "Rule")) = some false := by
  obtain ⟨h, X, G, c⟩ := b.ex
  exact of_decide_eq_true (c.fact 91 (f := .kit "list" "Rule" false) rfl)
theorem kit_tuple_Rule (b : Bd K mg) : PySem.W.kitOne K (.type "tuple") (.ref (He.ga K "Rule")) = some false := by
  obtain ⟨h, X, G, c⟩ := b.ex
  exact of_decide_eq_true (c.fact 92 (f := .kit "tuple" "Rule" false) rfl)
theorem kit_dict_Rule (b : Bd K mg) : PySem.W.kitOne K (.type "dict") (.ref (He.ga K "Rule")) = some false := by
  obtain ⟨h, X, G, c⟩ := b.ex
  exact of_decide_eq_true (c.fact 93 (f := .kit "dict" "Rule" false) rfl)
theorem kitT_Rule_NoneType (b : Bd K mg) : PySem.W.kitOne K (.ref (He.ga K "Rule")) (.type "NoneType") = some false := by
  obtain ⟨h, X, G, c⟩ := b.ex
  exact of_decide_eq_true (c.fact 94 (f := .kitT "Rule" "NoneType" false) rfl)
theorem kitT_Rule_bool (b : Bd K mg) : PySem.W.kitOne K (.ref (He.ga K "Rule")) (.type "bool") = some false := by
  obtain ⟨h, X, G, c⟩ := b.ex
  exact of_decide_eq_true (c.fact 95 (f := .kitT "Rule" "bool" false) rfl)
theorem kitT_Rule_int (b : Bd K mg) : PySem.W.kitOne K (.ref (He.ga K "Rule")) (.type "int") = some false := by
  obtain ⟨h, X, G, c⟩ := b.ex
  exact of_decide_eq_true (c.fact 96 (f := .kitT "Rule" "int" false) rfl)
theorem kitT_Rule_str (b : Bd K mg) : PySem.W.kitOne K (.ref (He.ga K "Rule")) (.type "str") = some false := by
  obtain ⟨h, X, G, c⟩ := b.ex
  exact of_decide_eq_true (c.fact 97 (f := .kitT "Rule" "str" false) rfl)
theorem kitT_Rule_list (b : Bd K mg) : PySem.W.kitOne K (.ref (He.ga K "Rule")) (.type "list") = some false := by
  obtain ⟨h, X, G, c⟩ := b.ex
  exact of_decide_eq_true (c.fact 98 (f := .kitT "Rule" "list" false) rfl)
theorem kitT_Rule_tuple (b : Bd K mg) : PySem.W.kitOne K (.ref (He.ga K "Rule")) (.type "tuple") = some false := by
  obtain ⟨h, X, G, c⟩ := b.ex
  exact of_decide_eq_true (c.fact 99 (f := .kitT "Rule" "tuple" false) rfl)
theorem kitT_Rule_dict (b : Bd K mg) : PySem.W.kitOne K (.ref (He.ga K "Rule")) (.type "dict") = some false := by
  obtain ⟨h, X, G, c⟩ := b.ex
  exact of_decide_eq_true (c.fact 100 (f := .kitT "Rule" "dict" false) rfl)
theorem kitO_Rule_Row (b : Bd K mg) : PySem.W.kitOne K (.ref (He.ga K "Rule")) (.ref (He.ga K "Row")) = some false := by
  obtain ⟨h, X, G, c⟩ := b.ex
  exact of_decide_eq_true (c.fact 101 (f := .kitO "Rule" "Row" false) rfl)
theorem kitO_Rule_Rule (b : Bd K mg) : PySem.W.kitOne K (.ref (He.ga K "Rule")) (.ref (He.ga K "Rule")) = some true := by
  obtain ⟨h, X, G, c⟩ := b.ex
  exact of_decide_eq_true (c.fact 102 (f := .kitO "Rule" "Rule" true) rfl)
theorem kitO_Rule_BadRow (b : Bd K mg) : PySem.W.kitOne K (.ref (He.ga K "Rule")) (.ref (He.ga K "BadRow")) = some false := by
  obtain ⟨h, X, G, c⟩ := b.ex
  exact of_decide_eq_true (c.fact 103 (f := .kitO "Rule" "BadRow" false) rfl)
theorem kitO_Rule_BadNumber (b : Bd K mg) : PySem.W.kitOne K (.ref (He.ga K "Rule")) (.ref (He.ga K "BadNumber")) = some false := by
  obtain ⟨h, X, G, c⟩ := b.ex
  exact of_decide_eq_true (c.fact 104 (f := .kitO "Rule" "BadNumber" false) rfl)
theorem kitO_Rule_TooMany (b : Bd K mg) : PySem.W.kitOne K (.ref (He.ga K "Rule")) (.ref (He.ga K "TooMany")) = some false := by
  obtain ⟨h, X, G, c⟩ := b.ex
  exact of_decide_eq_true (c.fact 105 (f := .kitO "Rule" "TooMany" false) rfl)
theorem kitO_Rule_BadRule (b : Bd K mg) : PySem.W.kitOne K (.ref (He.ga K "Rule")) (.ref (He.ga K "BadRule")) = some false := by
  obtain ⟨h, X, G, c⟩ := b.ex
  exact of_decide_eq_true (c.fact 106 (f := .kitO "Rule" "BadRule" false) rfl)
theorem kit_NoneType_BadRow (b : Bd K mg) : PySem.W.kitOne K (.type "NoneType") (.ref (He.ga K "BadRow")) = some false := by
  obtain ⟨h, X, G, c⟩ := b.ex
  exact of_decide_eq_true (c.fact 107 (f := .kit "NoneType" "BadRow" false) rfl)
theorem kit_bool_BadRow (b : Bd K mg) : PySem.W.kitOne K (.type "bool") (.ref (He.ga K "BadRow")) = some false := by
  obtain ⟨h, X, G, c⟩ := b.ex
  exact of_decide_eq_true (c.fact 108 (f := .kit "bool" "BadRow" false) rfl)
theorem kit_int_BadRow (b : Bd K mg) : PySem.W.kitOne K (.type "int") (.ref (He.ga K "BadRow")) = some false := by
  obtain ⟨h, X, G, c⟩ := b.ex
  exact of_decide_eq_true (c.fact 109 (f := .kit "int" "BadRow" false) rfl)
theorem kit_str_BadRow (b : Bd K mg) : PySem.W.kitOne K (.type "str") (.ref (He.ga K "BadRow")) = some false := by
  obtain ⟨h, X, G, c⟩ := b.ex
  exact of_decide_eq_true (c.fact 110 (f := .kit "str" "BadRow" false) rfl)
theorem kit_list_BadRow (b : Bd K mg) : PySem.W.kitOne K (.type "list") (.ref (He.ga K "BadRow")) = some false := by
  obtain ⟨h, X, G, c⟩ := b.ex
  exact of_decide_eq_true (c.fact 111 (f := .kit "list" "BadRow" false) rfl)
theorem kit_tuple_BadRow (b : Bd K mg) : PySem.W.kitOne K (.type "tuple") (.ref (He.ga K "BadRow")) = some false := by
  obtain ⟨h, X, G, c⟩ := b.ex
  exact of_decide_eq_true (c.fact 112 (f := .kit "tuple" "BadRow" false) rfl)
theorem kit_dict_BadRow (b : Bd K mg) : PySem.W.kitOne K (.type "dict") (.ref (He.ga K "BadRow")) = some false := by
  obtain ⟨h, X, G, c⟩ := b.ex
  exact of_decide_eq_true (c.fact 113 (f := .kit "dict" "BadRow" false) rfl)
theorem kitT_BadRow_NoneType (b : Bd K mg) : PySem.W.kitOne K (.ref (He.ga K "BadRow")) (.type "NoneType") = some false := by
  obtain ⟨h, X, G, c⟩ := b.ex
  exact of_decide_eq_true (c.fact 114 (f := .kitT "BadRow" "NoneType" false) rfl)
theorem kitT_BadRow_bool (b : Bd K mg) : PySem.W.kitOne K (.ref (He.ga K "BadRow")) (.type "bool") = some false := by
  obtain ⟨h, X, G, c⟩ := b.ex
  exact of_decide_eq_true (c.fact 115 (f := .kitT "BadRow" "bool" false) rfl)
theorem kitT_BadRow_int (b : Bd K mg) : PySem.W.kitOne K (.ref (He.ga K "BadRow")) (.type "int") = some false := by
  obtain ⟨h, X, G, c⟩ := b.ex
  exact of_decide_eq_true (c.fact 116 (f := .kitT "BadRow" "int" false) rfl)
theorem kitT_BadRow_str (b : Bd K mg) : PySem.W.kitOne K (.ref (He.ga K "BadRow")) (.type "str") = some false := by
  obtain ⟨h, X, G, c⟩ := b.ex
  exact of_decide_eq_true (c.fact 117 (f := .kitT "BadRow" "str" false) rfl)
theorem kitT_BadRow_list (b : Bd K mg) : PySem.W.kitOne K (.ref (He.ga K "BadRow")) (.type "list") = some false := by
  obtain ⟨h, X, G, c⟩ := b.ex
  exact of_decide_eq_true (c.fact 118 (f := .kitT "BadRow" "list" false) rfl)
theorem kitT_BadRow_tuple (b : Bd K mg) : PySem.W.kitOne K (.ref (He.ga K "BadRow")) (.type "tuple") = some false := by
  obtain ⟨h, X, G, c⟩ := b.ex
  exact of_decide_eq_true (c.fact 119 (f := .kitT "BadRow" "tuple" false) rfl)
theorem kitT_BadRow_dict (b : Bd K mg) : PySem.W.kitOne K (.ref (He.ga K "BadRow")) (.type "dict") = some false := by
  obtain ⟨h, X, G, c⟩ := b.ex
  exact of_decide_eq_true (c.fact 120 (f := .kitT "BadRow" "dict" false) rfl)
theorem kitO_BadRow_Row (b : Bd K mg) : PySem.W.kitOne K (.ref (He.ga K "BadRow")) (.ref (He.ga K "Row")) = some false := by
  obtain ⟨h, X, G, c⟩ := b.ex
  exact of_decide_eq_true (c.fact 121 (f := .kitO "BadRow" "Row" false) rfl)
theorem kitO_BadRow_Rule (b : Bd K mg) : PySem.W.kitOne K (.ref (He.ga K "BadRow")) (.ref (He.ga K "Rule")) = some false := by
  obtain ⟨h, X, G, c⟩ := b.ex
  exact of_decide_eq_true (c.fact 122 (f := .kitO "BadRow" "Rule" false) rfl)
theorem kitO_BadRow_BadRow (b : Bd K mg) : PySem.W.kitOne K (.ref (He.ga K "BadRow")) (.ref (He.ga K "BadRow")) = some true := by
  obtain ⟨h, X, G, c⟩ := b.ex
  exact of_decide_eq_true (c.fact 123 (f := .kitO "BadRow" "BadRow" true) rfl)
theorem kitO_BadRow_BadNumber (b : Bd K mg) : PySem.W.kitOne K (.ref (He.ga K "BadRow")) (.ref (He.ga K "BadNumber")) = some false := by
  obtain ⟨h, X, G, c⟩ := b.ex
  exact of_decide_eq_true (c.fact 124 (f := .kitO "BadRow" "BadNumber" false) rfl)
theorem kitO_BadRow_TooMany (b : Bd K mg) : PySem.W.kitOne K (.ref (He.ga K "BadRow")) (.ref (He.ga K "TooMany")) = some false := by
  obtain ⟨h, X, G, c⟩ := b.ex
  exact of_decide_eq_true (c.fact 125 (f := .kitO "BadRow" "TooMany" false) rfl)
theorem kitO_BadRow_BadRule (b : Bd K mg) : PySem.W.kitOne K (.ref (He.ga K "BadRow")) (.ref (He.ga K "BadRule")) = some false := by
  obtain ⟨h, X, G, c⟩ := b.ex
  exact of_decide_eq_true (c.fact 126 (f := .kitO "BadRow" "BadRule" false) rfl)
theorem kit_NoneType_BadNumber (b : Bd K mg) : PySem.W.kitOne K (.type "NoneType") (.ref (He.ga K "BadNumber")) = some false := by
  obtain ⟨h, X, G, c⟩ := b.ex
  exact of_decide_eq_true (c.fact 127 (f := .kit "NoneType" "BadNumber" false) rfl)
theorem kit_bool_BadNumber (b : Bd K mg) : PySem.W.kitOne K (.type "bool") (.ref (He.ga K "BadNumber")) = some false := by
  obtain ⟨h, X, G, c⟩ := b.ex
  exact of_decide_eq_true (c.fact 128 (f := .kit "bool" "BadNumber" false) rfl)
theorem kit_int_BadNumber (b : Bd K mg) : PySem.W.kitOne K (.type "int") (.ref (He.ga K "BadNumber")) = some false := by
  obtain ⟨h, X, G, c⟩ := b.ex
  exact of_decide_eq_true (c.fact 129 (f := .kit "int" "BadNumber" false) rfl)
theorem kit_str_BadNumber (b : Bd K mg) : PySem.W.kitOne K (.type "str") (.ref (He.ga K "BadNumber")) = some false := by
  obtain ⟨h, X, G, c⟩ := b.ex
  exact of_decide_eq_true (c.fact 130 (f := .kit "str" "BadNumber" false) rfl)
theorem kit_list_BadNumber (b : Bd K mg) : PySem.W.kitOne K (.type "list") (.ref (He.ga K "BadNumber")) = some false := by
  obtain ⟨h, X, G, c⟩ := b.ex
  exact of_decide_eq_true (c.fact 131 (f := .kit "list" "BadNumber" false) rfl)
theorem kit_tuple_BadNumber (b : Bd K mg) : PySem.W.kitOne K (.type "tuple") (.ref (He.ga K "BadNumber")) = some false := by
  obtain ⟨h, X, G, c⟩ := b.ex
  exact of_decide_eq_true (c.fact 132 (f := .kit "tuple" "BadNumber" false) rfl)
theorem kit_dict_BadNumber (b : Bd K mg) : PySem.W.kitOne K (.type "dict") (.ref (He.ga K "BadNumber")) = some false := by
  obtain ⟨h, X, G, c⟩ := b.ex
  exact of_decide_eq_true (c.fact 133 (f := .kit "dict" "BadNumber" false) rfl)
theorem kitT_BadNumber_NoneType (b : Bd K mg) : PySem.W.kitOne K (.ref (He.ga K "BadNumber")) (.type "NoneType") = some false := by
  obtain ⟨h, X, G, c⟩ := b.ex
  exact of_decide_eq_true (c.fact 134 (f := .kitT "BadNumber" "NoneType" false) rfl)
theorem kitT_BadNumber_bool (b : Bd K mg) : PySem.W.kitOne K (.ref (He.ga K "BadNumber")) (.type "bool") = some false := by
  obtain ⟨h, X, G, c⟩ := b.ex
  exact of_decide_eq_true (c.fact 135 (f := .kitT "BadNumber" "bool" false) rfl)
theorem kitT_BadNumber_int (b : Bd K mg) : PySem.W.kitOne K (.ref (He.ga K "BadNumber")) (.type "int") = some false := by
  obtain ⟨h, X, G, c⟩ := b.ex
  exact of_decide_eq_true (c.fact 136 (f := .kitT "BadNumber" "int" false) rfl)
theorem kitT_BadNumber_str (b : Bd K mg) : PySem.W.kitOne K (.ref (He.ga K "BadNumber")) (.type "str") = some false := by
  obtain ⟨h, X, G, c⟩ := b.ex
  exact of_decide_eq_true (c.fact 137 (f := .kitT "BadNumber" "str" false) rfl)
theorem kitT_BadNumber_list (b : Bd K mg) : PySem.W.kitOne K (.ref (He.ga K "BadNumber")) (.type "list") = some false := by
  obtain ⟨h, X, G, c⟩ := b.ex
  exact of_decide_eq_true (c.fact 138 (f := .kitT "BadNumber" "list" false) rfl)
theorem kitT_BadNumber_tuple (b : Bd K mg) : PySem.W.kitOne K (.ref (He.ga K "BadNumber")) (.type "tuple") = some false := by
  obtain ⟨h, X, G, c⟩ := b.ex
  exact of_decide_eq_true (c.fact 139 (f := .kitT "BadNumber" "tuple" false) rfl)
theorem kitT_BadNumber_dict (b : Bd K mg) : PySem.W.kitOne K (.ref (He.ga K "BadNumber")) (.type "dict") = some false := by
  obtain ⟨h, X, G, c⟩ := b.ex
  exact of_decide_eq_true (c.fact 140 (f := .kitT "BadNumber" "dict" false) rfl)
theorem kitO_BadNumber_Row (b : Bd K mg) : PySem.W.kitOne K (.ref (He.ga K "BadNumber")) (.ref (He.ga K "Row")) = some false := by
  obtain ⟨h, X, G, c⟩ := b.ex
  exact of_decide_eq_true (c.fact 141 (f := .kitO "BadNumber" "Row" false) rfl)
theorem kitO_BadNumber_Rule (b : Bd K mg) : PySem.W.kitOne K (.ref (He.ga K "BadNumber")) (.ref (He.ga K "Rule")) = some false := by
  obtain ⟨h, X, G, c⟩ := b.ex
  exact of_decide_eq_true (c.fact 142 (f := .kitO "BadNumber" "Rule" false) rfl)
theorem kitO_BadNumber_BadRow (b : Bd K mg) : PySem.W.kitOne K (.ref (He.ga K "BadNumber")) (.ref (He.ga K "BadRow")) = some false := by
  obtain ⟨h, X, G, c⟩ := b.ex
  exact of_decide_eq_true (c.fact 143 (f := .kitO "BadNumber" "BadRow" false) rfl)
theorem kitO_BadNumber_BadNumber (b : Bd K mg) : PySem.W.kitOne K (.ref (He.ga K "BadNumber")) (.ref (He.ga K "BadNumber")) = some true := by
  obtain ⟨h, X, G, c⟩ := b.ex
  exact of_decide_eq_true (c.fact 144 (f := .kitO "BadNumber" "BadNumber" true) rfl)
theorem kitO_BadNumber_TooMany (b : Bd K mg) : PySem.W.kitOne K (.ref (He.ga K "BadNumber")) (.ref (He.ga K "TooMany")) = some false := by
  obtain ⟨h, X, G, c⟩ := b.ex
  exact of_decide_eq_true (c.fact 145 (f := .kitO "BadNumber" "TooMany" false) rfl)
theorem kitO_BadNumber_BadRule (b : Bd K mg) : PySem.W.kitOne K (.ref (He.ga K "BadNumber")) (.ref (He.ga K "BadRule")) = some false := by
  obtain ⟨h, X, G, c⟩ := b.ex
  exact of_decide_eq_true (c.fact 146 (f := .kitO "BadNumber" "BadRule" false) rfl)
theorem kit_NoneType_TooMany (b : Bd K mg) : PySem.W.kitOne K (.type "NoneType") (.ref (He.ga K "TooMany")) = some false := by
  obtain ⟨h, X, G, c⟩ := b.ex
  exact of_decide_eq_true (c.fact 147 (f := .kit "NoneType" "TooMany" false) rfl)
theorem kit_bool_TooMany (b : Bd K mg) : PySem.W.kitOne K (.type "bool") (.ref (He.ga K "TooMany")) = some false := by
  obtain ⟨h, X, G, c⟩ := b.ex
  exact of_decide_eq_true (c.fact 148 (f := .kit "bool" "TooMany" false) rfl)
theorem kit_int_TooMany (b : Bd K mg) : PySem.W.kitOne K (.type "int") (.ref (He.ga K "TooMany")) = some false := by
  obtain ⟨h, X, G, c⟩ := b.ex
  exact of_decide_eq_true (c.fact 149 (f := .kit "int" "TooMany" false) rfl)
theorem kit_str_TooMany (b : Bd K mg) : PySem.W.kitOne K (.type "str") (.ref (He.ga K "TooMany")) = some false := by
  obtain ⟨h, X, G, c⟩ := b.ex
  exact of_decide_eq_true (c.fact 150 (f := .kit "str" "TooMany" false) rfl)
theorem kit_list_TooMany (b : Bd K mg) : PySem.W.kitOne K (.type "list") (.ref (He.ga K "TooMany")) = some false := by
  obtain ⟨h, X, G, c⟩ := b.ex
  exact of_decide_eq_true (c.fact 151 (f := .kit "list" "TooMany" false) rfl)
theorem kit_tuple_TooMany (b : Bd K mg) : PySem.W.kitOne K (.type "tuple") (.ref (He.ga K "TooMany")) = some false := by
  obtain ⟨h, X, G, c⟩ := b.ex
  exact of_decide_eq_true (c.fact 152 (f := .kit "tuple" "TooMany" false) rfl)
theorem kit_dict_TooMany (b : Bd K mg) : PySem.W.kitOne K (.type "dict") (.ref (He.ga K "TooMany")) = some false := by
  obtain ⟨h, X, G, c⟩ := b.ex
  exact of_decide_eq_true (c.fact 153 (f := .kit "dict" "TooMany" false) rfl)
theorem kitT_TooMany_NoneType (b : Bd K mg) : PySem.W.kitOne K (.ref (He.ga K "TooMany")) (.type "NoneType") = some false := by
  obtain ⟨h, X, G, c⟩ := b.ex
  exact of_decide_eq_true (c.fact 154 (f := .kitT "TooMany" "NoneType" false) rfl)
theorem kitT_TooMany_bool (b : Bd K mg) : PySem.W.kitOne K (.ref (He.ga K "TooMany")) (.type "bool") = some false := by
  obtain ⟨h, X, G, c⟩ := b.ex
  exact of_decide_eq_true (c.fact 155 (f := .kitT "TooMany" "bool" false) rfl)
theorem kitT_TooMany_int (b : Bd K mg) : PySem.W.kitOne K (.ref (He.ga K "TooMany")) (.type "int") = some false := by
  obtain ⟨h, X, G, c⟩ := b.ex
  exact of_decide_eq_true (c.fact 156 (f := .kitT "TooMany" "int" false) rfl)
theorem kitT_TooMany_str (b : Bd K mg) : PySem.W.kitOne K (.ref (He.ga K "TooMany")) (.type "str") = some false := by
  obtain ⟨h, X, G, c⟩ := b.ex
  exact of_decide_eq_true (c.fact 157 (f := .kitT "TooMany" "str" false) rfl)
theorem kitT_TooMany_list (b : Bd K mg) : PySem.W.kitOne K (.ref (He.ga K "TooMany")) (.type "list") = some false := by
  obtain ⟨h, X, G, c⟩ := b.ex
  exact of_decide_eq_true (c.fact 158 (f := .kitT "TooMany" "list" false) rfl)
theorem kitT_TooMany_tuple (b : Bd K mg) : PySem.W.kitOne K (.ref (He.ga K "TooMany")) (.type "tuple") = some false := by
  obtain ⟨h, X, G, c⟩ := b.ex
  exact of_decide_eq_true (c.fact 159 (f := .kitT "TooMany" "tuple" false) rfl)
theorem kitT_TooMany_dict (b : Bd K mg) : PySem.W.kitOne K (.ref (He.ga K "TooMany")) (.type "dict") = some false := by
  obtain ⟨h, X, G, c⟩ := b.ex
  exact of_decide_eq_true (c.fact 160 (f := .kitT "TooMany" "dict" false) rfl)
theorem kitO_TooMany_Row (b : Bd K mg) : PySem.W.kitOne K (.ref (He.ga K "TooMany")) (.ref (He.ga K "Row")) = some false := by
  obtain ⟨h, X, G, c⟩ := b.ex
  exact of_decide_eq_true (c.fact 161 (f := .kitO "TooMany" "Row" false) rfl)
theorem kitO_TooMany_Rule (b : Bd K mg) : PySem.W.kitOne K (.ref (He.ga K "TooMany")) (.ref (He.ga K "Rule")) = some false := by
  obtain ⟨h, X, G, c⟩ := b.ex
  exact of_decide_eq_true (c.fact 162 (f := .kitO "TooMany" "Rule" false) rfl)
theorem kitO_TooMany_BadRow (b : Bd K mg) : PySem.W.kitOne K (.ref (He.ga K "TooMany")) (.ref (He.ga K "BadRow")) = some false := by
  obtain ⟨h, X, G, c⟩ := b.ex
  exact of_decide_eq_true (c.fact 163 (f := .kitO "TooMany" "BadRow" false) rfl)
theorem kitO_TooMany_BadNumber (b : Bd K mg) : PySem.W.kitOne K (.ref (He.ga K "TooMany")) (.ref (He.ga K "BadNumber")) = some false := by
  obtain ⟨h, X, G, c⟩ := b.ex
  exact of_decide_eq_true (c.fact 164 (f := .kitO "TooMany" "BadNumber" false) rfl)
theorem kitO_TooMany_TooMany (b : Bd K mg) : PySem.W.kitOne K (.ref (He.ga K "TooMany")) (.ref (He.ga K "TooMany")) = some true := by
  obtain ⟨h, X, G, c⟩ := b.ex
  exact of_decide_eq_true (c.fact 165 (f := .kitO "TooMany" "TooMany" true) rfl)
theorem kitO_TooMany_BadRule (b : Bd K mg) : PySem.W.kitOne K (.ref (He.ga K "TooMany")) (.ref (He.ga K "BadRule")) = some false := by
  obtain ⟨h, X, G, c⟩ := b.ex
  exact of_decide_eq_true (c.fact 166 (f := .kitO "TooMany" "BadRule" false) rfl)
theorem kit_NoneType_BadRule (b : Bd K mg) : PySem.W.kitOne K (.type "NoneType") (.ref (He.ga K "BadRule")) = some false := by
  obtain ⟨h, X, G, c⟩ := b.ex
  exact of_decide_eq_true (c.fact 167 (f := .kit "NoneType" "BadRule" false) rfl)
theorem kit_bool_BadRule (b : Bd K mg) : PySem.W.kitOne K (.type "bool") (.ref (He.ga K "BadRule")) = some false := by
  obtain ⟨h, X, G, c⟩ := b.ex
  exact of_decide_eq_true (c.fact 168 (f := .kit "bool" "BadRule" false) rfl)
theorem kit_int_BadRule (b : Bd K mg) : PySem.W.kitOne K (.type "int") (.ref (He.ga K "BadRule")) = some false := by
  obtain ⟨h, X, G, c⟩ := b.ex
  exact of_decide_eq_true (c.fact 169 (f := .kit "int" "BadRule" false) rfl)
theorem kit_str_BadRule (b : Bd K mg) : PySem.W.kitOne K (.type "str") (.ref (He.ga K "BadRule")) = some false := by
  obtain ⟨h, X, G, c⟩ := b.ex
  exact of_decide_eq_true (c.fact 170 (f := .kit "str" "BadRule" false) rfl)
theorem kit_list_BadRule (b : Bd K mg) : PySem.W.kitOne K (.type "list") (.ref (He.ga K "BadRule")) = some false := by
  obtain ⟨h, X, G, c⟩ := b.ex
  exact of_decide_eq_true (c.fact 171 (f := .kit "list" "BadRule" false) rfl)
theorem kit_tuple_BadRule (b : Bd K mg) : PySem.W.kitOne K (.type "tuple") (.ref (He.ga K "BadRule")) = some false := by
  obtain ⟨h, X, G, c⟩ := b.ex
  exact of_decide_eq_true (c.fact 172 (f := .kit "tuple" "BadRule" false) rfl)
theorem kit_dict_BadRule (b : Bd K mg) : PySem.W.kitOne K (.type "dict") (.ref (He.ga K "BadRule")) = some false := by
  obtain ⟨h, X, G, c⟩ := b.ex
  exact of_decide_eq_true (c.fact 173 (f := .kit "dict" "BadRule" false) rfl)
theorem kitT_BadRule_NoneType (b : Bd K mg) : PySem.W.kitOne K (.ref (He.ga K "BadRule")) (.type "NoneType") = some false := by
  obtain ⟨h, X, G, c⟩ := b.ex
  exact of_decide_eq_true (c.fact 174 (f := .kitT "BadRule" "NoneType" false) rfl)
theorem kitT_BadRule_bool (b : Bd K mg) : PySem.W.kitOne K (.ref (He.ga K "BadRule")) (.type "bool") = some false := by
  obtain ⟨h, X, G, c⟩ := b.ex
  exact of_decide_eq_true (c.fact 175 (f := .kitT "BadRule" "bool" false) rfl)
theorem kitT_BadRule_int (b : Bd K mg) : PySem.W.kitOne K (.ref (He.ga K "BadRule")) (.type "int") = some false := by
  obtain ⟨h, X, G, c⟩ := b.ex
  exact of_decide_eq_true (c.fact 176 (f := .kitT "BadRule" "int" false) rfl)
theorem kitT_BadRule_str (b : Bd K mg) : PySem.W.kitOne K (.ref (He.ga K "BadRule")) (.type "str") = some false := by
  obtain ⟨h, X, G, c⟩ := b.ex
  exact of_decide_eq_true (c.fact 177 (f := .kitT "BadRule" "str" false) rfl)
theorem kitT_BadRule_list (b : Bd K mg) : PySem.W.kitOne K (.ref (He.ga K "BadRule")) (.type "list") = some false := by
  obtain ⟨h, X, G, c⟩ := b.ex
  exact of_decide_eq_true (c.fact 178 (f := .kitT "BadRule" "list" false) rfl)
theorem kitT_BadRule_tuple (b : Bd K mg) : PySem.W.kitOne K (.ref (He.ga K "BadRule")) (.type "tuple") = some false := by
  obtain ⟨h, X, G, c⟩ := b.ex
  exact of_decide_eq_true (c.fact 179 (f := .kitT "BadRule" "tuple" false) rfl)
theorem kitT_BadRule_dict (b : Bd K mg) : PySem.W.kitOne K (.ref (He.ga K "BadRule")) (.type "dict") = some false := by
  obtain ⟨h, X, G, c⟩ := b.ex
  exact of_decide_eq_true (c.fact 180 (f := .kitT "BadRule" "dict" false) rfl)
theorem kitO_BadRule_Row (b : Bd K mg) : PySem.W.kitOne K (.ref (He.ga K "BadRule")) (.ref (He.ga K "Row")) = some false := by
  obtain ⟨h, X, G, c⟩ := b.ex
  exact of_decide_eq_true (c.fact 181 (f := .kitO "BadRule" "Row" false) rfl)
theorem kitO_BadRule_Rule (b : Bd K mg) : PySem.W.kitOne K (.ref (He.ga K "BadRule")) (.ref (He.ga K "Rule")) = some false := by
  obtain ⟨h, X, G, c⟩ := b.ex
  exact of_decide_eq_true (c.fact 182 (f := .kitO "BadRule" "Rule" false) rfl)
theorem kitO_BadRule_BadRow (b : Bd K mg) : PySem.W.kitOne K (.ref (He.ga K "BadRule")) (.ref (He.ga K "BadRow")) = some false := by
  obtain ⟨h, X, G, c⟩ := b.ex
  exact of_decide_eq_true (c.fact 183 (f := .kitO "BadRule" "BadRow" false) rfl)
theorem kitO_BadRule_BadNumber (b : Bd K mg) : PySem.W.kitOne K (.ref (He.ga K "BadRule")) (.ref (He.ga K "BadNumber")) = some false := by
  obtain ⟨h, X, G, c⟩ := b.ex
  exact of_decide_eq_true (c.fact 184 (f := .kitO "BadRule" "BadNumber" false) rfl)
theorem kitO_BadRule_TooMany (b : Bd K mg) : PySem.W.kitOne K (.ref (He.ga K "BadRule")) (.ref (He.ga K "TooMany")) = some false := by
  obtain ⟨h, X, G, c⟩ := b.ex
  exact of_decide_eq_true (c.fact 185 (f := .kitO "BadRule" "TooMany" false) rfl)
theorem kitO_BadRule_BadRule (b : Bd K mg) : PySem.W.kitOne K (.ref (He.ga K "BadRule")) (.ref (He.ga K "BadRule")) = some true := by
  obtain ⟨h, X, G, c⟩ := b.ex
  exact of_decide_eq_true (c.fact 186 (f := .kitO "BadRule" "BadRule" true) rfl)
end
abbrev GoodF (P : Program) (w : World) (K : PySem.W.Frag) (mg : Str → Option Value) (base : Heap) (k : Nat) (d : Df) (ps : List Str) (sp : Sp) : Prop := ∃ fd, FnOk P w K mg base C8.CX0 k (ad K d.loc) fd ps sp ∧ FunD K d.name d.qual d.params d.body d.scope (d.dvs.map (He.Dv.v K)) [] (ad K d.loc) fd
abbrev GoodX (P : Program) (w : World) (K : PySem.W.Frag) (mg : Str → Option Value) (base : Heap) (k : Nat) (d : Df) (ps : List Str) (sp : Sp) : Prop := ∃ fd, FnOk P w K mg base (L2.CX P w) k (ad K d.loc) fd ps sp ∧ FunD K d.name d.qual d.params d.body d.scope (d.dvs.map (He.Dv.v K)) [] (ad K d.loc) fd
section
variable {P : Program} {w : World} {K : PySem.W.Frag} {mg : Str → Option Value} {base : Heap}
theorem sc_law_heard : FnScope N_law_heard ["_law_ask"] (defScope st_law_heard) := ⟨rfl, rfl, rfl, by decide +kernel, rfl, by decide +kernel, by decide +kernel⟩
theorem gv_law_heard {X : Cx} (b : Bd X.K X.mg) {g : Addr} {cdg : Value} {q : Str} : LamX.GivesTo X N_law_heard "_law_heard" (defScope st_law_heard) g cdg (defBody st_law_heard) "_law_ask" q (ttH X.K (He.ga X.K "DayError") 2 (N_law_heard).length 1 .non (ts_law_heard X.K X.w) (tr_law_heard X.K X.w) N_law_heard) := by
  have nd : (N_law_heard).Nodup := sc_law_heard.nd
  exact gives_heard (by decide) (fun h => by cases h) nd rfl rfl rfl (n_DayError b) rfl (fun s H => (ps_set (i := 1) nd rfl (Or.inl rfl) pe_non)) (fun s H e => (pss_one (ps_set (i := 1) nd rfl (Or.inl rfl) (pv 2)))) (fun s H => (pss_one (ps_ret (pe_ifExp (pt_truth (pe_callB Px.cg_isiX (by rfl) (g_isinstance b) (by decide +kernel) (pa_cons (pv 1) (pa_cons (pe_glob (by rfl) (n_BadRow b) rfl) pa_nil))) (by intro _; rfl)) (pe_xg (pv 1)) pe_non))))
theorem sc_is_integer : FnScope N_is_integer ["value"] (defScope st_is_integer) := ⟨rfl, rfl, rfl, by decide +kernel, rfl, by decide +kernel, by decide +kernel⟩
theorem ok_is_integer (b : Bd K mg)  : GoodF P w K mg base 1 d_is_integer ["value"] (sp_is_integer K w) := by
  obtain ⟨h, X, G, c⟩ := b.ex
  obtain ⟨fd, F⟩ := c.def_ 1 (d := d_is_integer) rfl
  have nd : (N_is_integer).Nodup := sc_is_integer.nd
  refine ⟨fd, F.ok sc_is_integer (fun vs H Q E h => h.1) (fun cdv A outer s H vs Q E hr h => ⟨t_is_integer K w , PSs.nox ?_, h.2⟩), F⟩
  exact (pss_one (ps_ret (pe_andT (pe_callB cg_isi (by rfl) (g_isinstance b) (by decide +kernel) (pa_cons (pv 0) (pa_cons (pe_bltn (v := .ty "int") (by rfl) (g_int b) (by decide +kernel) rfl) pa_nil))) (pe_one (pe_notT (pe_callB cg_isi (by rfl) (g_isinstance b) (by decide +kernel) (pa_cons (pv 0) (pa_cons (pe_bltn (v := .ty "bool") (by rfl) (g_bool b) (by decide +kernel) rfl) pa_nil))))))))
theorem sc_is_within : FnScope N_is_within ["value", "least", "most"] (defScope st_is_within) := ⟨rfl, rfl, rfl, by decide +kernel, rfl, by decide +kernel, by decide +kernel⟩
theorem ok_is_within (b : Bd K mg) (h_is_integer : GoodF P w K mg base 1 d_is_integer ["value"] (sp_is_integer K w)) : GoodF P w K mg base 2 d_is_within ["value", "least", "most"] (sp_is_within K w) := by
  obtain ⟨_, G_is_integer, F_is_integer⟩ := h_is_integer
  obtain ⟨h, X, G, c⟩ := b.ex
  obtain ⟨fd, F⟩ := c.def_ 2 (d := d_is_within) rfl
  have nd : (N_is_within).Nodup := sc_is_within.nd
  refine ⟨fd, F.ok sc_is_within (fun vs H Q E h => h.1) (fun cdv A outer s H vs Q E hr h => ⟨t_is_within K w , PSs.nox ?_, h.2⟩), F⟩
  exact (pss_cons (ps_if (pt_not (pt_truth (pe_fn G_is_integer (hr.mono (by decide)) (by rfl) (n_is_integer b) F_is_integer.kp (bindsP F_is_integer fun _ _ _ _ _ _ us hl => match us, hl with | [_], _ => rfl) pass0 (pc_p (pa_cons (pv 0) pa_nil))) (by intro _; rfl))) (pss_one (ps_ret pe_bl)) pss_nil)
  (pss_one (ps_ret (pe_andT (pe_orT (pe_cmpR og_is (pv 1) pe_non (nomark _)) (pe_one (pe_cmpR og_le (pv 1) (pv 0) (nomark _)))) (pe_one (pe_orT (pe_cmpR og_is (pv 2) pe_non (nomark _)) (pe_one (pe_cmpR og_le (pv 0) (pv 2) (nomark _)))))))))
theorem sc_BadRow_init : FnScope N_BadRow_init ["self", "part"] (defScope st_BadRow_init) := ⟨rfl, rfl, rfl, by decide +kernel, rfl, by decide +kernel, by decide +kernel⟩
theorem ok_BadRow_init (b : Bd K mg) : GoodF P w K mg base 1 d_BadRow_init ["self", "part"] (spX K ["part"]) := by
  obtain ⟨h, X, G, c⟩ := b.ex
  obtain ⟨fd, F⟩ := c.def_ 3 (d := d_BadRow_init) rfl
  have nd : (N_BadRow_init).Nodup := sc_BadRow_init.nd
  exact ⟨fd, F.ok sc_BadRow_init (fun vs H Q E h => spX_len h) (fun cdv A outer s H vs Q E hr h => ⟨_, PSs.nox (pss_one (ps_ost (pv 0) (pv 1))), spX_1 h⟩), F⟩
theorem sc_need_row : FnScope N_need_row ["value", "part"] (defScope st_need_row) := ⟨rfl, rfl, rfl, by decide +kernel, rfl, by decide +kernel, by decide +kernel⟩
theorem ok_need_row (b : Bd K mg) (h_BadRow_init : GoodF P w K mg base 1 d_BadRow_init ["self", "part"] (spX K ["part"])) : GoodX P w K mg base 3 d_need_row ["value", "part"] (sp_need_row K w) := by
  obtain ⟨_, G_BadRow_init, F_BadRow_init⟩ := h_BadRow_init
  obtain ⟨h, X, G, c⟩ := b.ex
  obtain ⟨fd, F⟩ := c.def_ 4 (d := d_need_row) rfl
  have nd : (N_need_row).Nodup := sc_need_row.nd
  refine ⟨fd, F.ok sc_need_row (fun vs H Q E h => h.1) (fun cdv A outer s H vs Q E hr h => ⟨t_need_row K w E, ?_, h.2⟩), F⟩
  exact (pss_one (ps_if (pt_not (pt_truth (pe_callB cg_isi (by rfl) (g_isinstance b) (by decide +kernel) (pa_cons (pv 0) (pa_cons (pe_glob (by rfl) (n_Row b) rfl) pa_nil))) (by intro _; rfl))) (pss_one (ps_raiseX (fl := ["part"]) (xcl_BadRow b).1.o (xin_BadRow b).1 (xin_BadRow b).2 G_BadRow_init (hr.mono (by decide)) (bindsD F_BadRow_init fun _ _ _ _ _ _ us hl => match us, hl with | [_, _], _ => rfl) (by rfl) (n_BadRow b) (pa_cons (pv 1) pa_nil) rfl (takes_of rfl rfl rfl rfl))) pss_nil))
theorem sc_Rule_first_broken : FnScope N_Rule_first_broken ["self", "row"] (defScope st_Rule_first_broken) := ⟨rfl, rfl, rfl, by decide +kernel, rfl, by decide +kernel, by decide +kernel⟩
theorem ok_Rule_first_broken (b : Bd K mg) (h_is_within : GoodF P w K mg base 2 d_is_within ["value", "least", "most"] (sp_is_within K w)) (h_need_row : GoodX P w K mg base 3 d_need_row ["value", "part"] (sp_need_row K w)) : GoodX P w K mg base 4 d_Rule_first_broken ["self", "row"] (sp_Rule_first_broken K w) := by
  obtain ⟨_, G_is_within, F_is_within⟩ := h_is_within
  obtain ⟨_, G_need_row, F_need_row⟩ := h_need_row
  obtain ⟨h, X, G, c⟩ := b.ex
  obtain ⟨fd, F⟩ := c.def_ 5 (d := d_Rule_first_broken) rfl
  have nd : (N_Rule_first_broken).Nodup := sc_Rule_first_broken.nd
  refine ⟨fd, F.ok sc_Rule_first_broken (fun vs H Q E h => h.1) (fun cdv A outer s H vs Q E hr h => ⟨t_Rule_first_broken K w E, ?_, h.2⟩), F⟩
  exact (pss_cons (ps_expr (pe_fn G_need_row (hr.mono (by decide)) (by rfl) (n_need_row b) F_need_row.kp (bindsP F_need_row fun _ _ _ _ _ _ us hl => match us, hl with | [_, _], _ => rfl) (passes_call (takes_of rfl rfl rfl rfl) fun _ _ _ _ h => h) (pc_p (pa_cons (pv 1) (pa_cons pe_str pa_nil)))))
  (pss_cons (ps_for (passes_of rfl) rfl (pi_range1 (by rfl) (g_range b) (pa_cons (pe_op og_add (pe_op og_sub (pe_fld (pv 1) rfl) (pe_fld (pv 0) rfl)) pe_int) pa_nil)) (pg_name (i := 2) nd rfl (Or.inl rfl)) (pss_one (ps_if (pt_not (pt_truth (pe_fn G_is_within (hr.mono (by decide)) (by rfl) (n_is_within b) F_is_within.kp (bindsP F_is_within fun _ _ _ _ _ _ us hl => match us, hl with | [_, _, _], _ => rfl) pass0 (pc_p (pa_cons (pe_op og_sub (pe_ix ix_seq (pe_fld (pv 1) rfl) (pe_op og_add (pv 2) (pe_fld (pv 0) rfl)) (fun _ _ => rfl)) (pe_ix ix_seq (pe_fld (pv 1) rfl) (pv 2) (fun _ _ => rfl))) (pa_cons (pe_fld (pv 0) rfl) (pa_cons (pe_fld (pv 0) rfl) pa_nil))))) (by intro _; rfl))) (pss_one (ps_ret (pv 2))) pss_nil)))
  (pss_one (ps_ret pe_non))))
theorem sc_Rule_keeps : FnScope N_Rule_keeps ["self", "row"] (defScope st_Rule_keeps) := ⟨rfl, rfl, rfl, by decide +kernel, rfl, by decide +kernel, by decide +kernel⟩
theorem ok_Rule_keeps (b : Bd K mg) (h_Rule_first_broken : GoodX P w K mg base 4 d_Rule_first_broken ["self", "row"] (sp_Rule_first_broken K w)) : GoodX P w K mg base 5 d_Rule_keeps ["self", "row"] (sp_Rule_keeps K w) := by
  obtain ⟨_, G_Rule_first_broken, F_Rule_first_broken⟩ := h_Rule_first_broken
  obtain ⟨h, X, G, c⟩ := b.ex
  obtain ⟨fd, F⟩ := c.def_ 6 (d := d_Rule_keeps) rfl
  have nd : (N_Rule_keeps).Nodup := sc_Rule_keeps.nd
  refine ⟨fd, F.ok sc_Rule_keeps (fun vs H Q E h => h.1) (fun cdv A outer s H vs Q E hr h => ⟨t_Rule_keeps K w E, ?_, h.2⟩), F⟩
  exact (pss_one (ps_ret (pe_cmpR og_is (pe_mt (pv 0) (cl_Rule b) (me_Rule_first_broken b) G_Rule_first_broken (hr.mono (by decide)) (bindsP F_Rule_first_broken fun _ _ _ _ _ _ us hl => match us, hl with | [_, _], _ => rfl) (passes_call (takes_of rfl rfl rfl rfl) fun _ _ _ _ h => h) (pc_p (pa_cons (pv 1) pa_nil))) pe_non (nomark _))))
theorem sc_law_draw : FnScope N_law_draw ["_law_pen_here", "_law_many"] (defScope st_law_draw) := ⟨rfl, rfl, rfl, by decide +kernel, rfl, by decide +kernel, by decide +kernel⟩
theorem ok_law_draw (b : Bd K mg)  : GoodF P w K mg base 1 d_law_draw ["_law_pen_here", "_law_many"] (sp_law_draw K w) := by
  obtain ⟨h, X, G, c⟩ := b.ex
  obtain ⟨fd, F⟩ := c.def_ 7 (d := d_law_draw) rfl
  have nd : (N_law_draw).Nodup := sc_law_draw.nd
  refine ⟨fd, F.ok sc_law_draw (fun vs H Q E h => h.1) (fun cdv A outer s H vs Q E hr h => ⟨t_law_draw K w , PSs.nox ?_, h.2⟩), F⟩
  exact (pss_cons (ps_if (pt_cmpR og_gt (pe_ix ix_seq (pv 0) pe_int (fun _ _ => rfl)) pe_int (nomark _)) (pss_cons (ps_set (i := 2) nd rfl (Or.inl rfl) (pe_ix ix_seq (pv 0) pe_int (fun _ _ => rfl)))
  (pss_cons (ps_asg (pe_op og_fd (pe_callTy cg_int (by rfl) (g_int b) boot_int (pa_cons (pv 2) pa_nil)) (pv 1)) (pg_sub (pv 0) pe_int set_list))
  (pss_one (ps_ret (pe_op og_md (pe_callTy cg_int (by rfl) (g_int b) boot_int (pa_cons (pv 2) pa_nil)) (pv 1)))))) pss_nil)
  (pss_cons (ps_set (i := 3) nd rfl (Or.inl rfl) (pe_ix ix_seq (pv 0) pe_int (fun _ _ => rfl)))
  (pss_cons (ps_asg (pe_op og_add (pv 3) pe_int) (pg_sub (pv 0) pe_int set_list))
  (pss_cons (ps_set (i := 4) nd rfl (Or.inl rfl) (pe_op og_add (pe_op og_mulT pe_int (pv 3)) pe_int))
  (pss_cons (ps_if (pt_cmpR (og_ne hr.units) (pe_ix ix_seq (pv 0) pe_int (fun _ _ => rfl)) (pe_lst pa_nil) (nomark _)) (pss_one (ps_set (i := 4) nd rfl (Or.inl rfl) (pe_ix ix_seq (pe_ix ix_seq (pv 0) pe_int (fun _ _ => rfl)) (pe_op og_md (pe_callTy cg_int (by rfl) (g_int b) boot_int (pa_cons (pv 3) pa_nil)) (pe_callB cg_len (by rfl) (g_len b) boot_len (pa_cons (pe_ix ix_seq (pv 0) pe_int (fun _ _ => rfl)) pa_nil))) (fun _ _ => rfl)))) pss_nil)
  (pss_cons (ps_if (PW.pt (pw_and (pt_cmpR (og_lt hr.units0) (pv 3) (pe_callB cg_len (by rfl) (g_len b) boot_len (pa_cons (pe_ix ix_seq (pv 0) pe_int (fun _ _ => rfl)) pa_nil)) (nomark _)) (pw_and1 (pt_cmpR og_ge (pe_callB cg_abs (by rfl) (g_abs b) (by decide +kernel) (pa_cons (pv 4) pa_nil)) (pe_op og_pw pe_int pe_int) (nomark _))))) (pss_cons (ps_set (i := 2) nd rfl (Or.inl rfl) (pe_op og_add (pe_op og_mulT pe_int (pe_op og_sub (pe_callB cg_abs (by rfl) (g_abs b) (by decide +kernel) (pa_cons (pv 4) pa_nil)) (pe_op og_pw pe_int pe_int))) (pe_callTy cg_int (by rfl) (g_int b) boot_int (pa_cons (pe_cmpR (og_lt hr.units0) (pv 4) pe_int (nomark _)) pa_nil))))
  (pss_cons (ps_asg (pe_op og_fd (pe_callTy cg_int (by rfl) (g_int b) boot_int (pa_cons (pv 2) pa_nil)) (pv 1)) (pg_sub (pv 0) pe_int set_list))
  (pss_one (ps_ret (pe_op og_md (pe_callTy cg_int (by rfl) (g_int b) boot_int (pa_cons (pv 2) pa_nil)) (pv 1)))))) pss_nil)
  (pss_cons (ps_set (i := 5) nd rfl (Or.inl rfl) (pe_op og_md (pe_callTy cg_int (by rfl) (g_int b) boot_int (pa_cons (pe_op og_pw (pe_op og_add (pe_op og_add (pe_op og_md (pe_callTy cg_int (by rfl) (g_int b) boot_int (pa_cons (pv 4) pa_nil)) pe_int) (pe_op og_mulT pe_int (pv 3))) pe_int) pe_int) pa_nil)) pe_int))
  (pss_cons (ps_set (i := 5) nd rfl (Or.inl rfl) (pe_op og_md (pe_callTy cg_int (by rfl) (g_int b) boot_int (pa_cons (pe_op og_pw (pe_op og_add (pe_op og_add (pe_op og_mulT (pv 5) (pe_op og_add (pe_op og_mulT pe_int (pv 3)) pe_int)) (pe_op og_mulT (pe_op og_mulT pe_int (pv 3)) (pv 3))) pe_int) pe_int) pa_nil)) pe_int))
  (pss_one (ps_ret (pe_op og_md (pe_callTy cg_int (by rfl) (g_int b) boot_int (pa_cons (pe_op og_fd (pv 5) pe_int) pa_nil)) (pv 1))))))))))))
theorem sc_law_of : FnScope N_law_of ["_law_pen_here", "_law_some"] (defScope st_law_of) := ⟨rfl, rfl, rfl, by decide +kernel, rfl, by decide +kernel, by decide +kernel⟩
theorem ok_law_of (b : Bd K mg) (h_law_draw : GoodF P w K mg base 1 d_law_draw ["_law_pen_here", "_law_many"] (sp_law_draw K w)) : GoodF P w K mg base 2 d_law_of ["_law_pen_here", "_law_some"] (sp_law_of K w) := by
  obtain ⟨_, G_law_draw, F_law_draw⟩ := h_law_draw
  obtain ⟨h, X, G, c⟩ := b.ex
  obtain ⟨fd, F⟩ := c.def_ 8 (d := d_law_of) rfl
  have nd : (N_law_of).Nodup := sc_law_of.nd
  refine ⟨fd, F.ok sc_law_of (fun vs H Q E h => h.1) (fun cdv A outer s H vs Q E hr h => ⟨t_law_of K w , PSs.nox ?_, h.2⟩), F⟩
  exact (pss_one (ps_ret (pe_ix ix_seq (pv 1) (pe_fn G_law_draw (hr.mono (by decide)) (by rfl) (n_law_draw b) F_law_draw.kp (bindsP F_law_draw fun _ _ _ _ _ _ us hl => match us, hl with | [_, _], _ => rfl) pass0 (pc_p (pa_cons (pv 0) (pa_cons (pe_callB cg_len (by rfl) (g_len b) boot_len (pa_cons (pv 1) pa_nil)) pa_nil)))) (fun _ _ => rfl))))
theorem sc_are_bounds : FnScope N_are_bounds ["low", "high"] (defScope st_are_bounds) := ⟨rfl, rfl, rfl, by decide +kernel, rfl, by decide +kernel, by decide +kernel⟩
theorem ok_are_bounds (b : Bd K mg)  : GoodF P w K mg base 1 d_are_bounds ["low", "high"] (sp_are_bounds K w) := by
  obtain ⟨h, X, G, c⟩ := b.ex
  obtain ⟨fd, F⟩ := c.def_ 9 (d := d_are_bounds) rfl
  have nd : (N_are_bounds).Nodup := sc_are_bounds.nd
  refine ⟨fd, F.ok sc_are_bounds (fun vs H Q E h => h.1) (fun cdv A outer s H vs Q E hr h => ⟨t_are_bounds K w , PSs.nox ?_, h.2⟩), F⟩
  exact (pss_cons (ps_if (PW.pt (pw_or (pt_cmpR og_is (pv 0) pe_non (nomark _)) (pw_or1 (pt_cmpR og_is (pv 1) pe_non (nomark _))))) (pss_one (ps_ret (pe_orT (pe_cmpR og_isn (pv 0) pe_non (nomark _)) (pe_one (pe_cmpR og_isn (pv 1) pe_non (nomark _)))))) pss_nil)
  (pss_one (ps_ret (pe_cmpR og_le (pv 0) (pv 1) (nomark _)))))
theorem sc_BadRule_init : FnScope N_BadRule_init ["self", "part"] (defScope st_BadRule_init) := ⟨rfl, rfl, rfl, by decide +kernel, rfl, by decide +kernel, by decide +kernel⟩
theorem ok_BadRule_init (b : Bd K mg) : GoodF P w K mg base 1 d_BadRule_init ["self", "part"] (spX K ["part"]) := by
  obtain ⟨h, X, G, c⟩ := b.ex
  obtain ⟨fd, F⟩ := c.def_ 10 (d := d_BadRule_init) rfl
  have nd : (N_BadRule_init).Nodup := sc_BadRule_init.nd
  exact ⟨fd, F.ok sc_BadRule_init (fun vs H Q E h => spX_len h) (fun cdv A outer s H vs Q E hr h => ⟨_, PSs.nox (pss_one (ps_ost (pv 0) (pv 1))), spX_1 h⟩), F⟩
theorem sc_BadNumber_init : FnScope N_BadNumber_init ["self", "part"] (defScope st_BadNumber_init) := ⟨rfl, rfl, rfl, by decide +kernel, rfl, by decide +kernel, by decide +kernel⟩
theorem ok_BadNumber_init (b : Bd K mg) : GoodF P w K mg base 1 d_BadNumber_init ["self", "part"] (spX K ["part"]) := by
  obtain ⟨h, X, G, c⟩ := b.ex
  obtain ⟨fd, F⟩ := c.def_ 11 (d := d_BadNumber_init) rfl
  have nd : (N_BadNumber_init).Nodup := sc_BadNumber_init.nd
  exact ⟨fd, F.ok sc_BadNumber_init (fun vs H Q E h => spX_len h) (fun cdv A outer s H vs Q E hr h => ⟨_, PSs.nox (pss_one (ps_ost (pv 0) (pv 1))), spX_1 h⟩), F⟩
theorem sc_need_bound : FnScope N_need_bound ["value", "part"] (defScope st_need_bound) := ⟨rfl, rfl, rfl, by decide +kernel, rfl, by decide +kernel, by decide +kernel⟩
theorem ok_need_bound (b : Bd K mg) (h_is_integer : GoodF P w K mg base 1 d_is_integer ["value"] (sp_is_integer K w)) (h_BadNumber_init : GoodF P w K mg base 1 d_BadNumber_init ["self", "part"] (spX K ["part"])) : GoodX P w K mg base 3 d_need_bound ["value", "part"] (sp_need_bound K w) := by
  obtain ⟨_, G_is_integer, F_is_integer⟩ := h_is_integer
  obtain ⟨_, G_BadNumber_init, F_BadNumber_init⟩ := h_BadNumber_init
  obtain ⟨h, X, G, c⟩ := b.ex
  obtain ⟨fd, F⟩ := c.def_ 12 (d := d_need_bound) rfl
  have nd : (N_need_bound).Nodup := sc_need_bound.nd
  refine ⟨fd, F.ok sc_need_bound (fun vs H Q E h => h.1) (fun cdv A outer s H vs Q E hr h => ⟨t_need_bound K w E, ?_, h.2⟩), F⟩
  exact (pss_one (ps_if (PW.pt (pw_and (pt_cmpR og_isn (pv 0) pe_non (nomark _)) (pw_and1 (pt_not (pt_truth (pe_fn G_is_integer (hr.mono (by decide)) (by rfl) (n_is_integer b) F_is_integer.kp (bindsP F_is_integer fun _ _ _ _ _ _ us hl => match us, hl with | [_], _ => rfl) pass0 (pc_p (pa_cons (pv 0) pa_nil))) (by intro _; rfl)))))) (pss_one (ps_raiseX (fl := ["part"]) (xcl_BadNumber b).1.o (xin_BadNumber b).1 (xin_BadNumber b).2 G_BadNumber_init (hr.mono (by decide)) (bindsD F_BadNumber_init fun _ _ _ _ _ _ us hl => match us, hl with | [_, _], _ => rfl) (by rfl) (n_BadNumber b) (pa_cons (pv 1) pa_nil) rfl (takes_of rfl rfl rfl rfl))) pss_nil))
theorem sc_need_number : FnScope N_need_number ["value", "part", "least", "most"] (defScope st_need_number) := ⟨rfl, rfl, rfl, by decide +kernel, rfl, by decide +kernel, by decide +kernel⟩
theorem ok_need_number (b : Bd K mg) (h_is_within : GoodF P w K mg base 2 d_is_within ["value", "least", "most"] (sp_is_within K w)) (h_BadNumber_init : GoodF P w K mg base 1 d_BadNumber_init ["self", "part"] (spX K ["part"])) : GoodX P w K mg base 3 d_need_number ["value", "part", "least", "most"] (sp_need_number K w) := by
  obtain ⟨_, G_is_within, F_is_within⟩ := h_is_within
  obtain ⟨_, G_BadNumber_init, F_BadNumber_init⟩ := h_BadNumber_init
  obtain ⟨h, X, G, c⟩ := b.ex
  obtain ⟨fd, F⟩ := c.def_ 13 (d := d_need_number) rfl
  have nd : (N_need_number).Nodup := sc_need_number.nd
  refine ⟨fd, F.ok sc_need_number (fun vs H Q E h => h.1) (fun cdv A outer s H vs Q E hr h => ⟨t_need_number K w E, ?_, h.2⟩), F⟩
  exact (pss_one (ps_if (pt_not (pt_truth (pe_fn G_is_within (hr.mono (by decide)) (by rfl) (n_is_within b) F_is_within.kp (bindsP F_is_within fun _ _ _ _ _ _ us hl => match us, hl with | [_, _, _], _ => rfl) pass0 (pc_p (pa_cons (pv 0) (pa_cons (pv 2) (pa_cons (pv 3) pa_nil))))) (by intro _; rfl))) (pss_one (ps_raiseX (fl := ["part"]) (xcl_BadNumber b).1.o (xin_BadNumber b).1 (xin_BadNumber b).2 G_BadNumber_init (hr.mono (by decide)) (bindsD F_BadNumber_init fun _ _ _ _ _ _ us hl => match us, hl with | [_, _], _ => rfl) (by rfl) (n_BadNumber b) (pa_cons (pv 1) pa_nil) rfl (takes_of rfl rfl rfl rfl))) pss_nil))
theorem sc_Rule_init : FnScope N_Rule_init ["self", "length", "low", "high"] (defScope st_Rule_init) := ⟨rfl, rfl, rfl, by decide +kernel, rfl, by decide +kernel, by decide +kernel⟩
theorem ok_Rule_init (b : Bd K mg) (h_are_bounds : GoodF P w K mg base 1 d_are_bounds ["low", "high"] (sp_are_bounds K w)) (h_BadRule_init : GoodF P w K mg base 1 d_BadRule_init ["self", "part"] (spX K ["part"])) (h_need_bound : GoodX P w K mg base 3 d_need_bound ["value", "part"] (sp_need_bound K w)) (h_need_number : GoodX P w K mg base 3 d_need_number ["value", "part", "least", "most"] (sp_need_number K w)) : GoodX P w K mg base 4 d_Rule_init ["self", "length", "low", "high"] (sp_Rule_init K w) := by
  obtain ⟨_, G_are_bounds, F_are_bounds⟩ := h_are_bounds
  obtain ⟨_, G_BadRule_init, F_BadRule_init⟩ := h_BadRule_init
  obtain ⟨_, G_need_bound, F_need_bound⟩ := h_need_bound
  obtain ⟨_, G_need_number, F_need_number⟩ := h_need_number
  obtain ⟨h, X, G, c⟩ := b.ex
  obtain ⟨fd, F⟩ := c.def_ 14 (d := d_Rule_init) rfl
  have nd : (N_Rule_init).Nodup := sc_Rule_init.nd
  refine ⟨fd, F.ok sc_Rule_init (fun vs H Q E h => h.1) (fun cdv A outer s H vs Q E hr h => ⟨t_Rule_init K w E, ?_, h.2⟩), F⟩
  exact (pss_cons (ps_expr (pe_fn G_need_number (hr.mono (by decide)) (by rfl) (n_need_number b) F_need_number.kp (bindsP F_need_number fun _ _ _ _ _ _ us hl => match us, hl with | [_, _, _, _], _ => rfl) (passes_call (takes_of rfl rfl rfl rfl) fun _ _ _ _ h => h) (pc_p (pa_cons (pv 1) (pa_cons pe_str (pa_cons pe_int (pa_cons (pe_glob (by rfl) (k_MOST_LENGTH b).choose_spec ⟨_, rfl⟩) pa_nil)))))))
  (pss_cons (ps_expr (pe_fn G_need_bound (hr.mono (by decide)) (by rfl) (n_need_bound b) F_need_bound.kp (bindsP F_need_bound fun _ _ _ _ _ _ us hl => match us, hl with | [_, _], _ => rfl) (passes_call (takes_of rfl rfl rfl rfl) fun _ _ _ _ h => h) (pc_p (pa_cons (pv 2) (pa_cons pe_str pa_nil)))))
  (pss_cons (ps_expr (pe_fn G_need_bound (hr.mono (by decide)) (by rfl) (n_need_bound b) F_need_bound.kp (bindsP F_need_bound fun _ _ _ _ _ _ us hl => match us, hl with | [_, _], _ => rfl) (passes_call (takes_of rfl rfl rfl rfl) fun _ _ _ _ h => h) (pc_p (pa_cons (pv 3) (pa_cons pe_str pa_nil)))))
  (pss_cons (ps_if (pt_not (pt_truth (pe_fn G_are_bounds (hr.mono (by decide)) (by rfl) (n_are_bounds b) F_are_bounds.kp (bindsP F_are_bounds fun _ _ _ _ _ _ us hl => match us, hl with | [_, _], _ => rfl) pass0 (pc_p (pa_cons (pv 2) (pa_cons (pv 3) pa_nil)))) (by intro _; rfl))) (pss_one (ps_raiseX (fl := ["part"]) (xcl_BadRule b).1.o (xin_BadRule b).1 (xin_BadRule b).2 G_BadRule_init (hr.mono (by decide)) (bindsD F_BadRule_init fun _ _ _ _ _ _ us hl => match us, hl with | [_, _], _ => rfl) (by rfl) (n_BadRule b) (pa_cons pe_str pa_nil) rfl (takes_of rfl rfl rfl rfl))) pss_nil)
  (pss_cons (ps_fld (pv 0) (pv 1) rfl)
  (pss_cons (ps_fld (pv 0) (pv 2) rfl)
  (pss_one (ps_fld (pv 0) (pv 3) rfl))))))))
theorem sc_law_number : FnScope N_law_number ["_law_pen_here"] (defScope st_law_number) := ⟨rfl, rfl, rfl, by decide +kernel, rfl, by decide +kernel, by decide +kernel⟩
theorem ok_law_number (b : Bd K mg) (h_law_draw : GoodF P w K mg base 1 d_law_draw ["_law_pen_here", "_law_many"] (sp_law_draw K w)) : GoodF P w K mg base 2 d_law_number ["_law_pen_here"] (sp_law_number K w) := by
  obtain ⟨_, G_law_draw, F_law_draw⟩ := h_law_draw
  obtain ⟨h, X, G, c⟩ := b.ex
  obtain ⟨fd, F⟩ := c.def_ 15 (d := d_law_number) rfl
  have nd : (N_law_number).Nodup := sc_law_number.nd
  refine ⟨fd, F.ok sc_law_number (fun vs H Q E h => h.1) (fun cdv A outer s H vs Q E hr h => ⟨t_law_number K w , PSs.nox ?_, h.2⟩), F⟩
  exact (pss_cons (ps_set (i := 1) nd rfl (Or.inl rfl) (pe_fn G_law_draw (hr.mono (by decide)) (by rfl) (n_law_draw b) F_law_draw.kp (bindsP F_law_draw fun _ _ _ _ _ _ us hl => match us, hl with | [_, _], _ => rfl) pass0 (pc_p (pa_cons (pv 0) (pa_cons pe_int pa_nil)))))
  (pss_cons (ps_if (pt_cmpR (og_lt hr.units0) (pv 1) pe_int (nomark _)) (pss_one (ps_ret (pe_op og_sub (pe_fn G_law_draw (hr.mono (by decide)) (by rfl) (n_law_draw b) F_law_draw.kp (bindsP F_law_draw fun _ _ _ _ _ _ us hl => match us, hl with | [_, _], _ => rfl) pass0 (pc_p (pa_cons (pv 0) (pa_cons pe_int pa_nil)))) pe_int))) pss_nil)
  (pss_cons (ps_if (pt_cmpR (og_lt hr.units0) (pv 1) pe_int (nomark _)) (pss_one (ps_ret (pe_op og_sub (pe_fn G_law_draw (hr.mono (by decide)) (by rfl) (n_law_draw b) F_law_draw.kp (bindsP F_law_draw fun _ _ _ _ _ _ us hl => match us, hl with | [_, _], _ => rfl) pass0 (pc_p (pa_cons (pv 0) (pa_cons pe_int pa_nil)))) pe_int))) pss_nil)
  (pss_one (ps_ret (pe_op og_mulT (pe_op og_sub pe_int (pe_op og_mulT pe_int (pe_fn G_law_draw (hr.mono (by decide)) (by rfl) (n_law_draw b) F_law_draw.kp (bindsP F_law_draw fun _ _ _ _ _ _ us hl => match us, hl with | [_, _], _ => rfl) pass0 (pc_p (pa_cons (pv 0) (pa_cons pe_int pa_nil)))))) (pe_op og_add (pe_op og_pw pe_int pe_int) (pe_fn G_law_draw (hr.mono (by decide)) (by rfl) (n_law_draw b) F_law_draw.kp (bindsP F_law_draw fun _ _ _ _ _ _ us hl => match us, hl with | [_, _], _ => rfl) pass0 (pc_p (pa_cons (pv 0) (pa_cons pe_int pa_nil)))))))))))
theorem sc_law_refused_right : FnScope N_law_refused_right ["_law_pen_here", "_law_gains_here"] (defScope st_law_refused_right) := ⟨rfl, rfl, rfl, by decide +kernel, rfl, by decide +kernel, by decide +kernel⟩
theorem ok_law_refused_right (b : Bd K mg) (hT : ∀ m, mkrs.contains m = true → LamX.TabB base mg (He.cT K (m, none)).1 (He.cT K (m, none)).2) (h_law_heard : ∃ fd, FunD K d_law_heard.name d_law_heard.qual d_law_heard.params d_law_heard.body d_law_heard.scope [] [] (ad K d_law_heard.loc) fd) (h_Rule_first_broken : GoodX P w K mg base 4 d_Rule_first_broken ["self", "row"] (sp_Rule_first_broken K w)) (h_Rule_keeps : GoodX P w K mg base 5 d_Rule_keeps ["self", "row"] (sp_Rule_keeps K w)) (h_law_of : GoodF P w K mg base 2 d_law_of ["_law_pen_here", "_law_some"] (sp_law_of K w)) (h_Rule_init : GoodX P w K mg base 4 d_Rule_init ["self", "length", "low", "high"] (sp_Rule_init K w)) (h_law_number : GoodF P w K mg base 2 d_law_number ["_law_pen_here"] (sp_law_number K w)) : GoodF P w K mg base 8 d_law_refused_right ["_law_pen_here", "_law_gains_here"] (sp_law_refused_right K w) := by
  obtain ⟨_, F_law_heard⟩ := h_law_heard
  obtain ⟨_, G_Rule_first_broken, F_Rule_first_broken⟩ := h_Rule_first_broken
  obtain ⟨_, G_Rule_keeps, F_Rule_keeps⟩ := h_Rule_keeps
  obtain ⟨_, G_law_of, F_law_of⟩ := h_law_of
  obtain ⟨_, G_Rule_init, F_Rule_init⟩ := h_Rule_init
  obtain ⟨_, G_law_number, F_law_number⟩ := h_law_number
  obtain ⟨h, X, G, c⟩ := b.ex
  obtain ⟨fd, F⟩ := c.def_ 16 (d := d_law_refused_right) rfl
  have nd : (N_law_refused_right).Nodup := sc_law_refused_right.nd
  refine ⟨fd, okM F sc_law_refused_right (fun vs H Q E h => h.1) (fun c0 ec A outer s H vs Q E hr h => ?_), F⟩
  have hcd := code_is (p := ("_law_refused_right", none)) F ec
  subst hcd
  refine ⟨t_law_refused_right K w, PSs.nox ?_, h.2⟩
  exact (pss_cons (ps_set (i := 4) nd rfl (Or.inr rfl) (pe_new (mk_Rule b) G_Rule_init (hr.mono (by decide)) (by rfl) (n_Rule b) (bnD F_Rule_init 3 1 (fun h => by cases h) rfl (fun _ _ _ _ _ _ _ us its hl hk => match us, its, hl, hk with | [_, _, _], [_, _], _, _ => ⟨_, rfl, rfl⟩)).choose_spec passN (pc_p (pa_cons (pe_fn G_law_of (hr.mono (by decide)) (by rfl) (n_law_of b) F_law_of.kp (bindsP F_law_of fun _ _ _ _ _ _ us hl => match us, hl with | [_, _], _ => rfl) pass0 (pc_p (pa_cons (pv 0) (pa_cons (pe_lst (pa_cons pe_int (pa_cons pe_int (pa_cons pe_int pa_nil)))) pa_nil)))) (pa_cons (pe_fn G_law_number (hr.mono (by decide)) (by rfl) (n_law_number b) F_law_number.kp (bindsP F_law_number fun _ _ _ _ _ _ us hl => match us, hl with | [_], _ => rfl) pass0 (pc_p (pa_cons (pv 0) pa_nil))) pa_nil)))))
  (pss_cons (ps_set (i := 3) nd rfl (Or.inr rfl) (pe_fn G_law_of (hr.mono (by decide)) (by rfl) (n_law_of b) F_law_of.kp (bindsP F_law_of fun _ _ _ _ _ _ us hl => match us, hl with | [_, _], _ => rfl) pass0 (pc_p (pa_cons (pv 0) (pa_cons (pe_lst (pa_cons pe_non (pa_cons pe_int (pa_cons (pv 1) (pa_cons (pe_callTy cg_tuple (by rfl) (g_tuple b) boot_tuple (pa_cons (pv 1) pa_nil)) (pa_cons (pe_bm PySem.F.plainAttrs_str PySem.F.slot_str_join PySem.F.type_str_join mt_join pe_str (pa_cons (pe_lc (own := [("_law_gain", 5)]) (g := (gName 5)) (tt := tYes) (by rfl) nd (pi_seq (pv 1)) (blkOk_by (N := ["_law_pen_here", "_law_gains_here", "_law_heard_here", "_law_odd", "_law_rule", "_law_gain"]) (sc := defScope st_law_refused_right) (by decide +kernel)) (fun _ _ _ _ _ => (pg_name (i := 5) nd rfl (Or.inl rfl))) (fun _ _ _ _ _ => pts_nil) (fun _ _ _ _ _ => (pe_callTy cg_str (by rfl) (g_str b) boot_str (pa_cons (pv 5) pa_nil)))) pa_nil)) (pa_cons (pv 4) (pa_cons pe_dnewK (pa_cons pe_bl pa_nil))))))))) pa_nil)))))
  (pss_cons (ps_set (i := 2) nd rfl (Or.inl rfl) (pe_lst (pa_cons (pe_hear (k := 5) F_law_heard (by rfl) (n_law_heard b) (fun _ _ _ _ _ _ us hl => match us, hl with | [_], _ => rfl) sc_law_heard rfl (Or.inl rfl) (fun _ => gv_law_heard b) (hT "_law_refused_right" rfl) rfl (tabsL_mem rfl) (tabsL_uniq (tnd b) rfl) (hr.mono (by decide)) (LamX.lamS_by (show LamX.lamSB (defScope st_law_refused_right) _ = true by decide +kernel)) rfl (fun _ _ _ _ _ => rfl) (fun _ _ _ _ _ _ _ hr => (pe_mt (pv 4) (cl_Rule b) (me_Rule_keeps b) G_Rule_keeps (hr.mono (by decide)) (bindsP F_Rule_keeps fun _ _ _ _ _ _ us hl => match us, hl with | [_, _], _ => rfl) (passes_call (takes_of rfl rfl rfl rfl) fun _ _ _ _ h => h) (pc_p (pa_cons (pv 3) pa_nil))))) pa_nil)))
  (pss_cons (ps_expr (pe_bm PySem.F.plainAttrs_list PySem.F.slot_list_append PySem.F.type_list_append mt_append (pv 2) (pa_cons (pe_hear (k := 4) F_law_heard (by rfl) (n_law_heard b) (fun _ _ _ _ _ _ us hl => match us, hl with | [_], _ => rfl) sc_law_heard rfl (Or.inl rfl) (fun _ => gv_law_heard b) (hT "_law_refused_right" rfl) rfl (tabsL_mem rfl) (tabsL_uniq (tnd b) rfl) (hr.mono (by decide)) (LamX.lamS_by (show LamX.lamSB (defScope st_law_refused_right) _ = true by decide +kernel)) rfl (fun _ _ _ _ _ => rfl) (fun _ _ _ _ _ _ _ hr => (pe_mt (pv 4) (cl_Rule b) (me_Rule_first_broken b) G_Rule_first_broken (hr.mono (by decide)) (bindsP F_Rule_first_broken fun _ _ _ _ _ _ us hl => match us, hl with | [_, _], _ => rfl) (passes_call (takes_of rfl rfl rfl rfl) fun _ _ _ _ h => h) (pc_p (pa_cons (pv 3) pa_nil))))) pa_nil)))
  (pss_one (ps_ret (pe_cmpR (og_eq hr.units) (pv 2) (pe_lst (pa_cons pe_str (pa_cons pe_str pa_nil))) (nomark _))))))))
theorem sc_heights_of : FnScope N_heights_of ["gains"] (defScope st_heights_of) := ⟨rfl, rfl, rfl, by decide +kernel, rfl, by decide +kernel, by decide +kernel⟩
theorem ok_heights_of (b : Bd K mg)  : GoodF P w K mg base 1 d_heights_of ["gains"] (sp_heights_of K w) := by
  obtain ⟨h, X, G, c⟩ := b.ex
  obtain ⟨fd, F⟩ := c.def_ 17 (d := d_heights_of) rfl
  have nd : (N_heights_of).Nodup := sc_heights_of.nd
  refine ⟨fd, F.ok sc_heights_of (fun vs H Q E h => h.1) (fun cdv A outer s H vs Q E hr h => ⟨t_heights_of K w , PSs.nox ?_, h.2⟩), F⟩
  exact (pss_cons (ps_set (i := 1) nd rfl (Or.inl rfl) (pe_lst (pa_cons pe_int pa_nil)))
  (pss_cons (ps_for PassesOwn.never rfl (pi_seq (pv 0)) (pg_name (i := 2) nd rfl (Or.inl rfl)) (pss_one (ps_expr (pe_bm PySem.F.plainAttrs_list PySem.F.slot_list_append PySem.F.type_list_append mt_append (pv 1) (pa_cons (pe_op og_add (pe_ix ix_seq (pv 1) (pe_un un_neg pe_int) (fun _ _ => rfl)) (pv 2)) pa_nil)))))
  (pss_one (ps_ret (pe_callTy cg_tuple (by rfl) (g_tuple b) boot_tuple (pa_cons (pv 1) pa_nil))))))
theorem sc_TooMany_init : FnScope N_TooMany_init ["self", "what", "most"] (defScope st_TooMany_init) := ⟨rfl, rfl, rfl, by decide +kernel, rfl, by decide +kernel, by decide +kernel⟩
theorem ok_TooMany_init (b : Bd K mg) : GoodF P w K mg base 1 d_TooMany_init ["self", "what", "most"] (spX K ["what", "most"]) := by
  obtain ⟨h, X, G, c⟩ := b.ex
  obtain ⟨fd, F⟩ := c.def_ 18 (d := d_TooMany_init) rfl
  have nd : (N_TooMany_init).Nodup := sc_TooMany_init.nd
  exact ⟨fd, F.ok sc_TooMany_init (fun vs H Q E h => spX_len h) (fun cdv A outer s H vs Q E hr h => ⟨_, PSs.nox (pss_cons (ps_ost (pv 0) (pv 1)) (pss_one (ps_ost (pv 0) (pv 2)))), spX_2 h⟩), F⟩
theorem sc_are_integers : FnScope N_are_integers ["value"] (defScope st_are_integers) := ⟨rfl, rfl, rfl, by decide +kernel, rfl, by decide +kernel, by decide +kernel⟩
theorem ok_are_integers (b : Bd K mg) (h_is_integer : GoodF P w K mg base 1 d_is_integer ["value"] (sp_is_integer K w)) : GoodF P w K mg base 2 d_are_integers ["value"] (sp_are_integers K w) := by
  obtain ⟨_, G_is_integer, F_is_integer⟩ := h_is_integer
  obtain ⟨h, X, G, c⟩ := b.ex
  obtain ⟨fd, F⟩ := c.def_ 19 (d := d_are_integers) rfl
  have nd : (N_are_integers).Nodup := sc_are_integers.nd
  refine ⟨fd, F.ok sc_are_integers (fun vs H Q E h => h.1) (fun cdv A outer s H vs Q E hr h => ⟨t_are_integers K w , PSs.nox ?_, h.2⟩), F⟩
  exact (pss_one (ps_ret (pe_andT (pe_callB cg_isi (by rfl) (g_isinstance b) (by decide +kernel) (pa_cons (pv 0) (pa_cons (pe_tup (pa_cons (pe_bltn (v := .ty "list") (by rfl) (g_list b) (by decide +kernel) rfl) (pa_cons (pe_bltn (v := .ty "tuple") (by rfl) (g_tuple b) (by decide +kernel) rfl) pa_nil))) pa_nil))) (pe_one (pe_callB (cg_all rfl) (by rfl) (g_all b) (by decide +kernel) (pa_cons (pe_lc (own := [("each", 1)]) (g := (gName 1)) (tt := tYes) (by rfl) nd (pi_seq (pv 0)) (blkOk_by (N := ["value", "each"]) (sc := defScope st_are_integers) (by decide +kernel)) (fun _ _ _ _ _ => (pg_name (i := 1) nd rfl (Or.inl rfl))) (fun _ _ _ _ _ => pts_nil) (fun _ _ _ _ _ => (pe_fn G_is_integer (hr.mono (by decide)) (by rfl) (n_is_integer b) F_is_integer.kp (bindsP F_is_integer fun _ _ _ _ _ _ us hl => match us, hl with | [_], _ => rfl) pass0 (pc_p (pa_cons (pv 1) pa_nil))))) pa_nil))))))
theorem sc_Row_init : FnScope N_Row_init ["self", "gains"] (defScope st_Row_init) := ⟨rfl, rfl, rfl, by decide +kernel, rfl, by decide +kernel, by decide +kernel⟩
theorem ok_Row_init (b : Bd K mg) (h_heights_of : GoodF P w K mg base 1 d_heights_of ["gains"] (sp_heights_of K w)) (h_TooMany_init : GoodF P w K mg base 1 d_TooMany_init ["self", "what", "most"] (spX K ["what", "most"])) (h_are_integers : GoodF P w K mg base 2 d_are_integers ["value"] (sp_are_integers K w)) (h_BadRow_init : GoodF P w K mg base 1 d_BadRow_init ["self", "part"] (spX K ["part"])) : GoodX P w K mg base 3 d_Row_init ["self", "gains"] (sp_Row_init K w) := by
  obtain ⟨_, G_heights_of, F_heights_of⟩ := h_heights_of
  obtain ⟨_, G_TooMany_init, F_TooMany_init⟩ := h_TooMany_init
  obtain ⟨_, G_are_integers, F_are_integers⟩ := h_are_integers
  obtain ⟨_, G_BadRow_init, F_BadRow_init⟩ := h_BadRow_init
  obtain ⟨h, X, G, c⟩ := b.ex
  obtain ⟨fd, F⟩ := c.def_ 20 (d := d_Row_init) rfl
  have nd : (N_Row_init).Nodup := sc_Row_init.nd
  refine ⟨fd, F.ok sc_Row_init (fun vs H Q E h => h.1) (fun cdv A outer s H vs Q E hr h => ⟨t_Row_init K w E, ?_, h.2⟩), F⟩
  exact (pss_cons (ps_if (PW.pt (pw_or (pt_not (pt_truth (pe_fn G_are_integers (hr.mono (by decide)) (by rfl) (n_are_integers b) F_are_integers.kp (bindsP F_are_integers fun _ _ _ _ _ _ us hl => match us, hl with | [_], _ => rfl) pass0 (pc_p (pa_cons (pv 1) pa_nil))) (by intro _; rfl))) (pw_or1 (pt_cmpR (og_eq hr.units) (pe_callB cg_len (by rfl) (g_len b) boot_len (pa_cons (pv 1) pa_nil)) pe_int (nomark _))))) (pss_one (ps_raiseX (fl := ["part"]) (xcl_BadRow b).1.o (xin_BadRow b).1 (xin_BadRow b).2 G_BadRow_init (hr.mono (by decide)) (bindsD F_BadRow_init fun _ _ _ _ _ _ us hl => match us, hl with | [_, _], _ => rfl) (by rfl) (n_BadRow b) (pa_cons pe_str pa_nil) rfl (takes_of rfl rfl rfl rfl))) pss_nil)
  (pss_cons (ps_if (pt_cmpR og_gt (pe_callB cg_len (by rfl) (g_len b) boot_len (pa_cons (pv 1) pa_nil)) (pe_glob (by rfl) (k_MOST_DAYS b).choose_spec ⟨_, rfl⟩) (nomark _)) (pss_one (ps_raiseX (fl := ["what", "most"]) (xcl_TooMany b).1.o (xin_TooMany b).1 (xin_TooMany b).2 G_TooMany_init (hr.mono (by decide)) (bindsD F_TooMany_init fun _ _ _ _ _ _ us hl => match us, hl with | [_, _, _], _ => rfl) (by rfl) (n_TooMany b) (pa_cons pe_str (pa_cons (pe_glob (by rfl) (k_MOST_DAYS b).choose_spec ⟨_, rfl⟩) pa_nil)) rfl (takes_of rfl rfl rfl rfl))) pss_nil)
  (pss_cons (ps_fld (pv 0) (pe_callTy cg_tuple (by rfl) (g_tuple b) boot_tuple (pa_cons (pv 1) pa_nil)) rfl)
  (pss_cons (ps_fld (pv 0) (pe_fn G_heights_of (hr.mono (by decide)) (by rfl) (n_heights_of b) F_heights_of.kp (bindsP F_heights_of fun _ _ _ _ _ _ us hl => match us, hl with | [_], _ => rfl) pass0 (pc_p (pa_cons (pv 1) pa_nil))) rfl)
  (pss_cons (ps_fld (pv 0) (pe_callB cg_len (by rfl) (g_len b) boot_len (pa_cons (pv 1) pa_nil)) rfl)
  (pss_one (ps_fld (pv 0) (pe_ix ix_seq (pe_fld (pv 0) rfl) (pe_un un_neg pe_int) (fun _ _ => rfl)) rfl)))))))
theorem sc_law_bounds : FnScope N_law_bounds ["_law_pen_here", "_law_sums_here"] (defScope st_law_bounds) := ⟨rfl, rfl, rfl, by decide +kernel, rfl, by decide +kernel, by decide +kernel⟩
theorem ok_law_bounds (b : Bd K mg) (h_law_draw : GoodF P w K mg base 1 d_law_draw ["_law_pen_here", "_law_many"] (sp_law_draw K w)) (h_law_number : GoodF P w K mg base 2 d_law_number ["_law_pen_here"] (sp_law_number K w)) (h_law_of : GoodF P w K mg base 2 d_law_of ["_law_pen_here", "_law_some"] (sp_law_of K w)) : GoodF P w K mg base 3 d_law_bounds ["_law_pen_here", "_law_sums_here"] (sp_law_bounds K w) := by
  obtain ⟨_, G_law_draw, F_law_draw⟩ := h_law_draw
  obtain ⟨_, G_law_number, F_law_number⟩ := h_law_number
  obtain ⟨_, G_law_of, F_law_of⟩ := h_law_of
  obtain ⟨h, X, G, c⟩ := b.ex
  obtain ⟨fd, F⟩ := c.def_ 21 (d := d_law_bounds) rfl
  have nd : (N_law_bounds).Nodup := sc_law_bounds.nd
  refine ⟨fd, F.ok sc_law_bounds (fun vs H Q E h => h.1) (fun cdv A outer s H vs Q E hr h => ⟨t_law_bounds K w , PSs.nox ?_, h.2⟩), F⟩
  exact (pss_cons (ps_if (pt_cmpR (og_eq hr.units) (pv 1) (pe_lst pa_nil) (nomark _)) (pss_cons (ps_set (i := 2) nd rfl (Or.inl rfl) (pe_fn G_law_number (hr.mono (by decide)) (by rfl) (n_law_number b) F_law_number.kp (bindsP F_law_number fun _ _ _ _ _ _ us hl => match us, hl with | [_], _ => rfl) pass0 (pc_p (pa_cons (pv 0) pa_nil))))
  (pss_one (ps_ret (pe_lst (pa_cons (pe_tup (pa_cons (pv 2) (pa_cons pe_non pa_nil))) (pa_cons (pe_tup (pa_cons pe_non (pa_cons (pv 2) pa_nil))) (pa_cons (pe_tup (pa_cons (pv 2) (pa_cons (pv 2) pa_nil))) pa_nil))))))) pss_nil)
  (pss_cons (ps_par3 (i := 3) (j := 4) (l := 5) (by rfl) nd rfl rfl rfl (by decide) (by decide) (by decide) rfl rfl rfl (pa_cons (pe_callB (cg_minT rfl hr.units) (by rfl) (g_min b) (by decide +kernel) (pa_cons (pv 1) pa_nil)) (pa_cons (pe_callB (cg_maxT rfl hr.units) (by rfl) (g_max b) (by decide +kernel) (pa_cons (pv 1) pa_nil)) (pa_cons (pe_fn G_law_of (hr.mono (by decide)) (by rfl) (n_law_of b) F_law_of.kp (bindsP F_law_of fun _ _ _ _ _ _ us hl => match us, hl with | [_, _], _ => rfl) pass0 (pc_p (pa_cons (pv 0) (pa_cons (pv 1) pa_nil)))) pa_nil))) (by rfl))
  (pss_cons (ps_set (i := 6) nd rfl (Or.inl rfl) (pe_lst (pa_cons (pe_tup (pa_cons (pv 3) (pa_cons (pv 4) pa_nil))) (pa_cons (pe_tup (pa_cons (pe_op og_add (pv 3) pe_int) (pa_cons pe_non pa_nil))) (pa_cons (pe_tup (pa_cons pe_non (pa_cons (pe_op og_sub (pv 4) pe_int) pa_nil))) (pa_cons (pe_tup (pa_cons (pv 3) (pa_cons pe_non pa_nil))) (pa_cons (pe_tup (pa_cons pe_non (pa_cons (pv 4) pa_nil))) (pa_cons (pe_tup (pa_cons (pv 5) (pa_cons (pv 5) pa_nil))) (pa_cons (pe_tup (pa_cons (pv 5) (pa_cons pe_non pa_nil))) pa_nil)))))))))
  (pss_cons (ps_par (i := 2) (j := 7) (by rfl) nd rfl rfl (by decide) rfl rfl (pa_cons (pe_fn G_law_number (hr.mono (by decide)) (by rfl) (n_law_number b) F_law_number.kp (bindsP F_law_number fun _ _ _ _ _ _ us hl => match us, hl with | [_], _ => rfl) pass0 (pc_p (pa_cons (pv 0) pa_nil))) (pa_cons (pe_fn G_law_draw (hr.mono (by decide)) (by rfl) (n_law_draw b) F_law_draw.kp (bindsP F_law_draw fun _ _ _ _ _ _ us hl => match us, hl with | [_, _], _ => rfl) pass0 (pc_p (pa_cons (pv 0) (pa_cons pe_int pa_nil)))) pa_nil)) (by rfl))
  (pss_one (ps_ret (pe_op og_add (pv 6) (pe_lst (pa_cons (pe_tup (pa_cons (pe_op og_sub (pv 3) pe_int) (pa_cons (pe_op og_add (pv 4) pe_int) pa_nil))) (pa_cons (pe_tup (pa_cons pe_non (pa_cons (pv 5) pa_nil))) (pa_cons (pe_tup (pa_cons (pv 2) (pa_cons (pe_op og_add (pv 2) (pv 7)) pa_nil))) (pa_cons (pe_tup (pa_cons (pe_op og_add (pv 4) pe_int) (pa_cons (pe_op og_add (pe_op og_add (pv 4) pe_int) (pv 7)) pa_nil))) pa_nil))))))))))))
theorem sc_law_says : FnScope N_law_says ["_law_value", "_law_due"] (defScope st_law_says) := ⟨rfl, rfl, rfl, by decide +kernel, rfl, by decide +kernel, by decide +kernel⟩
theorem ok_law_says (b : Bd K mg)  : GoodF P w K mg base 1 d_law_says ["_law_value", "_law_due"] (sp_law_says K w) := by
  obtain ⟨h, X, G, c⟩ := b.ex
  obtain ⟨fd, F⟩ := c.def_ 22 (d := d_law_says) rfl
  have nd : (N_law_says).Nodup := sc_law_says.nd
  refine ⟨fd, F.ok sc_law_says (fun vs H Q E h => h.1) (fun cdv A outer s H vs Q E hr h => ⟨t_law_says K w , PSs.nox ?_, h.2⟩), F⟩
  exact (pss_one (ps_ret (pe_ifExp (pt_truth (pv 1) (by intro _; rfl)) (pe_cmpR og_isB (pv 0) pe_bl (nomark _)) (pe_cmpR og_isB (pv 0) pe_bl (nomark _)))))
theorem sc_law_first : FnScope N_law_first ["_law_sums_here", "_law_low", "_law_high"] (defScope st_law_first) := ⟨rfl, rfl, rfl, by decide +kernel, rfl, by decide +kernel, by decide +kernel⟩
theorem ok_law_first (b : Bd K mg)  : GoodF P w K mg base 1 d_law_first ["_law_sums_here", "_law_low", "_law_high"] (sp_law_first K w) := by
  obtain ⟨h, X, G, c⟩ := b.ex
  obtain ⟨fd, F⟩ := c.def_ 23 (d := d_law_first) rfl
  have nd : (N_law_first).Nodup := sc_law_first.nd
  refine ⟨fd, F.ok sc_law_first (fun vs H Q E h => h.1) (fun cdv A outer s H vs Q E hr h => ⟨t_law_first K w , PSs.nox ?_, h.2⟩), F⟩
  exact (pss_cons (ps_for PassesOwn.never rfl (pi_enumT (by rfl) (g_enumerate b) (pa_cons (pv 0) pa_nil)) (pg_tup rfl (pgs_cons (pg_name (i := 3) nd rfl (Or.inl rfl)) (pgs_cons (pg_name (i := 4) nd rfl (Or.inl rfl)) pgs_nil))) (pss_one (ps_if (PW.pt (pw_or (PW.pt (pw_and (pt_cmpR og_isn (pv 1) pe_non (nomark _)) (pw_and1 (pt_cmpR (og_lt hr.units0) (pv 4) (pv 1) (nomark _))))) (pw_or1 (PW.pt (pw_and (pt_cmpR og_isn (pv 2) pe_non (nomark _)) (pw_and1 (pt_cmpR og_gt (pv 4) (pv 2) (nomark _)))))))) (pss_one (ps_ret (pv 3))) pss_nil)))
  (pss_one (ps_ret pe_non)))
theorem sc_law_sums : FnScope N_law_sums ["_law_gains_here", "_law_length"] (defScope st_law_sums) := ⟨rfl, rfl, rfl, by decide +kernel, rfl, by decide +kernel, by decide +kernel⟩
theorem ok_law_sums (b : Bd K mg)  : GoodF P w K mg base 1 d_law_sums ["_law_gains_here", "_law_length"] (sp_law_sums K w) := by
  obtain ⟨h, X, G, c⟩ := b.ex
  obtain ⟨fd, F⟩ := c.def_ 24 (d := d_law_sums) rfl
  have nd : (N_law_sums).Nodup := sc_law_sums.nd
  refine ⟨fd, F.ok sc_law_sums (fun vs H Q E h => h.1) (fun cdv A outer s H vs Q E hr h => ⟨t_law_sums K w , PSs.nox ?_, h.2⟩), F⟩
  exact (pss_one (ps_ret (pe_lc (own := [("_law_begin", 2)]) (g := (gName 2)) (tt := tYes) (by rfl) nd (pi_range1 (by rfl) (g_range b) (pa_cons (pe_op og_add (pe_op og_sub (pe_callB cg_len (by rfl) (g_len b) boot_len (pa_cons (pv 0) pa_nil)) (pv 1)) pe_int) pa_nil)) (blkOk_by (N := ["_law_gains_here", "_law_length", "_law_begin"]) (sc := defScope st_law_sums) (by decide +kernel)) (fun _ _ _ _ _ => (pg_name (i := 2) nd rfl (Or.inl rfl))) (fun _ _ _ _ _ => pts_nil) (fun _ _ _ _ _ => (pe_callB (cg_sum rfl) (by rfl) (g_sum b) (by decide +kernel) (pa_cons (pe_slice sg_all (pv 0) (po_some (pv 2)) (po_some (pe_op og_add (pv 2) (pv 1)))) pa_nil))))))
theorem sc_law_told_right : FnScope N_law_told_right ["_law_pen_here", "_law_gains_here", "_law_length"] (defScope st_law_told_right) := ⟨rfl, rfl, rfl, by decide +kernel, rfl, by decide +kernel, by decide +kernel⟩
theorem ok_law_told_right (b : Bd K mg) (h_law_bounds : GoodF P w K mg base 3 d_law_bounds ["_law_pen_here", "_law_sums_here"] (sp_law_bounds K w)) (h_Rule_keeps : GoodX P w K mg base 5 d_Rule_keeps ["self", "row"] (sp_Rule_keeps K w)) (h_law_says : GoodF P w K mg base 1 d_law_says ["_law_value", "_law_due"] (sp_law_says K w)) (h_law_first : GoodF P w K mg base 1 d_law_first ["_law_sums_here", "_law_low", "_law_high"] (sp_law_first K w)) (h_Rule_first_broken : GoodX P w K mg base 4 d_Rule_first_broken ["self", "row"] (sp_Rule_first_broken K w)) (h_Rule_init : GoodX P w K mg base 4 d_Rule_init ["self", "length", "low", "high"] (sp_Rule_init K w)) (h_law_sums : GoodF P w K mg base 1 d_law_sums ["_law_gains_here", "_law_length"] (sp_law_sums K w)) (h_Row_init : GoodX P w K mg base 3 d_Row_init ["self", "gains"] (sp_Row_init K w)) (h_law_draw : GoodF P w K mg base 1 d_law_draw ["_law_pen_here", "_law_many"] (sp_law_draw K w)) : GoodF P w K mg base 6 d_law_told_right ["_law_pen_here", "_law_gains_here", "_law_length"] (sp_law_told_right K w) := by
  obtain ⟨_, G_law_bounds, F_law_bounds⟩ := h_law_bounds
  obtain ⟨_, G_Rule_keeps, F_Rule_keeps⟩ := h_Rule_keeps
  obtain ⟨_, G_law_says, F_law_says⟩ := h_law_says
  obtain ⟨_, G_law_first, F_law_first⟩ := h_law_first
  obtain ⟨_, G_Rule_first_broken, F_Rule_first_broken⟩ := h_Rule_first_broken
  obtain ⟨_, G_Rule_init, F_Rule_init⟩ := h_Rule_init
  obtain ⟨_, G_law_sums, F_law_sums⟩ := h_law_sums
  obtain ⟨_, G_Row_init, F_Row_init⟩ := h_Row_init
  obtain ⟨_, G_law_draw, F_law_draw⟩ := h_law_draw
  obtain ⟨h, X, G, c⟩ := b.ex
  obtain ⟨fd, F⟩ := c.def_ 25 (d := d_law_told_right) rfl
  have nd : (N_law_told_right).Nodup := sc_law_told_right.nd
  refine ⟨fd, F.ok sc_law_told_right (fun vs H Q E h => h.1) (fun cdv A outer s H vs Q E hr h => ⟨t_law_told_right K w , PSs.nox ?_, h.2⟩), F⟩
  exact (pss_cons (ps_par3 (i := 3) (j := 4) (l := 5) (by rfl) nd rfl rfl rfl (by decide) (by decide) (by decide) rfl rfl rfl (pa_cons (pe_new (mk_Row b) G_Row_init (hr.mono (by decide)) (by rfl) (n_Row b) (bindsP F_Row_init fun _ _ _ _ _ _ us hl => match us, hl with | [_, _], _ => rfl) passN (pc_p (pa_cons (pv 1) pa_nil))) (pa_cons (pe_new (mk_Row b) G_Row_init (hr.mono (by decide)) (by rfl) (n_Row b) (bindsP F_Row_init fun _ _ _ _ _ _ us hl => match us, hl with | [_, _], _ => rfl) passN (pc_p (pa_cons (pe_revA (pv 1)) pa_nil))) (pa_cons (pe_fn G_law_sums (hr.mono (by decide)) (by rfl) (n_law_sums b) F_law_sums.kp (bindsP F_law_sums fun _ _ _ _ _ _ us hl => match us, hl with | [_, _], _ => rfl) pass0 (pc_p (pa_cons (pv 1) (pa_cons (pv 2) pa_nil)))) pa_nil))) (by rfl))
  (pss_cons (ps_set (i := 6) nd rfl (Or.inl rfl) (pe_fn G_law_draw (hr.mono (by decide)) (by rfl) (n_law_draw b) F_law_draw.kp (bindsP F_law_draw fun _ _ _ _ _ _ us hl => match us, hl with | [_, _], _ => rfl) pass0 (pc_p (pa_cons (pv 0) (pa_cons (pe_callB cg_len (by rfl) (g_len b) boot_len (pa_cons (pv 1) pa_nil)) pa_nil)))))
  (pss_cons (ps_set (i := 7) nd rfl (Or.inl rfl) (pe_op og_add (pe_op og_add (pv 6) pe_int) (pe_fn G_law_draw (hr.mono (by decide)) (by rfl) (n_law_draw b) F_law_draw.kp (bindsP F_law_draw fun _ _ _ _ _ _ us hl => match us, hl with | [_, _], _ => rfl) pass0 (pc_p (pa_cons (pv 0) (pa_cons (pe_op og_sub (pe_callB cg_len (by rfl) (g_len b) boot_len (pa_cons (pv 1) pa_nil)) (pv 6)) pa_nil))))))
  (pss_cons (ps_par (i := 8) (j := 9) (by rfl) nd rfl rfl (by decide) rfl rfl (pa_cons (pe_new (mk_Row b) G_Row_init (hr.mono (by decide)) (by rfl) (n_Row b) (bindsP F_Row_init fun _ _ _ _ _ _ us hl => match us, hl with | [_, _], _ => rfl) passN (pc_p (pa_cons (pe_slice sg_all (pv 1) (po_some (pv 6)) (po_some (pv 7))) pa_nil))) (pa_cons (pe_fn G_law_sums (hr.mono (by decide)) (by rfl) (n_law_sums b) F_law_sums.kp (bindsP F_law_sums fun _ _ _ _ _ _ us hl => match us, hl with | [_, _], _ => rfl) pass0 (pc_p (pa_cons (pe_slice sg_all (pv 1) (po_some (pv 6)) (po_some (pv 7))) (pa_cons (pv 2) pa_nil)))) pa_nil)) (by rfl))
  (pss_cons (ps_for PassesOwn.never rfl (pi_seq (pe_fn G_law_bounds (hr.mono (by decide)) (by rfl) (n_law_bounds b) F_law_bounds.kp (bindsP F_law_bounds fun _ _ _ _ _ _ us hl => match us, hl with | [_, _], _ => rfl) pass0 (pc_p (pa_cons (pv 0) (pa_cons (pv 5) pa_nil))))) (pg_tup rfl (pgs_cons (pg_name (i := 10) nd rfl (Or.inl rfl)) (pgs_cons (pg_name (i := 11) nd rfl (Or.inl rfl)) pgs_nil))) (pss_cons (ps_par (i := 12) (j := 13) (by rfl) nd rfl rfl (by decide) rfl rfl (pa_cons (pe_new (mk_Rule b) G_Rule_init (hr.mono (by decide)) (by rfl) (n_Rule b) (bnD F_Rule_init 4 2 (fun h => by cases h) rfl (fun _ _ _ _ _ _ _ us its hl hk => match us, its, hl, hk with | [_, _, _, _], [_, _], _, _ => ⟨_, rfl, rfl⟩)).choose_spec passN (pc_p (pa_cons (pv 2) (pa_cons (pv 10) (pa_cons (pv 11) pa_nil))))) (pa_cons (pe_fn G_law_first (hr.mono (by decide)) (by rfl) (n_law_first b) F_law_first.kp (bindsP F_law_first fun _ _ _ _ _ _ us hl => match us, hl with | [_, _, _], _ => rfl) pass0 (pc_p (pa_cons (pv 5) (pa_cons (pv 10) (pa_cons (pv 11) pa_nil))))) pa_nil)) (by rfl))
  (pss_cons (ps_set (i := 14) nd rfl (Or.inl rfl) (pe_mt (pv 12) (cl_Rule b) (me_Rule_first_broken b) G_Rule_first_broken (hr.mono (by decide)) (bindsP F_Rule_first_broken fun _ _ _ _ _ _ us hl => match us, hl with | [_, _], _ => rfl) passN (pc_p (pa_cons (pv 3) pa_nil))))
  (pss_cons (ps_if (PW.pt (pw_or (pt_cmpR (og_ne hr.units) (pv 14) (pv 13) (nomark _)) (pw_or (pt_truth (pe_callB cg_isi (by rfl) (g_isinstance b) (by decide +kernel) (pa_cons (pv 14) (pa_cons (pe_bltn (v := .ty "bool") (by rfl) (g_bool b) (by decide +kernel) rfl) pa_nil))) (by intro _; rfl)) (pw_or1 (pt_not (pt_truth (pe_fn G_law_says (hr.mono (by decide)) (by rfl) (n_law_says b) F_law_says.kp (bindsP F_law_says fun _ _ _ _ _ _ us hl => match us, hl with | [_, _], _ => rfl) pass0 (pc_p (pa_cons (pe_mt (pv 12) (cl_Rule b) (me_Rule_keeps b) G_Rule_keeps (hr.mono (by decide)) (bindsP F_Rule_keeps fun _ _ _ _ _ _ us hl => match us, hl with | [_, _], _ => rfl) passN (pc_p (pa_cons (pv 3) pa_nil))) (pa_cons (pe_cmpR og_is (pv 13) pe_non (nomark _)) pa_nil)))) (by intro _; rfl))))))) (pss_one (ps_ret pe_bl)) pss_nil)
  (pss_cons (ps_if (PW.pt (pw_or (pt_not (pt_truth (pe_fn G_law_says (hr.mono (by decide)) (by rfl) (n_law_says b) F_law_says.kp (bindsP F_law_says fun _ _ _ _ _ _ us hl => match us, hl with | [_, _], _ => rfl) pass0 (pc_p (pa_cons (pe_mt (pv 12) (cl_Rule b) (me_Rule_keeps b) G_Rule_keeps (hr.mono (by decide)) (bindsK (ks := ["row"]) (n := 1) [0, 1] F_Rule_keeps fun _ _ _ _ _ _ us ws hl hk => match us, ws, hl, hk with | [_], [_], _, _ => rfl) passN (pc_k (pk_cons (pv 4) pk_nil))) (pa_cons (pe_cmpR og_is (pv 13) pe_non (nomark _)) pa_nil)))) (by intro _; rfl))) (pw_or1 (pt_cmpR (og_ne hr.units) (pe_mt (pv 12) (cl_Rule b) (me_Rule_first_broken b) G_Rule_first_broken (hr.mono (by decide)) (bindsK (ks := ["row"]) (n := 1) [0, 1] F_Rule_first_broken fun _ _ _ _ _ _ us ws hl hk => match us, ws, hl, hk with | [_], [_], _, _ => rfl) passN (pc_k (pk_cons (pv 4) pk_nil))) (pe_fn G_law_first (hr.mono (by decide)) (by rfl) (n_law_first b) F_law_first.kp (bindsP F_law_first fun _ _ _ _ _ _ us hl => match us, hl with | [_, _, _], _ => rfl) pass0 (pc_p (pa_cons (pe_revA (pv 5)) (pa_cons (pv 10) (pa_cons (pv 11) pa_nil))))) (nomark _))))) (pss_one (ps_ret pe_bl)) pss_nil)
  (pss_one (ps_if (PW.pt (pw_or (pt_not (pt_truth (pe_fn G_law_says (hr.mono (by decide)) (by rfl) (n_law_says b) F_law_says.kp (bindsP F_law_says fun _ _ _ _ _ _ us hl => match us, hl with | [_, _], _ => rfl) pass0 (pc_p (pa_cons (pe_mt (pv 12) (cl_Rule b) (me_Rule_keeps b) G_Rule_keeps (hr.mono (by decide)) (bindsP F_Rule_keeps fun _ _ _ _ _ _ us hl => match us, hl with | [_, _], _ => rfl) passN (pc_p (pa_cons (pv 8) pa_nil))) (pa_cons (pe_cmpR og_is (pe_fn G_law_first (hr.mono (by decide)) (by rfl) (n_law_first b) F_law_first.kp (bindsP F_law_first fun _ _ _ _ _ _ us hl => match us, hl with | [_, _, _], _ => rfl) pass0 (pc_p (pa_cons (pv 9) (pa_cons (pv 10) (pa_cons (pv 11) pa_nil))))) pe_non (nomark _)) pa_nil)))) (by intro _; rfl))) (pw_or1 (PW.pt (pw_and (pt_cmpR og_is (pv 13) pe_non (nomark _)) (pw_and1 (pt_not (pt_truth (pe_mt (pv 12) (cl_Rule b) (me_Rule_keeps b) G_Rule_keeps (hr.mono (by decide)) (bindsP F_Rule_keeps fun _ _ _ _ _ _ us hl => match us, hl with | [_, _], _ => rfl) passN (pc_p (pa_cons (pv 8) pa_nil))) (by intro _; rfl))))))))) (pss_one (ps_ret pe_bl)) pss_nil)))))))
  (pss_one (ps_ret (pe_cmpR (og_eq hr.units) (pe_fld (pv 3) rfl) (pe_callTy cg_tuple (by rfl) (g_tuple b) boot_tuple (pa_cons (pv 1) pa_nil)) (nomark _)))))))))
theorem sc_law_gains : FnScope N_law_gains ["_law_pen_here", "_law_many"] (defScope st_law_gains) := ⟨rfl, rfl, rfl, by decide +kernel, rfl, by decide +kernel, by decide +kernel⟩
theorem ok_law_gains (b : Bd K mg) (h_law_draw : GoodF P w K mg base 1 d_law_draw ["_law_pen_here", "_law_many"] (sp_law_draw K w)) (h_law_number : GoodF P w K mg base 2 d_law_number ["_law_pen_here"] (sp_law_number K w)) : GoodF P w K mg base 3 d_law_gains ["_law_pen_here", "_law_many"] (sp_law_gains K w) := by
  obtain ⟨_, G_law_draw, F_law_draw⟩ := h_law_draw
  obtain ⟨_, G_law_number, F_law_number⟩ := h_law_number
  obtain ⟨h, X, G, c⟩ := b.ex
  obtain ⟨fd, F⟩ := c.def_ 26 (d := d_law_gains) rfl
  have nd : (N_law_gains).Nodup := sc_law_gains.nd
  refine ⟨fd, F.ok sc_law_gains (fun vs H Q E h => h.1) (fun cdv A outer s H vs Q E hr h => ⟨t_law_gains K w , PSs.nox ?_, h.2⟩), F⟩
  exact (pss_cons (ps_set (i := 2) nd rfl (Or.inr rfl) (pe_lc (own := [("_law_day", 4)]) (g := (gName 4)) (tt := tYes) (by rfl) nd (pi_range1 (by rfl) (g_range b) (pa_cons (pv 1) pa_nil)) (blkOk_by (N := ["_law_pen_here", "_law_many", "_law_gains_here", "_law_again", "_law_day"]) (sc := defScope st_law_gains) (by decide +kernel)) (fun _ _ _ _ _ => (pg_name (i := 4) nd rfl (Or.inl rfl))) (fun _ _ _ _ _ => pts_nil) (fun _ _ _ _ _ => (pe_fn G_law_number (hr.mono (by decide)) (by rfl) (n_law_number b) F_law_number.kp (bindsP F_law_number fun _ _ _ _ _ _ us hl => match us, hl with | [_], _ => rfl) pass0 (pc_p (pa_cons (pv 0) pa_nil))))))
  (pss_cons (ps_set (i := 3) nd rfl (Or.inr rfl) (pe_op og_add pe_int (pe_fn G_law_draw (hr.mono (by decide)) (by rfl) (n_law_draw b) F_law_draw.kp (bindsP F_law_draw fun _ _ _ _ _ _ us hl => match us, hl with | [_, _], _ => rfl) pass0 (pc_p (pa_cons (pv 0) (pa_cons pe_int pa_nil))))))
  (pss_one (ps_ret (pe_ifExp (pt_cmpR (og_eq hr.units) (pe_fn G_law_draw (hr.mono (by decide)) (by rfl) (n_law_draw b) F_law_draw.kp (bindsP F_law_draw fun _ _ _ _ _ _ us hl => match us, hl with | [_, _], _ => rfl) pass0 (pc_p (pa_cons (pv 0) (pa_cons pe_int pa_nil)))) pe_int (nomark _)) (pe_lc (own := [("_law_day", 4)]) (g := (gName 4)) (tt := tYes) (by rfl) nd (pi_range1 (by rfl) (g_range b) (pa_cons (pv 1) pa_nil)) (blkOk_by (N := ["_law_pen_here", "_law_many", "_law_gains_here", "_law_again", "_law_day"]) (sc := defScope st_law_gains) (by decide +kernel)) (fun _ _ _ _ _ => (pg_name (i := 4) nd rfl (Or.inl rfl))) (fun _ _ _ _ _ => pts_nil) (fun _ _ _ _ _ => (pe_ix ix_seq (pv 2) (pe_op og_md (pv 4) (pv 3)) (fun _ _ => rfl)))) (pv 2))))))
theorem sc_law_pen : FnScope N_law_pen ["_law_script"] (defScope st_law_pen) := ⟨rfl, rfl, rfl, by decide +kernel, rfl, by decide +kernel, by decide +kernel⟩
theorem ok_law_pen (b : Bd K mg)  : GoodF P w K mg base 1 d_law_pen ["_law_script"] (sp_law_pen K w) := by
  obtain ⟨h, X, G, c⟩ := b.ex
  obtain ⟨fd, F⟩ := c.def_ 27 (d := d_law_pen) rfl
  have nd : (N_law_pen).Nodup := sc_law_pen.nd
  refine ⟨fd, F.ok sc_law_pen (fun vs H Q E h => h.1) (fun cdv A outer s H vs Q E hr h => ⟨t_law_pen K w , PSs.nox ?_, h.2⟩), F⟩
  exact (pss_one (ps_ret (pe_lst (pa_cons (pe_lc (own := [("_law_cell", 1)]) (g := (gName 1)) (tt := tYes) (by rfl) nd (pi_seq (pe_slice sg_all (pv 0) po_none (po_some pe_int))) (blkOk_by (N := ["_law_script", "_law_cell"]) (sc := defScope st_law_pen) (by decide +kernel)) (fun _ _ _ _ _ => (pg_name (i := 1) nd rfl (Or.inl rfl))) (fun _ _ _ _ _ => pts_nil) (fun _ _ _ _ _ => (pe_callTy cg_int (by rfl) (g_int b) boot_int (pa_cons (pv 1) pa_nil)))) (pa_cons pe_int (pa_cons pe_int pa_nil))))))
theorem sc_law : FnScope N_law ["_law_script"] (defScope st_law) := ⟨rfl, rfl, rfl, by decide +kernel, rfl, by decide +kernel, by decide +kernel⟩
theorem ok_law (b : Bd K mg) (h_law_refused_right : GoodF P w K mg base 8 d_law_refused_right ["_law_pen_here", "_law_gains_here"] (sp_law_refused_right K w)) (h_Rule_init : GoodX P w K mg base 4 d_Rule_init ["self", "length", "low", "high"] (sp_Rule_init K w)) (h_Rule_first_broken : GoodX P w K mg base 4 d_Rule_first_broken ["self", "row"] (sp_Rule_first_broken K w)) (h_Row_init : GoodX P w K mg base 3 d_Row_init ["self", "gains"] (sp_Row_init K w)) (h_Rule_keeps : GoodX P w K mg base 5 d_Rule_keeps ["self", "row"] (sp_Rule_keeps K w)) (h_law_told_right : GoodF P w K mg base 6 d_law_told_right ["_law_pen_here", "_law_gains_here", "_law_length"] (sp_law_told_right K w)) (h_law_draw : GoodF P w K mg base 1 d_law_draw ["_law_pen_here", "_law_many"] (sp_law_draw K w)) (h_law_gains : GoodF P w K mg base 3 d_law_gains ["_law_pen_here", "_law_many"] (sp_law_gains K w)) (h_law_of : GoodF P w K mg base 2 d_law_of ["_law_pen_here", "_law_some"] (sp_law_of K w)) (h_law_pen : GoodF P w K mg base 1 d_law_pen ["_law_script"] (sp_law_pen K w)) : GoodF P w K mg base 9 d_law ["_law_script"] (sp_law K w) := by
  obtain ⟨_, G_law_refused_right, F_law_refused_right⟩ := h_law_refused_right
  obtain ⟨_, G_Rule_init, F_Rule_init⟩ := h_Rule_init
  obtain ⟨_, G_Rule_first_broken, F_Rule_first_broken⟩ := h_Rule_first_broken
  obtain ⟨_, G_Row_init, F_Row_init⟩ := h_Row_init
  obtain ⟨_, G_Rule_keeps, F_Rule_keeps⟩ := h_Rule_keeps
  obtain ⟨_, G_law_told_right, F_law_told_right⟩ := h_law_told_right
  obtain ⟨_, G_law_draw, F_law_draw⟩ := h_law_draw
  obtain ⟨_, G_law_gains, F_law_gains⟩ := h_law_gains
  obtain ⟨_, G_law_of, F_law_of⟩ := h_law_of
  obtain ⟨_, G_law_pen, F_law_pen⟩ := h_law_pen
  obtain ⟨h, X, G, c⟩ := b.ex
  obtain ⟨fd, F⟩ := c.def_ 28 (d := d_law) rfl
  have nd : (N_law).Nodup := sc_law.nd
  refine ⟨fd, F.ok sc_law (fun vs H Q E h => h.1) (fun cdv A outer s H vs Q E hr h => ⟨t_law K w , PSs.nox ?_, h.2⟩), F⟩
  exact (pss_cons (ps_set (i := 1) nd rfl (Or.inr rfl) (pe_fn G_law_pen (hr.mono (by decide)) (by rfl) (n_law_pen b) F_law_pen.kp (bindsP F_law_pen fun _ _ _ _ _ _ us hl => match us, hl with | [_], _ => rfl) pass0 (pc_p (pa_cons (pv 0) pa_nil))))
  (pss_cons (ps_set (i := 2) nd rfl (Or.inl rfl) (pe_fn G_law_of (hr.mono (by decide)) (by rfl) (n_law_of b) F_law_of.kp (bindsP F_law_of fun _ _ _ _ _ _ us hl => match us, hl with | [_, _], _ => rfl) pass0 (pc_p (pa_cons (pv 1) (pa_cons (pe_lst (pa_cons pe_int (pa_cons pe_int (pa_cons pe_int (pa_cons pe_int (pa_cons pe_int (pa_cons pe_int (pa_cons pe_int (pa_cons pe_int (pa_cons pe_int (pa_cons pe_int pa_nil))))))))))) pa_nil)))))
  (pss_cons (ps_set (i := 3) nd rfl (Or.inr rfl) (pe_fn G_law_gains (hr.mono (by decide)) (by rfl) (n_law_gains b) F_law_gains.kp (bindsP F_law_gains fun _ _ _ _ _ _ us hl => match us, hl with | [_, _], _ => rfl) pass0 (pc_p (pa_cons (pv 1) (pa_cons (pv 2) pa_nil)))))
  (pss_cons (ps_set (i := 4) nd rfl (Or.inl rfl) (pe_lst (pa_cons pe_int (pa_cons (pv 2) (pa_cons (pe_callB (cg_minT rfl hr.units) (by rfl) (g_min b) (by decide +kernel) (pa_cons (pe_op og_add (pv 2) pe_int) (pa_cons pe_int pa_nil))) (pa_cons (pe_op og_add pe_int (pe_fn G_law_draw (hr.mono (by decide)) (by rfl) (n_law_draw b) F_law_draw.kp (bindsP F_law_draw fun _ _ _ _ _ _ us hl => match us, hl with | [_, _], _ => rfl) pass0 (pc_p (pa_cons (pv 1) (pa_cons (pv 2) pa_nil))))) (pa_cons (pe_op og_add pe_int (pe_fn G_law_draw (hr.mono (by decide)) (by rfl) (n_law_draw b) F_law_draw.kp (bindsP F_law_draw fun _ _ _ _ _ _ us hl => match us, hl with | [_, _], _ => rfl) pass0 (pc_p (pa_cons (pv 1) (pa_cons (pv 2) pa_nil))))) (pa_cons (pe_op og_add pe_int (pe_fn G_law_draw (hr.mono (by decide)) (by rfl) (n_law_draw b) F_law_draw.kp (bindsP F_law_draw fun _ _ _ _ _ _ us hl => match us, hl with | [_, _], _ => rfl) pass0 (pc_p (pa_cons (pv 1) (pa_cons pe_int pa_nil))))) pa_nil))))))))
  (pss_cons (ps_if (pt_cmpR (og_ne hr.units) (pe_lc (own := [("_law_length", 6)]) (g := (gName 6)) (tt := (tNot (tTru K (tFn 3 0 (sp_law_told_right K w) (fun vs _ => vs) C8.E0 (tcP (tCons (tVar 1) (tCons (tVar 3) (tCons (tVar 6) tNil)))))))) (by rfl) nd (pi_seq (pv 4)) (blkOk_by (N := ["_law_script", "_law_pen_here", "_law_many", "_law_gains_here", "_law_lengths", "_law_six", "_law_length"]) (sc := defScope st_law) (by decide +kernel)) (fun _ _ _ _ _ => (pg_name (i := 6) nd rfl (Or.inl rfl))) (fun _ _ _ _ _ => (pts_one (pt_not (pt_truth (pe_fn G_law_told_right (hr.mono (by decide)) (by rfl) (n_law_told_right b) F_law_told_right.kp (bindsP F_law_told_right fun _ _ _ _ _ _ us hl => match us, hl with | [_, _, _], _ => rfl) pass0 (pc_p (pa_cons (pv 1) (pa_cons (pv 3) (pa_cons (pv 6) pa_nil))))) (by intro _; rfl))))) (fun _ _ _ _ _ => (pv 6))) (pe_lst pa_nil) (nomark _)) (pss_one (ps_ret pe_bl)) pss_nil)
  (pss_cons (ps_set (i := 5) nd rfl (Or.inl rfl) (pe_lst (pa_cons (pe_un un_neg pe_int) (pa_cons pe_int (pa_cons (pe_un un_neg pe_int) (pa_cons (pe_un un_neg pe_int) (pa_cons pe_int (pa_cons (pe_un un_neg pe_int) pa_nil))))))))
  (pss_cons (ps_if (PW.pt (pw_or (pt_not (pt_truth (pe_mt (pe_new (mk_Rule b) G_Rule_init (hr.mono (by decide)) (by rfl) (n_Rule b) (bnD F_Rule_init 4 2 (fun h => by cases h) rfl (fun _ _ _ _ _ _ _ us its hl hk => match us, its, hl, hk with | [_, _, _, _], [_, _], _, _ => ⟨_, rfl, rfl⟩)).choose_spec passN (pc_p (pa_cons pe_int (pa_cons pe_non (pa_cons (pe_un un_neg pe_int) pa_nil))))) (cl_Rule b) (me_Rule_keeps b) G_Rule_keeps (hr.mono (by decide)) (bindsP F_Rule_keeps fun _ _ _ _ _ _ us hl => match us, hl with | [_, _], _ => rfl) passN (pc_p (pa_cons (pe_new (mk_Row b) G_Row_init (hr.mono (by decide)) (by rfl) (n_Row b) (bindsP F_Row_init fun _ _ _ _ _ _ us hl => match us, hl with | [_, _], _ => rfl) passN (pc_p (pa_cons (pv 5) pa_nil))) pa_nil))) (by intro _; rfl))) (pw_or (pt_not (pt_truth (pe_mt (pe_new (mk_Rule b) G_Rule_init (hr.mono (by decide)) (by rfl) (n_Rule b) (bnD F_Rule_init 3 1 (fun h => by cases h) rfl (fun _ _ _ _ _ _ _ us its hl hk => match us, its, hl, hk with | [_, _, _], [_, _], _, _ => ⟨_, rfl, rfl⟩)).choose_spec passN (pc_p (pa_cons pe_int (pa_cons pe_int pa_nil)))) (cl_Rule b) (me_Rule_keeps b) G_Rule_keeps (hr.mono (by decide)) (bindsP F_Rule_keeps fun _ _ _ _ _ _ us hl => match us, hl with | [_, _], _ => rfl) passN (pc_p (pa_cons (pe_new (mk_Row b) G_Row_init (hr.mono (by decide)) (by rfl) (n_Row b) (bindsP F_Row_init fun _ _ _ _ _ _ us hl => match us, hl with | [_, _], _ => rfl) passN (pc_p (pa_cons (pv 5) pa_nil))) pa_nil))) (by intro _; rfl))) (pw_or (pt_cmpR (og_ne hr.units) (pe_mt (pe_new (mk_Rule b) G_Rule_init (hr.mono (by decide)) (by rfl) (n_Rule b) (bnD F_Rule_init 4 2 (fun h => by cases h) rfl (fun _ _ _ _ _ _ _ us its hl hk => match us, its, hl, hk with | [_, _, _, _], [_, _], _, _ => ⟨_, rfl, rfl⟩)).choose_spec passN (pc_p (pa_cons pe_int (pa_cons pe_non (pa_cons (pe_un un_neg pe_int) pa_nil))))) (cl_Rule b) (me_Rule_first_broken b) G_Rule_first_broken (hr.mono (by decide)) (bindsP F_Rule_first_broken fun _ _ _ _ _ _ us hl => match us, hl with | [_, _], _ => rfl) passN (pc_p (pa_cons (pe_new (mk_Row b) G_Row_init (hr.mono (by decide)) (by rfl) (n_Row b) (bindsP F_Row_init fun _ _ _ _ _ _ us hl => match us, hl with | [_, _], _ => rfl) passN (pc_p (pa_cons (pv 5) pa_nil))) pa_nil))) pe_int (nomark _)) (pw_or1 (pt_cmpR (og_ne hr.units) (pe_mt (pe_new (mk_Rule b) G_Rule_init (hr.mono (by decide)) (by rfl) (n_Rule b) (bnD F_Rule_init 3 1 (fun h => by cases h) rfl (fun _ _ _ _ _ _ _ us its hl hk => match us, its, hl, hk with | [_, _, _], [_, _], _, _ => ⟨_, rfl, rfl⟩)).choose_spec passN (pc_p (pa_cons pe_int (pa_cons (pe_un un_neg pe_int) pa_nil)))) (cl_Rule b) (me_Rule_first_broken b) G_Rule_first_broken (hr.mono (by decide)) (bindsP F_Rule_first_broken fun _ _ _ _ _ _ us hl => match us, hl with | [_, _], _ => rfl) passN (pc_p (pa_cons (pe_new (mk_Row b) G_Row_init (hr.mono (by decide)) (by rfl) (n_Row b) (bindsP F_Row_init fun _ _ _ _ _ _ us hl => match us, hl with | [_, _], _ => rfl) passN (pc_p (pa_cons (pv 5) pa_nil))) pa_nil))) pe_int (nomark _))))))) (pss_one (ps_ret pe_bl)) pss_nil)
  (pss_one (ps_ret (pe_fn G_law_refused_right (hr.mono (by decide)) (by rfl) (n_law_refused_right b) F_law_refused_right.kp (bindsP F_law_refused_right fun _ _ _ _ _ _ us hl => match us, hl with | [_, _], _ => rfl) pass0 (pc_p (pa_cons (pv 1) (pa_cons (pv 3) pa_nil)))))))))))))
end
end K12

set_option Elab.async false
set_option linter.all false
set_option maxRecDepth 100000
set_option maxHeartbeats 4000000
namespace K12
open PySem PySem.Spec PyProof.Rows L2 Rl RZ RT Px
section
variable {K : PySem.W.Frag} {mg : Str → Option Value} {w : World}
theorem ct_ok (b : Bd K mg) : CTok K clsT := ⟨(memC (memC (kit_NoneType_Row b) (memC (kit_bool_Row b) (memC (kit_int_Row b) (memC (kit_str_Row b) (memC (kit_list_Row b) (memC (kit_tuple_Row b) (memC (kit_dict_Row b) memN))))))) (memC (memC (kit_NoneType_Rule b) (memC (kit_bool_Rule b) (memC (kit_int_Rule b) (memC (kit_str_Rule b) (memC (kit_list_Rule b) (memC (kit_tuple_Rule b) (memC (kit_dict_Rule b) memN))))))) (memC (memC (kit_NoneType_BadRow b) (memC (kit_bool_BadRow b) (memC (kit_int_BadRow b) (memC (kit_str_BadRow b) (memC (kit_list_BadRow b) (memC (kit_tuple_BadRow b) (memC (kit_dict_BadRow b) memN))))))) (memC (memC (kit_NoneType_BadNumber b) (memC (kit_bool_BadNumber b) (memC (kit_int_BadNumber b) (memC (kit_str_BadNumber b) (memC (kit_list_BadNumber b) (memC (kit_tuple_BadNumber b) (memC (kit_dict_BadNumber b) memN))))))) (memC (memC (kit_NoneType_TooMany b) (memC (kit_bool_TooMany b) (memC (kit_int_TooMany b) (memC (kit_str_TooMany b) (memC (kit_list_TooMany b) (memC (kit_tuple_TooMany b) (memC (kit_dict_TooMany b) memN))))))) (memC (memC (kit_NoneType_BadRule b) (memC (kit_bool_BadRule b) (memC (kit_int_BadRule b) (memC (kit_str_BadRule b) (memC (kit_list_BadRule b) (memC (kit_tuple_BadRule b) (memC (kit_dict_BadRule b) memN))))))) memN)))))),
  (memC (memC (kitO_Row_Row b) (memC (kitO_Row_Rule b) (memC (kitO_Row_BadRow b) (memC (kitO_Row_BadNumber b) (memC (kitO_Row_TooMany b) (memC (kitO_Row_BadRule b) memN)))))) (memC (memC (kitO_Rule_Row b) (memC (kitO_Rule_Rule b) (memC (kitO_Rule_BadRow b) (memC (kitO_Rule_BadNumber b) (memC (kitO_Rule_TooMany b) (memC (kitO_Rule_BadRule b) memN)))))) (memC (memC (kitO_BadRow_Row b) (memC (kitO_BadRow_Rule b) (memC (kitO_BadRow_BadRow b) (memC (kitO_BadRow_BadNumber b) (memC (kitO_BadRow_TooMany b) (memC (kitO_BadRow_BadRule b) memN)))))) (memC (memC (kitO_BadNumber_Row b) (memC (kitO_BadNumber_Rule b) (memC (kitO_BadNumber_BadRow b) (memC (kitO_BadNumber_BadNumber b) (memC (kitO_BadNumber_TooMany b) (memC (kitO_BadNumber_BadRule b) memN)))))) (memC (memC (kitO_TooMany_Row b) (memC (kitO_TooMany_Rule b) (memC (kitO_TooMany_BadRow b) (memC (kitO_TooMany_BadNumber b) (memC (kitO_TooMany_TooMany b) (memC (kitO_TooMany_BadRule b) memN)))))) (memC (memC (kitO_BadRule_Row b) (memC (kitO_BadRule_Rule b) (memC (kitO_BadRule_BadRow b) (memC (kitO_BadRule_BadNumber b) (memC (kitO_BadRule_TooMany b) (memC (kitO_BadRule_BadRule b) memN)))))) memN)))))),
  (memC (memC (kitT_Row_NoneType b) (memC (kitT_Row_bool b) (memC (kitT_Row_int b) (memC (kitT_Row_str b) (memC (kitT_Row_list b) (memC (kitT_Row_tuple b) (memC (kitT_Row_dict b) memN))))))) (memC (memC (kitT_Rule_NoneType b) (memC (kitT_Rule_bool b) (memC (kitT_Rule_int b) (memC (kitT_Rule_str b) (memC (kitT_Rule_list b) (memC (kitT_Rule_tuple b) (memC (kitT_Rule_dict b) memN))))))) (memC (memC (kitT_BadRow_NoneType b) (memC (kitT_BadRow_bool b) (memC (kitT_BadRow_int b) (memC (kitT_BadRow_str b) (memC (kitT_BadRow_list b) (memC (kitT_BadRow_tuple b) (memC (kitT_BadRow_dict b) memN))))))) (memC (memC (kitT_BadNumber_NoneType b) (memC (kitT_BadNumber_bool b) (memC (kitT_BadNumber_int b) (memC (kitT_BadNumber_str b) (memC (kitT_BadNumber_list b) (memC (kitT_BadNumber_tuple b) (memC (kitT_BadNumber_dict b) memN))))))) (memC (memC (kitT_TooMany_NoneType b) (memC (kitT_TooMany_bool b) (memC (kitT_TooMany_int b) (memC (kitT_TooMany_str b) (memC (kitT_TooMany_list b) (memC (kitT_TooMany_tuple b) (memC (kitT_TooMany_dict b) memN))))))) (memC (memC (kitT_BadRule_NoneType b) (memC (kitT_BadRule_bool b) (memC (kitT_BadRule_int b) (memC (kitT_BadRule_str b) (memC (kitT_BadRule_list b) (memC (kitT_BadRule_tuple b) (memC (kitT_BadRule_dict b) memN))))))) memN))))))⟩
theorem xt_ok (b : Bd K mg) : XTok K "DayError" xT := ⟨(memC (xcl_BadRow b).1 (memC (xcl_BadNumber b).1 (memC (xcl_TooMany b).1 (memC (xcl_BadRule b).1 memN)))), (memC (xcl_BadRow b).2.1 (memC (xcl_BadNumber b).2.1 (memC (xcl_TooMany b).2.1 (memC (xcl_BadRule b).2.1 memN)))), (memC (xcl_BadRow b).2.2.1 (memC (xcl_BadNumber b).2.2.1 (memC (xcl_TooMany b).2.2.1 (memC (xcl_BadRule b).2.2.1 memN)))), (memC (xcl_BadRow b).2.2.2 (memC (xcl_BadNumber b).2.2.2 (memC (xcl_TooMany b).2.2.2 (memC (xcl_BadRule b).2.2.2 memN))))⟩
theorem ss_law_heard (b : Bd K mg) : SdS K XL.never (ts_law_heard K w) ws_law_heard := by
  unfold ts_law_heard
  exact (sds_asg sd_var sdg_name)
theorem sr_law_heard (b : Bd K mg) : SdS K XL.never (tr_law_heard K w) wr_law_heard := by
  unfold tr_law_heard
  exact (sds_ret (sd_if (sdt_tru (sd_cb (s_isiX (ct_ok b) (xt_ok b)) (sda_cons sd_var (sda_cons sd_cls sda_nil)))) (sd_xg (xt_ok b) sd_var) sd_non))
theorem sd_is_integer (b : Bd K mg)  : SdF K (sp_is_integer K w) w_is_integer := by
  rw [w_is_integer_eq]
  exact sdf_of (ts := t_is_integer K w) (N := N_is_integer) rfl (fun vs H Q EX h => h) (by
  unfold t_is_integer
  exact (sds_ret (sd_andT (sd_cb (s_isi (ct_ok b)) (sda_cons sd_var (sda_cons sd_ty sda_nil))) (sd_notT (sd_cb (s_isi (ct_ok b)) (sda_cons sd_var (sda_cons sd_ty sda_nil)))))))
theorem sd_is_within (b : Bd K mg) (S_is_integer : SdF K (sp_is_integer K w) w_is_integer) : SdF K (sp_is_within K w) w_is_within := by
  rw [w_is_within_eq]
  exact sdf_of (ts := t_is_within K w) (N := N_is_within) rfl (fun vs H Q EX h => h) (by
  unfold t_is_within
  exact (sds_seq (sds_if (sdt_not (sdt_tru (sd_fn S_is_integer.l (sdc_p (sda_cons sd_var sda_nil))))) (sds_ret sd_bl) sds_next)
  (sds_kill (sds_ret (sd_andT (sd_orT (sd_op s_is sd_var sd_non) (sd_op s_le sd_var sd_var)) (sd_orT (sd_op s_is sd_var sd_non) (sd_op s_le sd_var sd_var)))))))
theorem sd_need_row (b : Bd K mg)  : SdFx K (sp_need_row K w) w_need_row := by
  rw [w_need_row_eq]
  exact sdfx_of (ts := t_need_row K w) (N := N_need_row) rfl (fun vs H Q EX h => h) (fun EX => by
  unfold t_need_row
  exact (sds_if (sdt_not (sdt_tru (sd_cb (s_isi (ct_ok b)) (sda_cons sd_var (sda_cons sd_cls sda_nil))))) (sds_raise (xt_ok b) rfl (sda_cons sd_var sda_nil)) sds_next))
theorem sd_Rule_first_broken (b : Bd K mg) (S_is_within : SdF K (sp_is_within K w) w_is_within) (S_need_row : SdFx K (sp_need_row K w) w_need_row) : SdFx K (sp_Rule_first_broken K w) w_Rule_first_broken := by
  rw [w_Rule_first_broken_eq]
  exact sdfx_of (ts := t_Rule_first_broken K w) (N := N_Rule_first_broken) rfl (fun vs H Q EX h => h) (fun EX => by
  unfold t_Rule_first_broken
  exact (sds_seq (sds_drop (sd_fn S_need_row.x (sdc_p (sda_cons sd_var (sda_cons sd_str sda_nil)))))
  (sds_seq (sds_for (ks := [2]) (sdi_r1 (sda_cons (sd_op s_add (sd_op s_sub (sd_fld sd_var) (sd_fld sd_var)) sd_int) sda_nil)) sdg_name (sds_if (sdt_not (sdt_tru (sd_fn S_is_within.l (sdc_p (sda_cons (sd_op s_sub (sd_op s_ix (sd_fld sd_var) (sd_op s_add sd_var (sd_fld sd_var))) (sd_op s_ix (sd_fld sd_var) sd_var)) (sda_cons (sd_fld sd_var) (sda_cons (sd_fld sd_var) sda_nil))))))) (sds_ret sd_var) sds_next))
  (sds_ret sd_non))))
theorem sd_Rule_keeps (b : Bd K mg) (S_Rule_first_broken : SdFx K (sp_Rule_first_broken K w) w_Rule_first_broken) : SdFx K (sp_Rule_keeps K w) w_Rule_keeps := by
  rw [w_Rule_keeps_eq]
  exact sdfx_of (ts := t_Rule_keeps K w) (N := N_Rule_keeps) rfl (fun vs H Q EX h => h) (fun EX => by
  unfold t_Rule_keeps
  exact (sds_ret (sd_op s_is (sd_mt S_Rule_first_broken.x sd_var (sdc_p (sda_cons sd_var sda_nil))) sd_non)))
theorem sd_law_draw (b : Bd K mg)  : SdF K (sp_law_draw K w) w_law_draw := by
  rw [w_law_draw_eq]
  exact sdf_of (ts := t_law_draw K w) (N := N_law_draw) rfl (fun vs H Q EX h => h) (by
  unfold t_law_draw
  exact (sds_seq (sds_if (sdt_test (sd_op s_gt (sd_op s_ix sd_var sd_int) sd_int)) (sds_seq (sds_asg (sd_op s_ix sd_var sd_int) sdg_name)
  (sds_seq (sds_asg (sd_op s_fd (sd_cb s_int (sda_cons sd_var sda_nil)) sd_var) (sdg_sub sd_var sd_int))
  (sds_ret (sd_op s_md (sd_cb s_int (sda_cons sd_var sda_nil)) sd_var)))) sds_next)
  (sds_kill (sds_seq (sds_asg (sd_op s_ix sd_var sd_int) sdg_name)
  (sds_seq (sds_asg (sd_op s_add sd_var sd_int) (sdg_sub sd_var sd_int))
  (sds_seq (sds_asg (sd_op s_add (sd_op s_mulT sd_int sd_var) sd_int) sdg_name)
  (sds_seq (sds_if (sdt_test (sd_op s_ne (sd_op s_ix sd_var sd_int) (sd_lst sda_nil))) (sds_asg (sd_op s_ix (sd_op s_ix sd_var sd_int) (sd_op s_md (sd_cb s_int (sda_cons sd_var sda_nil)) (sd_cb s_len (sda_cons (sd_op s_ix sd_var sd_int) sda_nil)))) sdg_name) sds_next)
  (sds_kill (sds_seq (sds_if (sdt_and (sdt_test (sd_op s_lt sd_var (sd_cb s_len (sda_cons (sd_op s_ix sd_var sd_int) sda_nil)))) (sdt_test (sd_op s_ge (sd_cb s_abs (sda_cons sd_var sda_nil)) (sd_op s_pw sd_int sd_int)))) (sds_seq (sds_asg (sd_op s_add (sd_op s_mulT sd_int (sd_op s_sub (sd_cb s_abs (sda_cons sd_var sda_nil)) (sd_op s_pw sd_int sd_int))) (sd_cb s_int (sda_cons (sd_op s_lt sd_var sd_int) sda_nil))) sdg_name)
  (sds_seq (sds_asg (sd_op s_fd (sd_cb s_int (sda_cons sd_var sda_nil)) sd_var) (sdg_sub sd_var sd_int))
  (sds_ret (sd_op s_md (sd_cb s_int (sda_cons sd_var sda_nil)) sd_var)))) sds_next)
  (sds_kill (sds_seq (sds_asg (sd_op s_md (sd_cb s_int (sda_cons (sd_op s_pw (sd_op s_add (sd_op s_add (sd_op s_md (sd_cb s_int (sda_cons sd_var sda_nil)) sd_int) (sd_op s_mulT sd_int sd_var)) sd_int) sd_int) sda_nil)) sd_int) sdg_name)
  (sds_seq (sds_asg (sd_op s_md (sd_cb s_int (sda_cons (sd_op s_pw (sd_op s_add (sd_op s_add (sd_op s_mulT sd_var (sd_op s_add (sd_op s_mulT sd_int sd_var) sd_int)) (sd_op s_mulT (sd_op s_mulT sd_int sd_var) sd_var)) sd_int) sd_int) sda_nil)) sd_int) sdg_name)
  (sds_ret (sd_op s_md (sd_cb s_int (sda_cons (sd_op s_fd sd_var sd_int) sda_nil)) sd_var))))))))))))))
theorem sd_law_of (b : Bd K mg) (S_law_draw : SdF K (sp_law_draw K w) w_law_draw) : SdF K (sp_law_of K w) w_law_of := by
  rw [w_law_of_eq]
  exact sdf_of (ts := t_law_of K w) (N := N_law_of) rfl (fun vs H Q EX h => h) (by
  unfold t_law_of
  exact (sds_ret (sd_op s_ix sd_var (sd_fn S_law_draw.l (sdc_p (sda_cons sd_var (sda_cons (sd_cb s_len (sda_cons sd_var sda_nil)) sda_nil)))))))
theorem sd_are_bounds (b : Bd K mg)  : SdF K (sp_are_bounds K w) w_are_bounds := by
  rw [w_are_bounds_eq]
  exact sdf_of (ts := t_are_bounds K w) (N := N_are_bounds) rfl (fun vs H Q EX h => h) (by
  unfold t_are_bounds
  exact (sds_seq (sds_if (sdt_or (sdt_test (sd_op s_is sd_var sd_non)) (sdt_test (sd_op s_is sd_var sd_non))) (sds_ret (sd_orT (sd_op s_isn sd_var sd_non) (sd_op s_isn sd_var sd_non))) sds_next)
  (sds_kill (sds_ret (sd_op s_le sd_var sd_var)))))
theorem sd_need_bound (b : Bd K mg) (S_is_integer : SdF K (sp_is_integer K w) w_is_integer) : SdFx K (sp_need_bound K w) w_need_bound := by
  rw [w_need_bound_eq]
  exact sdfx_of (ts := t_need_bound K w) (N := N_need_bound) rfl (fun vs H Q EX h => h) (fun EX => by
  unfold t_need_bound
  exact (sds_if (sdt_and (sdt_test (sd_op s_isn sd_var sd_non)) (sdt_not (sdt_tru (sd_fn S_is_integer.l (sdc_p (sda_cons sd_var sda_nil)))))) (sds_raise (xt_ok b) rfl (sda_cons sd_var sda_nil)) sds_next))
theorem sd_need_number (b : Bd K mg) (S_is_within : SdF K (sp_is_within K w) w_is_within) : SdFx K (sp_need_number K w) w_need_number := by
  rw [w_need_number_eq]
  exact sdfx_of (ts := t_need_number K w) (N := N_need_number) rfl (fun vs H Q EX h => h) (fun EX => by
  unfold t_need_number
  exact (sds_if (sdt_not (sdt_tru (sd_fn S_is_within.l (sdc_p (sda_cons sd_var (sda_cons sd_var (sda_cons sd_var sda_nil))))))) (sds_raise (xt_ok b) rfl (sda_cons sd_var sda_nil)) sds_next))
theorem sd_Rule_init (b : Bd K mg) (S_are_bounds : SdF K (sp_are_bounds K w) w_are_bounds) (S_need_bound : SdFx K (sp_need_bound K w) w_need_bound) (S_need_number : SdFx K (sp_need_number K w) w_need_number) : SdFx K (sp_Rule_init K w) w_Rule_init := by
  rw [w_Rule_init_eq]
  exact sdfx_of (ts := t_Rule_init K w) (N := N_Rule_init) rfl (fun vs H Q EX h => h) (fun EX => by
  unfold t_Rule_init
  exact (sds_seq (sds_drop (sd_fn S_need_number.x (sdc_p (sda_cons sd_var (sda_cons sd_str (sda_cons sd_int (sda_cons sd_int sda_nil)))))))
  (sds_seq (sds_drop (sd_fn S_need_bound.x (sdc_p (sda_cons sd_var (sda_cons sd_str sda_nil)))))
  (sds_seq (sds_drop (sd_fn S_need_bound.x (sdc_p (sda_cons sd_var (sda_cons sd_str sda_nil)))))
  (sds_seq (sds_if (sdt_not (sdt_tru (sd_fn S_are_bounds.l (sdc_p (sda_cons sd_var (sda_cons sd_var sda_nil)))))) (sds_raise (xt_ok b) rfl (sda_cons sd_str sda_nil)) sds_next)
  (sds_kill (sds_seq (sds_fld (memC (na_Rule_length b) memN) sd_var sd_var)
  (sds_seq (sds_fld (memC (na_Rule_low b) memN) sd_var sd_var)
  (sds_fld (memC (na_Rule_high b) memN) sd_var sd_var)))))))))
theorem sd_law_number (b : Bd K mg) (S_law_draw : SdF K (sp_law_draw K w) w_law_draw) : SdF K (sp_law_number K w) w_law_number := by
  rw [w_law_number_eq]
  exact sdf_of (ts := t_law_number K w) (N := N_law_number) rfl (fun vs H Q EX h => h) (by
  unfold t_law_number
  exact (sds_seq (sds_asg (sd_fn S_law_draw.l (sdc_p (sda_cons sd_var (sda_cons sd_int sda_nil)))) sdg_name)
  (sds_seq (sds_if (sdt_test (sd_op s_lt sd_var sd_int)) (sds_ret (sd_op s_sub (sd_fn S_law_draw.l (sdc_p (sda_cons sd_var (sda_cons sd_int sda_nil)))) sd_int)) sds_next)
  (sds_kill (sds_seq (sds_if (sdt_test (sd_op s_lt sd_var sd_int)) (sds_ret (sd_op s_sub (sd_fn S_law_draw.l (sdc_p (sda_cons sd_var (sda_cons sd_int sda_nil)))) sd_int)) sds_next)
  (sds_kill (sds_ret (sd_op s_mulT (sd_op s_sub sd_int (sd_op s_mulT sd_int (sd_fn S_law_draw.l (sdc_p (sda_cons sd_var (sda_cons sd_int sda_nil)))))) (sd_op s_add (sd_op s_pw sd_int sd_int) (sd_fn S_law_draw.l (sdc_p (sda_cons sd_var (sda_cons sd_int sda_nil)))))))))))))
theorem sd_law_refused_right (b : Bd K mg) (S_Rule_first_broken : SdFx K (sp_Rule_first_broken K w) w_Rule_first_broken) (S_Rule_keeps : SdFx K (sp_Rule_keeps K w) w_Rule_keeps) (S_law_of : SdF K (sp_law_of K w) w_law_of) (S_Rule_init : SdFx K (sp_Rule_init K w) w_Rule_init) (S_law_number : SdF K (sp_law_number K w) w_law_number) : SdF K (sp_law_refused_right K w) w_law_refused_right := by
  rw [w_law_refused_right_eq]
  exact sdf_of (ts := t_law_refused_right K w) (N := N_law_refused_right) rfl (fun vs H Q EX h => h) (by
  unfold t_law_refused_right
  exact (sds_seq (sds_asg (sd_newD (fun _ => (.cons (.non) .nil)) S_Rule_init.n ⟨cl_Rule b, ty_Rule b, fun f hf => nomatch hf⟩ (sdc_p (sda_cons (sd_fn S_law_of.l (sdc_p (sda_cons sd_var (sda_cons (sd_lst (sda_cons sd_int (sda_cons sd_int (sda_cons sd_int sda_nil)))) sda_nil)))) (sda_cons (sd_fn S_law_number.l (sdc_p (sda_cons sd_var sda_nil))) sda_nil)))) sdg_name)
  (sds_seq (sds_asg (sd_fn S_law_of.l (sdc_p (sda_cons sd_var (sda_cons (sd_lst (sda_cons sd_non (sda_cons sd_int (sda_cons sd_var (sda_cons (sd_cb s_tuple (sda_cons sd_var sda_nil)) (sda_cons (sd_bs_ s_join sd_str (sda_cons (sd_lc (gin_name rfl) (sdi_any sd_var) sdg_name sdt_yes (sd_cb s_str (sda_cons sd_var sda_nil))) sda_nil)) (sda_cons sd_var (sda_cons sd_dic (sda_cons sd_bl sda_nil))))))))) sda_nil)))) sdg_name)
  (sds_seq (sds_asg (sd_lst (sda_cons (sd_lam (xt_ok b) rfl (by decide) (fun _ => .non) (fun EX => (sd_mt S_Rule_keeps.x sd_var (sdc_p (sda_cons sd_var sda_nil)))) (ss_law_heard b) (sr_law_heard b)) sda_nil)) sdg_name)
  (sds_seq (sds_drop (sd_bl_ s_app sd_var (sda_cons (sd_lam (xt_ok b) rfl (by decide) (fun _ => .non) (fun EX => (sd_mt S_Rule_first_broken.x sd_var (sdc_p (sda_cons sd_var sda_nil)))) (ss_law_heard b) (sr_law_heard b)) sda_nil)))
  (sds_ret (sd_dp (sd_op s_eq sd_var (sd_lst (sda_cons sd_str (sda_cons sd_str sda_nil)))))))))))
theorem sd_heights_of (b : Bd K mg)  : SdF K (sp_heights_of K w) w_heights_of := by
  rw [w_heights_of_eq]
  exact sdf_of (ts := t_heights_of K w) (N := N_heights_of) rfl (fun vs H Q EX h => h) (by
  unfold t_heights_of
  exact (sds_seq (sds_asg (sd_lst (sda_cons sd_int sda_nil)) sdg_name)
  (sds_seq (sds_for (ks := [0, 2]) (sdi_any sd_var) sdg_name (sds_drop (sd_bl_ s_app sd_var (sda_cons (sd_op s_add (sd_op s_ix sd_var (sd_un s_neg sd_int)) sd_var) sda_nil))))
  (sds_ret (sd_dp (sd_cb s_tuple (sda_cons sd_var sda_nil)))))))
theorem sd_are_integers (b : Bd K mg) (S_is_integer : SdF K (sp_is_integer K w) w_is_integer) : SdF K (sp_are_integers K w) w_are_integers := by
  rw [w_are_integers_eq]
  exact sdf_of (ts := t_are_integers K w) (N := N_are_integers) rfl (fun vs H Q EX h => h) (by
  unfold t_are_integers
  exact (sds_ret (sd_andT (sd_isi2 sd_var) (sd_cb s_all (sda_cons (sd_lc (gin_name rfl) (sdi_any sd_var) sdg_name sdt_yes (sd_fn S_is_integer.l (sdc_p (sda_cons sd_var sda_nil)))) sda_nil)))))
theorem sd_Row_init (b : Bd K mg) (S_heights_of : SdF K (sp_heights_of K w) w_heights_of) (S_are_integers : SdF K (sp_are_integers K w) w_are_integers) : SdFx K (sp_Row_init K w) w_Row_init := by
  rw [w_Row_init_eq]
  exact sdfx_of (ts := t_Row_init K w) (N := N_Row_init) rfl (fun vs H Q EX h => h) (fun EX => by
  unfold t_Row_init
  exact (sds_seq (sds_if (sdt_or (sdt_not (sdt_tru (sd_fn S_are_integers.l (sdc_p (sda_cons sd_var sda_nil))))) (sdt_test (sd_op s_eq (sd_cb s_len (sda_cons sd_var sda_nil)) sd_int))) (sds_raise (xt_ok b) rfl (sda_cons sd_str sda_nil)) sds_next)
  (sds_kill (sds_seq (sds_if (sdt_test (sd_op s_gt (sd_cb s_len (sda_cons sd_var sda_nil)) sd_int)) (sds_raise (xt_ok b) rfl (sda_cons sd_str (sda_cons sd_int sda_nil))) sds_next)
  (sds_kill (sds_seq (sds_fld (memC (na_Row_gains b) memN) sd_var (sd_cb s_tuple (sda_cons sd_var sda_nil)))
  (sds_seq (sds_fld (memC (na_Row_heights b) memN) sd_var (sd_fn S_heights_of.l (sdc_p (sda_cons sd_var sda_nil))))
  (sds_seq (sds_fld (memC (na_Row_days b) memN) sd_var (sd_cb s_len (sda_cons sd_var sda_nil)))
  (sds_fld (memC (na_Row_total b) memN) sd_var (sd_op s_ix (sd_fld sd_var) (sd_un s_neg sd_int)))))))))))
theorem sd_law_bounds (b : Bd K mg) (S_law_draw : SdF K (sp_law_draw K w) w_law_draw) (S_law_number : SdF K (sp_law_number K w) w_law_number) (S_law_of : SdF K (sp_law_of K w) w_law_of) : SdF K (sp_law_bounds K w) w_law_bounds := by
  rw [w_law_bounds_eq]
  exact sdf_of (ts := t_law_bounds K w) (N := N_law_bounds) rfl (fun vs H Q EX h => h) (by
  unfold t_law_bounds
  exact (sds_seq (sds_if (sdt_test (sd_op s_eq sd_var (sd_lst sda_nil))) (sds_seq (sds_asg (sd_fn S_law_number.l (sdc_p (sda_cons sd_var sda_nil))) sdg_name)
  (sds_ret (sd_lst (sda_cons (sd_tup (sda_cons sd_var (sda_cons sd_non sda_nil))) (sda_cons (sd_tup (sda_cons sd_non (sda_cons sd_var sda_nil))) (sda_cons (sd_tup (sda_cons sd_var (sda_cons sd_var sda_nil))) sda_nil)))))) sds_next)
  (sds_kill (sds_seq (sds_par3 (sda_cons (sd_cb s_minT (sda_cons sd_var sda_nil)) (sda_cons (sd_cb s_maxT (sda_cons sd_var sda_nil)) (sda_cons (sd_fn S_law_of.l (sdc_p (sda_cons sd_var (sda_cons sd_var sda_nil)))) sda_nil))))
  (sds_seq (sds_asg (sd_lst (sda_cons (sd_tup (sda_cons sd_var (sda_cons sd_var sda_nil))) (sda_cons (sd_tup (sda_cons (sd_op s_add sd_var sd_int) (sda_cons sd_non sda_nil))) (sda_cons (sd_tup (sda_cons sd_non (sda_cons (sd_op s_sub sd_var sd_int) sda_nil))) (sda_cons (sd_tup (sda_cons sd_var (sda_cons sd_non sda_nil))) (sda_cons (sd_tup (sda_cons sd_non (sda_cons sd_var sda_nil))) (sda_cons (sd_tup (sda_cons sd_var (sda_cons sd_var sda_nil))) (sda_cons (sd_tup (sda_cons sd_var (sda_cons sd_non sda_nil))) sda_nil)))))))) sdg_name)
  (sds_seq (sds_par (sda_cons (sd_fn S_law_number.l (sdc_p (sda_cons sd_var sda_nil))) (sda_cons (sd_fn S_law_draw.l (sdc_p (sda_cons sd_var (sda_cons sd_int sda_nil)))) sda_nil)))
  (sds_ret (sd_op s_add sd_var (sd_lst (sda_cons (sd_tup (sda_cons (sd_op s_sub sd_var sd_int) (sda_cons (sd_op s_add sd_var sd_int) sda_nil))) (sda_cons (sd_tup (sda_cons sd_non (sda_cons sd_var sda_nil))) (sda_cons (sd_tup (sda_cons sd_var (sda_cons (sd_op s_add sd_var sd_var) sda_nil))) (sda_cons (sd_tup (sda_cons (sd_op s_add sd_var sd_int) (sda_cons (sd_op s_add (sd_op s_add sd_var sd_int) sd_var) sda_nil))) sda_nil)))))))))))))
theorem sd_law_says (b : Bd K mg)  : SdF K (sp_law_says K w) w_law_says := by
  rw [w_law_says_eq]
  exact sdf_of (ts := t_law_says K w) (N := N_law_says) rfl (fun vs H Q EX h => h) (by
  unfold t_law_says
  exact (sds_ret (sd_if (sdt_tru sd_var) (sd_op s_isB sd_var sd_bl) (sd_op s_isB sd_var sd_bl))))
theorem sd_law_first (b : Bd K mg)  : SdF K (sp_law_first K w) w_law_first := by
  rw [w_law_first_eq]
  exact sdf_of (ts := t_law_first K w) (N := N_law_first) rfl (fun vs H Q EX h => h) (by
  unfold t_law_first
  exact (sds_seq (sds_for (ks := [0, 3, 4]) (sdi_enumT (sda_cons sd_var sda_nil)) (sdg_tup (sdgs_cons sdg_name (sdgs_cons sdg_name sdgs_nil))) (sds_if (sdt_or (sdt_and (sdt_test (sd_op s_isn sd_var sd_non)) (sdt_test (sd_op s_lt sd_var sd_var))) (sdt_and (sdt_test (sd_op s_isn sd_var sd_non)) (sdt_test (sd_op s_gt sd_var sd_var)))) (sds_ret sd_var) sds_next))
  (sds_ret sd_non)))
theorem sd_law_sums (b : Bd K mg)  : SdF K (sp_law_sums K w) w_law_sums := by
  rw [w_law_sums_eq]
  exact sdf_of (ts := t_law_sums K w) (N := N_law_sums) rfl (fun vs H Q EX h => h) (by
  unfold t_law_sums
  exact (sds_ret (sd_lc (gin_name rfl) (sdi_r1 (sda_cons (sd_op s_add (sd_op s_sub (sd_cb s_len (sda_cons sd_var sda_nil)) sd_var) sd_int) sda_nil)) sdg_name sdt_yes (sd_cb s_sum (sda_cons (sd_sl sd_var (sdo_some sd_var) (sdo_some (sd_op s_add sd_var sd_var))) sda_nil)))))
theorem sd_law_told_right (b : Bd K mg) (S_law_bounds : SdF K (sp_law_bounds K w) w_law_bounds) (S_Rule_keeps : SdFx K (sp_Rule_keeps K w) w_Rule_keeps) (S_law_says : SdF K (sp_law_says K w) w_law_says) (S_law_first : SdF K (sp_law_first K w) w_law_first) (S_Rule_first_broken : SdFx K (sp_Rule_first_broken K w) w_Rule_first_broken) (S_Rule_init : SdFx K (sp_Rule_init K w) w_Rule_init) (S_law_sums : SdF K (sp_law_sums K w) w_law_sums) (S_Row_init : SdFx K (sp_Row_init K w) w_Row_init) (S_law_draw : SdF K (sp_law_draw K w) w_law_draw) : SdF K (sp_law_told_right K w) w_law_told_right := by
  rw [w_law_told_right_eq]
  exact sdf_of (ts := t_law_told_right K w) (N := N_law_told_right) rfl (fun vs H Q EX h => h) (by
  unfold t_law_told_right
  exact (sds_seq (sds_par3 (sda_cons (sd_new S_Row_init.n ⟨cl_Row b, ty_Row b, fun f hf => nomatch hf⟩ (sdc_p (sda_cons sd_var sda_nil))) (sda_cons (sd_new S_Row_init.n ⟨cl_Row b, ty_Row b, fun f hf => nomatch hf⟩ (sdc_p (sda_cons (sd_rev sd_var) sda_nil))) (sda_cons (sd_fn S_law_sums.l (sdc_p (sda_cons sd_var (sda_cons sd_var sda_nil)))) sda_nil))))
  (sds_seq (sds_asg (sd_fn S_law_draw.l (sdc_p (sda_cons sd_var (sda_cons (sd_cb s_len (sda_cons sd_var sda_nil)) sda_nil)))) sdg_name)
  (sds_seq (sds_asg (sd_op s_add (sd_op s_add sd_var sd_int) (sd_fn S_law_draw.l (sdc_p (sda_cons sd_var (sda_cons (sd_op s_sub (sd_cb s_len (sda_cons sd_var sda_nil)) sd_var) sda_nil))))) sdg_name)
  (sds_seq (sds_par (sda_cons (sd_new S_Row_init.n ⟨cl_Row b, ty_Row b, fun f hf => nomatch hf⟩ (sdc_p (sda_cons (sd_sl sd_var (sdo_some sd_var) (sdo_some sd_var)) sda_nil))) (sda_cons (sd_fn S_law_sums.l (sdc_p (sda_cons (sd_sl sd_var (sdo_some sd_var) (sdo_some sd_var)) (sda_cons sd_var sda_nil)))) sda_nil)))
  (sds_seq (sds_for (ks := [6, 7, 10, 11, 12, 13, 14]) (sdi_any (sd_fn S_law_bounds.l (sdc_p (sda_cons sd_var (sda_cons sd_var sda_nil))))) (sdg_tup (sdgs_cons sdg_name (sdgs_cons sdg_name sdgs_nil))) (sds_seq (sds_par (sda_cons (sd_newD (fun _ => .nil) S_Rule_init.n ⟨cl_Rule b, ty_Rule b, fun f hf => nomatch hf⟩ (sdc_p (sda_cons sd_var (sda_cons sd_var (sda_cons sd_var sda_nil))))) (sda_cons (sd_fn S_law_first.l (sdc_p (sda_cons sd_var (sda_cons sd_var (sda_cons sd_var sda_nil))))) sda_nil)))
  (sds_seq (sds_asg (sd_mt S_Rule_first_broken.n sd_var (sdc_p (sda_cons sd_var sda_nil))) sdg_name)
  (sds_seq (sds_if (sdt_or (sdt_test (sd_op s_ne sd_var sd_var)) (sdt_or (sdt_tru (sd_cb (s_isi (ct_ok b)) (sda_cons sd_var (sda_cons sd_ty sda_nil)))) (sdt_not (sdt_tru (sd_fn S_law_says.l (sdc_p (sda_cons (sd_mt S_Rule_keeps.n sd_var (sdc_p (sda_cons sd_var sda_nil))) (sda_cons (sd_op s_is sd_var sd_non) sda_nil)))))))) (sds_ret sd_bl) sds_next)
  (sds_kill (sds_seq (sds_if (sdt_or (sdt_not (sdt_tru (sd_fn S_law_says.l (sdc_p (sda_cons (sd_mtK S_Rule_keeps.n sd_var (sdc_k (sda_cons sd_var sda_nil))) (sda_cons (sd_op s_is sd_var sd_non) sda_nil)))))) (sdt_test (sd_op s_ne (sd_mtK S_Rule_first_broken.n sd_var (sdc_k (sda_cons sd_var sda_nil))) (sd_fn S_law_first.l (sdc_p (sda_cons (sd_rev sd_var) (sda_cons sd_var (sda_cons sd_var sda_nil)))))))) (sds_ret sd_bl) sds_next)
  (sds_kill (sds_if (sdt_or (sdt_not (sdt_tru (sd_fn S_law_says.l (sdc_p (sda_cons (sd_mt S_Rule_keeps.n sd_var (sdc_p (sda_cons sd_var sda_nil))) (sda_cons (sd_op s_is (sd_fn S_law_first.l (sdc_p (sda_cons sd_var (sda_cons sd_var (sda_cons sd_var sda_nil))))) sd_non) sda_nil)))))) (sdt_and (sdt_test (sd_op s_is sd_var sd_non)) (sdt_not (sdt_tru (sd_mt S_Rule_keeps.n sd_var (sdc_p (sda_cons sd_var sda_nil))))))) (sds_ret sd_bl) sds_next))))))))
  (sds_ret (sd_op s_eq (sd_fld sd_var) (sd_cb s_tuple (sda_cons sd_var sda_nil))))))))))
theorem sd_law_gains (b : Bd K mg) (S_law_draw : SdF K (sp_law_draw K w) w_law_draw) (S_law_number : SdF K (sp_law_number K w) w_law_number) : SdF K (sp_law_gains K w) w_law_gains := by
  rw [w_law_gains_eq]
  exact sdf_of (ts := t_law_gains K w) (N := N_law_gains) rfl (fun vs H Q EX h => h) (by
  unfold t_law_gains
  exact (sds_seq (sds_asg (sd_lc (gin_name rfl) (sdi_r1 (sda_cons sd_var sda_nil)) sdg_name sdt_yes (sd_fn S_law_number.l (sdc_p (sda_cons sd_var sda_nil)))) sdg_name)
  (sds_seq (sds_asg (sd_op s_add sd_int (sd_fn S_law_draw.l (sdc_p (sda_cons sd_var (sda_cons sd_int sda_nil))))) sdg_name)
  (sds_ret (sd_if (sdt_test (sd_op s_eq (sd_fn S_law_draw.l (sdc_p (sda_cons sd_var (sda_cons sd_int sda_nil)))) sd_int)) (sd_lc (gin_name rfl) (sdi_r1 (sda_cons sd_var sda_nil)) sdg_name sdt_yes (sd_op s_ix sd_var (sd_op s_md sd_var sd_var))) sd_var)))))
theorem sd_law_pen (b : Bd K mg)  : SdF K (sp_law_pen K w) w_law_pen := by
  rw [w_law_pen_eq]
  exact sdf_of (ts := t_law_pen K w) (N := N_law_pen) rfl (fun vs H Q EX h => h) (by
  unfold t_law_pen
  exact (sds_ret (sd_lst (sda_cons (sd_lc (gin_name rfl) (sdi_any (sd_sl sd_var sdo_none (sdo_some sd_int))) sdg_name sdt_yes (sd_cb s_int (sda_cons sd_var sda_nil))) (sda_cons sd_int (sda_cons sd_int sda_nil))))))
theorem sd_law (b : Bd K mg) (S_law_refused_right : SdF K (sp_law_refused_right K w) w_law_refused_right) (S_Rule_init : SdFx K (sp_Rule_init K w) w_Rule_init) (S_Rule_first_broken : SdFx K (sp_Rule_first_broken K w) w_Rule_first_broken) (S_Row_init : SdFx K (sp_Row_init K w) w_Row_init) (S_Rule_keeps : SdFx K (sp_Rule_keeps K w) w_Rule_keeps) (S_law_told_right : SdF K (sp_law_told_right K w) w_law_told_right) (S_law_draw : SdF K (sp_law_draw K w) w_law_draw) (S_law_gains : SdF K (sp_law_gains K w) w_law_gains) (S_law_of : SdF K (sp_law_of K w) w_law_of) (S_law_pen : SdF K (sp_law_pen K w) w_law_pen) : SdF K (sp_law K w) w_law := by
  rw [w_law_eq]
  exact sdf_of (ts := t_law K w) (N := N_law) rfl (fun vs H Q EX h => h) (by
  unfold t_law
  exact (sds_seq (sds_asg (sd_fn S_law_pen.l (sdc_p (sda_cons sd_var sda_nil))) sdg_name)
  (sds_seq (sds_asg (sd_fn S_law_of.l (sdc_p (sda_cons sd_var (sda_cons (sd_lst (sda_cons sd_int (sda_cons sd_int (sda_cons sd_int (sda_cons sd_int (sda_cons sd_int (sda_cons sd_int (sda_cons sd_int (sda_cons sd_int (sda_cons sd_int (sda_cons sd_int sda_nil))))))))))) sda_nil)))) sdg_name)
  (sds_seq (sds_asg (sd_fn S_law_gains.l (sdc_p (sda_cons sd_var (sda_cons sd_var sda_nil)))) sdg_name)
  (sds_seq (sds_asg (sd_lst (sda_cons sd_int (sda_cons sd_var (sda_cons (sd_cb s_minT (sda_cons (sd_op s_add sd_var sd_int) (sda_cons sd_int sda_nil))) (sda_cons (sd_op s_add sd_int (sd_fn S_law_draw.l (sdc_p (sda_cons sd_var (sda_cons sd_var sda_nil))))) (sda_cons (sd_op s_add sd_int (sd_fn S_law_draw.l (sdc_p (sda_cons sd_var (sda_cons sd_var sda_nil))))) (sda_cons (sd_op s_add sd_int (sd_fn S_law_draw.l (sdc_p (sda_cons sd_var (sda_cons sd_int sda_nil))))) sda_nil))))))) sdg_name)
  (sds_seq (sds_if (sdt_test (sd_op s_ne (sd_lc (gin_name rfl) (sdi_any sd_var) sdg_name (sdt_not (sdt_tru (sd_fn S_law_told_right.l (sdc_p (sda_cons sd_var (sda_cons sd_var (sda_cons sd_var sda_nil))))))) sd_var) (sd_lst sda_nil))) (sds_ret (sd_dp sd_bl)) sds_next)
  (sds_kill (sds_seq (sds_asg (sd_lst (sda_cons (sd_un s_neg sd_int) (sda_cons sd_int (sda_cons (sd_un s_neg sd_int) (sda_cons (sd_un s_neg sd_int) (sda_cons sd_int (sda_cons (sd_un s_neg sd_int) sda_nil))))))) sdg_name)
  (sds_seq (sds_if (sdt_or (sdt_not (sdt_tru (sd_mt S_Rule_keeps.n (sd_newD (fun _ => .nil) S_Rule_init.n ⟨cl_Rule b, ty_Rule b, fun f hf => nomatch hf⟩ (sdc_p (sda_cons sd_int (sda_cons sd_non (sda_cons (sd_un s_neg sd_int) sda_nil))))) (sdc_p (sda_cons (sd_new S_Row_init.n ⟨cl_Row b, ty_Row b, fun f hf => nomatch hf⟩ (sdc_p (sda_cons sd_var sda_nil))) sda_nil))))) (sdt_or (sdt_not (sdt_tru (sd_mt S_Rule_keeps.n (sd_newD (fun _ => (.cons (.non) .nil)) S_Rule_init.n ⟨cl_Rule b, ty_Rule b, fun f hf => nomatch hf⟩ (sdc_p (sda_cons sd_int (sda_cons sd_int sda_nil)))) (sdc_p (sda_cons (sd_new S_Row_init.n ⟨cl_Row b, ty_Row b, fun f hf => nomatch hf⟩ (sdc_p (sda_cons sd_var sda_nil))) sda_nil))))) (sdt_or (sdt_test (sd_op s_ne (sd_mt S_Rule_first_broken.n (sd_newD (fun _ => .nil) S_Rule_init.n ⟨cl_Rule b, ty_Rule b, fun f hf => nomatch hf⟩ (sdc_p (sda_cons sd_int (sda_cons sd_non (sda_cons (sd_un s_neg sd_int) sda_nil))))) (sdc_p (sda_cons (sd_new S_Row_init.n ⟨cl_Row b, ty_Row b, fun f hf => nomatch hf⟩ (sdc_p (sda_cons sd_var sda_nil))) sda_nil))) sd_int)) (sdt_test (sd_op s_ne (sd_mt S_Rule_first_broken.n (sd_newD (fun _ => (.cons (.non) .nil)) S_Rule_init.n ⟨cl_Rule b, ty_Rule b, fun f hf => nomatch hf⟩ (sdc_p (sda_cons sd_int (sda_cons (sd_un s_neg sd_int) sda_nil)))) (sdc_p (sda_cons (sd_new S_Row_init.n ⟨cl_Row b, ty_Row b, fun f hf => nomatch hf⟩ (sdc_p (sda_cons sd_var sda_nil))) sda_nil))) sd_int))))) (sds_ret (sd_dp sd_bl)) sds_next)
  (sds_kill (sds_ret (sd_dp (sd_fn S_law_refused_right.l (sdc_p (sda_cons sd_var (sda_cons sd_var sda_nil))))))))))))))))
theorem sd_all (b : Bd K mg) : SdF K (sp_law K w) w_law := by
  have S_is_integer : SdF K (sp_is_integer K w) w_is_integer := sd_is_integer b 
  have S_is_within : SdF K (sp_is_within K w) w_is_within := sd_is_within b S_is_integer
  have S_need_row : SdFx K (sp_need_row K w) w_need_row := sd_need_row b 
  have S_Rule_first_broken : SdFx K (sp_Rule_first_broken K w) w_Rule_first_broken := sd_Rule_first_broken b S_is_within S_need_row
  have S_Rule_keeps : SdFx K (sp_Rule_keeps K w) w_Rule_keeps := sd_Rule_keeps b S_Rule_first_broken
  have S_law_draw : SdF K (sp_law_draw K w) w_law_draw := sd_law_draw b 
  have S_law_of : SdF K (sp_law_of K w) w_law_of := sd_law_of b S_law_draw
  have S_are_bounds : SdF K (sp_are_bounds K w) w_are_bounds := sd_are_bounds b 
  have S_need_bound : SdFx K (sp_need_bound K w) w_need_bound := sd_need_bound b S_is_integer
  have S_need_number : SdFx K (sp_need_number K w) w_need_number := sd_need_number b S_is_within
  have S_Rule_init : SdFx K (sp_Rule_init K w) w_Rule_init := sd_Rule_init b S_are_bounds S_need_bound S_need_number
  have S_law_number : SdF K (sp_law_number K w) w_law_number := sd_law_number b S_law_draw
  have S_law_refused_right : SdF K (sp_law_refused_right K w) w_law_refused_right := sd_law_refused_right b S_Rule_first_broken S_Rule_keeps S_law_of S_Rule_init S_law_number
  have S_heights_of : SdF K (sp_heights_of K w) w_heights_of := sd_heights_of b 
  have S_are_integers : SdF K (sp_are_integers K w) w_are_integers := sd_are_integers b S_is_integer
  have S_Row_init : SdFx K (sp_Row_init K w) w_Row_init := sd_Row_init b S_heights_of S_are_integers
  have S_law_bounds : SdF K (sp_law_bounds K w) w_law_bounds := sd_law_bounds b S_law_draw S_law_number S_law_of
  have S_law_says : SdF K (sp_law_says K w) w_law_says := sd_law_says b 
  have S_law_first : SdF K (sp_law_first K w) w_law_first := sd_law_first b 
  have S_law_sums : SdF K (sp_law_sums K w) w_law_sums := sd_law_sums b 
  have S_law_told_right : SdF K (sp_law_told_right K w) w_law_told_right := sd_law_told_right b S_law_bounds S_Rule_keeps S_law_says S_law_first S_Rule_first_broken S_Rule_init S_law_sums S_Row_init S_law_draw
  have S_law_gains : SdF K (sp_law_gains K w) w_law_gains := sd_law_gains b S_law_draw S_law_number
  have S_law_pen : SdF K (sp_law_pen K w) w_law_pen := sd_law_pen b 
  exact sd_law b S_law_refused_right S_Rule_init S_Rule_first_broken S_Row_init S_Rule_keeps S_law_told_right S_law_draw S_law_gains S_law_of S_law_pen
end
end K12

set_option Elab.async false
set_option linter.all false
set_option maxRecDepth 100000
set_option maxHeartbeats 4000000
namespace K12
open PySem PySem.Spec PyProof.Rows L2 Rl RZ RT Px Ty
@[irreducible] noncomputable def m_law_pen (script_0 : List Int) : Res ((List Int) × Int × Int) :=
  (lcM (fun (x_1 : Int) => x_1) (cutD script_0 none (some 61))).bind fun l_3 =>
  (Res.ok (l_3, 0, 0))
theorem T_law_pen (script_0 : List Int) (M : Mem) (k : D → Mem → Prop) (E : XP) (h : (m_law_pen script_0).wx E fun r => ∀ p, M p = none → k (.ref p) (mu M p ((cL3 (eL D.int) D.int D.int) r))) : w_law_pen [D.scr script_0] M k E := by
  rw [w_law_pen_eq]
  obtain ⟨m, key, e⟩ : ∃ m, BJ (fun _ : Unit => M) [some (D.scr script_0), none] ()
    (wRet (wLst true (waCons (wLc false (wiAny (wSl false (wVar 0) woNone (woSome (wC (.int 61))))) (wgName 1) wYes (wCB (b1 dInt) (waCons (wVar 1) waNil)) [1]) (waCons (wC (.int 0)) (waCons (wC (.int 0)) waNil))))) (fun P r => ∀ p, M p = none → P.rt (.ref p) (mu M p ((cL3 (eL D.int) D.int D.int) r))) m ∧ m = m_law_pen script_0 := ⟨_,
    (bj_one (bj_retN' (fin := fun a _ => a) (nj_lst (c := (cL3 (eL D.int) D.int D.int)) (aj_cons (ej_lcM (eo := D.int) (ρt := fun (x_1 : Int) => [some (D.scr script_0), some (D.int x_1)]) (ij_L (ej_sl (e := (eL D.int)) sl_scr (ej_var (e := D.scr) script_0 rfl) (fun _ _ => oj_none) (fun _ _ _ _ => (oj_some ej_int)))) (fun _ _ _ _ h => h) (fun x_1 _ => (ej_cb1 o_int (ej_var (e := D.int) x_1 rfl)))) (fun _ _ => (aj_cons ej_int (fun _ _ => (aj_one ej_int))))) (fun _ => Nat.le_of_ble_eq_true rfl) (fun _ => rfl)) (fun P a s' h => (fun P h => h) P h))), (by unfold m_law_pen; rfl)⟩
  exact key { nx := fun _ M' => k .non M', rt := k } E (by rw [e]; exact h)
@[irreducible] noncomputable def m_law_draw (t_base : (List Int) × Int × Int) (many_0 : Int) : Res (Int × ((List Int) × Int × Int)) :=
  (if (decide (t_base.2.2 > 0)) then
  let rest_2 := t_base.2.2
  (fdR rest_2 many_0).bind fun t_4 =>
  let s_5 := (t_base.1, t_base.2.1, t_4)
  (mdR rest_2 many_0).bind fun t_6 =>
  (Res.ok (t_6, s_5))
  else
  let turn_7 := t_base.2.1
  let s_9 := (t_base.1, (turn_7 + 1), t_base.2.2)
  (mulR 61007 turn_7).bind fun t_11 =>
  let cell_10 := (t_11 + 4217)
  Res.bind (if (!(decide (s_9.1 = []))) then
  (mdR turn_7 (s_9.1.length : Int)).bind fun t_18 =>
  (ixR s_9.1 t_18).bind fun t_19 =>
  let cell_17 := t_19
  (Res.ok (cell_17, s_9))
  else
  (Res.ok (cell_10, s_9))) fun q_52 =>
  let v_21 := q_52.1
  let s_22 := q_52.2
  Res.bind (if (decide (turn_7 < (s_22.1.length : Int))) then (pwR 10 18).bind fun t_27 =>
  (Res.ok (decide ((v_21.natAbs : Int) ≥ t_27))) else .ok false) fun b_26 =>
  (if b_26 then
  (pwR 10 18).bind fun t_30 =>
  (mulR 2 ((v_21.natAbs : Int) - t_30)).bind fun t_31 =>
  let rest_29 := (t_31 + (if (decide (v_21 < 0)) then 1 else 0))
  (fdR rest_29 many_0).bind fun t_33 =>
  let s_34 := (s_22.1, s_22.2.1, t_33)
  (mdR rest_29 many_0).bind fun t_35 =>
  (Res.ok (t_35, s_34))
  else
  (mdR v_21 2147483563).bind fun t_37 =>
  (mulR 73013 turn_7).bind fun t_38 =>
  (pwR ((t_37 + t_38) + 4217) 5).bind fun t_39 =>
  (mdR t_39 2147483579).bind fun t_40 =>
  let mixed_36 := t_40
  (mulR 2 turn_7).bind fun t_43 =>
  (mulR mixed_36 (t_43 + 2207)).bind fun t_44 =>
  (mulR 61007 turn_7).bind fun t_45 =>
  (mulR t_45 turn_7).bind fun t_46 =>
  (pwR ((t_44 + t_46) + 73013) 3).bind fun t_47 =>
  (mdR t_47 2147483587).bind fun t_48 =>
  let mixed_42 := t_48
  (fdR mixed_42 64).bind fun t_50 =>
  (mdR t_50 many_0).bind fun t_51 =>
  (Res.ok (t_51, s_22))))
theorem T_law_draw (t_base : (List Int) × Int × Int) (many_0 : Int) (M : Mem) (p_base : Addr) (k : D → Mem → Prop) (E : XP) (hp_base : M p_base = none) (h : (m_law_draw t_base many_0).wx E fun r => k (D.int r.1) (mu M p_base ((cL3 (eL D.int) D.int D.int) r.2))) : w_law_draw [D.ref p_base, D.int many_0] (mu M p_base ((cL3 (eL D.int) D.int D.int) t_base)) k E := by
  rw [w_law_draw_eq]
  obtain ⟨m, key, e⟩ : ∃ m, BJ (fun t => mu M p_base ((cL3 (eL D.int) D.int D.int) t)) [some (D.ref p_base), some (D.int many_0), none, none, none, none] t_base
    (wSeq (wIfS (wTest (wOp dGt (wOp dIx (wVar 0) (wC (.int 2))) (wC (.int 0)))) (wSeq (wAsg (wOp dIx (wVar 0) (wC (.int 2))) (wgName 2))
  (wSeq (wAsg (wOp dFd (wCB (b1 dInt) (waCons (wVar 2) waNil)) (wVar 1)) (wgSub (wVar 0) (wC (.int 2))))
  (wRet (wOp dMd (wCB (b1 dInt) (waCons (wVar 2) waNil)) (wVar 1))))) wNext)
  (wKill [2, 3, 4, 5] (wSeq (wAsg (wOp dIx (wVar 0) (wC (.int 1))) (wgName 3))
  (wSeq (wAsg (wOp (dAdd false) (wVar 3) (wC (.int 1))) (wgSub (wVar 0) (wC (.int 1))))
  (wSeq (wAsg (wOp (dAdd false) (wOp (dMulT false) (wC (.int 61007)) (wVar 3)) (wC (.int 4217))) (wgName 4))
  (wSeq (wIfS (wTest (wOp dNe (wOp dIx (wVar 0) (wC (.int 0))) (wLst false waNil))) (wAsg (wOp dIx (wOp dIx (wVar 0) (wC (.int 0))) (wOp dMd (wCB (b1 dInt) (waCons (wVar 3) waNil)) (wCB (b1 dLen) (waCons (wOp dIx (wVar 0) (wC (.int 0))) waNil)))) (wgName 4)) wNext)
  (wKill [2, 5] (wSeq (wIfS (wAnd (wTest (wOp dLt (wVar 3) (wCB (b1 dLen) (waCons (wOp dIx (wVar 0) (wC (.int 0))) waNil)))) (wTest (wOp dGe (wCB (b1 dAbs) (waCons (wVar 4) waNil)) (wOp dPw (wC (.int 10)) (wC (.int 18)))))) (wSeq (wAsg (wOp (dAdd false) (wOp (dMulT false) (wC (.int 2)) (wOp dSub (wCB (b1 dAbs) (waCons (wVar 4) waNil)) (wOp dPw (wC (.int 10)) (wC (.int 18))))) (wCB (b1 dInt) (waCons (wOp dLt (wVar 4) (wC (.int 0))) waNil))) (wgName 2))
  (wSeq (wAsg (wOp dFd (wCB (b1 dInt) (waCons (wVar 2) waNil)) (wVar 1)) (wgSub (wVar 0) (wC (.int 2))))
  (wRet (wOp dMd (wCB (b1 dInt) (waCons (wVar 2) waNil)) (wVar 1))))) wNext)
  (wKill [2, 5] (wSeq (wAsg (wOp dMd (wCB (b1 dInt) (waCons (wOp dPw (wOp (dAdd false) (wOp (dAdd false) (wOp dMd (wCB (b1 dInt) (waCons (wVar 4) waNil)) (wC (.int 2147483563))) (wOp (dMulT false) (wC (.int 73013)) (wVar 3))) (wC (.int 4217))) (wC (.int 5))) waNil)) (wC (.int 2147483579))) (wgName 5))
  (wSeq (wAsg (wOp dMd (wCB (b1 dInt) (waCons (wOp dPw (wOp (dAdd false) (wOp (dAdd false) (wOp (dMulT false) (wVar 5) (wOp (dAdd false) (wOp (dMulT false) (wC (.int 2)) (wVar 3)) (wC (.int 2207)))) (wOp (dMulT false) (wOp (dMulT false) (wC (.int 61007)) (wVar 3)) (wVar 3))) (wC (.int 73013))) (wC (.int 3))) waNil)) (wC (.int 2147483587))) (wgName 5))
  (wRet (wOp dMd (wCB (b1 dInt) (waCons (wOp dFd (wVar 5) (wC (.int 64))) waNil)) (wVar 1)))))))))))))) (Φd (fun r : Int × ((List Int) × Int × Int) => D.int r.1) fun r => mu M p_base ((cL3 (eL D.int) D.int D.int) r.2)) m ∧ m = m_law_draw t_base many_0 := ⟨_,
    (bj_if (tj_test (ej_op o_gt (ej_ixkC (e := D.int) (ca_base hp_base) rfl (fun t => t.2.2) (fun t N k h => cell_mu (ix_of rfl h))) (fun _ _ => ej_int))) (fun s_1 => (bj_assoc (bj_asg (e := D.int) (ej_ixkC (e := D.int) (ca_base hp_base) rfl (fun t => t.2.2) (fun t N k h => cell_mu (ix_of rfl h))) (fun rest_2 s_3 => (bj_rho (ρ2 := [some (D.ref p_base), some (D.int many_0), some (D.int rest_2), none, none, none]) rfl (bj_assoc (bj_setk (e := D.int) (fun t a => (t.1, t.2.1, a)) (ca_base hp_base) rfl (fun t a N k h => set_mu rfl h) (ej_op o_fd (ej_cb1 o_int (ej_var (e := D.int) rest_2 rfl)) (fun _ _ => (ej_var (e := D.int) many_0 rfl))) (fun _ => (bj_rho (ρ2 := [some (D.ref p_base), some (D.int many_0), some (D.int rest_2), none, none, none]) rfl (bj_ret (fin := fun a s' => (a, s')) (ej_op o_md (ej_cb1 o_int (ej_var (e := D.int) rest_2 rfl)) (fun _ _ => (ej_var (e := D.int) many_0 rfl))) (fun P a s' h => (fun P h => h.1) P h))))))))))) (fun s_1 => (bj_skip (bj_kill (bj_rho (ρ2 := [some (D.ref p_base), some (D.int many_0), none, none, none, none]) rfl (bj_rho (ρ2 := [some (D.ref p_base), some (D.int many_0), none, none, none, none]) rfl (bj_asg (e := D.int) (ej_ixkC (e := D.int) (ca_base hp_base) rfl (fun t => t.2.1) (fun t N k h => cell_mu (ix_of rfl h))) (fun turn_7 s_8 => (bj_rho (ρ2 := [some (D.ref p_base), some (D.int many_0), none, some (D.int turn_7), none, none]) rfl (bj_setk (e := D.int) (fun t a => (t.1, a, t.2.2)) (ca_base hp_base) rfl (fun t a N k h => set_mu rfl h) (ej_op o_add (ej_var (e := D.int) turn_7 rfl) (fun _ _ => ej_int)) (fun _ => (bj_rho (ρ2 := [some (D.ref p_base), some (D.int many_0), none, some (D.int turn_7), none, none]) rfl (bj_asg (e := D.int) (ej_op o_add (ej_op o_mul ej_int (fun _ _ => (ej_var (e := D.int) turn_7 rfl))) (fun _ _ => ej_int)) (fun cell_10 s_12 => (bj_rho (ρ2 := [some (D.ref p_base), some (D.int many_0), none, some (D.int turn_7), some (D.int cell_10), none]) rfl (bj_ifJ (σ := Int) (ρj := fun v_21 => [some (D.ref p_base), some (D.int many_0), none, some (D.int turn_7), some (D.int v_21), none]) (tj_test (ej_op (o_ne (e := (eL D.int)) (peq_of (pd_L pd_int) (by decide) (fun _ _ _ _ h => h))) (ej_ixkC (e := (eL D.int)) (ca_base hp_base) rfl (fun t => t.1) (fun t N k h => cell_mu (ix_of rfl h))) (fun _ _ => (ej_lstL (e := D.int) lj_nil (by decide))))) (fun _ => (bj_one (bj_asg (e := D.int) (ej_op (o_ix (e := D.int)) (ej_ixkC (e := (eL D.int)) (ca_base hp_base) rfl (fun t => t.1) (fun t N k h => cell_mu (ix_of rfl h))) (fun _ _ => (ej_op o_md (ej_cb1 o_int (ej_var (e := D.int) turn_7 rfl)) (fun _ _ => (ej_cb1 (o_len (e := D.int)) (ej_ixkC (e := (eL D.int)) (ca_base hp_base) rfl (fun t => t.1) (fun t N k h => cell_mu (ix_of rfl h)))))))) (fun cell_17 s_20 => (bj_jn (v := cell_17) rfl))))) (fun _ => (bj_jn (v := cell_10) rfl)) (fun v_21 _ => (bj_rho (ρ2 := [some (D.ref p_base), some (D.int many_0), none, some (D.int turn_7), some (D.int v_21), none]) rfl (bj_if (tj_andS (fun s_23 k_24 => (pwR 10 18).bind fun t_25 =>
  k_24 (decide ((v_21.natAbs : Int) ≥ t_25))) (tj_test (ej_op o_lt (ej_var (e := D.int) turn_7 rfl) (fun _ _ => (ej_cb1 (o_len (e := D.int)) (ej_ixkC (e := (eL D.int)) (ca_base hp_base) rfl (fun t => t.1) (fun t N k h => cell_mu (ix_of rfl h))))))) (fun _ => (tj_test (ej_op o_ge (ej_cb1 o_abs (ej_var (e := D.int) v_21 rfl)) (fun _ _ => (ej_op o_pw ej_int (fun _ _ => ej_int)))))) (fun _ _ => rfl)) (fun s_28 => (bj_assoc (bj_asg (e := D.int) (ej_op o_add (ej_op o_mul ej_int (fun _ _ => (ej_op o_sub (ej_cb1 o_abs (ej_var (e := D.int) v_21 rfl)) (fun _ _ => (ej_op o_pw ej_int (fun _ _ => ej_int)))))) (fun _ _ => (ej_cb1 o_intB (ej_op o_lt (ej_var (e := D.int) v_21 rfl) (fun _ _ => ej_int))))) (fun rest_29 s_32 => (bj_rho (ρ2 := [some (D.ref p_base), some (D.int many_0), some (D.int rest_29), some (D.int turn_7), some (D.int v_21), none]) rfl (bj_assoc (bj_setk (e := D.int) (fun t a => (t.1, t.2.1, a)) (ca_base hp_base) rfl (fun t a N k h => set_mu rfl h) (ej_op o_fd (ej_cb1 o_int (ej_var (e := D.int) rest_29 rfl)) (fun _ _ => (ej_var (e := D.int) many_0 rfl))) (fun _ => (bj_rho (ρ2 := [some (D.ref p_base), some (D.int many_0), some (D.int rest_29), some (D.int turn_7), some (D.int v_21), none]) rfl (bj_ret (fin := fun a s' => (a, s')) (ej_op o_md (ej_cb1 o_int (ej_var (e := D.int) rest_29 rfl)) (fun _ _ => (ej_var (e := D.int) many_0 rfl))) (fun P a s' h => (fun P h => h.1) P h))))))))))) (fun s_28 => (bj_skip (bj_kill (bj_rho (ρ2 := [some (D.ref p_base), some (D.int many_0), none, some (D.int turn_7), some (D.int v_21), none]) rfl (bj_rho (ρ2 := [some (D.ref p_base), some (D.int many_0), none, some (D.int turn_7), some (D.int v_21), none]) rfl (bj_asg (e := D.int) (ej_op o_md (ej_cb1 o_int (ej_op o_pw (ej_op o_add (ej_op o_add (ej_op o_md (ej_cb1 o_int (ej_var (e := D.int) v_21 rfl)) (fun _ _ => ej_int)) (fun _ _ => (ej_op o_mul ej_int (fun _ _ => (ej_var (e := D.int) turn_7 rfl))))) (fun _ _ => ej_int)) (fun _ _ => ej_int))) (fun _ _ => ej_int)) (fun mixed_36 s_41 => (bj_rho (ρ2 := [some (D.ref p_base), some (D.int many_0), none, some (D.int turn_7), some (D.int v_21), some (D.int mixed_36)]) rfl (bj_asg (e := D.int) (ej_op o_md (ej_cb1 o_int (ej_op o_pw (ej_op o_add (ej_op o_add (ej_op o_mul (ej_var (e := D.int) mixed_36 rfl) (fun _ _ => (ej_op o_add (ej_op o_mul ej_int (fun _ _ => (ej_var (e := D.int) turn_7 rfl))) (fun _ _ => ej_int)))) (fun _ _ => (ej_op o_mul (ej_op o_mul ej_int (fun _ _ => (ej_var (e := D.int) turn_7 rfl))) (fun _ _ => (ej_var (e := D.int) turn_7 rfl))))) (fun _ _ => ej_int)) (fun _ _ => ej_int))) (fun _ _ => ej_int)) (fun mixed_42 s_49 => (bj_rho (ρ2 := [some (D.ref p_base), some (D.int many_0), none, some (D.int turn_7), some (D.int v_21), some (D.int mixed_42)]) rfl (bj_one (bj_ret (fin := fun a s' => (a, s')) (ej_op o_md (ej_cb1 o_int (ej_op o_fd (ej_var (e := D.int) mixed_42 rfl) (fun _ _ => ej_int))) (fun _ _ => (ej_var (e := D.int) many_0 rfl))) (fun P a s' h => (fun P h => h.1) P h))))))))))))))))))))))))))))))))), (by unfold m_law_draw; rfl)⟩
  exact key { nx := fun _ M' => k .non M', rt := k } E (by rw [e]; exact h.mono fun r h => Φd.of (e := fun r : Int × ((List Int) × Int × Int) => D.int r.1) (M := fun r => mu M p_base ((cL3 (eL D.int) D.int D.int) r.2)) h)
@[irreducible] noncomputable def m_law_of (t_base : (List Int) × Int × Int) (some_0 : List Int) : Res (Int × ((List Int) × Int × Int)) :=
  (m_law_draw t_base (some_0.length : Int)).bind fun r_1 =>
  (ixR some_0 r_1.1).bind fun t_2 =>
  (Res.ok (t_2, r_1.2))
theorem T_law_of (t_base : (List Int) × Int × Int) (some_0 : List Int) (M : Mem) (p_base : Addr) (k : D → Mem → Prop) (E : XP) (hp_base : M p_base = none) (h : (m_law_of t_base some_0).wx E fun r => k (D.int r.1) (mu M p_base ((cL3 (eL D.int) D.int D.int) r.2))) : w_law_of [D.ref p_base, (eL D.int) some_0] (mu M p_base ((cL3 (eL D.int) D.int D.int) t_base)) k E := by
  rw [w_law_of_eq]
  obtain ⟨m, key, e⟩ : ∃ m, BJ (fun t => mu M p_base ((cL3 (eL D.int) D.int D.int) t)) [some (D.ref p_base), some ((eL D.int) some_0)] t_base
    (wRet (wOp dIx (wVar 1) (wFn 2 0 w_law_draw (wcP (waCons (wVar 0) (waCons (wCB (b1 dLen) (waCons (wVar 1) waNil)) waNil)))))) (Φd (fun r : Int × ((List Int) × Int × Int) => D.int r.1) fun r => mu M p_base ((cL3 (eL D.int) D.int D.int) r.2)) m ∧ m = m_law_of t_base some_0 := ⟨_,
    (bj_one (bj_ret (fin := fun a s' => (a, s')) (ej_op (o_ix (e := D.int)) (ej_var (e := (eL D.int)) some_0 rfl) (fun _ _ => (ej_fnM (n := 2) (m := 0) (e := D.int) (cj_p (aj_cons (ej_cell rfl) (fun _ _ => (aj_one (ej_cb1 (o_len (e := D.int)) (ej_var (e := (eL D.int)) some_0 rfl)))))) (fun x t => m_law_draw t x.2) (ca_base hp_base) (fun _ _ h => h) (fun x N t k E hp h => T_law_draw t x.2 N _ k E hp h)))) (fun P a s' h => (fun P h => h.1) P h))), (by unfold m_law_of; rfl)⟩
  exact key { nx := fun _ M' => k .non M', rt := k } E (by rw [e]; exact h.mono fun r h => Φd.of (e := fun r : Int × ((List Int) × Int × Int) => D.int r.1) (M := fun r => mu M p_base ((cL3 (eL D.int) D.int D.int) r.2)) h)
@[irreducible] noncomputable def m_law_number (t_base : (List Int) × Int × Int) : Res (Int × ((List Int) × Int × Int)) :=
  (m_law_draw t_base 9).bind fun r_2 =>
  let way_1 := r_2.1
  (if (decide (way_1 < 6)) then
  (m_law_draw r_2.2 7).bind fun r_5 =>
  (Res.ok ((r_5.1 - 3), r_5.2))
  else
  (if (decide (way_1 < 8)) then
  (m_law_draw r_2.2 1999).bind fun r_7 =>
  (Res.ok ((r_7.1 - 999), r_7.2))
  else
  (m_law_draw r_2.2 2).bind fun r_8 =>
  (mulR 2 r_8.1).bind fun t_9 =>
  (pwR 10 24).bind fun t_10 =>
  (m_law_draw r_8.2 1000003).bind fun r_11 =>
  (mulR (1 - t_9) (t_10 + r_11.1)).bind fun t_12 =>
  (Res.ok (t_12, r_11.2))))
theorem T_law_number (t_base : (List Int) × Int × Int) (M : Mem) (p_base : Addr) (k : D → Mem → Prop) (E : XP) (hp_base : M p_base = none) (h : (m_law_number t_base).wx E fun r => k (D.int r.1) (mu M p_base ((cL3 (eL D.int) D.int D.int) r.2))) : w_law_number [D.ref p_base] (mu M p_base ((cL3 (eL D.int) D.int D.int) t_base)) k E := by
  rw [w_law_number_eq]
  obtain ⟨m, key, e⟩ : ∃ m, BJ (fun t => mu M p_base ((cL3 (eL D.int) D.int D.int) t)) [some (D.ref p_base), none] t_base
    (wSeq (wAsg (wFn 2 0 w_law_draw (wcP (waCons (wVar 0) (waCons (wC (.int 9)) waNil)))) (wgName 1))
  (wSeq (wIfS (wTest (wOp dLt (wVar 1) (wC (.int 6)))) (wRet (wOp dSub (wFn 2 0 w_law_draw (wcP (waCons (wVar 0) (waCons (wC (.int 7)) waNil)))) (wC (.int 3)))) wNext)
  (wKill [] (wSeq (wIfS (wTest (wOp dLt (wVar 1) (wC (.int 8)))) (wRet (wOp dSub (wFn 2 0 w_law_draw (wcP (waCons (wVar 0) (waCons (wC (.int 1999)) waNil)))) (wC (.int 999)))) wNext)
  (wKill [1] (wRet (wOp (dMulT false) (wOp dSub (wC (.int 1)) (wOp (dMulT false) (wC (.int 2)) (wFn 2 0 w_law_draw (wcP (waCons (wVar 0) (waCons (wC (.int 2)) waNil)))))) (wOp (dAdd false) (wOp dPw (wC (.int 10)) (wC (.int 24))) (wFn 2 0 w_law_draw (wcP (waCons (wVar 0) (waCons (wC (.int 1000003)) waNil)))))))))))) (Φd (fun r : Int × ((List Int) × Int × Int) => D.int r.1) fun r => mu M p_base ((cL3 (eL D.int) D.int D.int) r.2)) m ∧ m = m_law_number t_base := ⟨_,
    (bj_asg (e := D.int) (ej_fnM (n := 2) (m := 0) (e := D.int) (cj_p (aj_cons (ej_cell rfl) (fun _ _ => (aj_one ej_int)))) (fun x t => m_law_draw t x.2) (ca_base hp_base) (fun _ _ h => h) (fun x N t k E hp h => T_law_draw t x.2 N _ k E hp h)) (fun way_1 s_3 => (bj_rho (ρ2 := [some (D.ref p_base), some (D.int way_1)]) rfl (bj_if (tj_test (ej_op o_lt (ej_var (e := D.int) way_1 rfl) (fun _ _ => ej_int))) (fun s_4 => (bj_ret (fin := fun a s' => (a, s')) (ej_op o_sub (ej_fnM (n := 2) (m := 0) (e := D.int) (cj_p (aj_cons (ej_cell rfl) (fun _ _ => (aj_one ej_int)))) (fun x t => m_law_draw t x.2) (ca_base hp_base) (fun _ _ h => h) (fun x N t k E hp h => T_law_draw t x.2 N _ k E hp h)) (fun _ _ => ej_int)) (fun P a s' h => (fun P h => h.1) P h))) (fun s_4 => (bj_skip (bj_kill (bj_rho (ρ2 := [some (D.ref p_base), some (D.int way_1)]) rfl (bj_rho (ρ2 := [some (D.ref p_base), some (D.int way_1)]) rfl (bj_if (tj_test (ej_op o_lt (ej_var (e := D.int) way_1 rfl) (fun _ _ => ej_int))) (fun s_6 => (bj_ret (fin := fun a s' => (a, s')) (ej_op o_sub (ej_fnM (n := 2) (m := 0) (e := D.int) (cj_p (aj_cons (ej_cell rfl) (fun _ _ => (aj_one ej_int)))) (fun x t => m_law_draw t x.2) (ca_base hp_base) (fun _ _ h => h) (fun x N t k E hp h => T_law_draw t x.2 N _ k E hp h)) (fun _ _ => ej_int)) (fun P a s' h => (fun P h => h.1) P h))) (fun s_6 => (bj_skip (bj_kill (bj_rho (ρ2 := [some (D.ref p_base), none]) rfl (bj_rho (ρ2 := [some (D.ref p_base), none]) rfl (bj_one (bj_ret (fin := fun a s' => (a, s')) (ej_op o_mul (ej_op o_sub ej_int (fun _ _ => (ej_op o_mul ej_int (fun _ _ => (ej_fnM (n := 2) (m := 0) (e := D.int) (cj_p (aj_cons (ej_cell rfl) (fun _ _ => (aj_one ej_int)))) (fun x t => m_law_draw t x.2) (ca_base hp_base) (fun _ _ h => h) (fun x N t k E hp h => T_law_draw t x.2 N _ k E hp h)))))) (fun _ _ => (ej_op o_add (ej_op o_pw ej_int (fun _ _ => ej_int)) (fun _ _ => (ej_fnM (n := 2) (m := 0) (e := D.int) (cj_p (aj_cons (ej_cell rfl) (fun _ _ => (aj_one ej_int)))) (fun x t => m_law_draw t x.2) (ca_base hp_base) (fun _ _ h => h) (fun x N t k E hp h => T_law_draw t x.2 N _ k E hp h)))))) (fun P a s' h => (fun P h => h.1) P h)))))))))))))))))), (by unfold m_law_number; rfl)⟩
  exact key { nx := fun _ M' => k .non M', rt := k } E (by rw [e]; exact h.mono fun r h => Φd.of (e := fun r : Int × ((List Int) × Int × Int) => D.int r.1) (M := fun r => mu M p_base ((cL3 (eL D.int) D.int D.int) r.2)) h)
@[irreducible] noncomputable def m_law_gains (t_base : (List Int) × Int × Int) (many_0 : Int) : Res ((List Int) × ((List Int) × Int × Int)) :=
  (rngR 0 many_0).bind fun r_4 =>
  (lcS (fun (x_1 : Int) (s_2 : (List Int) × Int × Int) => if true then (m_law_number s_2).bind fun r_6 =>
  Res.ok (some r_6.1, r_6.2) else .ok (none, s_2)) r_4 [] t_base).bind fun q_5 =>
  let gains_here_3 := q_5.1
  (m_law_draw q_5.2 12).bind fun r_9 =>
  let again_8 := (1 + r_9.1)
  (m_law_draw r_9.2 3).bind fun r_24 =>
  Res.bind (if (decide (r_24.1 = 0)) then (rngR 0 many_0).bind fun r_26 =>
  (lcR (fun (x_11 : Int) => (Res.ok true)) (fun (x_11 : Int) => (mdR x_11 again_8).bind fun t_28 =>
  (ixR gains_here_3 t_28).bind fun t_29 =>
  (Res.ok t_29)) r_26 []).bind fun l_27 =>
  (Res.ok l_27) else (Res.ok gains_here_3)) fun y_25 =>
  (Res.ok (y_25, r_24.2))
theorem T_law_gains (t_base : (List Int) × Int × Int) (many_0 : Int) (M : Mem) (p_base : Addr) (k : D → Mem → Prop) (E : XP) (hp_base : M p_base = none) (h : (m_law_gains t_base many_0).wx E fun r => k ((eL D.int) r.1) (mu M p_base ((cL3 (eL D.int) D.int D.int) r.2))) : w_law_gains [D.ref p_base, D.int many_0] (mu M p_base ((cL3 (eL D.int) D.int D.int) t_base)) k E := by
  rw [w_law_gains_eq]
  obtain ⟨m, key, e⟩ : ∃ m, BJ (fun t => mu M p_base ((cL3 (eL D.int) D.int D.int) t)) [some (D.ref p_base), some (D.int many_0), none, none, none] t_base
    (wSeq (wAsg (wLc false (wiR1 (waCons (wVar 1) waNil)) (wgName 4) wYes (wFn 1 0 w_law_number (wcP (waCons (wVar 0) waNil))) [4]) (wgName 2))
  (wSeq (wAsg (wOp (dAdd false) (wC (.int 1)) (wFn 2 0 w_law_draw (wcP (waCons (wVar 0) (waCons (wC (.int 12)) waNil))))) (wgName 3))
  (wRet (wIf (wTest (wOp dEq (wFn 2 0 w_law_draw (wcP (waCons (wVar 0) (waCons (wC (.int 3)) waNil)))) (wC (.int 0)))) (wLc false (wiR1 (waCons (wVar 1) waNil)) (wgName 4) wYes (wOp dIx (wVar 2) (wOp dMd (wVar 4) (wVar 3))) [4]) (wVar 2))))) (Φd (fun r : (List Int) × ((List Int) × Int × Int) => (eL D.int) r.1) fun r => mu M p_base ((cL3 (eL D.int) D.int D.int) r.2)) m ∧ m = m_law_gains t_base many_0 := ⟨_,
    (bj_asg (e := (eL D.int)) (ej_lcS (eo := D.int) (ρt := fun (x_1 : Int) => [some (D.ref p_base), some (D.int many_0), none, none, some (D.int x_1)]) (ij_r1 (aj_one (ej_var (e := D.int) many_0 rfl))) (fun _ _ _ _ h => h) (fun x_1 _ => tj_yes) (fun x_1 _ => (ej_fnM (n := 1) (m := 0) (e := D.int) (cj_p (aj_one (ej_cell rfl))) (fun x t => m_law_number t) (ca_base hp_base) (fun _ _ h => h) (fun x N t k E hp h => T_law_number t N _ k E hp h)))) (fun gains_here_3 s_7 => (bj_rho (ρ2 := [some (D.ref p_base), some (D.int many_0), some ((eL D.int) gains_here_3), none, none]) rfl (bj_asg (e := D.int) (ej_op o_add ej_int (fun _ _ => (ej_fnM (n := 2) (m := 0) (e := D.int) (cj_p (aj_cons (ej_cell rfl) (fun _ _ => (aj_one ej_int)))) (fun x t => m_law_draw t x.2) (ca_base hp_base) (fun _ _ h => h) (fun x N t k E hp h => T_law_draw t x.2 N _ k E hp h)))) (fun again_8 s_10 => (bj_rho (ρ2 := [some (D.ref p_base), some (D.int many_0), some ((eL D.int) gains_here_3), some (D.int again_8), none]) rfl (bj_one (bj_ret (fin := fun a s' => (a, s')) (ej_ifS (e := (eL D.int)) (fun s_16 k_17 => (rngR 0 many_0).bind fun r_18 =>
  (lcR (fun (x_11 : Int) => (Res.ok true)) (fun (x_11 : Int) => (mdR x_11 again_8).bind fun t_20 =>
  (ixR gains_here_3 t_20).bind fun t_21 =>
  (Res.ok t_21)) r_18 []).bind fun l_19 =>
  k_17 l_19) (fun s_22 k_23 => k_23 gains_here_3) (tj_test (ej_op (o_eq (e := D.int) peq_int) (ej_fnM (n := 2) (m := 0) (e := D.int) (cj_p (aj_cons (ej_cell rfl) (fun _ _ => (aj_one ej_int)))) (fun x t => m_law_draw t x.2) (ca_base hp_base) (fun _ _ h => h) (fun x N t k E hp h => T_law_draw t x.2 N _ k E hp h)) (fun _ _ => ej_int))) (fun _ => (ej_lcR (eo := D.int) (ρt := fun (x_11 : Int) => [some (D.ref p_base), some (D.int many_0), some ((eL D.int) gains_here_3), some (D.int again_8), some (D.int x_11)]) (fun x_11 s_12 k_13 => k_13 true) (fun x_11 s_12 k_13 => (mdR x_11 again_8).bind fun t_14 =>
  (ixR gains_here_3 t_14).bind fun t_15 =>
  k_13 t_15) (ij_r1 (aj_one (ej_var (e := D.int) many_0 rfl))) (fun _ _ _ _ h => h) (fun x_11 _ => tj_yes) (fun x_11 _ => (ej_op (o_ix (e := D.int)) (ej_var (e := (eL D.int)) gains_here_3 rfl) (fun _ _ => (ej_op o_md (ej_var (e := D.int) x_11 rfl) (fun _ _ => (ej_var (e := D.int) again_8 rfl)))))) (fun _ _ _ => rfl) (fun _ _ _ => rfl))) (fun _ => (ej_var (e := (eL D.int)) gains_here_3 rfl)) (fun _ _ => rfl) (fun _ _ => rfl)) (fun P a s' h => (fun P h => h.1) P h))))))))), (by unfold m_law_gains; rfl)⟩
  exact key { nx := fun _ M' => k .non M', rt := k } E (by rw [e]; exact h.mono fun r h => Φd.of (e := fun r : (List Int) × ((List Int) × Int × Int) => (eL D.int) r.1) (M := fun r => mu M p_base ((cL3 (eL D.int) D.int D.int) r.2)) h)
@[irreducible] noncomputable def m_is_integer (value_0 : Int) : Res Bool :=
  (Res.ok true)
theorem T_is_integer (value_0 : Int) (M : Mem) (k : D → Mem → Prop) (E : XP) (h : (m_is_integer value_0).wx E fun r => k (D.bl r) M) : w_is_integer [D.int value_0] M k E := by
  rw [w_is_integer_eq]
  obtain ⟨m, key, e⟩ : ∃ m, BJ (fun _ : Unit => M) [some (D.int value_0)] ()
    (wRet (wAndT (wCB (dIsi clsT) (waCons (wVar 0) (waCons (wC (.ty "int")) waNil))) (wNotT (wCB (dIsi clsT) (waCons (wVar 0) (waCons (wC (.ty "bool")) waNil)))))) (Φd D.bl fun _ => M) m ∧ m = m_is_integer value_0 := ⟨_,
    (bj_one (bj_ret (fin := fun a s' => a) (ej_andP (ej_isi (T := clsT) (c := D.ty "int") (e := D.int) true (fun _ M k h => isi_ttT (k := fun b => k (.bl b) M) rfl rfl h) (ej_var (e := D.int) value_0 rfl)) (fun _ => (ej_notT t_bl (ej_isi (T := clsT) (c := D.ty "bool") (e := D.int) false (fun _ M k h => isi_ttF (k := fun b => k (.bl b) M) rfl rfl h) (ej_var (e := D.int) value_0 rfl))))) (fun P a s' h => (fun P h => h.1) P h))), (by unfold m_is_integer; rfl)⟩
  exact key { nx := fun _ M' => k .non M', rt := k } E (by rw [e]; exact h.mono fun r h => Φd.of (e := D.bl) (M := fun _ => M) h)
@[irreducible] noncomputable def m_are_integers (value_0 : List Int) : Res Bool :=
  Res.bind (if true then (lcR (fun (x_1 : Int) => (Res.ok true)) (fun (x_1 : Int) => (m_is_integer x_1).bind fun r_11 =>
  (Res.ok r_11)) value_0 []).bind fun l_10 =>
  (Res.ok (l_10.all id)) else .ok false) fun b_9 =>
  (Res.ok b_9)
theorem T_are_integers (value_0 : List Int) (M : Mem) (k : D → Mem → Prop) (E : XP) (h : (m_are_integers value_0).wx E fun r => k (D.bl r) M) : w_are_integers [(eL D.int) value_0] M k E := by
  rw [w_are_integers_eq]
  obtain ⟨m, key, e⟩ : ∃ m, BJ (fun _ : Unit => M) [some ((eL D.int) value_0), none] ()
    (wRet (wAndT (wIsi2 "list" "tuple" (wVar 0)) (wCB (b1 dAll) (waCons (wLc false (wiAny (wVar 0)) (wgName 1) wYes (wFn 1 0 w_is_integer (wcP (waCons (wVar 1) waNil))) [1]) waNil)))) (Φd D.bl fun _ => M) m ∧ m = m_are_integers value_0 := ⟨_,
    (bj_one (bj_ret (fin := fun a s' => a) (ej_andS (fun s_5 k_6 => (lcR (fun (x_1 : Int) => (Res.ok true)) (fun (x_1 : Int) => (m_is_integer x_1).bind fun r_8 =>
  (Res.ok r_8)) value_0 []).bind fun l_7 =>
  k_6 (l_7.all id)) (ej_isi2 (e := (eL D.int)) true (fun _ _ k h => isi_2T (k := k) rfl rfl h) (ej_var (e := (eL D.int)) value_0 rfl)) (fun _ => (ej_cb1 o_all (ej_lcR (eo := D.bl) (ρt := fun (x_1 : Int) => [some ((eL D.int) value_0), some (D.int x_1)]) (fun x_1 s_2 k_3 => k_3 true) (fun x_1 s_2 k_3 => (m_is_integer x_1).bind fun r_4 =>
  k_3 r_4) (ij_L (ej_var (e := (eL D.int)) value_0 rfl)) (fun _ _ _ _ h => h) (fun x_1 _ => tj_yes) (fun x_1 _ => (ej_fn (n := 1) (m := 0) (e := D.bl) (cj_p (aj_one (ej_var (e := D.int) x_1 rfl))) (fun x => m_is_integer x) (fun _ _ h => h) (fun x M k E h => T_is_integer x M k E h))) (fun _ _ _ => rfl) (fun _ _ _ => rfl)))) (fun _ _ => rfl)) (fun P a s' h => (fun P h => h.1) P h))), (by unfold m_are_integers; rfl)⟩
  exact key { nx := fun _ M' => k .non M', rt := k } E (by rw [e]; exact h.mono fun r h => Φd.of (e := D.bl) (M := fun _ => M) h)
@[irreducible] noncomputable def m_heights_of (gains_0 : List Int) : Res (List Int) :=
  let s_2 := ((), [0])
  forR (fun (v_6 : Unit) (s_7 : Unit × (List Int)) x_8 =>
  (ixR s_7.2 (-1)).bind fun t_9 =>
  (appR s_7.2 (t_9 + x_8)).bind fun l_10 =>
  let s_11 := (s_7.1, l_10)
  (Res.ok (Flow.nx () s_11)))
  (fun v_12 s_13 =>
  (Res.ok s_13.2)) gains_0 () s_2
theorem T_heights_of (gains_0 : List Int) (M : Mem) (k : D → Mem → Prop) (E : XP) (h : (m_heights_of gains_0).wx E fun r => k ((eT D.int) r) M) : w_heights_of [(eL D.int) gains_0] M k E := by
  rw [w_heights_of_eq]
  obtain ⟨m, key, e⟩ : ∃ m, BJ (fun _ : Unit => M) [some ((eL D.int) gains_0), none, none] ()
    (wSeq (wAsg (wLst true (waCons (wC (.int 0)) waNil)) (wgName 1))
  (wSeq (wFor (wiAny (wVar 0)) (wgName 2) (wDrop (wBL dApp (wVar 1) (waCons (wOp (dAdd false) (wOp dIx (wVar 1) (wUn dNeg (wC (.int 1)))) (wVar 2)) waNil))) [0, 2])
  (wRet (wDp [1] (wCB (b1 dTuple) (waCons (wVar 1) waNil)))))) (Φd (eT D.int) fun _ => M) m ∧ m = m_heights_of gains_0 := ⟨_,
    (bj_new (c := (cL D.int)) di_unit (nj_lstL (e := D.int) (lj_cons ej_int (fun _ _ => lj_nil)) (by decide)) (fun _ _ p_found_1 μ_found_1 h_found_1 => (bj_rho (ρ2 := [some ((eL D.int) gains_0), some (D.ref p_found_1), none]) rfl (bj_for (σ := Unit) (ρh := fun v_6 => [none, some (D.ref p_found_1), none]) () (ij_L (ej_var (e := (eL D.int)) gains_0 rfl)) rfl (fun _ _ _ _ _ h => h) (fun v_6 _ x_8 => (bj_one (bj_app h_found_1.ca rfl (ej_op o_add (ej_ixC h_found_1.ca rfl (ej_un o_neg ej_int)) (fun _ _ => (ej_var (e := D.int) x_8 rfl))) (fun _ => (bj_nx (v := ()) rfl))))) (fun v_12 _ => (bj_rho (ρ2 := [none, some (D.ref p_found_1), none]) rfl (bj_one (bj_retD (ρ := [none, some (D.ref p_found_1), none]) (l := [1]) (fin := fun a s' => a) (ej_cb1C (e := (eT D.int)) h_found_1.ca rfl c_tuple) (fun P a s' h => (fun P h => (drop1 h_found_1.cr h.1)) P h))))))))), (by unfold m_heights_of; rfl)⟩
  exact key { nx := fun _ M' => k .non M', rt := k } E (by rw [e]; exact h.mono fun r h => Φd.of (e := (eT D.int)) (M := fun _ => M) h)
structure R_Row_0 where
  gains : List Int
  heights : List Int
  days : Int
  total : Int
abbrev f_Row_0 (r : R_Row_0) : List D := [(eT D.int) r.gains, (eT D.int) r.heights, D.int r.days, D.int r.total]
abbrev e_Row_0 (r : R_Row_0) : D := .ins "Row" ["gains", "heights", "days", "total"] (f_Row_0 r)
@[irreducible] noncomputable def m_Row_init (gains_0 : List Int) : Res R_Row_0 :=
  (m_are_integers gains_0).bind fun r_1 =>
  (if ((!r_1) || (decide ((gains_0.length : Int) = 0))) then
  (.ex ⟨"BadRow", ["part"], [D.str ("gains" : Str)]⟩)
  else
  (if (decide ((gains_0.length : Int) > 48)) then
  (.ex ⟨"TooMany", ["most", "what"], [D.int 48, D.str ("days" : Str)]⟩)
  else
  let gains_4 := gains_0
  (m_heights_of gains_0).bind fun r_7 =>
  let heights_6 := r_7
  let days_9 := (gains_0.length : Int)
  (ixR heights_6 (-1)).bind fun t_12 =>
  let total_11 := t_12
  (Res.ok ⟨gains_4, heights_6, days_9, total_11⟩)))
theorem T_Row_init (gains_0 : List Int) (M : Mem) (p_self : Addr) (k : D → Mem → Prop) (E : XP) (hp_self : M p_self = none) (h : (m_Row_init gains_0).wx E fun r => k D.non (mu M p_self (Cell.ins "Row" ["gains", "heights", "days", "total"] (f_Row_0 r)))) : w_Row_init [D.ref p_self, (eL D.int) gains_0] (mu M p_self (Cell.ins "Row" [] [])) k E := by
  rw [w_Row_init_eq]
  obtain ⟨m, key, e⟩ : ∃ m, BJ (fun q : Unit => mu M p_self (Cell.ins "Row" [] ((fun _ => []) q))) [some (D.ref p_self), some ((eL D.int) gains_0)] ()
    (wSeq (wIfS (wOr (wNot (wTru (wFn 1 0 w_are_integers (wcP (waCons (wVar 1) waNil))))) (wTest (wOp dEq (wCB (b1 dLen) (waCons (wVar 1) waNil)) (wC (.int 0))))) (wRaise xT "BadRow" (waCons (wC (.str "gains")) waNil)) wNext)
  (wKill [] (wSeq (wIfS (wTest (wOp dGt (wCB (b1 dLen) (waCons (wVar 1) waNil)) (wC (.int (48))))) (wRaise xT "TooMany" (waCons (wC (.str "days")) (waCons (wC (.int (48))) waNil))) wNext)
  (wKill [] (wSeq (wSetF ["Row"] "gains" (wVar 0) (wCB (b1 dTuple) (waCons (wVar 1) waNil)))
  (wSeq (wSetF ["Row"] "heights" (wVar 0) (wFn 1 0 w_heights_of (wcP (waCons (wVar 1) waNil))))
  (wSeq (wSetF ["Row"] "days" (wVar 0) (wCB (b1 dLen) (waCons (wVar 1) waNil)))
  (wSetF ["Row"] "total" (wVar 0) (wOp dIx (wFld "heights" (wVar 0)) (wUn dNeg (wC (.int 1)))))))))))) (Φi fun r => (mu M p_self (Cell.ins "Row" ["gains", "heights", "days", "total"] (f_Row_0 r)))) m ∧ m = m_Row_init gains_0 := ⟨_,
    (bj_if (tj_orP (tj_not (tj_tru (β := _) t_bl (ej_fn (n := 1) (m := 0) (e := D.bl) (cj_p (aj_one (ej_var (e := (eL D.int)) gains_0 rfl))) (fun x => m_are_integers x) (fun _ _ h => h) (fun x M k E h => T_are_integers x M k E h)))) (fun _ => (tj_test (ej_op (o_eq (e := D.int) peq_int) (ej_cb1 (o_len (e := D.int)) (ej_var (e := (eL D.int)) gains_0 rfl)) (fun _ _ => ej_int))))) (fun s_2 => (bj_raise (c := "BadRow") (fl := ["part"]) rfl (fun _ => rfl) (Nat.le_of_ble_eq_true rfl) (aj_one ej_str))) (fun s_2 => (bj_skip (bj_kill (bj_rho (ρ2 := [some (D.ref p_self), some ((eL D.int) gains_0)]) rfl (bj_rho (ρ2 := [some (D.ref p_self), some ((eL D.int) gains_0)]) rfl (bj_if (tj_test (ej_op o_gt (ej_cb1 (o_len (e := D.int)) (ej_var (e := (eL D.int)) gains_0 rfl)) (fun _ _ => ej_int))) (fun s_3 => (bj_raise (c := "TooMany") (fl := ["what", "most"]) rfl (fun _ => rfl) (Nat.le_of_ble_eq_true rfl) (aj_cons ej_str (fun _ _ => (aj_one ej_int))))) (fun s_3 => (bj_skip (bj_kill (bj_rho (ρ2 := [some (D.ref p_self), some ((eL D.int) gains_0)]) rfl (bj_rho (ρ2 := [some (D.ref p_self), some ((eL D.int) gains_0)]) rfl (bj_fset (e := (eT D.int)) rfl (fun _ => rfl) (by decide) (by decide) (by decide) (ej_cb1 (o_tuple (e := D.int)) (ej_var (e := (eL D.int)) gains_0 rfl)) (fun gains_4 s_5 => (bj_rho (ρ2 := [some (D.ref p_self), some ((eL D.int) gains_0)]) rfl (bj_fset (e := (eT D.int)) rfl (fun _ => rfl) (by decide) (by decide) (by decide) (ej_fn (n := 1) (m := 0) (e := (eT D.int)) (cj_p (aj_one (ej_var (e := (eL D.int)) gains_0 rfl))) (fun x => m_heights_of x) (fun _ _ h => h) (fun x M k E h => T_heights_of x M k E h)) (fun heights_6 s_8 => (bj_rho (ρ2 := [some (D.ref p_self), some ((eL D.int) gains_0)]) rfl (bj_fset (e := D.int) rfl (fun _ => rfl) (by decide) (by decide) (by decide) (ej_cb1 (o_len (e := D.int)) (ej_var (e := (eL D.int)) gains_0 rfl)) (fun days_9 s_10 => (bj_rho (ρ2 := [some (D.ref p_self), some ((eL D.int) gains_0)]) rfl (bj_one (bj_fset (e := D.int) rfl (fun _ => rfl) (by decide) (by decide) (by decide) (ej_op (o_ixT (e := D.int)) (ej_fldS (e := (eT D.int)) (fun q => q.1.2) rfl (fun _ => rfl)) (fun _ _ => (ej_un o_neg ej_int))) (fun total_11 s_13 => (bj_end (b := (⟨((s_13, total_11)).1.1.1.2, ((s_13, total_11)).1.1.2, ((s_13, total_11)).1.2, ((s_13, total_11)).2⟩ : R_Row_0)) (fun P h => h.2 _)))))))))))))))))))))))))), (by unfold m_Row_init; rfl)⟩
  exact key { nx := fun _ M' => k .non M', rt := k } E (by rw [e]; exact h.mono fun r h => ⟨h, fun _ => h⟩)
@[irreducible] noncomputable def m_law_sums (gains_here_0 : List Int) (length_0 : Int) : Res (List Int) :=
  (rngR 0 (((gains_here_0.length : Int) - length_0) + 1)).bind fun r_2 =>
  (lcM (fun (x_1 : Int) => (cutD gains_here_0 (some x_1) (some (x_1 + length_0))).sum) r_2).bind fun l_3 =>
  (Res.ok l_3)
theorem T_law_sums (gains_here_0 : List Int) (length_0 : Int) (M : Mem) (k : D → Mem → Prop) (E : XP) (h : (m_law_sums gains_here_0 length_0).wx E fun r => k ((eL D.int) r) M) : w_law_sums [(eL D.int) gains_here_0, D.int length_0] M k E := by
  rw [w_law_sums_eq]
  obtain ⟨m, key, e⟩ : ∃ m, BJ (fun _ : Unit => M) [some ((eL D.int) gains_here_0), some (D.int length_0), none] ()
    (wRet (wLc false (wiR1 (waCons (wOp (dAdd false) (wOp dSub (wCB (b1 dLen) (waCons (wVar 0) waNil)) (wVar 1)) (wC (.int 1))) waNil)) (wgName 2) wYes (wCB (b1 dSum) (waCons (wSl false (wVar 0) (woSome (wVar 2)) (woSome (wOp (dAdd false) (wVar 2) (wVar 1)))) waNil)) [2])) (Φd (eL D.int) fun _ => M) m ∧ m = m_law_sums gains_here_0 length_0 := ⟨_,
    (bj_one (bj_ret (fin := fun a s' => a) (ej_lcM (eo := D.int) (ρt := fun (x_1 : Int) => [some ((eL D.int) gains_here_0), some (D.int length_0), some (D.int x_1)]) (ij_r1 (aj_one (ej_op o_add (ej_op o_sub (ej_cb1 (o_len (e := D.int)) (ej_var (e := (eL D.int)) gains_here_0 rfl)) (fun _ _ => (ej_var (e := D.int) length_0 rfl))) (fun _ _ => ej_int)))) (fun _ _ _ _ h => h) (fun x_1 _ => (ej_cb1 o_sum (ej_sl (e := (eL D.int)) sl_L (ej_var (e := (eL D.int)) gains_here_0 rfl) (fun _ _ => (oj_some (ej_var (e := D.int) x_1 rfl))) (fun _ _ _ _ => (oj_some (ej_op o_add (ej_var (e := D.int) x_1 rfl) (fun _ _ => (ej_var (e := D.int) length_0 rfl))))))))) (fun P a s' h => (fun P h => h.1) P h))), (by unfold m_law_sums; rfl)⟩
  exact key { nx := fun _ M' => k .non M', rt := k } E (by rw [e]; exact h.mono fun r h => Φd.of (e := (eL D.int)) (M := fun _ => M) h)
@[irreducible] noncomputable def m_law_bounds (t_base : (List Int) × Int × Int) (sums_here_0 : List Int) : Res ((List ((Option Int) × (Option Int))) × ((List Int) × Int × Int)) :=
  (if (decide (sums_here_0 = [])) then
  (m_law_number t_base).bind fun r_3 =>
  let low_2 := r_3.1
  (Res.ok ([((some (low_2, ()).1), none), (none, (some ((), low_2).2)), ((some (low_2, low_2).1), (some (low_2, low_2).2))], r_3.2))
  else
  (minR sums_here_0).bind fun t_9 =>
  (maxR sums_here_0).bind fun t_10 =>
  (m_law_of t_base sums_here_0).bind fun r_11 =>
  let a_8 := (t_9, t_10, r_11.1)
  let found_12 := [((some (a_8.1, a_8.2.1).1), (some (a_8.1, a_8.2.1).2)), ((some ((a_8.1 + 1), ()).1), none), (none, (some ((), (a_8.2.1 - 1)).2)), ((some (a_8.1, ()).1), none), (none, (some ((), a_8.2.1).2)), ((some (a_8.2.2, a_8.2.2).1), (some (a_8.2.2, a_8.2.2).2)), ((some (a_8.2.2, ()).1), none)]
  (m_law_number r_11.2).bind fun r_17 =>
  (m_law_draw r_17.2 7).bind fun r_18 =>
  let a_16 := (r_17.1, r_18.1)
  (addL found_12 ([((some ((a_8.1 - 1), (a_8.2.1 + 1)).1), ((a_8.1 - 1), (a_8.2.1 + 1)).2), (none, ((), a_8.2.2).2), ((some (a_16.1, (a_16.1 + a_16.2)).1), (a_16.1, (a_16.1 + a_16.2)).2), ((some ((a_8.2.1 + 1), ((a_8.2.1 + 1) + a_16.2)).1), ((a_8.2.1 + 1), ((a_8.2.1 + 1) + a_16.2)).2)].map fun x => (x.1, (some x.2)))).bind fun t_19 =>
  (Res.ok (t_19, r_18.2)))
theorem T_law_bounds (t_base : (List Int) × Int × Int) (sums_here_0 : List Int) (M : Mem) (p_base : Addr) (k : D → Mem → Prop) (E : XP) (hp_base : M p_base = none) (h : (m_law_bounds t_base sums_here_0).wx E fun r => k ((eL (eT2 (eO D.int) (eO D.int))) r.1) (mu M p_base ((cL3 (eL D.int) D.int D.int) r.2))) : w_law_bounds [D.ref p_base, (eL D.int) sums_here_0] (mu M p_base ((cL3 (eL D.int) D.int D.int) t_base)) k E := by
  rw [w_law_bounds_eq]
  obtain ⟨m, key, e⟩ : ∃ m, BJ (fun t => mu M p_base ((cL3 (eL D.int) D.int D.int) t)) [some (D.ref p_base), some ((eL D.int) sums_here_0), none, none, none, none, none, none] t_base
    (wSeq (wIfS (wTest (wOp dEq (wVar 1) (wLst false waNil))) (wSeq (wAsg (wFn 1 0 w_law_number (wcP (waCons (wVar 0) waNil))) (wgName 2))
  (wRet (wLst false (waCons (wTup (waCons (wVar 2) (waCons (wC .non) waNil))) (waCons (wTup (waCons (wC .non) (waCons (wVar 2) waNil))) (waCons (wTup (waCons (wVar 2) (waCons (wVar 2) waNil))) waNil)))))) wNext)
  (wKill [2, 3, 4, 5, 6, 7] (wSeq (wPar3 3 4 5 (waCons (wCB dMinT (waCons (wVar 1) waNil)) (waCons (wCB dMaxT (waCons (wVar 1) waNil)) (waCons (wFn 2 0 w_law_of (wcP (waCons (wVar 0) (waCons (wVar 1) waNil)))) waNil))))
  (wSeq (wAsg (wLst false (waCons (wTup (waCons (wVar 3) (waCons (wVar 4) waNil))) (waCons (wTup (waCons (wOp (dAdd false) (wVar 3) (wC (.int 1))) (waCons (wC .non) waNil))) (waCons (wTup (waCons (wC .non) (waCons (wOp dSub (wVar 4) (wC (.int 1))) waNil))) (waCons (wTup (waCons (wVar 3) (waCons (wC .non) waNil))) (waCons (wTup (waCons (wC .non) (waCons (wVar 4) waNil))) (waCons (wTup (waCons (wVar 5) (waCons (wVar 5) waNil))) (waCons (wTup (waCons (wVar 5) (waCons (wC .non) waNil))) waNil)))))))) (wgName 6))
  (wSeq (wPar 2 7 (waCons (wFn 1 0 w_law_number (wcP (waCons (wVar 0) waNil))) (waCons (wFn 2 0 w_law_draw (wcP (waCons (wVar 0) (waCons (wC (.int 7)) waNil)))) waNil)))
  (wRet (wOp (dAdd false) (wVar 6) (wLst false (waCons (wTup (waCons (wOp dSub (wVar 3) (wC (.int 1))) (waCons (wOp (dAdd false) (wVar 4) (wC (.int 1))) waNil))) (waCons (wTup (waCons (wC .non) (waCons (wVar 5) waNil))) (waCons (wTup (waCons (wVar 2) (waCons (wOp (dAdd false) (wVar 2) (wVar 7)) waNil))) (waCons (wTup (waCons (wOp (dAdd false) (wVar 4) (wC (.int 1))) (waCons (wOp (dAdd false) (wOp (dAdd false) (wVar 4) (wC (.int 1))) (wVar 7)) waNil))) waNil)))))))))))) (Φd (fun r : (List ((Option Int) × (Option Int))) × ((List Int) × Int × Int) => (eL (eT2 (eO D.int) (eO D.int))) r.1) fun r => mu M p_base ((cL3 (eL D.int) D.int D.int) r.2)) m ∧ m = m_law_bounds t_base sums_here_0 := ⟨_,
    (bj_if (tj_test (ej_op (o_eq (e := (eL D.int)) (peq_of (pd_L pd_int) (by decide) (fun _ _ _ _ h => h))) (ej_var (e := (eL D.int)) sums_here_0 rfl) (fun _ _ => (ej_lstL (e := D.int) lj_nil (by decide))))) (fun s_1 => (bj_assoc (bj_asg (e := D.int) (ej_fnM (n := 1) (m := 0) (e := D.int) (cj_p (aj_one (ej_cell rfl))) (fun x t => m_law_number t) (ca_base hp_base) (fun _ _ h => h) (fun x N t k E hp h => T_law_number t N _ k E hp h)) (fun low_2 s_4 => (bj_rho (ρ2 := [some (D.ref p_base), some ((eL D.int) sums_here_0), some (D.int low_2), none, none, none, none, none]) rfl (bj_ret (fin := fun a s' => (a, s')) (ej_lstL (e := (eT2 (eO D.int) (eO D.int))) (lj_cons (ej_as (e' := (eT2 (eO D.int) (eO D.int))) (fun a : Int × Unit => ((some a.1), none)) (ej_tup (e := (eT2 D.int eN)) (aj_cons (ej_var (e := D.int) low_2 rfl) (fun _ _ => (aj_one ej_non))) (fun _ => Nat.le_of_ble_eq_true rfl) (fun _ => rfl)) (fun a => rfl)) (fun _ _ => (lj_cons (ej_as (e' := (eT2 (eO D.int) (eO D.int))) (fun a : Unit × Int => (none, (some a.2))) (ej_tup (e := (eT2 eN D.int)) (aj_cons ej_non (fun _ _ => (aj_one (ej_var (e := D.int) low_2 rfl)))) (fun _ => Nat.le_of_ble_eq_true rfl) (fun _ => rfl)) (fun a => rfl)) (fun _ _ => (lj_cons (ej_as (e' := (eT2 (eO D.int) (eO D.int))) (fun a : Int × Int => ((some a.1), (some a.2))) (ej_tup (e := (eT2 D.int D.int)) (aj_cons (ej_var (e := D.int) low_2 rfl) (fun _ _ => (aj_one (ej_var (e := D.int) low_2 rfl)))) (fun _ => Nat.le_of_ble_eq_true rfl) (fun _ => rfl)) (fun a => rfl)) (fun _ _ => lj_nil)))))) (by decide)) (fun P a s' h => (fun P h => h.1) P h))))))) (fun s_1 => (bj_skip (bj_kill (bj_rho (ρ2 := [some (D.ref p_base), some ((eL D.int) sums_here_0), none, none, none, none, none, none]) rfl (bj_rho (ρ2 := [some (D.ref p_base), some ((eL D.int) sums_here_0), none, none, none, none, none, none]) rfl (bj_par3 (aj_cons (ej_cb o_minL (aj_one (ej_var (e := (eL D.int)) sums_here_0 rfl))) (fun _ _ => (aj_cons (ej_cb o_maxL (aj_one (ej_var (e := (eL D.int)) sums_here_0 rfl))) (fun _ _ => (aj_one (ej_fnM (n := 2) (m := 0) (e := D.int) (cj_p (aj_cons (ej_cell rfl) (fun _ _ => (aj_one (ej_var (e := (eL D.int)) sums_here_0 rfl))))) (fun x t => m_law_of t x.2) (ca_base hp_base) (fun _ _ h => h) (fun x N t k E hp h => T_law_of t x.2 N _ k E hp h))))))) (fun a_8 _ => (bj_rho (ρ2 := [some (D.ref p_base), some ((eL D.int) sums_here_0), none, some (D.int a_8.1), some (D.int a_8.2.1), some (D.int a_8.2.2), none, none]) rfl (bj_asg (e := (eL (eT2 (eO D.int) (eO D.int)))) (ej_lstL (e := (eT2 (eO D.int) (eO D.int))) (lj_cons (ej_as (e' := (eT2 (eO D.int) (eO D.int))) (fun a : Int × Int => ((some a.1), (some a.2))) (ej_tup (e := (eT2 D.int D.int)) (aj_cons (ej_var (e := D.int) a_8.1 rfl) (fun _ _ => (aj_one (ej_var (e := D.int) a_8.2.1 rfl)))) (fun _ => Nat.le_of_ble_eq_true rfl) (fun _ => rfl)) (fun a => rfl)) (fun _ _ => (lj_cons (ej_as (e' := (eT2 (eO D.int) (eO D.int))) (fun a : Int × Unit => ((some a.1), none)) (ej_tup (e := (eT2 D.int eN)) (aj_cons (ej_op o_add (ej_var (e := D.int) a_8.1 rfl) (fun _ _ => ej_int)) (fun _ _ => (aj_one ej_non))) (fun _ => Nat.le_of_ble_eq_true rfl) (fun _ => rfl)) (fun a => rfl)) (fun _ _ => (lj_cons (ej_as (e' := (eT2 (eO D.int) (eO D.int))) (fun a : Unit × Int => (none, (some a.2))) (ej_tup (e := (eT2 eN D.int)) (aj_cons ej_non (fun _ _ => (aj_one (ej_op o_sub (ej_var (e := D.int) a_8.2.1 rfl) (fun _ _ => ej_int))))) (fun _ => Nat.le_of_ble_eq_true rfl) (fun _ => rfl)) (fun a => rfl)) (fun _ _ => (lj_cons (ej_as (e' := (eT2 (eO D.int) (eO D.int))) (fun a : Int × Unit => ((some a.1), none)) (ej_tup (e := (eT2 D.int eN)) (aj_cons (ej_var (e := D.int) a_8.1 rfl) (fun _ _ => (aj_one ej_non))) (fun _ => Nat.le_of_ble_eq_true rfl) (fun _ => rfl)) (fun a => rfl)) (fun _ _ => (lj_cons (ej_as (e' := (eT2 (eO D.int) (eO D.int))) (fun a : Unit × Int => (none, (some a.2))) (ej_tup (e := (eT2 eN D.int)) (aj_cons ej_non (fun _ _ => (aj_one (ej_var (e := D.int) a_8.2.1 rfl)))) (fun _ => Nat.le_of_ble_eq_true rfl) (fun _ => rfl)) (fun a => rfl)) (fun _ _ => (lj_cons (ej_as (e' := (eT2 (eO D.int) (eO D.int))) (fun a : Int × Int => ((some a.1), (some a.2))) (ej_tup (e := (eT2 D.int D.int)) (aj_cons (ej_var (e := D.int) a_8.2.2 rfl) (fun _ _ => (aj_one (ej_var (e := D.int) a_8.2.2 rfl)))) (fun _ => Nat.le_of_ble_eq_true rfl) (fun _ => rfl)) (fun a => rfl)) (fun _ _ => (lj_cons (ej_as (e' := (eT2 (eO D.int) (eO D.int))) (fun a : Int × Unit => ((some a.1), none)) (ej_tup (e := (eT2 D.int eN)) (aj_cons (ej_var (e := D.int) a_8.2.2 rfl) (fun _ _ => (aj_one ej_non))) (fun _ => Nat.le_of_ble_eq_true rfl) (fun _ => rfl)) (fun a => rfl)) (fun _ _ => lj_nil)))))))))))))) (by decide)) (fun found_12 s_13 => (bj_rho (ρ2 := [some (D.ref p_base), some ((eL D.int) sums_here_0), none, some (D.int a_8.1), some (D.int a_8.2.1), some (D.int a_8.2.2), some ((eL (eT2 (eO D.int) (eO D.int))) found_12), none]) rfl (bj_par (aj_cons (ej_fnM (n := 1) (m := 0) (e := D.int) (cj_p (aj_one (ej_cell rfl))) (fun x t => m_law_number t) (ca_base hp_base) (fun _ _ h => h) (fun x N t k E hp h => T_law_number t N _ k E hp h)) (fun _ _ => (aj_one (ej_fnM (n := 2) (m := 0) (e := D.int) (cj_p (aj_cons (ej_cell rfl) (fun _ _ => (aj_one ej_int)))) (fun x t => m_law_draw t x.2) (ca_base hp_base) (fun _ _ h => h) (fun x N t k E hp h => T_law_draw t x.2 N _ k E hp h))))) (fun a_16 _ => (bj_rho (ρ2 := [some (D.ref p_base), some ((eL D.int) sums_here_0), some (D.int a_16.1), some (D.int a_8.1), some (D.int a_8.2.1), some (D.int a_8.2.2), some ((eL (eT2 (eO D.int) (eO D.int))) found_12), some (D.int a_16.2)]) rfl (bj_one (bj_ret (fin := fun a s' => (a, s')) (ej_op (o_addL (e := (eT2 (eO D.int) (eO D.int)))) (ej_var (e := (eL (eT2 (eO D.int) (eO D.int)))) found_12 rfl) (fun _ _ => (ej_as (e' := (eL (eT2 (eO D.int) (eO D.int)))) (fun a : List ((Option Int) × Int) => (a.map fun x => (x.1, (some x.2)))) (ej_lstL (e := (eT2 (eO D.int) D.int)) (lj_cons (ej_as (e' := (eT2 (eO D.int) D.int)) (fun a : Int × Int => ((some a.1), a.2)) (ej_tup (e := (eT2 D.int D.int)) (aj_cons (ej_op o_sub (ej_var (e := D.int) a_8.1 rfl) (fun _ _ => ej_int)) (fun _ _ => (aj_one (ej_op o_add (ej_var (e := D.int) a_8.2.1 rfl) (fun _ _ => ej_int))))) (fun _ => Nat.le_of_ble_eq_true rfl) (fun _ => rfl)) (fun a => rfl)) (fun _ _ => (lj_cons (ej_as (e' := (eT2 (eO D.int) D.int)) (fun a : Unit × Int => (none, a.2)) (ej_tup (e := (eT2 eN D.int)) (aj_cons ej_non (fun _ _ => (aj_one (ej_var (e := D.int) a_8.2.2 rfl)))) (fun _ => Nat.le_of_ble_eq_true rfl) (fun _ => rfl)) (fun a => rfl)) (fun _ _ => (lj_cons (ej_as (e' := (eT2 (eO D.int) D.int)) (fun a : Int × Int => ((some a.1), a.2)) (ej_tup (e := (eT2 D.int D.int)) (aj_cons (ej_var (e := D.int) a_16.1 rfl) (fun _ _ => (aj_one (ej_op o_add (ej_var (e := D.int) a_16.1 rfl) (fun _ _ => (ej_var (e := D.int) a_16.2 rfl)))))) (fun _ => Nat.le_of_ble_eq_true rfl) (fun _ => rfl)) (fun a => rfl)) (fun _ _ => (lj_cons (ej_as (e' := (eT2 (eO D.int) D.int)) (fun a : Int × Int => ((some a.1), a.2)) (ej_tup (e := (eT2 D.int D.int)) (aj_cons (ej_op o_add (ej_var (e := D.int) a_8.2.1 rfl) (fun _ _ => ej_int)) (fun _ _ => (aj_one (ej_op o_add (ej_op o_add (ej_var (e := D.int) a_8.2.1 rfl) (fun _ _ => ej_int)) (fun _ _ => (ej_var (e := D.int) a_16.2 rfl)))))) (fun _ => Nat.le_of_ble_eq_true rfl) (fun _ => rfl)) (fun a => rfl)) (fun _ _ => lj_nil)))))))) (by decide)) (fun a => (by show D.lst _ = D.lst _; rw [List.map_map]; rfl))))) (fun P a s' h => (fun P h => h.1) P h)))))))))))))))))), (by unfold m_law_bounds; rfl)⟩
  exact key { nx := fun _ M' => k .non M', rt := k } E (by rw [e]; exact h.mono fun r h => Φd.of (e := fun r : (List ((Option Int) × (Option Int))) × ((List Int) × Int × Int) => (eL (eT2 (eO D.int) (eO D.int))) r.1) (M := fun r => mu M p_base ((cL3 (eL D.int) D.int D.int) r.2)) h)
@[irreducible] noncomputable def m_is_within (value_0 : Int) (least_0 : Int) (most_0 : Int) : Res Bool :=
  (m_is_integer value_0).bind fun r_1 =>
  (if (!r_1) then
  (Res.ok false)
  else
  (Res.ok ((decide (least_0 ≤ value_0)) && (decide (value_0 ≤ most_0)))))
theorem T_is_within (value_0 : Int) (least_0 : Int) (most_0 : Int) (M : Mem) (k : D → Mem → Prop) (E : XP) (h : (m_is_within value_0 least_0 most_0).wx E fun r => k (D.bl r) M) : w_is_within [D.int value_0, D.int least_0, D.int most_0] M k E := by
  rw [w_is_within_eq]
  obtain ⟨m, key, e⟩ : ∃ m, BJ (fun _ : Unit => M) [some (D.int value_0), some (D.int least_0), some (D.int most_0)] ()
    (wSeq (wIfS (wNot (wTru (wFn 1 0 w_is_integer (wcP (waCons (wVar 0) waNil))))) (wRet (wC (.bl false))) wNext)
  (wKill [] (wRet (wAndT (wOrT (wOp dIs (wVar 1) (wC .non)) (wOp dLe (wVar 1) (wVar 0))) (wOrT (wOp dIs (wVar 2) (wC .non)) (wOp dLe (wVar 0) (wVar 2))))))) (Φd D.bl fun _ => M) m ∧ m = m_is_within value_0 least_0 most_0 := ⟨_,
    (bj_if (tj_not (tj_tru (β := _) t_bl (ej_fn (n := 1) (m := 0) (e := D.bl) (cj_p (aj_one (ej_var (e := D.int) value_0 rfl))) (fun x => m_is_integer x) (fun _ _ h => h) (fun x M k E h => T_is_integer x M k E h)))) (fun s_2 => (bj_ret (fin := fun a s' => a) ej_bl (fun P a s' h => (fun P h => h.1) P h))) (fun s_2 => (bj_skip (bj_kill (bj_rho (ρ2 := [some (D.int value_0), some (D.int least_0), some (D.int most_0)]) rfl (bj_rho (ρ2 := [some (D.int value_0), some (D.int least_0), some (D.int most_0)]) rfl (bj_one (bj_ret (fin := fun a s' => a) (ej_andP (ej_orP (ej_op (o_isF (fun _ => rfl)) (ej_var (e := D.int) least_0 rfl) (fun _ _ => ej_non)) (fun _ => (ej_op o_le (ej_var (e := D.int) least_0 rfl) (fun _ _ => (ej_var (e := D.int) value_0 rfl))))) (fun _ => (ej_orP (ej_op (o_isF (fun _ => rfl)) (ej_var (e := D.int) most_0 rfl) (fun _ _ => ej_non)) (fun _ => (ej_op o_le (ej_var (e := D.int) value_0 rfl) (fun _ _ => (ej_var (e := D.int) most_0 rfl))))))) (fun P a s' h => (fun P h => h.1) P h))))))))), (by unfold m_is_within; rfl)⟩
  exact key { nx := fun _ M' => k .non M', rt := k } E (by rw [e]; exact h.mono fun r h => Φd.of (e := D.bl) (M := fun _ => M) h)
@[irreducible] noncomputable def m_need_number (value_0 : Int) (part_0 : Str) (least_0 : Int) (most_0 : Int) : Res Unit :=
  (m_is_within value_0 least_0 most_0).bind fun r_1 =>
  (if (!r_1) then
  (.ex ⟨"BadNumber", ["part"], [D.str part_0]⟩)
  else
  (Res.ok ()))
theorem T_need_number (value_0 : Int) (part_0 : Str) (least_0 : Int) (most_0 : Int) (M : Mem) (k : D → Mem → Prop) (E : XP) (h : (m_need_number value_0 part_0 least_0 most_0).wx E fun r => k (eN r) M) : w_need_number [D.int value_0, D.str part_0, D.int least_0, D.int most_0] M k E := by
  rw [w_need_number_eq]
  obtain ⟨m, key, e⟩ : ∃ m, BJ (fun _ : Unit => M) [some (D.int value_0), some (D.str part_0), some (D.int least_0), some (D.int most_0)] ()
    (wIfS (wNot (wTru (wFn 3 0 w_is_within (wcP (waCons (wVar 0) (waCons (wVar 2) (waCons (wVar 3) waNil))))))) (wRaise xT "BadNumber" (waCons (wVar 1) waNil)) wNext) (Φd eN fun _ => M) m ∧ m = m_need_number value_0 part_0 least_0 most_0 := ⟨_,
    (bj_one (bj_if (tj_not (tj_tru (β := _) t_bl (ej_fn (n := 3) (m := 0) (e := D.bl) (cj_p (aj_cons (ej_var (e := D.int) value_0 rfl) (fun _ _ => (aj_cons (ej_var (e := D.int) least_0 rfl) (fun _ _ => (aj_one (ej_var (e := D.int) most_0 rfl))))))) (fun x => m_is_within x.1 x.2.1 x.2.2) (fun _ _ h => h) (fun x M k E h => T_is_within x.1 x.2.1 x.2.2 M k E h)))) (fun s_2 => (bj_raise (c := "BadNumber") (fl := ["part"]) rfl (fun _ => rfl) (Nat.le_of_ble_eq_true rfl) (aj_one (ej_var (e := D.str) part_0 rfl)))) (fun s_2 => (bj_skip (bj_end (b := ()) (fun P h => h.2 _ rfl)))))), (by unfold m_need_number; rfl)⟩
  exact key { nx := fun _ M' => k .non M', rt := k } E (by rw [e]; exact h.mono fun r h => Φd.of (e := eN) (M := fun _ => M) h)
@[irreducible] noncomputable def m_is_integer_1 (value_0 : Option Int) : Res Bool :=
  (Res.ok ((value_0.isSome && true) && (!(value_0.isSome && false))))
theorem T_is_integer_1 (value_0 : Option Int) (M : Mem) (k : D → Mem → Prop) (E : XP) (h : (m_is_integer_1 value_0).wx E fun r => k (D.bl r) M) : w_is_integer [(eO D.int) value_0] M k E := by
  rw [w_is_integer_eq]
  obtain ⟨m, key, e⟩ : ∃ m, BJ (fun _ : Unit => M) [some ((eO D.int) value_0)] ()
    (wRet (wAndT (wCB (dIsi clsT) (waCons (wVar 0) (waCons (wC (.ty "int")) waNil))) (wNotT (wCB (dIsi clsT) (waCons (wVar 0) (waCons (wC (.ty "bool")) waNil)))))) (Φd D.bl fun _ => M) m ∧ m = m_is_integer_1 value_0 := ⟨_,
    (bj_one (bj_ret (fin := fun a s' => a) (ej_andP (ej_isiO (C := clsT) (c := D.ty "int") (e := D.int) true (fun M k h => isi_ttF (k := fun b => k (.bl b) M) rfl rfl h) (fun _ M k h => isi_ttT (k := fun b => k (.bl b) M) rfl rfl h) (ej_var (e := (eO D.int)) value_0 rfl)) (fun _ => (ej_notT (β := _) t_bl (ej_isiO (C := clsT) (c := D.ty "bool") (e := D.int) false (fun M k h => isi_ttF (k := fun b => k (.bl b) M) rfl rfl h) (fun _ M k h => isi_ttF (k := fun b => k (.bl b) M) rfl rfl h) (ej_var (e := (eO D.int)) value_0 rfl))))) (fun P a s' h => (fun P h => h.1) P h))), (by unfold m_is_integer_1; rfl)⟩
  exact key { nx := fun _ M' => k .non M', rt := k } E (by rw [e]; exact h.mono fun r h => Φd.of (e := D.bl) (M := fun _ => M) h)
@[irreducible] noncomputable def m_need_bound (value_0 : Option Int) (part_0 : Str) : Res Unit :=
  Res.bind (if value_0.isSome then (m_is_integer_1 value_0).bind fun r_5 =>
  (Res.ok (!r_5)) else .ok false) fun b_4 =>
  (if b_4 then
  (.ex ⟨"BadNumber", ["part"], [D.str part_0]⟩)
  else
  (Res.ok ()))
theorem T_need_bound (value_0 : Option Int) (part_0 : Str) (M : Mem) (k : D → Mem → Prop) (E : XP) (h : (m_need_bound value_0 part_0).wx E fun r => k (eN r) M) : w_need_bound [(eO D.int) value_0, D.str part_0] M k E := by
  rw [w_need_bound_eq]
  obtain ⟨m, key, e⟩ : ∃ m, BJ (fun _ : Unit => M) [some ((eO D.int) value_0), some (D.str part_0)] ()
    (wIfS (wAnd (wTest (wOp dIsn (wVar 0) (wC .non))) (wNot (wTru (wFn 1 0 w_is_integer (wcP (waCons (wVar 0) waNil)))))) (wRaise xT "BadNumber" (waCons (wVar 1) waNil)) wNext) (Φd eN fun _ => M) m ∧ m = m_need_bound value_0 part_0 := ⟨_,
    (bj_one (bj_if (tj_andS (fun s_1 k_2 => (m_is_integer_1 value_0).bind fun r_3 =>
  k_2 (!r_3)) (tj_test (ej_op (o_isnO (fun _ => rfl)) (ej_var (e := (eO D.int)) value_0 rfl) (fun _ _ => ej_non))) (fun _ => (tj_not (tj_tru (β := _) t_bl (ej_fn (n := 1) (m := 0) (e := D.bl) (cj_p (aj_one (ej_var (e := (eO D.int)) value_0 rfl))) (fun x => m_is_integer_1 x) (fun _ _ h => h) (fun x M k E h => T_is_integer_1 x M k E h))))) (fun _ _ => rfl)) (fun s_6 => (bj_raise (c := "BadNumber") (fl := ["part"]) rfl (fun _ => rfl) (Nat.le_of_ble_eq_true rfl) (aj_one (ej_var (e := D.str) part_0 rfl)))) (fun s_6 => (bj_skip (bj_end (b := ()) (fun P h => h.2 _ rfl)))))), (by unfold m_need_bound; rfl)⟩
  exact key { nx := fun _ M' => k .non M', rt := k } E (by rw [e]; exact h.mono fun r h => Φd.of (e := eN) (M := fun _ => M) h)
@[irreducible] noncomputable def m_are_bounds (low_0 : Option Int) (high_0 : Option Int) : Res Bool :=
  (if (low_0.isNone || high_0.isNone) then
  (Res.ok (low_0.isSome || high_0.isSome))
  else
  (getO low_0).bind fun t_2 =>
  (getO high_0).bind fun t_3 =>
  (Res.ok (decide (t_2 ≤ t_3))))
theorem T_are_bounds (low_0 : Option Int) (high_0 : Option Int) (M : Mem) (k : D → Mem → Prop) (E : XP) (h : (m_are_bounds low_0 high_0).wx E fun r => k (D.bl r) M) : w_are_bounds [(eO D.int) low_0, (eO D.int) high_0] M k E := by
  rw [w_are_bounds_eq]
  obtain ⟨m, key, e⟩ : ∃ m, BJ (fun _ : Unit => M) [some ((eO D.int) low_0), some ((eO D.int) high_0)] ()
    (wSeq (wIfS (wOr (wTest (wOp dIs (wVar 0) (wC .non))) (wTest (wOp dIs (wVar 1) (wC .non)))) (wRet (wOrT (wOp dIsn (wVar 0) (wC .non)) (wOp dIsn (wVar 1) (wC .non)))) wNext)
  (wKill [] (wRet (wOp dLe (wVar 0) (wVar 1))))) (Φd D.bl fun _ => M) m ∧ m = m_are_bounds low_0 high_0 := ⟨_,
    (bj_if (tj_orP (tj_test (ej_op (o_isO (fun _ => rfl)) (ej_var (e := (eO D.int)) low_0 rfl) (fun _ _ => ej_non))) (fun _ => (tj_test (ej_op (o_isO (fun _ => rfl)) (ej_var (e := (eO D.int)) high_0 rfl) (fun _ _ => ej_non))))) (fun s_1 => (bj_ret (fin := fun a s' => a) (ej_orP (ej_op (o_isnO (fun _ => rfl)) (ej_var (e := (eO D.int)) low_0 rfl) (fun _ _ => ej_non)) (fun _ => (ej_op (o_isnO (fun _ => rfl)) (ej_var (e := (eO D.int)) high_0 rfl) (fun _ _ => ej_non)))) (fun P a s' h => (fun P h => h.1) P h))) (fun s_1 => (bj_skip (bj_kill (bj_rho (ρ2 := [some ((eO D.int) low_0), some ((eO D.int) high_0)]) rfl (bj_rho (ρ2 := [some ((eO D.int) low_0), some ((eO D.int) high_0)]) rfl (bj_one (bj_ret (fin := fun a s' => a) (ej_op o_le (ej_getO (ej_var (e := (eO D.int)) low_0 rfl)) (fun _ _ => (ej_getO (ej_var (e := (eO D.int)) high_0 rfl)))) (fun P a s' h => (fun P h => h.1) P h))))))))), (by unfold m_are_bounds; rfl)⟩
  exact key { nx := fun _ M' => k .non M', rt := k } E (by rw [e]; exact h.mono fun r h => Φd.of (e := D.bl) (M := fun _ => M) h)
structure R_Rule_0 where
  length : Int
  low : Option Int
  high : Option Int
abbrev f_Rule_0 (r : R_Rule_0) : List D := [D.int r.length, (eO D.int) r.low, (eO D.int) r.high]
abbrev e_Rule_0 (r : R_Rule_0) : D := .ins "Rule" ["length", "low", "high"] (f_Rule_0 r)
@[irreducible] noncomputable def m_Rule_init (length_0 : Int) (low_0 : Option Int) (high_0 : Option Int) : Res R_Rule_0 :=
  (m_need_number length_0 ("length" : Str) 1 48).bind fun r_1 =>
  (m_need_bound low_0 ("low" : Str)).bind fun r_2 =>
  (m_need_bound high_0 ("high" : Str)).bind fun r_3 =>
  (m_are_bounds low_0 high_0).bind fun r_4 =>
  (if (!r_4) then
  (.ex ⟨"BadRule", ["part"], [D.str ("bounds" : Str)]⟩)
  else
  let length_6 := length_0
  let low_8 := low_0
  let high_10 := high_0
  (Res.ok ⟨length_6, low_8, high_10⟩))
theorem T_Rule_init (length_0 : Int) (low_0 : Option Int) (high_0 : Option Int) (M : Mem) (p_self : Addr) (k : D → Mem → Prop) (E : XP) (hp_self : M p_self = none) (h : (m_Rule_init length_0 low_0 high_0).wx E fun r => k D.non (mu M p_self (Cell.ins "Rule" ["length", "low", "high"] (f_Rule_0 r)))) : w_Rule_init [D.ref p_self, D.int length_0, (eO D.int) low_0, (eO D.int) high_0] (mu M p_self (Cell.ins "Rule" [] [])) k E := by
  rw [w_Rule_init_eq]
  obtain ⟨m, key, e⟩ : ∃ m, BJ (fun q : Unit => mu M p_self (Cell.ins "Rule" [] ((fun _ => []) q))) [some (D.ref p_self), some (D.int length_0), some ((eO D.int) low_0), some ((eO D.int) high_0)] ()
    (wSeq (wDrop (wFn 4 0 w_need_number (wcP (waCons (wVar 1) (waCons (wC (.str "length")) (waCons (wC (.int 1)) (waCons (wC (.int (48))) waNil)))))))
  (wSeq (wDrop (wFn 2 0 w_need_bound (wcP (waCons (wVar 2) (waCons (wC (.str "low")) waNil)))))
  (wSeq (wDrop (wFn 2 0 w_need_bound (wcP (waCons (wVar 3) (waCons (wC (.str "high")) waNil)))))
  (wSeq (wIfS (wNot (wTru (wFn 2 0 w_are_bounds (wcP (waCons (wVar 2) (waCons (wVar 3) waNil)))))) (wRaise xT "BadRule" (waCons (wC (.str "bounds")) waNil)) wNext)
  (wKill [] (wSeq (wSetF ["Rule"] "length" (wVar 0) (wVar 1))
  (wSeq (wSetF ["Rule"] "low" (wVar 0) (wVar 2))
  (wSetF ["Rule"] "high" (wVar 0) (wVar 3))))))))) (Φi fun r => (mu M p_self (Cell.ins "Rule" ["length", "low", "high"] (f_Rule_0 r)))) m ∧ m = m_Rule_init length_0 low_0 high_0 := ⟨_,
    (bj_drop (ej_fn (n := 4) (m := 0) (e := eN) (cj_p (aj_cons (ej_var (e := D.int) length_0 rfl) (fun _ _ => (aj_cons ej_str (fun _ _ => (aj_cons ej_int (fun _ _ => (aj_one ej_int)))))))) (fun x => m_need_number x.1 x.2.1 x.2.2.1 x.2.2.2) (fun _ _ h => h) (fun x M k E h => T_need_number x.1 x.2.1 x.2.2.1 x.2.2.2 M k E h)) (fun _ _ => (bj_rho (ρ2 := [some (D.ref p_self), some (D.int length_0), some ((eO D.int) low_0), some ((eO D.int) high_0)]) rfl (bj_drop (ej_fn (n := 2) (m := 0) (e := eN) (cj_p (aj_cons (ej_var (e := (eO D.int)) low_0 rfl) (fun _ _ => (aj_one ej_str)))) (fun x => m_need_bound x.1 x.2) (fun _ _ h => h) (fun x M k E h => T_need_bound x.1 x.2 M k E h)) (fun _ _ => (bj_rho (ρ2 := [some (D.ref p_self), some (D.int length_0), some ((eO D.int) low_0), some ((eO D.int) high_0)]) rfl (bj_drop (ej_fn (n := 2) (m := 0) (e := eN) (cj_p (aj_cons (ej_var (e := (eO D.int)) high_0 rfl) (fun _ _ => (aj_one ej_str)))) (fun x => m_need_bound x.1 x.2) (fun _ _ h => h) (fun x M k E h => T_need_bound x.1 x.2 M k E h)) (fun _ _ => (bj_rho (ρ2 := [some (D.ref p_self), some (D.int length_0), some ((eO D.int) low_0), some ((eO D.int) high_0)]) rfl (bj_if (tj_not (tj_tru (β := _) t_bl (ej_fn (n := 2) (m := 0) (e := D.bl) (cj_p (aj_cons (ej_var (e := (eO D.int)) low_0 rfl) (fun _ _ => (aj_one (ej_var (e := (eO D.int)) high_0 rfl))))) (fun x => m_are_bounds x.1 x.2) (fun _ _ h => h) (fun x M k E h => T_are_bounds x.1 x.2 M k E h)))) (fun s_5 => (bj_raise (c := "BadRule") (fl := ["part"]) rfl (fun _ => rfl) (Nat.le_of_ble_eq_true rfl) (aj_one ej_str))) (fun s_5 => (bj_skip (bj_kill (bj_rho (ρ2 := [some (D.ref p_self), some (D.int length_0), some ((eO D.int) low_0), some ((eO D.int) high_0)]) rfl (bj_rho (ρ2 := [some (D.ref p_self), some (D.int length_0), some ((eO D.int) low_0), some ((eO D.int) high_0)]) rfl (bj_fset (e := D.int) rfl (fun _ => rfl) (by decide) (by decide) (by decide) (ej_var (e := D.int) length_0 rfl) (fun length_6 s_7 => (bj_rho (ρ2 := [some (D.ref p_self), some (D.int length_0), some ((eO D.int) low_0), some ((eO D.int) high_0)]) rfl (bj_fset (e := (eO D.int)) rfl (fun _ => rfl) (by decide) (by decide) (by decide) (ej_var (e := (eO D.int)) low_0 rfl) (fun low_8 s_9 => (bj_rho (ρ2 := [some (D.ref p_self), some (D.int length_0), some ((eO D.int) low_0), some ((eO D.int) high_0)]) rfl (bj_one (bj_fset (e := (eO D.int)) rfl (fun _ => rfl) (by decide) (by decide) (by decide) (ej_var (e := (eO D.int)) high_0 rfl) (fun high_10 s_11 => (bj_end (b := (⟨((s_11, high_10)).1.1.2, ((s_11, high_10)).1.2, ((s_11, high_10)).2⟩ : R_Rule_0)) (fun P h => h.2 _)))))))))))))))))))))))))), (by unfold m_Rule_init; rfl)⟩
  exact key { nx := fun _ M' => k .non M', rt := k } E (by rw [e]; exact h.mono fun r h => ⟨h, fun _ => h⟩)
@[irreducible] noncomputable def m_law_first (sums_here_0 : List Int) (low_0 : Option Int) (high_0 : Option Int) : Res (Option Int) :=
  forR (fun (v_17 : Unit) (s_18 : Unit) x_19 =>
  Res.bind (if low_0.isSome then (getO low_0).bind fun t_31 =>
  (Res.ok (decide (x_19.2 < t_31))) else .ok false) fun b_30 =>
  Res.bind (if b_30 then .ok true else Res.bind (if high_0.isSome then (getO high_0).bind fun t_34 =>
  (Res.ok (decide (x_19.2 > t_34))) else .ok false) fun b_33 =>
  (Res.ok b_33)) fun b_32 =>
  (if b_32 then
  (Res.ok (Flow.rt (some x_19.1)))
  else
  (Res.ok (Flow.nx () s_18))))
  (fun v_36 s_37 =>
  (Res.ok none)) (enumT 0 sums_here_0) () ()
theorem T_law_first (sums_here_0 : List Int) (low_0 : Option Int) (high_0 : Option Int) (M : Mem) (k : D → Mem → Prop) (E : XP) (h : (m_law_first sums_here_0 low_0 high_0).wx E fun r => k ((eO D.int) r) M) : w_law_first [(eL D.int) sums_here_0, (eO D.int) low_0, (eO D.int) high_0] M k E := by
  rw [w_law_first_eq]
  obtain ⟨m, key, e⟩ : ∃ m, BJ (fun _ : Unit => M) [some ((eL D.int) sums_here_0), some ((eO D.int) low_0), some ((eO D.int) high_0), none, none] ()
    (wSeq (wFor (wiEnumT (waCons (wVar 0) waNil)) (wgTup 2 (wgCons (wgName 3) (wgCons (wgName 4) wgNil))) (wIfS (wOr (wAnd (wTest (wOp dIsn (wVar 1) (wC .non))) (wTest (wOp dLt (wVar 4) (wVar 1)))) (wAnd (wTest (wOp dIsn (wVar 2) (wC .non))) (wTest (wOp dGt (wVar 4) (wVar 2))))) (wRet (wVar 3)) wNext) [0, 3, 4])
  (wRet (wC .non))) (Φd (eO D.int) fun _ => M) m ∧ m = m_law_first sums_here_0 low_0 high_0 := ⟨_,
    (bj_for (σ := Unit) (ρh := fun v_17 => [none, some ((eO D.int) low_0), some ((eO D.int) high_0), none, none]) () (ij_enumTL (aj_one (ej_var (e := (eL D.int)) sums_here_0 rfl))) rfl (fun _ _ _ _ _ h => h) (fun v_17 _ x_19 => (bj_one (bj_if (tj_orS (fun s_26 k_27 => Res.bind (if high_0.isSome then (getO high_0).bind fun t_29 =>
  (Res.ok (decide (x_19.2 > t_29))) else .ok false) fun b_28 =>
  k_27 b_28) (tj_andS (fun s_20 k_21 => (getO low_0).bind fun t_22 =>
  k_21 (decide (x_19.2 < t_22))) (tj_test (ej_op (o_isnO (fun _ => rfl)) (ej_var (e := (eO D.int)) low_0 rfl) (fun _ _ => ej_non))) (fun _ => (tj_test (ej_op o_lt (ej_var (e := D.int) x_19.2 rfl) (fun _ _ => (ej_getO (ej_var (e := (eO D.int)) low_0 rfl)))))) (fun _ _ => rfl)) (fun _ => (tj_andS (fun s_23 k_24 => (getO high_0).bind fun t_25 =>
  k_24 (decide (x_19.2 > t_25))) (tj_test (ej_op (o_isnO (fun _ => rfl)) (ej_var (e := (eO D.int)) high_0 rfl) (fun _ _ => ej_non))) (fun _ => (tj_test (ej_op o_gt (ej_var (e := D.int) x_19.2 rfl) (fun _ _ => (ej_getO (ej_var (e := (eO D.int)) high_0 rfl)))))) (fun _ _ => rfl))) (fun _ _ => rfl)) (fun s_35 => (bj_ret (fin := fun a s' => (Flow.rt a)) (ej_as (e' := (eO D.int)) (fun a : Int => (some a)) (ej_var (e := D.int) x_19.1 rfl) (fun a => rfl)) (fun P a s' h => (rtL (fun rt => rt _ _) (fun P h => h.1)) P h))) (fun s_35 => (bj_skip (bj_nx (v := ()) rfl)))))) (fun v_36 _ => (bj_rho (ρ2 := [none, some ((eO D.int) low_0), some ((eO D.int) high_0), none, none]) rfl (bj_one (bj_ret (fin := fun a s' => a) (ej_as (e' := (eO D.int)) (fun a : Unit => none) ej_non (fun a => rfl)) (fun P a s' h => (fun P h => h.1) P h)))))), (by unfold m_law_first; rfl)⟩
  exact key { nx := fun _ M' => k .non M', rt := k } E (by rw [e]; exact h.mono fun r h => Φd.of (e := (eO D.int)) (M := fun _ => M) h)
@[irreducible] noncomputable def m_need_row (value_0 : R_Row_0) (part_0 : Str) : Res Unit :=
  (Res.ok ())
theorem T_need_row (value_0 : R_Row_0) (part_0 : Str) (M : Mem) (k : D → Mem → Prop) (E : XP) (h : (m_need_row value_0 part_0).wx E fun r => k (eN r) M) : w_need_row [e_Row_0 value_0, D.str part_0] M k E := by
  rw [w_need_row_eq]
  obtain ⟨m, key, e⟩ : ∃ m, BJ (fun _ : Unit => M) [some (e_Row_0 value_0), some (D.str part_0)] ()
    (wIfS (wNot (wTru (wCB (dIsi clsT) (waCons (wVar 0) (waCons (wC (.cls "Row")) waNil))))) (wRaise xT "BadRow" (waCons (wVar 1) waNil)) wNext) (Φd eN fun _ => M) m ∧ m = m_need_row value_0 part_0 := ⟨_,
    (bj_one (bj_if (tj_not (tj_tru (β := _) t_bl (ej_isi (T := clsT) (c := D.cls "Row") (e := e_Row_0) true (fun _ M k h => isi_ooT (k := fun b => k (.bl b) M) rfl rfl h) (ej_var (e := e_Row_0) value_0 rfl)))) (fun _ => bj_no) (fun _ => (bj_skip (bj_end (b := ()) (fun P h => h.2 _ rfl)))))), (by unfold m_need_row; rfl)⟩
  exact key { nx := fun _ M' => k .non M', rt := k } E (by rw [e]; exact h.mono fun r h => Φd.of (e := eN) (M := fun _ => M) h)
@[irreducible] noncomputable def m_is_within_1 (value_0 : Int) (least_0 : Option Int) (most_0 : Option Int) : Res Bool :=
  (m_is_integer value_0).bind fun r_1 =>
  (if (!r_1) then
  (Res.ok false)
  else
  Res.bind (if least_0.isNone then .ok true else (getO least_0).bind fun t_14 =>
  (Res.ok (decide (t_14 ≤ value_0)))) fun b_13 =>
  Res.bind (if b_13 then Res.bind (if most_0.isNone then .ok true else (getO most_0).bind fun t_17 =>
  (Res.ok (decide (value_0 ≤ t_17)))) fun b_16 =>
  (Res.ok b_16) else .ok false) fun b_15 =>
  (Res.ok b_15))
theorem T_is_within_1 (value_0 : Int) (least_0 : Option Int) (most_0 : Option Int) (M : Mem) (k : D → Mem → Prop) (E : XP) (h : (m_is_within_1 value_0 least_0 most_0).wx E fun r => k (D.bl r) M) : w_is_within [D.int value_0, (eO D.int) least_0, (eO D.int) most_0] M k E := by
  rw [w_is_within_eq]
  obtain ⟨m, key, e⟩ : ∃ m, BJ (fun _ : Unit => M) [some (D.int value_0), some ((eO D.int) least_0), some ((eO D.int) most_0)] ()
    (wSeq (wIfS (wNot (wTru (wFn 1 0 w_is_integer (wcP (waCons (wVar 0) waNil))))) (wRet (wC (.bl false))) wNext)
  (wKill [] (wRet (wAndT (wOrT (wOp dIs (wVar 1) (wC .non)) (wOp dLe (wVar 1) (wVar 0))) (wOrT (wOp dIs (wVar 2) (wC .non)) (wOp dLe (wVar 0) (wVar 2))))))) (Φd D.bl fun _ => M) m ∧ m = m_is_within_1 value_0 least_0 most_0 := ⟨_,
    (bj_if (tj_not (tj_tru (β := _) t_bl (ej_fn (n := 1) (m := 0) (e := D.bl) (cj_p (aj_one (ej_var (e := D.int) value_0 rfl))) (fun x => m_is_integer x) (fun _ _ h => h) (fun x M k E h => T_is_integer x M k E h)))) (fun s_2 => (bj_ret (fin := fun a s' => a) ej_bl (fun P a s' h => (fun P h => h.1) P h))) (fun s_2 => (bj_skip (bj_kill (bj_rho (ρ2 := [some (D.int value_0), some ((eO D.int) least_0), some ((eO D.int) most_0)]) rfl (bj_rho (ρ2 := [some (D.int value_0), some ((eO D.int) least_0), some ((eO D.int) most_0)]) rfl (bj_one (bj_ret (fin := fun a s' => a) (ej_andS (fun s_9 k_10 => Res.bind (if most_0.isNone then .ok true else (getO most_0).bind fun t_12 =>
  (Res.ok (decide (value_0 ≤ t_12)))) fun b_11 =>
  k_10 b_11) (ej_orS (fun s_3 k_4 => (getO least_0).bind fun t_5 =>
  k_4 (decide (t_5 ≤ value_0))) (ej_op (o_isO (fun _ => rfl)) (ej_var (e := (eO D.int)) least_0 rfl) (fun _ _ => ej_non)) (fun _ => (ej_op o_le (ej_getO (ej_var (e := (eO D.int)) least_0 rfl)) (fun _ _ => (ej_var (e := D.int) value_0 rfl)))) (fun _ _ => rfl)) (fun _ => (ej_orS (fun s_6 k_7 => (getO most_0).bind fun t_8 =>
  k_7 (decide (value_0 ≤ t_8))) (ej_op (o_isO (fun _ => rfl)) (ej_var (e := (eO D.int)) most_0 rfl) (fun _ _ => ej_non)) (fun _ => (ej_op o_le (ej_var (e := D.int) value_0 rfl) (fun _ _ => (ej_getO (ej_var (e := (eO D.int)) most_0 rfl))))) (fun _ _ => rfl))) (fun _ _ => rfl)) (fun P a s' h => (fun P h => h.1) P h))))))))), (by unfold m_is_within_1; rfl)⟩
  exact key { nx := fun _ M' => k .non M', rt := k } E (by rw [e]; exact h.mono fun r h => Φd.of (e := D.bl) (M := fun _ => M) h)
@[irreducible] noncomputable def m_Rule_first_broken (self_0 : R_Rule_0) (row_0 : R_Row_0) : Res (Option Int) :=
  (m_need_row row_0 ("row" : Str)).bind fun r_1 =>
  (rngR 0 ((row_0.days - self_0.length) + 1)).bind fun r_15 =>
  forR (fun (v_6 : Unit) (s_7 : Unit) x_8 =>
  (ixR row_0.heights (x_8 + self_0.length)).bind fun t_9 =>
  (ixR row_0.heights x_8).bind fun t_10 =>
  (m_is_within_1 (t_9 - t_10) self_0.low self_0.high).bind fun r_11 =>
  (if (!r_11) then
  (Res.ok (Flow.rt (some x_8)))
  else
  (Res.ok (Flow.nx () s_7))))
  (fun v_13 s_14 =>
  (Res.ok none)) r_15 () ()
theorem T_Rule_first_broken (self_0 : R_Rule_0) (row_0 : R_Row_0) (M : Mem) (k : D → Mem → Prop) (E : XP) (h : (m_Rule_first_broken self_0 row_0).wx E fun r => k ((eO D.int) r) M) : w_Rule_first_broken [e_Rule_0 self_0, e_Row_0 row_0] M k E := by
  rw [w_Rule_first_broken_eq]
  obtain ⟨m, key, e⟩ : ∃ m, BJ (fun _ : Unit => M) [some (e_Rule_0 self_0), some (e_Row_0 row_0), none] ()
    (wSeq (wDrop (wFn 2 0 w_need_row (wcP (waCons (wVar 1) (waCons (wC (.str "row")) waNil)))))
  (wSeq (wFor (wiR1 (waCons (wOp (dAdd false) (wOp dSub (wFld "days" (wVar 1)) (wFld "length" (wVar 0))) (wC (.int 1))) waNil)) (wgName 2) (wIfS (wNot (wTru (wFn 3 0 w_is_within (wcP (waCons (wOp dSub (wOp dIx (wFld "heights" (wVar 1)) (wOp (dAdd false) (wVar 2) (wFld "length" (wVar 0)))) (wOp dIx (wFld "heights" (wVar 1)) (wVar 2))) (waCons (wFld "low" (wVar 0)) (waCons (wFld "high" (wVar 0)) waNil))))))) (wRet (wVar 2)) wNext) [2])
  (wRet (wC .non)))) (Φd (eO D.int) fun _ => M) m ∧ m = m_Rule_first_broken self_0 row_0 := ⟨_,
    (bj_drop (ej_fn (n := 2) (m := 0) (e := eN) (cj_p (aj_cons (ej_var (e := e_Row_0) row_0 rfl) (fun _ _ => (aj_one ej_str)))) (fun x => m_need_row x.1 x.2) (fun _ _ h => h) (fun x M k E h => T_need_row x.1 x.2 M k E h)) (fun _ _ => (bj_rho (ρ2 := [some (e_Rule_0 self_0), some (e_Row_0 row_0), none]) rfl (bj_for (σ := Unit) (ρh := fun v_6 => [some (e_Rule_0 self_0), some (e_Row_0 row_0), none]) () (ij_r1 (aj_one (ej_op o_add (ej_op o_sub (ej_fld (e1 := e_Row_0) (e := D.int) (fun r => r.days) (fun _ _ _ h => fld rfl h) (ej_var (e := e_Row_0) row_0 rfl)) (fun _ _ => (ej_fld (e1 := e_Rule_0) (e := D.int) (fun r => r.length) (fun _ _ _ h => fld rfl h) (ej_var (e := e_Rule_0) self_0 rfl)))) (fun _ _ => ej_int)))) rfl (fun _ _ _ _ _ h => h) (fun v_6 _ x_8 => (bj_one (bj_if (tj_not (tj_tru (β := _) t_bl (ej_fn (n := 3) (m := 0) (e := D.bl) (cj_p (aj_cons (ej_op o_sub (ej_op (o_ixT (e := D.int)) (ej_fld (e1 := e_Row_0) (e := (eT D.int)) (fun r => r.heights) (fun _ _ _ h => fld rfl h) (ej_var (e := e_Row_0) row_0 rfl)) (fun _ _ => (ej_op o_add (ej_var (e := D.int) x_8 rfl) (fun _ _ => (ej_fld (e1 := e_Rule_0) (e := D.int) (fun r => r.length) (fun _ _ _ h => fld rfl h) (ej_var (e := e_Rule_0) self_0 rfl)))))) (fun _ _ => (ej_op (o_ixT (e := D.int)) (ej_fld (e1 := e_Row_0) (e := (eT D.int)) (fun r => r.heights) (fun _ _ _ h => fld rfl h) (ej_var (e := e_Row_0) row_0 rfl)) (fun _ _ => (ej_var (e := D.int) x_8 rfl))))) (fun _ _ => (aj_cons (ej_fld (e1 := e_Rule_0) (e := (eO D.int)) (fun r => r.low) (fun _ _ _ h => fld rfl h) (ej_var (e := e_Rule_0) self_0 rfl)) (fun _ _ => (aj_one (ej_fld (e1 := e_Rule_0) (e := (eO D.int)) (fun r => r.high) (fun _ _ _ h => fld rfl h) (ej_var (e := e_Rule_0) self_0 rfl)))))))) (fun x => m_is_within_1 x.1 x.2.1 x.2.2) (fun _ _ h => h) (fun x M k E h => T_is_within_1 x.1 x.2.1 x.2.2 M k E h)))) (fun s_12 => (bj_ret (fin := fun a s' => (Flow.rt a)) (ej_as (e' := (eO D.int)) (fun a : Int => (some a)) (ej_var (e := D.int) x_8 rfl) (fun a => rfl)) (fun P a s' h => (rtL (fun rt => rt _ _) (fun P h => h.1)) P h))) (fun s_12 => (bj_skip (bj_nx (v := ()) rfl)))))) (fun v_13 _ => (bj_rho (ρ2 := [some (e_Rule_0 self_0), some (e_Row_0 row_0), none]) rfl (bj_one (bj_ret (fin := fun a s' => a) (ej_as (e' := (eO D.int)) (fun a : Unit => none) ej_non (fun a => rfl)) (fun P a s' h => (fun P h => h.1) P h))))))))), (by unfold m_Rule_first_broken; rfl)⟩
  exact key { nx := fun _ M' => k .non M', rt := k } E (by rw [e]; exact h.mono fun r h => Φd.of (e := (eO D.int)) (M := fun _ => M) h)
@[irreducible] noncomputable def m_Rule_keeps (self_0 : R_Rule_0) (row_0 : R_Row_0) : Res Bool :=
  (m_Rule_first_broken self_0 row_0).bind fun r_1 =>
  (Res.ok r_1.isNone)
theorem T_Rule_keeps (self_0 : R_Rule_0) (row_0 : R_Row_0) (M : Mem) (k : D → Mem → Prop) (E : XP) (h : (m_Rule_keeps self_0 row_0).wx E fun r => k (D.bl r) M) : w_Rule_keeps [e_Rule_0 self_0, e_Row_0 row_0] M k E := by
  rw [w_Rule_keeps_eq]
  obtain ⟨m, key, e⟩ : ∃ m, BJ (fun _ : Unit => M) [some (e_Rule_0 self_0), some (e_Row_0 row_0)] ()
    (wRet (wOp dIs (wMt "Rule" "first_broken" 1 0 w_Rule_first_broken (wVar 0) (wcP (waCons (wVar 1) waNil))) (wC .non))) (Φd D.bl fun _ => M) m ∧ m = m_Rule_keeps self_0 row_0 := ⟨_,
    (bj_one (bj_ret (fin := fun a s' => a) (ej_op (o_isO (fun _ => rfl)) (ej_mt (c := "Rule") (nm := "first_broken") (n := 1) (m := 0) (e0 := e_Rule_0) (e := (eO D.int)) (ej_var (e := e_Rule_0) self_0 rfl) (fun _ _ => (cj_p (aj_one (ej_var (e := e_Row_0) row_0 rfl)))) (fun o x => m_Rule_first_broken o x) (fun _ _ _ h => mt_d rfl h) (fun _ _ h => h) (fun o x M k E h => T_Rule_first_broken o x M k E h)) (fun _ _ => ej_non)) (fun P a s' h => (fun P h => h.1) P h))), (by unfold m_Rule_keeps; rfl)⟩
  exact key { nx := fun _ M' => k .non M', rt := k } E (by rw [e]; exact h.mono fun r h => Φd.of (e := D.bl) (M := fun _ => M) h)
@[irreducible] noncomputable def m_law_says (value_0 : Bool) (due_0 : Bool) : Res Bool :=
  (Res.ok (if due_0 then (value_0 == true) else (value_0 == false)))
theorem T_law_says (value_0 : Bool) (due_0 : Bool) (M : Mem) (k : D → Mem → Prop) (E : XP) (h : (m_law_says value_0 due_0).wx E fun r => k (D.bl r) M) : w_law_says [D.bl value_0, D.bl due_0] M k E := by
  rw [w_law_says_eq]
  obtain ⟨m, key, e⟩ : ∃ m, BJ (fun _ : Unit => M) [some (D.bl value_0), some (D.bl due_0)] ()
    (wRet (wIf (wTru (wVar 1)) (wOp dIsB (wVar 0) (wC (.bl true))) (wOp dIsB (wVar 0) (wC (.bl false))))) (Φd D.bl fun _ => M) m ∧ m = m_law_says value_0 due_0 := ⟨_,
    (bj_one (bj_ret (fin := fun a s' => a) (ej_ifP (e := D.bl) (tj_tru (β := _) t_bl (ej_var (e := D.bl) due_0 rfl)) (fun _ => (ej_isB (ej_var (e := D.bl) value_0 rfl))) (fun _ => (ej_isB (ej_var (e := D.bl) value_0 rfl)))) (fun P a s' h => (fun P h => h.1) P h))), (by unfold m_law_says; rfl)⟩
  exact key { nx := fun _ M' => k .non M', rt := k } E (by rw [e]; exact h.mono fun r h => Φd.of (e := D.bl) (M := fun _ => M) h)
@[irreducible] noncomputable def m_law_told_right (t_base : (List Int) × Int × Int) (gains_here_0 : List Int) (length_0 : Int) : Res (Bool × ((List Int) × Int × Int)) :=
  (nx (m_Row_init gains_here_0)).bind fun r_5 =>
  (nx (m_Row_init gains_here_0.reverse)).bind fun r_6 =>
  (m_law_sums gains_here_0 length_0).bind fun r_7 =>
  let a_4 := (r_5, r_6, r_7)
  (m_law_draw t_base (gains_here_0.length : Int)).bind fun r_9 =>
  let first_here_8 := r_9.1
  (m_law_draw r_9.2 ((gains_here_0.length : Int) - first_here_8)).bind fun r_12 =>
  let last_11 := ((first_here_8 + 1) + r_12.1)
  (nx (m_Row_init (cutD gains_here_0 (some first_here_8) (some last_11)))).bind fun r_17 =>
  (m_law_sums (cutD gains_here_0 (some first_here_8) (some last_11)) length_0).bind fun r_18 =>
  let a_16 := (r_17, r_18)
  (m_law_bounds r_12.2 a_4.2.2).bind fun r_116 =>
  forR (fun (v_65 : Unit) (s_66 : (List Int) × Int × Int) x_67 =>
  (nx (m_Rule_init length_0 x_67.1 x_67.2)).bind fun r_71 =>
  (m_law_first a_4.2.2 x_67.1 x_67.2).bind fun r_72 =>
  let a_70 := (r_71, r_72)
  (nx (m_Rule_first_broken a_70.1 a_4.1)).bind fun r_74 =>
  let told_73 := r_74
  Res.bind (if (!(decide (told_73 = a_70.2))) then .ok true else Res.bind (if (told_73.isSome && false) then .ok true else (nx (m_Rule_keeps a_70.1 a_4.1)).bind fun r_87 =>
  (m_law_says r_87 a_70.2.isNone).bind fun r_88 =>
  (Res.ok (!r_88))) fun b_86 =>
  (Res.ok b_86)) fun b_85 =>
  (if b_85 then
  (Res.ok (Flow.rt (false, s_66)))
  else
  (nx (m_Rule_keeps a_70.1 a_4.2.1)).bind fun r_94 =>
  (m_law_says r_94 a_70.2.isNone).bind fun r_95 =>
  Res.bind (if (!r_95) then .ok true else (nx (m_Rule_first_broken a_70.1 a_4.2.1)).bind fun r_97 =>
  (m_law_first a_4.2.2.reverse x_67.1 x_67.2).bind fun r_98 =>
  (Res.ok (!(decide (r_97 = r_98))))) fun b_96 =>
  (if b_96 then
  (Res.ok (Flow.rt (false, s_66)))
  else
  (nx (m_Rule_keeps a_70.1 a_16.1)).bind fun r_107 =>
  (m_law_first a_16.2 x_67.1 x_67.2).bind fun r_108 =>
  (m_law_says r_107 r_108.isNone).bind fun r_109 =>
  Res.bind (if (!r_109) then .ok true else Res.bind (if a_70.2.isNone then (nx (m_Rule_keeps a_70.1 a_16.1)).bind fun r_112 =>
  (Res.ok (!r_112)) else .ok false) fun b_111 =>
  (Res.ok b_111)) fun b_110 =>
  (if b_110 then
  (Res.ok (Flow.rt (false, s_66)))
  else
  (Res.ok (Flow.nx () s_66))))))
  (fun v_114 s_115 =>
  (Res.ok ((decide (a_4.1.gains = gains_here_0)), s_115))) r_116.1 () r_116.2
theorem T_law_told_right (t_base : (List Int) × Int × Int) (gains_here_0 : List Int) (length_0 : Int) (M : Mem) (p_base : Addr) (k : D → Mem → Prop) (E : XP) (hp_base : M p_base = none) (h : (m_law_told_right t_base gains_here_0 length_0).wx E fun r => k (D.bl r.1) (mu M p_base ((cL3 (eL D.int) D.int D.int) r.2))) : w_law_told_right [D.ref p_base, (eL D.int) gains_here_0, D.int length_0] (mu M p_base ((cL3 (eL D.int) D.int D.int) t_base)) k E := by
  rw [w_law_told_right_eq]
  obtain ⟨m, key, e⟩ : ∃ m, BJ (fun t => mu M p_base ((cL3 (eL D.int) D.int D.int) t)) [some (D.ref p_base), some ((eL D.int) gains_here_0), some (D.int length_0), none, none, none, none, none, none, none, none, none, none, none, none] t_base
    (wSeq (wPar3 3 4 5 (waCons (wNew false "Row" 1 0 (nX w_Row_init) (wcP (waCons (wVar 1) waNil))) (waCons (wNew false "Row" 1 0 (nX w_Row_init) (wcP (waCons (wRev false (wVar 1)) waNil))) (waCons (wFn 2 0 w_law_sums (wcP (waCons (wVar 1) (waCons (wVar 2) waNil)))) waNil))))
  (wSeq (wAsg (wFn 2 0 w_law_draw (wcP (waCons (wVar 0) (waCons (wCB (b1 dLen) (waCons (wVar 1) waNil)) waNil)))) (wgName 6))
  (wSeq (wAsg (wOp (dAdd false) (wOp (dAdd false) (wVar 6) (wC (.int 1))) (wFn 2 0 w_law_draw (wcP (waCons (wVar 0) (waCons (wOp dSub (wCB (b1 dLen) (waCons (wVar 1) waNil)) (wVar 6)) waNil))))) (wgName 7))
  (wSeq (wPar 8 9 (waCons (wNew false "Row" 1 0 (nX w_Row_init) (wcP (waCons (wSl false (wVar 1) (woSome (wVar 6)) (woSome (wVar 7))) waNil))) (waCons (wFn 2 0 w_law_sums (wcP (waCons (wSl false (wVar 1) (woSome (wVar 6)) (woSome (wVar 7))) (waCons (wVar 2) waNil)))) waNil)))
  (wSeq (wFor (wiAny (wFn 2 0 w_law_bounds (wcP (waCons (wVar 0) (waCons (wVar 5) waNil))))) (wgTup 2 (wgCons (wgName 10) (wgCons (wgName 11) wgNil))) (wSeq (wPar 12 13 (waCons (wNewD false "Rule" 3 [] (nX w_Rule_init) (wcP (waCons (wVar 2) (waCons (wVar 10) (waCons (wVar 11) waNil))))) (waCons (wFn 3 0 w_law_first (wcP (waCons (wVar 5) (waCons (wVar 10) (waCons (wVar 11) waNil))))) waNil)))
  (wSeq (wAsg (wMt "Rule" "first_broken" 1 0 (nX w_Rule_first_broken) (wVar 12) (wcP (waCons (wVar 3) waNil))) (wgName 14))
  (wSeq (wIfS (wOr (wTest (wOp dNe (wVar 14) (wVar 13))) (wOr (wTru (wCB (dIsi clsT) (waCons (wVar 14) (waCons (wC (.ty "bool")) waNil)))) (wNot (wTru (wFn 2 0 w_law_says (wcP (waCons (wMt "Rule" "keeps" 1 0 (nX w_Rule_keeps) (wVar 12) (wcP (waCons (wVar 3) waNil))) (waCons (wOp dIs (wVar 13) (wC .non)) waNil)))))))) (wRet (wC (.bl false))) wNext)
  (wKill [6, 7, 14] (wSeq (wIfS (wOr (wNot (wTru (wFn 2 0 w_law_says (wcP (waCons (wMtK "Rule" "keeps" 0 1 (nX w_Rule_keeps) [0, 1] (wVar 12) (wcK (waCons (wVar 4) waNil))) (waCons (wOp dIs (wVar 13) (wC .non)) waNil)))))) (wTest (wOp dNe (wMtK "Rule" "first_broken" 0 1 (nX w_Rule_first_broken) [0, 1] (wVar 12) (wcK (waCons (wVar 4) waNil))) (wFn 3 0 w_law_first (wcP (waCons (wRev false (wVar 5)) (waCons (wVar 10) (waCons (wVar 11) waNil)))))))) (wRet (wC (.bl false))) wNext)
  (wKill [6, 7, 14] (wIfS (wOr (wNot (wTru (wFn 2 0 w_law_says (wcP (waCons (wMt "Rule" "keeps" 1 0 (nX w_Rule_keeps) (wVar 12) (wcP (waCons (wVar 8) waNil))) (waCons (wOp dIs (wFn 3 0 w_law_first (wcP (waCons (wVar 9) (waCons (wVar 10) (waCons (wVar 11) waNil))))) (wC .non)) waNil)))))) (wAnd (wTest (wOp dIs (wVar 13) (wC .non))) (wNot (wTru (wMt "Rule" "keeps" 1 0 (nX w_Rule_keeps) (wVar 12) (wcP (waCons (wVar 8) waNil))))))) (wRet (wC (.bl false))) wNext))))))) [6, 7, 10, 11, 12, 13, 14])
  (wRet (wOp dEq (wFld "gains" (wVar 3)) (wCB (b1 dTuple) (waCons (wVar 1) waNil))))))))) (Φd (fun r : Bool × ((List Int) × Int × Int) => D.bl r.1) fun r => mu M p_base ((cL3 (eL D.int) D.int D.int) r.2)) m ∧ m = m_law_told_right t_base gains_here_0 length_0 := ⟨_,
    (bj_par3 (aj_cons (ej_new (n := 1) (m := 0) (e := e_Row_0) (fs := f_Row_0) (cj_p (aj_one (ej_var (e := (eL D.int)) gains_here_0 rfl))) (fun x => nx (m_Row_init x)) (fun _ => rfl) (fun _ _ h => h) (fun x M p k E hp h => T_Row_init x M p k noX hp (nx_wx h))) (fun _ _ => (aj_cons (ej_new (n := 1) (m := 0) (e := e_Row_0) (fs := f_Row_0) (cj_p (aj_one (ej_revL (ej_var (e := (eL D.int)) gains_here_0 rfl)))) (fun x => nx (m_Row_init x)) (fun _ => rfl) (fun _ _ h => h) (fun x M p k E hp h => T_Row_init x M p k noX hp (nx_wx h))) (fun _ _ => (aj_one (ej_fn (n := 2) (m := 0) (e := (eL D.int)) (cj_p (aj_cons (ej_var (e := (eL D.int)) gains_here_0 rfl) (fun _ _ => (aj_one (ej_var (e := D.int) length_0 rfl))))) (fun x => m_law_sums x.1 x.2) (fun _ _ h => h) (fun x M k E h => T_law_sums x.1 x.2 M k E h))))))) (fun a_4 _ => (bj_rho (ρ2 := [some (D.ref p_base), some ((eL D.int) gains_here_0), some (D.int length_0), some (e_Row_0 a_4.1), some (e_Row_0 a_4.2.1), some ((eL D.int) a_4.2.2), none, none, none, none, none, none, none, none, none]) rfl (bj_asg (e := D.int) (ej_fnM (n := 2) (m := 0) (e := D.int) (cj_p (aj_cons (ej_cell rfl) (fun _ _ => (aj_one (ej_cb1 (o_len (e := D.int)) (ej_var (e := (eL D.int)) gains_here_0 rfl)))))) (fun x t => m_law_draw t x.2) (ca_base hp_base) (fun _ _ h => h) (fun x N t k E hp h => T_law_draw t x.2 N _ k E hp h)) (fun first_here_8 s_10 => (bj_rho (ρ2 := [some (D.ref p_base), some ((eL D.int) gains_here_0), some (D.int length_0), some (e_Row_0 a_4.1), some (e_Row_0 a_4.2.1), some ((eL D.int) a_4.2.2), some (D.int first_here_8), none, none, none, none, none, none, none, none]) rfl (bj_asg (e := D.int) (ej_op o_add (ej_op o_add (ej_var (e := D.int) first_here_8 rfl) (fun _ _ => ej_int)) (fun _ _ => (ej_fnM (n := 2) (m := 0) (e := D.int) (cj_p (aj_cons (ej_cell rfl) (fun _ _ => (aj_one (ej_op o_sub (ej_cb1 (o_len (e := D.int)) (ej_var (e := (eL D.int)) gains_here_0 rfl)) (fun _ _ => (ej_var (e := D.int) first_here_8 rfl))))))) (fun x t => m_law_draw t x.2) (ca_base hp_base) (fun _ _ h => h) (fun x N t k E hp h => T_law_draw t x.2 N _ k E hp h)))) (fun last_11 s_13 => (bj_rho (ρ2 := [some (D.ref p_base), some ((eL D.int) gains_here_0), some (D.int length_0), some (e_Row_0 a_4.1), some (e_Row_0 a_4.2.1), some ((eL D.int) a_4.2.2), some (D.int first_here_8), some (D.int last_11), none, none, none, none, none, none, none]) rfl (bj_par (aj_cons (ej_new (n := 1) (m := 0) (e := e_Row_0) (fs := f_Row_0) (cj_p (aj_one (ej_sl (e := (eL D.int)) sl_L (ej_var (e := (eL D.int)) gains_here_0 rfl) (fun _ _ => (oj_some (ej_var (e := D.int) first_here_8 rfl))) (fun _ _ _ _ => (oj_some (ej_var (e := D.int) last_11 rfl)))))) (fun x => nx (m_Row_init x)) (fun _ => rfl) (fun _ _ h => h) (fun x M p k E hp h => T_Row_init x M p k noX hp (nx_wx h))) (fun _ _ => (aj_one (ej_fn (n := 2) (m := 0) (e := (eL D.int)) (cj_p (aj_cons (ej_sl (e := (eL D.int)) sl_L (ej_var (e := (eL D.int)) gains_here_0 rfl) (fun _ _ => (oj_some (ej_var (e := D.int) first_here_8 rfl))) (fun _ _ _ _ => (oj_some (ej_var (e := D.int) last_11 rfl)))) (fun _ _ => (aj_one (ej_var (e := D.int) length_0 rfl))))) (fun x => m_law_sums x.1 x.2) (fun _ _ h => h) (fun x M k E h => T_law_sums x.1 x.2 M k E h))))) (fun a_16 _ => (bj_rho (ρ2 := [some (D.ref p_base), some ((eL D.int) gains_here_0), some (D.int length_0), some (e_Row_0 a_4.1), some (e_Row_0 a_4.2.1), some ((eL D.int) a_4.2.2), some (D.int first_here_8), some (D.int last_11), some (e_Row_0 a_16.1), some ((eL D.int) a_16.2), none, none, none, none, none]) rfl (bj_for (σ := Unit) (ρh := fun v_65 => [some (D.ref p_base), some ((eL D.int) gains_here_0), some (D.int length_0), some (e_Row_0 a_4.1), some (e_Row_0 a_4.2.1), some ((eL D.int) a_4.2.2), none, none, some (e_Row_0 a_16.1), some ((eL D.int) a_16.2), none, none, none, none, none]) () (ij_L (ej_fnM (n := 2) (m := 0) (e := (eL (eT2 (eO D.int) (eO D.int)))) (cj_p (aj_cons (ej_cell rfl) (fun _ _ => (aj_one (ej_var (e := (eL D.int)) a_4.2.2 rfl))))) (fun x t => m_law_bounds t x.2) (ca_base hp_base) (fun _ _ h => h) (fun x N t k E hp h => T_law_bounds t x.2 N _ k E hp h))) rfl (fun _ _ _ _ _ h => h) (fun v_65 _ x_67 => (bj_par (aj_cons (ej_newD (n := 3) (e := e_Rule_0) (fs := f_Rule_0) (cj_p (aj_cons (ej_var (e := D.int) length_0 rfl) (fun _ _ => (aj_cons (ej_var (e := (eO D.int)) x_67.1 rfl) (fun _ _ => (aj_one (ej_var (e := (eO D.int)) x_67.2 rfl))))))) (fun x => nx (m_Rule_init x.1 x.2.1 x.2.2)) (fun _ => rfl) (fun _ _ h => h) (fun x M p k E hp h => T_Rule_init x.1 x.2.1 x.2.2 M p k noX hp (nx_wx h))) (fun _ _ => (aj_one (ej_fn (n := 3) (m := 0) (e := (eO D.int)) (cj_p (aj_cons (ej_var (e := (eL D.int)) a_4.2.2 rfl) (fun _ _ => (aj_cons (ej_var (e := (eO D.int)) x_67.1 rfl) (fun _ _ => (aj_one (ej_var (e := (eO D.int)) x_67.2 rfl))))))) (fun x => m_law_first x.1 x.2.1 x.2.2) (fun _ _ h => h) (fun x M k E h => T_law_first x.1 x.2.1 x.2.2 M k E h))))) (fun a_70 _ => (bj_rho (ρ2 := [some (D.ref p_base), some ((eL D.int) gains_here_0), some (D.int length_0), some (e_Row_0 a_4.1), some (e_Row_0 a_4.2.1), some ((eL D.int) a_4.2.2), none, none, some (e_Row_0 a_16.1), some ((eL D.int) a_16.2), some ((eO D.int) x_67.1), some ((eO D.int) x_67.2), some (e_Rule_0 a_70.1), some ((eO D.int) a_70.2), none]) rfl (bj_asg (e := (eO D.int)) (ej_mt (c := "Rule") (nm := "first_broken") (n := 1) (m := 0) (e0 := e_Rule_0) (e := (eO D.int)) (ej_var (e := e_Rule_0) a_70.1 rfl) (fun _ _ => (cj_p (aj_one (ej_var (e := e_Row_0) a_4.1 rfl)))) (fun o x => nx (m_Rule_first_broken o x)) (fun _ _ _ h => mt_d rfl h) (fun _ _ h => h) (fun o x M k E h => T_Rule_first_broken o x M k noX (nx_wx h))) (fun told_73 s_75 => (bj_rho (ρ2 := [some (D.ref p_base), some ((eL D.int) gains_here_0), some (D.int length_0), some (e_Row_0 a_4.1), some (e_Row_0 a_4.2.1), some ((eL D.int) a_4.2.2), none, none, some (e_Row_0 a_16.1), some ((eL D.int) a_16.2), some ((eO D.int) x_67.1), some ((eO D.int) x_67.2), some (e_Rule_0 a_70.1), some ((eO D.int) a_70.2), some ((eO D.int) told_73)]) rfl (bj_if (tj_orS (fun s_80 k_81 => Res.bind (if (told_73.isSome && false) then .ok true else (nx (m_Rule_keeps a_70.1 a_4.1)).bind fun r_83 =>
  (m_law_says r_83 a_70.2.isNone).bind fun r_84 =>
  (Res.ok (!r_84))) fun b_82 =>
  k_81 b_82) (tj_test (ej_op (o_ne (e := (eO D.int)) (peq_of (pd_O pd_int (fun _ => ⟨rfl, rfl⟩)) (by decide) (fun x y _ _ h => by cases x <;> cases y <;> first | exact h | exact eqd_int h | exact eqd_str h))) (ej_var (e := (eO D.int)) told_73 rfl) (fun _ _ => (ej_var (e := (eO D.int)) a_70.2 rfl)))) (fun _ => (tj_orS (fun s_76 k_77 => (nx (m_Rule_keeps a_70.1 a_4.1)).bind fun r_78 =>
  (m_law_says r_78 a_70.2.isNone).bind fun r_79 =>
  k_77 (!r_79)) (tj_tru (β := _) t_bl (ej_isiO (C := clsT) (c := D.ty "bool") (e := D.int) false (fun M k h => isi_ttF (k := fun b => k (.bl b) M) rfl rfl h) (fun _ M k h => isi_ttF (k := fun b => k (.bl b) M) rfl rfl h) (ej_var (e := (eO D.int)) told_73 rfl))) (fun _ => (tj_not (tj_tru (β := _) t_bl (ej_fn (n := 2) (m := 0) (e := D.bl) (cj_p (aj_cons (ej_mt (c := "Rule") (nm := "keeps") (n := 1) (m := 0) (e0 := e_Rule_0) (e := D.bl) (ej_var (e := e_Rule_0) a_70.1 rfl) (fun _ _ => (cj_p (aj_one (ej_var (e := e_Row_0) a_4.1 rfl)))) (fun o x => nx (m_Rule_keeps o x)) (fun _ _ _ h => mt_d rfl h) (fun _ _ h => h) (fun o x M k E h => T_Rule_keeps o x M k noX (nx_wx h))) (fun _ _ => (aj_one (ej_op (o_isO (fun _ => rfl)) (ej_var (e := (eO D.int)) a_70.2 rfl) (fun _ _ => ej_non)))))) (fun x => m_law_says x.1 x.2) (fun _ _ h => h) (fun x M k E h => T_law_says x.1 x.2 M k E h))))) (fun _ _ => rfl))) (fun _ _ => rfl)) (fun s_89 => (bj_ret (fin := fun a s' => (Flow.rt (a, s'))) ej_bl (fun P a s' h => (rtL (fun rt => rt _ _) (fun P h => h.1)) P h))) (fun s_89 => (bj_skip (bj_kill (bj_rho (ρ2 := [some (D.ref p_base), some ((eL D.int) gains_here_0), some (D.int length_0), some (e_Row_0 a_4.1), some (e_Row_0 a_4.2.1), some ((eL D.int) a_4.2.2), none, none, some (e_Row_0 a_16.1), some ((eL D.int) a_16.2), some ((eO D.int) x_67.1), some ((eO D.int) x_67.2), some (e_Rule_0 a_70.1), some ((eO D.int) a_70.2), none]) rfl (bj_rho (ρ2 := [some (D.ref p_base), some ((eL D.int) gains_here_0), some (D.int length_0), some (e_Row_0 a_4.1), some (e_Row_0 a_4.2.1), some ((eL D.int) a_4.2.2), none, none, some (e_Row_0 a_16.1), some ((eL D.int) a_16.2), some ((eO D.int) x_67.1), some ((eO D.int) x_67.2), some (e_Rule_0 a_70.1), some ((eO D.int) a_70.2), none]) rfl (bj_if (tj_orS (fun s_90 k_91 => (nx (m_Rule_first_broken a_70.1 a_4.2.1)).bind fun r_92 =>
  (m_law_first a_4.2.2.reverse x_67.1 x_67.2).bind fun r_93 =>
  k_91 (!(decide (r_92 = r_93)))) (tj_not (tj_tru (β := _) t_bl (ej_fn (n := 2) (m := 0) (e := D.bl) (cj_p (aj_cons (ej_mtK (c := "Rule") (nm := "keeps") (n := 0) (m := 1) (π := [0, 1]) (e0 := e_Rule_0) (e := D.bl) (ej_var (e := e_Rule_0) a_70.1 rfl) (fun _ _ => (cj_k (aj_one (ej_var (e := e_Row_0) a_4.2.1 rfl)))) (fun o x => nx (m_Rule_keeps o x)) (fun _ _ _ h => mt_d rfl h) (fun _ _ _ h => h) (fun o x M k E h => T_Rule_keeps o x M k noX (nx_wx h))) (fun _ _ => (aj_one (ej_op (o_isO (fun _ => rfl)) (ej_var (e := (eO D.int)) a_70.2 rfl) (fun _ _ => ej_non)))))) (fun x => m_law_says x.1 x.2) (fun _ _ h => h) (fun x M k E h => T_law_says x.1 x.2 M k E h)))) (fun _ => (tj_test (ej_op (o_ne (e := (eO D.int)) (peq_of (pd_O pd_int (fun _ => ⟨rfl, rfl⟩)) (by decide) (fun x y _ _ h => by cases x <;> cases y <;> first | exact h | exact eqd_int h | exact eqd_str h))) (ej_mtK (c := "Rule") (nm := "first_broken") (n := 0) (m := 1) (π := [0, 1]) (e0 := e_Rule_0) (e := (eO D.int)) (ej_var (e := e_Rule_0) a_70.1 rfl) (fun _ _ => (cj_k (aj_one (ej_var (e := e_Row_0) a_4.2.1 rfl)))) (fun o x => nx (m_Rule_first_broken o x)) (fun _ _ _ h => mt_d rfl h) (fun _ _ _ h => h) (fun o x M k E h => T_Rule_first_broken o x M k noX (nx_wx h))) (fun _ _ => (ej_fn (n := 3) (m := 0) (e := (eO D.int)) (cj_p (aj_cons (ej_revL (ej_var (e := (eL D.int)) a_4.2.2 rfl)) (fun _ _ => (aj_cons (ej_var (e := (eO D.int)) x_67.1 rfl) (fun _ _ => (aj_one (ej_var (e := (eO D.int)) x_67.2 rfl))))))) (fun x => m_law_first x.1 x.2.1 x.2.2) (fun _ _ h => h) (fun x M k E h => T_law_first x.1 x.2.1 x.2.2 M k E h)))))) (fun _ _ => rfl)) (fun s_99 => (bj_ret (fin := fun a s' => (Flow.rt (a, s'))) ej_bl (fun P a s' h => (rtL (fun rt => rt _ _) (fun P h => h.1)) P h))) (fun s_99 => (bj_skip (bj_kill (bj_rho (ρ2 := [some (D.ref p_base), some ((eL D.int) gains_here_0), some (D.int length_0), some (e_Row_0 a_4.1), some (e_Row_0 a_4.2.1), some ((eL D.int) a_4.2.2), none, none, some (e_Row_0 a_16.1), some ((eL D.int) a_16.2), some ((eO D.int) x_67.1), some ((eO D.int) x_67.2), some (e_Rule_0 a_70.1), some ((eO D.int) a_70.2), none]) rfl (bj_rho (ρ2 := [some (D.ref p_base), some ((eL D.int) gains_here_0), some (D.int length_0), some (e_Row_0 a_4.1), some (e_Row_0 a_4.2.1), some ((eL D.int) a_4.2.2), none, none, some (e_Row_0 a_16.1), some ((eL D.int) a_16.2), some ((eO D.int) x_67.1), some ((eO D.int) x_67.2), some (e_Rule_0 a_70.1), some ((eO D.int) a_70.2), none]) rfl (bj_one (bj_if (tj_orS (fun s_103 k_104 => Res.bind (if a_70.2.isNone then (nx (m_Rule_keeps a_70.1 a_16.1)).bind fun r_106 =>
  (Res.ok (!r_106)) else .ok false) fun b_105 =>
  k_104 b_105) (tj_not (tj_tru (β := _) t_bl (ej_fn (n := 2) (m := 0) (e := D.bl) (cj_p (aj_cons (ej_mt (c := "Rule") (nm := "keeps") (n := 1) (m := 0) (e0 := e_Rule_0) (e := D.bl) (ej_var (e := e_Rule_0) a_70.1 rfl) (fun _ _ => (cj_p (aj_one (ej_var (e := e_Row_0) a_16.1 rfl)))) (fun o x => nx (m_Rule_keeps o x)) (fun _ _ _ h => mt_d rfl h) (fun _ _ h => h) (fun o x M k E h => T_Rule_keeps o x M k noX (nx_wx h))) (fun _ _ => (aj_one (ej_op (o_isO (fun _ => rfl)) (ej_fn (n := 3) (m := 0) (e := (eO D.int)) (cj_p (aj_cons (ej_var (e := (eL D.int)) a_16.2 rfl) (fun _ _ => (aj_cons (ej_var (e := (eO D.int)) x_67.1 rfl) (fun _ _ => (aj_one (ej_var (e := (eO D.int)) x_67.2 rfl))))))) (fun x => m_law_first x.1 x.2.1 x.2.2) (fun _ _ h => h) (fun x M k E h => T_law_first x.1 x.2.1 x.2.2 M k E h)) (fun _ _ => ej_non)))))) (fun x => m_law_says x.1 x.2) (fun _ _ h => h) (fun x M k E h => T_law_says x.1 x.2 M k E h)))) (fun _ => (tj_andS (fun s_100 k_101 => (nx (m_Rule_keeps a_70.1 a_16.1)).bind fun r_102 =>
  k_101 (!r_102)) (tj_test (ej_op (o_isO (fun _ => rfl)) (ej_var (e := (eO D.int)) a_70.2 rfl) (fun _ _ => ej_non))) (fun _ => (tj_not (tj_tru (β := _) t_bl (ej_mt (c := "Rule") (nm := "keeps") (n := 1) (m := 0) (e0 := e_Rule_0) (e := D.bl) (ej_var (e := e_Rule_0) a_70.1 rfl) (fun _ _ => (cj_p (aj_one (ej_var (e := e_Row_0) a_16.1 rfl)))) (fun o x => nx (m_Rule_keeps o x)) (fun _ _ _ h => mt_d rfl h) (fun _ _ h => h) (fun o x M k E h => T_Rule_keeps o x M k noX (nx_wx h)))))) (fun _ _ => rfl))) (fun _ _ => rfl)) (fun s_113 => (bj_ret (fin := fun a s' => (Flow.rt (a, s'))) ej_bl (fun P a s' h => (rtL (fun rt => rt _ _) (fun P h => h.1)) P h))) (fun s_113 => (bj_skip (bj_nx (v := ()) rfl)))))))))))))))))))))))) (fun v_114 _ => (bj_rho (ρ2 := [some (D.ref p_base), some ((eL D.int) gains_here_0), some (D.int length_0), some (e_Row_0 a_4.1), some (e_Row_0 a_4.2.1), some ((eL D.int) a_4.2.2), none, none, some (e_Row_0 a_16.1), some ((eL D.int) a_16.2), none, none, none, none, none]) rfl (bj_one (bj_ret (fin := fun a s' => (a, s')) (ej_op (o_eq (e := (eT D.int)) (peq_of (pd_T pd_int) (by decide) (fun _ _ _ _ h => h))) (ej_fld (e1 := e_Row_0) (e := (eT D.int)) (fun r => r.gains) (fun _ _ _ h => fld rfl h) (ej_var (e := e_Row_0) a_4.1 rfl)) (fun _ _ => (ej_cb1 (o_tuple (e := D.int)) (ej_var (e := (eL D.int)) gains_here_0 rfl)))) (fun P a s' h => (fun P h => h.1) P h)))))))))))))))))), (by unfold m_law_told_right; rfl)⟩
  exact key { nx := fun _ M' => k .non M', rt := k } E (by rw [e]; exact h.mono fun r h => Φd.of (e := fun r : Bool × ((List Int) × Int × Int) => D.bl r.1) (M := fun r => mu M p_base ((cL3 (eL D.int) D.int D.int) r.2)) h)
@[irreducible] noncomputable def m_law_of_1 (t_base : (List Int) × Int × Int) (some_0 : List D) : Res (D × ((List Int) × Int × Int)) :=
  (m_law_draw t_base (some_0.length : Int)).bind fun r_1 =>
  (ixR some_0 r_1.1).bind fun t_2 =>
  (Res.ok (t_2, r_1.2))
theorem T_law_of_1 (t_base : (List Int) × Int × Int) (some_0 : List D) (M : Mem) (p_base : Addr) (k : D → Mem → Prop) (E : XP) (hp_base : M p_base = none) (h : (m_law_of_1 t_base some_0).wx E fun r => k (eX r.1) (mu M p_base ((cL3 (eL D.int) D.int D.int) r.2))) : w_law_of [D.ref p_base, (eL eX) some_0] (mu M p_base ((cL3 (eL D.int) D.int D.int) t_base)) k E := by
  rw [w_law_of_eq]
  obtain ⟨m, key, e⟩ : ∃ m, BJ (fun t => mu M p_base ((cL3 (eL D.int) D.int D.int) t)) [some (D.ref p_base), some ((eL eX) some_0)] t_base
    (wRet (wOp dIx (wVar 1) (wFn 2 0 w_law_draw (wcP (waCons (wVar 0) (waCons (wCB (b1 dLen) (waCons (wVar 1) waNil)) waNil)))))) (Φd (fun r : D × ((List Int) × Int × Int) => eX r.1) fun r => mu M p_base ((cL3 (eL D.int) D.int D.int) r.2)) m ∧ m = m_law_of_1 t_base some_0 := ⟨_,
    (bj_one (bj_ret (fin := fun a s' => (a, s')) (ej_op (o_ix (e := eX)) (ej_var (e := (eL eX)) some_0 rfl) (fun _ _ => (ej_fnM (n := 2) (m := 0) (e := D.int) (cj_p (aj_cons (ej_cell rfl) (fun _ _ => (aj_one (ej_cb1 (o_len (e := eX)) (ej_var (e := (eL eX)) some_0 rfl)))))) (fun x t => m_law_draw t x.2) (ca_base hp_base) (fun _ _ h => h) (fun x N t k E hp h => T_law_draw t x.2 N _ k E hp h)))) (fun P a s' h => (fun P h => h.1) P h))), (by unfold m_law_of_1; rfl)⟩
  exact key { nx := fun _ M' => k .non M', rt := k } E (by rw [e]; exact h.mono fun r h => Φd.of (e := fun r : D × ((List Int) × Int × Int) => eX r.1) (M := fun r => mu M p_base ((cL3 (eL D.int) D.int D.int) r.2)) h)
@[irreducible] noncomputable def m_law_heard (r_0 : Res Unit) : Res (Option Str) := match r_0 with
  | .ok _ =>
  (Res.ok none)
  | .ex x_0 => if (xT.lookup x_0.c).isSome = true then
  let caught_3 := x_0
  (isxR clsT xT caught_3 "BadRow").bind fun t_11 =>
  Res.bind (if t_11 then (xfR xT caught_3 "part").bind fun t_13 =>
  (asSR t_13).bind fun t_14 =>
  (Res.ok (some t_14)) else (Res.ok none)) fun y_12 =>
  (Res.ok y_12)
  else .no
  | .no => .no
theorem H_law_heard : HJ xT 2 3 1 .non ws_law_heard wr_law_heard (eO D.str) m_law_heard := by
  obtain ⟨m, key, e⟩ : ∃ m, HJ xT 2 3 1 .non ws_law_heard wr_law_heard (eO D.str) m ∧ m = m_law_heard := ⟨_, hj_of (fun M => (bj_one (bj_ret (fin := fun a s' => a) (ej_as (e' := (eO D.str)) (fun a : Unit => none) (ej_ifS (e := eN) (fun _ _ => .no) (fun s_1 k_2 => k_2 ()) (tj_tru (β := _) t_bl (ej_isn (c := D.cls "BadRow") (e := eN) false (fun _ _ _ h => h) (fun _ M k h => isi_to rfl rfl h) (ej_var (e := eN) () rfl))) (fun _ => ej_no) (fun _ => ej_non) (fun _ _ => rfl) (fun _ _ => rfl)) (fun a => rfl)) (fun P a s' h => (fun P h => h.1) P h)))) (fun M x_0 => (bj_asg (e := eXn) (ej_var (e := eXn) x_0 rfl) (fun caught_3 s_4 => (bj_wend (bj_rho (ρ2 := [none, some (eXn caught_3), none]) rfl (bj_one (bj_ret (fin := fun a s' => a) (ej_ifS (e := (eO D.str)) (fun s_5 k_6 => (xfR xT caught_3 "part").bind fun t_7 =>
  (asSR t_7).bind fun t_8 =>
  k_6 (some t_8)) (fun s_9 k_10 => k_10 none) (tj_tru (β := _) t_bl (ej_isx rfl (ej_var (e := eXn) caught_3 rfl))) (fun _ => (ej_as (e' := (eO D.str)) (fun a : Str => (some a)) (ej_asS (ej_xg (ej_var (e := eXn) caught_3 rfl))) (fun a => rfl))) (fun _ => (ej_as (e' := (eO D.str)) (fun a : Unit => none) ej_non (fun a => rfl))) (fun _ _ => rfl) (fun _ _ => rfl)) (fun P a s' h => (fun P h => h.1) P h)))))))), (by funext r_0; unfold m_law_heard; rfl)⟩
  rw [← e]; exact key
@[irreducible] noncomputable def m_need_row_1 (value_0 : D) (part_0 : Str) : Res Unit :=
  (isdR clsT value_0 "Row").bind fun t_1 =>
  (if (!t_1) then
  (.ex ⟨"BadRow", ["part"], [D.str part_0]⟩)
  else
  (Res.ok ()))
theorem T_need_row_1 (value_0 : D) (part_0 : Str) (M : Mem) (k : D → Mem → Prop) (E : XP) (h : (m_need_row_1 value_0 part_0).wx E fun r => k (eN r) M) : w_need_row [eX value_0, D.str part_0] M k E := by
  rw [w_need_row_eq]
  obtain ⟨m, key, e⟩ : ∃ m, BJ (fun _ : Unit => M) [some (eX value_0), some (D.str part_0)] ()
    (wIfS (wNot (wTru (wCB (dIsi clsT) (waCons (wVar 0) (waCons (wC (.cls "Row")) waNil))))) (wRaise xT "BadRow" (waCons (wVar 1) waNil)) wNext) (Φd eN fun _ => M) m ∧ m = m_need_row_1 value_0 part_0 := ⟨_,
    (bj_one (bj_if (tj_not (tj_tru (β := _) t_bl (ej_isd rfl (ej_var (e := eX) value_0 rfl)))) (fun s_2 => (bj_raise (c := "BadRow") (fl := ["part"]) rfl (fun _ => rfl) (Nat.le_of_ble_eq_true rfl) (aj_one (ej_var (e := D.str) part_0 rfl)))) (fun s_2 => (bj_skip (bj_end (b := ()) (fun P h => h.2 _ rfl)))))), (by unfold m_need_row_1; rfl)⟩
  exact key { nx := fun _ M' => k .non M', rt := k } E (by rw [e]; exact h.mono fun r h => Φd.of (e := eN) (M := fun _ => M) h)
@[irreducible] noncomputable def m_Rule_first_broken_1 (self_0 : R_Rule_0) (row_0 : D) : Res Unit :=
  (m_need_row_1 row_0 ("row" : Str)).bind fun r_1 =>
  .no
theorem T_Rule_first_broken_1 (self_0 : R_Rule_0) (row_0 : D) (M : Mem) (k : D → Mem → Prop) (E : XP) (h : (m_Rule_first_broken_1 self_0 row_0).wx E fun r => k (eN r) M) : w_Rule_first_broken [e_Rule_0 self_0, eX row_0] M k E := by
  rw [w_Rule_first_broken_eq]
  obtain ⟨m, key, e⟩ : ∃ m, BJ (fun _ : Unit => M) [some (e_Rule_0 self_0), some (eX row_0), none] ()
    (wSeq (wDrop (wFn 2 0 w_need_row (wcP (waCons (wVar 1) (waCons (wC (.str "row")) waNil)))))
  (wSeq (wFor (wiR1 (waCons (wOp (dAdd false) (wOp dSub (wFld "days" (wVar 1)) (wFld "length" (wVar 0))) (wC (.int 1))) waNil)) (wgName 2) (wIfS (wNot (wTru (wFn 3 0 w_is_within (wcP (waCons (wOp dSub (wOp dIx (wFld "heights" (wVar 1)) (wOp (dAdd false) (wVar 2) (wFld "length" (wVar 0)))) (wOp dIx (wFld "heights" (wVar 1)) (wVar 2))) (waCons (wFld "low" (wVar 0)) (waCons (wFld "high" (wVar 0)) waNil))))))) (wRet (wVar 2)) wNext) [2])
  (wRet (wC .non)))) (Φd eN fun _ => M) m ∧ m = m_Rule_first_broken_1 self_0 row_0 := ⟨_,
    (bj_drop (ej_fn (n := 2) (m := 0) (e := eN) (cj_p (aj_cons (ej_var (e := eX) row_0 rfl) (fun _ _ => (aj_one ej_str)))) (fun x => m_need_row_1 x.1 x.2) (fun _ _ h => h) (fun x M k E h => T_need_row_1 x.1 x.2 M k E h)) (fun _ _ => (bj_rho (ρ2 := [some (e_Rule_0 self_0), some (eX row_0), none]) rfl bj_no))), (by unfold m_Rule_first_broken_1; rfl)⟩
  exact key { nx := fun _ M' => k .non M', rt := k } E (by rw [e]; exact h.mono fun r h => Φd.of (e := eN) (M := fun _ => M) h)
@[irreducible] noncomputable def m_Rule_keeps_1 (self_0 : R_Rule_0) (row_0 : D) : Res Bool :=
  (m_Rule_first_broken_1 self_0 row_0).bind fun r_1 =>
  (Res.ok true)
theorem T_Rule_keeps_1 (self_0 : R_Rule_0) (row_0 : D) (M : Mem) (k : D → Mem → Prop) (E : XP) (h : (m_Rule_keeps_1 self_0 row_0).wx E fun r => k (D.bl r) M) : w_Rule_keeps [e_Rule_0 self_0, eX row_0] M k E := by
  rw [w_Rule_keeps_eq]
  obtain ⟨m, key, e⟩ : ∃ m, BJ (fun _ : Unit => M) [some (e_Rule_0 self_0), some (eX row_0)] ()
    (wRet (wOp dIs (wMt "Rule" "first_broken" 1 0 w_Rule_first_broken (wVar 0) (wcP (waCons (wVar 1) waNil))) (wC .non))) (Φd D.bl fun _ => M) m ∧ m = m_Rule_keeps_1 self_0 row_0 := ⟨_,
    (bj_one (bj_ret (fin := fun a s' => a) (ej_op o_isN (ej_mt (c := "Rule") (nm := "first_broken") (n := 1) (m := 0) (e0 := e_Rule_0) (e := eN) (ej_var (e := e_Rule_0) self_0 rfl) (fun _ _ => (cj_p (aj_one (ej_var (e := eX) row_0 rfl)))) (fun o x => m_Rule_first_broken_1 o x) (fun _ _ _ h => mt_d rfl h) (fun _ _ h => h) (fun o x M k E h => T_Rule_first_broken_1 o x M k E h)) (fun _ _ => ej_non)) (fun P a s' h => (fun P h => h.1) P h))), (by unfold m_Rule_keeps_1; rfl)⟩
  exact key { nx := fun _ M' => k .non M', rt := k } E (by rw [e]; exact h.mono fun r h => Φd.of (e := D.bl) (M := fun _ => M) h)
@[irreducible] noncomputable def m_law_refused_right (t_base : (List Int) × Int × Int) (gains_here_0 : List Int) : Res (Bool × ((List Int) × Int × Int)) :=
  (m_law_of t_base [1, 2, 48]).bind fun r_2 =>
  (m_law_number r_2.2).bind fun r_3 =>
  (nx (m_Rule_init r_2.1 (some r_3.1) none)).bind fun r_4 =>
  let rule_1 := r_4
  (lcR (fun (x_6 : Int) => (Res.ok true)) (fun (x_6 : Int) => (strR x_6).bind fun t_12 =>
  (Res.ok t_12)) gains_here_0 []).bind fun l_11 =>
  (joinR (" " : Str) l_11).bind fun t_13 =>
  (m_law_of_1 r_3.2 [(eN ()), (D.int 5), ((eL D.int) gains_here_0), ((eT D.int) gains_here_0), (D.str t_13), (e_Rule_0 rule_1), ((fun _ : Unit => D.dic) ()), (D.bl true)]).bind fun r_14 =>
  let odd_10 := r_14.1
  (nx (m_law_heard ((m_Rule_keeps_1 rule_1 odd_10).bind fun r_16 =>
  (Res.ok ())))).bind fun r_17 =>
  let s_19 := (r_14.2, [r_17])
  (nx (m_law_heard ((m_Rule_first_broken_1 rule_1 odd_10).bind fun r_20 =>
  (Res.ok ())))).bind fun r_21 =>
  (appR s_19.2 r_21).bind fun l_22 =>
  let s_23 := (s_19.1, l_22)
  (eqR (okL (okO okS)) s_23.2 [(some ("row" : Str)), (some ("row" : Str))]).bind fun t_24 =>
  (Res.ok (t_24, s_23.1))
theorem T_law_refused_right (t_base : (List Int) × Int × Int) (gains_here_0 : List Int) (M : Mem) (p_base : Addr) (k : D → Mem → Prop) (E : XP) (hp_base : M p_base = none) (h : (m_law_refused_right t_base gains_here_0).wx E fun r => k (D.bl r.1) (mu M p_base ((cL3 (eL D.int) D.int D.int) r.2))) : w_law_refused_right [D.ref p_base, (eL D.int) gains_here_0] (mu M p_base ((cL3 (eL D.int) D.int D.int) t_base)) k E := by
  rw [w_law_refused_right_eq]
  obtain ⟨m, key, e⟩ : ∃ m, BJ (fun t => mu M p_base ((cL3 (eL D.int) D.int D.int) t)) [some (D.ref p_base), some ((eL D.int) gains_here_0), none, none, none, none] t_base
    (wSeq (wAsg (wNewD false "Rule" 2 [.non] (nX w_Rule_init) (wcP (waCons (wFn 2 0 w_law_of (wcP (waCons (wVar 0) (waCons (wLst false (waCons (wC (.int 1)) (waCons (wC (.int 2)) (waCons (wC (.int 48)) waNil)))) waNil)))) (waCons (wFn 1 0 w_law_number (wcP (waCons (wVar 0) waNil))) waNil)))) (wgName 4))
  (wSeq (wAsg (wFn 2 0 w_law_of (wcP (waCons (wVar 0) (waCons (wLst false (waCons (wC .non) (waCons (wC (.int 5)) (waCons (wVar 1) (waCons (wCB (b1 dTuple) (waCons (wVar 1) waNil)) (waCons (wBS dJoin (wC (.str " ")) (waCons (wLc false (wiAny (wVar 1)) (wgName 5) wYes (wCB (b1 dStr) (waCons (wVar 5) waNil)) [5]) waNil)) (waCons (wVar 4) (waCons wDic (waCons (wC (.bl true)) waNil))))))))) waNil)))) (wgName 3))
  (wSeq (wAsg (wLst true (waCons (wLam xT 2 3 1 .non ws_law_heard wr_law_heard (wMt "Rule" "keeps" 1 0 w_Rule_keeps (wVar 4) (wcP (waCons (wVar 3) waNil)))) waNil)) (wgName 2))
  (wSeq (wDrop (wBL dApp (wVar 2) (waCons (wLam xT 2 3 1 .non ws_law_heard wr_law_heard (wMt "Rule" "first_broken" 1 0 w_Rule_first_broken (wVar 4) (wcP (waCons (wVar 3) waNil)))) waNil)))
  (wRet (wDp [2] (wOp dEq (wVar 2) (wLst false (waCons (wC (.str "row")) (waCons (wC (.str "row")) waNil)))))))))) (Φd (fun r : Bool × ((List Int) × Int × Int) => D.bl r.1) fun r => mu M p_base ((cL3 (eL D.int) D.int D.int) r.2)) m ∧ m = m_law_refused_right t_base gains_here_0 := ⟨_,
    (bj_asg (e := e_Rule_0) (ej_newD (n := 2) (e := e_Rule_0) (fs := f_Rule_0) (cj_p (aj_cons (ej_fnM (n := 2) (m := 0) (e := D.int) (cj_p (aj_cons (ej_cell rfl) (fun _ _ => (aj_one (ej_lstL (e := D.int) (lj_cons ej_int (fun _ _ => (lj_cons ej_int (fun _ _ => (lj_cons ej_int (fun _ _ => lj_nil)))))) (by decide)))))) (fun x t => m_law_of t x.2) (ca_base hp_base) (fun _ _ h => h) (fun x N t k E hp h => T_law_of t x.2 N _ k E hp h)) (fun _ _ => (aj_one (ej_as (e' := (eO D.int)) (fun a : Int => (some a)) (ej_fnM (n := 1) (m := 0) (e := D.int) (cj_p (aj_one (ej_cell rfl))) (fun x t => m_law_number t) (ca_base hp_base) (fun _ _ h => h) (fun x N t k E hp h => T_law_number t N _ k E hp h)) (fun a => rfl)))))) (fun x => nx (m_Rule_init x.1 x.2 none)) (fun _ => rfl) (fun _ _ h => h) (fun x M p k E hp h => T_Rule_init x.1 x.2 none M p k noX hp (nx_wx h))) (fun rule_1 s_5 => (bj_rho (ρ2 := [some (D.ref p_base), some ((eL D.int) gains_here_0), none, none, some (e_Rule_0 rule_1), none]) rfl (bj_asg (e := eX) (ej_fnM (n := 2) (m := 0) (e := eX) (cj_p (aj_cons (ej_cell rfl) (fun _ _ => (aj_one (ej_lstL (e := eX) (lj_cons (ej_as (e' := eX) (fun a : Unit => (eN a)) ej_non (fun a => rfl)) (fun _ _ => (lj_cons (ej_as (e' := eX) (fun a : Int => (D.int a)) ej_int (fun a => rfl)) (fun _ _ => (lj_cons (ej_as (e' := eX) (fun a : List Int => ((eL D.int) a)) (ej_var (e := (eL D.int)) gains_here_0 rfl) (fun a => rfl)) (fun _ _ => (lj_cons (ej_as (e' := eX) (fun a : List Int => ((eT D.int) a)) (ej_cb1 (o_tuple (e := D.int)) (ej_var (e := (eL D.int)) gains_here_0 rfl)) (fun a => rfl)) (fun _ _ => (lj_cons (ej_as (e' := eX) (fun a : Str => (D.str a)) (ej_bs o_join ej_str (fun _ _ => (aj_one (ej_lcR (eo := D.str) (ρt := fun (x_6 : Int) => [some (D.ref p_base), some ((eL D.int) gains_here_0), none, none, some (e_Rule_0 rule_1), some (D.int x_6)]) (fun x_6 s_7 k_8 => k_8 true) (fun x_6 s_7 k_8 => (strR x_6).bind fun t_9 =>
  k_8 t_9) (ij_L (ej_var (e := (eL D.int)) gains_here_0 rfl)) (fun _ _ _ _ h => h) (fun x_6 _ => tj_yes) (fun x_6 _ => (ej_cb1 o_str (ej_var (e := D.int) x_6 rfl))) (fun _ _ _ => rfl) (fun _ _ _ => rfl))))) (fun a => rfl)) (fun _ _ => (lj_cons (ej_as (e' := eX) (fun a : R_Rule_0 => (e_Rule_0 a)) (ej_var (e := e_Rule_0) rule_1 rfl) (fun a => rfl)) (fun _ _ => (lj_cons (ej_as (e' := eX) (fun a : Unit => ((fun _ : Unit => D.dic) a)) ej_dic (fun a => rfl)) (fun _ _ => (lj_cons (ej_as (e' := eX) (fun a : Bool => (D.bl a)) ej_bl (fun a => rfl)) (fun _ _ => lj_nil)))))))))))))))) (by decide)))))) (fun x t => m_law_of_1 t x.2) (ca_base hp_base) (fun _ _ h => h) (fun x N t k E hp h => T_law_of_1 t x.2 N _ k E hp h)) (fun odd_10 s_15 => (bj_rho (ρ2 := [some (D.ref p_base), some ((eL D.int) gains_here_0), none, some (eX odd_10), some (e_Rule_0 rule_1), none]) rfl (bj_new (c := (cL (eO D.str))) di_base (nj_lstL (e := (eO D.str)) (lj_cons (ej_lam (e := (eO D.str)) m_law_heard H_law_heard (ej_mt (c := "Rule") (nm := "keeps") (n := 1) (m := 0) (e0 := e_Rule_0) (e := D.bl) (ej_var (e := e_Rule_0) rule_1 rfl) (fun _ _ => (cj_p (aj_one (ej_var (e := eX) odd_10 rfl)))) (fun o x => m_Rule_keeps_1 o x) (fun _ _ _ h => mt_d rfl h) (fun _ _ h => h) (fun o x M k E h => T_Rule_keeps_1 o x M k E h))) (fun _ _ => lj_nil)) (by decide)) (fun _ _ p_heard_here_18 μ_heard_here_18 h_heard_here_18 => (bj_rho (ρ2 := [some (D.ref p_base), some ((eL D.int) gains_here_0), some (D.ref p_heard_here_18), some (eX odd_10), some (e_Rule_0 rule_1), none]) rfl (bj_app h_heard_here_18.ca rfl (ej_lam (e := (eO D.str)) m_law_heard H_law_heard (ej_mt (c := "Rule") (nm := "first_broken") (n := 1) (m := 0) (e0 := e_Rule_0) (e := eN) (ej_var (e := e_Rule_0) rule_1 rfl) (fun _ _ => (cj_p (aj_one (ej_var (e := eX) odd_10 rfl)))) (fun o x => m_Rule_first_broken_1 o x) (fun _ _ _ h => mt_d rfl h) (fun _ _ h => h) (fun o x M k E h => T_Rule_first_broken_1 o x M k E h))) (fun _ => (bj_rho (ρ2 := [some (D.ref p_base), some ((eL D.int) gains_here_0), some (D.ref p_heard_here_18), some (eX odd_10), some (e_Rule_0 rule_1), none]) rfl (bj_one (bj_retD (ρ := [some (D.ref p_base), some ((eL D.int) gains_here_0), some (D.ref p_heard_here_18), some (eX odd_10), some (e_Rule_0 rule_1), none]) (l := [2]) (fin := fun a s' => (a, s'.1)) (ej_opC1 h_heard_here_18.ca rfl (oc_eqg (pg_O pg_str (fun _ => ⟨rfl, rfl⟩)) (by decide)) (ej_lstL (e := (eO D.str)) (lj_cons (ej_as (e' := (eO D.str)) (fun a : Str => (some a)) ej_str (fun a => rfl)) (fun _ _ => (lj_cons (ej_as (e' := (eO D.str)) (fun a : Str => (some a)) ej_str (fun a => rfl)) (fun _ _ => lj_nil)))) (by decide))) (fun P a s' h => (fun P h => (drop1 h_heard_here_18.cr h.1)) P h))))))))))))))), (by unfold m_law_refused_right; rfl)⟩
  exact key { nx := fun _ M' => k .non M', rt := k } E (by rw [e]; exact h.mono fun r h => Φd.of (e := fun r : Bool × ((List Int) × Int × Int) => D.bl r.1) (M := fun r => mu M p_base ((cL3 (eL D.int) D.int D.int) r.2)) h)
@[irreducible] noncomputable def m_law (script_0 : List Int) : Res Bool :=
  (m_law_pen script_0).bind fun r_1 =>
  let s_3 := ((), r_1)
  (m_law_of s_3.2 [5, 1, 2, 3, 7, 12, 30, 48, 4, 6]).bind fun r_5 =>
  let many_4 := r_5.1
  let s_6 := (s_3.1, r_5.2)
  (m_law_gains s_6.2 many_4).bind fun r_9 =>
  let gains_here_8 := r_9.1
  let s_10 := (s_6.1, r_9.2)
  (m_law_draw s_10.2 many_4).bind fun r_13 =>
  (m_law_draw (s_10.1, r_13.2).2 many_4).bind fun r_14 =>
  (m_law_draw ((s_10.1, r_13.2).1, r_14.2).2 48).bind fun r_15 =>
  let lengths_12 := [1, many_4, (min (many_4 + 1) 48), (1 + r_13.1), (1 + r_14.1), (1 + r_15.1)]
  let s_16 := (((s_10.1, r_13.2).1, r_14.2).1, r_15.2)
  (lcS (fun (x_18 : Int) (s_19 : Unit × ((List Int) × Int × Int)) => (m_law_told_right s_19.2 gains_here_8 x_18).bind fun r_21 =>
  if (!r_21.1) then Res.ok (some x_18, (s_19.1, r_21.2)) else .ok (none, (s_19.1, r_21.2))) lengths_12 [] s_16).bind fun q_20 =>
  (if (!(decide (q_20.1 = []))) then
  (Res.ok false)
  else
  let six_23 := [(-3), 5, (-3), (-3), 5, (-3)]
  (nx (m_Rule_init 3 none (some (-1)))).bind fun r_52 =>
  (nx (m_Row_init six_23)).bind fun r_53 =>
  (nx (m_Rule_keeps r_52 r_53)).bind fun r_54 =>
  Res.bind (if (!r_54) then .ok true else (nx (m_Rule_init 5 (some 1) none)).bind fun r_56 =>
  (nx (m_Row_init six_23)).bind fun r_57 =>
  (nx (m_Rule_keeps r_56 r_57)).bind fun r_58 =>
  Res.bind (if (!r_58) then .ok true else (nx (m_Rule_init 3 none (some (-2)))).bind fun r_60 =>
  (nx (m_Row_init six_23)).bind fun r_61 =>
  (nx (m_Rule_first_broken r_60 r_61)).bind fun r_62 =>
  Res.bind (if (!(decide (r_62 = (some 0)))) then .ok true else (nx (m_Rule_init 2 (some (-5)) none)).bind fun r_64 =>
  (nx (m_Row_init six_23)).bind fun r_65 =>
  (nx (m_Rule_first_broken r_64 r_65)).bind fun r_66 =>
  (Res.ok (!(decide (r_66 = (some 2)))))) fun b_63 =>
  (Res.ok b_63)) fun b_59 =>
  (Res.ok b_59)) fun b_55 =>
  (if b_55 then
  (Res.ok false)
  else
  (m_law_refused_right q_20.2.2 gains_here_8).bind fun r_68 =>
  (Res.ok r_68.1)))
theorem T_law (script_0 : List Int) (M : Mem) (k : D → Mem → Prop) (E : XP) (h : (m_law script_0).wx E fun r => k (D.bl r) M) : w_law [D.scr script_0] M k E := by
  rw [w_law_eq]
  obtain ⟨m, key, e⟩ : ∃ m, BJ (fun _ : Unit => M) [some (D.scr script_0), none, none, none, none, none, none] ()
    (wSeq (wAsg (wFn 1 0 w_law_pen (wcP (waCons (wVar 0) waNil))) (wgName 1))
  (wSeq (wAsg (wFn 2 0 w_law_of (wcP (waCons (wVar 1) (waCons (wLst false (waCons (wC (.int 5)) (waCons (wC (.int 1)) (waCons (wC (.int 2)) (waCons (wC (.int 3)) (waCons (wC (.int 7)) (waCons (wC (.int 12)) (waCons (wC (.int 30)) (waCons (wC (.int 48)) (waCons (wC (.int 4)) (waCons (wC (.int 6)) waNil))))))))))) waNil)))) (wgName 2))
  (wSeq (wAsg (wFn 2 0 w_law_gains (wcP (waCons (wVar 1) (waCons (wVar 2) waNil)))) (wgName 3))
  (wSeq (wAsg (wLst false (waCons (wC (.int 1)) (waCons (wVar 2) (waCons (wCB dMinT (waCons (wOp (dAdd false) (wVar 2) (wC (.int 1))) (waCons (wC (.int 48)) waNil))) (waCons (wOp (dAdd false) (wC (.int 1)) (wFn 2 0 w_law_draw (wcP (waCons (wVar 1) (waCons (wVar 2) waNil))))) (waCons (wOp (dAdd false) (wC (.int 1)) (wFn 2 0 w_law_draw (wcP (waCons (wVar 1) (waCons (wVar 2) waNil))))) (waCons (wOp (dAdd false) (wC (.int 1)) (wFn 2 0 w_law_draw (wcP (waCons (wVar 1) (waCons (wC (.int 48)) waNil))))) waNil))))))) (wgName 4))
  (wSeq (wIfS (wTest (wOp dNe (wLc false (wiAny (wVar 4)) (wgName 6) (wNot (wTru (wFn 3 0 w_law_told_right (wcP (waCons (wVar 1) (waCons (wVar 3) (waCons (wVar 6) waNil))))))) (wVar 6) [6]) (wLst false waNil))) (wRet (wDp [1] (wC (.bl false)))) wNext)
  (wKill [0, 2, 4, 5, 6] (wSeq (wAsg (wLst false (waCons (wUn dNeg (wC (.int 3))) (waCons (wC (.int 5)) (waCons (wUn dNeg (wC (.int 3))) (waCons (wUn dNeg (wC (.int 3))) (waCons (wC (.int 5)) (waCons (wUn dNeg (wC (.int 3))) waNil))))))) (wgName 5))
  (wSeq (wIfS (wOr (wNot (wTru (wMt "Rule" "keeps" 1 0 (nX w_Rule_keeps) (wNewD false "Rule" 3 [] (nX w_Rule_init) (wcP (waCons (wC (.int 3)) (waCons (wC .non) (waCons (wUn dNeg (wC (.int 1))) waNil))))) (wcP (waCons (wNew false "Row" 1 0 (nX w_Row_init) (wcP (waCons (wVar 5) waNil))) waNil))))) (wOr (wNot (wTru (wMt "Rule" "keeps" 1 0 (nX w_Rule_keeps) (wNewD false "Rule" 2 [.non] (nX w_Rule_init) (wcP (waCons (wC (.int 5)) (waCons (wC (.int 1)) waNil)))) (wcP (waCons (wNew false "Row" 1 0 (nX w_Row_init) (wcP (waCons (wVar 5) waNil))) waNil))))) (wOr (wTest (wOp dNe (wMt "Rule" "first_broken" 1 0 (nX w_Rule_first_broken) (wNewD false "Rule" 3 [] (nX w_Rule_init) (wcP (waCons (wC (.int 3)) (waCons (wC .non) (waCons (wUn dNeg (wC (.int 2))) waNil))))) (wcP (waCons (wNew false "Row" 1 0 (nX w_Row_init) (wcP (waCons (wVar 5) waNil))) waNil))) (wC (.int 0)))) (wTest (wOp dNe (wMt "Rule" "first_broken" 1 0 (nX w_Rule_first_broken) (wNewD false "Rule" 2 [.non] (nX w_Rule_init) (wcP (waCons (wC (.int 2)) (waCons (wUn dNeg (wC (.int 5))) waNil)))) (wcP (waCons (wNew false "Row" 1 0 (nX w_Row_init) (wcP (waCons (wVar 5) waNil))) waNil))) (wC (.int 2))))))) (wRet (wDp [1] (wC (.bl false)))) wNext)
  (wKill [0, 2, 4, 5, 6] (wRet (wDp [1] (wFn 2 0 w_law_refused_right (wcP (waCons (wVar 1) (waCons (wVar 3) waNil))))))))))))))) (Φd D.bl fun _ => M) m ∧ m = m_law script_0 := ⟨_,
    (bj_new (c := (cL3 (eL D.int) D.int D.int)) di_unit (nj_fn (n := 1) (m := 0) (cj_p (aj_one (ej_var (e := D.scr) script_0 rfl))) (fun x => m_law_pen x) (fun _ _ h => h) (fun x M k E h => T_law_pen x M k E h)) (fun _ _ p_pen_here_2 μ_pen_here_2 h_pen_here_2 => (bj_rho (ρ2 := [some (D.scr script_0), some (D.ref p_pen_here_2), none, none, none, none, none]) rfl (bj_asg (e := D.int) (ej_fnM (n := 2) (m := 0) (e := D.int) (cj_p (aj_cons (ej_cell rfl) (fun _ _ => (aj_one (ej_lstL (e := D.int) (lj_cons ej_int (fun _ _ => (lj_cons ej_int (fun _ _ => (lj_cons ej_int (fun _ _ => (lj_cons ej_int (fun _ _ => (lj_cons ej_int (fun _ _ => (lj_cons ej_int (fun _ _ => (lj_cons ej_int (fun _ _ => (lj_cons ej_int (fun _ _ => (lj_cons ej_int (fun _ _ => (lj_cons ej_int (fun _ _ => lj_nil)))))))))))))))))))) (by decide)))))) (fun x t => m_law_of t x.2) h_pen_here_2.ca (fun _ _ h => h) (fun x N t k E hp h => T_law_of t x.2 N _ k E hp h)) (fun many_4 s_7 => (bj_rho (ρ2 := [some (D.scr script_0), some (D.ref p_pen_here_2), some (D.int many_4), none, none, none, none]) rfl (bj_asg (e := (eL D.int)) (ej_fnM (n := 2) (m := 0) (e := (eL D.int)) (cj_p (aj_cons (ej_cell rfl) (fun _ _ => (aj_one (ej_var (e := D.int) many_4 rfl))))) (fun x t => m_law_gains t x.2) h_pen_here_2.ca (fun _ _ h => h) (fun x N t k E hp h => T_law_gains t x.2 N _ k E hp h)) (fun gains_here_8 s_11 => (bj_rho (ρ2 := [some (D.scr script_0), some (D.ref p_pen_here_2), some (D.int many_4), some ((eL D.int) gains_here_8), none, none, none]) rfl (bj_asg (e := (eL D.int)) (ej_lstL (e := D.int) (lj_cons ej_int (fun _ _ => (lj_cons (ej_var (e := D.int) many_4 rfl) (fun _ _ => (lj_cons (ej_cb o_min2 (aj_cons (ej_op o_add (ej_var (e := D.int) many_4 rfl) (fun _ _ => ej_int)) (fun _ _ => (aj_one ej_int)))) (fun _ _ => (lj_cons (ej_op o_add ej_int (fun _ _ => (ej_fnM (n := 2) (m := 0) (e := D.int) (cj_p (aj_cons (ej_cell rfl) (fun _ _ => (aj_one (ej_var (e := D.int) many_4 rfl))))) (fun x t => m_law_draw t x.2) h_pen_here_2.ca (fun _ _ h => h) (fun x N t k E hp h => T_law_draw t x.2 N _ k E hp h)))) (fun _ _ => (lj_cons (ej_op o_add ej_int (fun _ _ => (ej_fnM (n := 2) (m := 0) (e := D.int) (cj_p (aj_cons (ej_cell rfl) (fun _ _ => (aj_one (ej_var (e := D.int) many_4 rfl))))) (fun x t => m_law_draw t x.2) h_pen_here_2.ca (fun _ _ h => h) (fun x N t k E hp h => T_law_draw t x.2 N _ k E hp h)))) (fun _ _ => (lj_cons (ej_op o_add ej_int (fun _ _ => (ej_fnM (n := 2) (m := 0) (e := D.int) (cj_p (aj_cons (ej_cell rfl) (fun _ _ => (aj_one ej_int)))) (fun x t => m_law_draw t x.2) h_pen_here_2.ca (fun _ _ h => h) (fun x N t k E hp h => T_law_draw t x.2 N _ k E hp h)))) (fun _ _ => lj_nil)))))))))))) (by decide)) (fun lengths_12 s_17 => (bj_rho (ρ2 := [some (D.scr script_0), some (D.ref p_pen_here_2), some (D.int many_4), some ((eL D.int) gains_here_8), some ((eL D.int) lengths_12), none, none]) rfl (bj_if (tj_test (ej_op (o_ne (e := (eL D.int)) (peq_of (pd_L pd_int) (by decide) (fun _ _ _ _ h => h))) (ej_lcS (eo := D.int) (ρt := fun (x_18 : Int) => [some (D.scr script_0), some (D.ref p_pen_here_2), some (D.int many_4), some ((eL D.int) gains_here_8), some ((eL D.int) lengths_12), none, some (D.int x_18)]) (ij_L (ej_var (e := (eL D.int)) lengths_12 rfl)) (fun _ _ _ _ h => h) (fun x_18 _ => (tj_not (tj_tru (β := _) t_bl (ej_fnM (n := 3) (m := 0) (e := D.bl) (cj_p (aj_cons (ej_cell rfl) (fun _ _ => (aj_cons (ej_var (e := (eL D.int)) gains_here_8 rfl) (fun _ _ => (aj_one (ej_var (e := D.int) x_18 rfl))))))) (fun x t => m_law_told_right t x.2.1 x.2.2) h_pen_here_2.ca (fun _ _ h => h) (fun x N t k E hp h => T_law_told_right t x.2.1 x.2.2 N _ k E hp h))))) (fun x_18 _ => (ej_var (e := D.int) x_18 rfl))) (fun _ _ => (ej_lstL (e := D.int) lj_nil (by decide))))) (fun s_22 => (bj_retD (ρ := [some (D.scr script_0), some (D.ref p_pen_here_2), some (D.int many_4), some ((eL D.int) gains_here_8), some ((eL D.int) lengths_12), none, none]) (l := [1]) (fin := fun a s' => a) ej_bl (fun P a s' h => (fun P h => (drop1 h_pen_here_2.cr h.1)) P h))) (fun s_22 => (bj_skip (bj_kill (bj_rho (ρ2 := [none, some (D.ref p_pen_here_2), none, some ((eL D.int) gains_here_8), none, none, none]) rfl (bj_rho (ρ2 := [none, some (D.ref p_pen_here_2), none, some ((eL D.int) gains_here_8), none, none, none]) rfl (bj_asg (e := (eL D.int)) (ej_lstL (e := D.int) (lj_cons (ej_un o_neg ej_int) (fun _ _ => (lj_cons ej_int (fun _ _ => (lj_cons (ej_un o_neg ej_int) (fun _ _ => (lj_cons (ej_un o_neg ej_int) (fun _ _ => (lj_cons ej_int (fun _ _ => (lj_cons (ej_un o_neg ej_int) (fun _ _ => lj_nil)))))))))))) (by decide)) (fun six_23 s_24 => (bj_rho (ρ2 := [none, some (D.ref p_pen_here_2), none, some ((eL D.int) gains_here_8), none, some ((eL D.int) six_23), none]) rfl (bj_if (tj_orS (fun s_39 k_40 => (nx (m_Rule_init 5 (some 1) none)).bind fun r_41 =>
  (nx (m_Row_init six_23)).bind fun r_42 =>
  (nx (m_Rule_keeps r_41 r_42)).bind fun r_43 =>
  Res.bind (if (!r_43) then .ok true else (nx (m_Rule_init 3 none (some (-2)))).bind fun r_45 =>
  (nx (m_Row_init six_23)).bind fun r_46 =>
  (nx (m_Rule_first_broken r_45 r_46)).bind fun r_47 =>
  Res.bind (if (!(decide (r_47 = (some 0)))) then .ok true else (nx (m_Rule_init 2 (some (-5)) none)).bind fun r_49 =>
  (nx (m_Row_init six_23)).bind fun r_50 =>
  (nx (m_Rule_first_broken r_49 r_50)).bind fun r_51 =>
  (Res.ok (!(decide (r_51 = (some 2)))))) fun b_48 =>
  (Res.ok b_48)) fun b_44 =>
  k_40 b_44) (tj_not (tj_tru (β := _) t_bl (ej_mt (c := "Rule") (nm := "keeps") (n := 1) (m := 0) (e0 := e_Rule_0) (e := D.bl) (ej_newD (n := 3) (e := e_Rule_0) (fs := f_Rule_0) (cj_p (aj_cons ej_int (fun _ _ => (aj_cons (ej_as (e' := (eO D.int)) (fun a : Unit => none) ej_non (fun a => rfl)) (fun _ _ => (aj_one (ej_as (e' := (eO D.int)) (fun a : Int => (some a)) (ej_un o_neg ej_int) (fun a => rfl)))))))) (fun x => nx (m_Rule_init x.1 x.2.1 x.2.2)) (fun _ => rfl) (fun _ _ h => h) (fun x M p k E hp h => T_Rule_init x.1 x.2.1 x.2.2 M p k noX hp (nx_wx h))) (fun _ _ => (cj_p (aj_one (ej_new (n := 1) (m := 0) (e := e_Row_0) (fs := f_Row_0) (cj_p (aj_one (ej_var (e := (eL D.int)) six_23 rfl))) (fun x => nx (m_Row_init x)) (fun _ => rfl) (fun _ _ h => h) (fun x M p k E hp h => T_Row_init x M p k noX hp (nx_wx h)))))) (fun o x => nx (m_Rule_keeps o x)) (fun _ _ _ h => mt_d rfl h) (fun _ _ h => h) (fun o x M k E h => T_Rule_keeps o x M k noX (nx_wx h))))) (fun _ => (tj_orS (fun s_30 k_31 => (nx (m_Rule_init 3 none (some (-2)))).bind fun r_32 =>
  (nx (m_Row_init six_23)).bind fun r_33 =>
  (nx (m_Rule_first_broken r_32 r_33)).bind fun r_34 =>
  Res.bind (if (!(decide (r_34 = (some 0)))) then .ok true else (nx (m_Rule_init 2 (some (-5)) none)).bind fun r_36 =>
  (nx (m_Row_init six_23)).bind fun r_37 =>
  (nx (m_Rule_first_broken r_36 r_37)).bind fun r_38 =>
  (Res.ok (!(decide (r_38 = (some 2)))))) fun b_35 =>
  k_31 b_35) (tj_not (tj_tru (β := _) t_bl (ej_mt (c := "Rule") (nm := "keeps") (n := 1) (m := 0) (e0 := e_Rule_0) (e := D.bl) (ej_newD (n := 2) (e := e_Rule_0) (fs := f_Rule_0) (cj_p (aj_cons ej_int (fun _ _ => (aj_one (ej_as (e' := (eO D.int)) (fun a : Int => (some a)) ej_int (fun a => rfl)))))) (fun x => nx (m_Rule_init x.1 x.2 none)) (fun _ => rfl) (fun _ _ h => h) (fun x M p k E hp h => T_Rule_init x.1 x.2 none M p k noX hp (nx_wx h))) (fun _ _ => (cj_p (aj_one (ej_new (n := 1) (m := 0) (e := e_Row_0) (fs := f_Row_0) (cj_p (aj_one (ej_var (e := (eL D.int)) six_23 rfl))) (fun x => nx (m_Row_init x)) (fun _ => rfl) (fun _ _ h => h) (fun x M p k E hp h => T_Row_init x M p k noX hp (nx_wx h)))))) (fun o x => nx (m_Rule_keeps o x)) (fun _ _ _ h => mt_d rfl h) (fun _ _ h => h) (fun o x M k E h => T_Rule_keeps o x M k noX (nx_wx h))))) (fun _ => (tj_orS (fun s_25 k_26 => (nx (m_Rule_init 2 (some (-5)) none)).bind fun r_27 =>
  (nx (m_Row_init six_23)).bind fun r_28 =>
  (nx (m_Rule_first_broken r_27 r_28)).bind fun r_29 =>
  k_26 (!(decide (r_29 = (some 2))))) (tj_test (ej_op (o_ne (e := (eO D.int)) (peq_of (pd_O pd_int (fun _ => ⟨rfl, rfl⟩)) (by decide) (fun x y _ _ h => by cases x <;> cases y <;> first | exact h | exact eqd_int h | exact eqd_str h))) (ej_mt (c := "Rule") (nm := "first_broken") (n := 1) (m := 0) (e0 := e_Rule_0) (e := (eO D.int)) (ej_newD (n := 3) (e := e_Rule_0) (fs := f_Rule_0) (cj_p (aj_cons ej_int (fun _ _ => (aj_cons (ej_as (e' := (eO D.int)) (fun a : Unit => none) ej_non (fun a => rfl)) (fun _ _ => (aj_one (ej_as (e' := (eO D.int)) (fun a : Int => (some a)) (ej_un o_neg ej_int) (fun a => rfl)))))))) (fun x => nx (m_Rule_init x.1 x.2.1 x.2.2)) (fun _ => rfl) (fun _ _ h => h) (fun x M p k E hp h => T_Rule_init x.1 x.2.1 x.2.2 M p k noX hp (nx_wx h))) (fun _ _ => (cj_p (aj_one (ej_new (n := 1) (m := 0) (e := e_Row_0) (fs := f_Row_0) (cj_p (aj_one (ej_var (e := (eL D.int)) six_23 rfl))) (fun x => nx (m_Row_init x)) (fun _ => rfl) (fun _ _ h => h) (fun x M p k E hp h => T_Row_init x M p k noX hp (nx_wx h)))))) (fun o x => nx (m_Rule_first_broken o x)) (fun _ _ _ h => mt_d rfl h) (fun _ _ h => h) (fun o x M k E h => T_Rule_first_broken o x M k noX (nx_wx h))) (fun _ _ => (ej_as (e' := (eO D.int)) (fun a : Int => (some a)) ej_int (fun a => rfl))))) (fun _ => (tj_test (ej_op (o_ne (e := (eO D.int)) (peq_of (pd_O pd_int (fun _ => ⟨rfl, rfl⟩)) (by decide) (fun x y _ _ h => by cases x <;> cases y <;> first | exact h | exact eqd_int h | exact eqd_str h))) (ej_mt (c := "Rule") (nm := "first_broken") (n := 1) (m := 0) (e0 := e_Rule_0) (e := (eO D.int)) (ej_newD (n := 2) (e := e_Rule_0) (fs := f_Rule_0) (cj_p (aj_cons ej_int (fun _ _ => (aj_one (ej_as (e' := (eO D.int)) (fun a : Int => (some a)) (ej_un o_neg ej_int) (fun a => rfl)))))) (fun x => nx (m_Rule_init x.1 x.2 none)) (fun _ => rfl) (fun _ _ h => h) (fun x M p k E hp h => T_Rule_init x.1 x.2 none M p k noX hp (nx_wx h))) (fun _ _ => (cj_p (aj_one (ej_new (n := 1) (m := 0) (e := e_Row_0) (fs := f_Row_0) (cj_p (aj_one (ej_var (e := (eL D.int)) six_23 rfl))) (fun x => nx (m_Row_init x)) (fun _ => rfl) (fun _ _ h => h) (fun x M p k E hp h => T_Row_init x M p k noX hp (nx_wx h)))))) (fun o x => nx (m_Rule_first_broken o x)) (fun _ _ _ h => mt_d rfl h) (fun _ _ h => h) (fun o x M k E h => T_Rule_first_broken o x M k noX (nx_wx h))) (fun _ _ => (ej_as (e' := (eO D.int)) (fun a : Int => (some a)) ej_int (fun a => rfl)))))) (fun _ _ => rfl))) (fun _ _ => rfl))) (fun _ _ => rfl)) (fun s_67 => (bj_retD (ρ := [none, some (D.ref p_pen_here_2), none, some ((eL D.int) gains_here_8), none, some ((eL D.int) six_23), none]) (l := [1]) (fin := fun a s' => a) ej_bl (fun P a s' h => (fun P h => (drop1 h_pen_here_2.cr h.1)) P h))) (fun s_67 => (bj_skip (bj_kill (bj_rho (ρ2 := [none, some (D.ref p_pen_here_2), none, some ((eL D.int) gains_here_8), none, none, none]) rfl (bj_rho (ρ2 := [none, some (D.ref p_pen_here_2), none, some ((eL D.int) gains_here_8), none, none, none]) rfl (bj_one (bj_retD (ρ := [none, some (D.ref p_pen_here_2), none, some ((eL D.int) gains_here_8), none, none, none]) (l := [1]) (fin := fun a s' => a) (ej_fnM (n := 2) (m := 0) (e := D.bl) (cj_p (aj_cons (ej_cell rfl) (fun _ _ => (aj_one (ej_var (e := (eL D.int)) gains_here_8 rfl))))) (fun x t => m_law_refused_right t x.2) h_pen_here_2.ca (fun _ _ h => h) (fun x N t k E hp h => T_law_refused_right t x.2 N _ k E hp h)) (fun P a s' h => (fun P h => (drop1 h_pen_here_2.cr h.1)) P h)))))))))))))))))))))))))))))), (by unfold m_law; rfl)⟩
  exact key { nx := fun _ M' => k .non M', rt := k } E (by rw [e]; exact h.mono fun r h => Φd.of (e := D.bl) (M := fun _ => M) h)
end K12

set_option Elab.async false
set_option linter.all false
set_option maxRecDepth 100000
set_option maxHeartbeats 4000000
namespace K12
open PySem PySem.Spec PyProof.Rows L2 Rl RZ RT Px Ty
local macro_rules | `(tactic| walk_at "num") => `(tactic| first | assumption | omega | decide)
local macro_rules | `(tactic| walk_at "ok") => `(tactic| with_reducible first
  | (refine wp_bok (mdR_ok ?_) ?_; (· with_unfolding_all walk_at "num"))
  | (refine wp_bok (fdR_ok ?_ ?_) ?_; (· with_unfolding_all walk_at "num"); (· with_unfolding_all walk_at "num"))
  | (refine wp_bok (rngR_ok ⟨⟨?_, ?_⟩, ?_, ?_⟩) ?_; (· with_unfolding_all walk_at "num"); (· with_unfolding_all walk_at "num"); (· with_unfolding_all walk_at "num"); (· with_unfolding_all walk_at "num"))
  | (refine wp_bok (mulR_l ?_) ?_; (· with_unfolding_all walk_at "num"))
  | (refine wp_bok (mulR_r ?_) ?_; (· with_unfolding_all walk_at "num"))
  | (refine wp_bok (ixR_ok ?_ ?_) ?_; (· with_unfolding_all walk_at "num"); (· with_unfolding_all walk_at "num"))
  | (refine wp_bok (lcM_ok ?_) ?_; (· with_unfolding_all walk_at "num"))
  | (refine wp_bok (lcF_ok ?_) ?_; (· with_unfolding_all walk_at "num"))
  | (refine wp_bok (addL_ok ?_) ?_; (· with_unfolding_all walk_at "num"))
  | (refine wp_bok (appR_ok ?_) ?_; (· with_unfolding_all walk_at "num"))
  | (refine wp_bok (setR_ok ?_ ?_) ?_; (· with_unfolding_all walk_at "num"); (· with_unfolding_all walk_at "num"))
  | (refine wp_bok (pwR_ok ⟨?_, ?_, ?_⟩) ?_; (· with_unfolding_all walk_at "num"); (· with_unfolding_all walk_at "num"); (· with_unfolding_all walk_at "num")))
local macro_rules | `(tactic| walk_at "t") => `(tactic| (repeat ((try dsimp only); walk_at "ok")); try dsimp only)
/-! ### the drawing of numbers -/
theorem pos_fd {a b : Int} (h : 0 ≤ a) (hb : 0 < b) : 0 ≤ a / b := Int.ediv_nonneg h (Int.le_of_lt hb)
theorem drip_wp {b n : Int} {t : TapT} (h : TapOk b t) (hb : b ≤ 1000000) (h0 : 0 < n) (h1 : n < 2000000) : (m_law_draw t n).wp fun r => (0 ≤ r.1 ∧ r.1 < n) ∧ TapOk (b + 1) r.2 := by
  obtain ⟨c, p, d⟩ := t
  obtain ⟨hl, hlo, hhi⟩ := h
  dsimp only at hl hlo hhi
  have em : ∀ x : Int, (0 ≤ x % n ∧ x % n < n) := fun x => ⟨Int.emod_nonneg _ (by omega), Int.emod_lt_of_pos _ h0⟩
  unfold m_law_draw
  try dsimp only
  refine wp_ite (fun _ => ?_) fun _ => ?_
  · walk_at "t"
    exact ⟨em _, hl, by dsimp only; omega, by dsimp only; omega⟩
  · walk_at "t"
    refine wp_bnd (R := fun r => r.2 = (c, p + 1, d)) ?_ fun r hr => ?_
    · refine wp_ite (fun hc => ?_) fun _ => rfl
      have hne : c ≠ [] := by simpa using hc
      have : 0 < c.length := List.length_pos_iff.mpr hne
      have e1 : 0 ≤ p % (c.length : Int) := Int.emod_nonneg _ (by omega)
      have e2 : p % (c.length : Int) < c.length := Int.emod_lt_of_pos _ (by omega)
      walk_at "t"
      rfl
    obtain ⟨v, s⟩ := r
    dsimp only at hr
    subst hr
    try dsimp only
    refine wp_bnd (R := fun _ => True) ?_ fun b2 _ => ?_
    · refine wp_ite (fun _ => ?_) fun _ => trivial
      walk_at "t"
      trivial
    refine wp_ite (fun _ => ?_) fun _ => ?_
    · walk_at "t"
      exact ⟨em _, hl, by dsimp only; omega, by dsimp only; omega⟩
    · have k1 := Int.emod_nonneg v (b := 2147483563) (by decide)
      have k2 := Int.emod_lt_of_pos v (b := 2147483563) (by decide)
      walk_at "t"
      have k3 := Int.emod_nonneg ((v % 2147483563 + 73013 * p + 4217) ^ (5 : Int).toNat) (b := 2147483579) (by decide)
      have k4 := Int.emod_lt_of_pos ((v % 2147483563 + 73013 * p + 4217) ^ (5 : Int).toNat) (b := 2147483579) (by decide)
      generalize (v % 2147483563 + 73013 * p + 4217) ^ (5 : Int).toNat % 2147483579 = m at k3 k4 ⊢
      have pb := pw_bound k3 (Int.lt_trans k4 (by decide)) hlo (by omega) (c1 := 2207) (c2 := 61007) (c3 := 73013) (by decide) (by decide) (by decide)
      generalize m * (2 * p + 2207) + 61007 * p * p + 73013 = q at pb ⊢
      refine wp_bok (pwR_ok ⟨by decide, by decide, pb⟩) ?_
      walk_at "t"
      exact ⟨em _, hl, by dsimp only; omega, by dsimp only; omega⟩
theorem pen_wp (l : List Int) : (m_law_pen l).wp (TapOk 0) := by
  unfold m_law_pen
  have h := cut60 l 61 (by decide)
  refine wp_bok (lcM_ok (by omega)) ?_
  exact ⟨by dsimp only; rw [List.length_map]; exact Nat.le_trans h (by decide), Int.le_refl 0, Int.le_refl 0⟩
theorem of_wp {b : Int} {t : TapT} {some : List Int} (h : TapOk b t) (hb : b ≤ 1000000) (h0 : 0 < some.length) (h1 : some.length < 1000000) : (m_law_of t some).wp fun r => r.1 ∈ some ∧ TapOk (b + 1) r.2 := by
  unfold m_law_of
  refine wp_bnd (drip_wp h hb (by omega) (by omega)) fun r hr => ?_
  refine wp_bok (ixR_ok hr.1.1 hr.1.2) ?_
  exact ⟨List.getElem_mem _, hr.2⟩
end K12

set_option Elab.async false
set_option linter.all false
set_option maxRecDepth 100000
set_option maxHeartbeats 4000000
namespace K12
open PySem PySem.Spec PyProof.Rows L2 Rl RZ RT Px Ty
local macro_rules | `(tactic| walk_at "num") => `(tactic| first | assumption | omega | decide)
local macro_rules | `(tactic| walk_at "ok") => `(tactic| with_reducible first
  | (refine wp_bok (mdR_ok ?_) ?_; (· with_unfolding_all walk_at "num"))
  | (refine wp_bok (fdR_ok ?_ ?_) ?_; (· with_unfolding_all walk_at "num"); (· with_unfolding_all walk_at "num"))
  | (refine wp_bok (rngR_ok ⟨⟨?_, ?_⟩, ?_, ?_⟩) ?_; (· with_unfolding_all walk_at "num"); (· with_unfolding_all walk_at "num"); (· with_unfolding_all walk_at "num"); (· with_unfolding_all walk_at "num"))
  | (refine wp_bok (mulR_l ?_) ?_; (· with_unfolding_all walk_at "num"))
  | (refine wp_bok (mulR_r ?_) ?_; (· with_unfolding_all walk_at "num"))
  | (refine wp_bok (ixR_ok ?_ ?_) ?_; (· with_unfolding_all walk_at "num"); (· with_unfolding_all walk_at "num"))
  | (refine wp_bok (lcM_ok ?_) ?_; (· with_unfolding_all walk_at "num"))
  | (refine wp_bok (lcF_ok ?_) ?_; (· with_unfolding_all walk_at "num"))
  | (refine wp_bok (addL_ok ?_) ?_; (· with_unfolding_all walk_at "num"))
  | (refine wp_bok (appR_ok ?_) ?_; (· with_unfolding_all walk_at "num"))
  | (refine wp_bok (setR_ok ?_ ?_) ?_; (· with_unfolding_all walk_at "num"); (· with_unfolding_all walk_at "num"))
  | (refine wp_bok (pwR_ok ⟨?_, ?_, ?_⟩) ?_; (· with_unfolding_all walk_at "num"); (· with_unfolding_all walk_at "num"); (· with_unfolding_all walk_at "num")))
local macro_rules | `(tactic| walk_at "t") => `(tactic| (repeat ((try dsimp only); walk_at "ok")); try dsimp only)
/-! ### numbers and gains that are drawn -/
/-- items drawn one behind another, at most k draws each -/
theorem dr_seqk {υ : Type} {step : Int → TapT → Res (Option υ × TapT)} (k : Int) {b : Int} {n : Int} {t : TapT} (P : υ → Prop) (h : TapOk b t) (hk : 0 ≤ k) (hn : 0 ≤ n) (hb : b + k * n ≤ 1000000) (hn2 : n ≤ 1000)
    (hs : ∀ x c t, 0 ≤ x → x < n → TapOk c t → c + k ≤ 1000000 → (step x t).wp fun r => ∃ y, r.1 = some y ∧ P y ∧ TapOk (c + k) r.2) : (lcS step (irng 0 (n - 0).toNat) [] t).wp fun r => r.1.length = n.toNat ∧ (∀ y ∈ r.1, P y) ∧ TapOk (b + k * n) r.2 := by
  have b0 := h.b0
  rw [Int.sub_zero]
  refine lcS_wp (fun i acc t => acc.length = i ∧ (∀ y ∈ acc, P y) ∧ TapOk (b + k * i) t) _ 0 [] t (Nat.zero_le _) (by rw [irng_len']; omega) ⟨rfl, (fun y hy => by cases hy), by simpa using h⟩ (fun i x acc t hx hi => ?_) fun acc t hi => ?_
  · have c : i < n.toNat := by
      have z := (List.getElem?_eq_some_iff.mp hx).1
      rwa [irng_len'] at z
    have hx := mem_irng.mp (List.mem_of_getElem? hx)
    rw [Nat.zero_add] at hi
    have kk : k * ((i : Int) + 1) ≤ k * n := Int.mul_le_mul_of_nonneg_left (by omega) hk
    rw [Int.mul_add, Int.mul_one] at kk
    refine (hs x (b + k * i) t hx.1 (by omega) hi.2.2 (by omega)).mono fun r hr => ?_
    obtain ⟨y, e, py, tk⟩ := hr
    rw [e]
    have e2 : b + k * ((0 + i + 1 : Nat) : Int) = b + k * i + k := by
      rw [Nat.zero_add, Int.natCast_add, Int.mul_add]; omega
    refine ⟨by simp [hi.1], fun z hz => ?_, by rw [e2]; exact tk⟩
    rcases List.mem_append.mp hz with g | g
    · exact hi.2.1 z g
    · rw [List.mem_singleton.mp g]; exact py
  · rw [Nat.zero_add, irng_len'] at hi
    exact ⟨hi.1, hi.2.1, by rw [show (n.toNat : Int) = n by omega] at hi; exact hi.2.2⟩
theorem number_wp {b : Int} {t : TapT} (h : TapOk b t) (hb : b + 3 ≤ 1000000) : (m_law_number t).wp fun r => (-(2 ^ 90) < r.1 ∧ r.1 < 2 ^ 90) ∧ TapOk (b + 3) r.2 := by
  unfold m_law_number
  refine wp_bnd (drip_wp h (by omega) (by decide) (by decide)) fun r hr => ?_
  obtain ⟨_, tk⟩ := hr
  try dsimp only
  refine wp_ite (fun _ => ?_) fun _ => wp_ite (fun _ => ?_) fun _ => ?_
  · refine wp_bnd (drip_wp tk (by omega) (by decide) (by decide)) fun r hr => ?_
    have h7 := hr.1
    exact ⟨by dsimp only; omega, hr.2.mono (by omega)⟩
  · refine wp_bnd (drip_wp tk (by omega) (by decide) (by decide)) fun r hr => ?_
    have h7 := hr.1
    exact ⟨by dsimp only; omega, hr.2.mono (by omega)⟩
  · refine wp_bnd (drip_wp tk (by omega) (by decide) (by decide)) fun r8 h8 => ?_
    obtain ⟨h8, tk⟩ := h8
    refine wp_bok (mulR_l (by decide)) ?_
    refine wp_bok (pwR_ok (by decide)) ?_
    refine wp_bnd (drip_wp tk (by omega) (by decide) (by decide)) fun r11 h11 => ?_
    obtain ⟨h11, tk⟩ := h11
    refine wp_bok (mulR_l (by omega)) ?_
    have e : (10 : Int) ^ (24 : Int).toNat = 1000000000000000000000000 := by decide
    refine ⟨?_, tk.mono (by omega)⟩
    dsimp only
    rw [e]
    rcases (show r8.1 = 0 ∨ r8.1 = 1 by omega) with c | c
    · rw [c]; omega
    · rw [c]; omega
theorem gains_wp {b many : Int} {t : TapT} (h : TapOk b t) (hb : b ≤ 900000) (h0 : 0 < many) (h1 : many ≤ 48) : (m_law_gains t many).wp fun r => (r.1.length = many.toNat ∧ ∀ x ∈ r.1, -(2 ^ 90) < x ∧ x < 2 ^ 90) ∧ TapOk (b + 150) r.2 := by
  unfold m_law_gains
  refine wp_bok (rngR_ok (by omega)) ?_
  refine wp_bnd (dr_seqk 3 (n := many) (fun x : Int => -(2 ^ 90) < x ∧ x < 2 ^ 90) h (by omega) (by omega) (by omega) (by omega) fun x c t _ _ tc hc => ?_) fun q hq => ?_
  · rw [if_pos rfl]
    exact wp_bnd (number_wp tc hc) fun r hr => ⟨_, rfl, hr.1, hr.2⟩
  obtain ⟨hl, hp, tk⟩ := hq
  try dsimp only
  refine wp_bnd (drip_wp tk (by omega) (by decide) (by decide)) fun r9 h9 => ?_
  obtain ⟨h9, tk⟩ := h9
  try dsimp only
  refine wp_bnd (drip_wp tk (by omega) (by decide) (by decide)) fun r24 h24 => ?_
  obtain ⟨_, tk⟩ := h24
  refine wp_bnd (R := fun y => y.length = many.toNat ∧ ∀ x ∈ y, -(2 ^ 90) < x ∧ x < 2 ^ 90) ?_ fun y hy => ⟨hy, tk.mono (by omega)⟩
  refine wp_ite (fun _ => ?_) fun _ => ⟨hl, hp⟩
  refine wp_bok (rngR_ok (by omega)) ?_
  have hpos : 0 < 1 + r9.1 := by omega
  have key : ∀ x : Int, 0 ≤ x → x < many → 0 ≤ x % (1 + r9.1) ∧ x % (1 + r9.1) < q.1.length := fun x x0 x1 => by
    have m1 := Int.emod_nonneg x (b := 1 + r9.1) (by omega)
    have m2 := Int.emod_lt_of_pos x (b := 1 + r9.1) hpos
    refine ⟨m1, ?_⟩
    by_cases c : x < 1 + r9.1
    · rw [Int.emod_eq_of_lt x0 c]; omega
    · omega
  refine wp_bok (lcR_map (fun x => q.1.getD (x % (1 + r9.1)).toNat 0) (by rw [irng_len']; omega) fun x hx => ?_) ?_
  · have hx := mem_irng.mp hx
    obtain ⟨k1, k2⟩ := key x hx.1 (by omega)
    rw [mdR_ok hpos, bind_ok, ixR_ok k1 k2, bind_ok, List.getD_eq_getElem?_getD, List.getElem?_eq_getElem]
    rfl
  · refine ⟨by rw [List.length_map, irng_len']; omega, fun x hx => ?_⟩
    obtain ⟨y, hy, rfl⟩ := List.mem_map.mp hx
    have hy := mem_irng.mp hy
    obtain ⟨k1, k2⟩ := key y hy.1 (by omega)
    rw [List.getD_eq_getElem?_getD, List.getElem?_eq_getElem (by omega)]
    exact hp _ (List.getElem_mem _)
end K12

set_option Elab.async false
set_option linter.all false
set_option maxRecDepth 100000
set_option maxHeartbeats 4000000
namespace K12
open PySem PySem.Spec PyProof.Rows L2 Rl RZ RT Px Ty
local macro_rules | `(tactic| walk_at "num") => `(tactic| first | assumption | omega | decide)
local macro_rules | `(tactic| walk_at "ok") => `(tactic| with_reducible first
  | (refine wp_bok (mdR_ok ?_) ?_; (· with_unfolding_all walk_at "num"))
  | (refine wp_bok (fdR_ok ?_ ?_) ?_; (· with_unfolding_all walk_at "num"); (· with_unfolding_all walk_at "num"))
  | (refine wp_bok (rngR_ok ⟨⟨?_, ?_⟩, ?_, ?_⟩) ?_; (· with_unfolding_all walk_at "num"); (· with_unfolding_all walk_at "num"); (· with_unfolding_all walk_at "num"); (· with_unfolding_all walk_at "num"))
  | (refine wp_bok (mulR_l ?_) ?_; (· with_unfolding_all walk_at "num"))
  | (refine wp_bok (mulR_r ?_) ?_; (· with_unfolding_all walk_at "num"))
  | (refine wp_bok (ixR_ok ?_ ?_) ?_; (· with_unfolding_all walk_at "num"); (· with_unfolding_all walk_at "num"))
  | (refine wp_bok (lcM_ok ?_) ?_; (· with_unfolding_all walk_at "num"))
  | (refine wp_bok (lcF_ok ?_) ?_; (· with_unfolding_all walk_at "num"))
  | (refine wp_bok (addL_ok ?_) ?_; (· with_unfolding_all walk_at "num"))
  | (refine wp_bok (appR_ok ?_) ?_; (· with_unfolding_all walk_at "num"))
  | (refine wp_bok (setR_ok ?_ ?_) ?_; (· with_unfolding_all walk_at "num"); (· with_unfolding_all walk_at "num"))
  | (refine wp_bok (pwR_ok ⟨?_, ?_, ?_⟩) ?_; (· with_unfolding_all walk_at "num"); (· with_unfolding_all walk_at "num"); (· with_unfolding_all walk_at "num")))
local macro_rules | `(tactic| walk_at "t") => `(tactic| (repeat ((try dsimp only); walk_at "ok")); try dsimp only)
/-! ### rows -/
def hs : Int → List Int → List Int
  | s, [] => [s]
  | s, x :: xs => s :: hs (s + x) xs
def hts (l : List Int) : List Int := hs 0 l
theorem hs_len : ∀ (s : Int) (l : List Int), (hs s l).length = l.length + 1
  | _, [] => rfl
  | s, x :: xs => by simp [hs, hs_len]
theorem hs_app : ∀ (s : Int) (l : List Int) (x : Int), hs s (l ++ [x]) = hs s l ++ [s + l.sum + x]
  | s, [], x => by simp [hs]
  | s, y :: l, x => by
    have e : s + y + l.sum + x = s + (y + l.sum) + x := by omega
    simp only [List.cons_append, hs, hs_app, List.sum_cons, e]
theorem hs_get : ∀ (s : Int) (l : List Int) (i : Nat), i ≤ l.length → (hs s l)[i]? = some (s + (l.take i).sum)
  | s, [], i, h => by
    have : i = 0 := by simpa using h
    subst this; simp [hs]
  | s, x :: xs, 0, h => by simp [hs]
  | s, x :: xs, i + 1, h => by
    have z := hs_get (s + x) xs i (by simpa using h)
    simp only [hs, List.getElem?_cons_succ, z, List.take_succ_cons, List.sum_cons]
    congr 1; omega
theorem hts_len (l : List Int) : (hts l).length = l.length + 1 := hs_len 0 l
theorem hts_get (l : List Int) {i : Nat} (h : i ≤ l.length) : (hts l)[i]? = some (l.take i).sum := by
  unfold hts; rw [hs_get 0 l i h, Int.zero_add]
theorem hts_app (l : List Int) (x : Int) : hts (l ++ [x]) = hts l ++ [l.sum + x] := by
  unfold hts; rw [hs_app, Int.zero_add]
theorem hts_last (l : List Int) : ∃ h, hts l = h ++ [l.sum] := by
  refine ⟨(hts l).take l.length, ?_⟩
  have e : (hts l).length = l.length + 1 := hts_len l
  refine List.ext_getElem? fun i => ?_
  by_cases c : i < l.length
  · rw [List.getElem?_append_left (by rw [List.length_take]; omega), List.getElem?_take_of_lt c]
  · by_cases c2 : i = l.length
    · subst c2
      rw [hts_get l (Nat.le_refl _), List.take_length, List.getElem?_append_right (by rw [List.length_take]; omega), List.length_take]
      simp [e]
    · rw [List.getElem?_eq_none (by omega), List.getElem?_eq_none (by rw [List.length_append, List.length_take, List.length_singleton]; omega)]
theorem cut_eq {l : List Int} {b n : Nat} (h : b + n ≤ l.length) : Px.cutD l (some (b : Int)) (some ((b : Int) + n)) = (l.drop b).take n := by
  unfold Px.cutD HT.sIx
  simp only []
  rw [if_neg (by omega), if_neg (by omega), show min (b : Int).toNat l.length = b by omega, show min ((b : Int) + n).toNat l.length - b = n by omega]
theorem cut_from {l : List Int} {n : Nat} : Px.cutD l (some (n : Int)) none = l.drop n := by
  unfold Px.cutD HT.sIx
  simp only []
  rw [if_neg (by omega)]
  by_cases h : n ≤ l.length
  · rw [show min (n : Int).toNat l.length = n by omega, List.take_of_length_le (by rw [List.length_drop]; omega)]
  · rw [show min (n : Int).toNat l.length = l.length by omega, List.drop_of_length_le (by omega : l.length ≤ n)]; simp
/-- all sums of a length, begin by begin -/
def S (l : List Int) (n : Nat) : List Int := (List.range (l.length + 1 - n)).map fun b => ((l.drop b).take n).sum
theorem S_len (l : List Int) (n : Nat) : (S l n).length = l.length + 1 - n := by simp [S]
theorem S_get {l : List Int} {n b : Nat} (h : b + n ≤ l.length) : (S l n)[b]? = some ((l.drop b).take n).sum := by
  unfold S; rw [List.getElem?_map, List.getElem?_range (by omega)]; rfl
theorem stretch (l : List Int) (b n : Nat) : (l.take (b + n)).sum - (l.take b).sum = ((l.drop b).take n).sum := by
  rw [List.take_add, List.sum_append]; omega
abbrev row (l : List Int) : R_Row_0 := ⟨l, hts l, l.length, l.sum⟩
theorem are_integers_ok {l : List Int} (h : l.length ≤ 16777216) : m_are_integers l = .ok true := by
  unfold m_are_integers
  rw [if_pos rfl, lcR_map (fun _ => true) h fun x _ => by unfold m_is_integer; rfl]
  have e : (l.map fun _ => true).all id = true := by simp
  show Res.ok ((l.map fun _ => true).all id) = _
  rw [e]
theorem heights_ok {l : List Int} (h : l.length ≤ 1000000) : m_heights_of l = .ok (hts l) := by
  unfold m_heights_of
  refine (forR_to (f := fun p : List Int => ((), ((), hts p))) (xs := l) fun pre x post e => ?_).trans rfl
  have hl : pre.length + 1 ≤ l.length := by rw [e, List.length_append, List.length_cons]; omega
  obtain ⟨q, hq⟩ := hts_last pre
  try dsimp only
  rw [show ixR (hts pre) (-1) = .ok pre.sum by rw [hq]; exact ixR_app, bind_ok, appR_ok (by rw [hts_len]; omega), bind_ok, hts_app]
theorem row_ok {l : List Int} (h0 : 0 < l.length) (h : l.length ≤ 48) : m_Row_init l = .ok (row l) := by
  unfold m_Row_init
  rw [are_integers_ok (by omega), bind_ok, if_neg (by simp; intro e; subst e; simp at h0), if_neg (by simp; omega)]
  obtain ⟨q, hq⟩ := hts_last l
  try dsimp only
  rw [heights_ok (by omega), bind_ok, show ixR (hts l) (-1) = .ok l.sum by rw [hq]; exact ixR_app, bind_ok]
theorem take_rev (l : List Int) (k : Nat) : (l.reverse.take k).sum = l.sum - (l.take (l.length - k)).sum := by
  rw [List.take_reverse, List.sum_reverse]
  have z := congrArg List.sum (List.take_append_drop (l.length - k) l)
  rw [List.sum_append] at z
  omega
theorem S_rev (l : List Int) (n : Nat) : S l.reverse n = (S l n).reverse := by
  refine List.ext_getElem? fun i => ?_
  by_cases c : i + n ≤ l.length
  · rw [S_get (by rw [List.length_reverse]; exact c), List.getElem?_reverse (by rw [S_len]; omega), S_len, S_get (by omega), ← stretch, ← stretch, take_rev, take_rev,
      show l.length + 1 - n - 1 - i + n = l.length - i by omega, show l.length - (i + n) = l.length + 1 - n - 1 - i by omega]
    congr 1; omega
  · rw [List.getElem?_eq_none (by rw [S_len, List.length_reverse]; omega), List.getElem?_eq_none (by rw [List.length_reverse, S_len]; omega)]
theorem law_sums_ok {l : List Int} {n : Int} (hl : l.length ≤ 48) (h : 1 ≤ n ∧ n ≤ l.length) : m_law_sums l n = .ok (S l n.toNat) := by
  unfold m_law_sums
  obtain ⟨k, rfl⟩ : ∃ k : Nat, n = k := ⟨n.toNat, by omega⟩
  rw [rngR_ok (by omega), bind_ok, lcM_ok (by rw [irng_len']; omega), bind_ok]
  congr 1
  refine List.ext_getElem? fun i => ?_
  rw [List.getElem?_map]
  by_cases c : i + k ≤ l.length
  · rw [show (k : Int).toNat = k from rfl, S_get c, irng_get (by omega)]
    show some (Px.cutD l (some (0 + (i : Int))) (some (0 + (i : Int) + k))).sum = _
    rw [Int.zero_add, cut_eq c]
  · rw [List.getElem?_eq_none (by rw [irng_len']; omega), List.getElem?_eq_none (by rw [S_len]; omega)]; rfl

theorem irng_cons (a : Int) (n : Nat) : irng a (n + 1) = a :: irng (a + 1) n := by
  refine List.ext_getElem? fun i => ?_
  cases i with
  | zero => rw [irng_get (by omega)]; simp
  | succ i =>
    rw [List.getElem?_cons_succ]
    by_cases c : i < n
    · rw [irng_get (by omega), irng_get c]; congr 1; omega
    · rw [List.getElem?_eq_none (by rw [irng_len']; omega), List.getElem?_eq_none (by rw [irng_len']; omega)]
/-! ### rules -/
def inB (lo hi : Option Int) (v : Int) : Bool := (match lo with
  | none => true
  | some a => decide (a ≤ v)) && (match hi with
  | none => true
  | some c => decide (v ≤ c))
theorem within_ok {v : Int} {lo hi : Option Int} : m_is_within_1 v lo hi = .ok (inB lo hi v) := by
  unfold m_is_within_1 m_is_integer inB
  rw [bind_ok, Bool.not_true, if_neg Bool.false_ne_true]
  cases lo with
  | none => cases hi with
    | none => rfl
    | some c =>
      show (Res.bind (.ok true) fun b => Res.bind (if b then Res.bind (.ok (decide (v ≤ c))) fun c => .ok c else .ok false) fun d => .ok d) = .ok (true && decide (v ≤ c))
      generalize decide (v ≤ c) = q
      cases q <;> rfl
  | some a => cases hi with
    | none =>
      show (Res.bind (.ok (decide (a ≤ v))) fun b => Res.bind (if b then Res.bind (.ok true) fun c => .ok c else .ok false) fun d => .ok d) = .ok (decide (a ≤ v) && true)
      generalize decide (a ≤ v) = q
      cases q <;> rfl
    | some c =>
      show (Res.bind (.ok (decide (a ≤ v))) fun b => Res.bind (if b then Res.bind (.ok (decide (v ≤ c))) fun c => .ok c else .ok false) fun d => .ok d) = .ok (decide (a ≤ v) && decide (v ≤ c))
      generalize decide (a ≤ v) = q
      generalize decide (v ≤ c) = q2
      cases q <;> cases q2 <;> rfl
/-- the first one that is not within -/
def fx (lo hi : Option Int) : List Int → Int → Option Int
  | [], _ => none
  | x :: xs, i => if inB lo hi x then fx lo hi xs (i + 1) else some i
theorem fx_none {lo hi : Option Int} : ∀ (s : List Int) (i : Int), (fx lo hi s i).isNone = true ↔ ∀ x ∈ s, inB lo hi x = true
  | [], i => by simp [fx]
  | x :: xs, i => by
    unfold fx
    by_cases c : inB lo hi x = true
    · rw [if_pos c, fx_none xs (i + 1)]; simp [c]
    · rw [if_neg c]; simp [c]
theorem fx_sub {lo hi : Option Int} {s t : List Int} (h : ∀ x ∈ t, x ∈ s) (q : (fx lo hi s 0).isNone = true) : (fx lo hi t 0).isNone = true :=
  (fx_none t 0).mpr fun x hx => (fx_none s 0).mp q x (h x hx)
theorem fx_rev {lo hi : Option Int} {s : List Int} : (fx lo hi s.reverse 0).isNone = (fx lo hi s 0).isNone := by
  rw [Bool.eq_iff_iff, fx_none, fx_none]
  exact ⟨fun h x hx => h x (List.mem_reverse.mpr hx), fun h x hx => h x (List.mem_reverse.mp hx)⟩
theorem dec_lt {a x : Int} : decide (a ≤ x) = !decide (x < a) := by
  by_cases c : x < a
  · rw [decide_eq_true c, decide_eq_false (by omega)]; rfl
  · rw [decide_eq_false c, decide_eq_true (by omega)]; rfl
theorem dec_gt {b x : Int} : decide (x ≤ b) = !decide (x > b) := dec_lt
def stepF (lo hi : Option Int) (x_19 : Int × Int) : Res (Flow Unit Unit (Option Int)) :=
  Res.bind (if lo.isSome then (getO lo).bind fun t_31 => (Res.ok (decide (x_19.2 < t_31))) else .ok false) fun b_30 =>
  Res.bind (if b_30 then .ok true else Res.bind (if hi.isSome then (getO hi).bind fun t_34 => (Res.ok (decide (x_19.2 > t_34))) else .ok false) fun b_33 => (Res.ok b_33)) fun b_32 =>
  (if b_32 then (Res.ok (Flow.rt (some x_19.1))) else (Res.ok (Flow.nx () ())))
theorem stepF_ok {lo hi : Option Int} {i x : Int} : stepF lo hi (i, x) = if inB lo hi x then .ok (.nx () ()) else .ok (.rt (some i)) := by
  unfold stepF inB
  cases lo with
  | none => cases hi with
    | none => rfl
    | some b =>
      show (Res.bind (Res.bind (.ok (decide (x > b))) fun q => .ok q) fun b_32 => (if b_32 then (Res.ok (Flow.rt (some i))) else (Res.ok (Flow.nx () ())) : Res (Flow Unit Unit (Option Int)))) = if (true && decide (x ≤ b)) = true then .ok (.nx () ()) else .ok (.rt (some i))
      rw [dec_gt]
      generalize decide (x > b) = q
      cases q <;> rfl
  | some a => cases hi with
    | none =>
      show (Res.bind (.ok (decide (x < a))) fun b_30 => Res.bind (if b_30 then .ok true else Res.bind (.ok false) fun q => .ok q) fun b_32 => (if b_32 then (Res.ok (Flow.rt (some i))) else (Res.ok (Flow.nx () ())) : Res (Flow Unit Unit (Option Int)))) = if (decide (a ≤ x) && true) = true then .ok (.nx () ()) else .ok (.rt (some i))
      rw [dec_lt]
      generalize decide (x < a) = q
      cases q <;> rfl
    | some b =>
      show (Res.bind (.ok (decide (x < a))) fun b_30 => Res.bind (if b_30 then .ok true else Res.bind (.ok (decide (x > b))) fun q => .ok q) fun b_32 => (if b_32 then (Res.ok (Flow.rt (some i))) else (Res.ok (Flow.nx () ())) : Res (Flow Unit Unit (Option Int)))) = if (decide (a ≤ x) && decide (x ≤ b)) = true then .ok (.nx () ()) else .ok (.rt (some i))
      rw [dec_lt, dec_gt]
      generalize decide (x < a) = q
      generalize decide (x > b) = q2
      cases q <;> cases q2 <;> rfl
theorem law_first_ok {s : List Int} {lo hi : Option Int} : m_law_first s lo hi = .ok (fx lo hi s 0) := by
  unfold m_law_first
  have key : ∀ (s : List Int) (n : Nat), forR (fun (_ : Unit) (_ : Unit) (x : Int × Int) => stepF lo hi x) (fun _ _ => (Res.ok none)) (enumT n s) () () = .ok (fx lo hi s n) := fun s => by
    induction s with
    | nil => intro n; rfl
    | cons x xs ih =>
      intro n
      show forR _ _ (((n : Int), x) :: enumT (n + 1) xs) () () = _
      have ih := ih (n + 1)
      rw [show ((n + 1 : Nat) : Int) = (n : Int) + 1 by omega] at ih
      unfold forR fx
      rw [stepF_ok]
      by_cases c : inB lo hi x = true
      · rw [if_pos c, if_pos c, bind_ok]; exact ih
      · rw [if_neg c, if_neg c, bind_ok]
  exact key s 0
abbrev rule (n : Int) (lo hi : Option Int) : R_Rule_0 := ⟨n, lo, hi⟩
theorem rule_first_ok {l : List Int} {n : Int} {lo hi : Option Int} (hl : l.length ≤ 48) (h : 1 ≤ n ∧ n ≤ 48) : m_Rule_first_broken (rule n lo hi) (row l) = .ok (fx lo hi (S l n.toNat) 0) := by
  obtain ⟨k, rfl⟩ : ∃ k : Nat, n = k := ⟨n.toNat, by omega⟩
  unfold m_Rule_first_broken m_need_row
  dsimp only
  rw [bind_ok, rngR_ok (by omega), bind_ok, show ((l.length : Int) - k + 1 - 0).toNat = l.length + 1 - k by omega, show (k : Int).toNat = k from rfl]
  have key : ∀ (t : List Int) (i : Nat), (∀ j, t[j]? = (S l k)[i + j]?) → i + t.length = l.length + 1 - k → forR (fun (_ : Unit) (s_7 : Unit) (x_8 : Int) =>
      (ixR (hts l) (x_8 + (k : Int))).bind fun t_9 => (ixR (hts l) x_8).bind fun t_10 => (m_is_within_1 (t_9 - t_10) lo hi).bind fun r_11 =>
      (if (!r_11) then (Res.ok (Flow.rt (some x_8))) else (Res.ok (Flow.nx () s_7)))) (fun _ _ => (Res.ok none)) (irng (i : Int) t.length) () () = .ok (fx lo hi t i) := fun t => by
    induction t with
    | nil =>
      intro i _ _
      rw [List.length_nil, show irng (i : Int) 0 = [] from List.eq_nil_of_length_eq_zero (irng_len' _ _)]
      rfl
    | cons x xs ih =>
      intro i he hlen
      rw [List.length_cons] at hlen ⊢
      have ih := ih (i + 1) (fun j => by
        have z := he (j + 1)
        rw [List.getElem?_cons_succ] at z
        rw [z]; congr 1; omega) (by omega)
      rw [show ((i + 1 : Nat) : Int) = (i : Int) + 1 by omega] at ih
      rw [irng_cons]
      have hx : x = (l.take (i + k)).sum - (l.take i).sum := by
        have z := he 0
        rw [Nat.add_zero, S_get (by omega), List.getElem?_cons_zero] at z
        rw [stretch]; exact Option.some.inj z
      have g1 : ixR (hts l) ((i : Int) + (k : Int)) = .ok (l.take (i + k)).sum := ixR_get (by omega) (by rw [show ((i : Int) + (k : Int)).toNat = i + k by omega]; exact hts_get l (by omega))
      have g2 : ixR (hts l) (i : Int) = .ok (l.take i).sum := ixR_get (by omega) (by rw [Int.toNat_natCast]; exact hts_get l (by omega))
      unfold forR fx
      rw [g1, bind_ok, g2, bind_ok, within_ok, bind_ok, ← hx]
      by_cases c : inB lo hi x = true
      · rw [if_pos c, c, Bool.not_true, if_neg Bool.false_ne_true, bind_ok]; exact ih
      · rw [if_neg c, Bool.eq_false_iff.mpr c, Bool.not_false, if_pos rfl, bind_ok]
  have z := key (S l k) 0 (fun j => by rw [Nat.zero_add]) (by rw [S_len]; omega)
  rw [S_len] at z
  exact z
theorem keeps_ok {l : List Int} {n : Int} {lo hi : Option Int} (hl : l.length ≤ 48) (h : 1 ≤ n ∧ n ≤ 48) : m_Rule_keeps (rule n lo hi) (row l) = .ok (fx lo hi (S l n.toNat) 0).isNone := by
  unfold m_Rule_keeps
  rw [rule_first_ok hl h, bind_ok]
end K12

set_option Elab.async false
set_option linter.all false
set_option maxRecDepth 100000
set_option maxHeartbeats 4000000
namespace K12
open PySem PySem.Spec PyProof.Rows L2 Rl RZ RT Px Ty
local macro_rules | `(tactic| walk_at "num") => `(tactic| first | assumption | omega | decide)
local macro_rules | `(tactic| walk_at "ok") => `(tactic| with_reducible first
  | (refine wp_bok (mdR_ok ?_) ?_; (· with_unfolding_all walk_at "num"))
  | (refine wp_bok (fdR_ok ?_ ?_) ?_; (· with_unfolding_all walk_at "num"); (· with_unfolding_all walk_at "num"))
  | (refine wp_bok (rngR_ok ⟨⟨?_, ?_⟩, ?_, ?_⟩) ?_; (· with_unfolding_all walk_at "num"); (· with_unfolding_all walk_at "num"); (· with_unfolding_all walk_at "num"); (· with_unfolding_all walk_at "num"))
  | (refine wp_bok (mulR_l ?_) ?_; (· with_unfolding_all walk_at "num"))
  | (refine wp_bok (mulR_r ?_) ?_; (· with_unfolding_all walk_at "num"))
  | (refine wp_bok (ixR_ok ?_ ?_) ?_; (· with_unfolding_all walk_at "num"); (· with_unfolding_all walk_at "num"))
  | (refine wp_bok (lcM_ok ?_) ?_; (· with_unfolding_all walk_at "num"))
  | (refine wp_bok (lcF_ok ?_) ?_; (· with_unfolding_all walk_at "num"))
  | (refine wp_bok (addL_ok ?_) ?_; (· with_unfolding_all walk_at "num"))
  | (refine wp_bok (appR_ok ?_) ?_; (· with_unfolding_all walk_at "num"))
  | (refine wp_bok (setR_ok ?_ ?_) ?_; (· with_unfolding_all walk_at "num"); (· with_unfolding_all walk_at "num"))
  | (refine wp_bok (pwR_ok ⟨?_, ?_, ?_⟩) ?_; (· with_unfolding_all walk_at "num"); (· with_unfolding_all walk_at "num"); (· with_unfolding_all walk_at "num")))
local macro_rules | `(tactic| walk_at "t") => `(tactic| (repeat ((try dsimp only); walk_at "ok")); try dsimp only)
/-! ### rules made -/
def bOk (lo hi : Option Int) : Prop := match lo, hi with
  | none, none => False
  | some a, some b => a ≤ b
  | _, _ => True
theorem rule_ok {n : Int} {lo hi : Option Int} (h : 1 ≤ n ∧ n ≤ 48) (hb : bOk lo hi) : m_Rule_init n lo hi = .ok (rule n lo hi) := by
  have e1 : ∀ (v : Option Int) (p : Str), m_need_bound v p = .ok () := fun v p => by
    unfold m_need_bound m_is_integer_1
    cases v <;> rfl
  have e2 : m_need_number n ("length" : Str) 1 48 = .ok () := by
    unfold m_need_number m_is_within m_is_integer
    rw [bind_ok, Bool.not_true, if_neg Bool.false_ne_true, bind_ok, decide_eq_true h.1, decide_eq_true h.2]; rfl
  have e3 : m_are_bounds lo hi = .ok true := by
    unfold m_are_bounds
    cases lo with
    | none => cases hi with
      | none => exact absurd hb id
      | some b => rfl
    | some a => cases hi with
      | none => rfl
      | some b =>
        have hb : a ≤ b := hb
        show (Res.bind (.ok a) fun t => Res.bind (.ok b) fun u => .ok (decide (t ≤ u))) = _
        rw [bind_ok, bind_ok, decide_eq_true hb]
  unfold m_Rule_init
  rw [e2, bind_ok, e1, bind_ok, e1, bind_ok, e3, bind_ok, Bool.not_true, if_neg Bool.false_ne_true]
theorem says_ok {a : Bool} : m_law_says a a = .ok true := by
  unfold m_law_says
  cases a <;> rfl
theorem bounds_wp {b : Int} {t : TapT} {s : List Int} (h : TapOk b t) (hb : b ≤ 900000) (hs : s.length ≤ 48) : (m_law_bounds t s).wp fun r => (r.1.length ≤ 48 ∧ ∀ p ∈ r.1, bOk p.1 p.2) ∧ TapOk (b + 5) r.2 := by
  unfold m_law_bounds
  by_cases c : s = []
  · rw [decide_eq_true c, if_pos rfl]
    refine wp_bnd (number_wp h (by omega)) fun r hr => ?_
    refine ⟨⟨Nat.le_of_ble_eq_true rfl, fun p hp => ?_⟩, hr.2.mono (by omega)⟩
    rcases List.mem_cons.mp hp with rfl | hp
    · exact trivial
    · rcases List.mem_cons.mp hp with rfl | hp
      · exact trivial
      · rw [List.mem_singleton.mp hp]; exact Int.le_refl _
  · rw [decide_eq_false c, if_neg Bool.false_ne_true]
    have hpos : 0 < s.length := List.length_pos_iff.mpr c
    rw [minR_ok c, bind_ok, maxR_ok c, bind_ok]
    have mm : minL s ≤ maxL s := minL_le (mem_maxL c)
    generalize minL s = mn at mm ⊢
    generalize maxL s = mx at mm ⊢
    refine wp_bnd (of_wp h (by omega) hpos (by omega)) fun r11 h11 => ?_
    obtain ⟨_, tk⟩ := h11
    try dsimp only
    refine wp_bnd (number_wp tk (by omega)) fun r17 h17 => ?_
    obtain ⟨_, tk⟩ := h17
    refine wp_bnd (drip_wp tk (by omega) (by decide) (by decide)) fun r18 h18 => ?_
    obtain ⟨h18, tk⟩ := h18
    try dsimp only
    refine wp_bok (addL_ok (Nat.le_of_ble_eq_true rfl)) ?_
    refine ⟨⟨Nat.le_of_ble_eq_true rfl, ?_⟩, tk.mono (by omega)⟩
    simp only [List.map_cons, List.map_nil, List.cons_append, List.nil_append, List.forall_mem_cons]
    refine ⟨mm, trivial, trivial, trivial, trivial, Int.le_refl _, trivial, ?_, trivial, ?_, ?_, fun _ h => by cases h⟩
    · show mn - 1 ≤ mx + 1; omega
    · show r17.1 ≤ r17.1 + r18.1; omega
    · show mx + 1 ≤ mx + 1 + r18.1; omega
/-! ### a row, backwards, a part of it -/
theorem S_part {l : List Int} {f n : Nat} {k : Nat} : ∀ x ∈ S ((l.drop f).take k) n, x ∈ S l n := fun x hx => by
  unfold S at hx ⊢
  obtain ⟨b, hb, rfl⟩ := List.mem_map.mp hx
  have hb := List.mem_range.mp hb
  rw [List.length_take, List.length_drop] at hb
  by_cases hn : n = 0
  · subst hn
    refine List.mem_map.mpr ⟨0, List.mem_range.mpr (by omega), by simp⟩
  refine List.mem_map.mpr ⟨f + b, List.mem_range.mpr (by omega), ?_⟩
  show ((l.drop (f + b)).take n).sum = ((((l.drop f).take k).drop b).take n).sum
  rw [List.drop_take, List.drop_drop, List.take_take, Nat.min_eq_left (by omega)]
theorem cut_part {l : List Int} {a b : Int} (h : 0 ≤ a ∧ a ≤ b ∧ b ≤ l.length) : Px.cutD l (some a) (some b) = (l.drop a.toNat).take (b.toNat - a.toNat) := by
  unfold Px.cutD HT.sIx
  simp only []
  rw [if_neg (by omega), if_neg (by omega), show min a.toNat l.length = a.toNat by omega, show min b.toNat l.length = b.toNat by omega]
theorem law_sums_ok' {l : List Int} {n : Int} (hl : l.length ≤ 48) (h : 1 ≤ n ∧ n ≤ 48) : m_law_sums l n = .ok (S l n.toNat) := by
  unfold m_law_sums
  obtain ⟨k, rfl⟩ : ∃ k : Nat, n = k := ⟨n.toNat, by omega⟩
  rw [rngR_ok (by omega), bind_ok, lcM_ok (by rw [irng_len']; omega), bind_ok]
  congr 1
  refine List.ext_getElem? fun i => ?_
  rw [List.getElem?_map]
  by_cases c : i + k ≤ l.length
  · rw [show (k : Int).toNat = k from rfl, S_get c, irng_get (by omega)]
    show some (Px.cutD l (some (0 + (i : Int))) (some (0 + (i : Int) + k))).sum = _
    rw [Int.zero_add, cut_eq c]
  · rw [List.getElem?_eq_none (by rw [irng_len']; omega), List.getElem?_eq_none (by rw [S_len]; omega)]; rfl
theorem told_right_wp {b n : Int} {t : TapT} {l : List Int} (h : TapOk b t) (hb : b ≤ 890000) (h0 : 0 < l.length) (hl : l.length ≤ 48) (hn : 1 ≤ n ∧ n ≤ 48) : (m_law_told_right t l n).wp fun r => r.1 = true ∧ TapOk (b + 7) r.2 := by
  unfold m_law_told_right
  rw [row_ok h0 hl, nx_ok, bind_ok, row_ok (by rw [List.length_reverse]; exact h0) (by rw [List.length_reverse]; exact hl), nx_ok, bind_ok]
  have ls : ∀ l : List Int, l.length ≤ 48 → m_law_sums l n = .ok (S l n.toNat) := fun l hl => law_sums_ok' hl hn
  rw [ls l hl, bind_ok]
  try dsimp only
  refine wp_bnd (drip_wp h (by omega) (by omega) (by omega)) fun r9 h9 => ?_
  obtain ⟨h9, tk⟩ := h9
  try dsimp only
  refine wp_bnd (drip_wp tk (by omega) (by omega) (by omega)) fun r12 h12 => ?_
  obtain ⟨h12, tk⟩ := h12
  try dsimp only
  rw [cut_part (l := l) (a := r9.1) (b := r9.1 + 1 + r12.1) (by omega)]
  generalize hp : (l.drop r9.1.toNat).take ((r9.1 + 1 + r12.1).toNat - r9.1.toNat) = part
  have pl : 0 < part.length ∧ part.length ≤ 48 := by rw [← hp, List.length_take, List.length_drop]; omega
  have ps : ∀ x ∈ S part n.toNat, x ∈ S l n.toNat := by rw [← hp]; exact S_part
  rw [row_ok pl.1 pl.2, nx_ok, bind_ok, ls part pl.2, bind_ok]
  refine wp_bnd (bounds_wp tk (by omega) (by rw [S_len]; omega)) fun r116 h116 => ?_
  obtain ⟨⟨_, hbd⟩, tk⟩ := h116
  refine (show (forR _ _ r116.1 () r116.2).wp _ from ?_)
  rw [forR_all fun x hx => ?_]
  · exact ⟨decide_eq_true rfl, tk.mono (by omega)⟩
  · obtain ⟨lo, hi⟩ := x
    have bo := hbd _ hx
    have q1 := rule_first_ok (lo := lo) (hi := hi) hl hn
    have q2 := rule_first_ok (l := l.reverse) (lo := lo) (hi := hi) (by rw [List.length_reverse]; exact hl) hn
    have q3 := keeps_ok (lo := lo) (hi := hi) hl hn
    have q4 := keeps_ok (l := l.reverse) (lo := lo) (hi := hi) (by rw [List.length_reverse]; exact hl) hn
    have q5 := keeps_ok (l := part) (lo := lo) (hi := hi) pl.2 hn
    rw [S_rev] at q2 q4
    rw [fx_rev] at q4
    have sub : (fx lo hi (S l n.toNat) 0).isNone = true → (fx lo hi (S part n.toNat) 0).isNone = true := fx_sub ps
    dsimp only
    rw [rule_ok hn bo, nx_ok, bind_ok, law_first_ok, bind_ok]
    dsimp only
    rw [q1, nx_ok, bind_ok, q3, nx_ok, q4, nx_ok, q2, nx_ok, q5, nx_ok, law_first_ok, law_first_ok]
    generalize fx lo hi (S l n.toNat) 0 = f1 at sub ⊢
    generalize fx lo hi (S l n.toNat).reverse 0 = f2
    generalize fx lo hi (S part n.toNat) 0 = f3 at sub ⊢
    simp only [bind_ok, says_ok, decide_true, Bool.not_true, Bool.false_eq_true, if_false, Bool.and_false]
    cases f1 with
    | none =>
      rw [sub rfl]; rfl
    | some _ => rfl
end K12

set_option Elab.async false
set_option linter.all false
set_option maxRecDepth 100000
set_option maxHeartbeats 4000000
namespace K12
open PySem PySem.Spec PyProof.Rows L2 Rl RZ RT Px Ty
local macro_rules | `(tactic| walk_at "num") => `(tactic| first | assumption | omega | decide)
local macro_rules | `(tactic| walk_at "ok") => `(tactic| with_reducible first
  | (refine wp_bok (mdR_ok ?_) ?_; (· with_unfolding_all walk_at "num"))
  | (refine wp_bok (fdR_ok ?_ ?_) ?_; (· with_unfolding_all walk_at "num"); (· with_unfolding_all walk_at "num"))
  | (refine wp_bok (rngR_ok ⟨⟨?_, ?_⟩, ?_, ?_⟩) ?_; (· with_unfolding_all walk_at "num"); (· with_unfolding_all walk_at "num"); (· with_unfolding_all walk_at "num"); (· with_unfolding_all walk_at "num"))
  | (refine wp_bok (mulR_l ?_) ?_; (· with_unfolding_all walk_at "num"))
  | (refine wp_bok (mulR_r ?_) ?_; (· with_unfolding_all walk_at "num"))
  | (refine wp_bok (ixR_ok ?_ ?_) ?_; (· with_unfolding_all walk_at "num"); (· with_unfolding_all walk_at "num"))
  | (refine wp_bok (lcM_ok ?_) ?_; (· with_unfolding_all walk_at "num"))
  | (refine wp_bok (lcF_ok ?_) ?_; (· with_unfolding_all walk_at "num"))
  | (refine wp_bok (addL_ok ?_) ?_; (· with_unfolding_all walk_at "num"))
  | (refine wp_bok (appR_ok ?_) ?_; (· with_unfolding_all walk_at "num"))
  | (refine wp_bok (setR_ok ?_ ?_) ?_; (· with_unfolding_all walk_at "num"); (· with_unfolding_all walk_at "num"))
  | (refine wp_bok (pwR_ok ⟨?_, ?_, ?_⟩) ?_; (· with_unfolding_all walk_at "num"); (· with_unfolding_all walk_at "num"); (· with_unfolding_all walk_at "num")))
local macro_rules | `(tactic| walk_at "t") => `(tactic| (repeat ((try dsimp only); walk_at "ok")); try dsimp only)
theorem ofD_wp {b : Int} {t : TapT} {some : List D} (h : TapOk b t) (hb : b ≤ 1000000) (h0 : 0 < some.length) (h1 : some.length < 1000000) : (m_law_of_1 t some).wp fun r => r.1 ∈ some ∧ TapOk (b + 1) r.2 := by
  unfold m_law_of_1
  refine wp_bnd (drip_wp h hb (by omega) (by omega)) fun r hr => ?_
  refine wp_bok (ixR_ok hr.1.1 hr.1.2) ?_
  exact ⟨List.getElem_mem _, hr.2⟩
theorem heard_ok : m_law_heard (.ex ⟨"BadRow", ["part"], [D.str ("row" : Str)]⟩) = .ok (some ("row" : Str)) := by
  unfold m_law_heard
  rfl
theorem refuses {d : D} {n : Int} {lo hi : Option Int} (h : isdR clsT d "Row" = .ok false) : m_Rule_first_broken_1 (rule n lo hi) d = .ex ⟨"BadRow", ["part"], [D.str ("row" : Str)]⟩ := by
  unfold m_Rule_first_broken_1 m_need_row_1
  rw [h]; rfl
theorem refusesK {d : D} {n : Int} {lo hi : Option Int} (h : isdR clsT d "Row" = .ok false) : m_Rule_keeps_1 (rule n lo hi) d = .ex ⟨"BadRow", ["part"], [D.str ("row" : Str)]⟩ := by
  unfold m_Rule_keeps_1
  rw [refuses h]; rfl
theorem str_len {x : Int} (h : x.natAbs < 10 ^ 100) : ((toString x : String) : Str).length ≤ 101 := by
  have z := int_text_length_le10 (a := x) (k := 100) (by decide) h
  rw [PySem.ofString_length]
  exact z
theorem refused_right_wp {b : Int} {t : TapT} {l : List Int} (h : TapOk b t) (hb : b ≤ 890000) (h0 : 0 < l.length) (hl : l.length ≤ 48) (hg : ∀ x ∈ l, -(2 ^ 90) < x ∧ x < 2 ^ 90) : (m_law_refused_right t l).wp fun r => r.1 = true := by
  unfold m_law_refused_right
  refine wp_bnd (of_wp h (by omega) (by decide) (by decide)) fun r2 h2 => ?_
  obtain ⟨hm, tk⟩ := h2
  have hm : 1 ≤ r2.1 ∧ r2.1 ≤ 48 := (show ∀ z ∈ ([1, 2, 48] : List Int), 1 ≤ z ∧ z ≤ 48 by decide) _ hm
  refine wp_bnd (number_wp tk (by omega)) fun r3 h3 => ?_
  obtain ⟨_, tk⟩ := h3
  rw [rule_ok hm (show bOk (some r3.1) none from trivial), nx_ok, bind_ok]
  try dsimp only
  have bd : ∀ x ∈ l, x.natAbs < 10 ^ 100 := fun x hx => by
    have z := hg x hx
    have e : (2 : Int) ^ 90 = 1237940039285380274899124224 := by decide
    rw [e] at z
    exact Nat.lt_of_lt_of_le (show x.natAbs < 1237940039285380274899124224 by omega) (by decide)
  rw [lcR_map (fun x => ((toString x : String) : Str)) (by omega) fun x hx => by
    rw [show strR x = .ok ((toString x : String) : Str) from if_pos (bd x hx), bind_ok], bind_ok]
  have jn : (((l.map fun x => ((toString x : String) : Str)).map (·.length)).sum + (l.map fun x => ((toString x : String) : Str)).length * ((" " : Str)).length ≤ 16777216) := by
    have key : ∀ m : List Int, (∀ x ∈ m, x.natAbs < 10 ^ 100) → ((m.map fun x => ((toString x : String) : Str)).map (·.length)).sum ≤ m.length * 101 := fun m => by
      induction m with
      | nil => intro _; exact Nat.le_refl _
      | cons x xs ih =>
        intro hx
        have := ih fun y hy => hx y (List.mem_cons_of_mem _ hy)
        have := str_len (hx x (List.mem_cons_self ..))
        simp only [List.map_cons, List.sum_cons, List.length_cons]
        omega
    have k1 := key l bd
    have k2 : ((" " : Str)).length = 1 := rfl
    rw [List.length_map, k2]
    omega
  rw [show joinR (" " : Str) (l.map fun x => ((toString x : String) : Str)) = .ok _ from if_pos jn, bind_ok]
  generalize Txt.join (" " : Str) (l.map fun x => ((toString x : String) : Str)) = txt
  refine wp_bnd (ofD_wp tk (by omega) (Nat.le_of_ble_eq_true rfl) (Nat.lt_of_lt_of_le (Nat.lt_succ_self 8) (by decide))) fun r14 h14 => ?_
  obtain ⟨hm2, tk⟩ := h14
  have hod : isdR clsT r14.1 "Row" = .ok false := by
    generalize r14.1 = d at hm2
    rcases List.mem_cons.mp hm2 with rfl | hm2
    · rfl
    rcases List.mem_cons.mp hm2 with rfl | hm2
    · rfl
    rcases List.mem_cons.mp hm2 with rfl | hm2
    · rfl
    rcases List.mem_cons.mp hm2 with rfl | hm2
    · rfl
    rcases List.mem_cons.mp hm2 with rfl | hm2
    · rfl
    rcases List.mem_cons.mp hm2 with rfl | hm2
    · rfl
    rcases List.mem_cons.mp hm2 with rfl | hm2
    · rfl
    · rw [List.mem_singleton.mp hm2]; rfl
  try dsimp only
  rw [refusesK hod]
  show (Res.bind (nx (m_law_heard (.ex ⟨"BadRow", ["part"], [D.str ("row" : Str)]⟩))) _).wp _
  rw [heard_ok, nx_ok, bind_ok]
  try dsimp only
  rw [refuses hod]
  show (Res.bind (nx (m_law_heard (.ex ⟨"BadRow", ["part"], [D.str ("row" : Str)]⟩))) _).wp _
  rw [heard_ok, nx_ok, bind_ok, appR_ok (Nat.le_of_ble_eq_true rfl), bind_ok]
  have ok : okL (okO okS) [some ("row" : Str), some ("row" : Str)] = true := by decide +kernel
  show (Res.bind (eqR (okL (okO okS)) [some ("row" : Str), some ("row" : Str)] [some ("row" : Str), some ("row" : Str)]) _).wp _
  rw [eqR_ok ok ok, bind_ok, decide_eq_true (rfl : [some ("row" : Str), some ("row" : Str)] = [some ("row" : Str), some ("row" : Str)])]
  exact rfl
theorem row_six : m_Row_init [(-3), 5, (-3), (-3), 5, (-3)] = .ok (row [(-3), 5, (-3), (-3), 5, (-3)]) := row_ok (by decide) (by decide)
theorem law_wp (l : List Int) : m_law l = .ok true := by
  refine ok_of_wp ?_
  unfold m_law
  refine wp_bnd (pen_wp l) fun t ht => ?_
  try dsimp only
  refine wp_bnd (of_wp ht (by omega) (by decide) (by decide)) fun r5 h5 => ?_
  obtain ⟨hm, tk⟩ := h5
  have hm : 1 ≤ r5.1 ∧ r5.1 ≤ 48 := (show ∀ z ∈ ([5, 1, 2, 3, 7, 12, 30, 48, 4, 6] : List Int), 1 ≤ z ∧ z ≤ 48 by decide) _ hm
  try dsimp only
  refine wp_bnd (gains_wp tk (by omega) (by omega) (by omega)) fun r9 h9 => ?_
  obtain ⟨⟨hl, hg⟩, tk⟩ := h9
  try dsimp only
  refine wp_bnd (drip_wp tk (by omega) (by omega) (by omega)) fun r13 h13 => ?_
  obtain ⟨h13, tk⟩ := h13
  refine wp_bnd (drip_wp tk (by omega) (by omega) (by omega)) fun r14 h14 => ?_
  obtain ⟨h14, tk⟩ := h14
  refine wp_bnd (drip_wp tk (by omega) (by decide) (by decide)) fun r15 h15 => ?_
  obtain ⟨h15, tk⟩ := h15
  try dsimp only
  have hln : ∀ x ∈ ([1, r5.1, (min (r5.1 + 1) 48), (1 + r13.1), (1 + r14.1), (1 + r15.1)] : List Int), 1 ≤ x ∧ x ≤ 48 := by
    simp only [List.forall_mem_cons]
    refine ⟨by omega, by omega, by omega, by omega, by omega, by omega, fun _ h => by cases h⟩
  generalize hll : ([1, r5.1, (min (r5.1 + 1) 48), (1 + r13.1), (1 + r14.1), (1 + r15.1)] : List Int) = lens at hln ⊢
  have hlen : lens.length = 6 := by rw [← hll]; rfl
  refine wp_bnd (R := fun q => q.1 = [] ∧ TapOk 1000 q.2.2) ?_ fun q hq => ?_
  · refine lcS_wp (fun i acc s => acc = [] ∧ TapOk (300 + 7 * i) s.2) _ 0 [] _ (Nat.zero_le _) (by omega) ⟨rfl, tk.mono (by omega)⟩ (fun j x acc s hx hi => ?_) fun acc s hi => ?_
    · have hj := (List.getElem?_eq_some_iff.mp hx).1
      rw [Nat.zero_add] at hi
      refine wp_bnd (told_right_wp hi.2 (by omega) (by omega) (by omega) (hln x (List.mem_of_getElem? hx))) fun r hr => ?_
      rw [hr.1]
      exact ⟨hi.1, hr.2.mono (by omega)⟩
    · exact ⟨hi.1, hi.2.mono (by omega)⟩
  obtain ⟨q1, q2⟩ := q
  obtain ⟨rfl, tk⟩ := hq
  rw [if_neg (by simp)]
  have k1 := rule_ok (n := 3) (lo := none) (hi := some (-1)) (by decide) trivial
  have k2 := rule_ok (n := 5) (lo := some 1) (hi := none) (by decide) trivial
  have k3 := rule_ok (n := 3) (lo := none) (hi := some (-2)) (by decide) trivial
  have k4 := rule_ok (n := 2) (lo := some (-5)) (hi := none) (by decide) trivial
  have f1 : m_Rule_keeps (rule 3 none (some (-1))) (row [(-3), 5, (-3), (-3), 5, (-3)]) = .ok true := by rw [keeps_ok (by decide) (by decide)]; rfl
  have f2 : m_Rule_keeps (rule 5 (some 1) none) (row [(-3), 5, (-3), (-3), 5, (-3)]) = .ok true := by rw [keeps_ok (by decide) (by decide)]; rfl
  have f3 : m_Rule_first_broken (rule 3 none (some (-2))) (row [(-3), 5, (-3), (-3), 5, (-3)]) = .ok (some 0) := by rw [rule_first_ok (by decide) (by decide)]; rfl
  have f4 : m_Rule_first_broken (rule 2 (some (-5)) none) (row [(-3), 5, (-3), (-3), 5, (-3)]) = .ok (some 2) := by rw [rule_first_ok (by decide) (by decide)]; rfl
  dsimp only
  rw [k1, nx_ok, bind_ok, row_six, nx_ok, bind_ok, f1, nx_ok, bind_ok, Bool.not_true, if_neg Bool.false_ne_true, k2, nx_ok, bind_ok, bind_ok, f2, nx_ok, bind_ok, Bool.not_true, if_neg Bool.false_ne_true, k3, nx_ok, bind_ok, bind_ok, f3, nx_ok, bind_ok,
    decide_eq_true rfl, Bool.not_true, if_neg Bool.false_ne_true, k4, nx_ok, bind_ok, bind_ok, f4, nx_ok, bind_ok, decide_eq_true rfl, Bool.not_true]
  simp only [bind_ok, Bool.false_eq_true, if_false]
  exact wp_bnd (refused_right_wp tk (by omega) (by omega) (by omega) hg) fun r hr => hr
theorem law_ok {l : List Int} : w_law [.scr l] (fun _ => none) (fun v _ => v = D.bl true) noX := T_law l _ _ _ (by rw [law_wp]; exact rfl)
end K12

set_option Elab.async false
set_option linter.all false
set_option maxRecDepth 100000
set_option maxHeartbeats 0
namespace K12
open PySem PySem.Spec PyProof.Rows L2 Rl RZ RT Px Ty
section
variable {P : Program} {w : World} {K : PySem.W.Frag} {mg : Str → Option Value} {base : Heap}
theorem all_ok (b : Bd K mg) (hT : ∀ m, mkrs.contains m = true → LamX.TabB base mg (He.cT K (m, none)).1 (He.cT K (m, none)).2) : GoodF P w K mg base 9 d_law ["_law_script"] (sp_law K w) := by
  have h_law_heard : ∃ fd, FunD K d_law_heard.name d_law_heard.qual d_law_heard.params d_law_heard.body d_law_heard.scope [] [] (ad K d_law_heard.loc) fd := by
    obtain ⟨h, X, G, c⟩ := b.ex
    exact c.def_ 0 (d := d_law_heard) rfl
  have h_is_integer : GoodF P w K mg base 1 d_is_integer ["value"] (sp_is_integer K w) := ok_is_integer b  
  have h_is_within : GoodF P w K mg base 2 d_is_within ["value", "least", "most"] (sp_is_within K w) := ok_is_within b  h_is_integer
  have h_BadRow_init : GoodF P w K mg base 1 d_BadRow_init ["self", "part"] (spX K ["part"]) := ok_BadRow_init b  
  have h_need_row : GoodX P w K mg base 3 d_need_row ["value", "part"] (sp_need_row K w) := ok_need_row b  h_BadRow_init
  have h_Rule_first_broken : GoodX P w K mg base 4 d_Rule_first_broken ["self", "row"] (sp_Rule_first_broken K w) := ok_Rule_first_broken b  h_is_within h_need_row
  have h_Rule_keeps : GoodX P w K mg base 5 d_Rule_keeps ["self", "row"] (sp_Rule_keeps K w) := ok_Rule_keeps b  h_Rule_first_broken
  have h_law_draw : GoodF P w K mg base 1 d_law_draw ["_law_pen_here", "_law_many"] (sp_law_draw K w) := ok_law_draw b  
  have h_law_of : GoodF P w K mg base 2 d_law_of ["_law_pen_here", "_law_some"] (sp_law_of K w) := ok_law_of b  h_law_draw
  have h_are_bounds : GoodF P w K mg base 1 d_are_bounds ["low", "high"] (sp_are_bounds K w) := ok_are_bounds b  
  have h_BadRule_init : GoodF P w K mg base 1 d_BadRule_init ["self", "part"] (spX K ["part"]) := ok_BadRule_init b  
  have h_BadNumber_init : GoodF P w K mg base 1 d_BadNumber_init ["self", "part"] (spX K ["part"]) := ok_BadNumber_init b  
  have h_need_bound : GoodX P w K mg base 3 d_need_bound ["value", "part"] (sp_need_bound K w) := ok_need_bound b  h_is_integer h_BadNumber_init
  have h_need_number : GoodX P w K mg base 3 d_need_number ["value", "part", "least", "most"] (sp_need_number K w) := ok_need_number b  h_is_within h_BadNumber_init
  have h_Rule_init : GoodX P w K mg base 4 d_Rule_init ["self", "length", "low", "high"] (sp_Rule_init K w) := ok_Rule_init b  h_are_bounds h_BadRule_init h_need_bound h_need_number
  have h_law_number : GoodF P w K mg base 2 d_law_number ["_law_pen_here"] (sp_law_number K w) := ok_law_number b  h_law_draw
  have h_law_refused_right : GoodF P w K mg base 8 d_law_refused_right ["_law_pen_here", "_law_gains_here"] (sp_law_refused_right K w) := ok_law_refused_right b hT h_law_heard h_Rule_first_broken h_Rule_keeps h_law_of h_Rule_init h_law_number
  have h_heights_of : GoodF P w K mg base 1 d_heights_of ["gains"] (sp_heights_of K w) := ok_heights_of b  
  have h_TooMany_init : GoodF P w K mg base 1 d_TooMany_init ["self", "what", "most"] (spX K ["what", "most"]) := ok_TooMany_init b  
  have h_are_integers : GoodF P w K mg base 2 d_are_integers ["value"] (sp_are_integers K w) := ok_are_integers b  h_is_integer
  have h_Row_init : GoodX P w K mg base 3 d_Row_init ["self", "gains"] (sp_Row_init K w) := ok_Row_init b  h_heights_of h_TooMany_init h_are_integers h_BadRow_init
  have h_law_bounds : GoodF P w K mg base 3 d_law_bounds ["_law_pen_here", "_law_sums_here"] (sp_law_bounds K w) := ok_law_bounds b  h_law_draw h_law_number h_law_of
  have h_law_says : GoodF P w K mg base 1 d_law_says ["_law_value", "_law_due"] (sp_law_says K w) := ok_law_says b  
  have h_law_first : GoodF P w K mg base 1 d_law_first ["_law_sums_here", "_law_low", "_law_high"] (sp_law_first K w) := ok_law_first b  
  have h_law_sums : GoodF P w K mg base 1 d_law_sums ["_law_gains_here", "_law_length"] (sp_law_sums K w) := ok_law_sums b  
  have h_law_told_right : GoodF P w K mg base 6 d_law_told_right ["_law_pen_here", "_law_gains_here", "_law_length"] (sp_law_told_right K w) := ok_law_told_right b  h_law_bounds h_Rule_keeps h_law_says h_law_first h_Rule_first_broken h_Rule_init h_law_sums h_Row_init h_law_draw
  have h_law_gains : GoodF P w K mg base 3 d_law_gains ["_law_pen_here", "_law_many"] (sp_law_gains K w) := ok_law_gains b  h_law_draw h_law_number
  have h_law_pen : GoodF P w K mg base 1 d_law_pen ["_law_script"] (sp_law_pen K w) := ok_law_pen b  
  exact ok_law b  h_law_refused_right h_Rule_init h_Rule_first_broken h_Row_init h_Rule_keeps h_law_told_right h_law_draw h_law_gains h_law_of h_law_pen
end
abbrev Al2 : Type := Rl.Al × Bool
def obsBG2 (n : Nat) (fa : List Fb) (fn : List Df) (tf : List He.Defn) (g : Addr → Option Obj) : Al2 := (obsB fa fn (He.frT g (cStatics :: He.asD g n)), He.tabsB g tf (He.frT g (cStatics :: He.asD g n)))
structure Says2 (fa : List Fb) (fn : List Df) (tf : List He.Defn) (h : Heap) (K : PySem.W.Frag) : Prop where
  s : SaysB fa fn K
  hd : ∀ p ∈ tf, PySem.W.codeHdIn K (He.cT K p).1 (He.cT K p).2 = true
  out : ∀ p ∈ tf, K.lookup (He.cT K p).2 = none
  empty : ∀ p ∈ tf, h.get? (He.cT K p).2 = some { cls := .none, data := .fields #[] }
theorem says2_of {n : Nat} {fa : List Fb} {fn : List Df} {tf : List He.Defn} {h : Heap} (e : obsBG2 n fa fn tf h.get? = (valB fn, true)) : Says2 fa fn tf h (He.frT h.get? (cStatics :: He.asD h.get? n)) := by
  have e1 : obsB fa fn (He.frT h.get? (cStatics :: He.asD h.get? n)) = valB fn := congrArg (fun z : Al2 => z.1) e
  have e2 : He.tabsB h.get? tf (He.frT h.get? (cStatics :: He.asD h.get? n)) = true := congrArg (fun z : Al2 => z.2) e
  generalize hK : He.frT h.get? (cStatics :: He.asD h.get? n) = K at e1 e2
  have all : ∀ p ∈ tf, PySem.W.codeHdIn K (He.cT K p).1 (He.cT K p).2 = true ∧ ∃ o, h.get? (He.cT K p).2 = some o ∧ He.emptyTab o = true := fun p hp => by
    obtain ⟨q1, q2⟩ := He.ba (List.all_eq_true.mp e2 p hp)
    refine ⟨q1, ?_⟩
    cases z : h.get? (He.cT K p).2 with
    | none => rw [z] at q2; cases q2
    | some o => rw [z] at q2; exact ⟨o, rfl, q2⟩
  refine ⟨e1, fun p hp => (all p hp).1, fun p hp => ?_, fun p hp => ?_⟩
  · obtain ⟨_, o, z, t⟩ := all p hp
    have y := He.frT_none (as := cStatics :: He.asD h.get? n) z t
    rwa [hK] at y
  · obtain ⟨_, o, z, t⟩ := all p hp
    rw [z, He.emptyTab_eq t]
def hookB2 (n : Nat) (fa : List Fb) (fn : List Df) (tf : List He.Defn) : PySem.W.Hook where
  α := Al2
  obs := fun s => obsBG2 n fa fn tf s.heap.get?
  val := fun _ => (valB fn, true)
  says := fun _ h => ∃ K : PySem.W.Frag, K.In h ∧ Says2 fa fn tf h K
  of := fun _ _ e => ⟨_, He.frT_in, says2_of e⟩
  keeps := fun _ _ _ ⟨K, hK, c⟩ k => ⟨K, PySem.W.Frag.In.keeps hK k, ⟨c.s, c.hd, c.out, fun p hp => k _ _ (c.empty p hp)⟩⟩
theorem obsBG2_eq {n : Nat} {fa : List Fb} {fn : List Df} {tf : List He.Defn} {g : Addr → Option Obj} {s : Shared} (h : ∀ a, g a = s.heap.get? a) : obsBG2 n fa fn tf g = (hookB2 n fa fn tf).obs s := by
  have e : g = s.heap.get? := funext h
  rw [e] <;> rfl
def fb : List Fb := fa ++ [.he (.glo "law")]
theorem fb_says {K : PySem.W.Frag} (c : SaysB fb fn K) : SaysB fa fn K ∧ (Fb.he (.glo "law")).ok K = true := by
  have c1 := (He.ba (show ((fb.all fun f => f.ok K) && fn.all fun d => d.ok K) = true from congrArg (fun z : Rl.Al => z.1) c))
  have c2 : fn.map (fun d => fnW K (ad K d.loc)) = fn.map Df.val := congrArg (fun z : Rl.Al => z.2) c
  have c3 : ((fa.all fun f => f.ok K) && ([Fb.he (.glo "law")].all fun f => f.ok K)) = true := by
    rw [← List.all_append]; exact c1.1
  obtain ⟨c4, c5⟩ := He.ba c3
  refine ⟨?_, by simpa using c5⟩
  show ((fa.all fun f => f.ok K) && fn.all fun d => d.ok K, fn.map fun d => fnW K (ad K d.loc)) = (true, fn.map Df.val)
  rw [c4, c1.2, c2]
  rfl
def tfs : List He.Defn := mkrs.map fun m => (m, none)
abbrev R : PySem.W.OpenRow := PySem.W.OpenLaw.row PySem.Challenge.rw_anyseven_k12_rules_kept_by_rows
abbrev hk : PySem.W.Hook := hookB2 6 fb fn tfs
def ob (s : PySem.W.SharedT) : Al2 := obsBG2 6 fb fn tfs (HandSHeadRun.getT s)
theorem ob_eq (s : PySem.W.SharedT) : ob s = hk.obs s.abs := obsBG2_eq (HandSHeadRun.getT_eq s)
def names0 : List PySem.Str := ["_wall", "DayError", "BadRow", "BadRule", "BadNumber", "TooMany", "BadText", "DIGITS", "is_integer", "is_within", "are_integers", "need_number", "MOST_DIGITS", "integer_of", "Scan", "MOST_DAYS", "need_row", "need_stretch", "heights_of", "Row", "MOST_LENGTH", "FREE", "need_bound", "are_bounds", "bound_text", "take_bound", "take_rule", "Rule", "_law_pen", "_law_draw"]
def names1 : List PySem.Str := ["_law_of", "_law_number", "_law_gains", "_law_sums", "_law_first", "_law_bounds", "_law_says", "_law_told_right", "_law_heard", "_law_refused_right"]
def names : List PySem.Str := names0 ++ names1
theorem run (w : World) : HandSHeadRun.RunEq R (PySem.W.view R.prog [46]) hk ob 20000 names w := by
  intro os
  kernel_rfl
theorem fd_uniq {K : PySem.W.Frag} {x qual : Str} {params : Arguments} {body : List Stmt} {scope : Scope} {dvs : List V} {kws : List (Str × V)} {f : Addr} {fd fd' : FuncData} (h : FunD K x qual params body scope dvs kws f fd) (h' : FunD K x qual params body scope dvs kws f fd') : fd = fd' := by
  obtain ⟨oc, od, dV, kV, doc, pm, an, cdv, ct, osl, e, lk, _⟩ := h.ex
  obtain ⟨oc', od', dV', kV', doc', pm', an', cdv', ct', osl', e', lk', _⟩ := h'.ex
  rw [lk] at lk'
  have z := congrArg Obj.data (Option.some.inj lk')
  exact Data.func.inj z
def noT (H : Hp) : Hp := fun b => match H b with
  | some (.tbl _) => none
  | o => o
theorem noT_ex (H : Hp) : Evl.Ex (noT H) H := fun b o e => by
  unfold noT at e
  split at e
  · cases e
  · exact e
theorem noT_ne (H : Hp) (b : Addr) (ps : Array Value) : noT H b ≠ some (.tbl ps) := fun e => by
  unfold noT at e
  split at e
  · cases e
  · rename_i n; exact n ps e
theorem noT_l {H : Hp} {a : Addr} {xs : List V} {K : PySem.W.Frag} (h : SqL K H a xs) : SqL K (noT H) a xs := by
  rcases h with (h | ⟨o, h⟩) | h
  · exact .inl (.inl (by unfold noT; rw [h]))
  · exact .inl (.inr ⟨o, by unfold noT; rw [h]⟩)
  · exact .inr h
theorem law_start {K : PySem.W.Frag} {w : World} {mg : Str → Option Value} (b : Bd K mg) (H : Hp) (hT : ∀ m ∈ mkrs, H (He.cT K (m, none)).2 = some (.tbl #[])) (a : Addr) (ns : List Int) (hS : SqL K H a (ns.map V.int)) : sp_law K w [.ref a] H (fun v _ => v = .bl true) fun _ _ _ => False :=
  sd_all (w := w) b (fun _ => none) (noT H) H (fun _ => none) [.ref a] [.scr ns] (fun v _ => v = .bl true) noX (fun v _ => v = .bl true) (fun _ _ _ => False)
    { tb := fun p hp => by
        obtain ⟨m, hm, rfl⟩ := List.mem_map.mp (show p ∈ mkrs.map fun m => ((He.cT K (m, none)).2, (m ++ ".<locals>.") ++ "<lambda>") from hp)
        exact LamX.TabS.nil (hT m hm)
      ft := noT_ne H, gt := (fun _ _ h => by cases h), gh := (fun _ _ h => by cases h), fh := noT_ex H, gf := (fun _ _ h => by cases h), gm := (fun _ _ h => by cases h), mc := (fun _ _ h => by cases h) }
    (.cons (.scr (noT_l hS)) .nil) law_ok (fun F' H' v x M' hk _ _ i => by
      cases hk
      cases i
      rfl)
theorem facts {l : PySem.W.OpenLaw} {w : World} {K : PySem.W.Frag} {h : Heap} {mg : Str → Option Value} {f : Addr} (X : K.In h) (G : h.Ns mainGlobals mg) (hfa : mg ("law" : Str) = some (.ref f)) (c0 : Says2 fb fn tfs h K) : LamX.LawAtS l w K C8.CX0 9 63 "_law_script" mg f h := by
  obtain ⟨c, cl⟩ := fb_says c0.s
  have b : Bd K mg := ⟨h, X, G, c⟩
  obtain ⟨fd, F⟩ := c.def_ 28 (d := d_law) rfl
  have e : mg ("law" : Str) = some (.ref (ad K d_law.loc)) := He.glo_ok X G cl
  have e2 : f = ad K d_law.loc := by
    have := hfa.symm.trans e
    cases this
    rfl
  subst e2
  have bd := FunD.bindsA (ps := ["_law_script"]) F fun _ _ _ _ _ _ us hl => match us, hl with | [_], _ => rfl
  have mem : ∀ p ∈ mkrs.map (fun m => He.cT K (m, none)), ∃ m ∈ mkrs, p = He.cT K (m, none) := fun p hp => by
    obtain ⟨m, hm, rfl⟩ := List.mem_map.mp hp
    exact ⟨m, hm, rfl⟩
  have tf : ∀ m ∈ mkrs, ((m, none) : He.Defn) ∈ tfs := fun m hm => List.mem_map.mpr ⟨m, hm, rfl⟩
  refine ⟨fd, mkrs.map (fun m => He.cT K (m, none)), sp_law K w, fun p hp => ?_, fun p hp => ?_, fun p hp => ?_, fun s v => bd s [v] rfl, fun H a ns _ _ hT hS => law_start b H (fun m hm => hT _ (List.mem_map.mpr ⟨m, hm, rfl⟩)) a ns hS, fun base _ _ hT => ?_⟩
  · obtain ⟨m, hm, rfl⟩ := mem p hp
    exact c0.empty _ (tf m hm)
  · obtain ⟨m, hm, rfl⟩ := mem p hp
    exact c0.out _ (tf m hm)
  · obtain ⟨m, hm, rfl⟩ := mem p hp
    exact PySem.W.codeHd_of_K X (c0.hd _ (tf m hm))
  · obtain ⟨fd', G', F'⟩ := all_ok (P := l.prog) (w := w) (base := base) b (fun m hm => hT _ (List.mem_map.mpr ⟨m, List.contains_iff_mem.mp hm, rfl⟩))
    rw [fd_uniq F F']
    exact G'
end K12
open PySem PySem.W PySem.Calls PyProof.Rows
theorem PySem.Challenge.cw_anyseven_k12_rules_kept_by_rows_holds : PySem.Challenge.rw_anyseven_k12_rules_kept_by_rows.Holds := by
  w_on; o_law
  refine HandSHeadRun.head_any (r := OpenLaw.row PySem.Challenge.rw_anyseven_k12_rules_kept_by_rows) (q := view (OpenLaw.row PySem.Challenge.rw_anyseven_k12_rules_kept_by_rows).prog [46]) (H := K12.hk) (ob := K12.ob) (M := 20000) (loose := K12.names) (d := HandSHeadRun.topDef (OpenLaw.row PySem.Challenge.rw_anyseven_k12_rules_kept_by_rows).prog 46) (kwd := []) K12.ob_eq
    (by kernel_rfl) (fun s => by kernel_rfl) K12.run (by kernel_rfl) (by kernel_rfl) (by kernel_rfl) (by rfl) (by first | assumption | decide +kernel) (by decide +kernel) ⟨rfl, rfl, rfl, rfl, rfl, by decide +kernel⟩ ?hw ?hc
  case hw => w_witness2
  case hc =>
    refine LamX.walk_ofTsE (l := PySem.Challenge.rw_anyseven_k12_rules_kept_by_rows) (n := 63) (k := 9) (x := "_law_script") (CX := fun _ => C8.CX0) rfl (by decide) (by kernel_rfl) ⟨rfl, by decide, by decide⟩ ?F (fun _ _ _ _ _ z => z)
    intro w mg fa h Y G hmg0
    obtain ⟨K, KX, c⟩ := Y
    have hmg : mg ("law" : PySem.Str) = some (.ref fa) := by
      have e : (HandSHeadRun.topDef (OpenLaw.row PySem.Challenge.rw_anyseven_k12_rules_kept_by_rows).prog 46).name = ("law" : PySem.Str) := by kernel_rfl
      rw [← e]
      exact hmg0
    exact ⟨K, KX, K12.facts KX G hmg c⟩

