import PyProof.Rows.All
import Wide.All
import OpenK.AllK
import Wide.FinOn
import KE.KFmtOwn
import KE.KCallOwn
import PyProof.InstEq
import HandS.ForMost
import HandS.Exc
import HandS.Defaults
import HandS.IsInst
import HandS.MakeKw
import HandS.TupAny
import HandS.ClsMeth
import HandS.HeadHook1
import HandS.HeadHook2
import HandS.Wide
import HandS.TupLe
import HandS.Deep
import HandS.Zip
import HandS.Style
import HandS.Flow
import HandS.Steps
import HandS.Rev
import KE.DatumOrd
import KE.KIndexOf
import HandS.TupMul
import HandS.Evl
import HandS.Star
import HandS.TryOnly
import PySem.Challenge.RW_anyseven_k08_the_steady_part_taken_off
import KE.KStateDown
import HandS.Head0
import HandS.Head1
import HandS.Head2
import HandS.HeadEnd
set_option Elab.async false
set_option linter.all false
set_option maxRecDepth 100000
set_option maxHeartbeats 4000000
/-! Rules more than the layer has: own len, str, == and !=, staticmethods, keywords at methods; lists joined that are locked. -/
namespace PySem.W
open PySem PySem.Spec PySem.Calls PyProof.Rows
section
variable {prog : Program} {w : World} {M : Model} {A : Around} {E : Value → Shared → Prop} {s : Shared} {K : Frag} {x C f L : Addr} {ox : Obj} {od : Option Obj} {h₀ : Heap} {m : Str → Option Value} {b tb : Value}
/-- a slot of a built-in that a class has not of its own -/
theorem ifBound_B {name : Str} {id : String} {args : List Value} {Q : Option Value → Shared → Prop} (X : K.In s.heap) (I : InstAt s.heap x ox C od) (hs : findIn K (.ref C) name = some (some (.builtin id)))
    (hb : ∀ self, bindSpecial (.builtin id) self = pure (.builtin id, [self])) (h : wpAny M A (call (.builtin id) (.ref x :: args)) (fun v => Q (some v)) E s) : wpAny M A (callSpecialIfBound? (.ref x) name args) Q E s := by
  simp only [callSpecialIfBound?, bindSpecialIfBound?]
  refine wpAny_holding (wpAny_bind (wpAny_bind (wpAny_bind (I.type.here ((looks_findIn X hs).here ?_)))))
  refine wpAny_bind (wpAny_askSetting (wpAny_ite ?_))
  have fin : wpAny M A (call (.builtin id) ([.ref x] ++ args) >>= fun v => pure (some v)) Q E s := wpAny_bind (wpAny_mono h (fun v s' h' => wpAny_pure h') fun _ _ h' => h')
  split
  · exact wpAny_bind ((Looks.of_pure (hb _)).here (wpAny_pure (by exact fin)))
  · exact wpAny_tryCatch (wpAny_bind ((Looks.of_pure (hb _)).here (wpAny_pure (by exact fin))))
/-- x != b by the own == of x's class, which has no own != -/
theorem ne_K {Q : Value → Shared → Prop} (hu : A.units < cLine) (hu1 : A.in1.units < cLine) (F : Fr h₀ L s.heap m) (X₀ : K.In h₀) (I : InstAt s.heap x ox C od) (hb : Looks (model prog w) s.heap (typeOf b) tb) (hn : notFirst K C tb = true)
    (hne : findIn K (.ref C) "__ne__" = some (some (.builtin "object.__ne__"))) (hm : mroIn K C (.type "object") = some true) (hs : findIn K (.ref C) "__eq__" = some (some (.ref f))) (hf : isFn K (.ref f) = true)
    (h : wpAny (model prog w) A.in1 (call (.ref f) [.ref x, b]) (fun v s' => ∃ r, v = .bool r ∧ Q (.bool (!r)) s') E s) : wpAny (model prog w) A (richCompare .NotEq (.ref x) b) Q E s := by
  have X := X₀.keeps F.keep
  have one : wpAny (model prog w) A (tryCompare (.ref x) (cmpInfo .NotEq).2.1 b) (fun r s' => ∃ v, r = some v ∧ Q v s') E s := by
    unfold tryCompare
    refine wpAny_bind (ifBound_B X I hne PySem.F.slot_object_ne.bind (wpAny_call (codeAny_call_builtin PySem.F.slot_object_ne.plain PySem.F.cmpEntry_ne (check_slot (i := "object.__ne__") (owner := "object") (n := "__ne__") PySem.F.cmpKind_ne PySem.F.cmpSplit_ne (I.type.andThen (looks_mroIn X hm)) (PySem.F.cmpArgs_ne _ _) ?_))))
    show wpAny _ A.in1 (Builtin.«object.__ne__» ⟨[.ref x, b], []⟩) _ _ _
    unfold Builtin.«object.__ne__»
    refine wpAny_bind (m := slotArgs "__ne__" 1 _) (wpAny_pure ?_)
    refine wpAny_bind (m := cRoomFor _ _) (wpAny_cRoomFor hu1 ?_)
    refine wpAny_bind (m := callSpecialIfBound? (.ref x) (Str.ofString "__eq__") [b]) (ifBound_K X I hs hf (wpAny_mono h (fun r s' hr => ?_) fun _ _ e => e))
    obtain ⟨r, rfl, hq⟩ := hr
    refine wpAny_bind (m := truthy (.bool r)) (wpAny_truthy_bool ?_)
    exact wpAny_pure (wpAny_pure ⟨_, rfl, hq⟩)
  unfold richCompare
  simp only [oneThing_ref]
  refine wpAny_holding (wpAny_bind (wpAny_cRoomFor hu ?_))
  refine wpAny_bind (I.type.here (wpAny_bind (hb.here ?_)))
  split
  · rename_i q
    have e : subIn K tb (.ref C) = some false := by
      rcases Bool.or_eq_true_iff.mp hn with e | e
      · rw [beq_iff_eq.mp e] at q; simp at q
      · exact beq_iff_eq.mp e
    refine wpAny_bind ((looks_subIn X e).here ?_)
    simp only [Bool.false_eq_true, if_false]
    refine wpAny_bind (wpAny_mono one (fun r s' z => ?_) fun _ _ e => e)
    obtain ⟨v, rfl, hq⟩ := z
    exact wpAny_pure hq
  · refine wpAny_bind (wpAny_pure ?_)
    simp only [Bool.false_eq_true, if_false]
    refine wpAny_bind (wpAny_mono one (fun r s' z => ?_) fun _ _ e => e)
    obtain ⟨v, rfl, hq⟩ := z
    exact wpAny_pure hq
end
end PySem.W
namespace Rl
open PySem PySem.Spec PyProof.Rows L2
section
variable {X : Cx} {pins : List (Addr × Obj)} {σ : L2.St} {H : Hp} {s : Shared}
/-- an own def called from below the running body -/
theorem run_in {CX : CXT} {k : Nat} {f : Addr} {fd : FuncData} {ps : List Str} {sp : Sp} {E : XK} {A : Around} {Q : VK} {us : List Value} {vs : List V} (F : FnOk X.prog X.w X.K X.mg X.base CX k f fd ps sp) (hr : Room k A) (hf : A.frames = X.A.frames)
    (hb : Binds X.K fd ps []) (hx : Passes CX X E) (I : Inv X pins σ H s) (r : Vals vs us) (h : sp vs H Q E) : wpAny (model X.prog X.w) A (call (.ref f) us) (EP X pins σ Q) X.xe s := by
  have e0 : Env0 X.prog X.w X.K X.mg X.base A X.stack s H := by
    have e := I.env0
    exact ⟨by rw [hf]; exact e.frames, e.mod, e.bs, e.bsz, e.funs, e.frf, e.hok, e.bare⟩
  have hl := F.len _ _ _ _ h
  have hl2 : us.length = ps.length := by rw [← r.length]; exact hl
  refine wpAny_call (codeAny_mono (F.run A X.stack s H ⟨us, []⟩ us vs _ E hr e0 (by
    have := hb s us I.kIn (by simpa using hl2)
    simpa using this) r h) fun r s' hq => ?_)
  cases r with
  | error e => exact hx pins σ H s e s' I hq
  | ok fl =>
    cases fl with
    | ret w => exact I.after hq
    | next => exact False.elim hq
    | brk => exact False.elim hq
    | cont => exact False.elim hq
/-- what an own special method is: of the class at C, named m, the def at f -/
structure Spm (K : PySem.W.Frag) (C : Addr) (m : Str) (f : Addr) : Prop where
  at_ : PySem.W.findIn K (.ref C) m = some (some (.ref f))
  fn : PySem.W.isFn K (.ref f) = true
theorem inst_of {a C dx : Addr} {fs : List (Str × V)} (I : Inv X pins σ H s) (h : H a = some (.ins C dx fs)) : ∃ od, PySem.W.InstAt s.heap a (PySem.W.instObj C dx) C (some od) := by
  obtain ⟨mA, J, _⟩ := ins_get I.hok h
  obtain ⟨od, J, _⟩ := J.look
  exact ⟨od, J⟩
/-- len(o), o's class with an own __len__ -/
def rLenO (C : Addr) (sp : Sp) (E : XK) : List V → Hp → VK → Prop := fun xs H Q => ∃ a dx fs, xs = [.ref a] ∧ H a = some (.ins C dx fs) ∧ sp [.ref a] H (fun v H' => ∃ n : Int, v = .int n ∧ 0 ≤ n ∧ n < 2 ^ 63 ∧ Q (.int n) H') E
theorem call_lenO {CX : CXT} {k : Nat} {C f : Addr} {fd : FuncData} {ps : List Str} {sp : Sp} {E : XK} (m : Spm X.K C "__len__" f) (F : FnOk X.prog X.w X.K X.mg X.base CX k f fd ps sp) (hr : Room (k + 1) X.A) (hb : Binds X.K fd ps []) (hx : Passes CX X E) :
    CallR X (.builtin "len") (rLenO C sp E) := by
  intro pins s σ H xs us Q I rv h
  obtain ⟨a, dx, fs, rfl, ha, q⟩ := h
  obtain ⟨u, rfl, ru⟩ := vals1 rv
  cases ru
  obtain ⟨od, J⟩ := inst_of I ha
  obtain ⟨mm, hF⟩ := I.fr
  refine PySem.W.len_K hF I.ok.mod.kin J m.at_ m.fn (thn (run_in F hr.in1 rfl hb hx I rv q) fun v s' ⟨x, H', I', rx, n, ex, h0, h1, q⟩ => ?_)
  subst ex
  obtain ⟨t, rfl⟩ := rx
  exact ⟨⟨h0, h1⟩, .int n, H', I'.tok _, ⟨_, rfl⟩, q⟩
/-- str(o), o's class with an own __str__ -/
def rStrO (C : Addr) (sp : Sp) (E : XK) : List V → Hp → VK → Prop := fun xs H Q => ∃ a dx fs, xs = [.ref a] ∧ H a = some (.ins C dx fs) ∧ sp [.ref a] H (fun v H' => ∃ z : Str, v = .str z ∧ Q (.str z) H') E
theorem call_strO {CX : CXT} {k : Nat} {C f : Addr} {fd : FuncData} {ps : List Str} {sp : Sp} {E : XK} (m : Spm X.K C "__str__" f) (F : FnOk X.prog X.w X.K X.mg X.base CX k f fd ps sp) (hr : Room (k + 2) X.A) (hb : Binds X.K fd ps []) (hx : Passes CX X E) :
    CallR X (.type "str") (rStrO C sp E) := by
  intro pins s σ H xs us Q I rv h
  obtain ⟨a, dx, fs, rfl, ha, q⟩ := h
  obtain ⟨u, rfl, ru⟩ := vals1 rv
  cases ru
  obtain ⟨od, J⟩ := inst_of I ha
  refine PySem.W.kso_call hr.in1.in1.units0 I.kIn J m.at_ m.fn (thn (run_in F hr.in1.in1 rfl hb hx I rv q) fun v s' ⟨x, H', I', rx, z, ex, q⟩ => ?_)
  subst ex
  obtain ⟨t, rfl⟩ := rx
  exact ⟨.str z, H', I', ⟨_, rfl⟩, q⟩
/-- the type of a value, for a comparison with an own instance -/
theorem type_of {x : V} {u t : Value} (I : Inv X pins σ H s) (rx : RelV x u) (ty : TyX X.K H x t) : PySem.W.Looks (model X.prog X.w) s.heap (typeOf u) t := by
  obtain ⟨P, Z, p, _⟩ := kit_of I rx ty
  exact Z.ty _ _ I.kIn p
/-- o == y, o's class with an own __eq__ -/
def rEqO (K : PySem.W.Frag) (C : Addr) (sp : Sp) (E : XK) : R2 := fun x y H Q => ∃ a dx fs t, x = .ref a ∧ H a = some (.ins C dx fs) ∧ TyX K H y t ∧ PySem.W.notFirst K C t = true ∧ sp [.ref a, y] H (fun v H' => ∃ b : Bool, v = .bl b ∧ Q (.bl b) H') E
theorem op_eqO {CX : CXT} {k : Nat} {C f : Addr} {fd : FuncData} {ps : List Str} {sp : Sp} {E : XK} (m : Spm X.K C "__eq__" f) (F : FnOk X.prog X.w X.K X.mg X.base CX k f fd ps sp) (hr : Room k X.A) (hb : Binds X.K fd ps []) (hx : Passes CX X E) :
    OpR X (compareOp .Eq) (rEqO X.K C sp E) := by
  intro pins s σ H x y v u Q I rx ry h
  obtain ⟨a, dx, fs, t, rfl, ha, ty, nf, q⟩ := h
  cases rx
  obtain ⟨od, J⟩ := inst_of I ha
  obtain ⟨mm, hF⟩ := I.fr
  show wpAny (model X.prog X.w) X.A (richCompare .Eq (.ref a) u) (EP X pins σ Q) X.xe s
  refine PySem.W.cmp_K (op := .Eq) (tb := t) hr.units0 hF I.ok.mod.kin J (type_of I ry ty) nf m.at_ m.fn (thn (run_in F hr rfl hb hx I (Paired.cons (show RelV (.ref a) (Value.ref a) from rfl) (Paired.cons ry .nil)) q) fun v s' ⟨x, H', I', rx, b, ex, q⟩ => ?_)
  subst ex
  cases rx
  exact ⟨.bl b, H', I', rfl, q⟩
/-- o != y, o's class with an own __eq__ and no own __ne__ -/
structure Nem (K : PySem.W.Frag) (C : Addr) : Prop where
  ne : PySem.W.findIn K (.ref C) "__ne__" = some (some (.builtin "object.__ne__"))
  ob : PySem.W.mroIn K C (.type "object") = some true
def rNeO (K : PySem.W.Frag) (C : Addr) (sp : Sp) (E : XK) : R2 := fun x y H Q => ∃ a dx fs t, x = .ref a ∧ H a = some (.ins C dx fs) ∧ TyX K H y t ∧ PySem.W.notFirst K C t = true ∧ sp [.ref a, y] H (fun v H' => ∃ b : Bool, v = .bl b ∧ Q (.bl (!b)) H') E
theorem op_neO {CX : CXT} {k : Nat} {C f : Addr} {fd : FuncData} {ps : List Str} {sp : Sp} {E : XK} (m : Spm X.K C "__eq__" f) (n : Nem X.K C) (F : FnOk X.prog X.w X.K X.mg X.base CX k f fd ps sp) (hr : Room (k + 1) X.A) (hb : Binds X.K fd ps []) (hx : Passes CX X E) :
    OpR X (compareOp .NotEq) (rNeO X.K C sp E) := by
  intro pins s σ H x y v u Q I rx ry h
  obtain ⟨a, dx, fs, t, rfl, ha, ty, nf, q⟩ := h
  cases rx
  obtain ⟨od, J⟩ := inst_of I ha
  obtain ⟨mm, hF⟩ := I.fr
  show wpAny (model X.prog X.w) X.A (richCompare .NotEq (.ref a) u) (EP X pins σ Q) X.xe s
  refine PySem.W.ne_K (tb := t) hr.units0 hr.in1.units0 hF I.ok.mod.kin J (type_of I ry ty) nf n.ne n.ob m.at_ m.fn (thn (run_in F hr.in1 rfl hb hx I (Paired.cons (show RelV (.ref a) (Value.ref a) from rfl) (Paired.cons ry .nil)) q) fun v s' ⟨x, H', I', rx, b, ex, q⟩ => ?_)
  subst ex
  cases rx
  exact ⟨b, rfl, .bl (!b), H', I', rfl, q⟩
end
end Rl

set_option Elab.async false
set_option linter.all false
set_option maxRecDepth 100000
set_option maxHeartbeats 4000000
/-! One rule for calls of own defs, classes, methods, staticmethods, by place and by name. -/
namespace Rl
open PySem PySem.Spec PyProof.Rows L2
/-- what the arguments come to: those by place, those by name -/
abbrev TC := L2.St → Hp → (List V → List V → Hp → Prop) → Prop
def tcP (ta : TA) : TC := fun σ H R => ta σ H fun vs H1 => R vs [] H1
def tcK (tk : TA) : TC := fun σ H R => tk σ H fun zs H1 => R [] zs H1
def tcPK (ta tk : TA) : TC := fun σ H R => ta σ H fun vs H1 => tk σ H1 fun zs H2 => R vs zs H2
structure PC (X : Cx) (es : List Expr) (kws : List Keyword) (ks : List Str) (t : TC) : Prop where
  run : ∀ (pos : Pos) (f : Value) (first : List Value) (pins : List (Addr × Obj)) (s : Shared) (σ : L2.St) (H : Hp) (R : List V → List V → Hp → Prop) (Q : Value → Shared → Prop), PySem.W.keepIn X.K f = true → Inv X pins σ H s → t σ H R →
    (∀ us ws vs zs H' s', Inv X pins σ H' s' → Vals vs us → Vals zs ws → R vs zs H' → wpAny (model X.prog X.w) X.A (call f (first ++ us) (ks.zip ws)) Q X.xe s') →
    wpAny (model X.prog X.w) X.A (callWith pos f first (backTo pos (starEach es X.env)) (backToKw pos (keywordEach kws X.env))) Q X.xe s
section
variable {X : Cx} {e : Expr} {es : List Expr} {kws : List Keyword} {ks : List Str} {t tk : TA}
theorem pc_0 : PC X [] [] [] (tcP tNil) := ⟨fun pos f first pins s σ H R Q hk I h g => PySem.W.callWith_K0 I.kIn hk (g [] [] [] [] H s I .nil .nil h)⟩
theorem pc_p (ha : PA X (e :: es) t) (hpl : ∀ pos, (backTo pos (starEach es X.env)).any (·.1) = false := by intro _; rfl) (he : starEach (e :: es) X.env = (false, eval e X.env) :: starEach es X.env := by rfl) : PC X (e :: es) [] [] (tcP t) :=
  ⟨fun pos f first pins s σ H R Q hk I h g => PySem.W.callWith_K (first := first) (h₀ := X.base) I.ok.mod.kin hk (thn (ha.run pos pins s σ H _ I h) fun us s1 ⟨vs, H1, I1, r, q⟩ => ⟨I1.kIn, g us [] vs [] H1 s1 I1 r .nil q⟩) he (hpl pos)⟩
theorem pc_k (hkw : PK X kws tk) (hall : ∀ pos, (backToKw pos (keywordEach kws X.env)).all (·.1.isSome) = true := by intro _; rfl) (hks : ∀ pos, (backToKw pos (keywordEach kws X.env)).filterMap (·.1) = ks := by intro _; rfl)
    (hpl : ∀ pos, ((backTo pos (starEach [] X.env)).any (·.1) || (backToKw pos (keywordEach kws X.env)).any (·.1.isNone)) = false := by intro _; rfl) : PC X [] kws ks (tcK tk) :=
  ⟨fun pos f first pins s σ H R Q hk I h g => by
    refine PySem.W.callWith_KW0 (first := first) (h₀ := X.base) I.ok.mod.kin hk (hall pos) ?_ (hpl pos)
    refine thn (hkw.run pos pins s σ H _ I h) fun ws s2 ⟨zs, H2, I2, rz, q2⟩ => ⟨I2.kIn, ?_⟩
    rw [hks pos]
    exact g [] ws [] zs H2 s2 I2 .nil rz q2⟩
theorem pc_pk (ha : PA X (e :: es) t) (hkw : PK X kws tk) (hall : ∀ pos, (backToKw pos (keywordEach kws X.env)).all (·.1.isSome) = true := by intro _; rfl) (hks : ∀ pos, (backToKw pos (keywordEach kws X.env)).filterMap (·.1) = ks := by intro _; rfl)
    (he : starEach (e :: es) X.env = (false, eval e X.env) :: starEach es X.env := by rfl) (hpl : ∀ pos, ((backTo pos (starEach (e :: es) X.env)).any (·.1) || (backToKw pos (keywordEach kws X.env)).any (·.1.isNone)) = false := by intro _; rfl) : PC X (e :: es) kws ks (tcPK t tk) :=
  ⟨fun pos f first pins s σ H R Q hk I h g => by
    refine PySem.W.callWith_KW (first := first) (h₀ := X.base) I.ok.mod.kin hk (hall pos) (thn (ha.run pos pins s σ H _ I h) fun us s1 ⟨vs, H1, I1, r, q⟩ => ?_) (hpl pos) he
    refine thn (hkw.run pos pins s1 σ H1 _ I1 q) fun ws s2 ⟨zs, H2, I2, rz, q2⟩ => ⟨I2.kIn, ?_⟩
    rw [hks pos]
    exact g us ws vs zs H2 s2 I2 r rz q2⟩
end
/-- how the arguments become the parameters -/
structure Bn (K : PySem.W.Frag) (fd : FuncData) (ps : List Str) (n : Nat) (ks : List Str) (g : List Value → List Value → List Value) (gV : List V → List V → List V) : Prop where
  to : ∀ (s : Shared) (us ws : List Value), K.In s.heap → us.length = n → ws.length = ks.length → BindsTo s fd ⟨us, ks.zip ws⟩ (ps.zip (g us ws))
  rel : ∀ {vs : List V} {us : List Value} {zs : List V} {ws : List Value}, Vals vs us → Vals zs ws → Vals (gV vs zs) (g us ws)
/-- the values at some places -/
def pick {α : Type} (d : α) (π : List Nat) (us ws : List α) : List α := π.map fun i => (us ++ ws).getD i d
theorem Vals.pick {vs zs : List V} {us ws : List Value} (π : List Nat) (r : Vals vs us) (q : Vals zs ws) : Vals (Rl.pick V.non π vs zs) (Rl.pick Value.none π us ws) := by
  have a := r.append q
  induction π with
  | nil => exact .nil
  | cons i π ih =>
    refine .cons ?_ ih
    show RelV ((vs ++ zs).getD i V.non) ((us ++ ws).getD i Value.none)
    cases e : (vs ++ zs)[i]? with
    | some x =>
      obtain ⟨u, e2, rx⟩ := a.get e
      rw [List.getD_eq_getElem?_getD, List.getD_eq_getElem?_getD, e, e2]
      exact rx
    | none =>
      rw [List.getD_eq_getElem?_getD, List.getD_eq_getElem?_getD, e, a.none_of e]
      rfl
theorem bn_pos {K : PySem.W.Frag} {fd : FuncData} {ps : List Str} {n : Nat} (h : ∀ (s : Shared) (us : List Value), us.length = n → BindsTo s fd ⟨us, []⟩ (ps.zip us)) : Bn K fd ps n [] (fun us _ => us) (fun vs _ => vs) where
  to := fun s us ws _ h1 h2 => h s us h1
  rel := fun r _ => r
theorem bn_kw {K : PySem.W.Frag} {fd : FuncData} {ps ks : List Str} {n : Nat} (π : List Nat) (h : ∀ (s : Shared) (us ws : List Value), us.length = n → ws.length = ks.length → BindsTo s fd ⟨us, ks.zip ws⟩ (ps.zip (pick Value.none π us ws))) : Bn K fd ps n ks (pick Value.none π) (pick V.non π) where
  to := fun s us ws _ h1 h2 => h s us ws h1 h2
  rel := fun r q => Vals.pick π r q
theorem bindsK {K : PySem.W.Frag} {x qual : Str} {params : Arguments} {body : List Stmt} {scope : Scope} {kws : List (Str × V)} {f : Addr} {fd : FuncData} {ps ks : List Str} (π : List Nat) {n : Nat} (F : FunD K x qual params body scope [] kws f fd)
    (h : ∀ (kV doc pm : Value) (an : Option Addr) (cdv ct : Value) (us ws : List Value), us.length = n → ws.length = ks.length → bindArgs (PySem.W.fnOf x qual params body scope .none kV doc pm an cdv ct) ⟨us, ks.zip ws⟩ = pure (ps.zip (pick Value.none π us ws))) :
    Bn K fd ps n ks (pick Value.none π) (pick V.non π) := by
  obtain ⟨oc, od, dV, kV, doc, pm, an, cdv, ct, osl, rfl, lk, hcd, hD, hK⟩ := F.ex
  rcases hD with ⟨_, rfl⟩ | ⟨e, _⟩
  · exact bn_kw π fun s us ws h1 h2 => .of_eq (h kV doc pm an cdv ct us ws h1 h2)
  · exact absurd rfl e
theorem bindsP {K : PySem.W.Frag} {x qual : Str} {params : Arguments} {body : List Stmt} {scope : Scope} {kws : List (Str × V)} {f : Addr} {fd : FuncData} {ps : List Str} {n : Nat} (F : FunD K x qual params body scope [] kws f fd)
    (h : ∀ (kV doc pm : Value) (an : Option Addr) (cdv ct : Value) (us : List Value), us.length = n → bindArgs (PySem.W.fnOf x qual params body scope .none kV doc pm an cdv ct) ⟨us, []⟩ = pure (ps.zip us)) :
    Bn K fd ps n [] (fun us _ => us) (fun vs _ => vs) := by
  obtain ⟨oc, od, dV, kV, doc, pm, an, cdv, ct, osl, rfl, lk, hcd, hD, hK⟩ := F.ex
  rcases hD with ⟨_, rfl⟩ | ⟨e, _⟩
  · exact bn_pos fun s us h1 => .of_eq (h kV doc pm an cdv ct us h1)
  · exact absurd rfl e
/-- f(..) -/
def tFn (n m : Nat) (sp : Sp) (gV : List V → List V → List V) (E : XK) (t : TC) : TE := fun σ H Q => t σ H fun vs zs H1 => vs.length = n ∧ zs.length = m ∧ sp (gV vs zs) H1 Q E
/-- o.m(..) -/
def tMt (C : Addr) (m : Str) (n k : Nat) (sp : Sp) (gV : List V → List V → List V) (E : XK) (ta : TE) (t : TC) : TE := fun σ H Q => ta σ H fun x H1 => ∃ a dx fs, x = .ref a ∧ H1 a = some (.ins C dx fs) ∧ fs.lookup m = none ∧
  t σ H1 fun vs zs H2 => vs.length = n ∧ zs.length = k ∧ sp (gV (x :: vs) zs) H2 Q E
/-- C(..) -/
def tNew (C : Addr) (n m : Nat) (sp : Sp) (gV : List V → List V → List V) (E : XK) (t : TC) : TE := fun σ H Q => t σ H fun vs zs H1 => vs.length = n ∧ zs.length = m ∧ ∀ x dx, H1 x = none → H1 dx = none → dx ≠ x →
  sp (gV (.ref x :: vs) zs) (upd (upd H1 dx (.own x)) x (.ins C dx [])) (fun v H2 => v = .non ∧ Q (.ref x) H2) E
/-- a staticmethod of the class at C: its record at p, its def at g -/
structure Stm (K : PySem.W.Frag) (C : Addr) (m : Str) (g : Addr) : Prop where
  ex : ∃ mc p rest, PySem.W.readsIn K C mc = true ∧ PySem.W.specialIn K (.ref C) "__getattribute__" = some (some (.builtin "type.__getattribute__")) ∧ PySem.W.findCls K (.ref C) mc m = some (.get (.builtin "staticmethod.__get__") (.ref p) .none (.ref C)) ∧
    PySem.W.recIn K p "staticmethod" = some (.ref g :: rest)
  kp : PySem.W.keepIn K (.ref g) = true
section
variable {X : Cx} {CX : CXT} {k n : Nat} {f C : Addr} {fd : FuncData} {ps ks : List Str} {sp : Sp} {E : XK} {x m : Str} {p pos apos : Pos} {o : Expr} {es : List Expr} {kws : List Keyword} {ta : TE} {t : TC} {g : List Value → List Value → List Value} {gV : List V → List V → List V}
theorem run_f {pins : List (Addr × Obj)} {σ : L2.St} {H : Hp} {s : Shared} {Q : VK} {us ws : List Value} {vs zs : List V} (F : FnOk X.prog X.w X.K X.mg X.base CX k f fd ps sp) (hr : Room k X.A) (hb : Bn X.K fd ps n ks g gV) (hx : Passes CX X E)
    (I : Inv X pins σ H s) (r : Vals vs us) (rz : Vals zs ws) (l1 : vs.length = n) (l2 : zs.length = ks.length) (h : sp (gV vs zs) H Q E) : wpAny (model X.prog X.w) X.A (call (.ref f) us (ks.zip ws)) (EP X pins σ Q) X.xe s :=
  run_fnN F hr ⟨hb.to, hb.rel⟩ hx I r rz l1 l2 h
theorem pe_fn (F : FnOk X.prog X.w X.K X.mg X.base CX k f fd ps sp) (hr : Room k X.A) (hg : Gl X x) (hm : X.mg x = some (.ref f)) (hk : PySem.W.keepIn X.K (.ref f) = true) (hb : Bn X.K fd ps n ks g gV) (hx : Passes CX X E) (ha : PC X es kws ks t)
    (hdb : (x == ("__debug__" : Str)) = false := by decide) : PE X (.Call (.Name x p) es kws pos) (tFn n ks.length sp gV E t) := by
  refine ⟨fun pins s σ H Q I h => ?_⟩
  refine wpAny_Call_Name_kw (ld_glob I hg hm ?_ hdb)
  exact ha.run pos (.ref f) [] pins s σ H _ _ hk I h fun us ws vs zs H' s' I' r rz ⟨l1, l2, q⟩ => run_f F hr hb hx I' r rz l1 l2 q
theorem pe_new (M : Mk X.K C f) (F : FnOk X.prog X.w X.K X.mg X.base CX k f fd ps sp) (hr : Room (k + 1) X.A) (hg : Gl X x) (hm : X.mg x = some (.ref C)) (hb : Bn X.K fd ps (n + 1) ks g gV) (hx : Passes CX X E) (ha : PC X es kws ks t)
    (hdb : (x == ("__debug__" : Str)) = false := by decide) : PE X (.Call (.Name x p) es kws pos) (tNew C n ks.length sp gV E t) := by
  refine ⟨fun pins s σ H Q I h => ?_⟩
  refine wpAny_Call_Name_kw (ld_glob I hg hm ?_ hdb)
  exact ha.run pos (.ref C) [] pins s σ H _ _ M.kp I h fun us ws vs zs H' s' I' r rz ⟨l1, l2, q⟩ => run_makeN M F hr ⟨hb.to, hb.rel⟩ hx I' r rz l1 l2 q
theorem pe_mt {pl : Sem Bool} (he : PE X o ta) (c : Cls X.K C) (hm : Meth X.K C m f) (F : FnOk X.prog X.w X.K X.mg X.base CX k f fd ps sp) (hr : Room k X.A) (hb : Bn X.K fd ps (n + 1) ks g gV) (hx : Passes CX X E) (ha : PC X es kws ks t)
    (ht : eval (.Call (.Attribute o m apos) es kws pos) X.env = (do
      let ov ← eval o X.env
      standAt apos.atName
      let (f, first) ← holding [ov] (getMethod ov m pl)
      callWith pos f first (backTo pos (starEach es X.env)) (backToKw pos (keywordEach kws X.env))) := by rfl) :
    PE X (.Call (.Attribute o m apos) es kws pos) (tMt C m n ks.length sp gV E ta t) := by
  refine ⟨fun pins s σ H Q I h => ?_⟩
  refine PySem.W.methodCall_KW (pl := pl) (thn (he.run pins s σ H _ I h) fun u s1 ⟨x, H1, I1, rx, a, dx, fs, ex, ea, l, q⟩ => ?_) ht
  subst ex
  obtain rfl : u = Value.ref a := rx
  refine getmeth_ok I1 ea c hm l ?_
  exact ha.run pos (.ref f) [.ref a] pins s1 σ H1 _ _ hm.kp I1 q fun us ws vs zs H' s' I' r rz ⟨l1, l2, q⟩ =>
    run_f (us := .ref a :: us) (vs := .ref a :: vs) F hr hb hx I' (.cons rfl r) rz (congrArg Nat.succ l1) l2 q
theorem pe_st {pl : Sem Bool} (S : Stm X.K C m f) (hg : Gl X x) (hm : X.mg x = some (.ref C)) (F : FnOk X.prog X.w X.K X.mg X.base CX k f fd ps sp) (hr : Room k X.A) (hb : Bn X.K fd ps n ks g gV) (hx : Passes CX X E) (ha : PC X es kws ks t)
    (hdb : (x == ("__debug__" : Str)) = false := by decide)
    (ht : eval (.Call (.Attribute (.Name x p) m apos) es kws pos) X.env = (do
      let ov ← eval (.Name x p) X.env
      standAt apos.atName
      let (f, first) ← holding [ov] (getMethod ov m pl)
      callWith pos f first (backTo pos (starEach es X.env)) (backToKw pos (keywordEach kws X.env))) := by rfl) :
    PE X (.Call (.Attribute (.Name x p) m apos) es kws pos) (tFn n ks.length sp gV E t) := by
  refine ⟨fun pins s σ H Q I h => ?_⟩
  refine PySem.W.methodCall_KW (pl := pl) (ld_glob I hg hm ?_ hdb) ht
  obtain ⟨mc, pp, rest, rd, ga, fc, rc⟩ := S.ex
  refine PySem.W.method_cls I.kIn ga ?_
  refine PySem.W.cls_bind I.kIn rd fc ?_
  refine wpAny_call (PySem.W.sm_get (s := { s with toks := s.toks + 1 }) I.kIn rc (PySem.W.handed_on rfl ?_))
  exact ha.run pos (.ref f) [] pins _ σ H _ _ S.kp (I.tok _) h fun us ws vs zs H' s' I' r rz ⟨l1, l2, q⟩ => run_f F hr hb hx I' r rz l1 l2 q
end
/-! ### joins of readings -/
section
variable {X : Cx}
theorem pe_or2 {e : Expr} {t u : TE} (h1 : PE X e t) (h2 : PE X e u) : PE X e (fun σ H Q => t σ H Q ∨ u σ H Q) := ⟨fun pins s σ H Q I h => h.elim (h1.run pins s σ H Q I) (h2.run pins s σ H Q I)⟩
theorem pi_or2 {tg e : Expr} {t u : TI} (h1 : PI X tg e t) (h2 : PI X tg e u) : PI X tg e (fun σ H R => t σ H R ∨ u σ H R) := ⟨fun pins s σ H R I h => h.elim (h1.run pins s σ H R I) (h2.run pins s σ H R I)⟩
theorem CallR.or {f : Value} {r r' : List V → Hp → VK → Prop} (h : CallR X f r) (h' : CallR X f r') : CallR X f (fun xs H Q => r xs H Q ∨ r' xs H Q) := fun pins s σ H xs us Q I rv q => q.elim (h pins s σ H xs us Q I rv) (h' pins s σ H xs us Q I rv)
/-! ### lists joined that may be locked -/
def rCatR : R2 := fun x y H Q => ∃ l b xs zs, x = .ref l ∧ y = .ref b ∧ Rd H l (.lst xs) ∧ Rd H b (.lst zs) ∧ xs.length + zs.length ≤ sizeLine ∧ ∀ p, H p = none → Q (.ref p) (upd H p (.lst (xs ++ zs)))
theorem rdM {pins : List (Addr × Obj)} {σ : L2.St} {H : Hp} {s : Shared} {l : Addr} {xs : List V} (I : Inv X pins σ H s) (h : Rd H l (.lst xs)) :
    xs.length ≤ sizeLine ∧ ∃ (its : List Value) (n : Nat), Vals xs its ∧ xs.length = its.length ∧ s.heap.get? l = some { cls := .type "list", data := .seq its.toArray n } := by
  obtain ⟨z, its, n, r, e⟩ := h.ok I.hok
  exact ⟨z, its, n, r, r.length, e⟩
theorem op_catR : OpR X (binaryOp .Add) rCatR := by
  intro pins s σ H x y v u Q I rx ry h
  obtain ⟨l, b, xs, zs, rfl, rfl, hH, hB, hz, q⟩ := h
  cases rx
  cases ry
  obtain ⟨z, its, n, r, hl, e⟩ := rdM I hH
  obtain ⟨z2, its2, n2, r2, hl2, e2⟩ := rdM I hB
  refine PySem.P.add_list e e2 ?_ (by rw [List.size_toArray, List.size_toArray]; omega)
  have ea : its.toArray ++ its2.toArray = (its ++ its2).toArray := by simp
  rw [ea]
  exact ⟨.ref _, _, I.lnew (t' := s.toks) (r.append r2) (by rw [List.length_append]; omega), rfl, q _ I.fresh⟩
def rExtR : V → List V → Hp → VK → Prop := fun x vs H Q => ∃ l b xs zs, x = .ref l ∧ vs = [.ref b] ∧ H l = some (.lst xs) ∧ Rd H b (.lst zs) ∧ xs.length + zs.length ≤ sizeLine ∧ Q .non (upd H l (.lst (xs ++ zs)))
theorem mt_extR : MtM X "list.extend" rExtR := by
  intro pins s σ H x vs v us Q I rx rv h
  obtain ⟨l, b, xs, zs, rfl, rfl, hH, hB, hz, q⟩ := h
  cases rx
  obtain ⟨u, rfl, ru⟩ := rv.one
  cases ru
  obtain ⟨z, its, n, r, hl, e⟩ := I.lstM hH
  obtain ⟨z2, its2, n2, r2, hl2, e2⟩ := rdM I hB
  have hsz : its.toArray.size + its2.toArray.size ≤ sizeLine := by rw [List.size_toArray, List.size_toArray]; omega
  have hlong : ¬ (!its.toArray.isEmpty && Builtin.List.listTooLong (its.toArray.size + its2.toArray.size)) = true := by
    rw [notLongL hsz, Bool.and_false]
    exact Bool.false_ne_true
  refine call_meets F.slot_list_extend ⟨_, e, rfl⟩ F.entry_list_extend (F.args_list_extend_2 _ _)
    (AutoSeq1.list_extend_list_list_0 l its.toArray n b its2.toArray n2 hlong (by rw [List.size_toArray]; omega) (by omega)) ⟨e, e2, ?_⟩
  refine ⟨.non, _, I.lset (its' := its ++ its2) hH e (by simp) (r.append r2) ?_, rfl, q⟩
  rw [List.length_append]
  omega
end
end Rl

set_option Elab.async false
set_option linter.all false
set_option maxRecDepth 100000
set_option maxHeartbeats 4000000
/-! The top's facts of my own: staticmethods, special methods, isinstance, own equality. -/
namespace Rl
open PySem PySem.Spec PyProof.Rows L2
open He (ga ma eqO eqO_ok ba)
/-- where a def stands -/
inductive Loc where
  | top (x : Str) | meth (C m : Str) | stat (C m : Str)
/-- the record of a staticmethod, its def -/
def smRec (K : PySem.W.Frag) (C : Addr) (m : Str) : Addr := match PySem.W.findCls K (.ref C) (.type "type") m with
  | some (.get _ (.ref p) _ _) => p
  | _ => 0
def smDef (K : PySem.W.Frag) (C : Addr) (m : Str) : Addr := match PySem.W.recIn K (smRec K C m) "staticmethod" with
  | some (.ref g :: _) => g
  | _ => 0
def ad (K : PySem.W.Frag) : Loc → Addr
  | .top x => ga K x
  | .meth C m => ma K (ga K C) m
  | .stat C m => smDef K (ga K C) m
structure Df where
  loc : Loc
  name : Str
  qual : Str
  params : Arguments
  body : List Stmt
  scope : Scope
abbrev FnW : Type := Option (Str × Str × Arguments × FuncBody × Scope × Addr × List (Str × Addr) × Addr)
def fnW (K : PySem.W.Frag) (a : Addr) : FnW := match K.lookup a with
  | some ⟨_, _, .func fd, _⟩ => some (fd.name, fd.qualname, fd.params, fd.body, fd.scope, fd.globals, fd.closure, fd.builtins)
  | _ => none
def Df.val (d : Df) : FnW := some (d.name, d.qual, d.params, .stmts d.body, d.scope, mainGlobals, [], builtinsNs)
def Df.ok (K : PySem.W.Frag) (d : Df) : Bool := PySem.W.keepIn K (.ref (ad K d.loc)) && (match K.lookup (ad K d.loc) with
  | some ⟨_, _, .func fd, _⟩ => PySem.W.codeIn K fd.code d.qual && (He.dflB K fd.defaults [] && He.kwdB K fd.kwdefaults [])
  | _ => false)
theorem Df.funD {K : PySem.W.Frag} {d : Df} (e : fnW K (ad K d.loc) = d.val) (c : d.ok K = true) : ∃ fd, FunD K d.name d.qual d.params d.body d.scope [] [] (ad K d.loc) fd := by
  obtain ⟨kp, c2⟩ := ba c
  unfold fnW at e
  cases q : K.lookup (ad K d.loc) with
  | none =>
    rw [q] at c2
    cases c2
  | some o =>
    obtain ⟨oc, od, dt, osl⟩ := o
    rw [q] at c2 e
    cases dt with
    | func fd =>
      obtain ⟨n1, n2, n3, n4, n5, n6, n7, n8, n9, n10, n11, n12, n13, n14, n15⟩ := fd
      have e2 : (some (n1, n2, n3, n4, n5, n6, n7, n15) : FnW) = some (d.name, d.qual, d.params, .stmts d.body, d.scope, mainGlobals, [], builtinsNs) := e
      simp only [Option.some.injEq, Prod.mk.injEq] at e2
      obtain ⟨h1, h2, h3, h4, h5, h6, h7, h8⟩ := e2
      subst h1 h2 h3 h4 h5 h6 h7 h8
      have c3 : (PySem.W.codeIn K n13 d.qual && (He.dflB K n8 [] && He.kwdB K n9 [])) = true := c2
      obtain ⟨k1, k2⟩ := ba c3
      obtain ⟨k3, k4⟩ := ba k2
      exact ⟨_, ⟨oc, od, n8, n9, n10, n11, n12, n13, n14, osl, rfl, q, k1, He.dflB_ok k3, He.kwdB_ok k4⟩, kp⟩
    | _ => cases c2
/-- facts -/
inductive Fb where
  | he (f : He.Fa)
  | stm (C m : Str)
  | spm (C m : Str)
  | nem (C : Str)
  /-- an instance's type can be told -/
  | tyi (C : Str)
  /-- isinstance of a type, of an own class -/
  | kit (t : String) (C : Str) (b : Bool)
  | kitO (C C' : Str) (b : Bool)
  | kitT (C : Str) (t : String) (b : Bool)
  | nf (t : String) (C : Str)
  | nfO (C' C : Str)
  | tup (x : Str) (vs : List He.Dv)
def Fb.ok (K : PySem.W.Frag) : Fb → Bool
  | .he f => f.ok K
  | .stm C m => PySem.W.readsIn K (ga K C) (.type "type") && (eqO (PySem.W.specialIn K (.ref (ga K C)) "__getattribute__") (some (some (.builtin "type.__getattribute__"))) && ((match PySem.W.findCls K (.ref (ga K C)) (.type "type") m with
      | some (.get g p n c) => decide (g = .builtin "staticmethod.__get__") && (decide (p = .ref (smRec K (ga K C) m)) && (decide (n = .none) && decide (c = .ref (ga K C))))
      | _ => false) && ((match PySem.W.recIn K (smRec K (ga K C) m) "staticmethod" with
      | some (g :: _) => decide (g = .ref (smDef K (ga K C) m))
      | _ => false) && PySem.W.keepIn K (.ref (smDef K (ga K C) m)))))
  | .spm C m => eqO (PySem.W.findIn K (.ref (ga K C)) m) (some (some (.ref (ma K (ga K C) m)))) && PySem.W.isFn K (.ref (ma K (ga K C) m))
  | .nem C => eqO (PySem.W.findIn K (.ref (ga K C)) "__ne__") (some (some (.builtin "object.__ne__"))) && decide (PySem.W.mroIn K (ga K C) (.type "object") = some true)
  | .tyi C => eqO (PySem.W.findIn K (.ref (ga K C)) "__class__") (some (some (.builtin "object.__class__"))) && (eqO (PySem.W.specialIn K (.builtin "object.__class__") "__get__") (some (some (.builtin "getset_descriptor.__get__"))) &&
      (decide (PySem.W.takesIn K (.builtin "object.__class__") = some true) && decide (PySem.W.mroIn K (ga K C) (.type "object") = some true)))
  | .kit t C b => decide (PySem.W.kitOne K (.type t) (.ref (ga K C)) = some b)
  | .kitO C C' b => decide (PySem.W.kitOne K (.ref (ga K C)) (.ref (ga K C')) = some b)
  | .kitT C t b => decide (PySem.W.kitOne K (.ref (ga K C)) (.type t) = some b)
  | .nf t C => PySem.W.notFirst K (ga K C) (.type t)
  | .nfO C' C => PySem.W.notFirst K (ga K C) (.ref (ga K C'))
  | .tup x vs => He.tupB K x vs
theorem stm_ok {K : PySem.W.Frag} {C m : Str} (c : (Fb.stm C m).ok K = true) : Stm K (ga K C) m (ad K (.stat C m)) := by
  obtain ⟨c1, c⟩ := ba c
  obtain ⟨c2, c⟩ := ba c
  obtain ⟨c3, c⟩ := ba c
  obtain ⟨c4, c5⟩ := ba c
  refine ⟨?_, c5⟩
  cases e : PySem.W.findCls K (.ref (ga K C)) (.type "type") m with
  | none => rw [e] at c3; cases c3
  | some o =>
    rw [e] at c3
    cases o with
    | get g p n c0 =>
      obtain ⟨d1, d⟩ := ba (show (decide (g = .builtin "staticmethod.__get__") && (decide (p = .ref (smRec K (ga K C) m)) && (decide (n = .none) && decide (c0 = .ref (ga K C))))) = true from c3)
      obtain ⟨d2, d⟩ := ba d
      obtain ⟨d3, d4⟩ := ba d
      have e1 := of_decide_eq_true d1
      have e2 := of_decide_eq_true d2
      have e3 := of_decide_eq_true d3
      have e4 := of_decide_eq_true d4
      cases q : PySem.W.recIn K (smRec K (ga K C) m) "staticmethod" with
      | none => rw [q] at c4; cases c4
      | some l =>
        rw [q] at c4
        cases l with
        | nil => cases c4
        | cons g2 rest =>
          have e5 := of_decide_eq_true (show decide (g2 = .ref (smDef K (ga K C) m)) = true from c4)
          refine ⟨.type "type", smRec K (ga K C) m, rest, c1, eqO_ok c2, ?_, ?_⟩
          · rw [e, e1, e2, e3, e4]
          · rw [q, e5]; rfl
    | _ => cases c3
theorem spm_ok {K : PySem.W.Frag} {C m : Str} (c : (Fb.spm C m).ok K = true) : Spm K (ga K C) m (ad K (.meth C m)) := by
  obtain ⟨c1, c2⟩ := ba c
  exact ⟨eqO_ok c1, c2⟩
theorem nem_ok {K : PySem.W.Frag} {C : Str} (c : (Fb.nem C).ok K = true) : Nem K (ga K C) := by
  obtain ⟨c1, c2⟩ := ba c
  exact ⟨eqO_ok c1, of_decide_eq_true c2⟩
/-- what of an own class makes its instances' type known -/
structure Tyi (K : PySem.W.Frag) (C : Addr) : Prop where
  cl : Cls K C
  ha : PySem.W.findIn K (.ref C) "__class__" = some (some (.builtin "object.__class__"))
  hn : PySem.W.specialIn K (.builtin "object.__class__") "__get__" = some (some (.builtin "getset_descriptor.__get__"))
  ht : PySem.W.takesIn K (.builtin "object.__class__") = some true
  hm : PySem.W.mroIn K C (.type "object") = some true
theorem tyi_ok {K : PySem.W.Frag} {C : Str} (l : (Fb.he (.cls C)).ok K = true) (c : (Fb.tyi C).ok K = true) : Tyi K (ga K C) := by
  obtain ⟨c1, c⟩ := ba c
  obtain ⟨c2, c⟩ := ba c
  obtain ⟨c3, c4⟩ := ba c
  exact ⟨He.cls_ok l, eqO_ok c1, eqO_ok c2, of_decide_eq_true c3, of_decide_eq_true c4⟩
theorem Tyi.ty {K : PySem.W.Frag} {C a dx : Addr} {fs : List (Str × V)} {H : Hp} (t : Tyi K C) (h : H a = some (.ins C dx fs)) : TyX K H (.ref a) (.ref C) := .base (.ins h t.cl t.ha t.hn t.ht t.hm)
/-- the Hook -/
abbrev Al : Type := Bool × List FnW
def obsB (fa : List Fb) (fn : List Df) (K : PySem.W.Frag) : Al := ((fa.all fun f => f.ok K) && fn.all fun d => d.ok K, fn.map fun d => fnW K (ad K d.loc))
def valB (fn : List Df) : Al := (true, fn.map Df.val)
def SaysB (fa : List Fb) (fn : List Df) (K : PySem.W.Frag) : Prop := obsB fa fn K = valB fn
def obsBG (n : Nat) (fa : List Fb) (fn : List Df) (g : Addr → Option Obj) : Al := obsB fa fn (He.frG g (He.asD g n))
def hookB (n : Nat) (fa : List Fb) (fn : List Df) : PySem.W.Hook where
  α := Al
  obs := fun s => obsBG n fa fn s.heap.get?
  val := fun _ => valB fn
  says := fun _ h => ∃ K : PySem.W.Frag, K.In h ∧ SaysB fa fn K
  of := fun _ _ e => ⟨_, He.frG_in, e⟩
  keeps := fun _ _ _ ⟨K, hK, c⟩ k => ⟨K, PySem.W.Frag.In.keeps hK k, c⟩
theorem obsBG_eq {n : Nat} {fa : List Fb} {fn : List Df} {g : Addr → Option Obj} {s : Shared} (h : ∀ a, g a = s.heap.get? a) : obsBG n fa fn g = (hookB n fa fn).obs s := by
  have e : g = s.heap.get? := funext h
  rw [e] <;> rfl
section
variable {fa : List Fb} {fn : List Df} {K : PySem.W.Frag}
theorem SaysB.fact (c : SaysB fa fn K) (i : Nat) {f : Fb} (h : fa[i]? = some f := by rfl) : f.ok K = true := by
  have c1 := (ba (show ((fa.all fun f => f.ok K) && fn.all fun d => d.ok K) = true from congrArg (fun z : Al => z.1) c)).1
  exact List.all_eq_true.mp c1 f (List.mem_of_getElem? h)
theorem SaysB.def_ (c : SaysB fa fn K) (i : Nat) {d : Df} (h : fn[i]? = some d := by rfl) : ∃ fd, FunD K d.name d.qual d.params d.body d.scope [] [] (ad K d.loc) fd := by
  have c2 := (ba (show ((fa.all fun f => f.ok K) && fn.all fun d => d.ok K) = true from congrArg (fun z : Al => z.1) c)).2
  have e : fn.map (fun d => fnW K (ad K d.loc)) = fn.map Df.val := congrArg (fun z : Al => z.2) c
  have e2 : (fn.map fun d => fnW K (ad K d.loc))[i]? = (fn.map Df.val)[i]? := by rw [e]
  rw [List.getElem?_map, List.getElem?_map, h] at e2
  exact Df.funD (Option.some.inj e2) (List.all_eq_true.mp c2 d (List.mem_of_getElem? h))
end
end Rl

set_option Elab.async false
set_option linter.all false
set_option maxRecDepth 100000
set_option maxHeartbeats 4000000
/-! One reading an operator, whatever the values. -/
namespace Rl
open PySem PySem.Spec PyProof.Rows L2
def qAdd (K : PySem.W.Frag) : R2 := fun x y H Q => rI0 (fun i j => .int (i + j)) x y H Q ∨ ((∃ i j, x = .str i ∧ y = .str j ∧ i.length + j.length ≤ sizeLine ∧ Q (.str (i ++ j)) H) ∨ (rCatR x y H Q ∨ rCatA K x y H Q))
def qSub : R2 := rI0 fun i j => .int (i - j)
def qMul : R2 := fun x y H Q => rI CMul (fun i j => .int (i * j)) x y H Q ∨ (rI CMulW (fun i j => .int (i * j)) x y H Q ∨ rRep x y H Q)
def qFd : R2 := fun x y H Q => rI CDivN (fun i j => .int (i.fdiv j)) x y H Q ∨ rI CDivW (fun i j => .int (i / j)) x y H Q
def qMd : R2 := fun x y H Q => rI (fun _ j => 0 < j) (fun i j => .int (i % j)) x y H Q ∨ rI (fun _ j => j ≠ 0) (fun i j => .int (i.fmod j)) x y H Q
def qPw : R2 := rI CPow fun i j => .int (i ^ j.toNat)
def qEq (K : PySem.W.Frag) : R2 := fun x y H Q => rEq x y H Q ∨ rEqD K x y H Q
def qNe (K : PySem.W.Frag) : R2 := fun x y H Q => rNe x y H Q ∨ rNeD K x y H Q
def qLt (K : PySem.W.Frag) : R2 := fun x y H Q => rI0 (fun i j => .bl (decide (i < j))) x y H Q ∨ rLtT K x y H Q
def qLe : R2 := rI0 fun i j => .bl (decide (i ≤ j))
def qGt : R2 := rI0 fun i j => .bl (decide (j < i))
def qGe : R2 := rI0 fun i j => .bl (decide (j ≤ i))
def qIn (K : PySem.W.Frag) : R2 := fun x y H Q => (∃ (c : Nat) (z : Str), x = .str ⟨#[c]⟩ ∧ y = .str z ∧ Q (.bl (decide (c ∈ z.cps.toList))) H) ∨ (rIn K false x y H Q ∨ ((∃ i j, x = .str i ∧ y = .str j ∧ Q (.bl (!(Builtin.Str.occurrences j i 0 j.length 1).isEmpty)) H) ∨ rInD K x y H Q))
def qNin (K : PySem.W.Frag) : R2 := fun x y H Q => (∃ (c : Nat) (z : Str), x = .str ⟨#[c]⟩ ∧ y = .str z ∧ Q (.bl (!decide (c ∈ z.cps.toList))) H) ∨ (rIn K true x y H Q ∨ ((∃ i j, x = .str i ∧ y = .str j ∧ Q (.bl (!(!(Builtin.Str.occurrences j i 0 j.length 1).isEmpty))) H) ∨ rNotInD K x y H Q))
def qIs : R2 := fun x y H Q => y = .non ∧ Q (.bl (decide (x = .non))) H
def qIsn : R2 := fun x y H Q => y = .non ∧ Q (.bl (!decide (x = .non))) H
section
variable {X : Cx}
theorem og_add : OpR X (binaryOp .Add) (qAdd X.K) := op_add.or (op_add_str.or (op_catR.or op_catA))
theorem og_sub : OpR X (binaryOp .Sub) qSub := op_sub
theorem og_mul : OpR X (binaryOp .Mult) qMul := op_mul.or (op_mulW.or op_rep)
theorem og_fd : OpR X (binaryOp .FloorDiv) qFd := op_fdivN.or op_fdivW
theorem og_md : OpR X (binaryOp .Mod) qMd := op_mod.or op_modN
theorem og_pw : OpR X (binaryOp .Pow) qPw := op_pow
theorem og_eq (hu : X.A.units + 64 < cLine) : OpR X (compareOp .Eq) (qEq X.K) := op_eq.or (op_eqD hu)
theorem og_ne (hu : X.A.units + 64 < cLine) : OpR X (compareOp .NotEq) (qNe X.K) := op_ne.or (op_neD hu)
theorem og_lt (hu : X.A.units < cLine) : OpR X (compareOp .Lt) (qLt X.K) := op_lt.or (op_ltT hu)
theorem og_le : OpR X (compareOp .LtE) qLe := op_le
theorem og_gt : OpR X (compareOp .Gt) qGt := op_gt
theorem og_ge : OpR X (compareOp .GtE) qGe := op_ge
theorem og_in (hu : X.A.units + 65 < cLine) : OpR X (compareOp .In) (qIn X.K) := op_in_sign.or (op_in_seq.or (op_in_str.or (op_inD hu)))
theorem og_nin (hu : X.A.units + 65 < cLine) : OpR X (compareOp .NotIn) (qNin X.K) := op_notIn_sign.or (op_notIn_seq.or (op_notIn_str.or (op_notInD hu)))
theorem og_is : OpR X (compareOp .Is) qIs := op_isN
theorem og_isn : OpR X (compareOp .IsNot) qIsn := op_notN
/-- slices -/
def qSl (K : PySem.W.Frag) : V → Option Int → Option Int → Hp → VK → Prop := fun x lo hi H Q => rSlL K x lo hi H Q ∨ (rSlA K x lo hi H Q ∨ rSlS x lo hi H Q)
theorem sg_all : SlR X (qSl X.K) := sl_list.or (sl_tupA.or sl_str)
/-- what is walked: a list, a tuple -/
def iAny (K : PySem.W.Frag) (te : TE) : TI := fun σ H R => iList K te σ H R ∨ iTup K te σ H R
theorem pi_any {tg e : Expr} {te : TE} (h : PE X e te) : PI X tg e (iAny X.K te) := pi_or2 (pi_list h) (pi_tup h)
/-- calls of built-ins -/
def qLen (K : PySem.W.Frag) : List V → Hp → VK → Prop := fun xs H Q => ∃ x n, xs = [x] ∧ LenV K x H n ∧ Q (.int n) H
theorem cg_len : CallR X (.builtin "len") (qLen X.K) := call_len
def qInt : List V → Hp → VK → Prop := fun xs H Q => ((∃ i, xs = [.int i] ∧ Q (.int i) H) ∨ ∃ k, xs = [.bl k] ∧ Q (.int (if k then 1 else 0)) H) ∨ ∃ a n, xs = [.str a] ∧ PySem.intText? a = some n ∧ a.length ≤ 640 ∧ Q (.int n) H
theorem cg_int : CallR X (.type "int") qInt := Rl.CallR.or call_int1 call_int_str
def qStr : List V → Hp → VK → Prop := fun xs H Q => ∃ i, xs = [.int i] ∧ i.natAbs.log2 < 1920 ∧ Q (.str (toString i)) H
theorem cg_str : CallR X (.type "str") qStr := call_str_int
def qAbs : List V → Hp → VK → Prop := fun xs H Q => ∃ i, xs = [.int i] ∧ Q (.int (if i < 0 then -i else i)) H
theorem cg_abs : CallR X (.builtin "abs") qAbs := call_abs
def qMx (K : PySem.W.Frag) : List V → Hp → VK → Prop := fun xs H Q => (∃ i j, xs = [.int i, .int j] ∧ Q (.int (if j > i then j else i)) H) ∨ rMax K xs H Q
theorem cg_max (hc : X.calm = true) : CallR X (.builtin "max") (qMx X.K) := Rl.CallR.or (call_max2 hc) (cr_max hc)
def qMn (K : PySem.W.Frag) : List V → Hp → VK → Prop := fun xs H Q => (∃ i j, xs = [.int i, .int j] ∧ Q (.int (if j < i then j else i)) H) ∨ rMin K xs H Q
theorem cg_min (hc : X.calm = true) : CallR X (.builtin "min") (qMn X.K) := Rl.CallR.or (call_min2 hc) (cr_min hc)
theorem cg_sum (hc : X.calm = true) : CallR X (.builtin "sum") (rSum X.K) := cr_sum hc
theorem cg_all (hc : X.calm = true) : CallR X (.builtin "all") (rAll X.K) := cr_all hc
theorem cg_any (hc : X.calm = true) : CallR X (.builtin "any") (rAny X.K) := cr_any hc
def qTup (K : PySem.W.Frag) : List V → Hp → VK → Prop := fun xs H Q => ∃ p ys, xs = [.ref p] ∧ ((SqL K H p ys ∧ ∀ l, H l = none → Q (.ref l) (upd H l (.tup ys))) ∨ (SqT K H p ys ∧ Q (.ref p) H))
theorem cg_tuple : CallR X (.type "tuple") (qTup X.K) := call_tuple_of
def qLst (K : PySem.W.Frag) : List V → Hp → VK → Prop := fun xs H Q => ∃ p ys, xs = [.ref p] ∧ (SqL K H p ys ∨ SqT K H p ys) ∧ ∀ l, H l = none → Q (.ref l) (upd H l (.lst ys))
theorem cg_list : CallR X (.type "list") (qLst X.K) := call_list_of
def qIsi (K : PySem.W.Frag) : List V → Hp → VK → Prop := fun xs H Q => rIsi K xs H Q ∨ rIsiT K xs H Q
theorem cg_isi : CallR X (.builtin "isinstance") (qIsi X.K) := Rl.CallR.or call_isi call_isiT
/-- sep.join(xs) -/
def qJoin (K : PySem.W.Frag) : V → List V → Hp → VK → Prop := fun x xs H Q => ∃ a p, ∃ ys : List Str, x = .str a ∧ xs = [.ref p] ∧ (SqL K H p (ys.map V.str) ∨ SqT K H p (ys.map V.str)) ∧ (ys.map (·.length)).sum + ys.length * a.length ≤ 16777216 ∧ Q (.str (Txt.join a ys)) H
def qSplit : V → List V → Hp → VK → Prop := fun x xs H Q => ∃ a b, x = .str a ∧ xs = [.str b] ∧ (b.length == 0) = false ∧ a.length + 2 ≤ sizeLine ∧ rNewStrs (Txt.split a b) H Q
def qStarts : V → List V → Hp → VK → Prop := fun x xs H Q => ∃ a b, x = .str a ∧ xs = [.str b] ∧ Q (.bl (Txt.startswith a b)) H
def qBool : List V → Hp → VK → Prop := fun xs H Q => (∃ i, xs = [.int i] ∧ Q (.bl (i != 0)) H) ∨ ∃ k, xs = [.bl k] ∧ Q (.bl k) H
def orR2 (r r' : R2) : R2 := fun x y H Q => r x y H Q ∨ r' x y H Q
def orC (r r' : List V → Hp → VK → Prop) : List V → Hp → VK → Prop := fun xs H Q => r xs H Q ∨ r' xs H Q
def orE (t u : TE) : TE := fun σ H Q => t σ H Q ∨ u σ H Q
end
end Rl

set_option Elab.async false
set_option linter.all false
set_option maxRecDepth 100000
set_option maxHeartbeats 4000000
/-! More rules over the hand layer. -/
namespace Rl
open PySem PySem.Spec PyProof.Rows L2
def iSeq (K : PySem.W.Frag) (tl : TE) : TI := fun σ H R => tl σ H fun x H1 => ∃ a, x = .ref a ∧ (((∃ xs, SqL K H1 a xs) ∧ R (Itl K a) H1) ∨ ((∃ xs, SqT K H1 a xs) ∧ R (Itt K a) H1))
section
variable {X : Cx} {tg : Expr}
theorem pi_seq {l : Expr} {tl : TE} (hl : PE X l tl) : PI X tg l (iSeq X.K tl) := by
  refine ⟨fun pins s σ H R I h => ?_⟩
  refine thn (hl.run pins s σ H _ I h) fun v s1 ⟨x, H1, I1, r1, q1⟩ => ?_
  obtain ⟨a, e, q⟩ := q1
  subst e
  cases r1
  rcases q with ⟨⟨xs, hq⟩, q⟩ | ⟨⟨xs, hq⟩, q⟩
  · obtain ⟨its, rv, p, hz⟩ := I1.list hq
    refine wpAny_pyIter_list p.isList ?_
    refine ⟨s1.heap.objs.size, [s1.heap.objs.size], _, _, H1, rfl, I1.kept (t' := s1.toks) fun b o e => Heap.get?_push_of_some _ e, turn_list a _, ⟨_, Heap.get?_push_size _ rfl, rfl, rfl⟩, fun b hb => ?_, q⟩
    have e : b = s1.heap.objs.size := by simpa using hb
    subst e
    exact I1.fpOk (Nat.le_refl _) (I1.hok.fresh (Nat.le_refl _))
  · obtain ⟨its, rv, p, hz⟩ := I1.tuple hq
    refine wpAny_pyIter_tuple (show s1.heap.IsTuple a its.toArray from p) ?_
    refine ⟨s1.heap.objs.size, [s1.heap.objs.size], _, _, H1, rfl, I1.kept (t' := s1.toks) fun b o e => Heap.get?_push_of_some _ e, turn_tuple a _, ⟨_, Heap.get?_push_size _ rfl, rfl, rfl⟩, fun b hb => ?_, q⟩
    have e : b = s1.heap.objs.size := by simpa using hb
    subst e
    exact I1.fpOk (Nat.le_refl _) (I1.hok.fresh (Nat.le_refl _))
/-- min(t), max(t) of a tuple of ints -/
def rMinT (K : PySem.W.Frag) : List V → Hp → VK → Prop := fun vs H Q => ∃ (a : Addr) (ns : List Int), vs = [V.ref a] ∧ SqT K H a (ns.map V.int) ∧ 0 < ns.length ∧ ∀ m, m ∈ ns → (∀ y, y ∈ ns → m ≤ y) → Q (.int m) H
def rMaxT (K : PySem.W.Frag) : List V → Hp → VK → Prop := fun vs H Q => ∃ (a : Addr) (ns : List Int), vs = [V.ref a] ∧ SqT K H a (ns.map V.int) ∧ 0 < ns.length ∧ ∀ m, m ∈ ns → (∀ y, y ∈ ns → y ≤ m) → Q (.int m) H
theorem reads_ints {h : Heap} : ∀ {ns : List Int} {us : List Value}, Vals (ns.map V.int) us → ∃ as, ReadsAll h us (ns.map PyData.int) as
  | [], _, r => by
    cases r
    exact ⟨[], .nil⟩
  | n :: ns, _, r => by
    cases r with
    | cons a b =>
      obtain ⟨t, rfl⟩ := a
      obtain ⟨as, q⟩ := reads_ints b
      exact ⟨_, .cons (.int n t) q⟩
theorem foldl_min_mem : ∀ (ns : List Int) (n : Int), ns.foldl min n ∈ n :: ns ∧ ∀ y ∈ n :: ns, ns.foldl min n ≤ y
  | [], n => ⟨by simp, fun y hy => by simp at hy; subst hy; exact Int.le_refl _⟩
  | k :: ns, n => by
    obtain ⟨h1, h2⟩ := foldl_min_mem ns (min n k)
    rw [List.foldl_cons]
    refine ⟨?_, fun y hy => ?_⟩
    · rcases List.mem_cons.mp h1 with e | e
      · rw [e]
        rcases Int.le_total n k with q | q
        · rw [show min n k = n by omega]; simp
        · rw [show min n k = k by omega]; simp
      · exact List.mem_cons_of_mem _ (List.mem_cons_of_mem _ e)
    · have h3 := h2 (min n k) (by simp)
      rcases List.mem_cons.mp hy with e | e
      · subst e; omega
      · rcases List.mem_cons.mp e with e | e
        · subst e; omega
        · exact h2 y (List.mem_cons_of_mem _ e)
theorem foldl_max_mem : ∀ (ns : List Int) (n : Int), ns.foldl max n ∈ n :: ns ∧ ∀ y ∈ n :: ns, y ≤ ns.foldl max n
  | [], n => ⟨by simp, fun y hy => by simp at hy; subst hy; exact Int.le_refl _⟩
  | k :: ns, n => by
    obtain ⟨h1, h2⟩ := foldl_max_mem ns (max n k)
    rw [List.foldl_cons]
    refine ⟨?_, fun y hy => ?_⟩
    · rcases List.mem_cons.mp h1 with e | e
      · rw [e]
        rcases Int.le_total n k with q | q
        · rw [show max n k = k by omega]; simp
        · rw [show max n k = n by omega]; simp
      · exact List.mem_cons_of_mem _ (List.mem_cons_of_mem _ e)
    · have h3 := h2 (max n k) (by simp)
      rcases List.mem_cons.mp hy with e | e
      · subst e; omega
      · rcases List.mem_cons.mp e with e | e
        · subst e; omega
        · exact h2 y (List.mem_cons_of_mem _ e)
theorem reads_int_of {h : Heap} {v : Value} {n : Int} {bs : List Addr} (r : Reads h v (.int n) bs) : ∃ t, v = .int n t := by
  cases r with
  | int i t => exact ⟨t, rfl⟩
theorem cr_minT (hc : X.calm = true) (hu : X.A.units + 64 < cLine) : CallR X (.builtin "min") (rMinT X.K) := by
  intro pins s σ H vs us Q I r h
  obtain ⟨a, ns, rfl, hs, hne, q⟩ := h
  obtain ⟨its, rv, hl, _⟩ := I.tuple hs
  rw [Vals.ref1 r]
  obtain ⟨as, rd⟩ := reads_ints (h := s.heap) rv
  cases ns with
  | nil => simp at hne
  | cons n ns =>
    have key := foldl_min_mem ns n
    refine PySem.W.min_tuple_data (x := .int n) (xs := ns.map .int) (I.ok.hd hc) (show s.heap.IsTuple a its.toArray from hl) rd (PySem.W.alikeAll_datum (α := Int) (n :: ns)) ?_ fun i v h' tk bs hi rr hk => ?_
    · have e : PyData.depthAll ((n :: ns).map PyData.int) = 0 := by
        have : ∀ l : List Int, PyData.depthAll (l.map PyData.int) = 0 := fun l => by induction l <;> simp_all [PyData.depthAll, PyData.depth]
        exact this _
      have e2 : PyData.depthAll (PyData.int n :: ns.map PyData.int) = 0 := e
      rw [e2]; omega
    · rw [PySem.W.minD_ints] at rr
      obtain ⟨t, rfl⟩ := reads_int_of rr
      exact ⟨.int _, H, I.kept hk, ⟨_, rfl⟩, q _ key.1 key.2⟩
theorem cr_maxT (hc : X.calm = true) (hu : X.A.units + 64 < cLine) : CallR X (.builtin "max") (rMaxT X.K) := by
  intro pins s σ H vs us Q I r h
  obtain ⟨a, ns, rfl, hs, hne, q⟩ := h
  obtain ⟨its, rv, hl, _⟩ := I.tuple hs
  rw [Vals.ref1 r]
  obtain ⟨as, rd⟩ := reads_ints (h := s.heap) rv
  cases ns with
  | nil => simp at hne
  | cons n ns =>
    have key := foldl_max_mem ns n
    refine PySem.W.max_tuple_data (x := .int n) (xs := ns.map .int) (I.ok.hd hc) (show s.heap.IsTuple a its.toArray from hl) rd (PySem.W.alikeAll_datum (α := Int) (n :: ns)) ?_ fun i v h' tk bs hi rr hk => ?_
    · have e : PyData.depthAll ((n :: ns).map PyData.int) = 0 := by
        have : ∀ l : List Int, PyData.depthAll (l.map PyData.int) = 0 := fun l => by induction l <;> simp_all [PyData.depthAll, PyData.depth]
        exact this _
      have e2 : PyData.depthAll (PyData.int n :: ns.map PyData.int) = 0 := e
      rw [e2]; omega
    · rw [PySem.W.maxD_ints] at rr
      obtain ⟨t, rfl⟩ := reads_int_of rr
      exact ⟨.int _, H, I.kept hk, ⟨_, rfl⟩, q _ key.1 key.2⟩
def qMnT (K : PySem.W.Frag) : List V → Hp → VK → Prop := orC (qMn K) (rMinT K)
def qMxT (K : PySem.W.Frag) : List V → Hp → VK → Prop := orC (qMx K) (rMaxT K)
theorem cg_minT (hc : X.calm = true) (hu : X.A.units + 64 < cLine) : CallR X (.builtin "min") (qMnT X.K) := Rl.CallR.or (cg_min hc) (cr_minT hc hu)
theorem cg_maxT (hc : X.calm = true) (hu : X.A.units + 64 < cLine) : CallR X (.builtin "max") (qMxT X.K) := Rl.CallR.or (cg_max hc) (cr_maxT hc hu)
/-- is True, is False -/
def qIsB : R2 := fun x y H Q => ∃ b, y = .bl b ∧ Q (.bl (decide (x = .bl b))) H
def qIsnB : R2 := fun x y H Q => ∃ b, y = .bl b ∧ Q (.bl (!decide (x = .bl b))) H
theorem is_bool_gen {M : Model} {A : Around} {E : Value → Shared → Prop} {s : Shared} {Q : Value → Shared → Prop} {v : Value} {b : Bool} (hv : ∀ id, v ≠ .builtin id) (h : Q (.bool (v == .bool b)) s) : wpAny M A (compareOp .Is v (.bool b)) Q E s := by
  cases v <;> first | exact wpAny_pure h | exact absurd rfl (hv _)
theorem isn_bool_gen {M : Model} {A : Around} {E : Value → Shared → Prop} {s : Shared} {Q : Value → Shared → Prop} {v : Value} {b : Bool} (hv : ∀ id, v ≠ .builtin id) (h : Q (.bool (!(v == .bool b))) s) : wpAny M A (compareOp .IsNot v (.bool b)) Q E s := by
  cases v <;> first | exact wpAny_pure h | exact absurd rfl (hv _)
theorem relv_nb {x : V} {v : Value} (r : RelV x v) : ∀ id, v ≠ .builtin id := fun id e => by
  subst e
  cases x <;> first | (obtain ⟨t, h⟩ := r; cases h) | cases r
theorem relv_bl {x : V} {v : Value} {b : Bool} (r : RelV x v) : (v == .bool b) = decide (x = .bl b) := by
  cases x <;> first
    | (cases r; rfl)
    | (obtain ⟨t, rfl⟩ := r; rfl)
    | (cases r; rename_i c; cases c <;> cases b <;> rfl)
theorem og_isB : OpR X (compareOp .Is) qIsB := by
  intro pins s σ H x y v u Q I rx ry h
  obtain ⟨b, rfl, q⟩ := h
  cases ry
  refine is_bool_gen (relv_nb rx) ?_
  rw [relv_bl rx]
  exact ⟨.bl _, H, I, rfl, q⟩
theorem og_isnB : OpR X (compareOp .IsNot) qIsnB := by
  intro pins s σ H x y v u Q I rx ry h
  obtain ⟨b, rfl, q⟩ := h
  cases ry
  refine isn_bool_gen (relv_nb rx) ?_
  rw [relv_bl rx]
  exact ⟨.bl _, H, I, rfl, q⟩
end
end Rl

set_option Elab.async false
set_option linter.all false
set_option maxRecDepth 100000
set_option maxHeartbeats 4000000
/-! x[::-1] of a list or a tuple; t * n. -/
namespace Rl
open PySem PySem.Spec PyProof.Rows L2
section
variable {prog : Program} {w : World} {A : Around} {E : Value → Shared → Prop} {s : Shared}
theorem pick_rev (xs : Array Value) : ((List.range xs.size).filterMap fun (m : Nat) => xs[(((xs.size : Int) - 1) + (m : Int) * (-1)).toNat]?).toArray = xs.toList.reverse.toArray := by
  have key : (List.range xs.size).filterMap (fun (m : Nat) => xs[(((xs.size : Int) - 1) + (m : Int) * (-1)).toNat]?) = xs.toList.reverse := by
    have e1 : xs.toList.reverse = (List.range xs.size).map fun m => xs.toList.reverse.getD m .none := by
      refine List.ext_getElem? fun i => ?_
      rw [List.getElem?_map]
      by_cases hi : i < xs.size
      · rw [List.getElem?_range hi, Option.map_some, List.getD_eq_getElem?_getD, List.getElem?_eq_getElem (by simpa using hi)]
        rfl
      · rw [List.getElem?_eq_none (by simpa using hi), List.getElem?_eq_none (by simpa using hi)]
        rfl
    rw [e1]
    have : ∀ l : List Nat, (∀ m ∈ l, m < xs.size) → l.filterMap (fun (m : Nat) => xs[(((xs.size : Int) - 1) + (m : Int) * (-1)).toNat]?) = l.map fun m => xs.toList.reverse.getD m .none := fun l => by
      induction l with
      | nil => intro _; rfl
      | cons m l ih =>
        intro h
        have hm := h m (by simp)
        have e2 : (((xs.size : Int) - 1) + (m : Int) * (-1)).toNat = xs.size - 1 - m := by omega
        have e3 : xs[xs.size - 1 - m]? = some (xs.toList.reverse.getD m .none) := by
          rw [List.getD_eq_getElem?_getD, List.getElem?_reverse (by simpa using hm), Array.getElem?_eq_getElem (by omega), Array.length_toList, List.getElem?_eq_getElem (by rw [Array.length_toList]; omega)]
          rfl
        rw [List.filterMap_cons, e2, e3, List.map_cons, ih fun k hk => h k (List.mem_cons_of_mem _ hk)]
    exact this _ fun m hm => List.mem_range.mp hm
  rw [key]
theorem adjust_rev (n : Nat) : Builtin.Slice.sliceAdjust none none (-1) (n : Int) = ((n : Int) - 1, -1) := rfl
theorem places_rev (n : Nat) : Builtin.Slice.slicePlaces ((n : Int) - 1) (-1) (-1) = n := by
  unfold Builtin.Slice.slicePlaces
  have h1 : ¬ ((-1 : Int) > 0) := by omega
  simp only [h1, if_false, Int.neg_neg, Int.ediv_one]
  split <;> omega
theorem getItem_tuple_rev {t sl : Addr} {items : Array Value} {u : Tok} {Q : Value → Shared → Prop} (ht : IsTup s.heap t items) (hs : s.heap.IsSliceOf sl .none .none (.int (-1) u)) (hsz : items.size ≤ sizeLine)
    (h : Q (.ref s.heap.objs.size) { s with heap := s.heap.push { cls := .type "tuple", data := .seq items.toList.reverse.toArray } }) : wpAny (model prog w) A (getItem (.ref t) (.ref sl)) Q E s := by
  have htake : sizeOk (.seq items.toList.reverse.toArray) := by
    show items.toList.reverse.toArray.size ≤ sizeLine
    rw [List.size_toArray, List.length_reverse, Array.length_toList]
    exact hsz
  obtain ⟨os, hos, hcs, hds⟩ := id hs
  have hTs : s.TypeIs (.ref sl) "slice" := ⟨os, hos, hcs⟩
  unfold getItem
  try with_reducible refine wpAny_holding ?_
  first | refine wpAny_bind (wpAny_pure ?_) | skip
  refine wpAny_bind (wpAny_sequenceKey ht.typeIs (by decide) ?_)
  refine wpAny_bind (wpAny_callSpecial?_slot (name := Str.ofString "__getitem__") ht.typeIs PyProof.Rows.slot_tuple_getitem
    (wpAny_call_entry PyProof.Rows.slot_tuple_getitem ht.typeIs entry_tuple_getitem ?_ (args_tuple_getitem _ _)))
  show wpAny _ _ (Builtin.Tuple.tupleItemsOf (.ref t) >>= _) _ _ s
  refine wpAny_bind (tupleItemsOf_ ht ?_)
  refine wpAny_bind (wpAny_typeOf hTs ?_)
  rw [if_pos (by decide)]
  have applied : ∀ {A : Around} {E : Value → Shared → Prop} {Q : Int × Int × Nat → Shared → Prop}, Q ((items.size : Int) - 1, -1, items.size) s → wpAny (model prog w) A (Builtin.Slice.sliceApplied (.ref sl) (pure (items.size : Int))) Q E s := fun {A E Q} h => by
    unfold Builtin.Slice.sliceApplied Builtin.Slice.sliceFields
    refine wpAny_bind (wpAny_bind (wpAny_field hos hds (x := .none) rfl (wpAny_bind (wpAny_field hos hds (x := .none) rfl (wpAny_bind (wpAny_field hos hds (x := .int (-1) u) rfl (wpAny_pure ?_)))))))
    refine wpAny_bind (slicePart_int ?_)
    show wpAny _ _ (if ((-1 : Int) == 0) = true then _ else _) _ _ s
    rw [if_neg (by decide)]
    refine wpAny_bind (slicePart_none (wpAny_bind (slicePart_none (wpAny_bind (wpAny_pure ?_)))))
    show wpAny _ _ (match Builtin.Slice.sliceAdjust none none (-1) (items.size : Int) with | (lo, hi) => pure (lo, (-1 : Int), Builtin.Slice.slicePlaces lo hi (-1))) _ _ s
    rw [adjust_rev]
    show wpAny _ _ (pure (((items.size : Int) - 1), (-1 : Int), Builtin.Slice.slicePlaces ((items.size : Int) - 1) (-1) (-1))) _ _ s
    rw [places_rev]
    exact wpAny_pure h
  refine wpAny_bind (applied ?_)
  have hno : ¬ (((((items.size : Int) - 1 : Int)) == 0 && (-1 : Int) == 1 && items.size == items.size) = true) := by
    intro q
    rw [Bool.and_eq_true, Bool.and_eq_true] at q
    exact absurd q.1.2 (by decide)
  show wpAny _ _ (if ((((items.size : Int) - 1 : Int)) == 0 && (-1 : Int) == 1 && items.size == items.size) = true then _ else _) _ _ s
  rw [if_neg hno, pick_rev]
  first
    | exact wpAny_bind (m := Builtin.Tuple.tupleExact _) (wpAny_newObj_type (wpAny_pure ⟨_, rfl, wpAny_pure h⟩) htake)
    | exact wpAny_bind (m := Builtin.Tuple.tupleExact _) (wpAny_newObj_type (wpAny_bind (wpAny_pure (wpAny_pure ⟨_, rfl, wpAny_pure h⟩))) htake)
    | exact wpAny_bind (wpAny_bind (m := Builtin.Tuple.tupleExact _) (wpAny_newObj_type (wpAny_pure (wpAny_pure ⟨_, rfl, wpAny_pure h⟩)) htake))
    | exact wpAny_bind (wpAny_bind (m := Builtin.Tuple.tupleExact _) (wpAny_newObj_type (wpAny_pure ⟨_, rfl, wpAny_pure h⟩) htake))
end
def tRevA (K : PySem.W.Frag) (te : TE) : TE := fun σ H Q => te σ H fun x H1 => ∃ a xs, x = .ref a ∧ ((SqL K H1 a xs ∧ ∀ p, H1 p = none → Q (.ref p) (upd H1 p (.lst xs.reverse))) ∨ (SqT K H1 a xs ∧ ∀ p, H1 p = none → Q (.ref p) (upd H1 p (.tup xs.reverse))))
theorem pe_revA {X : Cx} {e : Expr} {te : TE} {k : Nat} {p1 p2 p3 pos : Pos} (he : PE X e te) : PE X (.Subscript e (.Slice none none (some (.UnaryOp .USub (.Constant (.int 1) k p1) p2)) p3) pos) (tRevA X.K te) := by
  refine ⟨fun pins s σ H Q I h => ?_⟩
  refine Subscript_ (thn (he.run pins s σ H _ I h) fun v s1 ⟨x, H1, I1, r1, q1⟩ => ?_)
  obtain ⟨a, xs, ex, q⟩ := q1
  subst ex
  cases r1
  have hst : PO X (some (.UnaryOp .USub (.Constant (.int 1) k p1) p2)) (tPart (tUn (rU fun i => .int (-i)) (tC (.int 1)))) := po_some (pe_un un_neg pe_int)
  refine wpAny_Slice (thn (po_none.run pins s1 σ H1 (fun o H2 => o = none ∧ H2 = H1) I1 ⟨rfl, rfl⟩) fun vl s2 ⟨l, H2, I2, pl, el, e2⟩ => ?_)
  subst el e2
  refine thn (po_none.run pins s2 σ H2 (fun o H3 => o = none ∧ H3 = H2) I2 ⟨rfl, rfl⟩) fun vu s3 ⟨u, H3, I3, pu, eu, e3⟩ => ?_
  subst eu e3
  refine thn (hst.run pins s3 σ H3 (fun o H4 => o = some (-1) ∧ H4 = H3) I3 ⟨1, rfl, -1, rfl, rfl, rfl⟩) fun vs s4 ⟨o, H4, I4, ps, eo, e4⟩ => ?_
  subst eo e4
  have I5 : Inv X pins σ H4 { s4 with heap := s4.heap.push { cls := .type "slice", data := .fields #[vl, vu, vs] } } := I4.kept (t' := s4.toks) fun b ob q => Heap.get?_push_of_some _ q
  show wpAny (model X.prog X.w) X.A (subscriptTail e (.Slice none none (some (.UnaryOp .USub (.Constant (.int 1) k p1) p2)) p3) (.ref a) (.ref s4.heap.objs.size)) (EP X pins σ Q) X.xe { s4 with heap := s4.heap.push { cls := .type "slice", data := .fields #[vl, vu, vs] } }
  rcases q with ⟨hx, q⟩ | ⟨hx, q⟩
  · obtain ⟨its, r, ht, hz⟩ := I5.list hx
    have hlen := r.length
    refine tail_any (ops := [.ref a, .ref s4.heap.objs.size]) ht.isList.typeIs (PySem.slot_list_getitem.lookup) ?_ (by with_unfolding_all rfl)
    refine wpAny_getItem_list_slice ht.isList (Heap.IsSliceOf.new _ vl vu vs) pl pu ps (by decide) ?_ (by rw [List.size_toArray]; omega)
    rw [PySem.W.krv_pick]
    refine ⟨.ref _, _, I5.laid (t' := s4.toks) (o := .lst xs.reverse) (fun b ob q => Heap.get?_push_of_some _ q) (Nat.le_refl _) ?_, rfl, q _ (I5.hok.fresh (Nat.le_refl _))⟩
    exact ⟨by rw [List.length_reverse]; exact hz, _, 0, r.reverse, Heap.get?_push_size _ rfl⟩
  · obtain ⟨its, r, ht, hz⟩ := I5.tuple hx
    have hlen := r.length
    cases pl
    cases pu
    cases ps with
    | int _ tk =>
      refine tail_any (ops := [.ref a, .ref s4.heap.objs.size]) (T := "tuple") ht.typeIs (PyProof.Rows.slot_tuple_getitem.lookup) ?_ (by with_unfolding_all rfl)
      refine getItem_tuple_rev ht (Heap.IsSliceOf.new _ _ _ _) (by rw [List.size_toArray]; omega) ?_
      refine ⟨.ref _, _, I5.laid (t' := s4.toks) (o := .tup xs.reverse) (fun b ob q => Heap.get?_push_of_some _ q) (Nat.le_refl _) ?_, rfl, q _ (I5.hok.fresh (Nat.le_refl _))⟩
      exact ⟨by rw [List.length_reverse]; exact hz, _, r.reverse, IsTup.new _ _⟩
theorem tuple_mulW1 (l : Addr) (items : Array Value) (n : Nat) (dd : Option Addr) (sl : Array (Option Value)) (x : Int) (u : Tok) (c0 : (decide (x < -(2 ^ 63)) || decide (x ≥ 2 ^ 63)) = false) (c1 : (items.isEmpty || x == 1) = true) :
    Meets (Builtin.«tuple.__mul__» ⟨[.ref l, .int x u], []⟩) (fun _ R s => s.heap.get? l = some { cls := .type "tuple", dict := dd, data := .seq items n, slots := sl } ∧
      R (.ok (.ret (Value.ref l))) s) :=
  .of_wp fun prog w A R s h => by
    obtain ⟨hp, g, d, tk, os⟩ := s
    obtain ⟨hl, h⟩ := h
    have f1 := AutoSeq1.idx_int
    wp_walk using wpAny_loadPart' hl
    repeat (first
      | (refine wpAny_ite_false (decide_eq_false (by rw [c0]; exact Bool.false_ne_true)) ?_; wp_walk using wpAny_loadPart' hl)
      | (refine wpAny_ite_true (decide_eq_true c1) ?_; wp_walk using wpAny_loadPart' hl))
    exact ⟨_, rfl, h⟩
def rRepT1 (K : PySem.W.Frag) : R2 := fun x y H Q => ∃ l xs, x = .ref l ∧ y = .int 1 ∧ SqT K H l xs ∧ Q (.ref l) H
theorem op_repT1 {X : Cx} : OpR X (binaryOp .Mult) (rRepT1 X.K) := by
  intro pins s σ H x y v u Q I rx ry h
  obtain ⟨l, xs, rfl, rfl, hT, q⟩ := h
  cases rx
  obtain ⟨t, rfl⟩ := ry
  obtain ⟨its, r, ⟨⟨cls, dd, data, sl⟩, ho, hc, n, hd⟩, hs⟩ := I.tuple hT
  simp only at hc hd
  subst hc hd
  have c0 : (decide ((1 : Int) < -(2 ^ 63)) || decide ((1 : Int) ≥ 2 ^ 63)) = false := by decide
  have c1 : (its.toArray.isEmpty || (1 : Int) == 1) = true := by simp
  refine wpAny_binaryOp_repeat_ref (T := "tuple") (U := "int") (by decide) ⟨_, ho, rfl⟩ (fun s' => typeIs_int s' 1 t) noFill_tuple_mul F.fills_int_mul F.slot_int_rmul repeat_tuple F.slot_int_index.lookup
    (call_meets F.slot_int_rmul (typeIs_int s 1 t) F.entry_int_rmul (F.args_int_rmul_2 _ _) (int_rmul_tuple 1 t l its.toArray n dd sl)
      ⟨ho, rfl, ⟨_, ho, rfl⟩, call_meets F.slot_tuple_mul ⟨_, ho, rfl⟩ F.entry_tuple_mul (F.args_tuple_mul_2 _ _) (tuple_mulW1 l its.toArray n dd sl 1 t c0 c1) ⟨ho, ?_⟩⟩)
  exact ⟨.ref l, _, I, rfl, q⟩
theorem rm65 {k : Nat} {A : Around} (r : Room k A) : A.units + 65 < cLine := by have := r.un; omega
def qMulT (K : PySem.W.Frag) : R2 := orR2 qMul (orR2 (rRepT K) (rRepT1 K))
theorem og_mulT {X : Cx} : OpR X (binaryOp .Mult) (qMulT X.K) := OpR.or og_mul (OpR.or op_repT op_repT1)
end Rl

set_option Elab.async false
set_option linter.all false
set_option maxRecDepth 100000
set_option maxHeartbeats 4000000
/-! Plain data, a memory of cells, and what a reading comes to over them. -/
namespace Px
open PySem PySem.Spec PyProof.Rows L2 Rl RZ RT
open Evl (Ex)
abbrev Frag := PySem.W.Frag
/-- plain data -/
inductive D where
  | non | bl (b : Bool) | int (i : Int) | str (s : Str) | ty (n : String)
  | lst (xs : List D) | tup (xs : List D)
  | ins (c : Str) (ns : List Str) (xs : List D)
  /-- an own class -/
  | cls (c : Str)
  /-- a cell of the memory -/
  | ref (a : Addr)
  /-- the script -/
  | scr (l : List Int)
/-- what is known of an own class whose instances bear some attributes -/
structure CF (K : Frag) (c : Str) (ns : List Str) : Prop where
  cl : Cls K (He.ga K c)
  ty : Tyi K (He.ga K c)
  na : ∀ f ∈ ns, NoAttr K (He.ga K c) f
mutual
inductive Is (K : Frag) (F : Hp) : V → D → Prop
  | non : Is K F .non .non
  | bl (b : Bool) : Is K F (.bl b) (.bl b)
  | int (i : Int) : Is K F (.int i) (.int i)
  | str (s : Str) : Is K F (.str s) (.str s)
  | ty (n : String) : Is K F (.ty n) (.ty n)
  | lst {a : Addr} {xs : List V} {ds : List D} : F a = some (.lst xs) → IsAll K F xs ds → Is K F (.ref a) (.lst ds)
  | tup {a : Addr} {xs : List V} {ds : List D} : SqT K F a xs → IsAll K F xs ds → Is K F (.ref a) (.tup ds)
  | ins {a dx : Addr} {fs : List (Str × V)} {c : Str} {ns : List Str} {ds : List D} : F a = some (.ins (He.ga K c) dx fs) → CF K c ns → fs.map (·.1) = ns → IsAll K F (fs.map (·.2)) ds → Is K F (.ref a) (.ins c ns ds)
  | cls (c : Str) : Is K F (.ref (He.ga K c)) (.cls c)
  | ref (a : Addr) : Is K F (.ref a) (.ref a)
  | scr {a : Addr} {l : List Int} : SqL K F a (l.map V.int) → Is K F (.ref a) (.scr l)
inductive IsAll (K : Frag) (F : Hp) : List V → List D → Prop
  | nil : IsAll K F [] []
  | cons {v : V} {vs : List V} {d : D} {ds : List D} : Is K F v d → IsAll K F vs ds → IsAll K F (v :: vs) (d :: ds)
end
section
variable {K : Frag} {F F' H H' : Hp}
mutual
theorem Is.mono (e : Ex F F') : ∀ (d : D) (v : V), Is K F v d → Is K F' v d
  | .non, _, h => by cases h; exact .non
  | .bl b, _, h => by cases h; exact .bl b
  | .int i, _, h => by cases h; exact .int i
  | .str s, _, h => by cases h; exact .str s
  | .ty s, _, h => by cases h; exact .ty s
  | .cls s, _, h => by cases h; exact .cls s
  | .ref s, _, h => by cases h; exact .ref s
  | .scr l, _, h => by
    cases h with
    | scr h => exact .scr (Evl.ex_l e h)
  | .lst ds, _, h => by
    cases h with
    | lst h1 h2 => exact .lst (e _ _ h1) (IsAll.mono e ds _ h2)
  | .tup ds, _, h => by
    cases h with
    | tup h1 h2 => exact .tup (Evl.ex_t e h1) (IsAll.mono e ds _ h2)
  | .ins c ns ds, _, h => by
    cases h with
    | ins h1 h0 h2 h3 => exact .ins (e _ _ h1) h0 h2 (IsAll.mono e ds _ h3)
theorem IsAll.mono (e : Ex F F') : ∀ (ds : List D) (vs : List V), IsAll K F vs ds → IsAll K F' vs ds
  | [], _, h => by cases h; exact .nil
  | d :: ds, _, h => by
    cases h with
    | cons h1 h2 => exact .cons (Is.mono e d _ h1) (IsAll.mono e ds _ h2)
end
theorem Is.up {v : V} {d : D} (h : Is K F v d) (e : Ex F F') : Is K F' v d := Is.mono e d v h
theorem IsAll.up {v : List V} {d : List D} (h : IsAll K F v d) (e : Ex F F') : IsAll K F' v d := IsAll.mono e d v h
theorem IsAll.len : ∀ {vs : List V} {ds : List D}, IsAll K F vs ds → vs.length = ds.length
  | _, _, .nil => rfl
  | _, _, .cons _ h => by rw [List.length_cons, List.length_cons, IsAll.len h]
theorem IsAll.get : ∀ {vs : List V} {ds : List D} {i : Nat} {d : D}, IsAll K F vs ds → ds[i]? = some d → ∃ v, vs[i]? = some v ∧ Is K F v d
  | _, _, _, _, .nil, e => by simp at e
  | _, _, 0, _, .cons h _, e => by simp at e; subst e; exact ⟨_, rfl, h⟩
  | _, _, i + 1, d, .cons _ t, e => by
    obtain ⟨v, h1, h2⟩ := IsAll.get (i := i) (d := d) t (by simpa using e)
    exact ⟨v, by simpa using h1, h2⟩
theorem IsAll.app : ∀ {vs ws : List V} {ds es : List D}, IsAll K F vs ds → IsAll K F ws es → IsAll K F (vs ++ ws) (ds ++ es)
  | _, _, _, _, .nil, h => h
  | _, _, _, _, .cons h t, g => .cons h (IsAll.app t g)
theorem IsAll.set : ∀ {vs : List V} {ds : List D} {v : V} {d : D} (i : Nat), IsAll K F vs ds → Is K F v d → IsAll K F (vs.set i v) (ds.set i d)
  | _, _, _, _, _, .nil, _ => .nil
  | _, _, _, _, 0, .cons _ t, g => .cons g t
  | _, _, _, _, i + 1, .cons h t, g => .cons h (IsAll.set i t g)
theorem IsAll.take : ∀ {vs : List V} {ds : List D} (i : Nat), IsAll K F vs ds → IsAll K F (vs.take i) (ds.take i)
  | _, _, 0, _ => .nil
  | _, _, _ + 1, .nil => .nil
  | _, _, i + 1, .cons h t => .cons h (IsAll.take i t)
theorem IsAll.drop : ∀ {vs : List V} {ds : List D} (i : Nat), IsAll K F vs ds → IsAll K F (vs.drop i) (ds.drop i)
  | _, _, 0, h => h
  | _, _, _ + 1, .nil => .nil
  | _, _, i + 1, .cons _ t => IsAll.drop i t
theorem IsAll.rev {vs : List V} {ds : List D} (h : IsAll K F vs ds) : IsAll K F vs.reverse ds.reverse := by
  induction ds generalizing vs with
  | nil => cases h; exact .nil
  | cons d ds ih =>
    cases h with
    | cons h t =>
      rw [List.reverse_cons, List.reverse_cons]
      exact (ih t).app (.cons h .nil)
theorem IsAll.rep {vs : List V} {ds : List D} (h : IsAll K F vs ds) : ∀ n : Nat, IsAll K F (List.replicate n vs).flatten (List.replicate n ds).flatten
  | 0 => .nil
  | n + 1 => by
    rw [List.replicate_succ, List.replicate_succ, List.flatten_cons, List.flatten_cons]
    exact h.app (IsAll.rep h n)
abbrev Li (l : List Int) : List D := l.map D.int
abbrev Ls (l : List Str) : List D := l.map D.str
abbrev Lb (l : List Bool) : List D := l.map D.bl
theorem IsAll.li : ∀ (l : List Int) {vs : List V}, IsAll K F vs (l.map D.int) → vs = l.map V.int
  | [], _, h => by cases h; rfl
  | i :: l, _, h => by
    cases h with
    | cons h t => cases h; rw [IsAll.li l t]; rfl
theorem IsAll.ls : ∀ (l : List Str) {vs : List V}, IsAll K F vs (l.map D.str) → vs = l.map V.str
  | [], _, h => by cases h; rfl
  | i :: l, _, h => by
    cases h with
    | cons h t => cases h; rw [IsAll.ls l t]; rfl
theorem IsAll.lb : ∀ (l : List Bool) {vs : List V}, IsAll K F vs (l.map D.bl) → vs = l.map V.bl
  | [], _, h => by cases h; rfl
  | i :: l, _, h => by
    cases h with
    | cons h t => cases h; rw [IsAll.lb l t]; rfl
theorem IsAll.of_li : ∀ (l : List Int), IsAll K F (l.map V.int) (l.map D.int)
  | [] => .nil
  | i :: l => .cons (.int i) (IsAll.of_li l)
theorem IsAll.of_ls : ∀ (l : List Str), IsAll K F (l.map V.str) (l.map D.str)
  | [] => .nil
  | i :: l => .cons (.str i) (IsAll.of_ls l)
end
/-! ### the memory -/
inductive Cell where
  | lst (xs : List D)
  | ins (c : Str) (ns : List Str) (xs : List D)
def Cell.toD : Cell → D
  | .lst xs => .lst xs
  | .ins c ns xs => .ins c ns xs
abbrev Mem := Addr → Option Cell
def mu (M : Mem) (a : Addr) (c : Cell) : Mem := fun b => if b = a then some c else M b
def er (M : Mem) (a : Addr) : Mem := fun b => if b = a then none else M b
theorem mu_same {M : Mem} {a : Addr} {c : Cell} : mu M a c a = some c := by unfold mu; rw [if_pos rfl]
theorem mu_ne {M : Mem} {a b : Addr} {c : Cell} (h : b ≠ a) : mu M a c b = M b := by unfold mu; rw [if_neg h]
theorem er_same {M : Mem} {a : Addr} : er M a a = none := by unfold er; rw [if_pos rfl]
theorem er_ne {M : Mem} {a b : Addr} (h : b ≠ a) : er M a b = M b := by unfold er; rw [if_neg h]
theorem mu_mu {M : Mem} {a : Addr} {c d : Cell} : mu (mu M a c) a d = mu M a d := by funext b; unfold mu; split <;> rfl
theorem er_mu {M : Mem} {a : Addr} {c : Cell} (h : M a = none) : er (mu M a c) a = M := by
  funext b; unfold er mu
  by_cases e : b = a
  · rw [if_pos e, e, h]
  · rw [if_neg e, if_neg e]
theorem mu_comm {M : Mem} {a b : Addr} {c d : Cell} (h : a ≠ b) : mu (mu M a c) b d = mu (mu M b d) a c := by
  funext x; unfold mu
  by_cases e : x = a
  · rw [if_pos e, if_neg (by rw [e]; exact h), if_pos e]
  · by_cases e2 : x = b
    · rw [if_pos e2, if_neg e, if_pos e2]
    · rw [if_neg e2, if_neg e, if_neg e, if_neg e2]
theorem er_mu_ne {M : Mem} {a b : Addr} {c : Cell} (h : a ≠ b) : er (mu M a c) b = mu (er M b) a c := by
  funext x
  show (if x = b then none else if x = a then some c else M x) = if x = a then some c else if x = b then none else M x
  by_cases e : x = b
  · rw [if_pos e, if_neg (by rw [e]; exact h.symm), if_pos e]
  · rw [if_neg e, if_neg e]
theorem er_none {M : Mem} {a : Addr} (h : M a = none) : er M a = M := by
  funext b; unfold er
  by_cases e : b = a
  · rw [if_pos e, e, h]
  · rw [if_neg e]
theorem mu_id {M : Mem} {a : Addr} {c : Cell} (h : M a = some c) : mu M a c = M := by
  funext b; unfold mu
  by_cases e : b = a
  · rw [if_pos e, e, h]
  · rw [if_neg e]
theorem ne_some_none {M : Mem} {a b : Addr} {c : Cell} (h : M a = some c) (n : M b = none) : a ≠ b := fun e => by subst e; rw [h] at n; cases n
/-- a cell's content -/
def At (K : Frag) (F H : Hp) (a : Addr) : Cell → Prop
  | .lst ds => ∃ vs, H a = some (.lst vs) ∧ IsAll K F vs ds
  | .ins c ns ds => ∃ dx fs, H a = some (.ins (He.ga K c) dx fs) ∧ CF K c ns ∧ fs.map (·.1) = ns ∧ IsAll K F (fs.map (·.2)) ds
theorem At.there {K : Frag} {F H : Hp} {a : Addr} {c : Cell} (h : At K F H a c) : ∃ o, H a = some o := by
  cases c with
  | lst ds => obtain ⟨vs, h, _⟩ := h; exact ⟨_, h⟩
  | ins c ns ds => obtain ⟨dx, fs, h, _⟩ := h; exact ⟨_, h⟩
theorem At.mono {K : Frag} {F F' H H' : Hp} {a : Addr} {c : Cell} (h : At K F H a c) (e : Ex F F') (k : ∀ o, H a = some o → H' a = some o) : At K F' H' a c := by
  cases c with
  | lst ds => obtain ⟨vs, h, g⟩ := h; exact ⟨_, k _ h, g.up e⟩
  | ins c ns ds => obtain ⟨dx, fs, h, g0, g1, g2⟩ := h; exact ⟨dx, fs, k _ h, g0, g1, g2.up e⟩
theorem At.toIs {K : Frag} {F H : Hp} {a : Addr} {c : Cell} (h : At K F H a c) (n : F a = none) : ∃ o, H a = some o ∧ Is K (upd F a o) (.ref a) c.toD := by
  have e : ∀ {o : HO}, Ex F (upd F a o) := fun {o} => Ex.new n
  cases c with
  | lst ds =>
    obtain ⟨vs, h1, h2⟩ := h
    exact ⟨_, h1, .lst upd_same (h2.up e)⟩
  | ins c ns ds =>
    obtain ⟨dx, fs, h1, h0, h2, h3⟩ := h
    exact ⟨_, h1, .ins upd_same h0 h2 (h3.up e)⟩
/-- G: what must stay; F: what is frozen; M: the cells -/
structure Fr (K : Frag) (G F H : Hp) (M : Mem) : Prop where
  gh : Ex G H
  fh : Ex F H
  gf : ∀ a o, G a = some o → F a = none
  gm : ∀ a o, G a = some o → M a = none
  mc : ∀ a c, M a = some c → F a = none ∧ At K F H a c
section
variable {K : Frag} {G F H : Hp} {M : Mem}
theorem Fr.mh (f : Fr K G F H M) {p : Addr} (n : H p = none) : M p = none := by
  cases e : M p with
  | none => rfl
  | some c =>
    obtain ⟨o, ho⟩ := (f.mc p c e).2.there
    rw [n] at ho; cases ho
/-- a new object, frozen at once -/
theorem Fr.laid (f : Fr K G F H M) {p : Addr} {o : HO} (n : H p = none) : Fr K G (upd F p o) (upd H p o) M where
  gh := fun a u e => by rw [upd_ne (ne_of_none (f.gh a u e) n)]; exact f.gh a u e
  fh := fun a u e => by
    by_cases ha : a = p
    · subst ha; rw [upd_same] at e ⊢; exact e
    · rw [upd_ne ha] at e ⊢; exact f.fh a u e
  gf := fun a u e => by rw [upd_ne (ne_of_none (f.gh a u e) n)]; exact f.gf a u e
  gm := f.gm
  mc := fun a c e => by
    have np : a ≠ p := fun q => by subst q; rw [f.mh n] at e; cases e
    obtain ⟨h1, h2⟩ := f.mc a c e
    exact ⟨by rw [upd_ne np]; exact h1, h2.mono (Ex.new (Evl.fresh_back f.fh n)) fun u q => by rw [upd_ne np]; exact q⟩
theorem Fr.exl (f : Fr K G F H M) {p : Addr} {o : HO} (n : H p = none) : Ex F (upd F p o) := Ex.new (Evl.fresh_back f.fh n)
/-- a new object that nobody knows -/
theorem Fr.more (f : Fr K G F H M) {p : Addr} {o : HO} (n : H p = none) : Fr K G F (upd H p o) M where
  gh := fun a u e => by rw [upd_ne (ne_of_none (f.gh a u e) n)]; exact f.gh a u e
  fh := fun a u e => by rw [upd_ne (ne_of_none (f.fh a u e) n)]; exact f.fh a u e
  gf := f.gf
  gm := f.gm
  mc := fun a c e => by
    have np : a ≠ p := fun q => by subst q; rw [f.mh n] at e; cases e
    obtain ⟨h1, h2⟩ := f.mc a c e
    exact ⟨h1, h2.mono (Ex.refl F) fun u q => by rw [upd_ne np]; exact q⟩
/-- a cell is new, or changed -/
theorem Fr.cell (f : Fr K G F H M) {p : Addr} {o : HO} {c : Cell} (fp : F p = none) (gp : G p = none) (h : At K F (upd H p o) p c) : Fr K G F (upd H p o) (mu M p c) where
  gh := fun a u e => by rw [upd_ne (ne_of_none e gp)]; exact f.gh a u e
  fh := fun a u e => by rw [upd_ne (ne_of_none e fp)]; exact f.fh a u e
  gf := f.gf
  gm := fun a u e => by rw [mu_ne (ne_of_none e gp)]; exact f.gm a u e
  mc := fun a d e => by
    by_cases ea : a = p
    · subst ea
      rw [mu_same] at e; cases e
      exact ⟨fp, h⟩
    · rw [mu_ne ea] at e
      obtain ⟨h1, h2⟩ := f.mc a d e
      exact ⟨h1, h2.mono (Ex.refl F) fun u q => by rw [upd_ne ea]; exact q⟩
theorem Fr.own (f : Fr K G F H M) {p : Addr} {o : HO} {c : Cell} (n : H p = none) (h : At K F (upd H p o) p c) : Fr K G F (upd H p o) (mu M p c) := f.cell (Evl.fresh_back f.fh n) (Evl.fresh_back f.gh n) h
theorem Fr.gn (f : Fr K G F H M) {a : Addr} {c : Cell} (e : M a = some c) : G a = none := by
  cases q : G a with
  | none => rfl
  | some o => rw [f.gm a o q] at e; cases e
theorem Fr.chg (f : Fr K G F H M) {p : Addr} {o : HO} {c c0 : Cell} (e : M p = some c0) (h : At K F (upd H p o) p c) : Fr K G F (upd H p o) (mu M p c) := f.cell (f.mc p c0 e).1 (f.gn e) h
/-- a cell is forgotten -/
theorem Fr.drop (f : Fr K G F H M) (a : Addr) : Fr K G F H (er M a) where
  gh := f.gh
  fh := f.fh
  gf := f.gf
  gm := fun b u e => by
    by_cases q : b = a
    · subst q; exact er_same
    · rw [er_ne q]; exact f.gm b u e
  mc := fun b d e => by
    by_cases q : b = a
    · subst q; rw [er_same] at e; cases e
    · rw [er_ne q] at e; exact f.mc b d e
/-- a cell is frozen -/
theorem Fr.frz (f : Fr K G F H M) {a : Addr} {c : Cell} (e : M a = some c) : ∃ F', Ex F F' ∧ Fr K G F' H (er M a) ∧ Is K F' (.ref a) c.toD := by
  obtain ⟨fa, at_⟩ := f.mc a c e
  obtain ⟨o, ho, is⟩ := at_.toIs fa
  have ex : Ex F (upd F a o) := Ex.new fa
  refine ⟨upd F a o, ex, ⟨f.gh, fun b u q => ?_, fun b u q => ?_, (f.drop a).gm, fun b d q => ?_⟩, is⟩
  · by_cases eb : b = a
    · subst eb; rw [upd_same] at q; cases q; exact ho
    · rw [upd_ne eb] at q; exact f.fh b u q
  · rw [upd_ne (ne_of_none q (f.gn e))]; exact f.gf b u q
  · by_cases eb : b = a
    · subst eb; rw [er_same] at q; cases q
    · rw [er_ne eb] at q
      obtain ⟨h1, h2⟩ := f.mc b d q
      exact ⟨by rw [upd_ne eb]; exact h1, h2.mono ex fun _ z => z⟩
end
abbrev St' := List (Option D)
def Sto (K : Frag) (F : Hp) (σ : L2.St) (ρ : St') : Prop := σ.length = ρ.length ∧ ∀ (i : Nat) (x : D), ρ[i]? = some (some x) → ∃ v, σ[i]? = some (some v) ∧ Is K F v x
section
variable {K : Frag} {F F' : Hp} {σ : L2.St} {ρ : St'}
theorem Sto.up (s : Sto K F σ ρ) (e : Ex F F') : Sto K F' σ ρ := ⟨s.1, fun i x h => let ⟨v, h1, h2⟩ := s.2 i x h; ⟨v, h1, h2.up e⟩⟩
theorem setE {α : Type} {l : List α} {x y : α} {i j : Nat} (h : (l.set i x)[j]? = some y) : (j = i ∧ x = y) ∨ (j ≠ i ∧ l[j]? = some y) := by
  by_cases e : i = j
  · subst e
    by_cases hl : i < l.length
    · rw [List.getElem?_set_self hl] at h; simp at h; exact .inl ⟨rfl, h⟩
    · rw [List.getElem?_eq_none (by simpa using hl)] at h; cases h
  · rw [List.getElem?_set_ne e] at h; exact .inr ⟨fun q => e q.symm, h⟩
theorem Sto.set (s : Sto K F σ ρ) {v : V} {x : D} (h : Is K F v x) (i : Nat) : Sto K F (σ.set i (some v)) (ρ.set i (some x)) := by
  refine ⟨by rw [List.length_set, List.length_set, s.1], fun j y e => ?_⟩
  by_cases hl : i < ρ.length
  · rcases setE e with ⟨a1, a2⟩ | ⟨a1, a2⟩
    · subst a1; cases a2
      exact ⟨v, List.getElem?_set_self (by rw [s.1]; exact hl), h⟩
    · rw [List.getElem?_set_ne (Ne.symm a1)]
      exact s.2 j y a2
  · rw [List.set_eq_of_length_le (by omega)] at e
    obtain ⟨u, h1, h2⟩ := s.2 j y e
    have : j < ρ.length := (List.getElem?_eq_some_iff.mp e).1
    exact ⟨u, by rw [List.getElem?_set_ne (by omega)]; exact h1, h2⟩
theorem Sto.forget (s : Sto K F σ ρ) (o : Option V) (i : Nat) : Sto K F (σ.set i o) (ρ.set i none) := by
  refine ⟨by rw [List.length_set, List.length_set, s.1], fun j y e => ?_⟩
  rcases setE e with ⟨a1, a2⟩ | ⟨a1, a2⟩
  · cases a2
  · rw [List.getElem?_set_ne (Ne.symm a1)]
    exact s.2 j y a2
theorem Sto.kill (s : Sto K F σ ρ) (i : Nat) : Sto K F σ (ρ.set i none) := by
  refine ⟨by rw [List.length_set, s.1], fun j y e => ?_⟩
  rcases setE e with ⟨a1, a2⟩ | ⟨a1, a2⟩
  · cases a2
  · exact s.2 j y a2
def wipe' (ρ : St') : List Nat → St'
  | [] => ρ
  | v :: vs => (wipe' ρ vs).set v none
theorem Sto.wipe (s : Sto K F σ ρ) : ∀ l : List Nat, Sto K F (L2.wipe σ l) (wipe' ρ l)
  | [] => s
  | v :: l => (Sto.wipe s l).forget none v
theorem Sto.kills (s : Sto K F σ ρ) : ∀ l : List Nat, Sto K F σ (wipe' ρ l)
  | [] => s
  | v :: l => (Sto.kills s l).kill v
end
/-! ### what stops a transformer: named, each with its ways in -/
/-- a size that the model allows -/
@[irreducible] def Sz (n : Nat) (P : Prop) : Prop := n ≤ sizeLine ∧ P
theorem Sz.get {n : Nat} {P : Prop} (h : Sz n P) : n ≤ sizeLine ∧ P := by unfold Sz at h; exact h
theorem sz {n : Nat} {P : Prop} (hn : n ≤ 16777216) (h : P) : Sz n P := by unfold Sz; exact ⟨by rw [sizeLine_eq]; exact hn, h⟩
@[irreducible] def cellL (a : Addr) (M : Mem) (k : List D → Prop) : Prop := ∃ xs, M a = some (.lst xs) ∧ k xs
theorem cellL.get {a : Addr} {M : Mem} {k : List D → Prop} (h : cellL a M k) : ∃ xs, M a = some (.lst xs) ∧ k xs := by unfold cellL at h; exact h
theorem cell_of {a : Addr} {M : Mem} {k : List D → Prop} {xs : List D} (e : M a = some (.lst xs)) (h : k xs) : cellL a M k := by unfold cellL; exact ⟨xs, e, h⟩
theorem cell_mu {a : Addr} {M : Mem} {k : List D → Prop} {xs : List D} (h : k xs) : cellL a (mu M a (.lst xs)) k := cell_of mu_same h
/-- a cell is forgotten, is written -/
@[irreducible] def ern (a : Addr) (M : Mem) (k : Mem → Prop) : Prop := k (er M a)
theorem ern.get {a : Addr} {M : Mem} {k : Mem → Prop} (h : ern a M k) : k (er M a) := by unfold ern at h; exact h
theorem ern_of {a : Addr} {M : Mem} {k : Mem → Prop} (h : k (er M a)) : ern a M k := by unfold ern; exact h
theorem ern_mu {a : Addr} {M : Mem} {c : Cell} {k : Mem → Prop} (e : M a = none) (h : k M) : ern a (mu M a c) k := ern_of (by rw [er_mu e]; exact h)
@[irreducible] def mun (a : Addr) (c : Cell) (M : Mem) (k : Mem → Prop) : Prop := k (mu M a c)
theorem mun.get {a : Addr} {c : Cell} {M : Mem} {k : Mem → Prop} (h : mun a c M k) : k (mu M a c) := by unfold mun at h; exact h
theorem mun_of {a : Addr} {c : Cell} {M : Mem} {k : Mem → Prop} (h : k (mu M a c)) : mun a c M k := by unfold mun; exact h
theorem mun_mu {a : Addr} {c c' : Cell} {M : Mem} {k : Mem → Prop} (h : k (mu M a c)) : mun a c (mu M a c') k := mun_of (by rw [mu_mu]; exact h)
@[irreducible] def cellI (a : Addr) (M : Mem) (k : Str → List Str → List D → Prop) : Prop := ∃ c ns xs, M a = some (.ins c ns xs) ∧ k c ns xs
theorem cellI.get {a : Addr} {M : Mem} {k : Str → List Str → List D → Prop} (h : cellI a M k) : ∃ c ns xs, M a = some (.ins c ns xs) ∧ k c ns xs := by unfold cellI at h; exact h
theorem cellI_of {a : Addr} {M : Mem} {k : Str → List Str → List D → Prop} {c : Str} {ns : List Str} {xs : List D} (e : M a = some (.ins c ns xs)) (h : k c ns xs) : cellI a M k := by unfold cellI; exact ⟨c, ns, xs, e, h⟩
theorem cellI_mu {a : Addr} {M : Mem} {k : Str → List Str → List D → Prop} {c : Str} {ns : List Str} {xs : List D} (h : k c ns xs) : cellI a (mu M a (.ins c ns xs)) k := cellI_of mu_same h
/-! ### what is wanted of exceptions -/
structure Xn where
  c : Str
  ns : List Str
  xs : List D
abbrev XP := Xn → Mem → Prop
/-- how the wish for exceptions is linked with that of the heap's side -/
structure XL where
  ok : Hp → Hp → XP → Prop
  mono : ∀ {G F F' E}, ok G F E → Ex F F' → ok G F' E
  no : ∀ {G F}, ok G F fun _ _ => False
def XL.never : XL := ⟨fun _ _ _ => True, fun h _ => h, trivial⟩
def noX : XP := fun _ _ => False
/-! ### what readings come to -/
abbrev W := St' → Mem → (D → Mem → Prop) → XP → Prop
abbrev WT := St' → Mem → (Bool → Mem → Prop) → XP → Prop
abbrev WA := St' → Mem → (List D → Mem → Prop) → XP → Prop
abbrev WO := St' → Mem → (Option Int → Mem → Prop) → XP → Prop
abbrev WG := D → St' → Mem → (St' → Mem → Prop) → XP → Prop
abbrev WGs := List D → St' → Mem → (St' → Mem → Prop) → XP → Prop
structure Ps where
  nx : St' → Mem → Prop
  rt : D → Mem → Prop
  bk : St' → Mem → Prop := fun _ _ => False
  ct : St' → Mem → Prop := fun _ _ => False
abbrev WS := St' → Mem → Ps → XP → Prop
section
variable (K : Frag) (L : XL)
def Po (G F : Hp) (k : D → Mem → Prop) (Q : VK) : Prop := ∀ F' H' v x M', k x M' → Ex F F' → Fr K G F' H' M' → Is K F' v x → Q v H'
def Sd (te : TE) (we : W) : Prop := ∀ G F H σ ρ M k E (Q : VK), Fr K G F H M → Sto K F σ ρ → L.ok G F E → we ρ M k E → Po K G F k Q → te σ H Q
def SdT (tt : TT) (wt : WT) : Prop := ∀ G F H σ ρ M k E (Q : Bool → Hp → Prop), Fr K G F H M → Sto K F σ ρ → L.ok G F E → wt ρ M k E → (∀ F' H' b M', k b M' → Ex F F' → Fr K G F' H' M' → Q b H') → tt σ H Q
def SdA (ta : TA) (wa : WA) : Prop := ∀ G F H σ ρ M k E (Q : List V → Hp → Prop), Fr K G F H M → Sto K F σ ρ → L.ok G F E → wa ρ M k E → (∀ F' H' vs xs M', k xs M' → Ex F F' → Fr K G F' H' M' → IsAll K F' vs xs → Q vs H') → ta σ H Q
def SdO (to : TO) (wo : WO) : Prop := ∀ G F H σ ρ M k E (Q : Option Int → Hp → Prop), Fr K G F H M → Sto K F σ ρ → L.ok G F E → wo ρ M k E → (∀ F' H' o M', k o M' → Ex F F' → Fr K G F' H' M' → Q o H') → to σ H Q
def PoG (G F : Hp) (k : St' → Mem → Prop) (Q : L2.St → Hp → Prop) : Prop := ∀ F' H' σ' ρ' M', k ρ' M' → Ex F F' → Fr K G F' H' M' → Sto K F' σ' ρ' → Q σ' H'
def SdG (tg : TG) (wg : WG) : Prop := ∀ G F H σ ρ M v x k E (Q : L2.St → Hp → Prop), Fr K G F H M → Sto K F σ ρ → L.ok G F E → Is K F v x → wg x ρ M k E → PoG K G F k Q → tg v σ H Q
def SdGs (tg : TGs) (wg : WGs) : Prop := ∀ G F H σ ρ M vs xs k E (Q : L2.St → Hp → Prop), Fr K G F H M → Sto K F σ ρ → L.ok G F E → IsAll K F vs xs → wg xs ρ M k E → PoG K G F k Q → tg vs σ H Q
def SdS (ts : TS) (ws : WS) : Prop := ∀ G F H σ ρ M P E (D : Ends), Fr K G F H M → Sto K F σ ρ → L.ok G F E → ws ρ M P E → PoG K G F P.nx D.nx → Po K G F P.rt D.rt → PoG K G F P.bk D.bk → PoG K G F P.ct D.ct → ts D σ H
end
section
variable {K : Frag} {L : XL} {G F F' : Hp}
theorem Po.up {k : D → Mem → Prop} {Q : VK} (h : Po K G F k Q) (e : Ex F F') : Po K G F' k Q := fun F2 H' v x M' a b c d => h F2 H' v x M' a (e.trans b) c d
theorem PoG.up {k : St' → Mem → Prop} {Q : L2.St → Hp → Prop} (h : PoG K G F k Q) (e : Ex F F') : PoG K G F' k Q := fun F2 H' v x M' a b c d => h F2 H' v x M' a (e.trans b) c d
/-! ### names, constants -/
def wVar (i : Nat) : W := fun ρ M k _ => match ρ[i]? with
  | some (some x) => k x M
  | _ => False
theorem sd_var {i : Nat} : Sd K L (tVar i) (wVar i) := fun G F H σ ρ M k E Q f s l h q => by
  unfold wVar at h
  split at h
  · rename_i x e
    obtain ⟨v, h1, h2⟩ := s.2 i x e
    exact ⟨v, h1, q F H v x M h (Ex.refl F) f h2⟩
  · cases h
def wC (x : D) : W := fun _ M k _ => k x M
theorem sd_c {v : V} {x : D} (h : ∀ F, Is K F v x) : Sd K L (tC v) (wC x) := fun G F H σ ρ M k E Q f s l hk q => q F H v x M hk (Ex.refl F) f (h F)
theorem sd_int {i : Int} : Sd K L (tC (.int i)) (wC (.int i)) := sd_c fun _ => .int i
theorem sd_str {i : Str} : Sd K L (tC (.str i)) (wC (.str i)) := sd_c fun _ => .str i
theorem sd_bl {i : Bool} : Sd K L (tC (.bl i)) (wC (.bl i)) := sd_c fun _ => .bl i
theorem sd_non : Sd K L (tC .non) (wC .non) := sd_c fun _ => .non
theorem sd_ty {n : String} : Sd K L (tC (.ty n)) (wC (.ty n)) := sd_c fun _ => .ty n
theorem sd_cls {c : Str} : Sd K L (tC (.ref (He.ga K c))) (wC (.cls c)) := sd_c fun _ => .cls c
/-! ### operators by values -/
abbrev D1 := D → Mem → (D → Mem → Prop) → Prop
abbrev D2 := D → D → Mem → (D → Mem → Prop) → Prop
abbrev DA := List D → Mem → (D → Mem → Prop) → Prop
section
variable (K)
def Sd1 (r : V → Hp → VK → Prop) (d : D1) : Prop := ∀ G F H M x v k Q, Fr K G F H M → Is K F v x → d x M k → Po K G F k Q → r v H Q
def Sd2 (r : R2) (d : D2) : Prop := ∀ G F H M x y v u k Q, Fr K G F H M → Is K F v x → Is K F u y → d x y M k → Po K G F k Q → r v u H Q
def SdB (r : List V → Hp → VK → Prop) (d : DA) : Prop := ∀ G F H M xs vs k Q, Fr K G F H M → IsAll K F vs xs → d xs M k → Po K G F k Q → r vs H Q
end
def wOp (d : D2) (wa wb : W) : W := fun ρ M k E => wa ρ M (fun x M1 => wb ρ M1 (fun y M2 => d x y M2 k) E) E
theorem sd_op {r : R2} {d : D2} {ta tb : TE} {wa wb : W} (hr : Sd2 K r d) (ha : Sd K L ta wa) (hb : Sd K L tb wb) : Sd K L (tOp r ta tb) (wOp d wa wb) := fun G F H σ ρ M k E Q f s l h q =>
  ha G F H σ ρ M _ E _ f s l h fun F1 H1 v x M1 h1 e1 f1 i1 => hb G F1 H1 σ ρ M1 _ E _ f1 (s.up e1) (L.mono l e1) h1 fun F2 H2 u y M2 h2 e2 f2 i2 =>
  hr G F2 H2 M2 x y v u k Q f2 (i1.up e2) i2 h2 (q.up (e1.trans e2))
def wUn (d : D1) (wa : W) : W := fun ρ M k E => wa ρ M (fun x M1 => d x M1 k) E
theorem sd_un {r : V → Hp → VK → Prop} {d : D1} {ta : TE} {wa : W} (hr : Sd1 K r d) (ha : Sd K L ta wa) : Sd K L (tUn r ta) (wUn d wa) := fun G F H σ ρ M k E Q f s l h q =>
  ha G F H σ ρ M _ E _ f s l h fun F1 H1 v x M1 h1 e1 f1 i1 => hr G F1 H1 M1 x v k Q f1 i1 h1 (q.up e1)
def waNil : WA := fun _ M k _ => k [] M
def waCons (we : W) (wr : WA) : WA := fun ρ M k E => we ρ M (fun x M1 => wr ρ M1 (fun xs M2 => k (x :: xs) M2) E) E
theorem sda_nil : SdA K L tNil waNil := fun G F H σ ρ M k E Q f s l h q => q F H [] [] M h (Ex.refl F) f .nil
theorem sda_cons {te : TE} {tr : TA} {we : W} {wr : WA} (ha : Sd K L te we) (hb : SdA K L tr wr) : SdA K L (tCons te tr) (waCons we wr) := fun G F H σ ρ M k E Q f s l h q =>
  ha G F H σ ρ M _ E _ f s l h fun F1 H1 v x M1 h1 e1 f1 i1 => hb G F1 H1 σ ρ M1 _ E _ f1 (s.up e1) (L.mono l e1) h1 fun F2 H2 vs xs M2 h2 e2 f2 i2 =>
  q F2 H2 (v :: vs) (x :: xs) M2 h2 (e1.trans e2) f2 (.cons (i1.up e2) i2)
def wCB (d : DA) (wa : WA) : W := fun ρ M k E => wa ρ M (fun xs M1 => d xs M1 k) E
theorem sd_cb {r : List V → Hp → VK → Prop} {d : DA} {ta : TA} {wa : WA} (hr : SdB K r d) (ha : SdA K L ta wa) : Sd K L (tCB r ta) (wCB d wa) := fun G F H σ ρ M k E Q f s l h q =>
  ha G F H σ ρ M _ E _ f s l h fun F1 H1 vs xs M1 h1 e1 f1 i1 => hr G F1 H1 M1 xs vs k Q f1 i1 h1 (q.up e1)
/-- a new list: frozen, or a cell -/
def mkL (m : Bool) (xs : List D) (M : Mem) (k : D → Mem → Prop) : Prop := match m with
  | false => k (.lst xs) M
  | true => ∀ p, M p = none → k (.ref p) (mu M p (.lst xs))
theorem mkL_ok {m : Bool} {H : Hp} {M : Mem} {vs : List V} {xs : List D} {k : D → Mem → Prop} {Q : VK} (f : Fr K G F H M) (i : IsAll K F vs xs) (h : mkL m xs M k) (q : Po K G F k Q) {p : Addr} (n : H p = none) : Q (.ref p) (upd H p (.lst vs)) := by
  cases m with
  | false => exact q _ _ (.ref p) _ M h (f.exl n) (f.laid n) (.lst upd_same (i.up (f.exl n)))
  | true => exact q F _ (.ref p) _ _ (h p (f.mh n)) (Ex.refl F) (f.own n ⟨vs, upd_same, i⟩) (.ref p)
def wTup (wa : WA) : W := fun ρ M k E => wa ρ M (fun xs M1 => Sz xs.length (k (.tup xs) M1)) E
theorem sd_tup {ta : TA} {wa : WA} (ha : SdA K L ta wa) : Sd K L (tTup ta) (wTup wa) := fun G F H σ ρ M k E Q f s l h q =>
  ha G F H σ ρ M _ E _ f s l h fun F1 H1 vs xs M1 h1 e1 f1 i1 => ⟨by rw [i1.len]; exact h1.get.1, fun p n => q _ _ (.ref p) _ M1 h1.get.2 (e1.trans (f1.exl n)) (f1.laid n) (.tup (SqT.of upd_same) (i1.up (f1.exl n)))⟩
def wLst (m : Bool) (wa : WA) : W := fun ρ M k E => wa ρ M (fun xs M1 => Sz xs.length (mkL m xs M1 k)) E
theorem sd_lst {m : Bool} {ta : TA} {wa : WA} (ha : SdA K L ta wa) : Sd K L (tLst ta) (wLst m wa) := fun G F H σ ρ M k E Q f s l h q =>
  ha G F H σ ρ M _ E _ f s l h fun F1 H1 vs xs M1 h1 e1 f1 i1 => ⟨by rw [i1.len]; exact h1.get.1, fun p n => mkL_ok f1 i1 h1.get.2 (q.up e1) n⟩
/-! ### tests -/
structure Br (t : Bool) (A B : Prop) : Prop where
  yes : t = true → A
  no : t = false → B
theorem Br.ite {b : Bool} {A B A' B' : Prop} (h : Br b A B) (h1 : A → A') (h2 : B → B') : if b = true then A' else B' := by
  cases b with
  | true => rw [if_pos rfl]; exact h1 (h.yes rfl)
  | false => rw [if_neg Bool.false_ne_true]; exact h2 (h.no rfl)
/-- a truth value -/
def isB (k : Bool → Mem → Prop) : D → Mem → Prop
  | .bl b, M => k b M
  | _, _ => False
theorem isB_ok {k : Bool → Mem → Prop} {x : D} {M : Mem} {v : V} (h : isB k x M) (i : Is K F v x) : ∃ b, v = .bl b ∧ x = .bl b ∧ k b M := by
  cases i <;> first | exact ⟨_, rfl, rfl, h⟩ | cases h
def wTest (we : W) : WT := fun ρ M k E => we ρ M (isB k) E
theorem sdt_test {te : TE} {we : W} (ha : Sd K L te we) : SdT K L (tTest te) (wTest we) := fun G F H σ ρ M k E Q f s l h q =>
  ha G F H σ ρ M _ E _ f s l h fun F1 H1 v x M1 h1 e1 f1 i1 => by
    obtain ⟨b, rfl, rfl, hb⟩ := isB_ok h1 i1
    exact ⟨b, rfl, q F1 H1 b M1 hb e1 f1⟩
theorem sdt_B {te : TE} {we : W} (ha : Sd K L te we) : SdT K L (tB te) (wTest we) := fun G F H σ ρ M k E Q f s l h q =>
  ha G F H σ ρ M _ E _ f s l h fun F1 H1 v x M1 h1 e1 f1 i1 => by
    obtain ⟨b, rfl, rfl, hb⟩ := isB_ok h1 i1
    exact ⟨b, rfl, q F1 H1 b M1 hb e1 f1⟩
def wAnd (t u : WT) : WT := fun ρ M k E => t ρ M (fun b M1 => Br b (u ρ M1 k E) (k false M1)) E
def wOr (t u : WT) : WT := fun ρ M k E => t ρ M (fun b M1 => Br b (k true M1) (u ρ M1 k E)) E
def wNot (t : WT) : WT := fun ρ M k E => t ρ M (fun b M1 => k (!b) M1) E
theorem sdt_and {t u : TT} {wt wu : WT} (ht : SdT K L t wt) (hu : SdT K L u wu) : SdT K L (tAnd t u) (wAnd wt wu) := fun G F H σ ρ M k E Q f s l h q =>
  ht G F H σ ρ M _ E _ f s l h fun F1 H1 b M1 h1 e1 f1 => h1.ite (fun h2 => hu G F1 H1 σ ρ M1 k E Q f1 (s.up e1) (L.mono l e1) h2 fun F2 H2 b2 M2 h3 e2 f2 => q F2 H2 b2 M2 h3 (e1.trans e2) f2) fun h2 => q F1 H1 _ M1 h2 e1 f1
theorem sdt_or {t u : TT} {wt wu : WT} (ht : SdT K L t wt) (hu : SdT K L u wu) : SdT K L (tOr t u) (wOr wt wu) := fun G F H σ ρ M k E Q f s l h q =>
  ht G F H σ ρ M _ E _ f s l h fun F1 H1 b M1 h1 e1 f1 => h1.ite (fun h2 => q F1 H1 _ M1 h2 e1 f1) (fun h2 => hu G F1 H1 σ ρ M1 k E Q f1 (s.up e1) (L.mono l e1) h2 fun F2 H2 b2 M2 h3 e2 f2 => q F2 H2 b2 M2 h3 (e1.trans e2) f2)
theorem sdt_not {t : TT} {wt : WT} (ht : SdT K L t wt) : SdT K L (tNot t) (wNot wt) := fun G F H σ ρ M k E Q f s l h q =>
  ht G F H σ ρ M _ E _ f s l h fun F1 H1 b M1 h1 e1 f1 => q F1 H1 _ M1 h1 e1 f1
def wIf (t : WT) (wa wb : W) : W := fun ρ M k E => t ρ M (fun b M1 => Br b (wa ρ M1 k E) (wb ρ M1 k E)) E
theorem sd_if {t : TT} {wt : WT} {ta tb : TE} {wa wb : W} (ht : SdT K L t wt) (ha : Sd K L ta wa) (hb : Sd K L tb wb) : Sd K L (tIf t ta tb) (wIf wt wa wb) := fun G F H σ ρ M k E Q f s l h q =>
  ht G F H σ ρ M _ E _ f s l h fun F1 H1 b M1 h1 e1 f1 => h1.ite (fun h2 => ha G F1 H1 σ ρ M1 k E Q f1 (s.up e1) (L.mono l e1) h2 (q.up e1)) (fun h2 => hb G F1 H1 σ ρ M1 k E Q f1 (s.up e1) (L.mono l e1) h2 (q.up e1))
/-- truth of any datum; k gets it -/
def trD : D → Mem → (Bool → Prop) → Prop
  | .non, _, k => k false
  | .bl b, _, k => k b
  | .int i, _, k => k (i != 0)
  | .str s, _, k => Sz s.length (k ((s.length : Int) != 0))
  | .lst xs, _, k => k (!xs.isEmpty)
  | .tup xs, _, k => k (!xs.isEmpty)
  | .ref a, M, k => cellL a M fun xs => k (!xs.isEmpty)
  | _, _, _ => False
theorem trD_ok {H : Hp} {M : Mem} {x : D} {v : V} {k : Bool → Prop} (f : Fr K G F H M) (i : Is K F v x) (h : trD x M k) : ∃ b, TruV K v H b ∧ k b := by
  have key : ∀ {vs : List V} {xs : List D}, IsAll K F vs xs → (!xs.isEmpty) = !vs.isEmpty := fun {vs xs} q => by cases q <;> rfl
  cases i with
  | non => exact ⟨_, rfl, h⟩
  | bl b => exact ⟨_, rfl, h⟩
  | int i => exact ⟨_, rfl, h⟩
  | str z => exact ⟨_, ⟨(Sz.get h).1, rfl⟩, (Sz.get h).2⟩
  | ty n => cases h
  | lst h1 h2 => exact ⟨_, .inl ⟨_, .inl (.inl (f.fh _ _ h1)), key h2⟩, h⟩
  | tup h1 h2 => exact ⟨_, .inr (.inl ⟨_, Evl.ex_t f.fh h1, key h2⟩), h⟩
  | ins _ _ _ _ => cases h
  | cls c => cases h
  | ref a =>
    obtain ⟨xs, e, hk⟩ := cellL.get h
    obtain ⟨_, vs, q1, q2⟩ := f.mc a _ e
    exact ⟨_, .inl ⟨vs, .inl (.inl q1), key q2⟩, hk⟩
  | scr h1 => cases h
def wTru (we : W) : WT := fun ρ M k E => we ρ M (fun x M1 => trD x M1 fun b => k b M1) E
theorem sdt_tru {te : TE} {we : W} (ha : Sd K L te we) : SdT K L (tTru K te) (wTru we) := fun G F H σ ρ M k E Q f s l h q =>
  ha G F H σ ρ M _ E _ f s l h fun F1 H1 v x M1 h1 e1 f1 i1 => by
    obtain ⟨b, hb, hk⟩ := trD_ok f1 i1 h1
    exact ⟨b, hb, q F1 H1 b M1 hk e1 f1⟩
def wOrT (wa wb : W) : W := fun ρ M k E => wa ρ M (fun x M1 => trD x M1 fun b => Br b (k x M1) (wb ρ M1 k E)) E
def wAndT (wa wb : W) : W := fun ρ M k E => wa ρ M (fun x M1 => trD x M1 fun b => Br b (wb ρ M1 k E) (k x M1)) E
def wNotT (wa : W) : W := fun ρ M k E => wa ρ M (fun x M1 => trD x M1 fun b => k (.bl (!b)) M1) E
theorem sd_orT {ta tb : TE} {wa wb : W} (ha : Sd K L ta wa) (hb : Sd K L tb wb) : Sd K L (tOrT K ta tb) (wOrT wa wb) := fun G F H σ ρ M k E Q f s l h q =>
  ha G F H σ ρ M _ E _ f s l h fun F1 H1 v x M1 h1 e1 f1 i1 => by
    obtain ⟨b, ht, hk⟩ := trD_ok f1 i1 h1
    exact ⟨b, ht, hk.ite (fun h2 => q F1 H1 v x M1 h2 e1 f1 i1) fun h2 => hb G F1 H1 σ ρ M1 k E Q f1 (s.up e1) (L.mono l e1) h2 (q.up e1)⟩
theorem sd_andT {ta tb : TE} {wa wb : W} (ha : Sd K L ta wa) (hb : Sd K L tb wb) : Sd K L (tAndT K ta tb) (wAndT wa wb) := fun G F H σ ρ M k E Q f s l h q =>
  ha G F H σ ρ M _ E _ f s l h fun F1 H1 v x M1 h1 e1 f1 i1 => by
    obtain ⟨b, ht, hk⟩ := trD_ok f1 i1 h1
    exact ⟨b, ht, hk.ite (fun h2 => hb G F1 H1 σ ρ M1 k E Q f1 (s.up e1) (L.mono l e1) h2 (q.up e1)) fun h2 => q F1 H1 v x M1 h2 e1 f1 i1⟩
theorem sd_notT {ta : TE} {wa : W} (ha : Sd K L ta wa) : Sd K L (tNotT K ta) (wNotT wa) := fun G F H σ ρ M k E Q f s l h q =>
  ha G F H σ ρ M _ E _ f s l h fun F1 H1 v x M1 h1 e1 f1 i1 => by
    obtain ⟨b, ht, hk⟩ := trD_ok f1 i1 h1
    exact ⟨b, ht, q F1 H1 _ _ M1 hk e1 f1 (.bl _)⟩
def wChain (d d' : D2) (wa wb wc : W) : W := fun ρ M k E => wa ρ M (fun x M1 => wb ρ M1 (fun y M2 => d x y M2 (isB fun b M3 => Br b (wc ρ M3 (fun z M4 => d' y z M4 k) E) (k (.bl false) M3))) E) E
theorem sd_chain {r r' : R2} {d d' : D2} {ta tb tc : TE} {wa wb wc : W} (hr : Sd2 K r d) (hr' : Sd2 K r' d') (ha : Sd K L ta wa) (hb : Sd K L tb wb) (hc : Sd K L tc wc) : Sd K L (tChain r r' ta tb tc) (wChain d d' wa wb wc) := fun G F H σ ρ M k E Q f s l h q =>
  ha G F H σ ρ M _ E _ f s l h fun F1 H1 v x M1 h1 e1 f1 i1 => hb G F1 H1 σ ρ M1 _ E _ f1 (s.up e1) (L.mono l e1) h1 fun F2 H2 u y M2 h2 e2 f2 i2 =>
  hr G F2 H2 M2 x y v u _ _ f2 (i1.up e2) i2 h2 fun F3 H3 w z M3 h3 e3 f3 i3 => by
    obtain ⟨b, rfl, rfl, hb'⟩ := isB_ok h3 i3
    have e13 := (e1.trans e2).trans e3
    exact ⟨b, rfl, hb'.ite (fun h4 => hc G F3 H3 σ ρ M3 _ E _ f3 (s.up e13) (L.mono l e13) h4 fun F4 H4 w4 z4 M4 h5 e4 f4 i4 => hr' G F4 H4 M4 y z4 u w4 k Q f4 (i2.up (e3.trans e4)) i4 h5 (q.up (e13.trans e4)))
      fun h4 => q F3 H3 _ _ M3 h4 e13 f3 (.bl _)⟩
/-! ### statements -/
def wNext : WS := fun ρ M P _ => P.nx ρ M
def wBrk : WS := fun ρ M P _ => P.bk ρ M
def wCont : WS := fun ρ M P _ => P.ct ρ M
def wSeq (s t : WS) : WS := fun ρ M P E => s ρ M { P with nx := fun ρ' M' => t ρ' M' P E } E
def wDrop (we : W) : WS := fun ρ M P E => we ρ M (fun _ M1 => P.nx ρ M1) E
def wRet (we : W) : WS := fun ρ M P E => we ρ M P.rt E
def wRetN : WS := fun ρ M P E => P.rt .non M
def wIfS (t : WT) (a b : WS) : WS := fun ρ M P E => t ρ M (fun c M1 => Br c (a ρ M1 P E) (b ρ M1 P E)) E
def wAsg (we : W) (g : WG) : WS := fun ρ M P E => we ρ M (fun x M1 => g x ρ M1 P.nx E) E
def wNever : WS := fun _ _ _ _ => False
theorem sds_next : SdS K L tNext wNext := fun G F H σ ρ M P E D f s l h a b c d => a F H σ ρ M h (Ex.refl F) f s
theorem sds_brk : SdS K L tBreak wBrk := fun G F H σ ρ M P E D f s l h a b c d => c F H σ ρ M h (Ex.refl F) f s
theorem sds_cont : SdS K L tCont wCont := fun G F H σ ρ M P E D f s l h a b c d => d F H σ ρ M h (Ex.refl F) f s
theorem sds_never : SdS K L tNever wNever := fun G F H σ ρ M P E D f s l h a b c d => h.elim
theorem sds_seq {t u : TS} {wt wu : WS} (ht : SdS K L t wt) (hu : SdS K L u wu) : SdS K L (tSeq t u) (wSeq wt wu) := fun G F H σ ρ M P E D f s l h a b c d =>
  ht G F H σ ρ M _ E _ f s l h (fun F1 H1 σ1 ρ1 M1 h1 e1 f1 s1 => hu G F1 H1 σ1 ρ1 M1 P E D f1 s1 (L.mono l e1) h1 (a.up e1) (b.up e1) (c.up e1) (d.up e1)) b c d
theorem sds_drop {te : TE} {we : W} (ha : Sd K L te we) : SdS K L (tDrop te) (wDrop we) := fun G F H σ ρ M P E D f s l h a b c d =>
  ha G F H σ ρ M _ E _ f s l h fun F1 H1 v x M1 h1 e1 f1 i1 => a F1 H1 σ ρ M1 h1 e1 f1 (s.up e1)
theorem sds_ret {te : TE} {we : W} (ha : Sd K L te we) : SdS K L (tRet te) (wRet we) := fun G F H σ ρ M P E D f s l h a b c d => ha G F H σ ρ M _ E _ f s l h b
theorem sds_retN : SdS K L tRetN wRetN := fun G F H σ ρ M P E D f s l h a b c d => b F H .non .non M h (Ex.refl F) f .non
theorem sds_if {t : TT} {u v : TS} {wt : WT} {wu wv : WS} (ht : SdT K L t wt) (hu : SdS K L u wu) (hv : SdS K L v wv) : SdS K L (tIfS t u v) (wIfS wt wu wv) := fun G F H σ ρ M P E D f s l h a b c d =>
  ht G F H σ ρ M _ E _ f s l h fun F1 H1 bb M1 h1 e1 f1 => h1.ite (fun h2 => hu G F1 H1 σ ρ M1 P E D f1 (s.up e1) (L.mono l e1) h2 (a.up e1) (b.up e1) (c.up e1) (d.up e1)) (fun h2 => hv G F1 H1 σ ρ M1 P E D f1 (s.up e1) (L.mono l e1) h2 (a.up e1) (b.up e1) (c.up e1) (d.up e1))
theorem sds_asg {te : TE} {we : W} {tg : TG} {wg : WG} (ha : Sd K L te we) (hg : SdG K L tg wg) : SdS K L (tAsg te tg) (wAsg we wg) := fun G F H σ ρ M P E D f s l h a b c d =>
  ha G F H σ ρ M _ E _ f s l h fun F1 H1 v x M1 h1 e1 f1 i1 => hg G F1 H1 σ ρ M1 v x _ E _ f1 (s.up e1) (L.mono l e1) i1 h1 (a.up e1)
/-- ghosts: a slot's cell is frozen, forgotten; a datum is frozen -/
@[irreducible] def frzD (x : D) (M : Mem) (k : D → Mem → Prop) : Prop := ∃ a c, x = .ref a ∧ M a = some c ∧ k c.toD (er M a)
theorem frzD.get {x : D} {M : Mem} {k : D → Mem → Prop} (h : frzD x M k) : ∃ a c, x = .ref a ∧ M a = some c ∧ k c.toD (er M a) := by unfold frzD at h; exact h
theorem frz_of {a : Addr} {c : Cell} {M : Mem} {k : D → Mem → Prop} (e : M a = some c) (h : k c.toD (er M a)) : frzD (.ref a) M k := by unfold frzD; exact ⟨a, c, rfl, e, h⟩
theorem frz_mu {a : Addr} {c : Cell} {M : Mem} {k : D → Mem → Prop} (e : M a = none) (h : k c.toD M) : frzD (.ref a) (mu M a c) k := frz_of mu_same (by rw [er_mu e]; exact h)
def wFrz (i : Nat) : WS := fun ρ M P _ => match ρ[i]? with
  | some (some x) => frzD x M fun y M' => P.nx (ρ.set i (some y)) M'
  | _ => False
def wKill (l : List Nat) (w : WS) : WS := fun ρ M P E => w (wipe' ρ l) M P E
theorem sds_frz {t : TS} {w : WS} {i : Nat} (h0 : SdS K L t w) : SdS K L t (wSeq (wFrz i) w) := fun G F H σ ρ M P E D f s l h a b c d => by
  have h : (match ρ[i]? with
    | some (some x) => frzD x M fun y M' => w (ρ.set i (some y)) M' P E
    | _ => False) := h
  split at h
  case h_2 => exact h.elim
  rename_i x h1
  obtain ⟨p, cc, rfl, h2, h3⟩ := h.get
  obtain ⟨v, q1, q2⟩ := s.2 i _ h1
  cases q2
  obtain ⟨F', ex, f', is⟩ := f.frz h2
  have e : σ.set i (some (V.ref p)) = σ := by
    refine List.ext_getElem? fun j => ?_
    by_cases ej : i = j
    · subst ej; rw [List.getElem?_set_self (List.getElem?_eq_some_iff.mp q1).1, q1]
    · rw [List.getElem?_set_ne ej]
  have s' := (s.up ex).set is i
  rw [e] at s'
  exact h0 G F' H σ _ _ P E D f' s' (L.mono l ex) h3 (a.up ex) (b.up ex) (c.up ex) (d.up ex)
theorem sds_kill {t : TS} {w : WS} {l : List Nat} (h0 : SdS K L t w) : SdS K L t (wKill l w) := fun G F H σ ρ M P E D f s x h a b c d => h0 G F H σ _ M P E D f (s.kills l) x h a b c d
/-- e, frozen -/
def wFz (we : W) : W := fun ρ M k E => we ρ M (fun x M1 => frzD x M1 k) E
theorem sd_fz {te : TE} {we : W} (ha : Sd K L te we) : Sd K L te (wFz we) := fun G F H σ ρ M k E Q f s l h q =>
  ha G F H σ ρ M _ E _ f s l h fun F1 H1 v x M1 h1 e1 f1 i1 => by
    obtain ⟨p, cc, rfl, h2, h3⟩ := h1.get
    cases i1
    obtain ⟨F', ex, f', is⟩ := f1.frz h2
    exact q F' H1 _ _ _ h3 (e1.trans ex) f' is
/-- e, some slots' cells forgotten -/
def drops : List Nat → St' → Mem → (Mem → Prop) → Prop
  | [], _, M, k => k M
  | i :: is, ρ, M, k => match ρ[i]? with
    | some (some (.ref a)) => ern a M fun M' => drops is ρ M' k
    | _ => drops is ρ M k
theorem Fr.drops {H : Hp} {ρ : St'} {k : Mem → Prop} : ∀ (l : List Nat) {M : Mem}, Fr K G F H M → Px.drops l ρ M k → ∃ M', Fr K G F H M' ∧ k M'
  | [], M, f, h => ⟨M, f, h⟩
  | i :: is, M, f, h => by
    unfold Px.drops at h
    split at h
    · exact Fr.drops is (f.drop _) h.get
    · exact Fr.drops is f h
def wDp (l : List Nat) (we : W) : W := fun ρ M k E => we ρ M (fun x M1 => drops l ρ M1 fun M2 => k x M2) E
theorem sd_dp {te : TE} {we : W} {l : List Nat} (ha : Sd K L te we) : Sd K L te (wDp l we) := fun G F H σ ρ M k E Q f s x h q =>
  ha G F H σ ρ M _ E _ f s x h fun F1 H1 v y M1 h1 e1 f1 i1 => by
    obtain ⟨M2, f2, hk⟩ := f1.drops l h1
    exact q F1 H1 v y _ hk e1 f2 i1
/-! ### targets -/
def wgName (i : Nat) : WG := fun x ρ M k _ => k (ρ.set i (some x)) M
theorem sdg_name {i : Nat} : SdG K L (gName i) (wgName i) := fun G F H σ ρ M v x k E Q f s l is h q => q F H _ _ M h (Ex.refl F) f (s.set is i)
def wgNil : WGs := fun xs ρ M k _ => match xs with
  | [] => k ρ M
  | _ => False
def wgCons (g : WG) (gs : WGs) : WGs := fun xs ρ M k E => match xs with
  | x :: r => g x ρ M (fun ρ1 M1 => gs r ρ1 M1 k E) E
  | [] => False
theorem sdgs_nil : SdGs K L gNil wgNil := fun G F H σ ρ M vs xs k E Q f s l is h q => by
  cases is with
  | nil => exact ⟨rfl, q F H σ ρ M h (Ex.refl F) f s⟩
  | cons _ _ => cases h
theorem sdgs_cons {g : TG} {gs : TGs} {wg : WG} {wgs : WGs} (h1 : SdG K L g wg) (h2 : SdGs K L gs wgs) : SdGs K L (gCons g gs) (wgCons wg wgs) := fun G F H σ ρ M vs xs k E Q f s l is h q => by
  cases is with
  | nil => cases h
  | cons a b => exact ⟨_, _, rfl, h1 G F H σ ρ M _ _ _ E _ f s l a h fun F1 H1 σ1 ρ1 M1 q1 e1 f1 s1 => h2 G F1 H1 σ1 ρ1 M1 _ _ k E Q f1 s1 (L.mono l e1) (b.up e1) q1 (q.up e1)⟩
/-- a count -/
def Ck : Nat → List D → Prop → Prop
  | 0, [], P => P
  | n + 1, _ :: xs, P => Ck n xs P
  | _, _, _ => False
theorem Ck.get : ∀ {n : Nat} {xs : List D} {P : Prop}, Ck n xs P → xs.length = n ∧ P
  | 0, [], _, h => ⟨rfl, h⟩
  | n + 1, _ :: xs, _, h => by
    obtain ⟨h1, h2⟩ := Ck.get (n := n) (xs := xs) h
    exact ⟨by rw [List.length_cons, h1], h2⟩
  | 0, _ :: _, _, h => by cases h
  | _ + 1, [], _, h => by cases h
def wgTup (n : Nat) (gs : WGs) : WG := fun x ρ M k E => match x with
  | .tup xs => Ck n xs (gs xs ρ M k E)
  | _ => False
theorem sdg_tup {n : Nat} {gs : TGs} {wgs : WGs} (h2 : SdGs K L gs wgs) : SdG K L (gTup K n gs) (wgTup n wgs) := fun G F H σ ρ M v x k E Q f s l is h q => by
  cases is with
  | tup a b => exact ⟨_, _, rfl, Evl.ex_t f.fh a, by rw [b.len]; exact (Ck.get h).1, h2 G F H σ ρ M _ _ k E Q f s l b (Ck.get h).2 q⟩
  | _ => cases h
/-- o[i] = x -/
@[irreducible] def setD (o i x : D) (M : Mem) (k : Mem → Prop) : Prop := ∃ a j xs n, o = .ref a ∧ i = .int j ∧ M a = some (.lst xs) ∧ ixN xs.length j = some n ∧ k (mu M a (.lst (xs.set n x)))
theorem setD.get {o i x : D} {M : Mem} {k : Mem → Prop} (h : setD o i x M k) : ∃ a j xs n, o = .ref a ∧ i = .int j ∧ M a = some (.lst xs) ∧ ixN xs.length j = some n ∧ k (mu M a (.lst (xs.set n x))) := by unfold setD at h; exact h
theorem set_of {a : Addr} {j : Int} {x : D} {M : Mem} {xs : List D} {n : Nat} {k : Mem → Prop} (e : M a = some (.lst xs)) (hn : ixN xs.length j = some n) (h : k (mu M a (.lst (xs.set n x)))) : setD (.ref a) (.int j) x M k := by unfold setD; exact ⟨a, j, xs, n, rfl, rfl, e, hn, h⟩
theorem set_mu {a : Addr} {j : Int} {x : D} {M : Mem} {xs : List D} {n : Nat} {k : Mem → Prop} (hn : ixN xs.length j = some n) (h : k (mu M a (.lst (xs.set n x)))) : setD (.ref a) (.int j) x (mu M a (.lst xs)) k := set_of mu_same hn (by rw [mu_mu]; exact h)
def wgSub (wo wi : W) : WG := fun x ρ M k E => wo ρ M (fun o M1 => wi ρ M1 (fun i M2 => setD o i x M2 fun M3 => k ρ M3) E) E
theorem sdg_sub {to ti : TE} {wo wi : W} (ho : Sd K L to wo) (hi : Sd K L ti wi) : SdG K L (gSub to ti rSetL) (wgSub wo wi) := fun G F H σ ρ M v x k E Q f s l is h q =>
  ho G F H σ ρ M _ E _ f s l h fun F1 H1 v1 x1 M1 h1 e1 f1 i1 => hi G F1 H1 σ ρ M1 _ E _ f1 (s.up e1) (L.mono l e1) h1 fun F2 H2 u y M2 h2 e2 f2 i2 => by
    obtain ⟨a, j, xs, n, rfl, rfl, h3, h4, h5⟩ := h2.get
    cases i1
    cases i2
    obtain ⟨_, vs, q1, q2⟩ := f2.mc a _ h3
    exact ⟨a, vs, j, n, rfl, rfl, q1, by rw [q2.len]; exact h4, q F2 _ σ ρ _ h5 (e1.trans e2) (f2.chg h3 ⟨_, upd_same, q2.set n (is.up (e1.trans e2))⟩) (s.up (e1.trans e2))⟩
def wPar (i j : Nat) (wa : WA) : WS := fun ρ M P E => wa ρ M (fun xs M1 => match xs with
  | [x, y] => P.nx ((ρ.set i (some x)).set j (some y)) M1
  | _ => False) E
def wPar3 (i j m : Nat) (wa : WA) : WS := fun ρ M P E => wa ρ M (fun xs M1 => match xs with
  | [x, y, z] => P.nx (((ρ.set i (some x)).set j (some y)).set m (some z)) M1
  | _ => False) E
theorem sds_par {i j : Nat} {ta : TA} {wa : WA} (ha : SdA K L ta wa) : SdS K L (tPar i j ta) (wPar i j wa) := fun G F H σ ρ M P E D f s l h a b c d =>
  ha G F H σ ρ M _ E _ f s l h fun F1 H1 vs xs M1 h1 e1 f1 i1 => by
    split at h1
    case h_2 => exact h1.elim
    cases i1 with
    | cons i1 r => cases r with
      | cons i2 r => cases r; exact ⟨_, _, rfl, a F1 H1 _ _ M1 h1 e1 f1 (((s.up e1).set i1 i).set i2 j)⟩
theorem sds_par3 {i j m : Nat} {ta : TA} {wa : WA} (ha : SdA K L ta wa) : SdS K L (tPar3 i j m ta) (wPar3 i j m wa) := fun G F H σ ρ M P E D f s l h a b c d =>
  ha G F H σ ρ M _ E _ f s l h fun F1 H1 vs xs M1 h1 e1 f1 i1 => by
    split at h1
    case h_2 => exact h1.elim
    cases i1 with
    | cons i1 r => cases r with
      | cons i2 r => cases r with
        | cons i3 r => cases r; exact ⟨_, _, _, rfl, a F1 H1 _ _ M1 h1 e1 f1 ((((s.up e1).set i1 i).set i2 j).set i3 m)⟩
/-- parts of slices -/
def woNone : WO := fun _ M k _ => k none M
def woSome (we : W) : WO := fun ρ M k E => we ρ M (fun x M1 => match x with
  | .int i => k (some i) M1
  | _ => False) E
theorem sdo_none : SdO K L tNoPart woNone := fun G F H σ ρ M k E Q f s l h q => q F H none M h (Ex.refl F) f
theorem sdo_some {te : TE} {we : W} (ha : Sd K L te we) : SdO K L (tPart te) (woSome we) := fun G F H σ ρ M k E Q f s l h q =>
  ha G F H σ ρ M _ E _ f s l h fun F1 H1 v x M1 h1 e1 f1 i1 => by
    cases i1 <;> first | exact ⟨_, rfl, q F1 H1 _ M1 h1 e1 f1⟩ | cases h1
end
end Px

set_option Elab.async false
set_option linter.all false
set_option maxRecDepth 100000
set_option maxHeartbeats 4000000
/-! Loops, comprehensions, fields, calls. -/
namespace Px
open PySem PySem.Spec PyProof.Rows L2 Rl RZ RT
open Evl (Ex)
section
variable {K : Frag} {L : XL} {G F F' : Hp}
/-! ### what is walked -/
/-- the items; the lists that must not change meanwhile -/
structure Its where
  xs : List D
  gd : List (Addr × List D) := []
def Gd : List (Addr × List D) → Mem → Prop → Prop
  | [], _, P => P
  | (a, ys) :: gs, M, P => M a = some (.lst ys) ∧ Gd gs M P
theorem Gd.get {M : Mem} {P : Prop} : ∀ {gs : List (Addr × List D)}, Gd gs M P → (∀ p ∈ gs, M p.1 = some (.lst p.2)) ∧ P
  | [], h => ⟨(fun p hp => by cases hp), h⟩
  | (a, ys) :: gs, h => by
    obtain ⟨h1, h2⟩ := h
    obtain ⟨h3, h4⟩ := Gd.get h2
    refine ⟨fun p hp => ?_, h4⟩
    rcases List.mem_cons.mp hp with e | e
    · subst e; exact h1
    · exact h3 p e
abbrev WI := St' → Mem → (Its → Mem → Prop) → XP → Prop
def GdM (gs : List (Addr × List D)) (M : Mem) : Prop := ∀ p ∈ gs, M p.1 = some (.lst p.2)
structure ItOk (K : Frag) (G F : Hp) (J : It) (I : Its) : Prop where
  go : ∀ (i : Nat) (G1 F1 H1 : Hp) (M : Mem), i < I.xs.length → Ex F F1 → Fr K G1 F1 H1 M → GdM I.gd M → J.go i H1
  stop : ∀ (i : Nat) (G1 F1 H1 : Hp) (M : Mem), I.xs.length ≤ i → Ex F F1 → Fr K G1 F1 H1 M → GdM I.gd M → J.stop i H1
  yld : ∀ (i : Nat) (G1 F1 H1 : Hp) (M : Mem) (v : V) (H2 : Hp) (x : D), I.xs[i]? = some x → Ex F F1 → Fr K G1 F1 H1 M → GdM I.gd M → J.yld i H1 v H2 → ∃ F2, Ex F1 F2 ∧ Fr K G1 F2 H2 M ∧ Is K F2 v x
section
variable (K) (L)
def SdI (wi : TI) (wj : WI) : Prop := ∀ G F H σ ρ M k E (R : It → Hp → Prop), Fr K G F H M → Sto K F σ ρ → L.ok G F E → wj ρ M k E → (∀ F' H' J I M', k I M' → Ex F F' → Fr K G F' H' M' → ItOk K G F' J I → R J H') → wi σ H R
end
/-- a list or tuple that is read: its items; where it must not change -/
def asL : D → Mem → (List D → List (Addr × List D) → Prop) → Prop
  | .lst xs, _, k => k xs []
  | .ref a, M, k => cellL a M fun xs => k xs [(a, xs)]
  | _, _, _ => False
/-- a list at a, whatever holds it -/
def LAt (K : Frag) (F : Hp) (a : Addr) (xs : List D) (gd : List (Addr × List D)) : Prop := (gd = [] ∧ ∃ vs, F a = some (.lst vs) ∧ IsAll K F vs xs) ∨ gd = [(a, xs)]
theorem LAt.up {a : Addr} {xs : List D} {gd : List (Addr × List D)} (h : LAt K F a xs gd) (e : Ex F F') : LAt K F' a xs gd := by
  rcases h with ⟨h1, vs, h2, h3⟩ | h
  · exact .inl ⟨h1, vs, e _ _ h2, h3.up e⟩
  · exact .inr h
theorem LAt.get {a : Addr} {xs : List D} {gd : List (Addr × List D)} {G1 H1 : Hp} {M : Mem} (h : LAt K F a xs gd) (f : Fr K G1 F H1 M) (g : GdM gd M) : ∃ vs, H1 a = some (.lst vs) ∧ IsAll K F vs xs := by
  rcases h with ⟨h1, vs, h2, h3⟩ | h
  · exact ⟨vs, f.fh _ _ h2, h3⟩
  · subst h
    have := g (a, xs) (by simp)
    exact (f.mc _ _ this).2
theorem asL_ok {x : D} {v : V} {M : Mem} {H : Hp} {k : List D → List (Addr × List D) → Prop} (f : Fr K G F H M) (i : Is K F v x) (h : asL x M k) : ∃ a xs gd, v = .ref a ∧ LAt K F a xs gd ∧ GdM gd M ∧ k xs gd := by
  cases i with
  | lst h1 h2 => exact ⟨_, _, _, rfl, .inl ⟨rfl, _, h1, h2⟩, (fun p hp => by cases hp), h⟩
  | ref a =>
    obtain ⟨xs, e, hk⟩ := cellL.get h
    exact ⟨a, xs, _, rfl, .inr rfl, (fun p hp => by rw [List.mem_singleton.mp hp]; exact e), hk⟩
  | _ => cases h
theorem itok_l {a : Addr} {xs : List D} {gd : List (Addr × List D)} (h : LAt K F a xs gd) : ItOk K G F (Itl K a) ⟨xs, gd⟩ where
  go := fun i G1 F1 H1 M hi e f g => by
    obtain ⟨vs, h1, h2⟩ := (h.up e).get f g
    exact ⟨vs, vs[i]'(by rw [h2.len]; exact hi), Evl.sq_of h1, List.getElem?_eq_getElem _⟩
  stop := fun i G1 F1 H1 M hi e f g => by
    obtain ⟨vs, h1, h2⟩ := (h.up e).get f g
    exact ⟨vs, Evl.sq_of h1, by rw [h2.len]; exact hi⟩
  yld := fun i G1 F1 H1 M v H2 x hx e f g ⟨eh, q⟩ => by
    subst eh
    obtain ⟨vs, h1, h2⟩ := (h.up e).get f g
    have z := q vs (Evl.sq_of h1)
    obtain ⟨u, hu, is⟩ := h2.get hx
    rw [z] at hu; cases hu
    exact ⟨F1, Ex.refl F1, f, is⟩
theorem itok_t {a : Addr} {vs : List V} {xs : List D} (h : SqT K F a vs) (i1 : IsAll K F vs xs) : ItOk K G F (Itt K a) ⟨xs, []⟩ where
  go := fun i G1 F1 H1 M hi e f g => ⟨vs, vs[i]'(by rw [i1.len]; exact hi), Evl.ex_t (e.trans f.fh) h, List.getElem?_eq_getElem _⟩
  stop := fun i G1 F1 H1 M hi e f g => ⟨vs, Evl.ex_t (e.trans f.fh) h, by rw [i1.len]; exact hi⟩
  yld := fun i G1 F1 H1 M v H2 x hx e f g ⟨eh, q⟩ => by
    subst eh
    have z := q vs (Evl.ex_t (e.trans f.fh) h)
    obtain ⟨u, hu, is⟩ := i1.get hx
    rw [z] at hu; cases hu
    exact ⟨F1, Ex.refl F1, f, is.up e⟩
/-- lo, lo + 1, .. (n of them); by steps of c -/
@[irreducible] def irng (lo : Int) (n : Nat) : List Int := (List.range n).map fun i : Nat => lo + i
@[irreducible] def irngC (lo c : Int) (n : Nat) : List Int := (List.range n).map fun i : Nat => lo + i * c
abbrev rngD (lo : Int) (n : Nat) : List D := Li (irng lo n)
theorem itok_r {lo : Int} {n : Nat} : ItOk K G F (Itr lo n) ⟨rngD lo n, []⟩ where
  go := fun i G1 F1 H1 M hi e f g => by
    have h : i < n := by simpa [irng] using hi
    exact h
  stop := fun i G1 F1 H1 M hi e f g => by
    have h : n ≤ i := by simpa [irng] using hi
    exact h
  yld := fun i G1 F1 H1 M v H2 x hx e f g ⟨eh, q⟩ => by
    subst eh q
    refine ⟨F1, Ex.refl F1, f, ?_⟩
    have hx : (Li (irng lo n))[i]? = some x := hx
    rw [List.getElem?_map] at hx
    obtain ⟨j, hj, ex⟩ := Option.map_eq_some_iff.mp hx
    unfold irng at hj
    rw [List.getElem?_map] at hj
    obtain ⟨p, hp, e⟩ := Option.map_eq_some_iff.mp hj
    obtain ⟨h1, h2⟩ := List.getElem?_eq_some_iff.mp hp
    rw [List.getElem_range] at h2
    subst h2 e ex
    exact .int _
abbrev rngC (lo c : Int) (n : Nat) : List D := Li (irngC lo c n)
theorem itok_c {lo c : Int} {n : Nat} : ItOk K G F (Itc lo c n) ⟨rngC lo c n, []⟩ where
  go := fun i G1 F1 H1 M hi e f g => by
    have h : i < n := by simpa [irngC] using hi
    exact h
  stop := fun i G1 F1 H1 M hi e f g => by
    have h : n ≤ i := by simpa [irngC] using hi
    exact h
  yld := fun i G1 F1 H1 M v H2 x hx e f g ⟨eh, q⟩ => by
    subst eh q
    refine ⟨F1, Ex.refl F1, f, ?_⟩
    have hx : (Li (irngC lo c n))[i]? = some x := hx
    rw [List.getElem?_map] at hx
    obtain ⟨j, hj, ex⟩ := Option.map_eq_some_iff.mp hx
    unfold irngC at hj
    rw [List.getElem?_map] at hj
    obtain ⟨p, hp, e⟩ := Option.map_eq_some_iff.mp hj
    obtain ⟨h1, h2⟩ := List.getElem?_eq_some_iff.mp hp
    rw [List.getElem_range] at h2
    subst h2 e ex
    exact .int _
def wiAny (we : W) : WI := fun ρ M k E => we ρ M (fun x M1 => match x with
  | .tup xs => k ⟨xs, []⟩ M1
  | x => asL x M1 fun xs gd => k ⟨xs, gd⟩ M1) E
theorem sdi_any {te : TE} {we : W} (ha : Sd K L te we) : SdI K L (iSeq K te) (wiAny we) := fun G F H σ ρ M k E R f s l h q =>
  ha G F H σ ρ M _ E _ f s l h fun F1 H1 v x M1 h1 e1 f1 i1 => by
    have key : asL x M1 (fun xs gd => k ⟨xs, gd⟩ M1) → ∃ a, v = V.ref a ∧ (((∃ xs, SqL K H1 a xs) ∧ R (Itl K a) H1) ∨ ((∃ xs, SqT K H1 a xs) ∧ R (Itt K a) H1)) := fun h2 => by
      obtain ⟨a, xs, gd, rfl, la, g, hk⟩ := asL_ok f1 i1 h2
      obtain ⟨vs, q1, q2⟩ := la.get f1 g
      exact ⟨a, rfl, .inl ⟨⟨vs, Evl.sq_of q1⟩, q F1 H1 _ _ M1 hk e1 f1 (itok_l la)⟩⟩
    cases x with
    | tup xs =>
      cases i1 with
      | tup a b => exact ⟨_, rfl, .inr ⟨⟨_, Evl.ex_t f1.fh a⟩, q F1 H1 _ _ M1 h1 e1 f1 (itok_t a b)⟩⟩
    | _ => exact key h1
@[irreducible] def Rg (j : Int) (P : Prop) : Prop := (-(2 ^ 62) ≤ j ∧ j < 2 ^ 62) ∧ P
theorem Rg.get {j : Int} {P : Prop} (h : Rg j P) : (-(2 ^ 62) ≤ j ∧ j < 2 ^ 62) ∧ P := by unfold Rg at h; exact h
theorem rg {j : Int} {P : Prop} (h1 : -(2 ^ 62) ≤ j ∧ j < 2 ^ 62) (h : P) : Rg j P := by unfold Rg; exact ⟨h1, h⟩
@[irreducible] def Rg3 (i j c : Int) (k : Nat → Prop) : Prop := ∃ n, RgC i j c n ∧ k n
theorem Rg3.get {i j c : Int} {k : Nat → Prop} (h : Rg3 i j c k) : ∃ n, RgC i j c n ∧ k n := by unfold Rg3 at h; exact h
theorem rg3 {i j c : Int} {n : Nat} {k : Nat → Prop} (h1 : RgC i j c n) (h : k n) : Rg3 i j c k := by unfold Rg3; exact ⟨n, h1, h⟩
def wiR1 (wa : WA) : WI := fun ρ M k E => wa ρ M (fun xs M1 => match xs with
  | [.int j] => Rg j (k ⟨rngD 0 j.toNat, []⟩ M1)
  | _ => False) E
def wiR2 (wa : WA) : WI := fun ρ M k E => wa ρ M (fun xs M1 => match xs with
  | [.int i, .int j] => Rg i (Rg j (k ⟨rngD i (j - i).toNat, []⟩ M1))
  | _ => False) E
def wiR3 (wa : WA) : WI := fun ρ M k E => wa ρ M (fun xs M1 => match xs with
  | [.int i, .int j, .int c] => Rg3 i j c fun n => k ⟨rngC i c n, []⟩ M1
  | _ => False) E
theorem sdi_r1 {ta : TA} {wa : WA} (ha : SdA K L ta wa) : SdI K L (iRng1 ta) (wiR1 wa) := fun G F H σ ρ M k E R f s l h q =>
  ha G F H σ ρ M _ E _ f s l h fun F1 H1 vs xs M1 h1 e1 f1 i1 => by
    split at h1
    · cases i1 with
      | cons a b =>
        cases a; cases b
        exact ⟨_, rfl, h1.get.1.1, h1.get.1.2, q F1 H1 _ _ M1 h1.get.2 e1 f1 itok_r⟩
    · exact h1.elim
theorem sdi_r2 {ta : TA} {wa : WA} (ha : SdA K L ta wa) : SdI K L (iRng2 ta) (wiR2 wa) := fun G F H σ ρ M k E R f s l h q =>
  ha G F H σ ρ M _ E _ f s l h fun F1 H1 vs xs M1 h1 e1 f1 i1 => by
    split at h1
    · cases i1 with
      | cons a b =>
        cases b with
        | cons b c =>
          cases a; cases b; cases c
          exact ⟨_, _, rfl, ⟨h1.get.1.1, h1.get.1.2, h1.get.2.get.1⟩, q F1 H1 _ _ M1 h1.get.2.get.2 e1 f1 itok_r⟩
    · exact h1.elim
theorem sdi_r3 {ta : TA} {wa : WA} (ha : SdA K L ta wa) : SdI K L (iRng3 ta) (wiR3 wa) := fun G F H σ ρ M k E R f s l h q =>
  ha G F H σ ρ M _ E _ f s l h fun F1 H1 vs xs M1 h1 e1 f1 i1 => by
    split at h1
    · cases i1 with
      | cons a b =>
        cases b with
        | cons b c =>
          cases c with
          | cons c d =>
            cases a; cases b; cases c; cases d
            obtain ⟨n, h2, h3⟩ := h1.get
            exact ⟨_, _, _, n, rfl, h2, q F1 H1 _ _ M1 h3 e1 f1 itok_c⟩
    · exact h1.elim
def zipD : List D → List D → List D
  | x :: xs, y :: ys => .tup [x, y] :: zipD xs ys
  | _, _ => []
theorem zipD_get : ∀ {xs ys : List D} {i : Nat} {z : D}, (zipD xs ys)[i]? = some z → ∃ x y, xs[i]? = some x ∧ ys[i]? = some y ∧ z = .tup [x, y]
  | [], _, _, _, h => by simp [zipD] at h
  | _ :: _, [], _, _, h => by simp [zipD] at h
  | x :: xs, y :: ys, 0, z, h => by simp [zipD] at h; exact ⟨x, y, rfl, rfl, h.symm⟩
  | x :: xs, y :: ys, i + 1, z, h => by simpa using zipD_get (xs := xs) (ys := ys) (i := i) (by simpa [zipD] using h)
theorem zipD_len : ∀ (xs ys : List D), (zipD xs ys).length = min xs.length ys.length
  | [], _ => by simp [zipD]
  | _ :: _, [] => by simp [zipD]
  | x :: xs, y :: ys => by simp [zipD, zipD_len xs ys]
theorem itok_z {a b : Addr} {xs ys : List D} {g1 g2 : List (Addr × List D)} (h : LAt K F a xs g1) (g : LAt K F b ys g2) : ItOk K G F (Itz K a b) ⟨zipD xs ys, g1 ++ g2⟩ where
  go := fun i G1 F1 H1 M hi e f gd => by
    have hi : i < (zipD xs ys).length := hi
    rw [zipD_len] at hi
    obtain ⟨vs, p1, p2⟩ := (h.up e).get f (fun p hp => gd p (List.mem_append_left _ hp))
    obtain ⟨ws, q1, q2⟩ := (g.up e).get f (fun p hp => gd p (List.mem_append_right _ hp))
    exact ⟨vs, ws, vs[i]'(by rw [p2.len]; omega), ws[i]'(by rw [q2.len]; omega), Evl.sq_of p1, Evl.sq_of q1, List.getElem?_eq_getElem _, List.getElem?_eq_getElem _⟩
  stop := fun i G1 F1 H1 M hi e f gd => by
    have hi : (zipD xs ys).length ≤ i := hi
    rw [zipD_len] at hi
    obtain ⟨vs, p1, p2⟩ := (h.up e).get f (fun p hp => gd p (List.mem_append_left _ hp))
    obtain ⟨ws, q1, q2⟩ := (g.up e).get f (fun p hp => gd p (List.mem_append_right _ hp))
    exact ⟨vs, ws, Evl.sq_of p1, Evl.sq_of q1, by rw [p2.len, q2.len]; omega⟩
  yld := fun i G1 F1 H1 M v H2 x hx e f gd ⟨T, x1, y1, r1, r2, r3, r4, r5⟩ => by
    subst r1 r3
    obtain ⟨vs, p1, p2⟩ := (h.up e).get f (fun p hp => gd p (List.mem_append_left _ hp))
    obtain ⟨ws, q1, q2⟩ := (g.up e).get f (fun p hp => gd p (List.mem_append_right _ hp))
    obtain ⟨dx, dy, hx1, hy1, rfl⟩ := zipD_get hx
    obtain ⟨u1, hu1, is1⟩ := p2.get hx1
    obtain ⟨u2, hu2, is2⟩ := q2.get hy1
    rw [r4 vs (Evl.sq_of p1)] at hu1; cases hu1
    rw [r5 ws (Evl.sq_of q1)] at hu2; cases hu2
    exact ⟨_, f.exl r2, f.laid r2, .tup (SqT.of upd_same) (.cons (is1.up (f.exl r2)) (.cons (is2.up (f.exl r2)) .nil))⟩
theorem itok_zT {a b : Addr} {vs ws : List V} {xs ys : List D} (h : SqT K F a vs) (i1 : IsAll K F vs xs) (g : SqT K F b ws) (i2 : IsAll K F ws ys) : ItOk K G F (ItzT K a b) ⟨zipD xs ys, []⟩ where
  go := fun i G1 F1 H1 M hi e f gd => by
    have hi : i < (zipD xs ys).length := hi
    rw [zipD_len] at hi
    exact ⟨vs, ws, vs[i]'(by rw [i1.len]; omega), ws[i]'(by rw [i2.len]; omega), Evl.ex_t (e.trans f.fh) h, Evl.ex_t (e.trans f.fh) g, List.getElem?_eq_getElem _, List.getElem?_eq_getElem _⟩
  stop := fun i G1 F1 H1 M hi e f gd => ⟨vs, ws, Evl.ex_t (e.trans f.fh) h, Evl.ex_t (e.trans f.fh) g, by
    have hi : (zipD xs ys).length ≤ i := hi
    rw [zipD_len] at hi; rw [i1.len, i2.len]; omega⟩
  yld := fun i G1 F1 H1 M v H2 x hx e f gd ⟨T, x1, y1, r1, r2, r3, r4, r5⟩ => by
    subst r1 r3
    obtain ⟨dx, dy, hx1, hy1, rfl⟩ := zipD_get hx
    obtain ⟨u1, hu1, is1⟩ := i1.get hx1
    obtain ⟨u2, hu2, is2⟩ := i2.get hy1
    rw [r4 vs (Evl.ex_t (e.trans f.fh) h)] at hu1; cases hu1
    rw [r5 ws (Evl.ex_t (e.trans f.fh) g)] at hu2; cases hu2
    exact ⟨_, f.exl r2, f.laid r2, .tup (SqT.of upd_same) (.cons (is1.up (e.trans (f.exl r2))) (.cons (is2.up (e.trans (f.exl r2))) .nil))⟩
def wiZip (wa : WA) : WI := fun ρ M k E => wa ρ M (fun xs M1 => match xs with
  | [.tup xs, .tup ys] => k ⟨zipD xs ys, []⟩ M1
  | [x, y] => asL x M1 fun xs g1 => asL y M1 fun ys g2 => k ⟨zipD xs ys, g1 ++ g2⟩ M1
  | _ => False) E
theorem sdi_zip {ta : TA} {wa : WA} (ha : SdA K L ta wa) : SdI K L (iZipA K ta) (wiZip wa) := fun G F H σ ρ M k E R f s l h q =>
  ha G F H σ ρ M _ E _ f s l h fun F1 H1 vs xs M1 h1 e1 f1 i1 => by
    split at h1
    · cases i1 with
      | cons a b =>
        cases b with
        | cons b c =>
          cases c
          cases a with
          | tup a1 a2 =>
            cases b with
            | tup b1 b2 => exact ⟨_, _, _, _, rfl, .inr ⟨Evl.ex_t f1.fh a1, Evl.ex_t f1.fh b1, q F1 H1 _ _ M1 h1 e1 f1 (itok_zT a1 a2 b1 b2)⟩⟩
    · cases i1 with
      | cons a b =>
        cases b with
        | cons b c =>
          cases c
          obtain ⟨a', xs, g1, rfl, la, gd1, h2⟩ := asL_ok f1 a h1
          obtain ⟨b', ys, g2, rfl, lb, gd2, h3⟩ := asL_ok f1 b h2
          obtain ⟨vs, p1, p2⟩ := la.get f1 gd1
          obtain ⟨ws, q1, q2⟩ := lb.get f1 gd2
          exact ⟨_, _, _, _, rfl, .inl ⟨Evl.sq_of p1, Evl.sq_of q1, q F1 H1 _ _ M1 h3 e1 f1 (itok_z la lb)⟩⟩
    · exact h1.elim
def enumD (n : Nat) : List D → List D
  | [] => []
  | x :: xs => .tup [.int n, x] :: enumD (n + 1) xs
theorem enumD_get : ∀ {xs : List D} {n i : Nat} {z : D}, (enumD n xs)[i]? = some z → ∃ x, xs[i]? = some x ∧ z = .tup [.int ((n + i : Nat) : Int), x]
  | [], _, _, _, h => by simp [enumD] at h
  | x :: xs, n, 0, z, h => by simp [enumD] at h; exact ⟨x, rfl, h.symm⟩
  | x :: xs, n, i + 1, z, h => by
    obtain ⟨y, e1, e2⟩ := enumD_get (xs := xs) (n := n + 1) (i := i) (by simpa [enumD] using h)
    exact ⟨y, by simpa using e1, by rw [e2, show n + 1 + i = n + (i + 1) by omega]⟩
theorem enumD_len : ∀ (xs : List D) (n : Nat), (enumD n xs).length = xs.length
  | [], _ => rfl
  | x :: xs, n => by simp [enumD, enumD_len xs]
theorem itok_e {a : Addr} {xs : List D} {gd : List (Addr × List D)} (h : LAt K F a xs gd) : ItOk K G F (Ite K a) ⟨enumD 0 xs, gd⟩ where
  go := fun i G1 F1 H1 M hi e f g => by
    have hi : i < (enumD 0 xs).length := hi
    rw [enumD_len] at hi
    obtain ⟨vs, h1, h2⟩ := (h.up e).get f g
    exact ⟨vs, vs[i]'(by rw [h2.len]; omega), Evl.sq_of h1, List.getElem?_eq_getElem _⟩
  stop := fun i G1 F1 H1 M hi e f g => by
    have hi : (enumD 0 xs).length ≤ i := hi
    rw [enumD_len] at hi
    obtain ⟨vs, h1, h2⟩ := (h.up e).get f g
    exact ⟨vs, Evl.sq_of h1, by rw [h2.len]; omega⟩
  yld := fun i G1 F1 H1 M v H2 x hx e f g ⟨T, x1, r1, r2, r3, r4⟩ => by
    subst r1 r3
    obtain ⟨vs, h1, h2⟩ := (h.up e).get f g
    obtain ⟨dx, hx1, rfl⟩ := enumD_get hx
    obtain ⟨u1, hu1, is1⟩ := h2.get hx1
    rw [r4 vs (Evl.sq_of h1)] at hu1; cases hu1
    rw [Nat.zero_add]
    exact ⟨_, f.exl r2, f.laid r2, .tup (SqT.of upd_same) (.cons (.int _) (.cons (is1.up (f.exl r2)) .nil))⟩
def wiEnum (wa : WA) : WI := fun ρ M k E => wa ρ M (fun xs M1 => match xs with
  | [x] => asL x M1 fun xs gd => k ⟨enumD 0 xs, gd⟩ M1
  | _ => False) E
theorem sdi_enum {ta : TA} {wa : WA} (ha : SdA K L ta wa) : SdI K L (iEnum K ta) (wiEnum wa) := fun G F H σ ρ M k E R f s l h q =>
  ha G F H σ ρ M _ E _ f s l h fun F1 H1 vs xs M1 h1 e1 f1 i1 => by
    split at h1
    · cases i1 with
      | cons a b =>
        cases b
        obtain ⟨a', xs, g1, rfl, la, gd1, h2⟩ := asL_ok f1 a h1
        obtain ⟨vs, p1, p2⟩ := la.get f1 gd1
        exact ⟨_, _, rfl, Evl.sq_of p1, q F1 H1 _ _ M1 h2 e1 f1 (itok_e la)⟩
    · exact h1.elim
/-! ### loops -/
def loopS (gd : List (Addr × List D)) (tg : WG) (body : WS) (ks : List Nat) (P : Ps) (E : XP) : List D → St' → Mem → Prop
  | [], ρ, M => Gd gd M (P.nx ρ M)
  | x :: xs, ρ, M => Gd gd M (tg x ρ M (fun ρ2 M2 => body ρ2 M2 { nx := fun ρ3 M3 => loopS gd tg body ks P E xs (wipe' ρ3 ks) M3, rt := P.rt, bk := fun ρ3 M3 => P.nx (wipe' ρ3 ks) M3, ct := fun ρ3 M3 => loopS gd tg body ks P E xs (wipe' ρ3 ks) M3 } E) E)
def wFor (wi : WI) (tg : WG) (body : WS) (ks : List Nat) : WS := fun ρ M P E => wi ρ M (fun J M1 => loopS J.gd tg body ks P E J.xs (wipe' ρ ks) M1) E
theorem sds_for {wi : TI} {wj : WI} {g : TG} {wg : WG} {tb : TS} {wb : WS} {ks : List Nat} (hi : SdI K L wi wj) (hg : SdG K L g wg) (hb : SdS K L tb wb) : SdS K L (tFor wi g tb) (wFor wj wg wb ks) := fun G F H σ ρ M P E D f s l h a b c d =>
  hi G F H σ ρ M _ E _ f s l h fun F0 H0 J I M0 h0 e0 f0 it => by
    refine ⟨fun i m σ H => m = I.xs.length - i ∧ i ≤ I.xs.length ∧ ∃ F ρ M, Ex F0 F ∧ Fr K G F H M ∧ Sto K F σ ρ ∧ loopS I.gd wg wb ks P E (I.xs.drop i) ρ M, ⟨_, rfl, Nat.zero_le _, F0, _, M0, Ex.refl F0, f0, (s.up e0).kills ks, h0⟩, fun i m σ1 H1 hW => ?_⟩
    obtain ⟨rfl, hi, F1, ρ1, M1, e1, f1, s1, hl⟩ := hW
    by_cases e : i = I.xs.length
    · subst e
      rw [List.drop_length] at hl
      obtain ⟨g1, h1⟩ := Gd.get (show Gd I.gd M1 (P.nx ρ1 M1) from hl)
      exact .inl ⟨it.stop _ G F1 H1 M1 (Nat.le_refl _) e1 f1 g1, a F1 H1 σ1 ρ1 M1 h1 (e0.trans e1) f1 s1⟩
    · have hlt : i < I.xs.length := by omega
      rw [List.drop_eq_getElem_cons hlt] at hl
      obtain ⟨g1, h1⟩ := Gd.get (show Gd I.gd M1 (wg (I.xs[i]'hlt) ρ1 M1 _ E) from hl)
      refine .inr ⟨it.go i G F1 H1 M1 hlt e1 f1 g1, fun σ H => ∃ F ρ M, Ex F0 F ∧ Fr K G F H M ∧ Sto K F σ ρ ∧ loopS I.gd wg wb ks P E (I.xs.drop (i + 1)) ρ M, fun σ' H' hN => ⟨_, by omega, rfl, hlt, hN⟩, fun v H2 hy => ?_⟩
      obtain ⟨F2, e2, f2, is⟩ := it.yld i G F1 H1 M1 v H2 (I.xs[i]'hlt) (List.getElem?_eq_getElem hlt) e1 f1 g1 hy
      have e02 := e0.trans (e1.trans e2)
      refine hg G F2 H2 σ1 ρ1 M1 v _ _ E _ f2 (s1.up e2) (L.mono l e02) is h1 fun F3 H3 σ3 ρ3 M3 h3 e3 f3 s3 => ?_
      have e03 := e02.trans e3
      exact hb G F3 H3 σ3 ρ3 M3 _ E _ f3 s3 (L.mono l e03) h3 (fun F' H' σ' ρ' M' q u f' s' => ⟨F', _, M', (e1.trans e2).trans (e3.trans u), f', s'.kills ks, q⟩) (b.up e03) (fun F' H' σ' ρ' M' q u f' s' => a F' H' σ' _ M' q (e03.trans u) f' (s'.kills ks))
        (fun F' H' σ' ρ' M' q u f' s' => ⟨F', _, M', (e1.trans e2).trans (e3.trans u), f', s'.kills ks, q⟩)
def whileN (c : WT) (body : WS) (ks : List Nat) (P : Ps) (E : XP) : Nat → St' → Mem → Prop
  | 0, _, _ => False
  | n + 1, ρ, M => c ρ M (fun b M1 => Br b (body ρ M1 { nx := fun ρ3 M3 => whileN c body ks P E n (wipe' ρ3 ks) M3, rt := P.rt, bk := fun ρ3 M3 => P.nx (wipe' ρ3 ks) M3, ct := fun ρ3 M3 => whileN c body ks P E n (wipe' ρ3 ks) M3 } E) (P.nx ρ M1)) E
def wWhile (c : WT) (body : WS) (ks : List Nat) : WS := fun ρ M P E => ∃ n, whileN c body ks P E n (wipe' ρ ks) M
theorem sds_while {tc : TT} {wc : WT} {tb : TS} {wb : WS} {ks : List Nat} (hc : SdT K L tc wc) (hb : SdS K L tb wb) : SdS K L (tWhile tc tb) (wWhile wc wb ks) := fun G F H σ ρ M P E D f s l h a b c d => by
  obtain ⟨n, h⟩ := h
  refine ⟨fun m σ H => ∃ F1 ρ M, Ex F F1 ∧ Fr K G F1 H M ∧ Sto K F1 σ ρ ∧ whileN wc wb ks P E m ρ M, ⟨n, F, _, M, Ex.refl F, f, s.kills ks, h⟩, fun m σ1 H1 hW => ?_⟩
  obtain ⟨F1, ρ1, M1, e1, f1, s1, hl⟩ := hW
  cases m with
  | zero => exact hl.elim
  | succ m =>
    refine hc G F1 H1 σ1 ρ1 M1 _ E _ f1 s1 (L.mono l e1) hl fun F2 H2 bb M2 h2 e2 f2 => ?_
    have e02 := e1.trans e2
    exact h2.ite (fun h3 => ⟨fun σ H => ∃ F1 ρ M, Ex F F1 ∧ Fr K G F1 H M ∧ Sto K F1 σ ρ ∧ whileN wc wb ks P E m ρ M, fun σ' H' hN => ⟨m, Nat.lt_succ_self m, hN⟩,
        hb G F2 H2 σ1 ρ1 M2 _ E _ f2 (s1.up e2) (L.mono l e02) h3 (fun F' H' σ' ρ' M' q u f' s' => ⟨F', _, M', e02.trans u, f', s'.kills ks, q⟩) (b.up e02) (fun F' H' σ' ρ' M' q u f' s' => a F' H' σ' _ M' q (e02.trans u) f' (s'.kills ks))
          (fun F' H' σ' ρ' M' q u f' s' => ⟨F', _, M', e02.trans u, f', s'.kills ks, q⟩)⟩)
      fun h3 => a F2 H2 σ1 ρ1 M2 h3 e02 f2 (s1.up e2)
end
end Px

set_option Elab.async false
set_option linter.all false
set_option maxRecDepth 100000
set_option maxHeartbeats 4000000
/-! Comprehensions, fields, calls, promises from bodies. -/
namespace Px
open PySem PySem.Spec PyProof.Rows L2 Rl RZ RT
open Evl (Ex)
/-! ### targets that set own slots alone -/
def GIn (g : TG) (vs : List Nat) : Prop := ∀ x σ H Q, g x σ H Q → g x σ H fun σ2 H2 => L2.wipe σ2 vs = L2.wipe σ vs ∧ Q σ2 H2
def GIns (g : TGs) (vs : List Nat) : Prop := ∀ xs σ H Q, g xs σ H Q → g xs σ H fun σ2 H2 => L2.wipe σ2 vs = L2.wipe σ vs ∧ Q σ2 H2
theorem wipe_set {x : Option V} {i : Nat} (σ : L2.St) : ∀ (vs : List Nat), i ∈ vs → L2.wipe (σ.set i x) vs = L2.wipe σ vs
  | [], h => by cases h
  | v :: vs, h => by
    show (L2.wipe (σ.set i x) vs).set v none = (L2.wipe σ vs).set v none
    by_cases hm : i ∈ vs
    · rw [wipe_set σ vs hm]
    · have e : i = v := by
        rcases List.mem_cons.mp h with h | h
        · exact h
        · exact absurd h hm
      subst e
      have key : ∀ (ws : List Nat), i ∉ ws → L2.wipe (σ.set i x) ws = (L2.wipe σ ws).set i x := fun ws => by
        induction ws with
        | nil => intro _; rfl
        | cons w ws ih =>
          intro hn
          show (L2.wipe (σ.set i x) ws).set w none = ((L2.wipe σ ws).set w none).set i x
          rw [ih (fun q => hn (List.mem_cons_of_mem _ q)), List.set_comm]
          intro e; subst e; exact hn (by simp)
      rw [key vs hm, List.set_set]
theorem gin_name {i : Nat} {vs : List Nat} (h : vs.contains i = true) : GIn (gName i) vs := fun x σ H Q q => ⟨wipe_set σ vs (List.contains_iff_mem.mp h), q⟩
theorem gin_nil {vs : List Nat} : GIns gNil vs := fun xs σ H Q ⟨e, q⟩ => ⟨e, rfl, q⟩
class GMono (g : TG) : Prop where
  mono : ∀ x σ H (Q Q' : L2.St → Hp → Prop), (∀ σ H, Q σ H → Q' σ H) → g x σ H Q → g x σ H Q'
class GsMono (g : TGs) : Prop where
  mono : ∀ x σ H (Q Q' : L2.St → Hp → Prop), (∀ σ H, Q σ H → Q' σ H) → g x σ H Q → g x σ H Q'
instance {i : Nat} : GMono (gName i) := ⟨fun x σ H Q Q' h q => h _ _ q⟩
instance : GsMono gNil := ⟨fun x σ H Q Q' h ⟨e, q⟩ => ⟨e, h _ _ q⟩⟩
instance {g : TG} {gs : TGs} [a : GMono g] [b : GsMono gs] : GsMono (gCons g gs) := ⟨fun x σ H Q Q' h ⟨v, r, e, q⟩ => ⟨v, r, e, a.mono _ _ _ _ _ (fun σ H q => b.mono _ _ _ _ _ h q) q⟩⟩
instance {K : Frag} {n : Nat} {gs : TGs} [b : GsMono gs] : GMono (gTup K n gs) := ⟨fun x σ H Q Q' h ⟨a, xs, e1, e2, e3, q⟩ => ⟨a, xs, e1, e2, e3, b.mono _ _ _ _ _ h q⟩⟩
theorem gin_cons {g : TG} {gs : TGs} {vs : List Nat} [GMono g] [GsMono gs] (h : GIn g vs) (hs : GIns gs vs) : GIns (gCons g gs) vs := fun xs σ H Q ⟨v, r, e, q⟩ => ⟨v, r, e, GMono.mono _ _ _ _ _ (fun σ1 H1 ⟨e1, q1⟩ => GsMono.mono _ _ _ _ _ (fun σ2 H2 ⟨e2, q2⟩ => ⟨by rw [e2, e1], q2⟩) (hs _ _ _ _ q1)) (h _ _ _ _ q)⟩
theorem gin_tup {K : Frag} {n : Nat} {gs : TGs} {vs : List Nat} (h : GIns gs vs) : GIn (gTup K n gs) vs := fun x σ H Q ⟨a, xs, e1, e2, e3, q⟩ => ⟨a, xs, e1, e2, e3, h _ _ _ _ q⟩
theorem wipe_wipe (σ : L2.St) : ∀ (vs : List Nat), L2.wipe (L2.wipe σ vs) vs = L2.wipe σ vs := fun vs => by
  have key : ∀ (ws us : List Nat), (∀ u ∈ us, u ∈ ws) → L2.wipe (L2.wipe σ us) ws = L2.wipe σ ws := fun ws us => by
    induction us with
    | nil => intro _; rfl
    | cons u us ih =>
      intro h
      show L2.wipe ((L2.wipe σ us).set u none) ws = _
      rw [wipe_set _ ws (h u (by simp)), ih fun v hv => h v (List.mem_cons_of_mem _ hv)]
  exact key vs vs fun _ h => h
section
variable {K : Frag} {L : XL} {G F F' H : Hp} {M : Mem}
/-- an object that must stay -/
theorem Fr.guard (f : Fr K G F H M) {A : Addr} {o : HO} (h : H A = some o) (n : F A = none) (m : M A = none) : Fr K (upd G A o) F H M where
  gh := fun a u e => by
    by_cases ea : a = A
    · subst ea; rw [upd_same] at e; cases e; exact h
    · rw [upd_ne ea] at e; exact f.gh a u e
  fh := f.fh
  gf := fun a u e => by
    by_cases ea : a = A
    · subst ea; exact n
    · rw [upd_ne ea] at e; exact f.gf a u e
  gm := fun a u e => by
    by_cases ea : a = A
    · subst ea; exact m
    · rw [upd_ne ea] at e; exact f.gm a u e
  mc := f.mc
theorem Fr.unguard {A : Addr} {o : HO} (f : Fr K (upd G A o) F H M) (g : G A = none) : Fr K G F H M :=
  have k : ∀ {a u}, G a = some u → upd G A o a = some u := fun {a u} e => by rw [upd_ne (ne_of_none e g)]; exact e
  ⟨fun a u e => f.gh a u (k e), f.fh, fun a u e => f.gf a u (k e), fun a u e => f.gm a u (k e), f.mc⟩
/-- an object that nobody knows is changed -/
theorem Fr.other (f : Fr K G F H M) {A : Addr} {o : HO} (n : F A = none) (g : G A = none) (m : M A = none) : Fr K G F (upd H A o) M where
  gh := fun a u e => by rw [upd_ne (ne_of_none e g)]; exact f.gh a u e
  fh := fun a u e => by rw [upd_ne (ne_of_none e n)]; exact f.fh a u e
  gf := f.gf
  gm := f.gm
  mc := fun a c e => by
    have ea : a ≠ A := fun q => by subst q; rw [m] at e; cases e
    obtain ⟨h1, h2⟩ := f.mc a c e
    exact ⟨h1, h2.mono (Ex.refl F) fun u q => by rw [upd_ne ea]; exact q⟩
theorem Fr.take (f : Fr K G F H M) {A : Addr} {o : HO} (h : H A = some o) (n : F A = none) (g : G A = none) (m : M A = none) : Fr K G (upd F A o) H M where
  gh := f.gh
  fh := fun a u e => by
    by_cases ea : a = A
    · subst ea; rw [upd_same] at e; cases e; exact h
    · rw [upd_ne ea] at e; exact f.fh a u e
  gf := fun a u e => by rw [upd_ne (ne_of_none e g)]; exact f.gf a u e
  gm := f.gm
  mc := fun a c e => by
    have ea : a ≠ A := fun q => by subst q; rw [m] at e; cases e
    obtain ⟨h1, h2⟩ := f.mc a c e
    exact ⟨by rw [upd_ne ea]; exact h1, h2.mono (Ex.new n) fun _ q => q⟩
theorem Fr.hold (f : Fr K G F H M) {A : Addr} {c : Cell} (n : F A = none) (g : G A = none) (a : At K F H A c) : Fr K G F H (mu M A c) where
  gh := f.gh
  fh := f.fh
  gf := f.gf
  gm := fun b u e => by rw [mu_ne (ne_of_none e g)]; exact f.gm b u e
  mc := fun b d e => by
    by_cases eb : b = A
    · subst eb; rw [mu_same] at e; cases e; exact ⟨n, a⟩
    · rw [mu_ne eb] at e; exact f.mc b d e
/-! ### comprehensions -/
def loopC (gd : List (Addr × List D)) (wg : WG) (wt : WT) (we : W) (ρw : St') (k : List D → Mem → Prop) : List D → List D → Mem → Prop
  | [], acc, M => Gd gd M (k acc M)
  | x :: xs, acc, M => Gd gd M (wg x ρw M (fun ρ2 M2 => wt ρ2 M2 (fun b M3 => Br b (we ρ2 M3 (fun y M4 => Sz (acc.length + 1) (loopC gd wg wt we ρw k xs (acc ++ [y]) M4)) noX) (loopC gd wg wt we ρw k xs acc M3)) noX) noX)
def wLc (m : Bool) (wi : WI) (wg : WG) (wt : WT) (we : W) (us : List Nat) : W := fun ρ M k E => wi ρ M (fun J M1 => loopC J.gd wg wt we (wipe' ρ us) (fun acc M2 => mkL m acc M2 k) J.xs [] M1) E
def wYes : WT := fun _ M k _ => k true M
theorem sdt_yes : SdT K L tYes wYes := fun G F H σ ρ M k E Q f s l h q => q F H true M h (Ex.refl F) f
theorem sd_lc {m : Bool} {wi : TI} {wj : WI} {g : TG} [GMono g] {wg : WG} {tt : TT} {wt : WT} {te : TE} {we : W} {us : List Nat} (hgi : GIn g us) (hi : SdI K L wi wj) (hg : SdG K L g wg) (ht : SdT K L tt wt) (he : Sd K L te we) : Sd K L (tLc wi g tt te us) (wLc m wj wg wt we us) := fun G F H σ ρ M k E Q f s l h q =>
  hi G F H σ ρ M _ E _ f s l h fun F0 H0 J I M0 h0 e0 f0 it A hA => by
    have gA : G A = none := Evl.fresh_back f0.gh hA
    have fA : F0 A = none := Evl.fresh_back f0.fh hA
    have fb := f0.more (o := .lst []) hA
    have sw := (s.up e0).wipe us
    refine ⟨fun i m' H => m' = I.xs.length - i ∧ i ≤ I.xs.length ∧ ∃ F M acc accv, Ex F0 F ∧ Fr K G F H M ∧ F A = none ∧ M A = none ∧ H A = some (.lst accv) ∧ IsAll K F accv acc ∧ loopC I.gd wg wt we (wipe' ρ us) (fun acc M2 => mkL m acc M2 k) (I.xs.drop i) acc M,
      ⟨_, rfl, Nat.zero_le _, F0, M0, [], [], Ex.refl F0, fb, fA, f0.mh hA, upd_same, .nil, h0⟩, fun i m' H1 hW => ?_⟩
    obtain ⟨rfl, hi, F1, M1, acc, accv, e1, f1, a1, a2, a3, a4, hl⟩ := hW
    by_cases e : i = I.xs.length
    · subst e
      rw [List.drop_length] at hl
      obtain ⟨g1, h1⟩ := Gd.get (show Gd I.gd M1 (mkL m acc M1 k) from hl)
      refine .inl ⟨it.stop _ G F1 H1 M1 (Nat.le_refl _) e1 f1 g1, ?_⟩
      cases m with
      | false => exact q _ H1 (.ref A) _ M1 h1 ((e0.trans e1).trans (Ex.new a1)) (f1.take a3 a1 gA a2) (.lst upd_same (a4.up (Ex.new a1)))
      | true => exact q F1 H1 (.ref A) _ _ (h1 A a2) (e0.trans e1) (f1.hold a1 gA ⟨accv, a3, a4⟩) (.ref A)
    · have hlt : i < I.xs.length := by omega
      rw [List.drop_eq_getElem_cons hlt] at hl
      obtain ⟨g1, h1⟩ := Gd.get (show Gd I.gd M1 (wg (I.xs[i]'hlt) (wipe' ρ us) M1 _ noX) from hl)
      refine .inr ⟨it.go i G F1 H1 M1 hlt e1 f1 g1, fun H => ∃ F M acc accv, Ex F0 F ∧ Fr K G F H M ∧ F A = none ∧ M A = none ∧ H A = some (.lst accv) ∧ IsAll K F accv acc ∧ loopC I.gd wg wt we (wipe' ρ us) (fun acc M2 => mkL m acc M2 k) (I.xs.drop (i + 1)) acc M, fun H' hN => ⟨_, by omega, rfl, hlt, hN⟩, fun v H2 hy => ?_⟩
      obtain ⟨F2, e2, f2, is⟩ := it.yld i _ F1 H1 M1 v H2 (I.xs[i]'hlt) (List.getElem?_eq_getElem hlt) e1 (f1.guard a3 a1 a2) g1 hy
      have gA2 : upd G A (.lst accv) A = some (.lst accv) := upd_same
      refine GMono.mono _ _ _ _ _ (fun σ2 H3 ⟨e3, q1⟩ => ?mm) (hgi _ _ _ _ (hg _ F2 H2 (L2.wipe σ us) (wipe' ρ us) M1 v _ _ noX (fun σ2 H2 => L2.wipe σ2 us = L2.wipe σ us → tt σ2 H2 fun b H3 =>
        if b = true then te σ2 H3 fun y H4 => ∃ acc, H4 A = some (.lst acc) ∧ acc.length < sizeLine ∧ ∃ F M acc2 accv, Ex F0 F ∧ Fr K G F (upd H4 A (.lst (acc ++ [y]))) M ∧ F A = none ∧ M A = none ∧ (upd H4 A (.lst (acc ++ [y]))) A = some (.lst accv) ∧ IsAll K F accv acc2 ∧ loopC I.gd wg wt we (wipe' ρ us) (fun acc M2 => mkL m acc M2 k) (I.xs.drop (i + 1)) acc2 M
        else ∃ F M acc accv, Ex F0 F ∧ Fr K G F H3 M ∧ F A = none ∧ M A = none ∧ H3 A = some (.lst accv) ∧ IsAll K F accv acc ∧ loopC I.gd wg wt we (wipe' ρ us) (fun acc M2 => mkL m acc M2 k) (I.xs.drop (i + 1)) acc M) f2 (sw.up (e1.trans e2)) L.no is h1 fun F3 H3 σ3 ρ3 M3 h3 e3 f3 s3 ew => ?kk))
      case mm =>
        rw [wipe_wipe] at e3
        exact ⟨e3, q1 e3⟩
      case kk =>
        refine ht _ F3 H3 σ3 ρ3 M3 _ noX _ f3 s3 L.no h3 fun F4 H4 b M4 h4 e4 f4 => h4.ite (fun h5 => ?_) (fun h5 => ?_)
        · refine he _ F4 H4 σ3 ρ3 M4 _ noX _ f4 (s3.up e4) L.no h5 fun F5 H5 y x M5 h6 e5 f5 i5 => ?_
          have e15 := ((e2.trans e3).trans e4).trans e5
          have fA5 := f5.gf A _ gA2
          have mA5 := f5.gm A _ gA2
          refine ⟨accv, f5.gh A _ gA2, by rw [a4.len]; exact h6.get.1, F5, M5, acc ++ [x], accv ++ [y], e1.trans e15, (f5.unguard gA).other fA5 gA mA5, fA5, mA5, upd_same, (a4.up e15).app (.cons i5 .nil), h6.get.2⟩
        · have e14 := (e2.trans e3).trans e4
          exact ⟨F4, M4, acc, accv, e1.trans e14, f4.unguard gA, f4.gf A _ gA2, f4.gm A _ gA2, f4.gh A _ gA2, a4.up e14, h5⟩
/-! ### instances -/
def asI : D → Mem → (Str → List Str → List D → Prop) → Prop
  | .ins c ns xs, _, k => k c ns xs
  | .ref a, M, k => cellI a M k
  | _, _, _ => False
theorem asI_ok {x : D} {v : V} {k : Str → List Str → List D → Prop} (f : Fr K G F H M) (i : Is K F v x) (h : asI x M k) : ∃ a c ns xs dx fs, v = .ref a ∧ H a = some (.ins (He.ga K c) dx fs) ∧ CF K c ns ∧ fs.map (·.1) = ns ∧ IsAll K F (fs.map (·.2)) xs ∧ k c ns xs := by
  cases i with
  | ins h1 h0 h2 h3 => exact ⟨_, _, _, _, _, _, rfl, f.fh _ _ h1, h0, h2, h3, h⟩
  | ref a =>
    obtain ⟨c, ns, xs, e, hk⟩ := cellI.get h
    obtain ⟨_, dx, fs, q0, q1, q2, q3⟩ := f.mc a _ e
    exact ⟨a, c, ns, xs, dx, fs, rfl, q0, q1, q2, q3, hk⟩
  | _ => cases h
def fget : List Str → List D → Str → Option D
  | n :: ns, x :: xs, f => if f = n then some x else fget ns xs f
  | _, _, _ => none
theorem lookup_fs {f : Str} : ∀ {fs : List (Str × V)} {ns : List Str} {xs : List D} {x : D}, fs.map (·.1) = ns → IsAll K F (fs.map (·.2)) xs → fget ns xs f = some x → ∃ v, fs.lookup f = some v ∧ Is K F v x ∧ f ∈ ns
  | [], _, _, _, e, h, g => by subst e; simp [fget] at g
  | (n, v) :: fs, _, xs, x, e, h, g => by
    subst e
    cases xs with
    | nil => simp [fget] at g
    | cons y ys =>
      cases h with
      | cons h1 h2 =>
        have g2 : (if f = n then some y else fget (fs.map (·.1)) ys f) = some x := g
        by_cases c : f = n
        · rw [if_pos c] at g2
          cases g2
          exact ⟨v, by subst c; simp [List.lookup], h1, by subst c; simp⟩
        · rw [if_neg c] at g2
          obtain ⟨w, q1, q2, q3⟩ := lookup_fs (fs := fs) rfl h2 g2
          refine ⟨w, ?_, q2, List.mem_cons_of_mem _ q3⟩
          have c2 : (f == n) = false := by simpa using c
          simp only [List.lookup, c2]
          exact q1
theorem lookup_none {f : Str} : ∀ {fs : List (Str × V)} {ns : List Str}, fs.map (·.1) = ns → ns.contains f = false → fs.lookup f = none
  | [], _, _, _ => rfl
  | (n, v) :: fs, _, e, h => by
    subst e
    rw [List.map_cons, List.contains_cons, Bool.or_eq_false_iff] at h
    simp only [List.lookup, h.1]
    exact lookup_none rfl h.2
@[irreducible] def fldD (ns : List Str) (xs : List D) (f : Str) (k : D → Prop) : Prop := ∃ y, fget ns xs f = some y ∧ k y
theorem fldD.get {ns : List Str} {xs : List D} {f : Str} {k : D → Prop} (h : fldD ns xs f k) : ∃ y, fget ns xs f = some y ∧ k y := by unfold fldD at h; exact h
theorem fld {ns : List Str} {xs : List D} {f : Str} {k : D → Prop} {y : D} (e : fget ns xs f = some y) (h : k y) : fldD ns xs f k := by unfold fldD; exact ⟨y, e, h⟩
def wFld (f : Str) (we : W) : W := fun ρ M k E => we ρ M (fun x M1 => asI x M1 fun _ ns xs => fldD ns xs f fun y => k y M1) E
theorem sd_fld {te : TE} {we : W} {f : Str} (ha : Sd K L te we) : Sd K L (tFld K te f) (wFld f we) := fun G F H σ ρ M k E Q fr s l h q =>
  ha G F H σ ρ M _ E _ fr s l h fun F1 H1 v x M1 h1 e1 f1 i1 => by
    obtain ⟨a, c, ns, xs, dx, fs, rfl, q1, cf, q2, q3, hf⟩ := asI_ok f1 i1 h1
    obtain ⟨y, h2, h3⟩ := hf.get
    obtain ⟨u, lk, is, mem⟩ := lookup_fs q2 q3 h2
    exact ⟨a, _, dx, fs, u, rfl, q1, cf.cl, cf.na f mem, lk, q F1 H1 u y M1 h3 e1 f1 is⟩
/-- o.f = e: a new attribute, or one that is there -/
def fput : List Str → List D → Str → D → List Str × List D
  | n :: ns, y :: ys, f, x => if n = f then (n :: ns, x :: ys) else let r := fput ns ys f x; (n :: r.1, y :: r.2)
  | _, _, f, x => ([f], [x])
theorem putF_is {f : Str} {y : V} {x : D} : ∀ {fs : List (Str × V)} {ns : List Str} {xs : List D}, fs.map (·.1) = ns → IsAll K F (fs.map (·.2)) xs → Is K F y x → (putF f y fs).map (·.1) = (fput ns xs f x).1 ∧ IsAll K F ((putF f y fs).map (·.2)) (fput ns xs f x).2 ∧ ∀ g ∈ (fput ns xs f x).1, g = f ∨ g ∈ ns
  | [], _, _, e, h, g => by
    subst e
    cases h
    exact ⟨rfl, .cons g .nil, fun g hg => .inl (by simpa [fput] using hg)⟩
  | (n, v) :: fs, _, _, e, h, g => by
    subst e
    cases h with
    | cons h1 h2 =>
      simp only [putF, fput, List.map_cons]
      by_cases en : n = f
      · rw [if_pos en, if_pos en]; exact ⟨rfl, .cons g h2, fun g hg => .inr hg⟩
      · rw [if_neg en, if_neg en]
        obtain ⟨a, b, c⟩ := putF_is (f := f) (y := y) (x := x) (fs := fs) rfl h2 g
        refine ⟨by rw [List.map_cons, a], .cons h1 b, fun g hg => ?_⟩
        rcases List.mem_cons.mp hg with q | q
        · exact .inr (by rw [q]; simp)
        · rcases c g q with r | r
          · exact .inl r
          · exact .inr (List.mem_cons_of_mem _ r)
@[irreducible] def attD (cs : List Str) (o : D) (f : Str) (y : D) (M : Mem) (k : Mem → Prop) : Prop := ∃ a c ns xs, o = .ref a ∧ M a = some (.ins c ns xs) ∧ c ∈ cs ∧ ns.length < 1000 ∧ k (mu M a (.ins c (fput ns xs f y).1 (fput ns xs f y).2))
theorem attD.get {cs : List Str} {o : D} {f : Str} {y : D} {M : Mem} {k : Mem → Prop} (h : attD cs o f y M k) : ∃ a c ns xs, o = .ref a ∧ M a = some (.ins c ns xs) ∧ c ∈ cs ∧ ns.length < 1000 ∧ k (mu M a (.ins c (fput ns xs f y).1 (fput ns xs f y).2)) := by unfold attD at h; exact h
theorem att_mu {cs : List Str} {a : Addr} {c f : Str} {y : D} {M : Mem} {ns ns' : List Str} {xs xs' : List D} {k : Mem → Prop} (e : fput ns xs f y = (ns', xs')) (hc : c ∈ cs) (hn : ns.length < 1000) (h : k (mu M a (.ins c ns' xs'))) : attD cs (.ref a) f y (mu M a (.ins c ns xs)) k := by
  unfold attD
  refine ⟨a, c, ns, xs, rfl, mu_same, hc, hn, ?_⟩
  rw [mu_mu, e]
  exact h
theorem att_of {cs : List Str} {a : Addr} {c f : Str} {y : D} {M : Mem} {ns ns' : List Str} {xs xs' : List D} {k : Mem → Prop} (e0 : M a = some (.ins c ns xs)) (e : fput ns xs f y = (ns', xs')) (hc : c ∈ cs) (hn : ns.length < 1000) (h : k (mu M a (.ins c ns' xs'))) : attD cs (.ref a) f y M k := by
  unfold attD
  refine ⟨a, c, ns, xs, rfl, e0, hc, hn, ?_⟩
  rw [e]
  exact h
def wSetF (cs : List Str) (f : Str) (wo we : W) : WS := fun ρ M P E => we ρ M (fun y M1 => wo ρ M1 (fun o M2 => attD cs o f y M2 fun M3 => P.nx ρ M3) E) E
theorem sds_fld {to te : TE} {wo we : W} {cs : List Str} {f : Str} (hn : ∀ c ∈ cs, NoAttr K (He.ga K c) f) (ho : Sd K L to wo) (he : Sd K L te we) : SdS K L (sFld K to te f) (wSetF cs f wo we) := fun G F H σ ρ M P E D fr s l h a b c d =>
  he G F H σ ρ M _ E _ fr s l h fun F1 H1 u y M1 h1 e1 f1 i1 => ho G F1 H1 σ ρ M1 _ E _ f1 (s.up e1) (L.mono l e1) h1 fun F2 H2 v o M2 h2 e2 f2 i2 => by
    obtain ⟨p, cc, ns, xs, rfl, q1, q2, q3, q4⟩ := h2.get
    cases i2
    obtain ⟨_, dx, fs, r1, r2, r3, r4⟩ := f2.mc p _ q1
    have pf := putF_is (f := f) r3 r4 (i1.up e2)
    refine ⟨p, _, dx, fs, rfl, r1, r2.cl, hn _ q2, ?_, ?_⟩
    · have : fs.length = ns.length := by rw [← r3]; simp
      omega
    · refine a F2 _ σ ρ _ q4 (e1.trans e2) (f2.chg q1 ⟨dx, _, upd_same, ⟨r2.cl, r2.ty, fun g hg => ?_⟩, pf.1, pf.2.1⟩) (s.up (e1.trans e2))
      rcases pf.2.2 g hg with z | z
      · rw [z]; exact hn _ q2
      · exact r2.na g z
/-! ### calls -/
abbrev WC := St' → Mem → (List D → List D → Mem → Prop) → XP → Prop
abbrev WF := List D → Mem → (D → Mem → Prop) → XP → Prop
section
variable (K) (L)
def SdC (tc : TC) (wc : WC) : Prop := ∀ G F H σ ρ M k E (R : List V → List V → Hp → Prop), Fr K G F H M → Sto K F σ ρ → L.ok G F E → wc ρ M k E → (∀ F' H' vs us xs zs M', k xs zs M' → Ex F F' → Fr K G F' H' M' → IsAll K F' vs xs → IsAll K F' us zs → R vs us H') → tc σ H R
/-- a def's promise -/
def SdF (sp : Sp) (wf : WF) : Prop := ∀ G F H M vs xs k E (Q : VK) (EX : XK), Fr K G F H M → IsAll K F vs xs → wf xs M k E → Po K G F k Q → sp vs H Q EX
end
def wcP (wa : WA) : WC := fun ρ M k E => wa ρ M (fun xs M1 => k xs [] M1) E
def wcK (wa : WA) : WC := fun ρ M k E => wa ρ M (fun zs M1 => k [] zs M1) E
def wcPK (wa wb : WA) : WC := fun ρ M k E => wa ρ M (fun xs M1 => wb ρ M1 (fun zs M2 => k xs zs M2) E) E
theorem sdc_p {ta : TA} {wa : WA} (ha : SdA K L ta wa) : SdC K L (tcP ta) (wcP wa) := fun G F H σ ρ M k E R f s l h q => ha G F H σ ρ M _ E _ f s l h fun F1 H1 vs xs M1 h1 e1 f1 i1 => q F1 H1 vs [] xs [] M1 h1 e1 f1 i1 .nil
theorem sdc_k {ta : TA} {wa : WA} (ha : SdA K L ta wa) : SdC K L (tcK ta) (wcK wa) := fun G F H σ ρ M k E R f s l h q => ha G F H σ ρ M _ E _ f s l h fun F1 H1 vs xs M1 h1 e1 f1 i1 => q F1 H1 [] vs [] xs M1 h1 e1 f1 .nil i1
theorem sdc_pk {ta tb : TA} {wa wb : WA} (ha : SdA K L ta wa) (hb : SdA K L tb wb) : SdC K L (tcPK ta tb) (wcPK wa wb) := fun G F H σ ρ M k E R f s l h q => ha G F H σ ρ M _ E _ f s l h fun F1 H1 vs xs M1 h1 e1 f1 i1 =>
  hb G F1 H1 σ ρ M1 _ E _ f1 (s.up e1) (L.mono l e1) h1 fun F2 H2 us zs M2 h2 e2 f2 i2 => q F2 H2 vs us xs zs M2 h2 (e1.trans e2) f2 (i1.up e2) i2
theorem pick_is {vs us : List V} {xs zs : List D} (π : List Nat) (h : IsAll K F vs xs) (g : IsAll K F us zs) : IsAll K F (Rl.pick V.non π vs us) (Rl.pick D.non π xs zs) := by
  have a := h.app g
  induction π with
  | nil => exact .nil
  | cons i π ih =>
    refine .cons ?_ ih
    show Is K F ((vs ++ us).getD i V.non) ((xs ++ zs).getD i D.non)
    cases e : (xs ++ zs)[i]? with
    | some x =>
      obtain ⟨u, e2, rx⟩ := a.get e
      rw [List.getD_eq_getElem?_getD, List.getD_eq_getElem?_getD, e, e2]
      exact rx
    | none =>
      have hl := a.len
      have e2 : (vs ++ us)[i]? = none := List.getElem?_eq_none_iff.mpr (by rw [hl]; exact List.getElem?_eq_none_iff.mp e)
      rw [List.getD_eq_getElem?_getD, List.getD_eq_getElem?_getD, e, e2]
      exact .non
/-- the arguments at some places -/
def pkD (l : List D) : List Nat → (List D → Prop) → Prop
  | [], k => k []
  | i :: π, k => match l[i]? with
    | some d => pkD l π fun ys => k (d :: ys)
    | none => False
theorem pkD_ok {xs zs : List D} : ∀ {π : List Nat} {k : List D → Prop}, pkD (xs ++ zs) π k → k (Rl.pick D.non π xs zs)
  | [], _, h => h
  | i :: π, k, h => by
    unfold pkD at h
    split at h
    · rename_i d e
      have z := pkD_ok (π := π) h
      have e2 : (xs ++ zs).getD i D.non = d := by rw [List.getD_eq_getElem?_getD, e]; rfl
      show k ((xs ++ zs).getD i D.non :: Rl.pick D.non π xs zs)
      rw [e2]; exact z
    · exact h.elim
def pkS (l : List D) : List Nat → (List D → Prop) → Prop
  | [], k => k []
  | 0 :: _, _ => False
  | (i + 1) :: π, k => match l[i]? with
    | some d => pkS l π fun ys => k (d :: ys)
    | none => False
theorem pkS_ok {xs zs : List D} : ∀ {π : List Nat} {k : List D → Prop}, pkS (xs ++ zs) π k → ∃ ys, k ys ∧ ∀ x, Rl.pick D.non π (x :: xs) zs = ys
  | [], k, h => ⟨[], h, fun _ => rfl⟩
  | 0 :: π, k, h => by unfold pkS at h; exact h.elim
  | (i + 1) :: π, k, h => by
    unfold pkS at h
    split at h
    · rename_i d e
      obtain ⟨ys, z, hz⟩ := pkS_ok (π := π) h
      refine ⟨d :: ys, z, fun x => ?_⟩
      have e2 : ((x :: xs) ++ zs).getD (i + 1) D.non = d := by
        rw [List.getD_eq_getElem?_getD, List.cons_append, List.getElem?_cons_succ, e]; rfl
      show ((x :: xs) ++ zs).getD (i + 1) D.non :: Rl.pick D.non π (x :: xs) zs = _
      rw [e2, hz x]
    · exact h.elim
/-- f(..); the arguments' own order -/
def wFn (n m : Nat) (wf : WF) (wc : WC) : W := fun ρ M k E => wc ρ M (fun xs zs M1 => Ck n xs (Ck m zs (wf xs M1 k E))) E
def wFnK (n m : Nat) (wf : WF) (π : List Nat) (wc : WC) : W := fun ρ M k E => wc ρ M (fun xs zs M1 => Ck n xs (Ck m zs (pkD (xs ++ zs) π fun ys => wf ys M1 k E))) E
theorem sd_fn {n m : Nat} {sp : Sp} {wf : WF} {EX : XK} {tc : TC} {wc : WC} (hf : SdF K sp wf) (hc : SdC K L tc wc) : Sd K L (tFn n m sp (fun vs _ => vs) EX tc) (wFn n m wf wc) := fun G F H σ ρ M k E Q f s l h q => hc G F H σ ρ M _ E _ f s l h fun F1 H1 vs us xs zs M1 h1 e1 f1 i1 i2 => by
  obtain ⟨l1, h2⟩ := h1.get
  obtain ⟨l2, h3⟩ := h2.get
  exact ⟨i1.len.trans l1, i2.len.trans l2, hf G F1 H1 M1 vs xs k E Q EX f1 i1 h3 (q.up e1)⟩
theorem sd_fnK {n m : Nat} {sp : Sp} {wf : WF} {EX : XK} {π : List Nat} {tc : TC} {wc : WC} (hf : SdF K sp wf) (hc : SdC K L tc wc) : Sd K L (tFn n m sp (Rl.pick V.non π) EX tc) (wFnK n m wf π wc) := fun G F H σ ρ M k E Q f s l h q => hc G F H σ ρ M _ E _ f s l h fun F1 H1 vs us xs zs M1 h1 e1 f1 i1 i2 => by
  obtain ⟨l1, h2⟩ := h1.get
  obtain ⟨l2, h3⟩ := h2.get
  exact ⟨i1.len.trans l1, i2.len.trans l2, hf G F1 H1 M1 _ _ k E Q EX f1 (pick_is π i1 i2) (pkD_ok h3) (q.up e1)⟩
@[irreducible] def mtD (c c' : Str) (ns : List Str) (nm : Str) (P : Prop) : Prop := c' = c ∧ ns.contains nm = false ∧ P
theorem mtD.get {c c' : Str} {ns : List Str} {nm : Str} {P : Prop} (h : mtD c c' ns nm P) : c' = c ∧ ns.contains nm = false ∧ P := by unfold mtD at h; exact h
theorem mt_d {c : Str} {ns : List Str} {nm : Str} {P : Prop} (e : ns.contains nm = false) (h : P) : mtD c c ns nm P := by unfold mtD; exact ⟨rfl, e, h⟩
/-- o.m(..), of an instance of the class c -/
def wMt (c : Str) (nm : Str) (n m : Nat) (wf : WF) (wo : W) (wc : WC) : W := fun ρ M k E => wo ρ M (fun x M1 => asI x M1 fun c' ns _ => mtD c c' ns nm (wc ρ M1 (fun xs zs M2 => Ck n xs (Ck m zs (wf (x :: xs) M2 k E))) E)) E
def wMtK (c : Str) (nm : Str) (n m : Nat) (wf : WF) (π : List Nat) (wo : W) (wc : WC) : W := fun ρ M k E => wo ρ M (fun x M1 => asI x M1 fun c' ns _ => mtD c c' ns nm (wc ρ M1 (fun xs zs M2 => Ck n xs (Ck m zs (pkD ((x :: xs) ++ zs) π fun ys => wf ys M2 k E))) E)) E
theorem sd_mt {c nm : Str} {n m : Nat} {sp : Sp} {wf : WF} {EX : XK} {to : TE} {wo : W} {tc : TC} {wc : WC} (hf : SdF K sp wf) (ho : Sd K L to wo) (hc : SdC K L tc wc) : Sd K L (tMt (He.ga K c) nm n m sp (fun vs _ => vs) EX to tc) (wMt c nm n m wf wo wc) := fun G F H σ ρ M k E Q f s l h q =>
  ho G F H σ ρ M _ E _ f s l h fun F1 H1 v x M1 h1 e1 f1 i1 => by
    obtain ⟨a, c', ns, xs, dx, fs, rfl, q1, cf, q2, q3, hm⟩ := asI_ok f1 i1 h1
    obtain ⟨rfl, q4, h2⟩ := hm.get
    refine ⟨a, dx, fs, rfl, q1, lookup_none q2 q4, hc G F1 H1 σ ρ M1 _ E _ f1 (s.up e1) (L.mono l e1) h2 fun F2 H2 vs us xs zs M2 h3 e2 f2 j1 j2 => ?_⟩
    obtain ⟨l1, h4⟩ := h3.get
    obtain ⟨l2, h5⟩ := h4.get
    exact ⟨j1.len.trans l1, j2.len.trans l2, hf G F2 H2 M2 _ _ k E Q EX f2 (.cons (i1.up e2) j1) h5 (q.up (e1.trans e2))⟩
theorem sd_mtK {c nm : Str} {n m : Nat} {sp : Sp} {wf : WF} {EX : XK} {π : List Nat} {to : TE} {wo : W} {tc : TC} {wc : WC} (hf : SdF K sp wf) (ho : Sd K L to wo) (hc : SdC K L tc wc) : Sd K L (tMt (He.ga K c) nm n m sp (Rl.pick V.non π) EX to tc) (wMtK c nm n m wf π wo wc) := fun G F H σ ρ M k E Q f s l h q =>
  ho G F H σ ρ M _ E _ f s l h fun F1 H1 v x M1 h1 e1 f1 i1 => by
    obtain ⟨a, c', ns, xs, dx, fs, rfl, q1, cf, q2, q3, hm⟩ := asI_ok f1 i1 h1
    obtain ⟨rfl, q4, h2⟩ := hm.get
    refine ⟨a, dx, fs, rfl, q1, lookup_none q2 q4, hc G F1 H1 σ ρ M1 _ E _ f1 (s.up e1) (L.mono l e1) h2 fun F2 H2 vs us xs zs M2 h3 e2 f2 j1 j2 => ?_⟩
    obtain ⟨l1, h4⟩ := h3.get
    obtain ⟨l2, h5⟩ := h4.get
    exact ⟨j1.len.trans l1, j2.len.trans l2, hf G F2 H2 M2 _ _ k E Q EX f2 (pick_is π (.cons (i1.up e2) j1) j2) (pkD_ok h5) (q.up (e1.trans e2))⟩
/-- C(..): a new instance; frozen behind its __init__, or a cell -/
def isNone (P : Prop) : D → Prop
  | .non => P
  | _ => False
@[irreducible] def newI (m : Bool) (c : Str) (wf : WF) (as : D → List D) (M : Mem) (k : D → Mem → Prop) (E : XP) : Prop := ∀ p, M p = none → wf (as (.ref p)) (mu M p (.ins c [] [])) (fun r M2 => isNone (match m with
  | true => k (.ref p) M2
  | false => cellI p M2 fun c' ns xs => c' = c ∧ k (.ins c ns xs) (er M2 p)) r) E
/-- an instance of a class that does not change afterwards -/
theorem new_f {c : Str} {wf : WF} {as : D → List D} {M : Mem} {k : D → Mem → Prop} {E : XP} {ns : List Str} {xs : List D} (h : ∀ p (k' : D → Mem → Prop), M p = none → k' .non (mu M p (.ins c ns xs)) → wf (as (.ref p)) (mu M p (.ins c [] [])) k' E) (hk : k (.ins c ns xs) M) : newI false c wf as M k E := by
  unfold newI
  exact fun p hp => h p _ hp (cellI_mu ⟨rfl, by rw [er_mu hp]; exact hk⟩)
theorem new_t {c : Str} {wf : WF} {as : D → List D} {M : Mem} {k : D → Mem → Prop} {E : XP} (h : ∀ p, M p = none → wf (as (.ref p)) (mu M p (.ins c [] [])) (fun r M2 => isNone (k (.ref p) M2) r) E) : newI true c wf as M k E := by
  unfold newI
  exact h
def wNew (b : Bool) (c : Str) (n m : Nat) (wf : WF) (wc : WC) : W := fun ρ M k E => wc ρ M (fun xs zs M1 => Ck n xs (Ck m zs (newI b c wf (fun x => x :: xs) M1 k E))) E
def wNewK (b : Bool) (c : Str) (n m : Nat) (wf : WF) (π : List Nat) (wc : WC) : W := fun ρ M k E => wc ρ M (fun xs zs M1 => Ck n xs (Ck m zs (match π with
  | 0 :: π' => pkS (xs ++ zs) π' fun ys => newI b c wf (fun x => x :: ys) M1 k E
  | _ => False))) E
theorem Fr.twice (f : Fr K G F H M) {x dx : Addr} {o : HO} {c : Cell} (n : H x = none) (nd : H dx = none) (ne : dx ≠ x) {o' : HO} (h : At K F (upd (upd H dx o') x o) x c) : Fr K G F (upd (upd H dx o') x o) (mu M x c) :=
  (f.more (o := o') nd).own (by rw [upd_ne ne.symm]; exact n) h
theorem newI_ok {b : Bool} {c : Str} {sp : Sp} {wf : WF} {as : D → List D} {k : D → Mem → Prop} {E : XP} {Q : VK} {EX : XK} (hf : SdF K sp wf) (cf : CF K c []) (f : Fr K G F H M) (h : newI b c wf as M k E) (q : Po K G F k Q) (vs : V → List V) (hv : ∀ p, IsAll K F (vs (.ref p)) (as (.ref p))) :
    ∀ x dx, H x = none → H dx = none → dx ≠ x → sp (vs (.ref x)) (upd (upd H dx (.own x)) x (.ins (He.ga K c) dx [])) (fun v H2 => v = .non ∧ Q (.ref x) H2) EX := fun x dx nx nd ne => by
  unfold newI at h
  have f1 := f.twice (o := .ins (He.ga K c) dx []) (c := .ins c [] []) (o' := .own x) nx nd ne ⟨dx, [], upd_same, cf, rfl, .nil⟩
  refine hf G F _ _ _ _ _ E _ EX f1 (hv x) (h x (f.mh nx)) fun F2 H2 v r M2 h2 e2 f2 i2 => ?_
  cases i2 with
  | non =>
    cases b with
    | true => exact ⟨rfl, q F2 H2 _ _ M2 h2 e2 f2 (.ref x)⟩
    | false =>
      obtain ⟨c', ns, xs, q1, rfl, q2⟩ := cellI.get h2
      obtain ⟨F3, e3, f3, i3⟩ := f2.frz q1
      exact ⟨rfl, q F3 H2 _ _ _ q2 (e2.trans e3) f3 i3⟩
  | _ => cases h2
theorem sd_new {b : Bool} {c : Str} {n m : Nat} {sp : Sp} {wf : WF} {EX : XK} {tc : TC} {wc : WC} (hf : SdF K sp wf) (cf : CF K c []) (hc : SdC K L tc wc) : Sd K L (tNew (He.ga K c) n m sp (fun vs _ => vs) EX tc) (wNew b c n m wf wc) := fun G F H σ ρ M k E Q f s l h q => hc G F H σ ρ M _ E _ f s l h fun F1 H1 vs us xs zs M1 h1 e1 f1 i1 i2 => by
  obtain ⟨l1, h2⟩ := h1.get
  obtain ⟨l2, h3⟩ := h2.get
  exact ⟨i1.len.trans l1, i2.len.trans l2, newI_ok hf cf f1 h3 (q.up e1) (fun x => x :: vs) fun p => .cons (.ref p) i1⟩
theorem sd_newK {b : Bool} {c : Str} {n m : Nat} {sp : Sp} {wf : WF} {EX : XK} {π : List Nat} {tc : TC} {wc : WC} (hf : SdF K sp wf) (cf : CF K c []) (hc : SdC K L tc wc) : Sd K L (tNew (He.ga K c) n m sp (Rl.pick V.non π) EX tc) (wNewK b c n m wf π wc) := fun G F H σ ρ M k E Q f s l h q => hc G F H σ ρ M _ E _ f s l h fun F1 H1 vs us xs zs M1 h1 e1 f1 i1 i2 => by
  obtain ⟨l1, h2⟩ := h1.get
  obtain ⟨l2, h3⟩ := h2.get
  split at h3
  · rename_i π'
    obtain ⟨ys, h4, h5⟩ := pkS_ok h3
    exact ⟨i1.len.trans l1, i2.len.trans l2, newI_ok hf cf f1 h4 (q.up e1) (fun x => Rl.pick V.non (0 :: π') (x :: vs) us) fun p => by
      have z := pick_is (0 :: π') (.cons (.ref p) i1) i2
      have e : Rl.pick D.non (0 :: π') (D.ref p :: xs) zs = D.ref p :: ys := by
        show D.ref p :: Rl.pick D.non π' (D.ref p :: xs) zs = _
        rw [h5]
      rw [e] at z
      exact z⟩
  · exact h3.elim
/-! ### promises from bodies -/
def start' (n : Nat) (xs : List D) : St' := xs.map some ++ List.replicate (n - xs.length) none
theorem start_ok {N : List Str} {vs : List V} {xs : List D} (h : IsAll K F vs xs) : Sto K F (L2.start N vs) (start' N.length xs) := by
  refine ⟨by unfold L2.start start'; simp [h.len], fun i x e => ?_⟩
  unfold start' at e
  by_cases hi : i < xs.length
  · rw [List.getElem?_append_left (by simpa using hi), List.getElem?_map] at e
    obtain ⟨y, e1, e2⟩ := Option.map_eq_some_iff.mp e
    cases e2
    obtain ⟨v, h1, h2⟩ := h.get e1
    refine ⟨v, ?_, h2⟩
    unfold L2.start
    rw [List.getElem?_append_left (by simp; exact (List.getElem?_eq_some_iff.mp h1).1), List.getElem?_map, h1]; rfl
  · rw [List.getElem?_append_right (by simpa using hi)] at e
    have := List.eq_of_mem_replicate (List.mem_of_getElem? e)
    cases this
/-- a def's transformer: n arguments, N slots -/
def wDef (n N : Nat) (ws : WS) : WF := fun xs M k E => Ck n xs (ws (start' N xs) M { nx := fun _ M' => k .non M', rt := k } E)
theorem sdf_of {sp : Sp} {ts : TS} {ws : WS} {n : Nat} {N : List Str} {M : Nat} (hM : N.length = M) (hsp : ∀ vs H Q (EX : XK), (vs.length = n ∧ ts { nx := fun _ H' => Q .non H', rt := Q } (L2.start N vs) H) → sp vs H Q EX) (hs : SdS K XL.never ts ws) : SdF K sp (wDef n M ws) := fun G F H M' vs xs k E Q EX f i h q => by
  subst hM
  obtain ⟨l1, h1⟩ := Ck.get h
  exact hsp vs H Q EX ⟨i.len.trans l1, hs G F H _ _ M' _ E _ f (start_ok i) trivial h1 (fun F' H' σ' ρ' M'' hk e f' s' => q F' H' .non .non M'' hk e f' .non) q (fun _ _ _ _ _ hk => hk.elim) fun _ _ _ _ _ hk => hk.elim⟩
end
end Px

set_option Elab.async false
set_option linter.all false
set_option maxRecDepth 100000
set_option maxHeartbeats 4000000
/-! Operators, built-ins, methods of lists and texts. -/
namespace Px
open PySem PySem.Spec PyProof.Rows L2 Rl RZ RT
open Evl (Ex)
/-! ### data that == compares -/
mutual
def py : D → Option PyData
  | .non => some .none
  | .bl b => some (.bool b)
  | .int i => some (.int i)
  | .str s => some (.str s)
  | .lst xs => (pyAll xs).map .list
  | .tup xs => (pyAll xs).map .tuple
  | .ty _ => none
  | .ins _ _ _ => none
  | .cls _ => none
  | .ref _ => none
  | .scr _ => none
def pyAll : List D → Option (List PyData)
  | [] => some []
  | x :: xs => (py x).bind fun p => (pyAll xs).map fun ps => p :: ps
end
section
variable {K : Frag} {F H : Hp}
mutual
theorem Is.dp (e : Ex F H) : ∀ (x : D) (v : V) (p : PyData), Is K F v x → py x = some p → Dp K H v p
  | .non, _, _, h, q => by cases h; cases q; exact .non
  | .bl b, _, _, h, q => by cases h; cases q; exact .bl b
  | .int i, _, _, h, q => by cases h; cases q; exact .int i
  | .str s, _, _, h, q => by cases h; cases q; exact .str s
  | .lst xs, _, p, h, q => by
    simp only [py, Option.map_eq_some_iff] at q
    obtain ⟨ps, q, rfl⟩ := q
    cases h with
    | lst h1 h2 => exact .lst (Evl.sq_of (e _ _ h1)) (IsAll.dp e xs _ ps h2 q)
  | .tup xs, _, p, h, q => by
    simp only [py, Option.map_eq_some_iff] at q
    obtain ⟨ps, q, rfl⟩ := q
    cases h with
    | tup h1 h2 => exact .tup (Evl.ex_t e h1) (IsAll.dp e xs _ ps h2 q)
  | .ty _, _, _, _, q => by simp [py] at q
  | .ins _ _ _, _, _, _, q => by simp [py] at q
  | .cls _, _, _, _, q => by simp [py] at q
  | .ref _, _, _, _, q => by simp [py] at q
  | .scr _, _, _, _, q => by simp [py] at q
theorem IsAll.dp (e : Ex F H) : ∀ (xs : List D) (vs : List V) (ps : List PyData), IsAll K F vs xs → pyAll xs = some ps → DpAll K H vs ps
  | [], _, _, h, q => by cases h; cases q; exact .nil
  | x :: xs, _, ps, h, q => by
    simp only [pyAll, Option.bind_eq_some_iff, Option.map_eq_some_iff] at q
    obtain ⟨p, q1, qs, q2, rfl⟩ := q
    cases h with
    | cons h1 h2 => exact .cons (Is.dp e x _ p h1 q1) (IsAll.dp e xs _ qs h2 q2)
end
end
/-- a datum that == compares, of some depth -/
structure Pk (n : Nat) (x : D) (p : PyData) : Prop where
  py : py x = some p
  ok : p.canLay0 = true
  dp : p.depth ≤ n
def PkAll (n : Nat) (xs : List D) (ps : List PyData) : Prop := pyAll xs = some ps ∧ PyData.canLayAll0 ps = true ∧ PyData.depthAll ps ≤ n
theorem Pk.sh {x : D} {p : PyData} {n : Nat} (h : Pk n x p) (hn : n ≤ 64) : SeqAt.shaped p = true := by
  unfold SeqAt.shaped
  rw [h.ok, decide_eq_true (Nat.le_trans h.dp hn)]
  rfl
theorem pk_non {n : Nat} : Pk n .non .none := ⟨rfl, rfl, Nat.zero_le _⟩
theorem pk_bl {n : Nat} {b : Bool} : Pk n (.bl b) (.bool b) := ⟨rfl, rfl, Nat.zero_le _⟩
theorem pk_int {n : Nat} {i : Int} : Pk n (.int i) (.int i) := ⟨rfl, rfl, Nat.zero_le _⟩
theorem pk_str {n : Nat} {s : Str} (h : PyData.canLay0 (.str s) = true) : Pk n (.str s) (.str s) := ⟨rfl, h, Nat.zero_le _⟩
theorem pka_nil {n : Nat} : PkAll n [] [] := ⟨rfl, rfl, Nat.zero_le _⟩
theorem pka_cons {n : Nat} {x : D} {p : PyData} {xs : List D} {ps : List PyData} (h : Pk n x p) (g : PkAll n xs ps) : PkAll n (x :: xs) (p :: ps) := by
  refine ⟨?_, ?_, ?_⟩
  · simp [pyAll, h.py, g.1]
  · simp [PyData.canLayAll0, h.ok, g.2.1]
  · simp only [PyData.depthAll]
    have := h.dp
    have := g.2.2
    omega
theorem pk_lst {n : Nat} {xs : List D} {ps : List PyData} (h : PkAll n xs ps) : Pk (n + 1) (.lst xs) (.list ps) := by
  refine ⟨by simp [py, h.1], ?_, ?_⟩
  · simp [PyData.canLay0, h.2.1]
  · simp only [PyData.depth]; have := h.2.2; omega
theorem pk_tup {n : Nat} {xs : List D} {ps : List PyData} (h : PkAll n xs ps) : Pk (n + 1) (.tup xs) (.tuple ps) := by
  refine ⟨by simp [py, h.1], ?_, ?_⟩
  · simp [PyData.canLay0, h.2.1]
  · simp only [PyData.depth]; have := h.2.2; omega
theorem pka_ints {n : Nat} : ∀ l : List Int, PkAll n (Li l) (l.map .int)
  | [] => pka_nil
  | i :: l => pka_cons pk_int (pka_ints l)
theorem eqv_ints : ∀ l m : List Int, PyData.eqvAll (l.map .int) (m.map .int) = decide (l = m)
  | [], [] => by simp [PyData.eqvAll]
  | [], _ :: _ => by simp [PyData.eqvAll]
  | _ :: _, [] => by simp [PyData.eqvAll]
  | i :: l, j :: m => by
    simp only [List.map_cons, PyData.eqvAll, PyData.eqv, eqv_ints l m]
    by_cases h : i = j <;> by_cases g : l = m <;> simp [h, g]
theorem dec_intV {i j : Int} : decide (V.int i = V.int j) = decide (i = j) := by by_cases h : i = j <;> simp [h]
theorem dec_strV {i j : Str} : decide (V.str i = V.str j) = decide (i = j) := by by_cases h : i = j <;> simp [h]
/-- .. that may be a cell -/
def pyM (M : Mem) : D → Option PyData
  | .ref a => match M a with
    | some (.lst xs) => (pyAll xs).map .list
    | _ => none
  | x => py x
section
variable {K : Frag} {G F H : Hp} {M : Mem}
theorem dp_of {x : D} {v : V} {p : PyData} (f : Fr K G F H M) (i : Is K F v x) (h : pyM M x = some p) : Dp K H v p := by
  cases x with
  | ref a =>
    cases i
    simp only [pyM] at h
    split at h
    · rename_i xs e
      obtain ⟨_, vs, q1, q2⟩ := f.mc a _ e
      obtain ⟨ps, q3, rfl⟩ := Option.map_eq_some_iff.mp h
      exact .lst (Evl.sq_of q1) (IsAll.dp f.fh xs _ ps q2 q3)
    · cases h
  | _ => exact Is.dp f.fh _ _ _ i h
/-! ### sequences by values -/
@[irreducible] def intsD (xs : List D) (k : List Int → Prop) : Prop := ∃ l, xs = Li l ∧ k l
theorem intsD.get {xs : List D} {k : List Int → Prop} (h : intsD xs k) : ∃ l, xs = Li l ∧ k l := by unfold intsD at h; exact h
theorem ints_of {l : List Int} {k : List Int → Prop} (h : k l) : intsD (Li l) k := by unfold intsD; exact ⟨l, rfl, h⟩
theorem ints_eq {xs : List D} {l : List Int} {k : List Int → Prop} (e : xs = Li l) (h : k l) : intsD xs k := by unfold intsD; exact ⟨l, e, h⟩
@[irreducible] def strsD (xs : List D) (k : List Str → Prop) : Prop := ∃ l, xs = Ls l ∧ k l
theorem strsD.get {xs : List D} {k : List Str → Prop} (h : strsD xs k) : ∃ l, xs = Ls l ∧ k l := by unfold strsD at h; exact h
theorem strs_of {l : List Str} {k : List Str → Prop} (h : k l) : strsD (Ls l) k := by unfold strsD; exact ⟨l, rfl, h⟩
theorem strs_eq {xs : List D} {l : List Str} {k : List Str → Prop} (e : xs = Ls l) (h : k l) : strsD xs k := by unfold strsD; exact ⟨l, e, h⟩
@[irreducible] def blsD (xs : List D) (k : List Bool → Prop) : Prop := ∃ l, xs = Lb l ∧ k l
theorem blsD.get {xs : List D} {k : List Bool → Prop} (h : blsD xs k) : ∃ l, xs = Lb l ∧ k l := by unfold blsD at h; exact h
theorem bls_of {l : List Bool} {k : List Bool → Prop} (h : k l) : blsD (Lb l) k := by unfold blsD; exact ⟨l, rfl, h⟩
theorem bls_eq {xs : List D} {l : List Bool} {k : List Bool → Prop} (e : xs = Lb l) (h : k l) : blsD xs k := by unfold blsD; exact ⟨l, e, h⟩
def asS : D → Mem → (List D → Prop) → Prop
  | .lst xs, _, k => k xs
  | .tup xs, _, k => k xs
  | .ref a, M, k => cellL a M k
  | _, _, _ => False
theorem asS_ok {x : D} {v : V} {k : List D → Prop} (f : Fr K G F H M) (i : Is K F v x) (h : asS x M k) : ∃ a vs xs, v = .ref a ∧ IsAll K F vs xs ∧ (SqL K H a vs ∨ SqT K H a vs) ∧ k xs := by
  cases i with
  | lst h1 h2 => exact ⟨_, _, _, rfl, h2, .inl (Evl.sq_of (f.fh _ _ h1)), h⟩
  | tup h1 h2 => exact ⟨_, _, _, rfl, h2, .inr (Evl.ex_t f.fh h1), h⟩
  | ref a =>
    obtain ⟨xs, e, hk⟩ := cellL.get h
    obtain ⟨_, vs, q1, q2⟩ := f.mc a _ e
    exact ⟨a, vs, xs, rfl, q2, .inl (Evl.sq_of q1), hk⟩
  | _ => cases h
/-- a list's items -/
def asLL : D → Mem → (List D → Prop) → Prop
  | .lst xs, _, k => k xs
  | .ref a, M, k => cellL a M k
  | _, _, _ => False
theorem asLL_ok {x : D} {v : V} {k : List D → Prop} (f : Fr K G F H M) (i : Is K F v x) (h : asLL x M k) : ∃ a vs xs, v = .ref a ∧ IsAll K F vs xs ∧ H a = some (.lst vs) ∧ k xs := by
  cases i with
  | lst h1 h2 => exact ⟨_, _, _, rfl, h2, f.fh _ _ h1, h⟩
  | ref a =>
    obtain ⟨xs, e, hk⟩ := cellL.get h
    obtain ⟨_, vs, q1, q2⟩ := f.mc a _ e
    exact ⟨a, vs, xs, rfl, q2, q1, hk⟩
  | _ => cases h
def asT : D → (List D → Prop) → Prop
  | .tup xs, k => k xs
  | _, _ => False
theorem asT_ok {x : D} {v : V} {k : List D → Prop} (f : Fr K G F H M) (i : Is K F v x) (h : asT x k) : ∃ a vs xs, v = .ref a ∧ IsAll K F vs xs ∧ SqT K H a vs ∧ k xs ∧ x = .tup xs := by
  cases i with
  | tup h1 h2 => exact ⟨_, _, _, rfl, h2, Evl.ex_t f.fh h1, h, rfl⟩
  | _ => cases h
def asInt : D → (Int → Prop) → Prop
  | .int i, k => k i
  | _, _ => False
theorem asInt_ok {x : D} {v : V} {k : Int → Prop} (i : Is K F v x) (h : asInt x k) : ∃ j, v = .int j ∧ x = .int j ∧ k j := by
  cases i <;> first | exact ⟨_, rfl, rfl, h⟩ | cases h
def asStr : D → (Str → Prop) → Prop
  | .str i, k => k i
  | _, _ => False
theorem asStr_ok {x : D} {v : V} {k : Str → Prop} (i : Is K F v x) (h : asStr x k) : ∃ j, v = .str j ∧ x = .str j ∧ k j := by
  cases i <;> first | exact ⟨_, rfl, rfl, h⟩ | cases h
theorem lend {k : D → Mem → Prop} {Q : VK} {v : V} {x : D} (f : Fr K G F H M) (q : Po K G F k Q) (i : Is K F v x) (h : k x M) : Q v H := q F H v x M h (Ex.refl F) f i
theorem lendT {k : D → Mem → Prop} {Q : VK} {vs : List V} {xs : List D} (f : Fr K G F H M) (q : Po K G F k Q) (i : IsAll K F vs xs) (h : k (.tup xs) M) {p : Addr} (n : H p = none) : Q (.ref p) (upd H p (.tup vs)) :=
  q _ _ (.ref p) _ M h (f.exl n) (f.laid n) (.tup (SqT.of upd_same) (i.up (f.exl n)))
/-! ### two-place operators -/
def dAdd (m : Bool) : D2 := fun x y M k => match x with
  | .int i => asInt y fun j => k (.int (i + j)) M
  | .str a => asStr y fun b => Sz (a.length + b.length) (k (.str (a ++ b)) M)
  | .tup xs => asT y fun ys => Sz (xs.length + ys.length) (k (.tup (xs ++ ys)) M)
  | x => asLL x M fun xs => asLL y M fun ys => Sz (xs.length + ys.length) (mkL m (xs ++ ys) M k)
theorem s_add {m : Bool} : Sd2 K (qAdd K) (dAdd m) := fun G F H M x y v u k Q f ix iy h q => by
  have lists : (asLL x M fun xs => asLL y M fun ys => Sz (xs.length + ys.length) (mkL m (xs ++ ys) M k)) → qAdd K v u H Q := fun h => by
    obtain ⟨a, vs, xs, rfl, i1, e1, h⟩ := asLL_ok f ix h
    obtain ⟨b, ws, ys, rfl, i2, e2, h⟩ := asLL_ok f iy h
    obtain ⟨hl, h⟩ := h.get
    exact .inr (.inr (.inl ⟨a, b, vs, ws, rfl, rfl, .inl e1, .inl e2, by rw [i1.len, i2.len]; exact hl, fun p n => mkL_ok f (i1.app i2) h q n⟩))
  cases x with
  | int i =>
    cases ix
    obtain ⟨j, rfl, rfl, h⟩ := asInt_ok iy h
    exact .inl ⟨i, j, rfl, rfl, lend f q (.int _) h⟩
  | str a =>
    cases ix
    obtain ⟨b, rfl, rfl, h⟩ := asStr_ok iy h
    obtain ⟨hl, h⟩ := h.get
    exact .inr (.inl ⟨a, b, rfl, rfl, hl, lend f q (.str _) h⟩)
  | tup xs =>
    obtain ⟨a, vs, xs', rfl, i1, e1, _, ex⟩ := asT_ok (k := fun _ => True) f ix trivial
    cases ex
    obtain ⟨b, ws, ys, rfl, i2, e2, hz, rfl⟩ := asT_ok f iy h
    obtain ⟨hl, hk⟩ := hz.get
    refine .inr (.inr (.inr ⟨a, b, vs, ws, rfl, rfl, e1, e2, by rw [i1.len, i2.len]; exact hl, fun e => ?_, fun _ e => ?_, fun _ _ p hp => lendT f q (i1.app i2) hk hp⟩))
    · subst e; cases i1; exact lend f q iy hk
    · subst e; cases i2
      have e2 : xs ++ [] = xs := List.append_nil xs
      rw [e2] at hk
      exact lend f q ix hk
  | _ => exact lists h
def dSub : D2 := fun x y M k => asInt x fun i => asInt y fun j => k (.int (i - j)) M
theorem s_sub : Sd2 K qSub dSub := fun G F H M x y v u k Q f ix iy h q => by
  obtain ⟨i, rfl, rfl, h⟩ := asInt_ok ix h
  obtain ⟨j, rfl, rfl, h⟩ := asInt_ok iy h
  exact ⟨i, j, rfl, rfl, lend f q (.int _) h⟩
/-- products that the model makes -/
def MulOk (i j : Int) : Prop := CMul i j ∨ CMulW i j
@[irreducible] def mulD (i j : Int) (k : Int → Prop) : Prop := MulOk i j ∧ k (i * j)
theorem mulD.get {i j : Int} {k : Int → Prop} (h : mulD i j k) : MulOk i j ∧ k (i * j) := by unfold mulD at h; exact h
theorem mul_of {i j : Int} {k : Int → Prop} (h0 : MulOk i j) (h : k (i * j)) : mulD i j k := by unfold mulD; exact ⟨h0, h⟩
theorem mul_l {i j : Int} {k : Int → Prop} (h0 : -(2 ^ 64) < i ∧ i < 2 ^ 64) (h : k (i * j)) : mulD i j k := mul_of (.inl (.inl h0)) h
theorem mul_r {i j : Int} {k : Int → Prop} (h0 : -(2 ^ 64) < j ∧ j < 2 ^ 64) (h : k (i * j)) : mulD i j k := mul_of (.inl (.inr h0)) h
theorem big_log {j : Int} {n : Nat} (hn : 0 < n) (h : j.natAbs < 2 ^ n) : j.natAbs.log2 < n := PySem.Flt.log2_lt_of hn h
theorem mul_w {i j : Int} {n m : Nat} {k : Int → Prop} (hi : i.natAbs < 2 ^ n) (hj : j.natAbs < 2 ^ m) (hn : 0 < n) (hm : 0 < m) (hs : n + m ≤ 1000000) (h : k (i * j)) : mulD i j k := mul_of (.inr (by
  have := big_log hn hi
  have := big_log hm hj
  show i.natAbs.log2 + j.natAbs.log2 < 1000000
  omega)) h
/-- a list again and again -/
@[irreducible] def repD (n : Nat) (j : Int) (P : Prop) : Prop := (-(2 ^ 63) ≤ j ∧ j < 2 ^ 63) ∧ n * j.toNat ≤ sizeLine ∧ P
theorem repD.get {n : Nat} {j : Int} {P : Prop} (h : repD n j P) : (-(2 ^ 63) ≤ j ∧ j < 2 ^ 63) ∧ n * j.toNat ≤ sizeLine ∧ P := by unfold repD at h; exact h
theorem rep_of {n : Nat} {j : Int} {P : Prop} (h1 : -(2 ^ 63) ≤ j ∧ j < 2 ^ 63) (h2 : n * j.toNat ≤ 16777216) (h : P) : repD n j P := by unfold repD; exact ⟨h1, by rw [sizeLine_eq]; exact h2, h⟩
def dMul (m : Bool) : D2 := fun x y M k => asInt y fun j => match x with
  | .int i => mulD i j fun n => k (.int n) M
  | x => asLL x M fun xs => repD xs.length j (mkL m (List.replicate j.toNat xs).flatten M k)
theorem s_mul {m : Bool} : Sd2 K qMul (dMul m) := fun G F H M x y v u k Q f ix iy h q => by
  obtain ⟨j, rfl, rfl, h⟩ := asInt_ok iy h
  have lists : (asLL x M fun xs => repD xs.length j (mkL m (List.replicate j.toNat xs).flatten M k)) → qMul v (.int j) H Q := fun h => by
    obtain ⟨a, vs, xs, rfl, i1, e1, h⟩ := asLL_ok f ix h
    obtain ⟨h1, hl, h⟩ := h.get
    exact .inr (.inr ⟨a, j, vs, rfl, rfl, e1, h1.1, h1.2, by rw [i1.len]; exact hl, fun p n => mkL_ok f (i1.rep _) h q n⟩)
  cases x with
  | int i =>
    cases ix
    obtain ⟨h0, h⟩ := mulD.get h
    rcases h0 with c | c
    · exact .inl ⟨i, j, rfl, rfl, c, lend f q (.int _) h⟩
    · exact .inr (.inl ⟨i, j, rfl, rfl, c, lend f q (.int _) h⟩)
  | _ => exact lists h
@[irreducible] def fdD (i j : Int) (k : Int → Prop) : Prop := (0 < j ∧ j.natAbs.log2 < 9000 ∧ k (i / j)) ∨ (j < 0 ∧ j.natAbs < 1073741824 ∧ k (i.fdiv j))
theorem fdD.get {i j : Int} {k : Int → Prop} (h : fdD i j k) : (0 < j ∧ j.natAbs.log2 < 9000 ∧ k (i / j)) ∨ (j < 0 ∧ j.natAbs < 1073741824 ∧ k (i.fdiv j)) := by unfold fdD at h; exact h
theorem fd_pos {i j : Int} {k : Int → Prop} (h0 : 0 < j ∧ j < 2 ^ 63) (h : k (i / j)) : fdD i j k := by unfold fdD; exact .inl ⟨h0.1, Nat.lt_trans (big_log (n := 63) (by decide) (by omega)) (by decide), h⟩
theorem fd_w {i j : Int} {k : Int → Prop} (h0 : 0 < j) (n : Nat) (hn : 0 < n) (h1 : j.natAbs < 2 ^ n) (h2 : n ≤ 9000) (h : k (i / j)) : fdD i j k := by unfold fdD; exact .inl ⟨h0, Nat.lt_of_lt_of_le (big_log hn h1) h2, h⟩
theorem fd_neg {i j : Int} {k : Int → Prop} (h0 : j < 0 ∧ -1073741824 < j) (h : k (i.fdiv j)) : fdD i j k := by unfold fdD; exact .inr ⟨h0.1, by omega, h⟩
def dFd : D2 := fun x y M k => asInt x fun i => asInt y fun j => fdD i j fun n => k (.int n) M
theorem s_fd : Sd2 K qFd dFd := fun G F H M x y v u k Q f ix iy h q => by
  obtain ⟨i, rfl, rfl, h⟩ := asInt_ok ix h
  obtain ⟨j, rfl, rfl, h⟩ := asInt_ok iy h
  rcases fdD.get h with ⟨h1, h2, h⟩ | ⟨h1, h2, h⟩
  · exact .inr ⟨i, j, rfl, rfl, ⟨h1, h2⟩, lend f q (.int _) h⟩
  · exact .inl ⟨i, j, rfl, rfl, ⟨by omega, h2⟩, lend f q (.int _) h⟩
@[irreducible] def mdD (i j : Int) (k : Int → Prop) : Prop := (0 < j ∧ k (i % j)) ∨ (j < 0 ∧ k (i.fmod j))
theorem mdD.get {i j : Int} {k : Int → Prop} (h : mdD i j k) : (0 < j ∧ k (i % j)) ∨ (j < 0 ∧ k (i.fmod j)) := by unfold mdD at h; exact h
theorem md_pos {i j : Int} {k : Int → Prop} (h0 : 0 < j) (h : k (i % j)) : mdD i j k := by unfold mdD; exact .inl ⟨h0, h⟩
theorem md_neg {i j : Int} {k : Int → Prop} (h0 : j < 0) (h : k (i.fmod j)) : mdD i j k := by unfold mdD; exact .inr ⟨h0, h⟩
def dMd : D2 := fun x y M k => asInt x fun i => asInt y fun j => mdD i j fun n => k (.int n) M
theorem s_md : Sd2 K qMd dMd := fun G F H M x y v u k Q f ix iy h q => by
  obtain ⟨i, rfl, rfl, h⟩ := asInt_ok ix h
  obtain ⟨j, rfl, rfl, h⟩ := asInt_ok iy h
  rcases mdD.get h with ⟨h1, h⟩ | ⟨h1, h⟩
  · exact .inl ⟨i, j, rfl, rfl, h1, lend f q (.int _) h⟩
  · exact .inr ⟨i, j, rfl, rfl, by omega, lend f q (.int _) h⟩
@[irreducible] def pwD (i j : Int) (k : Int → Prop) : Prop := CPow i j ∧ k (i ^ j.toNat)
theorem pwD.get {i j : Int} {k : Int → Prop} (h : pwD i j k) : CPow i j ∧ k (i ^ j.toNat) := by unfold pwD at h; exact h
theorem pw_of {i j : Int} {k : Int → Prop} (h0 : 0 ≤ j ∧ j ≤ 1000000) (h1 : i.natAbs < 2 ^ 64) (h : k (i ^ j.toNat)) : pwD i j k := by unfold pwD; exact ⟨⟨h0.1, h0.2, h1⟩, h⟩
def dPw : D2 := fun x y M k => asInt x fun i => asInt y fun j => pwD i j fun n => k (.int n) M
theorem s_pw : Sd2 K qPw dPw := fun G F H M x y v u k Q f ix iy h q => by
  obtain ⟨i, rfl, rfl, h⟩ := asInt_ok ix h
  obtain ⟨j, rfl, rfl, h⟩ := asInt_ok iy h
  obtain ⟨c, h⟩ := h.get
  exact ⟨i, j, rfl, rfl, c, lend f q (.int _) h⟩
def dLt : D2 := fun x y M k => match x with
  | .tup xs => asT y fun ys => intsD xs fun ns => intsD ys fun ms => k (.bl (HT.lexLt ns ms)) M
  | x => asInt x fun i => asInt y fun j => k (.bl (decide (i < j))) M
theorem s_lt : Sd2 K (qLt K) dLt := fun G F H M x y v u k Q f ix iy h q => by
  have two_ : (asInt x fun i => asInt y fun j => k (.bl (decide (i < j))) M) → qLt K v u H Q := fun h => by
    obtain ⟨i, rfl, rfl, h⟩ := asInt_ok ix h
    obtain ⟨j, rfl, rfl, h⟩ := asInt_ok iy h
    exact .inl ⟨i, j, rfl, rfl, lend f q (.bl _) h⟩
  cases x with
  | tup xs =>
    obtain ⟨_, _, ys, rfl, _, _, hy, rfl⟩ := asT_ok f iy h
    obtain ⟨ns, e1, hy⟩ := hy.get
    obtain ⟨ms, e2, hy⟩ := hy.get
    cases ix with
    | tup a1 a2 =>
      cases iy with
      | tup b1 b2 =>
        rw [e1] at a2
        rw [e2] at b2
        have z1 := IsAll.li ns a2
        have z2 := IsAll.li ms b2
        subst z1 z2
        exact .inr ⟨_, _, ns, ms, rfl, rfl, Evl.ex_t f.fh a1, Evl.ex_t f.fh b1, lend f q (.bl _) hy⟩
  | _ => exact two_ h
def dLe : D2 := fun x y M k => asInt x fun i => asInt y fun j => k (.bl (decide (i ≤ j))) M
def dGt : D2 := fun x y M k => asInt x fun i => asInt y fun j => k (.bl (decide (j < i))) M
def dGe : D2 := fun x y M k => asInt x fun i => asInt y fun j => k (.bl (decide (j ≤ i))) M
theorem s_le : Sd2 K qLe dLe := fun G F H M x y v u k Q f ix iy h q => by
  obtain ⟨i, rfl, rfl, h⟩ := asInt_ok ix h
  obtain ⟨j, rfl, rfl, h⟩ := asInt_ok iy h
  exact ⟨i, j, rfl, rfl, lend f q (.bl _) h⟩
theorem s_gt : Sd2 K qGt dGt := fun G F H M x y v u k Q f ix iy h q => by
  obtain ⟨i, rfl, rfl, h⟩ := asInt_ok ix h
  obtain ⟨j, rfl, rfl, h⟩ := asInt_ok iy h
  exact ⟨i, j, rfl, rfl, lend f q (.bl _) h⟩
theorem s_ge : Sd2 K qGe dGe := fun G F H M x y v u k Q f ix iy h q => by
  obtain ⟨i, rfl, rfl, h⟩ := asInt_ok ix h
  obtain ⟨j, rfl, rfl, h⟩ := asInt_ok iy h
  exact ⟨i, j, rfl, rfl, lend f q (.bl _) h⟩
/-- == of data -/
@[irreducible] def eqG (x y : D) (M : Mem) (k : Bool → Prop) : Prop := ∃ p q, pyM M x = some p ∧ pyM M y = some q ∧ SeqAt.shaped p = true ∧ SeqAt.shaped q = true ∧ k (PyData.eqv p q)
theorem eqG.get {x y : D} {M : Mem} {k : Bool → Prop} (h : eqG x y M k) : ∃ p q, pyM M x = some p ∧ pyM M y = some q ∧ SeqAt.shaped p = true ∧ SeqAt.shaped q = true ∧ k (PyData.eqv p q) := by unfold eqG at h; exact h
theorem eq_of {x y : D} {M : Mem} {k : Bool → Prop} {p q : PyData} {n m : Nat} (hx : Pk n x p) (hy : Pk m y q) (hn : n ≤ 64) (hm : m ≤ 64) (h : k (PyData.eqv p q)) : eqG x y M k := by
  have e : ∀ {x : D} {p : PyData}, py x = some p → pyM M x = some p := fun {x p} e => by
    cases x with
    | ref a => simp [py] at e
    | _ => exact e
  unfold eqG
  exact ⟨p, q, e hx.py, e hy.py, hx.sh hn, hy.sh hm, h⟩
theorem eq_ref {a : Addr} {xs : List D} {y : D} {M : Mem} {k : Bool → Prop} {p q : PyData} {n m : Nat} (ea : M a = some (.lst xs)) (hx : Pk n (.lst xs) p) (hy : Pk m y q) (hn : n ≤ 64) (hm : m ≤ 64) (h : k (PyData.eqv p q)) : eqG (.ref a) y M k := by
  have e : ∀ {x : D} {p : PyData}, py x = some p → pyM M x = some p := fun {x p} e => by
    cases x with
    | ref a => simp [py] at e
    | _ => exact e
  unfold eqG
  refine ⟨p, q, ?_, e hy.py, hx.sh hn, hy.sh hm, h⟩
  simp only [pyM, ea]
  exact hx.py
theorem eq_tt {l m : List Int} {M : Mem} {k : Bool → Prop} (h : k (decide (l = m))) : eqG (.tup (Li l)) (.tup (Li m)) M k := eq_of (pk_tup (n := 0) (pka_ints l)) (pk_tup (n := 0) (pka_ints m)) (by omega) (by omega) (by
  show k (PyData.eqvAll _ _)
  rw [eqv_ints]; exact h)
theorem eq_ll {l m : List Int} {M : Mem} {k : Bool → Prop} (h : k (decide (l = m))) : eqG (.lst (Li l)) (.lst (Li m)) M k := eq_of (pk_lst (n := 0) (pka_ints l)) (pk_lst (n := 0) (pka_ints m)) (by omega) (by omega) (by
  show k (PyData.eqvAll _ _)
  rw [eqv_ints]; exact h)
theorem eq_lref {a : Addr} {l m : List Int} {M : Mem} {k : Bool → Prop} (ea : M a = some (.lst (Li l))) (h : k (decide (l = m))) : eqG (.ref a) (.lst (Li m)) M k := eq_ref ea (pk_lst (n := 0) (pka_ints l)) (pk_lst (n := 0) (pka_ints m)) (by omega) (by omega) (by
  show k (PyData.eqvAll _ _)
  rw [eqv_ints]; exact h)
theorem eq_nonint {j : Int} {M : Mem} {k : Bool → Prop} (h : k false) : eqG .non (.int j) M k := eq_of (n := 0) (m := 0) pk_non pk_int (by omega) (by omega) (by simpa [PyData.eqv] using h)
theorem eq_intnon {j : Int} {M : Mem} {k : Bool → Prop} (h : k false) : eqG (.int j) .non M k := eq_of (n := 0) (m := 0) pk_int pk_non (by omega) (by omega) (by simpa [PyData.eqv] using h)
theorem eq_nonnon {M : Mem} {k : Bool → Prop} (h : k true) : eqG .non .non M k := eq_of (n := 0) (m := 0) pk_non pk_non (by omega) (by omega) (by simpa [PyData.eqv] using h)
theorem eq_blbl {a b : Bool} {M : Mem} {k : Bool → Prop} (h : k (a == b)) : eqG (.bl a) (.bl b) M k := eq_of (n := 0) (m := 0) pk_bl pk_bl (by omega) (by omega) (by simpa [PyData.eqv] using h)
def eqD (x y : D) (M : Mem) (k : Bool → Prop) : Prop := match x, y with
  | .int i, .int j => k (decide (i = j))
  | .str i, .str j => k (decide (i = j))
  | x, y => eqG x y M k
def dEq : D2 := fun x y M k => eqD x y M fun b => k (.bl b) M
def dNe : D2 := fun x y M k => eqD x y M fun b => k (.bl (!b)) M
theorem s_eq : Sd2 K (qEq K) dEq := fun G F H M x y v u k Q f ix iy h q => by
  unfold dEq eqD at h
  split at h
  · cases ix; cases iy; exact .inl ⟨rfl, by rw [dec_intV]; exact lend f q (.bl _) h⟩
  · cases ix; cases iy; exact .inl ⟨rfl, by rw [dec_strV]; exact lend f q (.bl _) h⟩
  · obtain ⟨p, p', h1, h2, h3, h4, h⟩ := h.get
    exact .inr ⟨p, p', dp_of f ix h1, dp_of f iy h2, h3, h4, lend f q (.bl _) h⟩
theorem s_ne : Sd2 K (qNe K) dNe := fun G F H M x y v u k Q f ix iy h q => by
  unfold dNe eqD at h
  split at h
  · cases ix; cases iy; exact .inl ⟨rfl, by rw [dec_intV]; exact lend f q (.bl _) h⟩
  · cases ix; cases iy; exact .inl ⟨rfl, by rw [dec_strV]; exact lend f q (.bl _) h⟩
  · obtain ⟨p, p', h1, h2, h3, h4, h⟩ := h.get
    exact .inr ⟨p, p', dp_of f ix h1, dp_of f iy h2, h3, h4, lend f q (.bl _) h⟩
def isNon : D → Bool
  | .non => true
  | _ => false
def asNon : D → Prop → Prop
  | .non, P => P
  | _, _ => False
theorem non_ok {x : D} {v : V} (i : Is K F v x) : decide (v = V.non) = isNon x := by cases i <;> rfl
def dIs : D2 := fun x y M k => asNon y (k (.bl (isNon x)) M)
def dIsn : D2 := fun x y M k => asNon y (k (.bl (!isNon x)) M)
theorem s_is : Sd2 K qIs dIs := fun G F H M x y v u k Q f ix iy h q => by
  cases iy with
  | non => exact ⟨rfl, by rw [non_ok ix]; exact lend f q (.bl _) h⟩
  | _ => cases h
theorem s_isn : Sd2 K qIsn dIsn := fun G F H M x y v u k Q f ix iy h q => by
  cases iy with
  | non => exact ⟨rfl, by rw [non_ok ix]; exact lend f q (.bl _) h⟩
  | _ => cases h
theorem atI_map {vs : List V} {xs : List D} {x : D} (h : IsAll K F vs xs) {i : Int} (e : atI xs i = some x) : ∃ v, atI vs i = some v ∧ Is K F v x := by
  unfold atI at e ⊢
  obtain ⟨j, e1, e2⟩ := Option.bind_eq_some_iff.mp e
  obtain ⟨v, h1, h2⟩ := h.get e2
  exact ⟨v, by rw [h.len, e1]; exact h1, h2⟩
@[irreducible] def ixD (xs : List D) (i : Int) (k : D → Prop) : Prop := ∃ d, atI xs i = some d ∧ k d
theorem ixD.get {xs : List D} {i : Int} {k : D → Prop} (h : ixD xs i k) : ∃ d, atI xs i = some d ∧ k d := by unfold ixD at h; exact h
theorem ix_of {xs : List D} {i : Int} {k : D → Prop} {d : D} (e : atI xs i = some d) (h : k d) : ixD xs i k := by unfold ixD; exact ⟨d, e, h⟩
@[irreducible] def ixS (z : Str) (i : Int) (k : D → Prop) : Prop := z.length ≤ sizeLine ∧ ∃ c, atI z.cps.toList i = some c ∧ k (.str ⟨#[c]⟩)
theorem ixS.get {z : Str} {i : Int} {k : D → Prop} (h : ixS z i k) : z.length ≤ sizeLine ∧ ∃ c, atI z.cps.toList i = some c ∧ k (.str ⟨#[c]⟩) := by unfold ixS at h; exact h
theorem ixs_of {z : Str} {i : Int} {k : D → Prop} {c : Nat} (hz : z.length ≤ 16777216) (e : atI z.cps.toList i = some c) (h : k (.str ⟨#[c]⟩)) : ixS z i k := by unfold ixS; exact ⟨by rw [sizeLine_eq]; exact hz, c, e, h⟩
def dIx : D2 := fun x y M k => asInt y fun i => match x with
  | .str z => ixS z i fun d => k d M
  | x => asS x M fun xs => ixD xs i fun d => k d M
theorem s_ix : Sd2 K (rIx K) dIx := fun G F H M x y v u k Q f ix iy h q => by
  obtain ⟨i, rfl, rfl, h⟩ := asInt_ok iy h
  have seqs : (asS x M fun xs => ixD xs i fun d => k d M) → rIx K v (.int i) H Q := fun h => by
    obtain ⟨a, vs, xs, rfl, i1, r1, h⟩ := asS_ok f ix h
    obtain ⟨d, e, h⟩ := h.get
    obtain ⟨u, e1, iu⟩ := atI_map i1 e
    rcases r1 with r1 | r1
    · exact .inl ⟨a, vs, i, u, rfl, rfl, r1, e1, lend f q iu h⟩
    · exact .inr (.inl ⟨a, vs, i, u, rfl, rfl, r1, e1, lend f q iu h⟩)
  cases x with
  | str z =>
    cases ix
    obtain ⟨hl, c, e, h⟩ := ixS.get h
    exact .inr (.inr ⟨z, i, c, rfl, rfl, hl, e, lend f q (.str _) h⟩)
  | _ => exact seqs h
theorem inV_ints {i : Int} : ∀ l : List Int, inV (.int i) (l.map V.int) = decide (i ∈ l)
  | [] => by simp [inV]
  | j :: l => by
    have z := inV_ints (i := i) l
    unfold inV at z ⊢
    rw [List.map_cons, List.any_cons, z]
    show ((j == i) || decide (i ∈ l)) = decide (i ∈ j :: l)
    by_cases h : j = i
    · subst h; simp
    · have : i ≠ j := fun e => h e.symm
      simp [h, this]
theorem flat_ints : ∀ l : List Int, (l.map V.int).all flatV = true
  | [] => rfl
  | _ :: l => flat_ints l
theorem inV_strs {i : Str} : ∀ l : List Str, inV (.str i) (l.map V.str) = decide (i ∈ l)
  | [] => by simp [inV]
  | j :: l => by
    have z := inV_strs (i := i) l
    unfold inV at z ⊢
    rw [List.map_cons, List.any_cons, z]
    show ((j == i) || decide (i ∈ l)) = decide (i ∈ j :: l)
    by_cases h : j = i
    · subst h; simp
    · have : i ≠ j := fun e => h e.symm
      have h' : (j == i) = false := by simpa using h
      rw [h']
      simp [this]
theorem flat_strs : ∀ l : List Str, (l.map V.str).all flatV = true
  | [] => rfl
  | _ :: l => flat_strs l
/-- x in y -/
@[irreducible] def signD (z : Str) (k : Nat → Prop) : Prop := ∃ c, z = ⟨#[c]⟩ ∧ k c
theorem signD.get {z : Str} {k : Nat → Prop} (h : signD z k) : ∃ c, z = ⟨#[c]⟩ ∧ k c := by unfold signD at h; exact h
theorem sign_of {c : Nat} {k : Nat → Prop} (h : k c) : signD ⟨#[c]⟩ k := by unfold signD; exact ⟨c, rfl, h⟩
@[irreducible] def inG (x y : D) (M : Mem) (k : Bool → Prop) : Prop := ∃ d ds, pyM M x = some d ∧ pyM M y = some (.list ds) ∧ SeqAt.shaped d = true ∧ SeqAt.shaped (.list ds) = true ∧ k (ds.any fun z => PyData.eqv z d)
theorem inG.get {x y : D} {M : Mem} {k : Bool → Prop} (h : inG x y M k) : ∃ d ds, pyM M x = some d ∧ pyM M y = some (.list ds) ∧ SeqAt.shaped d = true ∧ SeqAt.shaped (.list ds) = true ∧ k (ds.any fun z => PyData.eqv z d) := by unfold inG at h; exact h
def inD (x y : D) (M : Mem) (k : Bool → Prop) : Prop := match x with
  | .int i => asS y M fun ys => intsD ys fun l => k (decide (i ∈ l))
  | .str z => match y with
    | .str w => signD z fun c => k (decide (c ∈ w.cps.toList))
    | y => asS y M fun ys => strsD ys fun l => k (decide (z ∈ l))
  | x => inG x y M k
def dIn : D2 := fun x y M k => inD x y M fun b => k (.bl b) M
def dNin : D2 := fun x y M k => inD x y M fun b => k (.bl (!b)) M
theorem s_in : Sd2 K (qIn K) dIn := fun G F H M x y v u k Q f ix iy h q => by
  have gen : (inG x y M fun b => k (.bl (b)) M) → qIn K v u H Q := fun h => let ⟨d, ds, h1, h2, h3, h4, h⟩ := h.get
    .inr (.inr (.inr ⟨d, ds, dp_of f ix h1, dp_of f iy h2, h3, h4, lend f q (.bl _) h⟩))
  cases x with
  | int i =>
    cases ix
    obtain ⟨a, vs, xs, rfl, i1, r1, h⟩ := asS_ok f iy h
    have h2 := h.get; clear h; obtain ⟨l, rfl, h⟩ := h2
    have e := IsAll.li l i1
    subst e
    exact .inr (.inl ⟨a, _, rfl, r1, rfl, flat_ints l, by
      show Q (.bl (inV (.int i) (l.map V.int))) H
      rw [inV_ints]; exact lend f q (.bl _) h⟩)
  | str z =>
    cases ix
    have seqs : (asS y M fun ys => strsD ys fun l => k (.bl (decide (z ∈ l))) M) → qIn K (.str z) u H Q := fun h => by
      obtain ⟨a, vs, xs, rfl, i1, r1, h⟩ := asS_ok f iy h
      have h2 := h.get; clear h; obtain ⟨l, rfl, h⟩ := h2
      have e := IsAll.ls l i1
      subst e
      exact .inr (.inl ⟨a, _, rfl, r1, rfl, flat_strs l, by
        show Q (.bl (inV (.str z) (l.map V.str))) H
        rw [inV_strs]; exact lend f q (.bl _) h⟩)
    cases y with
    | str w =>
      cases iy
      have h2 := signD.get h; clear h; obtain ⟨c, rfl, h⟩ := h2
      exact .inl ⟨c, w, rfl, rfl, lend f q (.bl _) h⟩
    | _ => exact seqs h
  | _ => exact gen h
theorem s_nin : Sd2 K (qNin K) dNin := fun G F H M x y v u k Q f ix iy h q => by
  have gen : (inG x y M fun b => k (.bl (!b)) M) → qNin K v u H Q := fun h => let ⟨d, ds, h1, h2, h3, h4, h⟩ := h.get
    .inr (.inr (.inr ⟨d, ds, dp_of f ix h1, dp_of f iy h2, h3, h4, lend f q (.bl _) h⟩))
  cases x with
  | int i =>
    cases ix
    obtain ⟨a, vs, xs, rfl, i1, r1, h⟩ := asS_ok f iy h
    have h2 := h.get; clear h; obtain ⟨l, rfl, h⟩ := h2
    have e := IsAll.li l i1
    subst e
    exact .inr (.inl ⟨a, _, rfl, r1, rfl, flat_ints l, by
      show Q (.bl (!inV (.int i) (l.map V.int))) H
      rw [inV_ints]; exact lend f q (.bl _) h⟩)
  | str z =>
    cases ix
    have seqs : (asS y M fun ys => strsD ys fun l => k (.bl (!decide (z ∈ l))) M) → qNin K (.str z) u H Q := fun h => by
      obtain ⟨a, vs, xs, rfl, i1, r1, h⟩ := asS_ok f iy h
      have h2 := h.get; clear h; obtain ⟨l, rfl, h⟩ := h2
      have e := IsAll.ls l i1
      subst e
      exact .inr (.inl ⟨a, _, rfl, r1, rfl, flat_strs l, by
        show Q (.bl (!inV (.str z) (l.map V.str))) H
        rw [inV_strs]; exact lend f q (.bl _) h⟩)
    cases y with
    | str w =>
      cases iy
      have h2 := signD.get h; clear h; obtain ⟨c, rfl, h⟩ := h2
      exact .inl ⟨c, w, rfl, rfl, lend f q (.bl _) h⟩
    | _ => exact seqs h
  | _ => exact gen h
def dNeg : D1 := fun x M k => asInt x fun i => k (.int (-i)) M
theorem s_neg : Sd1 K (rU fun i => .int (-i)) dNeg := fun G F H M x v k Q f ix h q => by
  obtain ⟨i, rfl, rfl, h⟩ := asInt_ok ix h
  exact ⟨i, rfl, lend f q (.int _) h⟩
/-! ### built-ins -/
def b1 (d : D → Mem → (D → Mem → Prop) → Prop) : DA := fun xs M k => match xs with
  | [x] => d x M k
  | _ => False
theorem sb1 {r : List V → Hp → VK → Prop} {d : D1} (h : ∀ G F H M x v k Q, Fr K G F H M → Is K F v x → d x M k → Po K G F k Q → r [v] H Q) : SdB K r (b1 d) := fun G F H M xs vs k Q f i hd q => by
  cases i with
  | nil => cases hd
  | cons a b => cases b with
    | nil => exact h G F H M _ _ k Q f a hd q
    | cons _ _ => cases hd
def dLen : D1 := fun x M k => match x with
  | .str z => Sz z.length (k (.int (z.length : Nat)) M)
  | x => asS x M fun xs => k (.int (xs.length : Nat)) M
theorem s_len : SdB K (qLen K) (b1 dLen) := sb1 fun G F H M x v k Q f ix h q => by
  have seqs : (asS x M fun xs => k (.int (xs.length : Nat)) M) → qLen K [v] H Q := fun h => by
    obtain ⟨a, vs, xs, rfl, i1, r1, h⟩ := asS_ok f ix h
    refine ⟨_, vs.length, rfl, ?_, ?_⟩
    · rcases r1 with r1 | r1
      · exact .inl ⟨vs, r1, rfl⟩
      · exact .inr ⟨vs, r1, rfl⟩
    · rw [i1.len]; exact lend f q (.int _) h
  cases x with
  | str z => cases ix; exact ⟨_, z.length, rfl, ⟨(Sz.get h).1, rfl⟩, lend f q (.int _) (Sz.get h).2⟩
  | _ => exact seqs h
@[irreducible] def readD (z : Str) (k : Int → Prop) : Prop := ∃ n, PySem.intText? z = some n ∧ z.length ≤ 640 ∧ k n
theorem readD.get {z : Str} {k : Int → Prop} (h : readD z k) : ∃ n, PySem.intText? z = some n ∧ z.length ≤ 640 ∧ k n := by unfold readD at h; exact h
theorem read_of {z : Str} {k : Int → Prop} {n : Int} (e : PySem.intText? z = some n) (hz : z.length ≤ 640) (h : k n) : readD z k := by unfold readD; exact ⟨n, e, hz, h⟩
@[irreducible] def strD (i : Int) (k : Str → Prop) : Prop := i.natAbs.log2 < 1920 ∧ k (toString i)
theorem strD.get {i : Int} {k : Str → Prop} (h : strD i k) : i.natAbs.log2 < 1920 ∧ k (toString i) := by unfold strD at h; exact h
theorem str_of {i : Int} {k : Str → Prop} (h0 : i.natAbs < 10 ^ 100) (h : k (toString i)) : strD i k := by
  unfold strD
  refine ⟨Nat.lt_of_lt_of_le (big_log (n := 350) (by decide) (Nat.lt_of_lt_of_le h0 (by decide +kernel))) (by decide), h⟩
def dInt : D1 := fun x M k => match x with
  | .int i => k (.int i) M
  | .bl b => k (.int (if b then 1 else 0)) M
  | .str z => readD z fun n => k (.int n) M
  | _ => False
theorem s_int : SdB K qInt (b1 dInt) := sb1 fun G F H M x v k Q f ix h q => by
  cases ix with
  | int i => exact .inl (.inl ⟨i, rfl, lend f q (.int _) h⟩)
  | bl b => exact .inl (.inr ⟨b, rfl, lend f q (.int _) h⟩)
  | str z => obtain ⟨n, h1, h2, h⟩ := readD.get h; exact .inr ⟨z, n, rfl, h1, h2, lend f q (.int _) h⟩
  | _ => cases h
def dStr : D1 := fun x M k => asInt x fun i => strD i fun z => k (.str z) M
theorem s_str : SdB K qStr (b1 dStr) := sb1 fun G F H M x v k Q f ix h q => by
  obtain ⟨i, rfl, rfl, h⟩ := asInt_ok ix h
  obtain ⟨h1, h⟩ := h.get
  exact ⟨i, rfl, h1, lend f q (.str _) h⟩
def dAbs : D1 := fun x M k => asInt x fun i => k (.int (i.natAbs : Nat)) M
theorem s_abs : SdB K qAbs (b1 dAbs) := sb1 fun G F H M x v k Q f ix h q => by
  obtain ⟨i, rfl, rfl, h⟩ := asInt_ok ix h
  have e : (if i < 0 then -i else i) = (i.natAbs : Int) := by split <;> omega
  exact ⟨i, rfl, by rw [e]; exact lend f q (.int _) h⟩
def dBool : D1 := fun x M k => match x with
  | .int i => k (.bl (i != 0)) M
  | .bl b => k (.bl b) M
  | _ => False
theorem s_bool : SdB K qBool (b1 dBool) := sb1 fun G F H M x v k Q f ix h q => by
  cases ix with
  | int i => exact .inl ⟨i, rfl, lend f q (.bl _) h⟩
  | bl b => exact .inr ⟨b, rfl, lend f q (.bl _) h⟩
  | _ => cases h
def dSum : D1 := fun x M k => asLL x M fun xs => intsD xs fun l => k (.int l.sum) M
theorem s_sum : SdB K (rSum K) (b1 dSum) := sb1 fun G F H M x v k Q f ix h q => by
  obtain ⟨a, vs, xs, rfl, i1, r1, h⟩ := asLL_ok f ix h
  have h2 := h.get; clear h; obtain ⟨l, rfl, h⟩ := h2
  have e := IsAll.li l i1
  subst e
  exact ⟨a, l, rfl, Evl.sq_of r1, lend f q (.int _) h⟩
def dAll : D1 := fun x M k => asLL x M fun xs => blsD xs fun l => k (.bl (l.all id)) M
def dAny : D1 := fun x M k => asLL x M fun xs => blsD xs fun l => k (.bl (l.any id)) M
theorem s_all : SdB K (rAll K) (b1 dAll) := sb1 fun G F H M x v k Q f ix h q => by
  obtain ⟨a, vs, xs, rfl, i1, r1, h⟩ := asLL_ok f ix h
  have h2 := h.get; clear h; obtain ⟨l, rfl, h⟩ := h2
  have e := IsAll.lb l i1
  subst e
  exact ⟨a, l, rfl, Evl.sq_of r1, lend f q (.bl _) h⟩
theorem s_any : SdB K (rAny K) (b1 dAny) := sb1 fun G F H M x v k Q f ix h q => by
  obtain ⟨a, vs, xs, rfl, i1, r1, h⟩ := asLL_ok f ix h
  have h2 := h.get; clear h; obtain ⟨l, rfl, h⟩ := h2
  have e := IsAll.lb l i1
  subst e
  exact ⟨a, l, rfl, Evl.sq_of r1, lend f q (.bl _) h⟩
/-- the greatest, the least of some ints -/
@[irreducible] def isMax (l : List Int) (k : Int → Prop) : Prop := 0 < l.length ∧ ∀ m, m ∈ l → (∀ y, y ∈ l → y ≤ m) → k m
@[irreducible] def isMin (l : List Int) (k : Int → Prop) : Prop := 0 < l.length ∧ ∀ m, m ∈ l → (∀ y, y ∈ l → m ≤ y) → k m
theorem isMax.get {l : List Int} {k : Int → Prop} (h : isMax l k) : 0 < l.length ∧ ∀ m, m ∈ l → (∀ y, y ∈ l → y ≤ m) → k m := by unfold isMax at h; exact h
theorem isMin.get {l : List Int} {k : Int → Prop} (h : isMin l k) : 0 < l.length ∧ ∀ m, m ∈ l → (∀ y, y ∈ l → m ≤ y) → k m := by unfold isMin at h; exact h
theorem max_of {l : List Int} {k : Int → Prop} (h0 : 0 < l.length) (h : ∀ m, m ∈ l → (∀ y, y ∈ l → y ≤ m) → k m) : isMax l k := by unfold isMax; exact ⟨h0, h⟩
theorem min_of {l : List Int} {k : Int → Prop} (h0 : 0 < l.length) (h : ∀ m, m ∈ l → (∀ y, y ∈ l → m ≤ y) → k m) : isMin l k := by unfold isMin; exact ⟨h0, h⟩
def dMax : DA := fun xs M k => match xs with
  | [x, y] => asInt x fun i => asInt y fun j => k (.int (max i j)) M
  | [x] => asLL x M fun xs => intsD xs fun l => isMax l fun m => k (.int m) M
  | _ => False
def dMin : DA := fun xs M k => match xs with
  | [x, y] => asInt x fun i => asInt y fun j => k (.int (min i j)) M
  | [x] => asLL x M fun xs => intsD xs fun l => isMin l fun m => k (.int m) M
  | _ => False
theorem s_max : SdB K (qMx K) dMax := fun G F H M xs vs k Q f i h q => by
  unfold dMax at h
  split at h
  · cases i with
    | cons a b => cases b with
      | cons b c =>
        cases c
        obtain ⟨i, rfl, rfl, h⟩ := asInt_ok a h
        obtain ⟨j, rfl, rfl, h⟩ := asInt_ok b h
        have e : (if j > i then j else i) = max i j := by split <;> omega
        exact .inl ⟨i, j, rfl, by rw [e]; exact lend f q (.int _) h⟩
  · cases i with
    | cons a b =>
      cases b
      obtain ⟨p, vs, xs, rfl, i1, r1, h⟩ := asLL_ok f a h
      have h2 := h.get; clear h; obtain ⟨l, rfl, h⟩ := h2
      obtain ⟨h0, h⟩ := h.get
      have e := IsAll.li l i1
      subst e
      exact .inr ⟨p, l, rfl, Evl.sq_of r1, h0, fun m h1 h2 => lend f q (.int _) (h m h1 h2)⟩
  · exact h.elim
theorem s_min : SdB K (qMn K) dMin := fun G F H M xs vs k Q f i h q => by
  unfold dMin at h
  split at h
  · cases i with
    | cons a b => cases b with
      | cons b c =>
        cases c
        obtain ⟨i, rfl, rfl, h⟩ := asInt_ok a h
        obtain ⟨j, rfl, rfl, h⟩ := asInt_ok b h
        have e : (if j < i then j else i) = min i j := by split <;> omega
        exact .inl ⟨i, j, rfl, by rw [e]; exact lend f q (.int _) h⟩
  · cases i with
    | cons a b =>
      cases b
      obtain ⟨p, vs, xs, rfl, i1, r1, h⟩ := asLL_ok f a h
      have h2 := h.get; clear h; obtain ⟨l, rfl, h⟩ := h2
      obtain ⟨h0, h⟩ := h.get
      have e := IsAll.li l i1
      subst e
      exact .inr ⟨p, l, rfl, Evl.sq_of r1, h0, fun m h1 h2 => lend f q (.int _) (h m h1 h2)⟩
  · exact h.elim
/-- tuple(x), list(x) -/
def dTuple : D1 := fun x M k => asS x M fun xs => k (.tup xs) M
theorem s_tuple : SdB K (qTup K) (b1 dTuple) := sb1 fun G F H M x v k Q f ix h q => by
  cases x with
  | tup xs =>
    obtain ⟨a, vs, xs', rfl, i1, e1, _, ex⟩ := asT_ok (k := fun _ => True) f ix trivial
    cases ex
    exact ⟨a, vs, rfl, .inr ⟨e1, lend f q ix h⟩⟩
  | lst xs =>
    cases ix with
    | lst h1 h2 => exact ⟨_, _, rfl, .inl ⟨Evl.sq_of (f.fh _ _ h1), fun p n => lendT f q h2 h n⟩⟩
  | ref a =>
    cases ix
    obtain ⟨xs, e, h⟩ := cellL.get h
    obtain ⟨_, vs, q1, q2⟩ := f.mc a _ e
    exact ⟨_, _, rfl, .inl ⟨Evl.sq_of q1, fun p n => lendT f q q2 h n⟩⟩
  | _ => cases h
def dList (m : Bool) : D1 := fun x M k => asS x M fun xs => mkL m xs M k
theorem s_list {m : Bool} : SdB K (qLst K) (b1 (dList m)) := sb1 fun G F H M x v k Q f ix h q => by
  obtain ⟨a, vs, xs, rfl, i1, r1, h⟩ := asS_ok f ix h
  exact ⟨a, vs, rfl, r1, fun p n => mkL_ok f i1 h q n⟩
/-- sorted(xs) -/
@[irreducible] def sortI (l : List Int) (k : List Int → Prop) : Prop := l.length < 64 ∧ ∀ l' : List Int, l'.Perm l → l'.Pairwise (· ≤ ·) → k l'
@[irreducible] def sortS (l : List Str) (k : List Str → Prop) : Prop := l.length < 64 ∧ ∀ l' : List Str, l'.Perm l → sortedS l' = true → k l'
theorem sortI.get {l : List Int} {k : List Int → Prop} (h : sortI l k) : l.length < 64 ∧ ∀ l' : List Int, l'.Perm l → l'.Pairwise (· ≤ ·) → k l' := by unfold sortI at h; exact h
theorem sortS.get {l : List Str} {k : List Str → Prop} (h : sortS l k) : l.length < 64 ∧ ∀ l' : List Str, l'.Perm l → sortedS l' = true → k l' := by unfold sortS at h; exact h
theorem sort_of {l : List Int} {k : List Int → Prop} (h0 : l.length < 64) (h : ∀ l' : List Int, l'.Perm l → l'.Pairwise (· ≤ ·) → k l') : sortI l k := by unfold sortI; exact ⟨h0, h⟩
theorem sorts_of {l : List Str} {k : List Str → Prop} (h0 : l.length < 64) (h : ∀ l' : List Str, l'.Perm l → sortedS l' = true → k l') : sortS l k := by unfold sortS; exact ⟨h0, h⟩
def dSorted (m : Bool) : D1 := fun x M k => asLL x M fun xs => intsD xs fun l => sortI l fun l' => mkL m (Li l') M k
def dSortedS (m : Bool) : D1 := fun x M k => asLL x M fun xs => strsD xs fun l => sortS l fun l' => mkL m (Ls l') M k
theorem s_sorted {m : Bool} : SdB K (rSorted K) (b1 (dSorted m)) := sb1 fun G F H M x v k Q f ix h q => by
  obtain ⟨a, vs, xs, rfl, i1, r1, h⟩ := asLL_ok f ix h
  have h2 := h.get; clear h; obtain ⟨l, rfl, h⟩ := h2
  obtain ⟨hl, h⟩ := h.get
  have e := IsAll.li l i1
  subst e
  exact ⟨a, l, rfl, Evl.sq_of r1, hl, fun l' p h1 h2 n => mkL_ok f (IsAll.of_li l') (h l' h1 h2) q n⟩
theorem s_sortedS {m : Bool} : SdB K (rSortedS K) (b1 (dSortedS m)) := sb1 fun G F H M x v k Q f ix h q => by
  obtain ⟨a, vs, xs, rfl, i1, r1, h⟩ := asLL_ok f ix h
  have h2 := h.get; clear h; obtain ⟨l, rfl, h⟩ := h2
  obtain ⟨hl, h⟩ := h.get
  have e := IsAll.ls l i1
  subst e
  exact ⟨a, l, rfl, Evl.sq_of r1, hl, fun l' p h1 h2 n => mkL_ok f (IsAll.of_ls l') (h l' h1 h2) q n⟩
/-! ### slices -/
def cutD {α : Type} (xs : List α) (lo hi : Option Int) : List α := (xs.drop (HT.sIx xs.length 0 lo)).take (HT.sIx xs.length xs.length hi - HT.sIx xs.length 0 lo)
theorem cut_is {vs : List V} {xs : List D} (h : IsAll K F vs xs) (lo hi : Option Int) : IsAll K F (cutV vs lo hi) (cutD xs lo hi) := by
  unfold cutV cutD
  rw [h.len]
  exact (h.drop _).take _
def slD (m : Bool) (x : D) (lo hi : Option Int) (M : Mem) (k : D → Mem → Prop) : Prop := match x with
  | .tup xs => k (.tup (cutD xs lo hi)) M
  | .str z => Sz z.length (k (.str (cutS z lo hi)) M)
  | .scr l => mkL m (Li (cutD l lo hi)) M k
  | x => asLL x M fun xs => mkL m (cutD xs lo hi) M k
def wSl (m : Bool) (we : W) (wl wh : WO) : W := fun ρ M k E => we ρ M (fun x M1 => wl ρ M1 (fun lo M2 => wh ρ M2 (fun hi M3 => slD m x lo hi M3 k) E) E) E
end
section
variable {K : Frag} {L : XL}
theorem cutD_map {α β : Type} (g : α → β) (l : List α) (lo hi : Option Int) : cutD (l.map g) lo hi = (cutD l lo hi).map g := by
  unfold cutD
  rw [List.length_map, List.map_take, List.map_drop]
theorem sd_sl {m : Bool} {te : TE} {tl th : TO} {we : W} {wl wh : WO} (he : Sd K L te we) (hl : SdO K L tl wl) (hh : SdO K L th wh) : Sd K L (tSl (qSl K) te tl th) (wSl m we wl wh) := fun G F H σ ρ M k E Q f s l h q =>
  he G F H σ ρ M _ E _ f s l h fun F1 H1 v x M1 h1 e1 f1 i1 => hl G F1 H1 σ ρ M1 _ E _ f1 (s.up e1) (L.mono l e1) h1 fun F2 H2 lo M2 h2 e2 f2 =>
  hh G F2 H2 σ ρ M2 _ E _ f2 (s.up (e1.trans e2)) (L.mono l (e1.trans e2)) h2 fun F3 H3 hi M3 h3 e3 f3 => by
    have i3 := i1.up (e2.trans e3)
    have q3 := q.up ((e1.trans e2).trans e3)
    have lists : (asLL x M3 fun xs => mkL m (cutD xs lo hi) M3 k) → qSl K v lo hi H3 Q := fun h => by
      obtain ⟨a, vs, xs, rfl, j1, r1, h⟩ := asLL_ok f3 i3 h
      exact .inl ⟨a, vs, rfl, Evl.sq_of r1, fun p n => mkL_ok f3 (cut_is j1 lo hi) h q3 n⟩
    cases x with
    | tup xs =>
      cases i3 with
      | tup a1 a2 =>
        refine .inr (.inl ⟨_, _, rfl, Evl.ex_t f3.fh a1, fun hw => ?_, fun hw p n => lendT f3 q3 (cut_is a2 lo hi) h3 n⟩)
        have e : cutD xs lo hi = xs := by
          unfold cutD
          rw [← a2.len, hw.1, hw.2]
          simp [a2.len]
        have h3 : k (.tup (cutD xs lo hi)) M3 := h3
        rw [e] at h3
        exact lend f3 q3 (.tup a1 a2) h3
    | str z => cases i3; exact .inr (.inr ⟨z, rfl, (Sz.get h3).1, lend f3 q3 (.str _) (Sz.get h3).2⟩)
    | scr xs =>
      cases i3 with
      | scr a1 =>
        refine .inl ⟨_, _, rfl, Evl.ex_l f3.fh a1, fun p n => mkL_ok f3 ?_ h3 q3 n⟩
        have := cut_is (K := K) (F := F3) (IsAll.of_li xs) lo hi
        rw [cutD_map] at this
        exact this
    | _ => exact lists h3
end
end Px

set_option Elab.async false
set_option linter.all false
set_option maxRecDepth 100000
set_option maxHeartbeats 4000000
/-! Methods, own special methods, isinstance. -/
namespace Px
open PySem PySem.Spec PyProof.Rows L2 Rl RZ RT
open Evl (Ex)
section
variable {K : Frag} {L : XL} {G F H : Hp} {M : Mem}
abbrev DM := D → List D → Mem → (D → Mem → Prop) → Prop
def SdM (K : Frag) (r : V → List V → Hp → VK → Prop) (d : DM) : Prop := ∀ G F H M x v xs vs k Q, Fr K G F H M → Is K F v x → IsAll K F vs xs → d x xs M k → Po K G F k Q → r v vs H Q
def tyL (x : D) (M : Mem) (P : Prop) : Prop := match x with
  | .lst _ => P
  | .ref a => cellL a M fun _ => P
  | _ => False
def tyS (x : D) (_ : Mem) (P : Prop) : Prop := match x with
  | .str _ => P
  | _ => False
theorem tyL_ok {x : D} {v : V} {P : Prop} (f : Fr K G F H M) (i : Is K F v x) (h : tyL x M P) : tyV K "list" v H ∧ P := by
  cases i with
  | lst h1 h2 => exact ⟨.inl ⟨rfl, _, Evl.sq_of (f.fh _ _ h1)⟩, h⟩
  | ref a =>
    obtain ⟨xs, e, h⟩ := cellL.get h
    obtain ⟨_, vs, q1, q2⟩ := f.mc a _ e
    exact ⟨.inl ⟨rfl, _, Evl.sq_of q1⟩, h⟩
  | _ => cases h
theorem tyS_ok {x : D} {v : V} {P : Prop} (i : Is K F v x) (h : tyS x M P) : tyV K "str" v H ∧ P := by
  cases i with
  | str z => exact ⟨rfl, h⟩
  | _ => cases h
def wBL (d : DM) (wo : W) (wa : WA) : W := fun ρ M k E => wo ρ M (fun x M1 => tyL x M1 (wa ρ M1 (fun xs M2 => d x xs M2 k) E)) E
def wBS (d : DM) (wo : W) (wa : WA) : W := fun ρ M k E => wo ρ M (fun x M1 => tyS x M1 (wa ρ M1 (fun xs M2 => d x xs M2 k) E)) E
theorem sd_bl_ {r : V → List V → Hp → VK → Prop} {d : DM} {to : TE} {ta : TA} {wo : W} {wa : WA} (hr : SdM K r d) (ho : Sd K L to wo) (ha : SdA K L ta wa) : Sd K L (tBM K "list" r to ta) (wBL d wo wa) := fun G F H σ ρ M k E Q f s l h q =>
  ho G F H σ ρ M _ E _ f s l h fun F1 H1 v x M1 h1 e1 f1 i1 => by
    obtain ⟨ty, h2⟩ := tyL_ok f1 i1 h1
    exact ⟨ty, ha G F1 H1 σ ρ M1 _ E _ f1 (s.up e1) (L.mono l e1) h2 fun F2 H2 vs xs M2 h3 e2 f2 i2 => hr G F2 H2 M2 x v xs vs k Q f2 (i1.up e2) i2 h3 (q.up (e1.trans e2))⟩
theorem sd_bs_ {r : V → List V → Hp → VK → Prop} {d : DM} {to : TE} {ta : TA} {wo : W} {wa : WA} (hr : SdM K r d) (ho : Sd K L to wo) (ha : SdA K L ta wa) : Sd K L (tBM K "str" r to ta) (wBS d wo wa) := fun G F H σ ρ M k E Q f s l h q =>
  ho G F H σ ρ M _ E _ f s l h fun F1 H1 v x M1 h1 e1 f1 i1 => by
    obtain ⟨ty, h2⟩ := tyS_ok i1 h1
    exact ⟨ty, ha G F1 H1 σ ρ M1 _ E _ f1 (s.up e1) (L.mono l e1) h2 fun F2 H2 vs xs M2 h3 e2 f2 i2 => hr G F2 H2 M2 x v xs vs k Q f2 (i1.up e2) i2 h3 (q.up (e1.trans e2))⟩
theorem sd_bl0 {r : V → List V → Hp → VK → Prop} {d : DM} {to : TE} {wo : W} (hr : SdM K r d) (ho : Sd K L to wo) : Sd K L (tBM0 K "list" r to) (wBL d wo waNil) := fun G F H σ ρ M k E Q f s l h q =>
  ho G F H σ ρ M _ E _ f s l h fun F1 H1 v x M1 h1 e1 f1 i1 => by
    obtain ⟨ty, h2⟩ := tyL_ok f1 i1 h1
    exact ⟨ty, hr G F1 H1 M1 x v [] [] k Q f1 i1 .nil h2 (q.up e1)⟩
def dApp : DM := fun x xs M k => match x, xs with
  | .ref a, [y] => cellL a M fun ys => Sz (ys.length + 1) (mun a (.lst (ys ++ [y])) M fun M' => k .non M')
  | _, _ => False
theorem s_app : SdM K rAppend dApp := fun G F H M x v xs vs k Q f ix is h q => by
  unfold dApp at h
  split at h
  · cases ix
    cases is with
    | cons a b =>
      cases b
      obtain ⟨ys, e, h⟩ := cellL.get h
      obtain ⟨hl, h⟩ := h.get
      obtain ⟨_, ws, q1, q2⟩ := f.mc _ _ e
      exact ⟨_, ws, _, rfl, rfl, q1, by rw [q2.len]; exact hl, q F _ .non _ _ h.get (Ex.refl F) (f.chg e ⟨_, upd_same, q2.app (.cons a .nil)⟩) .non⟩
  · exact h.elim
def dExt : DM := fun x xs M k => match x, xs with
  | .ref a, [y] => cellL a M fun ys => asLL y M fun zs => Sz (ys.length + zs.length) (mun a (.lst (ys ++ zs)) M fun M' => k .non M')
  | _, _ => False
theorem s_ext : SdM K rExtR dExt := fun G F H M x v xs vs k Q f ix is h q => by
  unfold dExt at h
  split at h
  · cases ix
    cases is with
    | cons a b =>
      cases b
      obtain ⟨ys, e, h⟩ := cellL.get h
      obtain ⟨_, ws, q1, q2⟩ := f.mc _ _ e
      obtain ⟨p, us, zs, rfl, i1, r1, h⟩ := asLL_ok f a h
      obtain ⟨hl, h⟩ := h.get
      exact ⟨_, p, ws, us, rfl, rfl, q1, .inl r1, by rw [q2.len, i1.len]; exact hl, q F _ .non _ _ h.get (Ex.refl F) (f.chg e ⟨_, upd_same, q2.app i1⟩) .non⟩
  · exact h.elim
theorem IsAll.dropLast : ∀ {vs : List V} {ds : List D}, IsAll K F vs ds → IsAll K F vs.dropLast ds.dropLast
  | _, _, .nil => .nil
  | _, _, .cons _ .nil => .nil
  | _, _, .cons h (.cons g t) => .cons h (IsAll.dropLast (.cons g t))
@[irreducible] def lastD (ys : List D) (k : D → Prop) : Prop := ∃ y, ys[ys.length - 1]? = some y ∧ k y
theorem lastD.get {ys : List D} {k : D → Prop} (h : lastD ys k) : ∃ y, ys[ys.length - 1]? = some y ∧ k y := by unfold lastD at h; exact h
theorem last_of {ys : List D} {k : D → Prop} {y : D} (e : ys[ys.length - 1]? = some y) (h : k y) : lastD ys k := by unfold lastD; exact ⟨y, e, h⟩
def dPop : DM := fun x xs M k => match x, xs with
  | .ref a, [] => cellL a M fun ys => lastD ys fun y => mun a (.lst ys.dropLast) M fun M' => k y M'
  | _, _ => False
theorem s_pop : SdM K rPop dPop := fun G F H M x v xs vs k Q f ix is h q => by
  unfold dPop at h
  split at h
  · cases ix
    cases is
    obtain ⟨ys, e, h⟩ := cellL.get h
    obtain ⟨y, hy, h⟩ := h.get
    obtain ⟨_, ws, q1, q2⟩ := f.mc _ _ e
    obtain ⟨u, h1, h2⟩ := q2.get hy
    exact ⟨_, ws, u, rfl, rfl, q1, by rw [q2.len]; exact h1, q F _ u y _ h.get (Ex.refl F) (f.chg e ⟨_, upd_same, q2.dropLast⟩) h2⟩
  · exact h.elim
@[irreducible] def joinD (a : Str) (l : List Str) (k : Str → Prop) : Prop := (l.map (·.length)).sum + l.length * a.length ≤ 16777216 ∧ k (Txt.join a l)
theorem joinD.get {a : Str} {l : List Str} {k : Str → Prop} (h : joinD a l k) : (l.map (·.length)).sum + l.length * a.length ≤ 16777216 ∧ k (Txt.join a l) := by unfold joinD at h; exact h
theorem join_of {a : Str} {l : List Str} {k : Str → Prop} (h0 : (l.map (·.length)).sum + l.length * a.length ≤ 16777216) (h : k (Txt.join a l)) : joinD a l k := by unfold joinD; exact ⟨h0, h⟩
def dJoin : DM := fun x xs M k => match x, xs with
  | .str a, [y] => asS y M fun ys => strsD ys fun l => joinD a l fun z => k (.str z) M
  | _, _ => False
theorem s_join : SdM K (qJoin K) dJoin := fun G F H M x v xs vs k Q f ix is h q => by
  unfold dJoin at h
  split at h
  · cases ix
    cases is with
    | cons a b =>
      cases b
      obtain ⟨p, us, zs, rfl, i1, r1, h⟩ := asS_ok f a h
      have h2 := h.get; clear h
      obtain ⟨l, rfl, h⟩ := h2
      obtain ⟨hl, h⟩ := h.get
      have e := IsAll.ls l i1
      subst e
      exact ⟨_, p, l, rfl, rfl, r1, hl, lend f q (.str _) h⟩
  · exact h.elim
def dStarts : DM := fun x xs M k => match x, xs with
  | .str a, [.str b] => k (.bl (Txt.startswith a b)) M
  | _, _ => False
theorem s_starts : SdM K qStarts dStarts := fun G F H M x v xs vs k Q f ix is h q => by
  unfold dStarts at h
  split at h
  · cases ix
    cases is with
    | cons a b =>
      cases b
      cases a
      exact ⟨_, _, rfl, rfl, lend f q (.bl _) h⟩
  · exact h.elim
/-! ### own special methods -/
/-- what a comparison's right side may be: of a built-in type, or of one of some own classes -/
def yOk (cs : List Str) (y : D) (M : Mem) : Prop := match y with
  | .ins c _ _ => c ∈ cs
  | .ref a => cellL a M fun _ => True
  | .ty _ => False
  | .cls _ => False
  | .scr _ => False
  | _ => True
def baseT : List String := ["NoneType", "bool", "int", "str", "list", "tuple"]
theorem lst_ty {a : Addr} {vs : List V} (h : H a = some (.lst vs)) : TyX K H (.ref a) (.type "list") := .base (.lst h)
theorem tup_ty {a : Addr} {vs : List V} (h : SqT K H a vs) : TyX K H (.ref a) (.type "tuple") := by
  rcases h with (z | ⟨o, z⟩) | ⟨o, its, n, z1, z2, _⟩
  · exact .base (.tup z)
  · exact .fTuple z
  · exact .kTuple z1 z2
theorem yOk_ok {cs : List Str} {y : D} {v : V} {C : Addr} (hT : ∀ t ∈ baseT, PySem.W.notFirst K C (.type t) = true) (hO : ∀ c ∈ cs, PySem.W.notFirst K C (.ref (He.ga K c)) = true) (f : Fr K G F H M) (i : Is K F v y) (h : yOk cs y M) : ∃ t, TyX K H v t ∧ PySem.W.notFirst K C t = true := by
  cases i with
  | non => exact ⟨_, .base .non, hT _ (by simp [baseT])⟩
  | bl b => exact ⟨_, .base (.bl b), hT _ (by simp [baseT])⟩
  | int j => exact ⟨_, .base (.int j), hT _ (by simp [baseT])⟩
  | str z => exact ⟨_, .base (.str z), hT _ (by simp [baseT])⟩
  | ty n => cases h
  | lst h1 h2 => exact ⟨_, lst_ty (f.fh _ _ h1), hT _ (by simp [baseT])⟩
  | tup h1 h2 => exact ⟨_, tup_ty (Evl.ex_t f.fh h1), hT _ (by simp [baseT])⟩
  | ins h1 h0 h2 h3 => exact ⟨_, h0.ty.ty (f.fh _ _ h1), hO _ h⟩
  | cls c => cases h
  | ref a =>
    obtain ⟨xs, e, _⟩ := cellL.get h
    obtain ⟨_, vs, q1, q2⟩ := f.mc _ _ e
    exact ⟨_, lst_ty q1, hT _ (by simp [baseT])⟩
  | scr h => cases h
@[irreducible] def eqO (c c' : Str) (cs : List Str) (y : D) (M : Mem) (P R : Prop) : Prop := (c' = c ∧ yOk cs y M ∧ P) ∨ R
theorem eqO.get {c c' : Str} {cs : List Str} {y : D} {M : Mem} {P R : Prop} (h : eqO c c' cs y M P R) : (c' = c ∧ yOk cs y M ∧ P) ∨ R := by unfold eqO at h; exact h
theorem eq_own {c : Str} {cs : List Str} {y : D} {M : Mem} {P R : Prop} (h0 : yOk cs y M) (h : P) : eqO c c cs y M P R := by unfold eqO; exact .inl ⟨rfl, h0, h⟩
theorem eq_oth {c c' : Str} {cs : List Str} {y : D} {M : Mem} {P R : Prop} (h : R) : eqO c c' cs y M P R := by unfold eqO; exact .inr h
def dEqO (c : Str) (cs : List Str) (wf : WF) (d : D2) : D2 := fun x y M k => match x with
  | .ins c' _ _ => eqO c c' cs y M (wf [x, y] M (isB fun b M' => k (.bl b) M') noX) (d x y M k)
  | _ => d x y M k
def dNeO (c : Str) (cs : List Str) (wf : WF) (d : D2) : D2 := fun x y M k => match x with
  | .ins c' _ _ => eqO c c' cs y M (wf [x, y] M (isB fun b M' => k (.bl (!b)) M') noX) (d x y M k)
  | _ => d x y M k
theorem s_eqO {c : Str} {cs : List Str} {sp : Sp} {wf : WF} {r : R2} {d : D2} {EX : XK} (hT : ∀ t ∈ baseT, PySem.W.notFirst K (He.ga K c) (.type t) = true) (hO : ∀ c' ∈ cs, PySem.W.notFirst K (He.ga K c) (.ref (He.ga K c')) = true) (hf : SdF K sp wf) (hr : Sd2 K r d) : Sd2 K (orR2 r (rEqO K (He.ga K c) sp EX)) (dEqO c cs wf d) := fun G F H M x y v u k Q f ix iy h q => by
  cases x with
  | ins c' ns xs =>
    have h2 := eqO.get h; clear h; rcases h2 with ⟨rfl, hy, h⟩ | h
    · obtain ⟨t, ty, nf⟩ := yOk_ok hT hO f iy hy
      cases ix with
      | ins h1 h0 h2 h3 =>
        exact .inr ⟨_, _, _, t, rfl, f.fh _ _ h1, ty, nf, hf G F H M _ _ _ noX _ EX f (.cons (.ins h1 h0 h2 h3) (.cons iy .nil)) h fun F' H' w z M' hk e' f' i' => by
          obtain ⟨b, rfl, rfl, hb⟩ := isB_ok hk i'
          exact ⟨b, rfl, q F' H' _ _ M' hb e' f' (.bl b)⟩⟩
    · exact .inl (hr G F H M _ y v u k Q f ix iy h q)
  | _ => exact .inl (hr G F H M _ y v u k Q f ix iy h q)
theorem s_neO {c : Str} {cs : List Str} {sp : Sp} {wf : WF} {r : R2} {d : D2} {EX : XK} (hT : ∀ t ∈ baseT, PySem.W.notFirst K (He.ga K c) (.type t) = true) (hO : ∀ c' ∈ cs, PySem.W.notFirst K (He.ga K c) (.ref (He.ga K c')) = true) (hf : SdF K sp wf) (hr : Sd2 K r d) : Sd2 K (orR2 r (rNeO K (He.ga K c) sp EX)) (dNeO c cs wf d) := fun G F H M x y v u k Q f ix iy h q => by
  cases x with
  | ins c' ns xs =>
    have h2 := eqO.get h; clear h; rcases h2 with ⟨rfl, hy, h⟩ | h
    · obtain ⟨t, ty, nf⟩ := yOk_ok hT hO f iy hy
      cases ix with
      | ins h1 h0 h2 h3 =>
        exact .inr ⟨_, _, _, t, rfl, f.fh _ _ h1, ty, nf, hf G F H M _ _ _ noX _ EX f (.cons (.ins h1 h0 h2 h3) (.cons iy .nil)) h fun F' H' w z M' hk e' f' i' => by
          obtain ⟨b, rfl, rfl, hb⟩ := isB_ok hk i'
          exact ⟨b, rfl, q F' H' _ _ M' hb e' f' (.bl _)⟩⟩
    · exact .inl (hr G F H M _ y v u k Q f ix iy h q)
  | _ => exact .inl (hr G F H M _ y v u k Q f ix iy h q)
@[irreducible] def same (c c' : Str) (P : Prop) : Prop := c' = c ∧ P
theorem same.get {c c' : Str} {P : Prop} (h : same c c' P) : c' = c ∧ P := by unfold same at h; exact h
theorem same_of {c : Str} {P : Prop} (h : P) : same c c P := by unfold same; exact ⟨rfl, h⟩
@[irreducible] def lenR (n : Int) (P : Prop) : Prop := (0 ≤ n ∧ n < 2 ^ 63) ∧ P
theorem lenR.get {n : Int} {P : Prop} (h : lenR n P) : (0 ≤ n ∧ n < 2 ^ 63) ∧ P := by unfold lenR at h; exact h
theorem lenr {n : Int} {P : Prop} (h0 : 0 ≤ n ∧ n < 2 ^ 63) (h : P) : lenR n P := by unfold lenR; exact ⟨h0, h⟩
def dLenO (c : Str) (wf : WF) (d : D1) : D1 := fun x M k => match x with
  | .ins c' _ _ => same c c' (wf [x] M (fun r M' => asInt r fun n => lenR n (k (.int n) M')) noX)
  | _ => d x M k
def dStrO (c : Str) (wf : WF) (d : D1) : D1 := fun x M k => match x with
  | .ins c' _ _ => same c c' (wf [x] M (fun r M' => asStr r fun z => k (.str z) M') noX)
  | _ => d x M k
theorem s_lenO {c : Str} {sp : Sp} {wf : WF} {r : List V → Hp → VK → Prop} {d : D1} {EX : XK} (hf : SdF K sp wf) (hr : SdB K r (b1 d)) : SdB K (orC r (rLenO (He.ga K c) sp EX)) (b1 (dLenO c wf d)) := fun G F H M xs vs k Q f i h q => by
  cases i with
  | nil => cases h
  | cons a b => cases b with
    | cons _ _ => cases h
    | nil =>
      rename_i x
      cases x with
      | ins c' ns xs =>
        have h2 := same.get h; clear h; obtain ⟨rfl, h⟩ := h2
        cases a with
        | ins h1 h0 h2 h3 =>
          exact .inr ⟨_, _, _, rfl, f.fh _ _ h1, hf G F H M _ _ _ noX _ EX f (.cons (.ins h1 h0 h2 h3) .nil) h fun F' H' w z M' hk e' f' i' => by
            obtain ⟨n, rfl, rfl, hb⟩ := asInt_ok i' hk
            obtain ⟨⟨h4, h5⟩, hb⟩ := hb.get
            exact ⟨n, rfl, h4, h5, q F' H' _ _ M' hb e' f' (.int n)⟩⟩
      | _ => exact .inl (hr G F H M _ _ k Q f (.cons a .nil) h q)
theorem s_strO {c : Str} {sp : Sp} {wf : WF} {r : List V → Hp → VK → Prop} {d : D1} {EX : XK} (hf : SdF K sp wf) (hr : SdB K r (b1 d)) : SdB K (orC r (rStrO (He.ga K c) sp EX)) (b1 (dStrO c wf d)) := fun G F H M xs vs k Q f i h q => by
  cases i with
  | nil => cases h
  | cons a b => cases b with
    | cons _ _ => cases h
    | nil =>
      rename_i x
      cases x with
      | ins c' ns xs =>
        have h2 := same.get h; clear h; obtain ⟨rfl, h⟩ := h2
        cases a with
        | ins h1 h0 h2 h3 =>
          exact .inr ⟨_, _, _, rfl, f.fh _ _ h1, hf G F H M _ _ _ noX _ EX f (.cons (.ins h1 h0 h2 h3) .nil) h fun F' H' w z M' hk e' f' i' => by
            obtain ⟨n, rfl, rfl, hb⟩ := asStr_ok i' hk
            exact ⟨n, rfl, q F' H' _ _ M' hb e' f' (.str n)⟩⟩
      | _ => exact .inl (hr G F H M _ _ k Q f (.cons a .nil) h q)
/-! ### isinstance -/
/-- the own classes with those above them -/
abbrev CT := List (Str × List Str)
def CT.sub (T : CT) (c c' : Str) : Option Bool := (T.lookup c).map fun l => l.contains c'
structure CTok (K : Frag) (T : CT) : Prop where
  base : ∀ p ∈ T, ∀ t ∈ baseT, PySem.W.kitOne K (.type t) (.ref (He.ga K p.1)) = some false
  own : ∀ p ∈ T, ∀ p' ∈ T, PySem.W.kitOne K (.ref (He.ga K p.1)) (.ref (He.ga K p'.1)) = some (p.2.contains p'.1)
  ty : ∀ p ∈ T, ∀ t ∈ baseT, PySem.W.kitOne K (.ref (He.ga K p.1)) (.type t) = some false
theorem look_mem {c : Str} : ∀ {T : CT} {l : List Str}, T.lookup c = some l → (c, l) ∈ T
  | [], _, h => by cases h
  | (a, m) :: T, l, h => by
    simp only [List.lookup] at h
    split at h
    · rename_i e
      cases h
      have : c = a := by simpa using e
      subst this; simp
    · exact List.mem_cons_of_mem _ (look_mem h)
theorem isSome_mem {c : Str} {T : CT} (h : (T.lookup c).isSome = true) : ∃ l, (c, l) ∈ T := by
  obtain ⟨l, e⟩ := Option.isSome_iff_exists.mp h
  exact ⟨l, look_mem e⟩
/-- the built-in type of a datum -/
def tyD (M : Mem) : D → Option String
  | .non => some "NoneType"
  | .bl _ => some "bool"
  | .int _ => some "int"
  | .str _ => some "str"
  | .lst _ => some "list"
  | .tup _ => some "tuple"
  | .ref a => match M a with
    | some (.lst _) => some "list"
    | _ => none
  | _ => none
theorem tyD_ok {x : D} {v : V} {n : String} (f : Fr K G F H M) (i : Is K F v x) (e : tyD M x = some n) : TyX K H v (.type n) ∧ n ∈ baseT := by
  cases i with
  | non => cases e; exact ⟨.base .non, by simp [baseT]⟩
  | bl b => cases e; exact ⟨.base (.bl b), by simp [baseT]⟩
  | int j => cases e; exact ⟨.base (.int j), by simp [baseT]⟩
  | str z => cases e; exact ⟨.base (.str z), by simp [baseT]⟩
  | ty n => cases e
  | lst h1 h2 => cases e; exact ⟨lst_ty (f.fh _ _ h1), by simp [baseT]⟩
  | tup h1 h2 => cases e; exact ⟨tup_ty (Evl.ex_t f.fh h1), by simp [baseT]⟩
  | ins h1 h0 h2 h3 => cases e
  | cls c => cases e
  | ref a =>
    simp only [tyD] at e
    split at e <;> cases e
    rename_i xs e
    obtain ⟨_, vs, q1, q2⟩ := f.mc _ _ e
    exact ⟨lst_ty q1, by simp [baseT]⟩
  | scr h => cases e
@[irreducible] def isiOO (T : CT) (c c' : Str) (k : Bool → Prop) : Prop := ∃ b, T.sub c c' = some b ∧ (T.lookup c').isSome = true ∧ k b
theorem isiOO.get {T : CT} {c c' : Str} {k : Bool → Prop} (h : isiOO T c c' k) : ∃ b, T.sub c c' = some b ∧ (T.lookup c').isSome = true ∧ k b := by unfold isiOO at h; exact h
theorem isi_oo {T : CT} {c c' : Str} {k : Bool → Prop} {b : Bool} (e : T.sub c c' = some b) (e2 : (T.lookup c').isSome = true) (h : k b) : isiOO T c c' k := by unfold isiOO; exact ⟨b, e, e2, h⟩
@[irreducible] def isiOT (T : CT) (c : Str) (n : String) (P : Prop) : Prop := (T.lookup c).isSome = true ∧ n ∈ baseT ∧ P
theorem isiOT.get {T : CT} {c : Str} {n : String} {P : Prop} (h : isiOT T c n P) : (T.lookup c).isSome = true ∧ n ∈ baseT ∧ P := by unfold isiOT at h; exact h
theorem isi_ot {T : CT} {c : Str} {n : String} {P : Prop} (e : (T.lookup c).isSome = true) (e2 : n ∈ baseT) (h : P) : isiOT T c n P := by unfold isiOT; exact ⟨e, e2, h⟩
@[irreducible] def isiTO (T : CT) (M : Mem) (x : D) (c' : Str) (P : Prop) : Prop := ∃ n, tyD M x = some n ∧ (T.lookup c').isSome = true ∧ P
theorem isiTO.get {T : CT} {M : Mem} {x : D} {c' : Str} {P : Prop} (h : isiTO T M x c' P) : ∃ n, tyD M x = some n ∧ (T.lookup c').isSome = true ∧ P := by unfold isiTO at h; exact h
theorem isi_to {T : CT} {M : Mem} {x : D} {c' : Str} {P : Prop} {n : String} (e : tyD M x = some n) (e2 : (T.lookup c').isSome = true) (h : P) : isiTO T M x c' P := by unfold isiTO; exact ⟨n, e, e2, h⟩
@[irreducible] def isiTT (M : Mem) (x : D) (m : String) (k : Bool → Prop) : Prop := ∃ n b, tyD M x = some n ∧ kitB n m = some b ∧ k b
theorem isiTT.get {M : Mem} {x : D} {m : String} {k : Bool → Prop} (h : isiTT M x m k) : ∃ n b, tyD M x = some n ∧ kitB n m = some b ∧ k b := by unfold isiTT at h; exact h
theorem isi_tt {M : Mem} {x : D} {m : String} {k : Bool → Prop} {n : String} {b : Bool} (e : tyD M x = some n) (e2 : kitB n m = some b) (h : k b) : isiTT M x m k := by unfold isiTT; exact ⟨n, b, e, e2, h⟩
def dIsi (T : CT) : DA := fun xs M k => match xs with
  | [.ins c _ _, .cls c'] => isiOO T c c' fun b => k (.bl b) M
  | [.ins c _ _, .ty n] => isiOT T c n (k (.bl false) M)
  | [x, .cls c'] => isiTO T M x c' (k (.bl false) M)
  | [x, .ty m] => isiTT M x m fun b => k (.bl b) M
  | _ => False
theorem s_isi {T : CT} (ok : CTok K T) : SdB K (qIsi K) (dIsi T) := fun G F H M xs vs k Q f i h q => by
  unfold dIsi at h
  split at h
  · cases i with
    | cons a b => cases b with
      | cons b r =>
        cases r
        cases b
        obtain ⟨b, h1, h2, h⟩ := isiOO.get h
        cases a with
        | ins p1 p0 p2 p3 => exact .inl ⟨_, _, _, _, b, rfl, .own _, p0.ty.ty (f.fh _ _ p1), (by obtain ⟨l, e1, e2⟩ := Option.map_eq_some_iff.mp h1; obtain ⟨l', e3⟩ := isSome_mem h2; rw [← e2]; exact ok.own _ (look_mem e1) _ e3), lend f q (.bl _) h⟩
  · cases i with
    | cons a b => cases b with
      | cons b r =>
        cases r
        cases b
        obtain ⟨h1, h2, h⟩ := isiOT.get h
        cases a with
        | ins p1 p0 p2 p3 => exact .inl ⟨_, _, _, _, false, rfl, .ty _, p0.ty.ty (f.fh _ _ p1), (by obtain ⟨l, e⟩ := isSome_mem h1; exact ok.ty _ e _ h2), lend f q (.bl _) h⟩
  · cases i with
    | cons a b => cases b with
      | cons b r =>
        cases r
        cases b
        obtain ⟨n, h1, h2, h⟩ := isiTO.get h
        obtain ⟨ty, hn⟩ := tyD_ok f a h1
        exact .inl ⟨_, _, _, _, false, rfl, .own _, ty, (by obtain ⟨l, e⟩ := isSome_mem h2; exact ok.base _ e n hn), lend f q (.bl _) h⟩
  · cases i with
    | cons a b => cases b with
      | cons b r =>
        cases r
        cases b
        obtain ⟨n, b, h1, h2, h⟩ := isiTT.get h
        obtain ⟨ty, hn⟩ := tyD_ok f a h1
        exact .inl ⟨_, _, _, _, b, rfl, .ty _, ty, kit_ty h2, lend f q (.bl _) h⟩
  · exact h.elim
/-- isinstance(x, (A, B)): the answer of both -/
def kit2 (n m1 m2 : String) : Option Bool := match kitB n m1 with
  | some true => some true
  | some false => kitB n m2
  | none => none
@[irreducible] def isi2D (M : Mem) (x : D) (m1 m2 : String) (k : Bool → Prop) : Prop := ∃ n b, tyD M x = some n ∧ kit2 n m1 m2 = some b ∧ k b
theorem isi2D.get {M : Mem} {x : D} {m1 m2 : String} {k : Bool → Prop} (h : isi2D M x m1 m2 k) : ∃ n b, tyD M x = some n ∧ kit2 n m1 m2 = some b ∧ k b := by unfold isi2D at h; exact h
theorem isi_2 {M : Mem} {x : D} {m1 m2 : String} {k : Bool → Prop} {n : String} {b : Bool} (e : tyD M x = some n) (e2 : kit2 n m1 m2 = some b) (h : k b) : isi2D M x m1 m2 k := by unfold isi2D; exact ⟨n, b, e, e2, h⟩
def wIsi2 (m1 m2 : String) (we : W) : W := fun ρ M k E => we ρ M (fun x M1 => isi2D M1 x m1 m2 fun b => k (.bl b) M1) E
theorem sd_isi2 {te : TE} {we : W} {m1 m2 : String} (he : Sd K L te we) : Sd K L (tCB (qIsi K) (tCons te (tCons (tTup (tCons (tC (.ty m1)) (tCons (tC (.ty m2)) tNil))) tNil))) (wIsi2 m1 m2 we) := fun G F H σ ρ M k E Q f s l h q =>
  he G F H σ ρ M _ E _ f s l h fun F1 H1 v x M1 h1 e1 f1 i1 => by
    have key : (∃ n b, tyD M1 x = some n ∧ kit2 n m1 m2 = some b ∧ k (.bl b) M1) → (2 ≤ sizeLine ∧ ∀ p, H1 p = none → qIsi K [v, .ref p] (upd H1 p (.tup [.ty m1, .ty m2])) Q) := fun ⟨n, b, h2, h3, h4⟩ => by
      refine ⟨by decide, fun p np => ?_⟩
      have f2 := f1.laid (o := .tup [.ty m1, .ty m2]) np
      have ty := (tyD_ok f2 (i1.up (f1.exl np)) h2).1
      refine .inr ⟨v, p, [.ty m1, .ty m2], .type n, [.type m1, .type m2], b, rfl, upd_same, .cons (.ty m1) (.cons (.ty m2) .nil), ty, ?_, q _ _ _ _ M1 h4 (e1.trans (f1.exl np)) f2 (.bl b)⟩
      unfold kit2 at h3
      cases qq : kitB n m1 with
      | none => rw [qq] at h3; cases h3
      | some r =>
        rw [qq] at h3
        cases r with
        | true => cases h3; exact kitAny_cons (kit_ty qq) (fun z => by cases z) fun _ => rfl
        | false =>
          have e3 : kitB n m2 = some b := h3
          exact kitAny_cons (kit_ty qq) (fun _ => kitAny_cons (kit_ty e3) (fun z => by rw [z]; exact kitAny_nil) fun z => z) fun z => by cases z
    exact key h1.get
end
end Px

set_option Elab.async false
set_option linter.all false
set_option maxRecDepth 100000
set_option maxHeartbeats 4000000
/-! More constructs; how transformers are worked with. -/
namespace Px
open PySem PySem.Spec PyProof.Rows L2 Rl RZ RT
open Evl (Ex)
theorem memN {α : Type} {P : α → Prop} : ∀ c ∈ ([] : List α), P c := fun c h => by cases h
theorem memC {α : Type} {P : α → Prop} {a : α} {l : List α} (h : P a) (g : ∀ c ∈ l, P c) : ∀ c ∈ a :: l, P c := fun c hc => by
  rcases List.mem_cons.mp hc with e | e
  · subst e; exact h
  · exact g c e
section
variable {K : Frag} {L : XL}
def isBl (b : Bool) : D → Bool
  | .bl c => c == b
  | _ => false
def asBl : D → (Bool → Prop) → Prop
  | .bl b, k => k b
  | _, _ => False
def dIsB : D2 := fun x y M k => asBl y fun b => k (.bl (isBl b x)) M
def dIsnB : D2 := fun x y M k => asBl y fun b => k (.bl (!isBl b x)) M
theorem isBl_ok {F : Hp} {x : D} {v : V} {b : Bool} (i : Is K F v x) : decide (v = V.bl b) = isBl b x := by
  cases i <;> first | rfl | (rename_i c; cases c <;> cases b <;> rfl)
theorem s_isB : Sd2 K qIsB dIsB := fun G F H M x y v u k Q f ix iy h q => by
  cases iy with
  | bl b => exact ⟨b, rfl, by rw [isBl_ok ix]; exact lend f q (.bl _) h⟩
  | _ => cases h
theorem s_isnB : Sd2 K qIsnB dIsnB := fun G F H M x y v u k Q f ix iy h q => by
  cases iy with
  | bl b => exact ⟨b, rfl, by rw [isBl_ok ix]; exact lend f q (.bl _) h⟩
  | _ => cases h
/-- min, max, also of tuples -/
def dMaxT : DA := fun xs M k => match xs with
  | [.tup xs] => intsD xs fun l => isMax l fun m => k (.int m) M
  | xs => dMax xs M k
def dMinT : DA := fun xs M k => match xs with
  | [.tup xs] => intsD xs fun l => isMin l fun m => k (.int m) M
  | xs => dMin xs M k
theorem s_maxT : SdB K (qMxT K) dMaxT := fun G F H M xs vs k Q f i h q => by
  unfold dMaxT at h
  split at h
  · have h2 := intsD.get h; clear h
    obtain ⟨l, rfl, h⟩ := h2
    obtain ⟨h0, h⟩ := h.get
    cases i with
    | cons a b =>
      cases b
      cases a with
      | tup a1 a2 =>
        have e := IsAll.li l a2
        subst e
        exact .inr ⟨_, l, rfl, Evl.ex_t f.fh a1, h0, fun m h1 h2 => lend f q (.int _) (h m h1 h2)⟩
  · exact .inl (s_max G F H M _ vs k Q f i h q)
theorem s_minT : SdB K (qMnT K) dMinT := fun G F H M xs vs k Q f i h q => by
  unfold dMinT at h
  split at h
  · have h2 := intsD.get h; clear h
    obtain ⟨l, rfl, h⟩ := h2
    obtain ⟨h0, h⟩ := h.get
    cases i with
    | cons a b =>
      cases b
      cases a with
      | tup a1 a2 =>
        have e := IsAll.li l a2
        subst e
        exact .inr ⟨_, l, rfl, Evl.ex_t f.fh a1, h0, fun m h1 h2 => lend f q (.int _) (h m h1 h2)⟩
  · exact .inl (s_min G F H M _ vs k Q f i h q)
/-- products, tuples again and again -/
@[irreducible] def repT (xs : List D) (j : Int) (P : Prop) : Prop := xs ≠ [] ∧ (1 ≤ j ∧ j ≤ 1000) ∧ xs.length ≤ 1000 ∧ P
theorem repT.get {xs : List D} {j : Int} {P : Prop} (h : repT xs j P) : xs ≠ [] ∧ (1 ≤ j ∧ j ≤ 1000) ∧ xs.length ≤ 1000 ∧ P := by unfold repT at h; exact h
theorem rep_t {xs : List D} {j : Int} {P : Prop} (h1 : xs ≠ []) (h2 : 1 ≤ j ∧ j ≤ 1000) (h3 : xs.length ≤ 1000) (h : P) : repT xs j P := by unfold repT; exact ⟨h1, h2, h3, h⟩
def dMulT (m : Bool) : D2 := fun x y M k => match x with
  | .tup xs => asInt y fun j => repT xs j (k (.tup (List.replicate j.toNat xs).flatten) M)
  | x => dMul m x y M k
theorem s_mulT {m : Bool} : Sd2 K (qMulT K) (dMulT m) := fun G F H M x y v u k Q f ix iy h q => by
  cases x with
  | tup xs =>
    obtain ⟨j, rfl, rfl, h⟩ := asInt_ok iy h
    obtain ⟨h1, h2, h3, h⟩ := h.get
    cases ix with
    | tup a1 a2 =>
      by_cases e1 : j = 1
      · subst e1
        have e : (List.replicate (Int.toNat 1) xs).flatten = xs := by simp
        rw [e] at h
        exact .inr (.inr ⟨_, _, rfl, rfl, Evl.ex_t f.fh a1, q F H _ _ M h (Ex.refl F) f (.tup a1 a2)⟩)
      · exact .inr (.inl ⟨_, j, _, rfl, rfl, Evl.ex_t f.fh a1, (fun e => h1 (by subst e; cases a2; rfl)), by omega, h2.2, by rw [a2.len]; exact h3, fun p n => lendT f q (a2.rep _) h n⟩)
  | _ => exact .inl (s_mul (m := m) G F H M _ y v u k Q f ix iy h q)
/-- x[::-1] -/
def wRev (m : Bool) (we : W) : W := fun ρ M k E => we ρ M (fun x M1 => match x with
  | .tup xs => k (.tup xs.reverse) M1
  | x => asLL x M1 fun xs => mkL m xs.reverse M1 k) E
theorem sd_rev {m : Bool} {te : TE} {we : W} (he : Sd K L te we) : Sd K L (tRevA K te) (wRev m we) := fun G F H σ ρ M k E Q f s l h q =>
  he G F H σ ρ M _ E _ f s l h fun F1 H1 v x M1 h1 e1 f1 i1 => by
    have lists : (asLL x M1 fun xs => mkL m xs.reverse M1 k) → ∃ a xs, v = V.ref a ∧ ((SqL K H1 a xs ∧ ∀ p, H1 p = none → Q (.ref p) (upd H1 p (.lst xs.reverse))) ∨ (SqT K H1 a xs ∧ ∀ p, H1 p = none → Q (.ref p) (upd H1 p (.tup xs.reverse)))) := fun h => by
      obtain ⟨a, vs, xs, rfl, j1, r1, h⟩ := asLL_ok f1 i1 h
      exact ⟨a, vs, rfl, .inl ⟨Evl.sq_of r1, fun p n => mkL_ok f1 j1.rev h (q.up e1) n⟩⟩
    cases x with
    | tup xs =>
      cases i1 with
      | tup a1 a2 => exact ⟨_, _, rfl, .inr ⟨Evl.ex_t f1.fh a1, fun p n => lendT f1 (q.up e1) a2.rev h1 n⟩⟩
    | _ => exact lists h1
/-- *x among arguments -/
def waStar (we : W) (wr : WA) : WA := fun ρ M k E => we ρ M (fun x M1 => asS x M1 fun xs => wr ρ M1 (fun ys M2 => k (xs ++ ys) M2) E) E
theorem sda_star {te : TE} {tr : TA} {we : W} {wr : WA} (ha : Sd K L te we) (hb : SdA K L tr wr) : SdA K L (StX.tStar K te tr) (waStar we wr) := fun G F H σ ρ M k E Q f s l h q =>
  ha G F H σ ρ M _ E _ f s l h fun F1 H1 v x M1 h1 e1 f1 i1 => by
    obtain ⟨a, vs, xs, rfl, j1, r1, h2⟩ := asS_ok f1 i1 h1
    exact ⟨a, vs, rfl, r1.symm, hb G F1 H1 σ ρ M1 _ E _ f1 (s.up e1) (L.mono l e1) h2 fun F2 H2 us ys M2 h3 e2 f2 j2 => q F2 H2 _ _ M2 h3 (e1.trans e2) f2 ((j1.up e2).app j2)⟩
end
/-- a, b = a list -/
def wgLst (n : Nat) (gs : WGs) : WG := fun x ρ M k E => match x with
  | .lst xs => Ck n xs (gs xs ρ M k E)
  | _ => False
theorem sdg_lst {K : Frag} {L : XL} {n : Nat} {gs : TGs} {wgs : WGs} (h2 : SdGs K L gs wgs) : SdG K L (gLst K n gs) (wgLst n wgs) := fun G F H σ ρ M v x k E Q f s l is h q => by
  cases is with
  | lst a b => exact ⟨_, _, rfl, Evl.sq_of (f.fh _ _ a), by rw [b.len]; exact (Ck.get h).1, h2 G F H σ ρ M _ _ k E Q f s l b (Ck.get h).2 q⟩
  | _ => cases h
instance {K : Frag} {n : Nat} {gs : TGs} [b : GsMono gs] : GMono (gLst K n gs) := ⟨fun x σ H Q Q' h ⟨a, xs, e1, e2, e3, q⟩ => ⟨a, xs, e1, e2, e3, b.mono _ _ _ _ _ h q⟩⟩
theorem gin_lst {K : Frag} {n : Nat} {gs : TGs} {vs : List Nat} (h : GIns gs vs) : GIn (gLst K n gs) vs := fun x σ H Q ⟨a, xs, e1, e2, e3, q⟩ => ⟨a, xs, e1, e2, e3, h _ _ _ _ q⟩
/-- a cell in a slot, frozen; what is none stays -/
def wFrzA (i : Nat) : WS := fun ρ M P _ => match ρ[i]? with
  | some (some (.ref a)) => frzD (.ref a) M fun y M' => P.nx (ρ.set i (some y)) M'
  | _ => P.nx ρ M
theorem sds_frzA {K : Frag} {L : XL} {t : TS} {w : WS} {i : Nat} (h0 : SdS K L t w) : SdS K L t (wSeq (wFrzA i) w) := fun G F H σ ρ M P E D f s l h a b c d => by
  have h1 : wFrzA i ρ M { P with nx := fun ρ' M' => w ρ' M' P E } E := h
  unfold wFrzA at h1
  split at h1
  · rename_i p e
    refine sds_frz (i := i) h0 G F H σ ρ M P E D f s l ?_ a b c d
    show (match ρ[i]? with
      | some (some x) => frzD x M fun y M' => w (ρ.set i (some y)) M' P E
      | _ => False)
    rw [e]
    exact h1
  · exact h0 G F H σ ρ M P E D f s l h1 a b c d
end Px

set_option Elab.async false
set_option linter.all false
set_option maxRecDepth 100000
set_option maxHeartbeats 4000000
/-! Working with transformers: branches, loops, comprehensions, lists of ints. -/
namespace Px
open PySem PySem.Spec PyProof.Rows L2 Rl RZ RT
/-! ### branches -/
theorem br_t {A B : Prop} (h : A) : Br true A B := ⟨fun _ => h, fun e => by cases e⟩
theorem br_f {A B : Prop} (h : B) : Br false A B := ⟨(fun e => by cases e), fun _ => h⟩
theorem br_not {b : Bool} {A B : Prop} (h : Br b B A) : Br (!b) A B := by cases b; exact br_t (h.no rfl); exact br_f (h.yes rfl)
theorem br_d {p : Prop} {inst : Decidable p} {A B : Prop} (h1 : p → A) (h2 : ¬ p → B) : Br (decide p) A B := ⟨fun e => h1 (of_decide_eq_true e), fun e => h2 (of_decide_eq_false e)⟩
theorem br_p {p : Prop} {inst : Decidable p} {A B : Prop} (hp : p) (h : A) : Br (decide p) A B := br_d (fun _ => h) fun n => absurd hp n
theorem br_n {p : Prop} {inst : Decidable p} {A B : Prop} (hp : ¬ p) (h : B) : Br (decide p) A B := br_d (fun q => absurd q hp) fun _ => h
theorem br_bne {i : Int} {A B : Prop} (h : Br (decide (i ≠ 0)) A B) : Br (i != 0) A B := by
  have e : (i != 0) = decide (i ≠ 0) := by by_cases q : i = 0 <;> simp [q]
  rw [e]; exact h
theorem br_emp {xs : List D} {A B : Prop} (h : Br (decide (xs ≠ [])) A B) : Br (!xs.isEmpty) A B := by
  have e : (!xs.isEmpty) = decide (xs ≠ []) := by cases xs <;> simp
  rw [e]; exact h
theorem br_empL {l : List Int} {A B : Prop} (h : Br (decide (l ≠ [])) A B) : Br (!(Li l).isEmpty) A B := by
  have e : (!(Li l).isEmpty) = decide (l ≠ []) := by cases l <;> simp
  rw [e]; exact h
theorem br_nonT {x : D} {A B : Prop} (e : Px.isNon x = true) (h : A) : Br (Px.isNon x) A B := by rw [e]; exact br_t h
theorem br_nonF {x : D} {A B : Prop} (e : Px.isNon x = false) (h : B) : Br (Px.isNon x) A B := by rw [e]; exact br_f h
theorem br_blT {b : Bool} {x : D} {A B : Prop} (e : isBl b x = true) (h : A) : Br (isBl b x) A B := by rw [e]; exact br_t h
theorem br_blF {b : Bool} {x : D} {A B : Prop} (e : isBl b x = false) (h : B) : Br (isBl b x) A B := by rw [e]; exact br_f h
theorem isi_ooT {T : CT} {c c' : Str} {k : Bool → Prop} (e : T.sub c c' = some true) (e2 : (T.lookup c').isSome = true) (h : k true) : isiOO T c c' k := isi_oo e e2 h
theorem isi_ooF {T : CT} {c c' : Str} {k : Bool → Prop} (e : T.sub c c' = some false) (e2 : (T.lookup c').isSome = true) (h : k false) : isiOO T c c' k := isi_oo e e2 h
theorem isi_ttT {M : Mem} {x : D} {m : String} {k : Bool → Prop} {n : String} (e : tyD M x = some n) (e2 : kitB n m = some true) (h : k true) : isiTT M x m k := isi_tt e e2 h
theorem isi_ttF {M : Mem} {x : D} {m : String} {k : Bool → Prop} {n : String} (e : tyD M x = some n) (e2 : kitB n m = some false) (h : k false) : isiTT M x m k := isi_tt e e2 h
theorem isi_2T {M : Mem} {x : D} {m1 m2 : String} {k : Bool → Prop} {n : String} (e : tyD M x = some n) (e2 : kit2 n m1 m2 = some true) (h : k true) : isi2D M x m1 m2 k := isi_2 e e2 h
theorem isi_2F {M : Mem} {x : D} {m1 m2 : String} {k : Bool → Prop} {n : String} (e : tyD M x = some n) (e2 : kit2 n m1 m2 = some false) (h : k false) : isi2D M x m1 m2 k := isi_2 e e2 h
/-! ### loops -/
theorem Gd.mk {gd : List (Addr × List D)} {M : Mem} {P : Prop} (h : GdM gd M) (hp : P) : Gd gd M P := by
  induction gd with
  | nil => exact hp
  | cons p gs ih =>
    obtain ⟨a, ys⟩ := p
    exact ⟨h (a, ys) (by simp), ih fun p hp => h p (List.mem_cons_of_mem _ hp)⟩
theorem gd0 {M : Mem} : GdM [] M := fun p hp => by cases hp
theorem gd1 {M : Mem} {a : Addr} {ys : List D} (h : M a = some (.lst ys)) : GdM [(a, ys)] M := fun p hp => by
  rw [List.mem_singleton.mp hp]; exact h
theorem for_inv {gd : List (Addr × List D)} {tg : WG} {body : WS} {ks : List Nat} {P : Ps} {E : XP} {xs : List D} {ρ : St'} {M : Mem} (inv : Nat → St' → Mem → Prop) (h0 : inv 0 ρ M) (hg : ∀ i ρ M, inv i ρ M → GdM gd M)
    (step : ∀ i x ρ M, xs[i]? = some x → inv i ρ M → ∀ K : St' → Mem → Prop, (∀ ρ' M', inv (i + 1) ρ' M' → K ρ' M') →
      tg x ρ M (fun ρ2 M2 => body ρ2 M2 { nx := fun ρ3 M3 => K (wipe' ρ3 ks) M3, rt := P.rt, bk := fun ρ3 M3 => P.nx (wipe' ρ3 ks) M3, ct := fun ρ3 M3 => K (wipe' ρ3 ks) M3 } E) E)
    (last : ∀ ρ M, inv xs.length ρ M → P.nx ρ M) : loopS gd tg body ks P E xs ρ M := by
  have key : ∀ (n i : Nat) (ρ : St') (M : Mem), i + n = xs.length → inv i ρ M → loopS gd tg body ks P E (xs.drop i) ρ M := fun n => by
    induction n with
    | zero =>
      intro i ρ M hi h
      have e : i = xs.length := by omega
      subst e
      rw [List.drop_length]
      exact Gd.mk (hg _ _ _ h) (last _ _ h)
    | succ n ih =>
      intro i ρ M hi h
      have hlt : i < xs.length := by omega
      rw [List.drop_eq_getElem_cons hlt]
      exact Gd.mk (hg _ _ _ h) (step i _ ρ M (List.getElem?_eq_getElem hlt) h _ fun ρ' M' h' => ih (i + 1) ρ' M' (by omega) h')
  have := key xs.length 0 ρ M (by omega) h0
  rwa [List.drop_zero] at this
/-- the state behind each turn is known -/
theorem for_det {gd : List (Addr × List D)} {tg : WG} {body : WS} {ks : List Nat} {P : Ps} {E : XP} {xs : List D} {ρ : St'} {M : Mem} (r : Nat → St') (m : Nat → Mem) (h0 : r 0 = ρ) (h0' : m 0 = M) (hg : ∀ i, i ≤ xs.length → GdM gd (m i))
    (step : ∀ i x, xs[i]? = some x → ∀ K : St' → Mem → Prop, K (r (i + 1)) (m (i + 1)) →
      tg x (r i) (m i) (fun ρ2 M2 => body ρ2 M2 { nx := fun ρ3 M3 => K (wipe' ρ3 ks) M3, rt := P.rt, bk := fun ρ3 M3 => P.nx (wipe' ρ3 ks) M3, ct := fun ρ3 M3 => K (wipe' ρ3 ks) M3 } E) E)
    (last : P.nx (r xs.length) (m xs.length)) : loopS gd tg body ks P E xs ρ M := by
  refine for_inv (fun i ρ M => i ≤ xs.length ∧ ρ = r i ∧ M = m i) ⟨Nat.zero_le _, h0.symm, h0'.symm⟩ (fun i ρ M h => by rw [h.2.2]; exact hg i h.1) (fun i x ρ M hx h K hK => ?_) fun ρ M h => by rw [h.2.1, h.2.2]; exact last
  rw [h.2.1, h.2.2]
  exact step i x hx K (hK _ _ ⟨(List.getElem?_eq_some_iff.mp hx).1, rfl, rfl⟩)
theorem while_inv {c : WT} {body : WS} {ks : List Nat} {P : Ps} {E : XP} {ρ : St'} {M : Mem} (inv : Nat → St' → Mem → Prop) (m0 : Nat) (h0 : inv m0 (wipe' ρ ks) M)
    (step : ∀ m ρ M, inv m ρ M → ∀ K : St' → Mem → Prop, (∀ m' ρ' M', m' < m → inv m' ρ' M' → K ρ' M') →
      c ρ M (fun b M1 => Br b (body ρ M1 { nx := fun ρ3 M3 => K (wipe' ρ3 ks) M3, rt := P.rt, bk := fun ρ3 M3 => P.nx (wipe' ρ3 ks) M3, ct := fun ρ3 M3 => K (wipe' ρ3 ks) M3 } E) (P.nx ρ M1)) E) : wWhile c body ks ρ M P E := by
  refine ⟨m0 + 1, ?_⟩
  have key : ∀ (n m : Nat) (ρ : St') (M : Mem), m < n → inv m ρ M → whileN c body ks P E n ρ M := fun n => by
    induction n with
    | zero => intro m ρ M h; omega
    | succ n ih =>
      intro m ρ M hm h
      exact step m ρ M h _ fun m' ρ' M' h1 h2 => ih m' ρ' M' (by omega) h2
  exact key (m0 + 1) m0 _ M (by omega) h0
/-! ### comprehensions -/
section
variable {gd : List (Addr × List D)} {wg : WG} {wt : WT} {we : W} {ρw : St'} {k : List D → Mem → Prop} {xs : List D} {M : Mem}
theorem lc_inv (inv : Nat → List D → Mem → Prop) (h0 : inv 0 [] M) (hg : ∀ i acc M, inv i acc M → GdM gd M)
    (step : ∀ i x acc M, xs[i]? = some x → inv i acc M → ∀ K : List D → Mem → Prop, (∀ acc' M', inv (i + 1) acc' M' → K acc' M') →
      wg x ρw M (fun ρ2 M2 => wt ρ2 M2 (fun b M3 => Br b (we ρ2 M3 (fun y M4 => Sz (acc.length + 1) (K (acc ++ [y]) M4)) noX) (K acc M3)) noX) noX)
    (last : ∀ acc M, inv xs.length acc M → k acc M) : loopC gd wg wt we ρw k xs [] M := by
  have key : ∀ (n i : Nat) (acc : List D) (M : Mem), i + n = xs.length → inv i acc M → loopC gd wg wt we ρw k (xs.drop i) acc M := fun n => by
    induction n with
    | zero =>
      intro i acc M hi h
      have e : i = xs.length := by omega
      subst e
      rw [List.drop_length]
      exact Gd.mk (hg _ _ _ h) (last _ _ h)
    | succ n ih =>
      intro i acc M hi h
      have hlt : i < xs.length := by omega
      rw [List.drop_eq_getElem_cons hlt]
      exact Gd.mk (hg _ _ _ h) (step i _ acc M (List.getElem?_eq_getElem hlt) h (fun acc M => loopC gd wg wt we ρw k (xs.drop (i + 1)) acc M) fun ρ' M' h' => ih (i + 1) ρ' M' (by omega) h')
  have := key xs.length 0 [] M (by omega) h0
  rwa [List.drop_zero] at this
theorem lc_filterG (p : D → Bool) (f : D → D) (hg : GdM gd M) (hl : xs.length ≤ 16777216)
    (step : ∀ x, x ∈ xs → ∀ (K : D → Mem → Prop) (Z : Mem → Prop), (p x = true → K (f x) M) → (p x = false → Z M) → wg x ρw M (fun ρ2 M2 => wt ρ2 M2 (fun b M3 => Br b (we ρ2 M3 K noX) (Z M3)) noX) noX)
    (hk : k ((xs.filter p).map f) M) : loopC gd wg wt we ρw k xs [] M := by
  have key : ∀ (ys acc : List D), (∀ x ∈ ys, x ∈ xs) → acc.length + ys.length ≤ 16777216 → k (acc ++ (ys.filter p).map f) M → loopC gd wg wt we ρw k ys acc M := fun ys => by
    induction ys with
    | nil =>
      intro acc _ _ h
      exact Gd.mk hg (by simpa using h)
    | cons y ys ih =>
      intro acc hs hn h
      have hn' : acc.length + ys.length + 1 ≤ 16777216 := by rw [List.length_cons] at hn; omega
      refine Gd.mk hg (step y (hs y (by simp)) (fun y M4 => Sz (acc.length + 1) (loopC gd wg wt we ρw k ys (acc ++ [y]) M4)) (fun M3 => loopC gd wg wt we ρw k ys acc M3) (fun e => ?_) fun e => ?_)
      · refine sz (by omega) (ih (acc ++ [f y]) (fun x hx => hs x (List.mem_cons_of_mem _ hx)) (by rw [List.length_append]; show acc.length + 1 + ys.length ≤ _; omega) ?_)
        rw [List.filter_cons_of_pos e, List.map_cons] at h
        rw [List.append_assoc]
        exact h
      · refine ih acc (fun x hx => hs x (List.mem_cons_of_mem _ hx)) (by omega) ?_
        rw [List.filter_cons_of_neg (by rw [e]; exact Bool.false_ne_true)] at h
        exact h
  exact key xs [] (fun x h => h) (by simpa using hl) (by simpa using hk)
theorem lc_mapG (f : D → D) (hg : GdM gd M) (hl : xs.length ≤ 16777216)
    (step : ∀ x, x ∈ xs → ∀ (K : D → Mem → Prop) (Z : Mem → Prop), K (f x) M → wg x ρw M (fun ρ2 M2 => wYes ρ2 M2 (fun b M3 => Br b (we ρ2 M3 K noX) (Z M3)) noX) noX)
    (hk : k (xs.map f) M) : loopC gd wg wYes we ρw k xs [] M :=
  lc_filterG (fun _ => true) f hg hl (fun x hx K Z h _ => step x hx K Z (h rfl)) (by rw [List.filter_eq_self.mpr (fun _ _ => rfl)]; exact hk)
theorem mem_Li {l : List Int} {x : D} (h : x ∈ Li l) : ∃ i, i ∈ l ∧ x = .int i := by
  obtain ⟨i, h1, h2⟩ := List.mem_map.mp h
  exact ⟨i, h1, h2.symm⟩
def onI (f : Int → D) : D → D
  | .int i => f i
  | x => x
def onIB (p : Int → Bool) : D → Bool
  | .int i => p i
  | _ => false
theorem map_onI (f : Int → D) (l : List Int) : (Li l).map (onI f) = l.map f := by
  rw [List.map_map]; rfl
theorem filter_onI (p : Int → Bool) (l : List Int) : (Li l).filter (onIB p) = Li (l.filter p) := by
  rw [List.filter_map]; rfl
theorem Li_map (f : Int → Int) (l : List Int) : l.map (fun i => D.int (f i)) = Li (l.map f) := by
  show _ = List.map D.int (l.map f)
  rw [List.map_map]; rfl
/-- over a list of ints -/
theorem lc_int {l : List Int} (f : Int → D) (hg : GdM gd M) (hl : l.length ≤ 16777216)
    (step : ∀ i, i ∈ l → ∀ (K : D → Mem → Prop) (Z : Mem → Prop), K (f i) M → wg (.int i) ρw M (fun ρ2 M2 => wYes ρ2 M2 (fun b M3 => Br b (we ρ2 M3 K noX) (Z M3)) noX) noX)
    (hk : k (l.map f) M) : loopC gd wg wYes we ρw k (Li l) [] M :=
  lc_mapG (onI f) hg (by simpa using hl) (fun x hx K Z h => by
    obtain ⟨i, hi, rfl⟩ := mem_Li hx
    exact step i hi K Z h) (by rw [map_onI]; exact hk)
theorem lc_intI {l : List Int} (f : Int → Int) (hg : GdM gd M) (hl : l.length ≤ 16777216)
    (step : ∀ i, i ∈ l → ∀ (K : D → Mem → Prop) (Z : Mem → Prop), K (.int (f i)) M → wg (.int i) ρw M (fun ρ2 M2 => wYes ρ2 M2 (fun b M3 => Br b (we ρ2 M3 K noX) (Z M3)) noX) noX)
    (hk : k (Li (l.map f)) M) : loopC gd wg wYes we ρw k (Li l) [] M := lc_int (fun i => .int (f i)) hg hl step (by rw [Li_map]; exact hk)
theorem lc_filt {l : List Int} (p : Int → Bool) (f : Int → D) (hg : GdM gd M) (hl : l.length ≤ 16777216)
    (step : ∀ i, i ∈ l → ∀ (K : D → Mem → Prop) (Z : Mem → Prop), (p i = true → K (f i) M) → (p i = false → Z M) → wg (.int i) ρw M (fun ρ2 M2 => wt ρ2 M2 (fun b M3 => Br b (we ρ2 M3 K noX) (Z M3)) noX) noX)
    (hk : k ((l.filter p).map f) M) : loopC gd wg wt we ρw k (Li l) [] M :=
  lc_filterG (onIB p) (onI f) hg (by simpa using hl) (fun x hx K Z h1 h2 => by
    obtain ⟨i, hi, rfl⟩ := mem_Li hx
    exact step i hi K Z h1 h2) (by rw [filter_onI, map_onI]; exact hk)
theorem lc_filtI {l : List Int} (p : Int → Bool) (hg : GdM gd M) (hl : l.length ≤ 16777216)
    (step : ∀ i, i ∈ l → ∀ (K : D → Mem → Prop) (Z : Mem → Prop), (p i = true → K (.int i) M) → (p i = false → Z M) → wg (.int i) ρw M (fun ρ2 M2 => wt ρ2 M2 (fun b M3 => Br b (we ρ2 M3 K noX) (Z M3)) noX) noX)
    (hk : k (Li (l.filter p)) M) : loopC gd wg wt we ρw k (Li l) [] M := lc_filt p .int hg hl step hk
/-- nothing passes -/
theorem lc_none {l : List Int} (hg : GdM gd M) (hl : l.length ≤ 16777216)
    (step : ∀ i, i ∈ l → ∀ (K : D → Mem → Prop) (Z : Mem → Prop), Z M → wg (.int i) ρw M (fun ρ2 M2 => wt ρ2 M2 (fun b M3 => Br b (we ρ2 M3 K noX) (Z M3)) noX) noX)
    (hk : k (Li []) M) : loopC gd wg wt we ρw k (Li l) [] M := lc_filtI (fun _ => false) hg hl (fun i hi K Z _ h => step i hi K Z (h rfl)) (by
  have e : l.filter (fun _ => false) = [] := by induction l <;> simp_all
  rw [e]; exact hk)
theorem zipD_Li : ∀ (a b : List Int), zipD (Li a) (Li b) = (a.zip b).map fun q => D.tup [.int q.1, .int q.2]
  | [], _ => by simp [zipD]
  | _ :: _, [] => by simp [zipD]
  | x :: a, y :: b => by
    have z := zipD_Li a b
    simp only [List.map_cons, List.zip_cons_cons, zipD] at z ⊢
    rw [z]
/-- over a list whose items are told by others -/
theorem lc_any {α : Type} {l : List α} {g : α → D} (f : α → D) (hg : GdM gd M) (hl : l.length ≤ 16777216)
    (step : ∀ i, i ∈ l → ∀ (K : D → Mem → Prop) (Z : Mem → Prop), K (f i) M → wg (g i) ρw M (fun ρ2 M2 => wYes ρ2 M2 (fun b M3 => Br b (we ρ2 M3 K noX) (Z M3)) noX) noX)
    (hk : k (l.map f) M) : loopC gd wg wYes we ρw k (l.map g) [] M := by
  have key : ∀ (ys : List α) (acc : List D), (∀ x ∈ ys, x ∈ l) → acc.length + ys.length ≤ 16777216 → k (acc ++ ys.map f) M → loopC gd wg wYes we ρw k (ys.map g) acc M := fun ys => by
    induction ys with
    | nil =>
      intro acc _ _ h
      exact Gd.mk hg (by simpa using h)
    | cons y ys ih =>
      intro acc hs hn h
      have hn' : acc.length + ys.length + 1 ≤ 16777216 := by rw [List.length_cons] at hn; omega
      refine Gd.mk hg (step y (hs y (by simp)) (fun y M4 => Sz (acc.length + 1) (loopC gd wg wYes we ρw k (ys.map g) (acc ++ [y]) M4)) (fun M3 => loopC gd wg wYes we ρw k (ys.map g) acc M3) ?_)
      refine sz (by omega) (ih (acc ++ [f y]) (fun x hx => hs x (List.mem_cons_of_mem _ hx)) (by rw [List.length_append]; show acc.length + 1 + ys.length ≤ _; omega) ?_)
      rw [List.append_assoc]
      exact h
  exact key l [] (fun x h => h) (by simpa using hl) (by simpa using hk)
theorem lc_zipI {a b : List Int} (f : Int → Int → Int) (hg : GdM gd M) (hl : a.length ≤ 16777216)
    (step : ∀ i j, (i, j) ∈ a.zip b → ∀ (K : D → Mem → Prop) (Z : Mem → Prop), K (.int (f i j)) M → wg (.tup [.int i, .int j]) ρw M (fun ρ2 M2 => wYes ρ2 M2 (fun b M3 => Br b (we ρ2 M3 K noX) (Z M3)) noX) noX)
    (hk : k (Li (List.zipWith f a b)) M) : loopC gd wg wYes we ρw k (zipD (Li a) (Li b)) [] M := by
  rw [zipD_Li]
  refine lc_any (l := a.zip b) (fun q => .int (f q.1 q.2)) hg (by rw [List.length_zip]; omega) (fun q hq K Z h => step q.1 q.2 hq K Z h) ?_
  have e : (a.zip b).map (fun q => D.int (f q.1 q.2)) = Li (List.zipWith f a b) := by
    clear hk step hl
    induction a generalizing b with
    | nil => simp
    | cons x a ih =>
      cases b with
      | nil => simp
      | cons y b => simp only [List.zip_cons_cons, List.map_cons, List.zipWith_cons_cons]; rw [ih]
  rw [e]; exact hk
end
/-! ### storing fields -/
theorem fput_new {f : Str} {x : D} : ∀ {ns : List Str} {xs : List D}, ns.contains f = false → ns.length = xs.length → fput ns xs f x = (ns ++ [f], xs ++ [x])
  | [], [], _, _ => rfl
  | [], _ :: _, _, h => by simp at h
  | _ :: _, [], _, h => by simp at h
  | n :: ns, y :: ys, h, hl => by
    rw [List.contains_cons, Bool.or_eq_false_iff] at h
    have hn : n ≠ f := fun e => by subst e; simp at h
    simp only [fput, if_neg hn]
    rw [fput_new h.2 (by simpa using hl)]
    rfl
def fixB (f : Str) : List Str → Nat → Bool
  | n :: _, 0 => n == f
  | n :: ns, i + 1 => n != f && fixB f ns i
  | [], _ => false
theorem fput_set {f : Str} {x : D} : ∀ {ns : List Str} {xs : List D} {i : Nat}, fixB f ns i = true → ns.length = xs.length → fput ns xs f x = (ns, xs.set i x)
  | [], _, _, h, _ => by simp [fixB] at h
  | _ :: _, [], _, _, h => by simp at h
  | n :: ns, y :: ys, 0, h, hl => by
    have e : n = f := by simpa [fixB] using h
    simp only [fput, if_pos e, List.set_cons_zero]
  | n :: ns, y :: ys, i + 1, h, hl => by
    simp only [fixB, Bool.and_eq_true] at h
    have hn : n ≠ f := fun e => by subst e; simp at h
    simp only [fput, if_neg hn]
    rw [fput_set h.2 (by simpa using hl)]
    rfl
theorem att_new {cs : List Str} {a : Addr} {c f : Str} {y : D} {M : Mem} {ns : List Str} {xs : List D} {k : Mem → Prop} (e : ns.contains f = false) (hl : ns.length = xs.length) (hc : c ∈ cs) (hn : ns.length < 1000) (h : k (mu M a (.ins c (ns ++ [f]) (xs ++ [y])))) : attD cs (.ref a) f y (mu M a (.ins c ns xs)) k := att_mu (fput_new e hl) hc hn h
theorem att_set {cs : List Str} {a : Addr} {c f : Str} {y : D} {M : Mem} {ns : List Str} {xs : List D} {k : Mem → Prop} (i : Nat) (e : fixB f ns i = true) (hl : ns.length = xs.length) (hc : c ∈ cs) (hn : ns.length < 1000) (h : k (mu M a (.ins c ns (xs.set i y)))) : attD cs (.ref a) f y (mu M a (.ins c ns xs)) k := att_mu (fput_set e hl) hc hn h
theorem att_newO {cs : List Str} {a : Addr} {c f : Str} {y : D} {M : Mem} {ns : List Str} {xs : List D} {k : Mem → Prop} (e0 : M a = some (.ins c ns xs)) (e : ns.contains f = false) (hl : ns.length = xs.length) (hc : c ∈ cs) (hn : ns.length < 1000) (h : k (mu M a (.ins c (ns ++ [f]) (xs ++ [y])))) : attD cs (.ref a) f y M k := att_of e0 (fput_new e hl) hc hn h
theorem att_setO {cs : List Str} {a : Addr} {c f : Str} {y : D} {M : Mem} {ns : List Str} {xs : List D} {k : Mem → Prop} (e0 : M a = some (.ins c ns xs)) (i : Nat) (e : fixB f ns i = true) (hl : ns.length = xs.length) (hc : c ∈ cs) (hn : ns.length < 1000) (h : k (mu M a (.ins c ns (xs.set i y)))) : attD cs (.ref a) f y M k := att_of e0 (fput_set e hl) hc hn h
theorem eq_l0 {l : List Int} {M : Mem} {k : Bool → Prop} (h : k (decide (l = []))) : eqG (.lst (Li l)) (.lst []) M k := eq_ll (m := []) h
theorem eq_0l {l : List Int} {M : Mem} {k : Bool → Prop} (h : k (decide ([] = l))) : eqG (.lst []) (.lst (Li l)) M k := eq_ll (l := []) h
theorem eq_00 {M : Mem} {k : Bool → Prop} (h : k true) : eqG (.lst []) (.lst []) M k := eq_ll (l := []) (m := []) h
theorem eq_t0 {l : List Int} {M : Mem} {k : Bool → Prop} (h : k (decide (l = []))) : eqG (.tup (Li l)) (.tup []) M k := eq_tt (m := []) h
theorem eq_tG {xs ys : List D} {l m : List Int} {M : Mem} {k : Bool → Prop} (hx : xs = Li l) (hy : ys = Li m) (h : k (decide (l = m))) : eqG (.tup xs) (.tup ys) M k := by subst hx hy; exact eq_tt h
theorem eq_lG {xs ys : List D} {l m : List Int} {M : Mem} {k : Bool → Prop} (hx : xs = Li l) (hy : ys = Li m) (h : k (decide (l = m))) : eqG (.lst xs) (.lst ys) M k := by subst hx hy; exact eq_ll h
theorem mem_irng {lo i : Int} {n : Nat} (h : i ∈ irng lo n) : lo ≤ i ∧ i < lo + n := by
  unfold irng at h
  obtain ⟨j, h1, h2⟩ := List.mem_map.mp h
  have := List.mem_range.mp h1
  omega
theorem ints_cut {l : List Int} {a b : Option Int} {k : List Int → Prop} (h : k (Px.cutD l a b)) : intsD (Px.cutD (Li l) a b) k := ints_eq (cutD_map _ _ _ _) h
theorem lc_id {gd : List (Addr × List D)} {wg : WG} {wt : WT} {we : W} {ρw : St'} {k : List D → Mem → Prop} {xs acc : List D} {M : Mem} (h : loopC gd wg wt we ρw k xs acc M) : loopC gd wg wt we ρw k xs acc M := h
theorem irng_len (lo : Int) (n : Nat) : (irng lo n).length = n := by unfold irng; simp
theorem irng_at {lo : Int} {n i : Nat} (h : i < n) : (irng lo n)[i]? = some (lo + i) := by
  unfold irng
  rw [List.getElem?_map, List.getElem?_range h]
  rfl
theorem irngC_len (lo c : Int) (n : Nat) : (irngC lo c n).length = n := by unfold irngC; simp
theorem irngC_at {lo c : Int} {n i : Nat} (h : i < n) : (irngC lo c n)[i]? = some (lo + i * c) := by
  unfold irngC
  rw [List.getElem?_map, List.getElem?_range h]
  rfl
theorem mem_irngC {lo c i : Int} {n : Nat} (h : i ∈ irngC lo c n) : ∃ j : Nat, j < n ∧ i = lo + j * c := by
  unfold irngC at h
  obtain ⟨j, h1, h2⟩ := List.mem_map.mp h
  exact ⟨j, List.mem_range.mp h1, h2.symm⟩
/-- the first one that passes, of a list -/
theorem filter_head {l : List Int} {p : Int → Bool} {i : Nat} {x : Int} (h : l[i]? = some x) (hp : p x = true) (hn : ∀ j y, j < i → l[j]? = some y → p y = false) : (l.filter p)[0]? = some x := by
  rw [← List.head?_eq_getElem?, List.head?_filter, List.find?_eq_some_iff_getElem]
  obtain ⟨h1, h2⟩ := List.getElem?_eq_some_iff.mp h
  refine ⟨hp, i, h1, h2, fun j hj => ?_⟩
  rw [hn j _ hj (List.getElem?_eq_getElem (by omega))]
  rfl
theorem eq_pair {a b c d : Int} {M : Mem} {k : Bool → Prop} (h : k (decide ([a, b] = [c, d]))) : eqG (.tup [.int a, .int b]) (.tup [.int c, .int d]) M k := eq_tt (l := [a, b]) (m := [c, d]) h
theorem br_same {b c : Bool} {A B : Prop} (e : b = c) (h : A) : Br (b == c) A B := by subst e; rw [beq_self_eq_true]; exact br_t h
theorem br_isD {p : Prop} {inst : Decidable p} {A B : Prop} (hp : p) (h : A) : Br (isBl true (.bl (decide p))) A B := by
  have e : isBl true (.bl (decide p)) = true := by rw [decide_eq_true hp]; rfl
  rw [e]; exact br_t h
end Px

set_option Elab.async false
set_option linter.all false
set_option maxRecDepth 100000
set_option maxHeartbeats 4000000
namespace K08
open PySem PySem.Spec PyProof.Rows L2 Rl RZ RT
def t_Row_eq (K : PySem.W.Frag) (w : World) : TS :=
  (tRet (tAndT K (tCB (qIsi K) (tCons (tVar 1) (tCons (tC (.ref (He.ga K "Row"))) tNil))) (tOp (qEq K) (tFld K (tVar 0) "gains") (tFld K (tVar 1) "gains"))))
abbrev N_Row_eq : List Str := ["self", "other"]
def sp_Row_eq (K : PySem.W.Frag) (w : World) : Sp := fun vs H Q _ => vs.length = 2 ∧ t_Row_eq K w { nx := fun _ H' => Q .non H', rt := Q } (start N_Row_eq vs) H
def t_Row_len (K : PySem.W.Frag) (w : World) : TS :=
  (tRet (tCB (qLen K) (tCons (tFld K (tVar 0) "gains") tNil)))
abbrev N_Row_len : List Str := ["self"]
def sp_Row_len (K : PySem.W.Frag) (w : World) : Sp := fun vs H Q _ => vs.length = 1 ∧ t_Row_len K w { nx := fun _ H' => Q .non H', rt := Q } (start N_Row_len vs) H
def t_word_of (K : PySem.W.Frag) (w : World) : TS :=
  (tSeq (tIfS (tTest (tOp qGt (tCB (qMnT K) (tCons (tVar 0) tNil)) (tC (.int 0)))) (tRet (tC (.str "gains"))) tNext)
  (tSeq (tIfS (tTest (tOp (qLt K) (tCB (qMxT K) (tCons (tVar 0) tNil)) (tC (.int 0)))) (tRet (tC (.str "loses"))) tNext)
  (tRet (tIf (tAnd (tTest (tOp (qEq K) (tCB (qMnT K) (tCons (tVar 0) tNil)) (tC (.int 0)))) (tTest (tOp (qEq K) (tCB (qMxT K) (tCons (tVar 0) tNil)) (tC (.int 0))))) (tC (.str "flat")) (tC (.str "mixed"))))))
abbrev N_word_of : List Str := ["told"]
def sp_word_of (K : PySem.W.Frag) (w : World) : Sp := fun vs H Q _ => vs.length = 1 ∧ t_word_of K w { nx := fun _ H' => Q .non H', rt := Q } (start N_word_of vs) H
def t_sums_in (K : PySem.W.Frag) (w : World) : TS :=
  (tRet (tCB (qTup K) (tCons (tLc (iZipA K (tCons (tFld K (tVar 0) "heights") (tCons (tSl (qSl K) (tFld K (tVar 0) "heights") (tPart (tVar 1)) tNoPart) tNil))) (gTup K 2 (gCons (gName 2) (gCons (gName 3) gNil))) tYes (tOp qSub (tVar 3) (tVar 2)) [2, 3]) tNil)))
abbrev N_sums_in : List Str := ["row", "length", "ahead", "behind"]
def sp_sums_in (K : PySem.W.Frag) (w : World) : Sp := fun vs H Q _ => vs.length = 2 ∧ t_sums_in K w { nx := fun _ H' => Q .non H', rt := Q } (start N_sums_in vs) H
def t_is_integer (K : PySem.W.Frag) (w : World) : TS :=
  (tRet (tAndT K (tCB (qIsi K) (tCons (tVar 0) (tCons (tC (.ty "int")) tNil))) (tNotT K (tCB (qIsi K) (tCons (tVar 0) (tCons (tC (.ty "bool")) tNil))))))
abbrev N_is_integer : List Str := ["value"]
def sp_is_integer (K : PySem.W.Frag) (w : World) : Sp := fun vs H Q _ => vs.length = 1 ∧ t_is_integer K w { nx := fun _ H' => Q .non H', rt := Q } (start N_is_integer vs) H
def t_is_within (K : PySem.W.Frag) (w : World) : TS :=
  (tSeq (tIfS (tNot (tTru K (tFn 1 0 (sp_is_integer K w) (fun vs _ => vs) E0 (tcP (tCons (tVar 0) tNil))))) (tRet (tC (.bl false))) tNext)
  (tRet (tAndT K (tOrT K (tOp qIs (tVar 1) (tC .non)) (tOp qLe (tVar 1) (tVar 0))) (tOrT K (tOp qIs (tVar 2) (tC .non)) (tOp qLe (tVar 0) (tVar 2))))))
abbrev N_is_within : List Str := ["value", "least", "most"]
def sp_is_within (K : PySem.W.Frag) (w : World) : Sp := fun vs H Q _ => vs.length = 3 ∧ t_is_within K w { nx := fun _ H' => Q .non H', rt := Q } (start N_is_within vs) H
def t_need_number (K : PySem.W.Frag) (w : World) : TS :=
  (tIfS (tNot (tTru K (tFn 3 0 (sp_is_within K w) (fun vs _ => vs) E0 (tcP (tCons (tVar 0) (tCons (tVar 2) (tCons (tVar 3) tNil))))))) tNever tNext)
abbrev N_need_number : List Str := ["value", "part", "least", "most"]
def sp_need_number (K : PySem.W.Frag) (w : World) : Sp := fun vs H Q _ => vs.length = 4 ∧ t_need_number K w { nx := fun _ H' => Q .non H', rt := Q } (start N_need_number vs) H
def t_need_row (K : PySem.W.Frag) (w : World) : TS :=
  (tIfS (tNot (tTru K (tCB (qIsi K) (tCons (tVar 0) (tCons (tC (.ref (He.ga K "Row"))) tNil))))) tNever tNext)
abbrev N_need_row : List Str := ["value", "part"]
def sp_need_row (K : PySem.W.Frag) (w : World) : Sp := fun vs H Q _ => vs.length = 2 ∧ t_need_row K w { nx := fun _ H' => Q .non H', rt := Q } (start N_need_row vs) H
def t_need_length (K : PySem.W.Frag) (w : World) : TS :=
  (tSeq (tDrop (tFn 2 0 (sp_need_row K w) (fun vs _ => vs) E0 (tcP (tCons (tVar 0) (tCons (tC (.str "row")) tNil)))))
  (tDrop (tFn 4 0 (sp_need_number K w) (fun vs _ => vs) E0 (tcP (tCons (tVar 1) (tCons (tC (.str "length")) (tCons (tC (.int 1)) (tCons (tFld K (tVar 0) "days") tNil))))))))
abbrev N_need_length : List Str := ["row", "length"]
def sp_need_length (K : PySem.W.Frag) (w : World) : Sp := fun vs H Q _ => vs.length = 2 ∧ t_need_length K w { nx := fun _ H' => Q .non H', rt := Q } (start N_need_length vs) H
def t_sort_of (K : PySem.W.Frag) (w : World) : TS :=
  (tSeq (tDrop (tFn 2 0 (sp_need_length K w) (fun vs _ => vs) E0 (tcP (tCons (tVar 0) (tCons (tVar 1) tNil)))))
  (tRet (tFn 1 0 (sp_word_of K w) (fun vs _ => vs) E0 (tcP (tCons (tFn 2 0 (sp_sums_in K w) (fun vs _ => vs) E0 (tcP (tCons (tVar 0) (tCons (tVar 1) tNil)))) tNil)))))
abbrev N_sort_of : List Str := ["row", "length"]
def sp_sort_of (K : PySem.W.Frag) (w : World) : Sp := fun vs H Q _ => vs.length = 2 ∧ t_sort_of K w { nx := fun _ H' => Q .non H', rt := Q } (start N_sort_of vs) H
def t_sums (K : PySem.W.Frag) (w : World) : TS :=
  (tSeq (tDrop (tFn 2 0 (sp_need_length K w) (fun vs _ => vs) E0 (tcP (tCons (tVar 0) (tCons (tVar 1) tNil)))))
  (tRet (tFn 2 0 (sp_sums_in K w) (fun vs _ => vs) E0 (tcP (tCons (tVar 0) (tCons (tVar 1) tNil))))))
abbrev N_sums : List Str := ["row", "length"]
def sp_sums (K : PySem.W.Frag) (w : World) : Sp := fun vs H Q _ => vs.length = 2 ∧ t_sums K w { nx := fun _ H' => Q .non H', rt := Q } (start N_sums vs) H
def t_law_sums (K : PySem.W.Frag) (w : World) : TS :=
  (tRet (tLc (iRng1 (tCons (tOp (qAdd K) (tOp qSub (tCB (orC (qLen K) (rLenO (He.ga K "Row") (sp_Row_len K w) E0)) (tCons (tVar 0) tNil)) (tVar 1)) (tC (.int 1))) tNil)) (gName 2) tYes (tCB (rSum K) (tCons (tSl (qSl K) (tVar 0) (tPart (tVar 2)) (tPart (tOp (qAdd K) (tVar 2) (tVar 1)))) tNil)) [2]))
abbrev N_law_sums : List Str := ["_law_gains_here", "_law_length", "_law_begin"]
def sp_law_sums (K : PySem.W.Frag) (w : World) : Sp := fun vs H Q _ => vs.length = 2 ∧ t_law_sums K w { nx := fun _ H' => Q .non H', rt := Q } (start N_law_sums vs) H
def t_heights_of (K : PySem.W.Frag) (w : World) : TS :=
  (tSeq (tAsg (tLst (tCons (tC (.int 0)) tNil)) (gName 1))
  (tSeq (tFor (iSeq K (tVar 0)) (gName 2) (tDrop (tBM K "list" rAppend (tVar 1) (tCons (tOp (qAdd K) (tOp (rIx K) (tVar 1) (tUn (rU fun i => .int (-i)) (tC (.int 1)))) (tVar 2)) tNil))))
  (tRet (tCB (qTup K) (tCons (tVar 1) tNil)))))
abbrev N_heights_of : List Str := ["gains", "found", "gain"]
def sp_heights_of (K : PySem.W.Frag) (w : World) : Sp := fun vs H Q _ => vs.length = 1 ∧ t_heights_of K w { nx := fun _ H' => Q .non H', rt := Q } (start N_heights_of vs) H
def t_are_integers (K : PySem.W.Frag) (w : World) : TS :=
  (tRet (tAndT K (tCB (qIsi K) (tCons (tVar 0) (tCons (tTup (tCons (tC (.ty "list")) (tCons (tC (.ty "tuple")) tNil))) tNil))) (tCB (rAll K) (tCons (tLc (iSeq K (tVar 0)) (gName 1) tYes (tFn 1 0 (sp_is_integer K w) (fun vs _ => vs) E0 (tcP (tCons (tVar 1) tNil))) [1]) tNil))))
abbrev N_are_integers : List Str := ["value", "each"]
def sp_are_integers (K : PySem.W.Frag) (w : World) : Sp := fun vs H Q _ => vs.length = 1 ∧ t_are_integers K w { nx := fun _ H' => Q .non H', rt := Q } (start N_are_integers vs) H
def t_Row_init (K : PySem.W.Frag) (w : World) : TS :=
  (tSeq (tIfS (tOr (tNot (tTru K (tFn 1 0 (sp_are_integers K w) (fun vs _ => vs) E0 (tcP (tCons (tVar 1) tNil))))) (tTest (tOp (qEq K) (tCB (qLen K) (tCons (tVar 1) tNil)) (tC (.int 0))))) tNever tNext)
  (tSeq (tIfS (tTest (tOp qGt (tCB (qLen K) (tCons (tVar 1) tNil)) (tC (.int (48))))) tNever tNext)
  (tSeq (sFld K (tVar 0) (tCB (qTup K) (tCons (tVar 1) tNil)) "gains")
  (tSeq (sFld K (tVar 0) (tFn 1 0 (sp_heights_of K w) (fun vs _ => vs) E0 (tcP (tCons (tVar 1) tNil))) "heights")
  (tSeq (sFld K (tVar 0) (tCB (qLen K) (tCons (tVar 1) tNil)) "days")
  (sFld K (tVar 0) (tOp (rIx K) (tFld K (tVar 0) "heights") (tUn (rU fun i => .int (-i)) (tC (.int 1)))) "total"))))))
abbrev N_Row_init : List Str := ["self", "gains"]
def sp_Row_init (K : PySem.W.Frag) (w : World) : Sp := fun vs H Q _ => vs.length = 2 ∧ t_Row_init K w { nx := fun _ H' => Q .non H', rt := Q } (start N_Row_init vs) H
def t_Row_times (K : PySem.W.Frag) (w : World) : TS :=
  (tSeq (tDrop (tFn 4 0 (sp_need_number K w) (fun vs _ => vs) E0 (tcP (tCons (tVar 1) (tCons (tC (.str "number")) (tCons (tC .non) (tCons (tC .non) tNil)))))))
  (tRet (tNew (He.ga K "Row") 1 0 (sp_Row_init K w) (fun vs _ => vs) E0 (tcP (tCons (tLc (iSeq K (tFld K (tVar 0) "gains")) (gName 2) tYes (tOp (qMulT K) (tVar 1) (tVar 2)) [2]) tNil)))))
abbrev N_Row_times : List Str := ["self", "number", "gain"]
def sp_Row_times (K : PySem.W.Frag) (w : World) : Sp := fun vs H Q _ => vs.length = 2 ∧ t_Row_times K w { nx := fun _ H' => Q .non H', rt := Q } (start N_Row_times vs) H
def t_Row_plus (K : PySem.W.Frag) (w : World) : TS :=
  (tSeq (tDrop (tFn 4 0 (sp_need_number K w) (fun vs _ => vs) E0 (tcP (tCons (tVar 1) (tCons (tC (.str "number")) (tCons (tC .non) (tCons (tC .non) tNil)))))))
  (tRet (tNew (He.ga K "Row") 1 0 (sp_Row_init K w) (fun vs _ => vs) E0 (tcP (tCons (tLc (iSeq K (tFld K (tVar 0) "gains")) (gName 2) tYes (tOp (qAdd K) (tVar 2) (tVar 1)) [2]) tNil)))))
abbrev N_Row_plus : List Str := ["self", "number", "gain"]
def sp_Row_plus (K : PySem.W.Frag) (w : World) : Sp := fun vs H Q _ => vs.length = 2 ∧ t_Row_plus K w { nx := fun _ H' => Q .non H', rt := Q } (start N_Row_plus vs) H
def t_levelled (K : PySem.W.Frag) (w : World) : TS :=
  (tSeq (tDrop (tFn 2 0 (sp_need_row K w) (fun vs _ => vs) E0 (tcP (tCons (tVar 0) (tCons (tC (.str "row")) tNil)))))
  (tRet (tMt (He.ga K "Row") "plus" 1 0 (sp_Row_plus K w) (fun vs _ => vs) E0 (tMt (He.ga K "Row") "times" 1 0 (sp_Row_times K w) (fun vs _ => vs) E0 (tVar 0) (tcP (tCons (tFld K (tVar 0) "days") tNil))) (tcP (tCons (tUn (rU fun i => .int (-i)) (tFld K (tVar 0) "total")) tNil)))))
abbrev N_levelled : List Str := ["row"]
def sp_levelled (K : PySem.W.Frag) (w : World) : Sp := fun vs H Q _ => vs.length = 1 ∧ t_levelled K w { nx := fun _ H' => Q .non H', rt := Q } (start N_levelled vs) H
def t_law_lengths_right (K : PySem.W.Frag) (w : World) : TS :=
  (tSeq (tAsg (tTup (tCons (tCB (orC (qLen K) (rLenO (He.ga K "Row") (sp_Row_len K w) E0)) (tCons (tVar 1) tNil)) (tCons (tCB (rSum K) (tCons (tVar 1) tNil)) (tCons (tFn 1 0 (sp_levelled K w) (fun vs _ => vs) E0 (tcP (tCons (tVar 0) tNil))) tNil)))) (gTup K 3 (gCons (gName 2) (gCons (gName 3) (gCons (gName 4) gNil)))))
  (tSeq (tFor (iRng2 (tCons (tC (.int 1)) (tCons (tOp (qAdd K) (tVar 2) (tC (.int 1))) tNil))) (gName 5) (tSeq (tAsg (tFn 2 0 (sp_law_sums K w) (fun vs _ => vs) E0 (tcP (tCons (tVar 1) (tCons (tVar 5) tNil)))) (gName 6))
  (tSeq (tIfS (tTest (tOp (orR2 (qNe K) (rNeO K (He.ga K "Row") (sp_Row_eq K w) E0)) (tFn 2 0 (sp_sums K w) (fun vs _ => vs) E0 (tcP (tCons (tVar 4) (tCons (tVar 5) tNil)))) (tCB (qTup K) (tCons (tLc (iSeq K (tVar 6)) (gName 10) tYes (tOp qSub (tOp (qMulT K) (tVar 2) (tVar 10)) (tOp (qMulT K) (tVar 5) (tVar 3))) [10]) tNil)))) (tRet (tC (.bl false))) tNext)
  (tSeq (tPar 7 8 (tCons (tLc (iSeq K (tVar 6)) (gName 10) (tTest (tOp qGt (tOp (qMulT K) (tVar 2) (tVar 10)) (tOp (qMulT K) (tVar 5) (tVar 3)))) (tVar 10) [10]) (tCons (tLc (iSeq K (tVar 6)) (gName 10) (tTest (tOp (qLt K) (tOp (qMulT K) (tVar 2) (tVar 10)) (tOp (qMulT K) (tVar 5) (tVar 3)))) (tVar 10) [10]) tNil)))
  (tSeq (tAsg (tFn 2 0 (sp_sort_of K w) (fun vs _ => vs) E0 (tcP (tCons (tVar 4) (tCons (tVar 5) tNil)))) (gName 9))
  (tSeq (tIfS (tOr (tTest (tOp (orR2 (qNe K) (rNeO K (He.ga K "Row") (sp_Row_eq K w) E0)) (tOp (orR2 (qEq K) (rEqO K (He.ga K "Row") (sp_Row_eq K w) E0)) (tVar 9) (tC (.str "gains"))) (tOp (orR2 (qEq K) (rEqO K (He.ga K "Row") (sp_Row_eq K w) E0)) (tCB (orC (qLen K) (rLenO (He.ga K "Row") (sp_Row_len K w) E0)) (tCons (tVar 7) tNil)) (tCB (orC (qLen K) (rLenO (He.ga K "Row") (sp_Row_len K w) E0)) (tCons (tVar 6) tNil))))) (tOr (tTest (tOp (orR2 (qNe K) (rNeO K (He.ga K "Row") (sp_Row_eq K w) E0)) (tOp (orR2 (qEq K) (rEqO K (He.ga K "Row") (sp_Row_eq K w) E0)) (tVar 9) (tC (.str "loses"))) (tOp (orR2 (qEq K) (rEqO K (He.ga K "Row") (sp_Row_eq K w) E0)) (tCB (orC (qLen K) (rLenO (He.ga K "Row") (sp_Row_len K w) E0)) (tCons (tVar 8) tNil)) (tCB (orC (qLen K) (rLenO (He.ga K "Row") (sp_Row_len K w) E0)) (tCons (tVar 6) tNil))))) (tTest (tOp (orR2 (qNe K) (rNeO K (He.ga K "Row") (sp_Row_eq K w) E0)) (tOp (orR2 (qEq K) (rEqO K (He.ga K "Row") (sp_Row_eq K w) E0)) (tVar 9) (tC (.str "flat"))) (tOp (orR2 (qEq K) (rEqO K (He.ga K "Row") (sp_Row_eq K w) E0)) (tOp (qAdd K) (tVar 7) (tVar 8)) (tLst tNil)))))) (tRet (tC (.bl false))) tNext)
  (tIfS (tAnd (tTest (tOp (orR2 (qEq K) (rEqO K (He.ga K "Row") (sp_Row_eq K w) E0)) (tOp qMd (tCB qInt (tCons (tVar 2) tNil)) (tVar 5)) (tC (.int 0)))) (tTest (tOp (qIn K) (tVar 9) (tTup (tCons (tC (.str "gains")) (tCons (tC (.str "loses")) tNil)))))) (tRet (tC (.bl false))) tNext)))))))
  (tRet (tC (.bl true)))))
abbrev N_law_lengths_right : List Str := ["_law_row", "_law_gains_here", "_law_days", "_law_total", "_law_told", "_law_length", "_law_mine", "_law_over", "_law_under", "_law_word", "_law_one"]
def sp_law_lengths_right (K : PySem.W.Frag) (w : World) : Sp := fun vs H Q _ => vs.length = 2 ∧ t_law_lengths_right K w { nx := fun _ H' => Q .non H', rt := Q } (start N_law_lengths_right vs) H
def t_measure (K : PySem.W.Frag) (w : World) : TS :=
  (tSeq (tPar 0 1 (tCons (tCB qAbs (tCons (tVar 0) tNil)) (tCons (tCB qAbs (tCons (tVar 1) tNil)) tNil)))
  (tSeq (tWhile (tTest (tOp (qNe K) (tVar 1) (tC (.int 0)))) (tPar 0 1 (tCons (tVar 1) (tCons (tOp qMd (tVar 0) (tVar 1)) tNil))))
  (tRet (tVar 0))))
abbrev N_measure : List Str := ["one", "other"]
def sp_measure (K : PySem.W.Frag) (w : World) : Sp := fun vs H Q _ => vs.length = 2 ∧ t_measure K w { nx := fun _ H' => Q .non H', rt := Q } (start N_measure vs) H
def t_in_lowest (K : PySem.W.Frag) (w : World) : TS :=
  (tSeq (tAsg (tIf (tTest (tOp qGt (tVar 1) (tC (.int 0)))) (tFn 2 0 (sp_measure K w) (fun vs _ => vs) E0 (tcP (tCons (tVar 0) (tCons (tVar 1) tNil)))) (tUn (rU fun i => .int (-i)) (tFn 2 0 (sp_measure K w) (fun vs _ => vs) E0 (tcP (tCons (tVar 0) (tCons (tVar 1) tNil)))))) (gName 2))
  (tRet (tTup (tCons (tOp qFd (tVar 0) (tVar 2)) (tCons (tOp qFd (tVar 1) (tVar 2)) tNil)))))
abbrev N_in_lowest : List Str := ["number", "by", "shared"]
def sp_in_lowest (K : PySem.W.Frag) (w : World) : Sp := fun vs H Q _ => vs.length = 2 ∧ t_in_lowest K w { nx := fun _ H' => Q .non H', rt := Q } (start N_in_lowest vs) H
def t_steady (K : PySem.W.Frag) (w : World) : TS :=
  (tSeq (tDrop (tFn 2 0 (sp_need_row K w) (fun vs _ => vs) E0 (tcP (tCons (tVar 0) (tCons (tC (.str "row")) tNil)))))
  (tRet (tFn 2 0 (sp_in_lowest K w) (fun vs _ => vs) E0 (tcP (tCons (tFld K (tVar 0) "total") (tCons (tFld K (tVar 0) "days") tNil))))))
abbrev N_steady : List Str := ["row"]
def sp_steady (K : PySem.W.Frag) (w : World) : Sp := fun vs H Q _ => vs.length = 1 ∧ t_steady K w { nx := fun _ H' => Q .non H', rt := Q } (start N_steady vs) H
def t_law_part (K : PySem.W.Frag) (w : World) : TS :=
  (tSeq (tAsg (tOp (rIx K) (tLc (iRng3 (tCons (tVar 1) (tCons (tC (.int 0)) (tCons (tUn (rU fun i => .int (-i)) (tC (.int 1))) tNil)))) (gName 3) (tAnd (tTest (tOp (orR2 (qEq K) (rEqO K (He.ga K "Row") (sp_Row_eq K w) E0)) (tOp qMd (tCB qInt (tCons (tVar 1) tNil)) (tVar 3)) (tC (.int 0)))) (tTest (tOp (orR2 (qEq K) (rEqO K (He.ga K "Row") (sp_Row_eq K w) E0)) (tOp qMd (tCB qInt (tCons (tVar 0) tNil)) (tVar 3)) (tC (.int 0))))) (tVar 3) [3]) (tC (.int 0))) (gName 2))
  (tRet (tTup (tCons (tCB qInt (tCons (tOp qFd (tVar 0) (tVar 2)) tNil)) (tCons (tCB qInt (tCons (tOp qFd (tVar 1) (tVar 2)) tNil)) tNil)))))
abbrev N_law_part : List Str := ["_law_total", "_law_days", "_law_shared", "_law_each"]
def sp_law_part (K : PySem.W.Frag) (w : World) : Sp := fun vs H Q _ => vs.length = 2 ∧ t_law_part K w { nx := fun _ H' => Q .non H', rt := Q } (start N_law_part vs) H
def t_Row_backwards (K : PySem.W.Frag) (w : World) : TS :=
  (tRet (tNew (He.ga K "Row") 1 0 (sp_Row_init K w) (fun vs _ => vs) E0 (tcP (tCons (tRevA K (tFld K (tVar 0) "gains")) tNil))))
abbrev N_Row_backwards : List Str := ["self"]
def sp_Row_backwards (K : PySem.W.Frag) (w : World) : Sp := fun vs H Q _ => vs.length = 1 ∧ t_Row_backwards K w { nx := fun _ H' => Q .non H', rt := Q } (start N_Row_backwards vs) H
def t_is_level (K : PySem.W.Frag) (w : World) : TS :=
  (tSeq (tDrop (tFn 2 0 (sp_need_row K w) (fun vs _ => vs) E0 (tcP (tCons (tVar 0) (tCons (tC (.str "row")) tNil)))))
  (tRet (tOp (qEq K) (tFld K (tVar 0) "total") (tC (.int 0)))))
abbrev N_is_level : List Str := ["row"]
def sp_is_level (K : PySem.W.Frag) (w : World) : Sp := fun vs H Q _ => vs.length = 1 ∧ t_is_level K w { nx := fun _ H' => Q .non H', rt := Q } (start N_is_level vs) H
def t_law_drip (K : PySem.W.Frag) (w : World) : TS :=
  (tSeq (tIfS (tTest (tOp qGt (tOp (rIx K) (tVar 0) (tC (.int 2))) (tC (.int 0)))) (tSeq (tAsg (tOp qMd (tCB qInt (tCons (tOp (rIx K) (tVar 0) (tC (.int 2))) tNil)) (tVar 1)) (gName 2))
  (tSeq (tAsg (tOp qFd (tCB qInt (tCons (tOp (rIx K) (tVar 0) (tC (.int 2))) tNil)) (tVar 1)) (gSub (tVar 0) (tC (.int 2)) rSetL))
  (tRet (tVar 2)))) tNext)
  (tSeq (tAsg (tOp (rIx K) (tVar 0) (tC (.int 1))) (gName 3))
  (tSeq (tAsg (tOp (qAdd K) (tVar 3) (tC (.int 1))) (gSub (tVar 0) (tC (.int 1)) rSetL))
  (tSeq (tAsg (tOp (qAdd K) (tOp (qMulT K) (tC (.int 63067)) (tVar 3)) (tC (.int 8167))) (gName 4))
  (tSeq (tIfS (tTest (tOp (orR2 (qNe K) (rNeO K (He.ga K "Row") (sp_Row_eq K w) E0)) (tOp (rIx K) (tVar 0) (tC (.int 0))) (tLst tNil))) (tAsg (tOp (rIx K) (tOp (rIx K) (tVar 0) (tC (.int 0))) (tOp qMd (tCB qInt (tCons (tVar 3) tNil)) (tCB (orC (qLen K) (rLenO (He.ga K "Row") (sp_Row_len K w) E0)) (tCons (tOp (rIx K) (tVar 0) (tC (.int 0))) tNil)))) (gName 4)) tNext)
  (tSeq (tIfS (tAnd (tTest (tOp (qLt K) (tVar 3) (tCB (orC (qLen K) (rLenO (He.ga K "Row") (sp_Row_len K w) E0)) (tCons (tOp (rIx K) (tVar 0) (tC (.int 0))) tNil)))) (tTest (tOp qGe (tCB qAbs (tCons (tVar 4) tNil)) (tOp qPw (tC (.int 10)) (tC (.int 18)))))) (tSeq (tAsg (tOp (qAdd K) (tOp (qMulT K) (tC (.int 2)) (tOp qSub (tCB qAbs (tCons (tVar 4) tNil)) (tOp qPw (tC (.int 10)) (tC (.int 18))))) (tCB qInt (tCons (tOp (qLt K) (tVar 4) (tC (.int 0))) tNil))) (gName 5))
  (tSeq (tAsg (tOp qFd (tCB qInt (tCons (tVar 5) tNil)) (tVar 1)) (gSub (tVar 0) (tC (.int 2)) rSetL))
  (tRet (tOp qMd (tCB qInt (tCons (tVar 5) tNil)) (tVar 1))))) tNext)
  (tSeq (tAsg (tOp qMd (tCB qInt (tCons (tOp qPw (tOp (qAdd K) (tOp (qAdd K) (tOp qMd (tCB qInt (tCons (tVar 4) tNil)) (tC (.int 2147483629))) (tOp (qMulT K) (tC (.int 74531)) (tVar 3))) (tC (.int 8167))) (tC (.int 5))) tNil)) (tC (.int 2147483579))) (gName 6))
  (tSeq (tAsg (tOp qMd (tCB qInt (tCons (tOp qPw (tOp (qAdd K) (tOp (qAdd K) (tOp (qMulT K) (tVar 6) (tOp (qAdd K) (tOp (qMulT K) (tC (.int 2)) (tVar 3)) (tC (.int 2441)))) (tOp (qMulT K) (tOp (qMulT K) (tC (.int 63067)) (tVar 3)) (tVar 3))) (tC (.int 93683))) (tC (.int 3))) tNil)) (tC (.int 2147483587))) (gName 6))
  (tRet (tOp qMd (tCB qInt (tCons (tOp qFd (tVar 6) (tC (.int 64))) tNil)) (tVar 1)))))))))))
abbrev N_law_drip : List Str := ["_law_tap_here", "_law_many", "_law_digit", "_law_at", "_law_cell", "_law_great", "_law_mixed"]
def sp_law_drip (K : PySem.W.Frag) (w : World) : Sp := fun vs H Q _ => vs.length = 2 ∧ t_law_drip K w { nx := fun _ H' => Q .non H', rt := Q } (start N_law_drip vs) H
def t_law_any (K : PySem.W.Frag) (w : World) : TS :=
  (tRet (tOp (rIx K) (tVar 1) (tFn 2 0 (sp_law_drip K w) (fun vs _ => vs) E0 (tcP (tCons (tVar 0) (tCons (tCB (orC (qLen K) (rLenO (He.ga K "Row") (sp_Row_len K w) E0)) (tCons (tVar 1) tNil)) tNil))))))
abbrev N_law_any : List Str := ["_law_tap_here", "_law_some"]
def sp_law_any (K : PySem.W.Frag) (w : World) : Sp := fun vs H Q _ => vs.length = 2 ∧ t_law_any K w { nx := fun _ H' => Q .non H', rt := Q } (start N_law_any vs) H
def t_law_plain_right (K : PySem.W.Frag) (w : World) : TS :=
  (tSeq (tAsg (tTup (tCons (tCB (orC (qLen K) (rLenO (He.ga K "Row") (sp_Row_len K w) E0)) (tCons (tVar 2) tNil)) (tCons (tCB (rSum K) (tCons (tVar 2) tNil)) (tCons (tFn 2 0 (sp_law_any K w) (fun vs _ => vs) E0 (tcP (tCons (tVar 0) (tCons (tLst (tCons (tC (.int 1)) (tCons (tUn (rU fun i => .int (-i)) (tC (.int 2))) (tCons (tC (.int 0)) (tCons (tOp qPw (tC (.int 10)) (tC (.int 9))) tNil))))) tNil)))) tNil)))) (gTup K 3 (gCons (gName 3) (gCons (gName 4) (gCons (gName 5) gNil)))))
  (tSeq (tPar 6 7 (tCons (tFn 0 1 (sp_levelled K w) (pick V.non [0]) E0 (tcK (tCons (tVar 1) tNil))) (tCons (tFn 0 1 (sp_is_level K w) (pick V.non [0]) E0 (tcK (tCons (tVar 1) tNil))) tNil)))
  (tSeq (tIfS (tOr (tNot (tTru K (tCB (qIsi K) (tCons (tVar 7) (tCons (tC (.ty "bool")) tNil))))) (tOr (tTest (tOp (orR2 (qNe K) (rNeO K (He.ga K "Row") (sp_Row_eq K w) E0)) (tVar 7) (tOp (orR2 (qEq K) (rEqO K (He.ga K "Row") (sp_Row_eq K w) E0)) (tVar 4) (tC (.int 0))))) (tOr (tTest (tOp (orR2 (qNe K) (rNeO K (He.ga K "Row") (sp_Row_eq K w) E0)) (tFn 0 1 (sp_steady K w) (pick V.non [0]) E0 (tcK (tCons (tVar 1) tNil))) (tFn 2 0 (sp_law_part K w) (fun vs _ => vs) E0 (tcP (tCons (tVar 4) (tCons (tVar 3) tNil)))))) (tNot (tTru K (tCB (qIsi K) (tCons (tFn 1 0 (sp_steady K w) (fun vs _ => vs) E0 (tcP (tCons (tVar 1) tNil))) (tCons (tC (.ty "tuple")) tNil)))))))) (tRet (tC (.bl false))) tNext)
  (tSeq (tIfS (tOr (tTest (tOp (orR2 (qNe K) (rNeO K (He.ga K "Row") (sp_Row_eq K w) E0)) (tFld K (tVar 6) "gains") (tCB (qTup K) (tCons (tLc (iSeq K (tVar 2)) (gName 8) tYes (tOp qSub (tOp (qMulT K) (tVar 3) (tVar 8)) (tVar 4)) [8]) tNil)))) (tOr (tTest (tOp qIsnB (tFn 1 0 (sp_is_level K w) (fun vs _ => vs) E0 (tcP (tCons (tVar 6) tNil))) (tC (.bl true)))) (tTest (tOp (orR2 (qNe K) (rNeO K (He.ga K "Row") (sp_Row_eq K w) E0)) (tFn 1 0 (sp_steady K w) (fun vs _ => vs) E0 (tcP (tCons (tVar 6) tNil))) (tTup (tCons (tC (.int 0)) (tCons (tC (.int 1)) tNil))))))) (tRet (tC (.bl false))) tNext)
  (tSeq (tIfS (tOr (tTest (tOp (orR2 (qNe K) (rNeO K (He.ga K "Row") (sp_Row_eq K w) E0)) (tFn 1 0 (sp_levelled K w) (fun vs _ => vs) E0 (tcP (tCons (tMt (He.ga K "Row") "plus" 1 0 (sp_Row_plus K w) (fun vs _ => vs) E0 (tVar 1) (tcP (tCons (tVar 5) tNil))) tNil))) (tVar 6))) (tOr (tTest (tOp (orR2 (qNe K) (rNeO K (He.ga K "Row") (sp_Row_eq K w) E0)) (tFn 1 0 (sp_levelled K w) (fun vs _ => vs) E0 (tcP (tCons (tMt (He.ga K "Row") "times" 1 0 (sp_Row_times K w) (fun vs _ => vs) E0 (tVar 1) (tcP (tCons (tVar 5) tNil))) tNil))) (tMt (He.ga K "Row") "times" 1 0 (sp_Row_times K w) (fun vs _ => vs) E0 (tVar 6) (tcP (tCons (tVar 5) tNil))))) (tTest (tOp (orR2 (qNe K) (rNeO K (He.ga K "Row") (sp_Row_eq K w) E0)) (tFn 1 0 (sp_levelled K w) (fun vs _ => vs) E0 (tcP (tCons (tMt (He.ga K "Row") "backwards" 0 0 (sp_Row_backwards K w) (fun vs _ => vs) E0 (tVar 1) (tcP tNil)) tNil))) (tMt (He.ga K "Row") "backwards" 0 0 (sp_Row_backwards K w) (fun vs _ => vs) E0 (tVar 6) (tcP tNil)))))) (tRet (tC (.bl false))) tNext)
  (tSeq (tIfS (tOr (tTest (tOp (orR2 (qNe K) (rNeO K (He.ga K "Row") (sp_Row_eq K w) E0)) (tFn 1 0 (sp_steady K w) (fun vs _ => vs) E0 (tcP (tCons (tMt (He.ga K "Row") "plus" 1 0 (sp_Row_plus K w) (fun vs _ => vs) E0 (tVar 1) (tcP (tCons (tVar 5) tNil))) tNil))) (tFn 2 0 (sp_law_part K w) (fun vs _ => vs) E0 (tcP (tCons (tOp (qAdd K) (tVar 4) (tOp (qMulT K) (tVar 3) (tVar 5))) (tCons (tVar 3) tNil)))))) (tTest (tOp (orR2 (qNe K) (rNeO K (He.ga K "Row") (sp_Row_eq K w) E0)) (tFld K (tVar 1) "gains") (tCB (qTup K) (tCons (tVar 2) tNil))))) (tRet (tC (.bl false))) tNext)
  (tRet (tAndT K (tOp (orR2 (qEq K) (rEqO K (He.ga K "Row") (sp_Row_eq K w) E0)) (tFn 1 0 (sp_levelled K w) (fun vs _ => vs) E0 (tcP (tCons (tVar 6) tNil))) (tMt (He.ga K "Row") "times" 1 0 (sp_Row_times K w) (fun vs _ => vs) E0 (tVar 6) (tcP (tCons (tVar 3) tNil)))) (tOrT K (tOp (orR2 (qNe K) (rNeO K (He.ga K "Row") (sp_Row_eq K w) E0)) (tVar 4) (tC (.int 0))) (tOp (orR2 (qEq K) (rEqO K (He.ga K "Row") (sp_Row_eq K w) E0)) (tVar 6) (tMt (He.ga K "Row") "times" 1 0 (sp_Row_times K w) (fun vs _ => vs) E0 (tVar 1) (tcP (tCons (tVar 3) tNil)))))))))))))
abbrev N_law_plain_right : List Str := ["_law_tap_here", "_law_row", "_law_gains_here", "_law_days", "_law_total", "_law_more", "_law_told", "_law_even", "_law_gain"]
def sp_law_plain_right (K : PySem.W.Frag) (w : World) : Sp := fun vs H Q _ => vs.length = 3 ∧ t_law_plain_right K w { nx := fun _ H' => Q .non H', rt := Q } (start N_law_plain_right vs) H
def t_law_known (K : PySem.W.Frag) (w : World) : TS :=
  (tRet (tFn 2 0 (sp_law_any K w) (fun vs _ => vs) E0 (tcP (tCons (tVar 0) (tCons (tLst (tCons (tLst (tCons (tUn (rU fun i => .int (-i)) (tC (.int 3))) (tCons (tC (.int 5)) (tCons (tUn (rU fun i => .int (-i)) (tC (.int 3))) (tCons (tUn (rU fun i => .int (-i)) (tC (.int 3))) (tCons (tC (.int 5)) (tCons (tUn (rU fun i => .int (-i)) (tC (.int 3))) tNil))))))) (tCons (tLst (tCons (tC (.int 5)) (tCons (tC (.int 5)) (tCons (tUn (rU fun i => .int (-i)) (tC (.int 13))) (tCons (tC (.int 5)) (tCons (tC (.int 5)) (tCons (tC (.int 5)) (tCons (tUn (rU fun i => .int (-i)) (tC (.int 13))) (tCons (tC (.int 5)) (tCons (tC (.int 5)) (tCons (tUn (rU fun i => .int (-i)) (tC (.int 13))) (tCons (tC (.int 5)) (tCons (tC (.int 5)) (tCons (tC (.int 5)) (tCons (tUn (rU fun i => .int (-i)) (tC (.int 13))) (tCons (tC (.int 5)) (tCons (tC (.int 5)) tNil))))))))))))))))) (tCons (tLst (tCons (tUn (rU fun i => .int (-i)) (tC (.int 1))) (tCons (tC (.int 3)) (tCons (tUn (rU fun i => .int (-i)) (tC (.int 1))) (tCons (tUn (rU fun i => .int (-i)) (tC (.int 3))) (tCons (tC (.int 0)) (tCons (tC (.int 3)) (tCons (tUn (rU fun i => .int (-i)) (tC (.int 1))) tNil)))))))) (tCons (tLst (tCons (tC (.int 1)) (tCons (tUn (rU fun i => .int (-i)) (tC (.int 1))) (tCons (tC (.int 1)) (tCons (tUn (rU fun i => .int (-i)) (tC (.int 1))) (tCons (tC (.int 1)) tNil)))))) (tCons (tLst (tCons (tC (.int 0)) (tCons (tC (.int 0)) (tCons (tC (.int 0)) tNil)))) (tCons (tLst (tCons (tUn (rU fun i => .int (-i)) (tC (.int 1))) (tCons (tC (.int 2)) (tCons (tUn (rU fun i => .int (-i)) (tC (.int 1))) tNil)))) (tCons (tLst (tCons (tC (.int 4)) tNil)) tNil)))))))) tNil)))))
abbrev N_law_known : List Str := ["_law_tap_here"]
def sp_law_known (K : PySem.W.Frag) (w : World) : Sp := fun vs H Q _ => vs.length = 1 ∧ t_law_known K w { nx := fun _ H' => Q .non H', rt := Q } (start N_law_known vs) H
def t_law_gains (K : PySem.W.Frag) (w : World) : TS :=
  (tSeq (tAsg (tFn 2 0 (sp_law_drip K w) (fun vs _ => vs) E0 (tcP (tCons (tVar 0) (tCons (tC (.int 7)) tNil)))) (gName 2))
  (tSeq (tIfS (tTest (tOp (qLt K) (tVar 2) (tC (.int 2)))) (tRet (tLc (iRng1 (tCons (tVar 1) tNil)) (gName 6) tYes (tOp qSub (tFn 2 0 (sp_law_drip K w) (fun vs _ => vs) E0 (tcP (tCons (tVar 0) (tCons (tC (.int 7)) tNil)))) (tC (.int 3))) [6])) tNext)
  (tSeq (tIfS (tTest (tOp (orR2 (qEq K) (rEqO K (He.ga K "Row") (sp_Row_eq K w) E0)) (tVar 2) (tC (.int 2)))) (tRet (tLc (iRng1 (tCons (tVar 1) tNil)) (gName 6) tYes (tFn 2 0 (sp_law_any K w) (fun vs _ => vs) E0 (tcP (tCons (tVar 0) (tCons (tLst (tCons (tC (.int 0)) (tCons (tC (.int 0)) (tCons (tC (.int 0)) (tCons (tC (.int 1)) (tCons (tUn (rU fun i => .int (-i)) (tC (.int 1))) tNil)))))) tNil)))) [6])) tNext)
  (tSeq (tIfS (tTest (tOp (orR2 (qEq K) (rEqO K (He.ga K "Row") (sp_Row_eq K w) E0)) (tVar 2) (tC (.int 3)))) (tRet (tLc (iRng1 (tCons (tVar 1) tNil)) (gName 6) tYes (tFn 2 0 (sp_law_any K w) (fun vs _ => vs) E0 (tcP (tCons (tVar 0) (tCons (tLst (tCons (tOp qPw (tC (.int 10)) (tC (.int 20))) (tCons (tOp qSub (tC (.int 1)) (tOp qPw (tC (.int 10)) (tC (.int 20)))) (tCons (tOp qPw (tC (.int 10)) (tC (.int 6))) (tCons (tC (.int 0)) (tCons (tUn (rU fun i => .int (-i)) (tC (.int 999999))) (tCons (tC (.int 7)) tNil))))))) tNil)))) [6])) tNext)
  (tSeq (tAsg (tLc (iRng1 (tCons (tOp (qAdd K) (tC (.int 1)) (tFn 2 0 (sp_law_drip K w) (fun vs _ => vs) E0 (tcP (tCons (tVar 0) (tCons (tC (.int 5)) tNil))))) tNil)) (gName 6) tYes (tOp qSub (tFn 2 0 (sp_law_drip K w) (fun vs _ => vs) E0 (tcP (tCons (tVar 0) (tCons (tC (.int 9)) tNil)))) (tC (.int 4))) [6]) (gName 3))
  (tSeq (tIfS (tTest (tOp (orR2 (qEq K) (rEqO K (He.ga K "Row") (sp_Row_eq K w) E0)) (tVar 2) (tC (.int 4)))) (tAsg (tOp qSub (tOp (rIx K) (tVar 3) (tC (.int 0))) (tCB (rSum K) (tCons (tVar 3) tNil))) (gSub (tVar 3) (tC (.int 0)) rSetL)) tNext)
  (tSeq (tAsg (tLc (iRng1 (tCons (tVar 1) tNil)) (gName 6) tYes (tOp (rIx K) (tVar 3) (tOp qMd (tCB qInt (tCons (tVar 6) tNil)) (tCB (orC (qLen K) (rLenO (He.ga K "Row") (sp_Row_len K w) E0)) (tCons (tVar 3) tNil)))) [6]) (gName 4))
  (tSeq (tIfS (tTest (tOp (orR2 (qEq K) (rEqO K (He.ga K "Row") (sp_Row_eq K w) E0)) (tVar 2) (tC (.int 6)))) (tSeq (tAsg (tFn 2 0 (sp_law_drip K w) (fun vs _ => vs) E0 (tcP (tCons (tVar 0) (tCons (tVar 1) tNil)))) (gName 5))
  (tAsg (tOp (qAdd K) (tOp (rIx K) (tVar 4) (tVar 5)) (tFn 2 0 (sp_law_any K w) (fun vs _ => vs) E0 (tcP (tCons (tVar 0) (tCons (tLst (tCons (tC (.int 1)) (tCons (tUn (rU fun i => .int (-i)) (tC (.int 1))) (tCons (tC (.int 30)) tNil)))) tNil))))) (gSub (tVar 4) (tVar 5) rSetL))) tNext)
  (tRet (tVar 4))))))))))
abbrev N_law_gains : List Str := ["_law_tap_here", "_law_days", "_law_way", "_law_few", "_law_found", "_law_at", "_law_day"]
def sp_law_gains (K : PySem.W.Frag) (w : World) : Sp := fun vs H Q _ => vs.length = 2 ∧ t_law_gains K w { nx := fun _ H' => Q .non H', rt := Q } (start N_law_gains vs) H
def t_law_tap (K : PySem.W.Frag) (w : World) : TS :=
  (tRet (tLst (tCons (tLc (iSeq K (tSl (qSl K) (tVar 0) tNoPart (tPart (tC (.int 60))))) (gName 1) tYes (tCB qInt (tCons (tVar 1) tNil)) [1]) (tCons (tC (.int 0)) (tCons (tC (.int 0)) tNil)))))
abbrev N_law_tap : List Str := ["_law_script", "_law_cell"]
def sp_law_tap (K : PySem.W.Frag) (w : World) : Sp := fun vs H Q _ => vs.length = 1 ∧ t_law_tap K w { nx := fun _ H' => Q .non H', rt := Q } (start N_law_tap vs) H
def t_law (K : PySem.W.Frag) (w : World) : TS :=
  (tSeq (tAsg (tFn 1 0 (sp_law_tap K w) (fun vs _ => vs) E0 (tcP (tCons (tVar 0) tNil))) (gName 1))
  (tSeq (tFor (iRng1 (tCons (tC (.int 3)) tNil)) (gName 2) (tSeq (tAsg (tFn 2 0 (sp_law_gains K w) (fun vs _ => vs) E0 (tcP (tCons (tVar 1) (tCons (tFn 2 0 (sp_law_any K w) (fun vs _ => vs) E0 (tcP (tCons (tVar 1) (tCons (tLst (tCons (tC (.int 6)) (tCons (tC (.int 12)) (tCons (tC (.int 5)) (tCons (tC (.int 1)) (tCons (tC (.int 24)) (tCons (tC (.int 7)) (tCons (tC (.int 2)) (tCons (tC (.int 10)) (tCons (tC (.int 16)) (tCons (tC (.int 3)) tNil))))))))))) tNil)))) tNil)))) (gName 3))
  (tSeq (tAsg (tFn 2 0 (sp_law_drip K w) (fun vs _ => vs) E0 (tcP (tCons (tVar 1) (tCons (tC (.int 4)) tNil)))) (gName 4))
  (tSeq (tIfS (tTest (tOp (orR2 (qEq K) (rEqO K (He.ga K "Row") (sp_Row_eq K w) E0)) (tVar 4) (tC (.int 0)))) (tAsg (tFn 1 0 (sp_law_known K w) (fun vs _ => vs) E0 (tcP (tCons (tVar 1) tNil))) (gName 3)) tNext)
  (tSeq (tIfS (tTest (tOp (orR2 (qEq K) (rEqO K (He.ga K "Row") (sp_Row_eq K w) E0)) (tVar 4) (tC (.int 1)))) (tAsg (tOp qSub (tOp (rIx K) (tVar 3) (tUn (rU fun i => .int (-i)) (tC (.int 1)))) (tCB (rSum K) (tCons (tVar 3) tNil))) (gSub (tVar 3) (tUn (rU fun i => .int (-i)) (tC (.int 1))) rSetL)) tNext)
  (tSeq (tAsg (tNew (He.ga K "Row") 1 0 (sp_Row_init K w) (fun vs _ => vs) E0 (tcP (tCons (tVar 3) tNil))) (gName 5))
  (tIfS (tOr (tNot (tTru K (tFn 3 0 (sp_law_plain_right K w) (fun vs _ => vs) E0 (tcP (tCons (tVar 1) (tCons (tVar 5) (tCons (tVar 3) tNil))))))) (tNot (tTru K (tFn 2 0 (sp_law_lengths_right K w) (fun vs _ => vs) E0 (tcP (tCons (tVar 5) (tCons (tVar 3) tNil))))))) (tRet (tC (.bl false))) tNext)))))))
  (tRet (tC (.bl true)))))
abbrev N_law : List Str := ["_law_script", "_law_tap_here", "_law_turn", "_law_gains_here", "_law_way", "_law_row"]
def sp_law (K : PySem.W.Frag) (w : World) : Sp := fun vs H Q _ => vs.length = 1 ∧ t_law K w { nx := fun _ H' => Q .non H', rt := Q } (start N_law vs) H
end K08

set_option Elab.async false
set_option linter.all false
set_option maxRecDepth 100000
set_option maxHeartbeats 4000000
namespace K08
open PySem PySem.Spec PyProof.Rows L2 Rl RZ RT Px
def clsT : CT := [("Row", ["Row"])]
theorem wx_Row_eq : ∃ w : WF, w = wDef 2 2
  (wRet (wAndT (wCB (dIsi clsT) (waCons (wVar 1) (waCons (wC (.cls "Row")) waNil))) (wOp dEq (wFld "gains" (wVar 0)) (wFld "gains" (wVar 1))))) := ⟨_, rfl⟩
@[irreducible] noncomputable def w_Row_eq : WF := Classical.choose wx_Row_eq
theorem w_Row_eq_eq : w_Row_eq = wDef 2 2
  (wRet (wAndT (wCB (dIsi clsT) (waCons (wVar 1) (waCons (wC (.cls "Row")) waNil))) (wOp dEq (wFld "gains" (wVar 0)) (wFld "gains" (wVar 1))))) := by
  unfold w_Row_eq
  exact Classical.choose_spec wx_Row_eq
theorem wx_Row_len : ∃ w : WF, w = wDef 1 1
  (wRet (wCB (b1 dLen) (waCons (wFld "gains" (wVar 0)) waNil))) := ⟨_, rfl⟩
@[irreducible] noncomputable def w_Row_len : WF := Classical.choose wx_Row_len
theorem w_Row_len_eq : w_Row_len = wDef 1 1
  (wRet (wCB (b1 dLen) (waCons (wFld "gains" (wVar 0)) waNil))) := by
  unfold w_Row_len
  exact Classical.choose_spec wx_Row_len
theorem wx_word_of : ∃ w : WF, w = wDef 1 1
  (wSeq (wIfS (wTest (wOp dGt (wCB dMinT (waCons (wVar 0) waNil)) (wC (.int 0)))) (wRet (wC (.str "gains"))) wNext)
  (wSeq (wIfS (wTest (wOp dLt (wCB dMaxT (waCons (wVar 0) waNil)) (wC (.int 0)))) (wRet (wC (.str "loses"))) wNext)
  (wRet (wIf (wAnd (wTest (wOp dEq (wCB dMinT (waCons (wVar 0) waNil)) (wC (.int 0)))) (wTest (wOp dEq (wCB dMaxT (waCons (wVar 0) waNil)) (wC (.int 0))))) (wC (.str "flat")) (wC (.str "mixed")))))) := ⟨_, rfl⟩
@[irreducible] noncomputable def w_word_of : WF := Classical.choose wx_word_of
theorem w_word_of_eq : w_word_of = wDef 1 1
  (wSeq (wIfS (wTest (wOp dGt (wCB dMinT (waCons (wVar 0) waNil)) (wC (.int 0)))) (wRet (wC (.str "gains"))) wNext)
  (wSeq (wIfS (wTest (wOp dLt (wCB dMaxT (waCons (wVar 0) waNil)) (wC (.int 0)))) (wRet (wC (.str "loses"))) wNext)
  (wRet (wIf (wAnd (wTest (wOp dEq (wCB dMinT (waCons (wVar 0) waNil)) (wC (.int 0)))) (wTest (wOp dEq (wCB dMaxT (waCons (wVar 0) waNil)) (wC (.int 0))))) (wC (.str "flat")) (wC (.str "mixed")))))) := by
  unfold w_word_of
  exact Classical.choose_spec wx_word_of
theorem wx_sums_in : ∃ w : WF, w = wDef 2 4
  (wRet (wCB (b1 dTuple) (waCons (wLc false (wiZip (waCons (wFld "heights" (wVar 0)) (waCons (wSl false (wFld "heights" (wVar 0)) (woSome (wVar 1)) woNone) waNil))) (wgTup 2 (wgCons (wgName 2) (wgCons (wgName 3) wgNil))) wYes (wOp dSub (wVar 3) (wVar 2)) [2, 3]) waNil))) := ⟨_, rfl⟩
@[irreducible] noncomputable def w_sums_in : WF := Classical.choose wx_sums_in
theorem w_sums_in_eq : w_sums_in = wDef 2 4
  (wRet (wCB (b1 dTuple) (waCons (wLc false (wiZip (waCons (wFld "heights" (wVar 0)) (waCons (wSl false (wFld "heights" (wVar 0)) (woSome (wVar 1)) woNone) waNil))) (wgTup 2 (wgCons (wgName 2) (wgCons (wgName 3) wgNil))) wYes (wOp dSub (wVar 3) (wVar 2)) [2, 3]) waNil))) := by
  unfold w_sums_in
  exact Classical.choose_spec wx_sums_in
theorem wx_is_integer : ∃ w : WF, w = wDef 1 1
  (wRet (wAndT (wCB (dIsi clsT) (waCons (wVar 0) (waCons (wC (.ty "int")) waNil))) (wNotT (wCB (dIsi clsT) (waCons (wVar 0) (waCons (wC (.ty "bool")) waNil)))))) := ⟨_, rfl⟩
@[irreducible] noncomputable def w_is_integer : WF := Classical.choose wx_is_integer
theorem w_is_integer_eq : w_is_integer = wDef 1 1
  (wRet (wAndT (wCB (dIsi clsT) (waCons (wVar 0) (waCons (wC (.ty "int")) waNil))) (wNotT (wCB (dIsi clsT) (waCons (wVar 0) (waCons (wC (.ty "bool")) waNil)))))) := by
  unfold w_is_integer
  exact Classical.choose_spec wx_is_integer
theorem wx_is_within : ∃ w : WF, w = wDef 3 3
  (wSeq (wIfS (wNot (wTru (wFn 1 0 w_is_integer (wcP (waCons (wVar 0) waNil))))) (wRet (wC (.bl false))) wNext)
  (wRet (wAndT (wOrT (wOp dIs (wVar 1) (wC .non)) (wOp dLe (wVar 1) (wVar 0))) (wOrT (wOp dIs (wVar 2) (wC .non)) (wOp dLe (wVar 0) (wVar 2)))))) := ⟨_, rfl⟩
@[irreducible] noncomputable def w_is_within : WF := Classical.choose wx_is_within
theorem w_is_within_eq : w_is_within = wDef 3 3
  (wSeq (wIfS (wNot (wTru (wFn 1 0 w_is_integer (wcP (waCons (wVar 0) waNil))))) (wRet (wC (.bl false))) wNext)
  (wRet (wAndT (wOrT (wOp dIs (wVar 1) (wC .non)) (wOp dLe (wVar 1) (wVar 0))) (wOrT (wOp dIs (wVar 2) (wC .non)) (wOp dLe (wVar 0) (wVar 2)))))) := by
  unfold w_is_within
  exact Classical.choose_spec wx_is_within
theorem wx_need_number : ∃ w : WF, w = wDef 4 4
  (wIfS (wNot (wTru (wFn 3 0 w_is_within (wcP (waCons (wVar 0) (waCons (wVar 2) (waCons (wVar 3) waNil))))))) wNever wNext) := ⟨_, rfl⟩
@[irreducible] noncomputable def w_need_number : WF := Classical.choose wx_need_number
theorem w_need_number_eq : w_need_number = wDef 4 4
  (wIfS (wNot (wTru (wFn 3 0 w_is_within (wcP (waCons (wVar 0) (waCons (wVar 2) (waCons (wVar 3) waNil))))))) wNever wNext) := by
  unfold w_need_number
  exact Classical.choose_spec wx_need_number
theorem wx_need_row : ∃ w : WF, w = wDef 2 2
  (wIfS (wNot (wTru (wCB (dIsi clsT) (waCons (wVar 0) (waCons (wC (.cls "Row")) waNil))))) wNever wNext) := ⟨_, rfl⟩
@[irreducible] noncomputable def w_need_row : WF := Classical.choose wx_need_row
theorem w_need_row_eq : w_need_row = wDef 2 2
  (wIfS (wNot (wTru (wCB (dIsi clsT) (waCons (wVar 0) (waCons (wC (.cls "Row")) waNil))))) wNever wNext) := by
  unfold w_need_row
  exact Classical.choose_spec wx_need_row
theorem wx_need_length : ∃ w : WF, w = wDef 2 2
  (wSeq (wDrop (wFn 2 0 w_need_row (wcP (waCons (wVar 0) (waCons (wC (.str "row")) waNil)))))
  (wDrop (wFn 4 0 w_need_number (wcP (waCons (wVar 1) (waCons (wC (.str "length")) (waCons (wC (.int 1)) (waCons (wFld "days" (wVar 0)) waNil)))))))) := ⟨_, rfl⟩
@[irreducible] noncomputable def w_need_length : WF := Classical.choose wx_need_length
theorem w_need_length_eq : w_need_length = wDef 2 2
  (wSeq (wDrop (wFn 2 0 w_need_row (wcP (waCons (wVar 0) (waCons (wC (.str "row")) waNil)))))
  (wDrop (wFn 4 0 w_need_number (wcP (waCons (wVar 1) (waCons (wC (.str "length")) (waCons (wC (.int 1)) (waCons (wFld "days" (wVar 0)) waNil)))))))) := by
  unfold w_need_length
  exact Classical.choose_spec wx_need_length
theorem wx_sort_of : ∃ w : WF, w = wDef 2 2
  (wSeq (wDrop (wFn 2 0 w_need_length (wcP (waCons (wVar 0) (waCons (wVar 1) waNil)))))
  (wRet (wFn 1 0 w_word_of (wcP (waCons (wFn 2 0 w_sums_in (wcP (waCons (wVar 0) (waCons (wVar 1) waNil)))) waNil))))) := ⟨_, rfl⟩
@[irreducible] noncomputable def w_sort_of : WF := Classical.choose wx_sort_of
theorem w_sort_of_eq : w_sort_of = wDef 2 2
  (wSeq (wDrop (wFn 2 0 w_need_length (wcP (waCons (wVar 0) (waCons (wVar 1) waNil)))))
  (wRet (wFn 1 0 w_word_of (wcP (waCons (wFn 2 0 w_sums_in (wcP (waCons (wVar 0) (waCons (wVar 1) waNil)))) waNil))))) := by
  unfold w_sort_of
  exact Classical.choose_spec wx_sort_of
theorem wx_sums : ∃ w : WF, w = wDef 2 2
  (wSeq (wDrop (wFn 2 0 w_need_length (wcP (waCons (wVar 0) (waCons (wVar 1) waNil)))))
  (wRet (wFn 2 0 w_sums_in (wcP (waCons (wVar 0) (waCons (wVar 1) waNil)))))) := ⟨_, rfl⟩
@[irreducible] noncomputable def w_sums : WF := Classical.choose wx_sums
theorem w_sums_eq : w_sums = wDef 2 2
  (wSeq (wDrop (wFn 2 0 w_need_length (wcP (waCons (wVar 0) (waCons (wVar 1) waNil)))))
  (wRet (wFn 2 0 w_sums_in (wcP (waCons (wVar 0) (waCons (wVar 1) waNil)))))) := by
  unfold w_sums
  exact Classical.choose_spec wx_sums
theorem wx_law_sums : ∃ w : WF, w = wDef 2 3
  (wRet (wLc false (wiR1 (waCons (wOp (dAdd false) (wOp dSub (wCB (b1 (dLenO "Row" w_Row_len dLen)) (waCons (wVar 0) waNil)) (wVar 1)) (wC (.int 1))) waNil)) (wgName 2) wYes (wCB (b1 dSum) (waCons (wSl false (wVar 0) (woSome (wVar 2)) (woSome (wOp (dAdd false) (wVar 2) (wVar 1)))) waNil)) [2])) := ⟨_, rfl⟩
@[irreducible] noncomputable def w_law_sums : WF := Classical.choose wx_law_sums
theorem w_law_sums_eq : w_law_sums = wDef 2 3
  (wRet (wLc false (wiR1 (waCons (wOp (dAdd false) (wOp dSub (wCB (b1 (dLenO "Row" w_Row_len dLen)) (waCons (wVar 0) waNil)) (wVar 1)) (wC (.int 1))) waNil)) (wgName 2) wYes (wCB (b1 dSum) (waCons (wSl false (wVar 0) (woSome (wVar 2)) (woSome (wOp (dAdd false) (wVar 2) (wVar 1)))) waNil)) [2])) := by
  unfold w_law_sums
  exact Classical.choose_spec wx_law_sums
theorem wx_heights_of : ∃ w : WF, w = wDef 1 3
  (wSeq (wAsg (wLst true (waCons (wC (.int 0)) waNil)) (wgName 1))
  (wSeq (wFor (wiAny (wVar 0)) (wgName 2) (wDrop (wBL dApp (wVar 1) (waCons (wOp (dAdd false) (wOp dIx (wVar 1) (wUn dNeg (wC (.int 1)))) (wVar 2)) waNil))) [2])
  (wRet (wDp [1] (wCB (b1 dTuple) (waCons (wVar 1) waNil)))))) := ⟨_, rfl⟩
@[irreducible] noncomputable def w_heights_of : WF := Classical.choose wx_heights_of
theorem w_heights_of_eq : w_heights_of = wDef 1 3
  (wSeq (wAsg (wLst true (waCons (wC (.int 0)) waNil)) (wgName 1))
  (wSeq (wFor (wiAny (wVar 0)) (wgName 2) (wDrop (wBL dApp (wVar 1) (waCons (wOp (dAdd false) (wOp dIx (wVar 1) (wUn dNeg (wC (.int 1)))) (wVar 2)) waNil))) [2])
  (wRet (wDp [1] (wCB (b1 dTuple) (waCons (wVar 1) waNil)))))) := by
  unfold w_heights_of
  exact Classical.choose_spec wx_heights_of
theorem wx_are_integers : ∃ w : WF, w = wDef 1 2
  (wRet (wAndT (wIsi2 "list" "tuple" (wVar 0)) (wCB (b1 dAll) (waCons (wLc false (wiAny (wVar 0)) (wgName 1) wYes (wFn 1 0 w_is_integer (wcP (waCons (wVar 1) waNil))) [1]) waNil)))) := ⟨_, rfl⟩
@[irreducible] noncomputable def w_are_integers : WF := Classical.choose wx_are_integers
theorem w_are_integers_eq : w_are_integers = wDef 1 2
  (wRet (wAndT (wIsi2 "list" "tuple" (wVar 0)) (wCB (b1 dAll) (waCons (wLc false (wiAny (wVar 0)) (wgName 1) wYes (wFn 1 0 w_is_integer (wcP (waCons (wVar 1) waNil))) [1]) waNil)))) := by
  unfold w_are_integers
  exact Classical.choose_spec wx_are_integers
theorem wx_Row_init : ∃ w : WF, w = wDef 2 2
  (wSeq (wIfS (wOr (wNot (wTru (wFn 1 0 w_are_integers (wcP (waCons (wVar 1) waNil))))) (wTest (wOp dEq (wCB (b1 dLen) (waCons (wVar 1) waNil)) (wC (.int 0))))) wNever wNext)
  (wSeq (wIfS (wTest (wOp dGt (wCB (b1 dLen) (waCons (wVar 1) waNil)) (wC (.int (48))))) wNever wNext)
  (wSeq (wSetF ["Row"] "gains" (wVar 0) (wCB (b1 dTuple) (waCons (wVar 1) waNil)))
  (wSeq (wSetF ["Row"] "heights" (wVar 0) (wFn 1 0 w_heights_of (wcP (waCons (wVar 1) waNil))))
  (wSeq (wSetF ["Row"] "days" (wVar 0) (wCB (b1 dLen) (waCons (wVar 1) waNil)))
  (wSetF ["Row"] "total" (wVar 0) (wOp dIx (wFld "heights" (wVar 0)) (wUn dNeg (wC (.int 1)))))))))) := ⟨_, rfl⟩
@[irreducible] noncomputable def w_Row_init : WF := Classical.choose wx_Row_init
theorem w_Row_init_eq : w_Row_init = wDef 2 2
  (wSeq (wIfS (wOr (wNot (wTru (wFn 1 0 w_are_integers (wcP (waCons (wVar 1) waNil))))) (wTest (wOp dEq (wCB (b1 dLen) (waCons (wVar 1) waNil)) (wC (.int 0))))) wNever wNext)
  (wSeq (wIfS (wTest (wOp dGt (wCB (b1 dLen) (waCons (wVar 1) waNil)) (wC (.int (48))))) wNever wNext)
  (wSeq (wSetF ["Row"] "gains" (wVar 0) (wCB (b1 dTuple) (waCons (wVar 1) waNil)))
  (wSeq (wSetF ["Row"] "heights" (wVar 0) (wFn 1 0 w_heights_of (wcP (waCons (wVar 1) waNil))))
  (wSeq (wSetF ["Row"] "days" (wVar 0) (wCB (b1 dLen) (waCons (wVar 1) waNil)))
  (wSetF ["Row"] "total" (wVar 0) (wOp dIx (wFld "heights" (wVar 0)) (wUn dNeg (wC (.int 1)))))))))) := by
  unfold w_Row_init
  exact Classical.choose_spec wx_Row_init
theorem wx_Row_times : ∃ w : WF, w = wDef 2 3
  (wSeq (wDrop (wFn 4 0 w_need_number (wcP (waCons (wVar 1) (waCons (wC (.str "number")) (waCons (wC .non) (waCons (wC .non) waNil)))))))
  (wRet (wNew false "Row" 1 0 w_Row_init (wcP (waCons (wLc false (wiAny (wFld "gains" (wVar 0))) (wgName 2) wYes (wOp (dMulT false) (wVar 1) (wVar 2)) [2]) waNil))))) := ⟨_, rfl⟩
@[irreducible] noncomputable def w_Row_times : WF := Classical.choose wx_Row_times
theorem w_Row_times_eq : w_Row_times = wDef 2 3
  (wSeq (wDrop (wFn 4 0 w_need_number (wcP (waCons (wVar 1) (waCons (wC (.str "number")) (waCons (wC .non) (waCons (wC .non) waNil)))))))
  (wRet (wNew false "Row" 1 0 w_Row_init (wcP (waCons (wLc false (wiAny (wFld "gains" (wVar 0))) (wgName 2) wYes (wOp (dMulT false) (wVar 1) (wVar 2)) [2]) waNil))))) := by
  unfold w_Row_times
  exact Classical.choose_spec wx_Row_times
theorem wx_Row_plus : ∃ w : WF, w = wDef 2 3
  (wSeq (wDrop (wFn 4 0 w_need_number (wcP (waCons (wVar 1) (waCons (wC (.str "number")) (waCons (wC .non) (waCons (wC .non) waNil)))))))
  (wRet (wNew false "Row" 1 0 w_Row_init (wcP (waCons (wLc false (wiAny (wFld "gains" (wVar 0))) (wgName 2) wYes (wOp (dAdd false) (wVar 2) (wVar 1)) [2]) waNil))))) := ⟨_, rfl⟩
@[irreducible] noncomputable def w_Row_plus : WF := Classical.choose wx_Row_plus
theorem w_Row_plus_eq : w_Row_plus = wDef 2 3
  (wSeq (wDrop (wFn 4 0 w_need_number (wcP (waCons (wVar 1) (waCons (wC (.str "number")) (waCons (wC .non) (waCons (wC .non) waNil)))))))
  (wRet (wNew false "Row" 1 0 w_Row_init (wcP (waCons (wLc false (wiAny (wFld "gains" (wVar 0))) (wgName 2) wYes (wOp (dAdd false) (wVar 2) (wVar 1)) [2]) waNil))))) := by
  unfold w_Row_plus
  exact Classical.choose_spec wx_Row_plus
theorem wx_levelled : ∃ w : WF, w = wDef 1 1
  (wSeq (wDrop (wFn 2 0 w_need_row (wcP (waCons (wVar 0) (waCons (wC (.str "row")) waNil)))))
  (wRet (wMt "Row" "plus" 1 0 w_Row_plus (wMt "Row" "times" 1 0 w_Row_times (wVar 0) (wcP (waCons (wFld "days" (wVar 0)) waNil))) (wcP (waCons (wUn dNeg (wFld "total" (wVar 0))) waNil))))) := ⟨_, rfl⟩
@[irreducible] noncomputable def w_levelled : WF := Classical.choose wx_levelled
theorem w_levelled_eq : w_levelled = wDef 1 1
  (wSeq (wDrop (wFn 2 0 w_need_row (wcP (waCons (wVar 0) (waCons (wC (.str "row")) waNil)))))
  (wRet (wMt "Row" "plus" 1 0 w_Row_plus (wMt "Row" "times" 1 0 w_Row_times (wVar 0) (wcP (waCons (wFld "days" (wVar 0)) waNil))) (wcP (waCons (wUn dNeg (wFld "total" (wVar 0))) waNil))))) := by
  unfold w_levelled
  exact Classical.choose_spec wx_levelled
theorem wx_law_lengths_right : ∃ w : WF, w = wDef 2 11
  (wSeq (wAsg (wTup (waCons (wCB (b1 (dLenO "Row" w_Row_len dLen)) (waCons (wVar 1) waNil)) (waCons (wCB (b1 dSum) (waCons (wVar 1) waNil)) (waCons (wFn 1 0 w_levelled (wcP (waCons (wVar 0) waNil))) waNil)))) (wgTup 3 (wgCons (wgName 2) (wgCons (wgName 3) (wgCons (wgName 4) wgNil)))))
  (wSeq (wFor (wiR2 (waCons (wC (.int 1)) (waCons (wOp (dAdd false) (wVar 2) (wC (.int 1))) waNil))) (wgName 5) (wSeq (wAsg (wFn 2 0 w_law_sums (wcP (waCons (wVar 1) (waCons (wVar 5) waNil)))) (wgName 6))
  (wSeq (wIfS (wTest (wOp (dNeO "Row" ["Row"] w_Row_eq dNe) (wFn 2 0 w_sums (wcP (waCons (wVar 4) (waCons (wVar 5) waNil)))) (wCB (b1 dTuple) (waCons (wLc false (wiAny (wVar 6)) (wgName 10) wYes (wOp dSub (wOp (dMulT false) (wVar 2) (wVar 10)) (wOp (dMulT false) (wVar 5) (wVar 3))) [10]) waNil)))) (wRet (wC (.bl false))) wNext)
  (wSeq (wPar 7 8 (waCons (wLc false (wiAny (wVar 6)) (wgName 10) (wTest (wOp dGt (wOp (dMulT false) (wVar 2) (wVar 10)) (wOp (dMulT false) (wVar 5) (wVar 3)))) (wVar 10) [10]) (waCons (wLc false (wiAny (wVar 6)) (wgName 10) (wTest (wOp dLt (wOp (dMulT false) (wVar 2) (wVar 10)) (wOp (dMulT false) (wVar 5) (wVar 3)))) (wVar 10) [10]) waNil)))
  (wSeq (wAsg (wFn 2 0 w_sort_of (wcP (waCons (wVar 4) (waCons (wVar 5) waNil)))) (wgName 9))
  (wSeq (wIfS (wOr (wTest (wOp (dNeO "Row" ["Row"] w_Row_eq dNe) (wOp (dEqO "Row" ["Row"] w_Row_eq dEq) (wVar 9) (wC (.str "gains"))) (wOp (dEqO "Row" ["Row"] w_Row_eq dEq) (wCB (b1 (dLenO "Row" w_Row_len dLen)) (waCons (wVar 7) waNil)) (wCB (b1 (dLenO "Row" w_Row_len dLen)) (waCons (wVar 6) waNil))))) (wOr (wTest (wOp (dNeO "Row" ["Row"] w_Row_eq dNe) (wOp (dEqO "Row" ["Row"] w_Row_eq dEq) (wVar 9) (wC (.str "loses"))) (wOp (dEqO "Row" ["Row"] w_Row_eq dEq) (wCB (b1 (dLenO "Row" w_Row_len dLen)) (waCons (wVar 8) waNil)) (wCB (b1 (dLenO "Row" w_Row_len dLen)) (waCons (wVar 6) waNil))))) (wTest (wOp (dNeO "Row" ["Row"] w_Row_eq dNe) (wOp (dEqO "Row" ["Row"] w_Row_eq dEq) (wVar 9) (wC (.str "flat"))) (wOp (dEqO "Row" ["Row"] w_Row_eq dEq) (wOp (dAdd false) (wVar 7) (wVar 8)) (wLst false waNil)))))) (wRet (wC (.bl false))) wNext)
  (wIfS (wAnd (wTest (wOp (dEqO "Row" ["Row"] w_Row_eq dEq) (wOp dMd (wCB (b1 dInt) (waCons (wVar 2) waNil)) (wVar 5)) (wC (.int 0)))) (wTest (wOp dIn (wVar 9) (wTup (waCons (wC (.str "gains")) (waCons (wC (.str "loses")) waNil)))))) (wRet (wC (.bl false))) wNext)))))) [5, 6, 7, 8, 9, 10])
  (wRet (wC (.bl true))))) := ⟨_, rfl⟩
@[irreducible] noncomputable def w_law_lengths_right : WF := Classical.choose wx_law_lengths_right
theorem w_law_lengths_right_eq : w_law_lengths_right = wDef 2 11
  (wSeq (wAsg (wTup (waCons (wCB (b1 (dLenO "Row" w_Row_len dLen)) (waCons (wVar 1) waNil)) (waCons (wCB (b1 dSum) (waCons (wVar 1) waNil)) (waCons (wFn 1 0 w_levelled (wcP (waCons (wVar 0) waNil))) waNil)))) (wgTup 3 (wgCons (wgName 2) (wgCons (wgName 3) (wgCons (wgName 4) wgNil)))))
  (wSeq (wFor (wiR2 (waCons (wC (.int 1)) (waCons (wOp (dAdd false) (wVar 2) (wC (.int 1))) waNil))) (wgName 5) (wSeq (wAsg (wFn 2 0 w_law_sums (wcP (waCons (wVar 1) (waCons (wVar 5) waNil)))) (wgName 6))
  (wSeq (wIfS (wTest (wOp (dNeO "Row" ["Row"] w_Row_eq dNe) (wFn 2 0 w_sums (wcP (waCons (wVar 4) (waCons (wVar 5) waNil)))) (wCB (b1 dTuple) (waCons (wLc false (wiAny (wVar 6)) (wgName 10) wYes (wOp dSub (wOp (dMulT false) (wVar 2) (wVar 10)) (wOp (dMulT false) (wVar 5) (wVar 3))) [10]) waNil)))) (wRet (wC (.bl false))) wNext)
  (wSeq (wPar 7 8 (waCons (wLc false (wiAny (wVar 6)) (wgName 10) (wTest (wOp dGt (wOp (dMulT false) (wVar 2) (wVar 10)) (wOp (dMulT false) (wVar 5) (wVar 3)))) (wVar 10) [10]) (waCons (wLc false (wiAny (wVar 6)) (wgName 10) (wTest (wOp dLt (wOp (dMulT false) (wVar 2) (wVar 10)) (wOp (dMulT false) (wVar 5) (wVar 3)))) (wVar 10) [10]) waNil)))
  (wSeq (wAsg (wFn 2 0 w_sort_of (wcP (waCons (wVar 4) (waCons (wVar 5) waNil)))) (wgName 9))
  (wSeq (wIfS (wOr (wTest (wOp (dNeO "Row" ["Row"] w_Row_eq dNe) (wOp (dEqO "Row" ["Row"] w_Row_eq dEq) (wVar 9) (wC (.str "gains"))) (wOp (dEqO "Row" ["Row"] w_Row_eq dEq) (wCB (b1 (dLenO "Row" w_Row_len dLen)) (waCons (wVar 7) waNil)) (wCB (b1 (dLenO "Row" w_Row_len dLen)) (waCons (wVar 6) waNil))))) (wOr (wTest (wOp (dNeO "Row" ["Row"] w_Row_eq dNe) (wOp (dEqO "Row" ["Row"] w_Row_eq dEq) (wVar 9) (wC (.str "loses"))) (wOp (dEqO "Row" ["Row"] w_Row_eq dEq) (wCB (b1 (dLenO "Row" w_Row_len dLen)) (waCons (wVar 8) waNil)) (wCB (b1 (dLenO "Row" w_Row_len dLen)) (waCons (wVar 6) waNil))))) (wTest (wOp (dNeO "Row" ["Row"] w_Row_eq dNe) (wOp (dEqO "Row" ["Row"] w_Row_eq dEq) (wVar 9) (wC (.str "flat"))) (wOp (dEqO "Row" ["Row"] w_Row_eq dEq) (wOp (dAdd false) (wVar 7) (wVar 8)) (wLst false waNil)))))) (wRet (wC (.bl false))) wNext)
  (wIfS (wAnd (wTest (wOp (dEqO "Row" ["Row"] w_Row_eq dEq) (wOp dMd (wCB (b1 dInt) (waCons (wVar 2) waNil)) (wVar 5)) (wC (.int 0)))) (wTest (wOp dIn (wVar 9) (wTup (waCons (wC (.str "gains")) (waCons (wC (.str "loses")) waNil)))))) (wRet (wC (.bl false))) wNext)))))) [5, 6, 7, 8, 9, 10])
  (wRet (wC (.bl true))))) := by
  unfold w_law_lengths_right
  exact Classical.choose_spec wx_law_lengths_right
theorem wx_measure : ∃ w : WF, w = wDef 2 2
  (wSeq (wPar 0 1 (waCons (wCB (b1 dAbs) (waCons (wVar 0) waNil)) (waCons (wCB (b1 dAbs) (waCons (wVar 1) waNil)) waNil)))
  (wSeq (wWhile (wTest (wOp dNe (wVar 1) (wC (.int 0)))) (wPar 0 1 (waCons (wVar 1) (waCons (wOp dMd (wVar 0) (wVar 1)) waNil))) [])
  (wRet (wVar 0)))) := ⟨_, rfl⟩
@[irreducible] noncomputable def w_measure : WF := Classical.choose wx_measure
theorem w_measure_eq : w_measure = wDef 2 2
  (wSeq (wPar 0 1 (waCons (wCB (b1 dAbs) (waCons (wVar 0) waNil)) (waCons (wCB (b1 dAbs) (waCons (wVar 1) waNil)) waNil)))
  (wSeq (wWhile (wTest (wOp dNe (wVar 1) (wC (.int 0)))) (wPar 0 1 (waCons (wVar 1) (waCons (wOp dMd (wVar 0) (wVar 1)) waNil))) [])
  (wRet (wVar 0)))) := by
  unfold w_measure
  exact Classical.choose_spec wx_measure
theorem wx_in_lowest : ∃ w : WF, w = wDef 2 3
  (wSeq (wAsg (wIf (wTest (wOp dGt (wVar 1) (wC (.int 0)))) (wFn 2 0 w_measure (wcP (waCons (wVar 0) (waCons (wVar 1) waNil)))) (wUn dNeg (wFn 2 0 w_measure (wcP (waCons (wVar 0) (waCons (wVar 1) waNil)))))) (wgName 2))
  (wRet (wTup (waCons (wOp dFd (wVar 0) (wVar 2)) (waCons (wOp dFd (wVar 1) (wVar 2)) waNil))))) := ⟨_, rfl⟩
@[irreducible] noncomputable def w_in_lowest : WF := Classical.choose wx_in_lowest
theorem w_in_lowest_eq : w_in_lowest = wDef 2 3
  (wSeq (wAsg (wIf (wTest (wOp dGt (wVar 1) (wC (.int 0)))) (wFn 2 0 w_measure (wcP (waCons (wVar 0) (waCons (wVar 1) waNil)))) (wUn dNeg (wFn 2 0 w_measure (wcP (waCons (wVar 0) (waCons (wVar 1) waNil)))))) (wgName 2))
  (wRet (wTup (waCons (wOp dFd (wVar 0) (wVar 2)) (waCons (wOp dFd (wVar 1) (wVar 2)) waNil))))) := by
  unfold w_in_lowest
  exact Classical.choose_spec wx_in_lowest
theorem wx_steady : ∃ w : WF, w = wDef 1 1
  (wSeq (wDrop (wFn 2 0 w_need_row (wcP (waCons (wVar 0) (waCons (wC (.str "row")) waNil)))))
  (wRet (wFn 2 0 w_in_lowest (wcP (waCons (wFld "total" (wVar 0)) (waCons (wFld "days" (wVar 0)) waNil)))))) := ⟨_, rfl⟩
@[irreducible] noncomputable def w_steady : WF := Classical.choose wx_steady
theorem w_steady_eq : w_steady = wDef 1 1
  (wSeq (wDrop (wFn 2 0 w_need_row (wcP (waCons (wVar 0) (waCons (wC (.str "row")) waNil)))))
  (wRet (wFn 2 0 w_in_lowest (wcP (waCons (wFld "total" (wVar 0)) (waCons (wFld "days" (wVar 0)) waNil)))))) := by
  unfold w_steady
  exact Classical.choose_spec wx_steady
theorem wx_law_part : ∃ w : WF, w = wDef 2 4
  (wSeq (wAsg (wOp dIx (wLc false (wiR3 (waCons (wVar 1) (waCons (wC (.int 0)) (waCons (wUn dNeg (wC (.int 1))) waNil)))) (wgName 3) (wAnd (wTest (wOp (dEqO "Row" ["Row"] w_Row_eq dEq) (wOp dMd (wCB (b1 dInt) (waCons (wVar 1) waNil)) (wVar 3)) (wC (.int 0)))) (wTest (wOp (dEqO "Row" ["Row"] w_Row_eq dEq) (wOp dMd (wCB (b1 dInt) (waCons (wVar 0) waNil)) (wVar 3)) (wC (.int 0))))) (wVar 3) [3]) (wC (.int 0))) (wgName 2))
  (wRet (wTup (waCons (wCB (b1 dInt) (waCons (wOp dFd (wVar 0) (wVar 2)) waNil)) (waCons (wCB (b1 dInt) (waCons (wOp dFd (wVar 1) (wVar 2)) waNil)) waNil))))) := ⟨_, rfl⟩
@[irreducible] noncomputable def w_law_part : WF := Classical.choose wx_law_part
theorem w_law_part_eq : w_law_part = wDef 2 4
  (wSeq (wAsg (wOp dIx (wLc false (wiR3 (waCons (wVar 1) (waCons (wC (.int 0)) (waCons (wUn dNeg (wC (.int 1))) waNil)))) (wgName 3) (wAnd (wTest (wOp (dEqO "Row" ["Row"] w_Row_eq dEq) (wOp dMd (wCB (b1 dInt) (waCons (wVar 1) waNil)) (wVar 3)) (wC (.int 0)))) (wTest (wOp (dEqO "Row" ["Row"] w_Row_eq dEq) (wOp dMd (wCB (b1 dInt) (waCons (wVar 0) waNil)) (wVar 3)) (wC (.int 0))))) (wVar 3) [3]) (wC (.int 0))) (wgName 2))
  (wRet (wTup (waCons (wCB (b1 dInt) (waCons (wOp dFd (wVar 0) (wVar 2)) waNil)) (waCons (wCB (b1 dInt) (waCons (wOp dFd (wVar 1) (wVar 2)) waNil)) waNil))))) := by
  unfold w_law_part
  exact Classical.choose_spec wx_law_part
theorem wx_Row_backwards : ∃ w : WF, w = wDef 1 1
  (wRet (wNew false "Row" 1 0 w_Row_init (wcP (waCons (wRev false (wFld "gains" (wVar 0))) waNil)))) := ⟨_, rfl⟩
@[irreducible] noncomputable def w_Row_backwards : WF := Classical.choose wx_Row_backwards
theorem w_Row_backwards_eq : w_Row_backwards = wDef 1 1
  (wRet (wNew false "Row" 1 0 w_Row_init (wcP (waCons (wRev false (wFld "gains" (wVar 0))) waNil)))) := by
  unfold w_Row_backwards
  exact Classical.choose_spec wx_Row_backwards
theorem wx_is_level : ∃ w : WF, w = wDef 1 1
  (wSeq (wDrop (wFn 2 0 w_need_row (wcP (waCons (wVar 0) (waCons (wC (.str "row")) waNil)))))
  (wRet (wOp dEq (wFld "total" (wVar 0)) (wC (.int 0))))) := ⟨_, rfl⟩
@[irreducible] noncomputable def w_is_level : WF := Classical.choose wx_is_level
theorem w_is_level_eq : w_is_level = wDef 1 1
  (wSeq (wDrop (wFn 2 0 w_need_row (wcP (waCons (wVar 0) (waCons (wC (.str "row")) waNil)))))
  (wRet (wOp dEq (wFld "total" (wVar 0)) (wC (.int 0))))) := by
  unfold w_is_level
  exact Classical.choose_spec wx_is_level
theorem wx_law_drip : ∃ w : WF, w = wDef 2 7
  (wSeq (wIfS (wTest (wOp dGt (wOp dIx (wVar 0) (wC (.int 2))) (wC (.int 0)))) (wSeq (wAsg (wOp dMd (wCB (b1 dInt) (waCons (wOp dIx (wVar 0) (wC (.int 2))) waNil)) (wVar 1)) (wgName 2))
  (wSeq (wAsg (wOp dFd (wCB (b1 dInt) (waCons (wOp dIx (wVar 0) (wC (.int 2))) waNil)) (wVar 1)) (wgSub (wVar 0) (wC (.int 2))))
  (wRet (wVar 2)))) wNext)
  (wSeq (wAsg (wOp dIx (wVar 0) (wC (.int 1))) (wgName 3))
  (wSeq (wAsg (wOp (dAdd false) (wVar 3) (wC (.int 1))) (wgSub (wVar 0) (wC (.int 1))))
  (wSeq (wAsg (wOp (dAdd false) (wOp (dMulT false) (wC (.int 63067)) (wVar 3)) (wC (.int 8167))) (wgName 4))
  (wSeq (wIfS (wTest (wOp (dNeO "Row" ["Row"] w_Row_eq dNe) (wOp dIx (wVar 0) (wC (.int 0))) (wLst false waNil))) (wAsg (wOp dIx (wOp dIx (wVar 0) (wC (.int 0))) (wOp dMd (wCB (b1 dInt) (waCons (wVar 3) waNil)) (wCB (b1 (dLenO "Row" w_Row_len dLen)) (waCons (wOp dIx (wVar 0) (wC (.int 0))) waNil)))) (wgName 4)) wNext)
  (wSeq (wIfS (wAnd (wTest (wOp dLt (wVar 3) (wCB (b1 (dLenO "Row" w_Row_len dLen)) (waCons (wOp dIx (wVar 0) (wC (.int 0))) waNil)))) (wTest (wOp dGe (wCB (b1 dAbs) (waCons (wVar 4) waNil)) (wOp dPw (wC (.int 10)) (wC (.int 18)))))) (wSeq (wAsg (wOp (dAdd false) (wOp (dMulT false) (wC (.int 2)) (wOp dSub (wCB (b1 dAbs) (waCons (wVar 4) waNil)) (wOp dPw (wC (.int 10)) (wC (.int 18))))) (wCB (b1 dInt) (waCons (wOp dLt (wVar 4) (wC (.int 0))) waNil))) (wgName 5))
  (wSeq (wAsg (wOp dFd (wCB (b1 dInt) (waCons (wVar 5) waNil)) (wVar 1)) (wgSub (wVar 0) (wC (.int 2))))
  (wRet (wOp dMd (wCB (b1 dInt) (waCons (wVar 5) waNil)) (wVar 1))))) wNext)
  (wSeq (wAsg (wOp dMd (wCB (b1 dInt) (waCons (wOp dPw (wOp (dAdd false) (wOp (dAdd false) (wOp dMd (wCB (b1 dInt) (waCons (wVar 4) waNil)) (wC (.int 2147483629))) (wOp (dMulT false) (wC (.int 74531)) (wVar 3))) (wC (.int 8167))) (wC (.int 5))) waNil)) (wC (.int 2147483579))) (wgName 6))
  (wSeq (wAsg (wOp dMd (wCB (b1 dInt) (waCons (wOp dPw (wOp (dAdd false) (wOp (dAdd false) (wOp (dMulT false) (wVar 6) (wOp (dAdd false) (wOp (dMulT false) (wC (.int 2)) (wVar 3)) (wC (.int 2441)))) (wOp (dMulT false) (wOp (dMulT false) (wC (.int 63067)) (wVar 3)) (wVar 3))) (wC (.int 93683))) (wC (.int 3))) waNil)) (wC (.int 2147483587))) (wgName 6))
  (wRet (wOp dMd (wCB (b1 dInt) (waCons (wOp dFd (wVar 6) (wC (.int 64))) waNil)) (wVar 1))))))))))) := ⟨_, rfl⟩
@[irreducible] noncomputable def w_law_drip : WF := Classical.choose wx_law_drip
theorem w_law_drip_eq : w_law_drip = wDef 2 7
  (wSeq (wIfS (wTest (wOp dGt (wOp dIx (wVar 0) (wC (.int 2))) (wC (.int 0)))) (wSeq (wAsg (wOp dMd (wCB (b1 dInt) (waCons (wOp dIx (wVar 0) (wC (.int 2))) waNil)) (wVar 1)) (wgName 2))
  (wSeq (wAsg (wOp dFd (wCB (b1 dInt) (waCons (wOp dIx (wVar 0) (wC (.int 2))) waNil)) (wVar 1)) (wgSub (wVar 0) (wC (.int 2))))
  (wRet (wVar 2)))) wNext)
  (wSeq (wAsg (wOp dIx (wVar 0) (wC (.int 1))) (wgName 3))
  (wSeq (wAsg (wOp (dAdd false) (wVar 3) (wC (.int 1))) (wgSub (wVar 0) (wC (.int 1))))
  (wSeq (wAsg (wOp (dAdd false) (wOp (dMulT false) (wC (.int 63067)) (wVar 3)) (wC (.int 8167))) (wgName 4))
  (wSeq (wIfS (wTest (wOp (dNeO "Row" ["Row"] w_Row_eq dNe) (wOp dIx (wVar 0) (wC (.int 0))) (wLst false waNil))) (wAsg (wOp dIx (wOp dIx (wVar 0) (wC (.int 0))) (wOp dMd (wCB (b1 dInt) (waCons (wVar 3) waNil)) (wCB (b1 (dLenO "Row" w_Row_len dLen)) (waCons (wOp dIx (wVar 0) (wC (.int 0))) waNil)))) (wgName 4)) wNext)
  (wSeq (wIfS (wAnd (wTest (wOp dLt (wVar 3) (wCB (b1 (dLenO "Row" w_Row_len dLen)) (waCons (wOp dIx (wVar 0) (wC (.int 0))) waNil)))) (wTest (wOp dGe (wCB (b1 dAbs) (waCons (wVar 4) waNil)) (wOp dPw (wC (.int 10)) (wC (.int 18)))))) (wSeq (wAsg (wOp (dAdd false) (wOp (dMulT false) (wC (.int 2)) (wOp dSub (wCB (b1 dAbs) (waCons (wVar 4) waNil)) (wOp dPw (wC (.int 10)) (wC (.int 18))))) (wCB (b1 dInt) (waCons (wOp dLt (wVar 4) (wC (.int 0))) waNil))) (wgName 5))
  (wSeq (wAsg (wOp dFd (wCB (b1 dInt) (waCons (wVar 5) waNil)) (wVar 1)) (wgSub (wVar 0) (wC (.int 2))))
  (wRet (wOp dMd (wCB (b1 dInt) (waCons (wVar 5) waNil)) (wVar 1))))) wNext)
  (wSeq (wAsg (wOp dMd (wCB (b1 dInt) (waCons (wOp dPw (wOp (dAdd false) (wOp (dAdd false) (wOp dMd (wCB (b1 dInt) (waCons (wVar 4) waNil)) (wC (.int 2147483629))) (wOp (dMulT false) (wC (.int 74531)) (wVar 3))) (wC (.int 8167))) (wC (.int 5))) waNil)) (wC (.int 2147483579))) (wgName 6))
  (wSeq (wAsg (wOp dMd (wCB (b1 dInt) (waCons (wOp dPw (wOp (dAdd false) (wOp (dAdd false) (wOp (dMulT false) (wVar 6) (wOp (dAdd false) (wOp (dMulT false) (wC (.int 2)) (wVar 3)) (wC (.int 2441)))) (wOp (dMulT false) (wOp (dMulT false) (wC (.int 63067)) (wVar 3)) (wVar 3))) (wC (.int 93683))) (wC (.int 3))) waNil)) (wC (.int 2147483587))) (wgName 6))
  (wRet (wOp dMd (wCB (b1 dInt) (waCons (wOp dFd (wVar 6) (wC (.int 64))) waNil)) (wVar 1))))))))))) := by
  unfold w_law_drip
  exact Classical.choose_spec wx_law_drip
theorem wx_law_any : ∃ w : WF, w = wDef 2 2
  (wRet (wOp dIx (wVar 1) (wFn 2 0 w_law_drip (wcP (waCons (wVar 0) (waCons (wCB (b1 (dLenO "Row" w_Row_len dLen)) (waCons (wVar 1) waNil)) waNil)))))) := ⟨_, rfl⟩
@[irreducible] noncomputable def w_law_any : WF := Classical.choose wx_law_any
theorem w_law_any_eq : w_law_any = wDef 2 2
  (wRet (wOp dIx (wVar 1) (wFn 2 0 w_law_drip (wcP (waCons (wVar 0) (waCons (wCB (b1 (dLenO "Row" w_Row_len dLen)) (waCons (wVar 1) waNil)) waNil)))))) := by
  unfold w_law_any
  exact Classical.choose_spec wx_law_any
theorem wx_law_plain_right : ∃ w : WF, w = wDef 3 9
  (wSeq (wAsg (wTup (waCons (wCB (b1 (dLenO "Row" w_Row_len dLen)) (waCons (wVar 2) waNil)) (waCons (wCB (b1 dSum) (waCons (wVar 2) waNil)) (waCons (wFn 2 0 w_law_any (wcP (waCons (wVar 0) (waCons (wLst false (waCons (wC (.int 1)) (waCons (wUn dNeg (wC (.int 2))) (waCons (wC (.int 0)) (waCons (wOp dPw (wC (.int 10)) (wC (.int 9))) waNil))))) waNil)))) waNil)))) (wgTup 3 (wgCons (wgName 3) (wgCons (wgName 4) (wgCons (wgName 5) wgNil)))))
  (wSeq (wPar 6 7 (waCons (wFnK 0 1 w_levelled [0] (wcK (waCons (wVar 1) waNil))) (waCons (wFnK 0 1 w_is_level [0] (wcK (waCons (wVar 1) waNil))) waNil)))
  (wSeq (wIfS (wOr (wNot (wTru (wCB (dIsi clsT) (waCons (wVar 7) (waCons (wC (.ty "bool")) waNil))))) (wOr (wTest (wOp (dNeO "Row" ["Row"] w_Row_eq dNe) (wVar 7) (wOp (dEqO "Row" ["Row"] w_Row_eq dEq) (wVar 4) (wC (.int 0))))) (wOr (wTest (wOp (dNeO "Row" ["Row"] w_Row_eq dNe) (wFnK 0 1 w_steady [0] (wcK (waCons (wVar 1) waNil))) (wFn 2 0 w_law_part (wcP (waCons (wVar 4) (waCons (wVar 3) waNil)))))) (wNot (wTru (wCB (dIsi clsT) (waCons (wFn 1 0 w_steady (wcP (waCons (wVar 1) waNil))) (waCons (wC (.ty "tuple")) waNil)))))))) (wRet (wC (.bl false))) wNext)
  (wSeq (wIfS (wOr (wTest (wOp (dNeO "Row" ["Row"] w_Row_eq dNe) (wFld "gains" (wVar 6)) (wCB (b1 dTuple) (waCons (wLc false (wiAny (wVar 2)) (wgName 8) wYes (wOp dSub (wOp (dMulT false) (wVar 3) (wVar 8)) (wVar 4)) [8]) waNil)))) (wOr (wTest (wOp dIsnB (wFn 1 0 w_is_level (wcP (waCons (wVar 6) waNil))) (wC (.bl true)))) (wTest (wOp (dNeO "Row" ["Row"] w_Row_eq dNe) (wFn 1 0 w_steady (wcP (waCons (wVar 6) waNil))) (wTup (waCons (wC (.int 0)) (waCons (wC (.int 1)) waNil))))))) (wRet (wC (.bl false))) wNext)
  (wSeq (wIfS (wOr (wTest (wOp (dNeO "Row" ["Row"] w_Row_eq dNe) (wFn 1 0 w_levelled (wcP (waCons (wMt "Row" "plus" 1 0 w_Row_plus (wVar 1) (wcP (waCons (wVar 5) waNil))) waNil))) (wVar 6))) (wOr (wTest (wOp (dNeO "Row" ["Row"] w_Row_eq dNe) (wFn 1 0 w_levelled (wcP (waCons (wMt "Row" "times" 1 0 w_Row_times (wVar 1) (wcP (waCons (wVar 5) waNil))) waNil))) (wMt "Row" "times" 1 0 w_Row_times (wVar 6) (wcP (waCons (wVar 5) waNil))))) (wTest (wOp (dNeO "Row" ["Row"] w_Row_eq dNe) (wFn 1 0 w_levelled (wcP (waCons (wMt "Row" "backwards" 0 0 w_Row_backwards (wVar 1) (wcP waNil)) waNil))) (wMt "Row" "backwards" 0 0 w_Row_backwards (wVar 6) (wcP waNil)))))) (wRet (wC (.bl false))) wNext)
  (wSeq (wIfS (wOr (wTest (wOp (dNeO "Row" ["Row"] w_Row_eq dNe) (wFn 1 0 w_steady (wcP (waCons (wMt "Row" "plus" 1 0 w_Row_plus (wVar 1) (wcP (waCons (wVar 5) waNil))) waNil))) (wFn 2 0 w_law_part (wcP (waCons (wOp (dAdd false) (wVar 4) (wOp (dMulT false) (wVar 3) (wVar 5))) (waCons (wVar 3) waNil)))))) (wTest (wOp (dNeO "Row" ["Row"] w_Row_eq dNe) (wFld "gains" (wVar 1)) (wCB (b1 dTuple) (waCons (wVar 2) waNil))))) (wRet (wC (.bl false))) wNext)
  (wRet (wAndT (wOp (dEqO "Row" ["Row"] w_Row_eq dEq) (wFn 1 0 w_levelled (wcP (waCons (wVar 6) waNil))) (wMt "Row" "times" 1 0 w_Row_times (wVar 6) (wcP (waCons (wVar 3) waNil)))) (wOrT (wOp (dNeO "Row" ["Row"] w_Row_eq dNe) (wVar 4) (wC (.int 0))) (wOp (dEqO "Row" ["Row"] w_Row_eq dEq) (wVar 6) (wMt "Row" "times" 1 0 w_Row_times (wVar 1) (wcP (waCons (wVar 3) waNil))))))))))))) := ⟨_, rfl⟩
@[irreducible] noncomputable def w_law_plain_right : WF := Classical.choose wx_law_plain_right
theorem w_law_plain_right_eq : w_law_plain_right = wDef 3 9
  (wSeq (wAsg (wTup (waCons (wCB (b1 (dLenO "Row" w_Row_len dLen)) (waCons (wVar 2) waNil)) (waCons (wCB (b1 dSum) (waCons (wVar 2) waNil)) (waCons (wFn 2 0 w_law_any (wcP (waCons (wVar 0) (waCons (wLst false (waCons (wC (.int 1)) (waCons (wUn dNeg (wC (.int 2))) (waCons (wC (.int 0)) (waCons (wOp dPw (wC (.int 10)) (wC (.int 9))) waNil))))) waNil)))) waNil)))) (wgTup 3 (wgCons (wgName 3) (wgCons (wgName 4) (wgCons (wgName 5) wgNil)))))
  (wSeq (wPar 6 7 (waCons (wFnK 0 1 w_levelled [0] (wcK (waCons (wVar 1) waNil))) (waCons (wFnK 0 1 w_is_level [0] (wcK (waCons (wVar 1) waNil))) waNil)))
  (wSeq (wIfS (wOr (wNot (wTru (wCB (dIsi clsT) (waCons (wVar 7) (waCons (wC (.ty "bool")) waNil))))) (wOr (wTest (wOp (dNeO "Row" ["Row"] w_Row_eq dNe) (wVar 7) (wOp (dEqO "Row" ["Row"] w_Row_eq dEq) (wVar 4) (wC (.int 0))))) (wOr (wTest (wOp (dNeO "Row" ["Row"] w_Row_eq dNe) (wFnK 0 1 w_steady [0] (wcK (waCons (wVar 1) waNil))) (wFn 2 0 w_law_part (wcP (waCons (wVar 4) (waCons (wVar 3) waNil)))))) (wNot (wTru (wCB (dIsi clsT) (waCons (wFn 1 0 w_steady (wcP (waCons (wVar 1) waNil))) (waCons (wC (.ty "tuple")) waNil)))))))) (wRet (wC (.bl false))) wNext)
  (wSeq (wIfS (wOr (wTest (wOp (dNeO "Row" ["Row"] w_Row_eq dNe) (wFld "gains" (wVar 6)) (wCB (b1 dTuple) (waCons (wLc false (wiAny (wVar 2)) (wgName 8) wYes (wOp dSub (wOp (dMulT false) (wVar 3) (wVar 8)) (wVar 4)) [8]) waNil)))) (wOr (wTest (wOp dIsnB (wFn 1 0 w_is_level (wcP (waCons (wVar 6) waNil))) (wC (.bl true)))) (wTest (wOp (dNeO "Row" ["Row"] w_Row_eq dNe) (wFn 1 0 w_steady (wcP (waCons (wVar 6) waNil))) (wTup (waCons (wC (.int 0)) (waCons (wC (.int 1)) waNil))))))) (wRet (wC (.bl false))) wNext)
  (wSeq (wIfS (wOr (wTest (wOp (dNeO "Row" ["Row"] w_Row_eq dNe) (wFn 1 0 w_levelled (wcP (waCons (wMt "Row" "plus" 1 0 w_Row_plus (wVar 1) (wcP (waCons (wVar 5) waNil))) waNil))) (wVar 6))) (wOr (wTest (wOp (dNeO "Row" ["Row"] w_Row_eq dNe) (wFn 1 0 w_levelled (wcP (waCons (wMt "Row" "times" 1 0 w_Row_times (wVar 1) (wcP (waCons (wVar 5) waNil))) waNil))) (wMt "Row" "times" 1 0 w_Row_times (wVar 6) (wcP (waCons (wVar 5) waNil))))) (wTest (wOp (dNeO "Row" ["Row"] w_Row_eq dNe) (wFn 1 0 w_levelled (wcP (waCons (wMt "Row" "backwards" 0 0 w_Row_backwards (wVar 1) (wcP waNil)) waNil))) (wMt "Row" "backwards" 0 0 w_Row_backwards (wVar 6) (wcP waNil)))))) (wRet (wC (.bl false))) wNext)
  (wSeq (wIfS (wOr (wTest (wOp (dNeO "Row" ["Row"] w_Row_eq dNe) (wFn 1 0 w_steady (wcP (waCons (wMt "Row" "plus" 1 0 w_Row_plus (wVar 1) (wcP (waCons (wVar 5) waNil))) waNil))) (wFn 2 0 w_law_part (wcP (waCons (wOp (dAdd false) (wVar 4) (wOp (dMulT false) (wVar 3) (wVar 5))) (waCons (wVar 3) waNil)))))) (wTest (wOp (dNeO "Row" ["Row"] w_Row_eq dNe) (wFld "gains" (wVar 1)) (wCB (b1 dTuple) (waCons (wVar 2) waNil))))) (wRet (wC (.bl false))) wNext)
  (wRet (wAndT (wOp (dEqO "Row" ["Row"] w_Row_eq dEq) (wFn 1 0 w_levelled (wcP (waCons (wVar 6) waNil))) (wMt "Row" "times" 1 0 w_Row_times (wVar 6) (wcP (waCons (wVar 3) waNil)))) (wOrT (wOp (dNeO "Row" ["Row"] w_Row_eq dNe) (wVar 4) (wC (.int 0))) (wOp (dEqO "Row" ["Row"] w_Row_eq dEq) (wVar 6) (wMt "Row" "times" 1 0 w_Row_times (wVar 1) (wcP (waCons (wVar 3) waNil))))))))))))) := by
  unfold w_law_plain_right
  exact Classical.choose_spec wx_law_plain_right
theorem wx_law_known : ∃ w : WF, w = wDef 1 1
  (wRet (wFn 2 0 w_law_any (wcP (waCons (wVar 0) (waCons (wLst false (waCons (wLst false (waCons (wUn dNeg (wC (.int 3))) (waCons (wC (.int 5)) (waCons (wUn dNeg (wC (.int 3))) (waCons (wUn dNeg (wC (.int 3))) (waCons (wC (.int 5)) (waCons (wUn dNeg (wC (.int 3))) waNil))))))) (waCons (wLst false (waCons (wC (.int 5)) (waCons (wC (.int 5)) (waCons (wUn dNeg (wC (.int 13))) (waCons (wC (.int 5)) (waCons (wC (.int 5)) (waCons (wC (.int 5)) (waCons (wUn dNeg (wC (.int 13))) (waCons (wC (.int 5)) (waCons (wC (.int 5)) (waCons (wUn dNeg (wC (.int 13))) (waCons (wC (.int 5)) (waCons (wC (.int 5)) (waCons (wC (.int 5)) (waCons (wUn dNeg (wC (.int 13))) (waCons (wC (.int 5)) (waCons (wC (.int 5)) waNil))))))))))))))))) (waCons (wLst false (waCons (wUn dNeg (wC (.int 1))) (waCons (wC (.int 3)) (waCons (wUn dNeg (wC (.int 1))) (waCons (wUn dNeg (wC (.int 3))) (waCons (wC (.int 0)) (waCons (wC (.int 3)) (waCons (wUn dNeg (wC (.int 1))) waNil)))))))) (waCons (wLst false (waCons (wC (.int 1)) (waCons (wUn dNeg (wC (.int 1))) (waCons (wC (.int 1)) (waCons (wUn dNeg (wC (.int 1))) (waCons (wC (.int 1)) waNil)))))) (waCons (wLst false (waCons (wC (.int 0)) (waCons (wC (.int 0)) (waCons (wC (.int 0)) waNil)))) (waCons (wLst false (waCons (wUn dNeg (wC (.int 1))) (waCons (wC (.int 2)) (waCons (wUn dNeg (wC (.int 1))) waNil)))) (waCons (wLst false (waCons (wC (.int 4)) waNil)) waNil)))))))) waNil))))) := ⟨_, rfl⟩
@[irreducible] noncomputable def w_law_known : WF := Classical.choose wx_law_known
theorem w_law_known_eq : w_law_known = wDef 1 1
  (wRet (wFn 2 0 w_law_any (wcP (waCons (wVar 0) (waCons (wLst false (waCons (wLst false (waCons (wUn dNeg (wC (.int 3))) (waCons (wC (.int 5)) (waCons (wUn dNeg (wC (.int 3))) (waCons (wUn dNeg (wC (.int 3))) (waCons (wC (.int 5)) (waCons (wUn dNeg (wC (.int 3))) waNil))))))) (waCons (wLst false (waCons (wC (.int 5)) (waCons (wC (.int 5)) (waCons (wUn dNeg (wC (.int 13))) (waCons (wC (.int 5)) (waCons (wC (.int 5)) (waCons (wC (.int 5)) (waCons (wUn dNeg (wC (.int 13))) (waCons (wC (.int 5)) (waCons (wC (.int 5)) (waCons (wUn dNeg (wC (.int 13))) (waCons (wC (.int 5)) (waCons (wC (.int 5)) (waCons (wC (.int 5)) (waCons (wUn dNeg (wC (.int 13))) (waCons (wC (.int 5)) (waCons (wC (.int 5)) waNil))))))))))))))))) (waCons (wLst false (waCons (wUn dNeg (wC (.int 1))) (waCons (wC (.int 3)) (waCons (wUn dNeg (wC (.int 1))) (waCons (wUn dNeg (wC (.int 3))) (waCons (wC (.int 0)) (waCons (wC (.int 3)) (waCons (wUn dNeg (wC (.int 1))) waNil)))))))) (waCons (wLst false (waCons (wC (.int 1)) (waCons (wUn dNeg (wC (.int 1))) (waCons (wC (.int 1)) (waCons (wUn dNeg (wC (.int 1))) (waCons (wC (.int 1)) waNil)))))) (waCons (wLst false (waCons (wC (.int 0)) (waCons (wC (.int 0)) (waCons (wC (.int 0)) waNil)))) (waCons (wLst false (waCons (wUn dNeg (wC (.int 1))) (waCons (wC (.int 2)) (waCons (wUn dNeg (wC (.int 1))) waNil)))) (waCons (wLst false (waCons (wC (.int 4)) waNil)) waNil)))))))) waNil))))) := by
  unfold w_law_known
  exact Classical.choose_spec wx_law_known
theorem wx_law_gains : ∃ w : WF, w = wDef 2 7
  (wSeq (wAsg (wFn 2 0 w_law_drip (wcP (waCons (wVar 0) (waCons (wC (.int 7)) waNil)))) (wgName 2))
  (wSeq (wIfS (wTest (wOp dLt (wVar 2) (wC (.int 2)))) (wRet (wDp [3, 4] (wLc true (wiR1 (waCons (wVar 1) waNil)) (wgName 6) wYes (wOp dSub (wFn 2 0 w_law_drip (wcP (waCons (wVar 0) (waCons (wC (.int 7)) waNil)))) (wC (.int 3))) [6]))) wNext)
  (wSeq (wIfS (wTest (wOp (dEqO "Row" ["Row"] w_Row_eq dEq) (wVar 2) (wC (.int 2)))) (wRet (wDp [3, 4] (wLc true (wiR1 (waCons (wVar 1) waNil)) (wgName 6) wYes (wFn 2 0 w_law_any (wcP (waCons (wVar 0) (waCons (wLst false (waCons (wC (.int 0)) (waCons (wC (.int 0)) (waCons (wC (.int 0)) (waCons (wC (.int 1)) (waCons (wUn dNeg (wC (.int 1))) waNil)))))) waNil)))) [6]))) wNext)
  (wSeq (wIfS (wTest (wOp (dEqO "Row" ["Row"] w_Row_eq dEq) (wVar 2) (wC (.int 3)))) (wRet (wDp [3, 4] (wLc true (wiR1 (waCons (wVar 1) waNil)) (wgName 6) wYes (wFn 2 0 w_law_any (wcP (waCons (wVar 0) (waCons (wLst false (waCons (wOp dPw (wC (.int 10)) (wC (.int 20))) (waCons (wOp dSub (wC (.int 1)) (wOp dPw (wC (.int 10)) (wC (.int 20)))) (waCons (wOp dPw (wC (.int 10)) (wC (.int 6))) (waCons (wC (.int 0)) (waCons (wUn dNeg (wC (.int 999999))) (waCons (wC (.int 7)) waNil))))))) waNil)))) [6]))) wNext)
  (wSeq (wAsg (wLc true (wiR1 (waCons (wOp (dAdd false) (wC (.int 1)) (wFn 2 0 w_law_drip (wcP (waCons (wVar 0) (waCons (wC (.int 5)) waNil))))) waNil)) (wgName 6) wYes (wOp dSub (wFn 2 0 w_law_drip (wcP (waCons (wVar 0) (waCons (wC (.int 9)) waNil)))) (wC (.int 4))) [6]) (wgName 3))
  (wSeq (wIfS (wTest (wOp (dEqO "Row" ["Row"] w_Row_eq dEq) (wVar 2) (wC (.int 4)))) (wAsg (wOp dSub (wOp dIx (wVar 3) (wC (.int 0))) (wCB (b1 dSum) (waCons (wVar 3) waNil))) (wgSub (wVar 3) (wC (.int 0)))) wNext)
  (wSeq (wAsg (wLc true (wiR1 (waCons (wVar 1) waNil)) (wgName 6) wYes (wOp dIx (wVar 3) (wOp dMd (wCB (b1 dInt) (waCons (wVar 6) waNil)) (wCB (b1 (dLenO "Row" w_Row_len dLen)) (waCons (wVar 3) waNil)))) [6]) (wgName 4))
  (wSeq (wIfS (wTest (wOp (dEqO "Row" ["Row"] w_Row_eq dEq) (wVar 2) (wC (.int 6)))) (wSeq (wAsg (wFn 2 0 w_law_drip (wcP (waCons (wVar 0) (waCons (wVar 1) waNil)))) (wgName 5))
  (wAsg (wOp (dAdd false) (wOp dIx (wVar 4) (wVar 5)) (wFn 2 0 w_law_any (wcP (waCons (wVar 0) (waCons (wLst false (waCons (wC (.int 1)) (waCons (wUn dNeg (wC (.int 1))) (waCons (wC (.int 30)) waNil)))) waNil))))) (wgSub (wVar 4) (wVar 5)))) wNext)
  (wRet (wDp [3] (wVar 4))))))))))) := ⟨_, rfl⟩
@[irreducible] noncomputable def w_law_gains : WF := Classical.choose wx_law_gains
theorem w_law_gains_eq : w_law_gains = wDef 2 7
  (wSeq (wAsg (wFn 2 0 w_law_drip (wcP (waCons (wVar 0) (waCons (wC (.int 7)) waNil)))) (wgName 2))
  (wSeq (wIfS (wTest (wOp dLt (wVar 2) (wC (.int 2)))) (wRet (wDp [3, 4] (wLc true (wiR1 (waCons (wVar 1) waNil)) (wgName 6) wYes (wOp dSub (wFn 2 0 w_law_drip (wcP (waCons (wVar 0) (waCons (wC (.int 7)) waNil)))) (wC (.int 3))) [6]))) wNext)
  (wSeq (wIfS (wTest (wOp (dEqO "Row" ["Row"] w_Row_eq dEq) (wVar 2) (wC (.int 2)))) (wRet (wDp [3, 4] (wLc true (wiR1 (waCons (wVar 1) waNil)) (wgName 6) wYes (wFn 2 0 w_law_any (wcP (waCons (wVar 0) (waCons (wLst false (waCons (wC (.int 0)) (waCons (wC (.int 0)) (waCons (wC (.int 0)) (waCons (wC (.int 1)) (waCons (wUn dNeg (wC (.int 1))) waNil)))))) waNil)))) [6]))) wNext)
  (wSeq (wIfS (wTest (wOp (dEqO "Row" ["Row"] w_Row_eq dEq) (wVar 2) (wC (.int 3)))) (wRet (wDp [3, 4] (wLc true (wiR1 (waCons (wVar 1) waNil)) (wgName 6) wYes (wFn 2 0 w_law_any (wcP (waCons (wVar 0) (waCons (wLst false (waCons (wOp dPw (wC (.int 10)) (wC (.int 20))) (waCons (wOp dSub (wC (.int 1)) (wOp dPw (wC (.int 10)) (wC (.int 20)))) (waCons (wOp dPw (wC (.int 10)) (wC (.int 6))) (waCons (wC (.int 0)) (waCons (wUn dNeg (wC (.int 999999))) (waCons (wC (.int 7)) waNil))))))) waNil)))) [6]))) wNext)
  (wSeq (wAsg (wLc true (wiR1 (waCons (wOp (dAdd false) (wC (.int 1)) (wFn 2 0 w_law_drip (wcP (waCons (wVar 0) (waCons (wC (.int 5)) waNil))))) waNil)) (wgName 6) wYes (wOp dSub (wFn 2 0 w_law_drip (wcP (waCons (wVar 0) (waCons (wC (.int 9)) waNil)))) (wC (.int 4))) [6]) (wgName 3))
  (wSeq (wIfS (wTest (wOp (dEqO "Row" ["Row"] w_Row_eq dEq) (wVar 2) (wC (.int 4)))) (wAsg (wOp dSub (wOp dIx (wVar 3) (wC (.int 0))) (wCB (b1 dSum) (waCons (wVar 3) waNil))) (wgSub (wVar 3) (wC (.int 0)))) wNext)
  (wSeq (wAsg (wLc true (wiR1 (waCons (wVar 1) waNil)) (wgName 6) wYes (wOp dIx (wVar 3) (wOp dMd (wCB (b1 dInt) (waCons (wVar 6) waNil)) (wCB (b1 (dLenO "Row" w_Row_len dLen)) (waCons (wVar 3) waNil)))) [6]) (wgName 4))
  (wSeq (wIfS (wTest (wOp (dEqO "Row" ["Row"] w_Row_eq dEq) (wVar 2) (wC (.int 6)))) (wSeq (wAsg (wFn 2 0 w_law_drip (wcP (waCons (wVar 0) (waCons (wVar 1) waNil)))) (wgName 5))
  (wAsg (wOp (dAdd false) (wOp dIx (wVar 4) (wVar 5)) (wFn 2 0 w_law_any (wcP (waCons (wVar 0) (waCons (wLst false (waCons (wC (.int 1)) (waCons (wUn dNeg (wC (.int 1))) (waCons (wC (.int 30)) waNil)))) waNil))))) (wgSub (wVar 4) (wVar 5)))) wNext)
  (wRet (wDp [3] (wVar 4))))))))))) := by
  unfold w_law_gains
  exact Classical.choose_spec wx_law_gains
theorem wx_law_tap : ∃ w : WF, w = wDef 1 2
  (wRet (wLst true (waCons (wLc false (wiAny (wSl false (wVar 0) woNone (woSome (wC (.int 60))))) (wgName 1) wYes (wCB (b1 dInt) (waCons (wVar 1) waNil)) [1]) (waCons (wC (.int 0)) (waCons (wC (.int 0)) waNil))))) := ⟨_, rfl⟩
@[irreducible] noncomputable def w_law_tap : WF := Classical.choose wx_law_tap
theorem w_law_tap_eq : w_law_tap = wDef 1 2
  (wRet (wLst true (waCons (wLc false (wiAny (wSl false (wVar 0) woNone (woSome (wC (.int 60))))) (wgName 1) wYes (wCB (b1 dInt) (waCons (wVar 1) waNil)) [1]) (waCons (wC (.int 0)) (waCons (wC (.int 0)) waNil))))) := by
  unfold w_law_tap
  exact Classical.choose_spec wx_law_tap
theorem wx_law : ∃ w : WF, w = wDef 1 6
  (wSeq (wAsg (wFn 1 0 w_law_tap (wcP (waCons (wVar 0) waNil))) (wgName 1))
  (wSeq (wFor (wiR1 (waCons (wC (.int 3)) waNil)) (wgName 2) (wSeq (wAsg (wFn 2 0 w_law_gains (wcP (waCons (wVar 1) (waCons (wFn 2 0 w_law_any (wcP (waCons (wVar 1) (waCons (wLst false (waCons (wC (.int 6)) (waCons (wC (.int 12)) (waCons (wC (.int 5)) (waCons (wC (.int 1)) (waCons (wC (.int 24)) (waCons (wC (.int 7)) (waCons (wC (.int 2)) (waCons (wC (.int 10)) (waCons (wC (.int 16)) (waCons (wC (.int 3)) waNil))))))))))) waNil)))) waNil)))) (wgName 3))
  (wSeq (wAsg (wFn 2 0 w_law_drip (wcP (waCons (wVar 1) (waCons (wC (.int 4)) waNil)))) (wgName 4))
  (wSeq (wIfS (wTest (wOp (dEqO "Row" ["Row"] w_Row_eq dEq) (wVar 4) (wC (.int 0)))) (wAsg (wFn 1 0 w_law_known (wcP (waCons (wVar 1) waNil))) (wgName 3)) wNext)
  (wSeq (wIfS (wTest (wOp (dEqO "Row" ["Row"] w_Row_eq dEq) (wVar 4) (wC (.int 1)))) (wAsg (wOp dSub (wOp dIx (wVar 3) (wUn dNeg (wC (.int 1)))) (wCB (b1 dSum) (waCons (wVar 3) waNil))) (wgSub (wVar 3) (wUn dNeg (wC (.int 1))))) wNext)
  (wSeq (wFrzA 3) (wSeq (wAsg (wNew false "Row" 1 0 w_Row_init (wcP (waCons (wVar 3) waNil))) (wgName 5))
  (wIfS (wOr (wNot (wTru (wFn 3 0 w_law_plain_right (wcP (waCons (wVar 1) (waCons (wVar 5) (waCons (wVar 3) waNil))))))) (wNot (wTru (wFn 2 0 w_law_lengths_right (wcP (waCons (wVar 5) (waCons (wVar 3) waNil))))))) (wRet (wDp [1, 3] (wC (.bl false)))) wNext))))))) [2, 4, 5])
  (wRet (wDp [1, 3] (wC (.bl true)))))) := ⟨_, rfl⟩
@[irreducible] noncomputable def w_law : WF := Classical.choose wx_law
theorem w_law_eq : w_law = wDef 1 6
  (wSeq (wAsg (wFn 1 0 w_law_tap (wcP (waCons (wVar 0) waNil))) (wgName 1))
  (wSeq (wFor (wiR1 (waCons (wC (.int 3)) waNil)) (wgName 2) (wSeq (wAsg (wFn 2 0 w_law_gains (wcP (waCons (wVar 1) (waCons (wFn 2 0 w_law_any (wcP (waCons (wVar 1) (waCons (wLst false (waCons (wC (.int 6)) (waCons (wC (.int 12)) (waCons (wC (.int 5)) (waCons (wC (.int 1)) (waCons (wC (.int 24)) (waCons (wC (.int 7)) (waCons (wC (.int 2)) (waCons (wC (.int 10)) (waCons (wC (.int 16)) (waCons (wC (.int 3)) waNil))))))))))) waNil)))) waNil)))) (wgName 3))
  (wSeq (wAsg (wFn 2 0 w_law_drip (wcP (waCons (wVar 1) (waCons (wC (.int 4)) waNil)))) (wgName 4))
  (wSeq (wIfS (wTest (wOp (dEqO "Row" ["Row"] w_Row_eq dEq) (wVar 4) (wC (.int 0)))) (wAsg (wFn 1 0 w_law_known (wcP (waCons (wVar 1) waNil))) (wgName 3)) wNext)
  (wSeq (wIfS (wTest (wOp (dEqO "Row" ["Row"] w_Row_eq dEq) (wVar 4) (wC (.int 1)))) (wAsg (wOp dSub (wOp dIx (wVar 3) (wUn dNeg (wC (.int 1)))) (wCB (b1 dSum) (waCons (wVar 3) waNil))) (wgSub (wVar 3) (wUn dNeg (wC (.int 1))))) wNext)
  (wSeq (wFrzA 3) (wSeq (wAsg (wNew false "Row" 1 0 w_Row_init (wcP (waCons (wVar 3) waNil))) (wgName 5))
  (wIfS (wOr (wNot (wTru (wFn 3 0 w_law_plain_right (wcP (waCons (wVar 1) (waCons (wVar 5) (waCons (wVar 3) waNil))))))) (wNot (wTru (wFn 2 0 w_law_lengths_right (wcP (waCons (wVar 5) (waCons (wVar 3) waNil))))))) (wRet (wDp [1, 3] (wC (.bl false)))) wNext))))))) [2, 4, 5])
  (wRet (wDp [1, 3] (wC (.bl true)))))) := by
  unfold w_law
  exact Classical.choose_spec wx_law
end K08

set_option Elab.async false
set_option linter.all false
set_option maxRecDepth 100000
set_option maxHeartbeats 4000000
namespace K08
open PySem PySem.Spec PyProof.Rows L2 Rl RZ RT
def top (i : Nat) : Stmt := PySem.Challenge.pw_anyseven_k08_the_steady_part_taken_off.main.body.getD i (.Pass ⟨0, 0, 0, 0⟩)
abbrev st_Row_eq : Stmt := inClass (top 24) 11
abbrev d_Row_eq : Df := ⟨.meth "Row" "__eq__", "__eq__", "Row.__eq__", defArgs st_Row_eq, defBody st_Row_eq, defScope st_Row_eq⟩
abbrev st_Row_len : Stmt := inClass (top 24) 10
abbrev d_Row_len : Df := ⟨.meth "Row" "__len__", "__len__", "Row.__len__", defArgs st_Row_len, defBody st_Row_len, defScope st_Row_len⟩
abbrev st_word_of : Stmt := top 36
abbrev d_word_of : Df := ⟨.top "word_of", "word_of", "word_of", defArgs st_word_of, defBody st_word_of, defScope st_word_of⟩
abbrev st_sums_in : Stmt := top 35
abbrev d_sums_in : Df := ⟨.top "sums_in", "sums_in", "sums_in", defArgs st_sums_in, defBody st_sums_in, defScope st_sums_in⟩
abbrev st_is_integer : Stmt := top 9
abbrev d_is_integer : Df := ⟨.top "is_integer", "is_integer", "is_integer", defArgs st_is_integer, defBody st_is_integer, defScope st_is_integer⟩
abbrev st_is_within : Stmt := top 10
abbrev d_is_within : Df := ⟨.top "is_within", "is_within", "is_within", defArgs st_is_within, defBody st_is_within, defScope st_is_within⟩
abbrev st_need_number : Stmt := top 12
abbrev d_need_number : Df := ⟨.top "need_number", "need_number", "need_number", defArgs st_need_number, defBody st_need_number, defScope st_need_number⟩
abbrev st_need_row : Stmt := top 21
abbrev d_need_row : Df := ⟨.top "need_row", "need_row", "need_row", defArgs st_need_row, defBody st_need_row, defScope st_need_row⟩
abbrev st_need_length : Stmt := top 34
abbrev d_need_length : Df := ⟨.top "need_length", "need_length", "need_length", defArgs st_need_length, defBody st_need_length, defScope st_need_length⟩
abbrev st_sort_of : Stmt := top 38
abbrev d_sort_of : Df := ⟨.top "sort_of", "sort_of", "sort_of", defArgs st_sort_of, defBody st_sort_of, defScope st_sort_of⟩
abbrev st_sums : Stmt := top 37
abbrev d_sums : Df := ⟨.top "sums", "sums", "sums", defArgs st_sums, defBody st_sums, defScope st_sums⟩
abbrev st_law_sums : Stmt := top 45
abbrev d_law_sums : Df := ⟨.top "_law_sums", "_law_sums", "_law_sums", defArgs st_law_sums, defBody st_law_sums, defScope st_law_sums⟩
abbrev st_heights_of : Stmt := top 23
abbrev d_heights_of : Df := ⟨.top "heights_of", "heights_of", "heights_of", defArgs st_heights_of, defBody st_heights_of, defScope st_heights_of⟩
abbrev st_are_integers : Stmt := top 11
abbrev d_are_integers : Df := ⟨.top "are_integers", "are_integers", "are_integers", defArgs st_are_integers, defBody st_are_integers, defScope st_are_integers⟩
abbrev st_Row_init : Stmt := inClass (top 24) 0
abbrev d_Row_init : Df := ⟨.meth "Row" "__init__", "__init__", "Row.__init__", defArgs st_Row_init, defBody st_Row_init, defScope st_Row_init⟩
abbrev st_Row_times : Stmt := inClass (top 24) 6
abbrev d_Row_times : Df := ⟨.meth "Row" "times", "times", "Row.times", defArgs st_Row_times, defBody st_Row_times, defScope st_Row_times⟩
abbrev st_Row_plus : Stmt := inClass (top 24) 7
abbrev d_Row_plus : Df := ⟨.meth "Row" "plus", "plus", "Row.plus", defArgs st_Row_plus, defBody st_Row_plus, defScope st_Row_plus⟩
abbrev st_levelled : Stmt := top 28
abbrev d_levelled : Df := ⟨.top "levelled", "levelled", "levelled", defArgs st_levelled, defBody st_levelled, defScope st_levelled⟩
abbrev st_law_lengths_right : Stmt := top 48
abbrev d_law_lengths_right : Df := ⟨.top "_law_lengths_right", "_law_lengths_right", "_law_lengths_right", defArgs st_law_lengths_right, defBody st_law_lengths_right, defScope st_law_lengths_right⟩
abbrev st_measure : Stmt := top 13
abbrev d_measure : Df := ⟨.top "measure", "measure", "measure", defArgs st_measure, defBody st_measure, defScope st_measure⟩
abbrev st_in_lowest : Stmt := top 14
abbrev d_in_lowest : Df := ⟨.top "in_lowest", "in_lowest", "in_lowest", defArgs st_in_lowest, defBody st_in_lowest, defScope st_in_lowest⟩
abbrev st_steady : Stmt := top 27
abbrev d_steady : Df := ⟨.top "steady", "steady", "steady", defArgs st_steady, defBody st_steady, defScope st_steady⟩
abbrev st_law_part : Stmt := top 46
abbrev d_law_part : Df := ⟨.top "_law_part", "_law_part", "_law_part", defArgs st_law_part, defBody st_law_part, defScope st_law_part⟩
abbrev st_Row_backwards : Stmt := inClass (top 24) 5
abbrev d_Row_backwards : Df := ⟨.meth "Row" "backwards", "backwards", "Row.backwards", defArgs st_Row_backwards, defBody st_Row_backwards, defScope st_Row_backwards⟩
abbrev st_is_level : Stmt := top 26
abbrev d_is_level : Df := ⟨.top "is_level", "is_level", "is_level", defArgs st_is_level, defBody st_is_level, defScope st_is_level⟩
abbrev st_law_drip : Stmt := top 41
abbrev d_law_drip : Df := ⟨.top "_law_drip", "_law_drip", "_law_drip", defArgs st_law_drip, defBody st_law_drip, defScope st_law_drip⟩
abbrev st_law_any : Stmt := top 42
abbrev d_law_any : Df := ⟨.top "_law_any", "_law_any", "_law_any", defArgs st_law_any, defBody st_law_any, defScope st_law_any⟩
abbrev st_law_plain_right : Stmt := top 47
abbrev d_law_plain_right : Df := ⟨.top "_law_plain_right", "_law_plain_right", "_law_plain_right", defArgs st_law_plain_right, defBody st_law_plain_right, defScope st_law_plain_right⟩
abbrev st_law_known : Stmt := top 44
abbrev d_law_known : Df := ⟨.top "_law_known", "_law_known", "_law_known", defArgs st_law_known, defBody st_law_known, defScope st_law_known⟩
abbrev st_law_gains : Stmt := top 43
abbrev d_law_gains : Df := ⟨.top "_law_gains", "_law_gains", "_law_gains", defArgs st_law_gains, defBody st_law_gains, defScope st_law_gains⟩
abbrev st_law_tap : Stmt := top 40
abbrev d_law_tap : Df := ⟨.top "_law_tap", "_law_tap", "_law_tap", defArgs st_law_tap, defBody st_law_tap, defScope st_law_tap⟩
abbrev st_law : Stmt := top 49
abbrev d_law : Df := ⟨.top "law", "law", "law", defArgs st_law, defBody st_law, defScope st_law⟩
def fn : List Df := [d_Row_eq, d_Row_len, d_word_of, d_sums_in, d_is_integer, d_is_within, d_need_number, d_need_row, d_need_length, d_sort_of, d_sums, d_law_sums, d_heights_of, d_are_integers, d_Row_init, d_Row_times, d_Row_plus, d_levelled, d_law_lengths_right, d_measure, d_in_lowest, d_steady, d_law_part, d_Row_backwards, d_is_level, d_law_drip, d_law_any, d_law_plain_right, d_law_known, d_law_gains, d_law_tap, d_law]
def fa : List Fb := [.he (.free "range"),
  .he (.glo "Row"),
  .he (.free "isinstance"),
  .nf "tuple" "Row",
  .nf "list" "Row",
  .nf "str" "Row",
  .nf "int" "Row",
  .nf "bool" "Row",
  .nf "NoneType" "Row",
  .nfO "Row" "Row",
  .spm "Row" "__eq__",
  .he (.free "int"),
  .nem "Row",
  .he (.free "len"),
  .spm "Row" "__len__",
  .he (.free "max"),
  .he (.free "min"),
  .he (.str "FLAT" "flat"),
  .he (.str "MIXED" "mixed"),
  .he (.str "LOSES" "loses"),
  .he (.str "GAINS" "gains"),
  .he (.free "zip"),
  .he (.free "tuple"),
  .he (.glo "sums_in"),
  .he (.glo "word_of"),
  .he (.free "bool"),
  .he (.glo "is_integer"),
  .he (.glo "is_within"),
  .he (.glo "need_number"),
  .he (.glo "need_row"),
  .he (.glo "need_length"),
  .he (.glo "sort_of"),
  .he (.glo "sums"),
  .he (.free "sum"),
  .he (.glo "_law_sums"),
  .he (.noat "Row" "total"),
  .he (.noat "Row" "days"),
  .he (.glo "heights_of"),
  .he (.noat "Row" "heights"),
  .he (.noat "Row" "gains"),
  .he (.int "MOST_DAYS" (48)),
  .he (.free "all"),
  .he (.free "list"),
  .he (.glo "are_integers"),
  .he (.cls "Row"),
  .tyi "Row",
  .he (.mkr "Row"),
  .he (.meth "Row" "times"),
  .he (.meth "Row" "plus"),
  .he (.glo "levelled"),
  .he (.glo "_law_lengths_right"),
  .he (.free "abs"),
  .he (.glo "measure"),
  .he (.glo "in_lowest"),
  .he (.glo "steady"),
  .he (.glo "_law_part"),
  .he (.meth "Row" "backwards"),
  .he (.glo "is_level"),
  .he (.glo "_law_drip"),
  .he (.glo "_law_any"),
  .he (.glo "_law_plain_right"),
  .he (.glo "_law_known"),
  .he (.glo "_law_gains"),
  .he (.glo "_law_tap"),
  .kit "NoneType" "Row" false,
  .kit "bool" "Row" false,
  .kit "int" "Row" false,
  .kit "str" "Row" false,
  .kit "list" "Row" false,
  .kit "tuple" "Row" false,
  .kitT "Row" "NoneType" false,
  .kitT "Row" "bool" false,
  .kitT "Row" "int" false,
  .kitT "Row" "str" false,
  .kitT "Row" "list" false,
  .kitT "Row" "tuple" false,
  .kitO "Row" "Row" true]
structure Bd (K : PySem.W.Frag) (mg : Str → Option Value) : Prop where
  ex : ∃ h : Heap, K.In h ∧ h.Ns mainGlobals mg ∧ SaysB fa fn K
section
variable {K : PySem.W.Frag} {mg : Str → Option Value}
theorem g_range (b : Bd K mg) : mg "range" = none := by
  obtain ⟨h, X, G, c⟩ := b.ex
  exact He.free_ok X G (c.fact 0 (f := .he (.free "range")) rfl)
theorem n_Row (b : Bd K mg) : mg "Row" = some (.ref (He.ga K "Row")) := by
  obtain ⟨h, X, G, c⟩ := b.ex
  exact He.glo_ok X G (c.fact 1 (f := .he (.glo "Row")) rfl)
theorem g_isinstance (b : Bd K mg) : mg "isinstance" = none := by
  obtain ⟨h, X, G, c⟩ := b.ex
  exact He.free_ok X G (c.fact 2 (f := .he (.free "isinstance")) rfl)
theorem nf_tuple_Row (b : Bd K mg) : PySem.W.notFirst K (He.ga K "Row") (.type "tuple") = true := by
  obtain ⟨h, X, G, c⟩ := b.ex
  exact c.fact 3 (f := .nf "tuple" "Row") rfl
theorem nf_list_Row (b : Bd K mg) : PySem.W.notFirst K (He.ga K "Row") (.type "list") = true := by
  obtain ⟨h, X, G, c⟩ := b.ex
  exact c.fact 4 (f := .nf "list" "Row") rfl
theorem nf_str_Row (b : Bd K mg) : PySem.W.notFirst K (He.ga K "Row") (.type "str") = true := by
  obtain ⟨h, X, G, c⟩ := b.ex
  exact c.fact 5 (f := .nf "str" "Row") rfl
theorem nf_int_Row (b : Bd K mg) : PySem.W.notFirst K (He.ga K "Row") (.type "int") = true := by
  obtain ⟨h, X, G, c⟩ := b.ex
  exact c.fact 6 (f := .nf "int" "Row") rfl
theorem nf_bool_Row (b : Bd K mg) : PySem.W.notFirst K (He.ga K "Row") (.type "bool") = true := by
  obtain ⟨h, X, G, c⟩ := b.ex
  exact c.fact 7 (f := .nf "bool" "Row") rfl
theorem nf_NoneType_Row (b : Bd K mg) : PySem.W.notFirst K (He.ga K "Row") (.type "NoneType") = true := by
  obtain ⟨h, X, G, c⟩ := b.ex
  exact c.fact 8 (f := .nf "NoneType" "Row") rfl
theorem nfO_Row_Row (b : Bd K mg) : PySem.W.notFirst K (He.ga K "Row") (.ref (He.ga K "Row")) = true := by
  obtain ⟨h, X, G, c⟩ := b.ex
  exact c.fact 9 (f := .nfO "Row" "Row") rfl
theorem spm_Row_eq (b : Bd K mg) : Spm K (He.ga K "Row") "__eq__" (ad K (.meth "Row" "__eq__")) := by
  obtain ⟨h, X, G, c⟩ := b.ex
  exact spm_ok (c.fact 10 (f := .spm "Row" "__eq__") rfl)
theorem g_int (b : Bd K mg) : mg "int" = none := by
  obtain ⟨h, X, G, c⟩ := b.ex
  exact He.free_ok X G (c.fact 11 (f := .he (.free "int")) rfl)
theorem nem_Row (b : Bd K mg) : Nem K (He.ga K "Row") := by
  obtain ⟨h, X, G, c⟩ := b.ex
  exact nem_ok (c.fact 12 (f := .nem "Row") rfl)
theorem g_len (b : Bd K mg) : mg "len" = none := by
  obtain ⟨h, X, G, c⟩ := b.ex
  exact He.free_ok X G (c.fact 13 (f := .he (.free "len")) rfl)
theorem spm_Row_len (b : Bd K mg) : Spm K (He.ga K "Row") "__len__" (ad K (.meth "Row" "__len__")) := by
  obtain ⟨h, X, G, c⟩ := b.ex
  exact spm_ok (c.fact 14 (f := .spm "Row" "__len__") rfl)
theorem g_max (b : Bd K mg) : mg "max" = none := by
  obtain ⟨h, X, G, c⟩ := b.ex
  exact He.free_ok X G (c.fact 15 (f := .he (.free "max")) rfl)
theorem g_min (b : Bd K mg) : mg "min" = none := by
  obtain ⟨h, X, G, c⟩ := b.ex
  exact He.free_ok X G (c.fact 16 (f := .he (.free "min")) rfl)
theorem k_FLAT (b : Bd K mg) : ∃ t, mg "FLAT" = some (.str "flat" t) := by
  obtain ⟨h, X, G, c⟩ := b.ex
  exact He.str_ok X G (c.fact 17 (f := .he (.str "FLAT" "flat")) rfl)
theorem k_MIXED (b : Bd K mg) : ∃ t, mg "MIXED" = some (.str "mixed" t) := by
  obtain ⟨h, X, G, c⟩ := b.ex
  exact He.str_ok X G (c.fact 18 (f := .he (.str "MIXED" "mixed")) rfl)
theorem k_LOSES (b : Bd K mg) : ∃ t, mg "LOSES" = some (.str "loses" t) := by
  obtain ⟨h, X, G, c⟩ := b.ex
  exact He.str_ok X G (c.fact 19 (f := .he (.str "LOSES" "loses")) rfl)
theorem k_GAINS (b : Bd K mg) : ∃ t, mg "GAINS" = some (.str "gains" t) := by
  obtain ⟨h, X, G, c⟩ := b.ex
  exact He.str_ok X G (c.fact 20 (f := .he (.str "GAINS" "gains")) rfl)
theorem g_zip (b : Bd K mg) : mg "zip" = none := by
  obtain ⟨h, X, G, c⟩ := b.ex
  exact He.free_ok X G (c.fact 21 (f := .he (.free "zip")) rfl)
theorem g_tuple (b : Bd K mg) : mg "tuple" = none := by
  obtain ⟨h, X, G, c⟩ := b.ex
  exact He.free_ok X G (c.fact 22 (f := .he (.free "tuple")) rfl)
theorem n_sums_in (b : Bd K mg) : mg "sums_in" = some (.ref (He.ga K "sums_in")) := by
  obtain ⟨h, X, G, c⟩ := b.ex
  exact He.glo_ok X G (c.fact 23 (f := .he (.glo "sums_in")) rfl)
theorem n_word_of (b : Bd K mg) : mg "word_of" = some (.ref (He.ga K "word_of")) := by
  obtain ⟨h, X, G, c⟩ := b.ex
  exact He.glo_ok X G (c.fact 24 (f := .he (.glo "word_of")) rfl)
theorem g_bool (b : Bd K mg) : mg "bool" = none := by
  obtain ⟨h, X, G, c⟩ := b.ex
  exact He.free_ok X G (c.fact 25 (f := .he (.free "bool")) rfl)
theorem n_is_integer (b : Bd K mg) : mg "is_integer" = some (.ref (He.ga K "is_integer")) := by
  obtain ⟨h, X, G, c⟩ := b.ex
  exact He.glo_ok X G (c.fact 26 (f := .he (.glo "is_integer")) rfl)
theorem n_is_within (b : Bd K mg) : mg "is_within" = some (.ref (He.ga K "is_within")) := by
  obtain ⟨h, X, G, c⟩ := b.ex
  exact He.glo_ok X G (c.fact 27 (f := .he (.glo "is_within")) rfl)
theorem n_need_number (b : Bd K mg) : mg "need_number" = some (.ref (He.ga K "need_number")) := by
  obtain ⟨h, X, G, c⟩ := b.ex
  exact He.glo_ok X G (c.fact 28 (f := .he (.glo "need_number")) rfl)
theorem n_need_row (b : Bd K mg) : mg "need_row" = some (.ref (He.ga K "need_row")) := by
  obtain ⟨h, X, G, c⟩ := b.ex
  exact He.glo_ok X G (c.fact 29 (f := .he (.glo "need_row")) rfl)
theorem n_need_length (b : Bd K mg) : mg "need_length" = some (.ref (He.ga K "need_length")) := by
  obtain ⟨h, X, G, c⟩ := b.ex
  exact He.glo_ok X G (c.fact 30 (f := .he (.glo "need_length")) rfl)
theorem n_sort_of (b : Bd K mg) : mg "sort_of" = some (.ref (He.ga K "sort_of")) := by
  obtain ⟨h, X, G, c⟩ := b.ex
  exact He.glo_ok X G (c.fact 31 (f := .he (.glo "sort_of")) rfl)
theorem n_sums (b : Bd K mg) : mg "sums" = some (.ref (He.ga K "sums")) := by
  obtain ⟨h, X, G, c⟩ := b.ex
  exact He.glo_ok X G (c.fact 32 (f := .he (.glo "sums")) rfl)
theorem g_sum (b : Bd K mg) : mg "sum" = none := by
  obtain ⟨h, X, G, c⟩ := b.ex
  exact He.free_ok X G (c.fact 33 (f := .he (.free "sum")) rfl)
theorem n_law_sums (b : Bd K mg) : mg "_law_sums" = some (.ref (He.ga K "_law_sums")) := by
  obtain ⟨h, X, G, c⟩ := b.ex
  exact He.glo_ok X G (c.fact 34 (f := .he (.glo "_law_sums")) rfl)
theorem na_Row_total (b : Bd K mg) : NoAttr K (He.ga K "Row") "total" := by
  obtain ⟨h, X, G, c⟩ := b.ex
  exact He.noat_ok (c.fact 35 (f := .he (.noat "Row" "total")) rfl)
theorem na_Row_days (b : Bd K mg) : NoAttr K (He.ga K "Row") "days" := by
  obtain ⟨h, X, G, c⟩ := b.ex
  exact He.noat_ok (c.fact 36 (f := .he (.noat "Row" "days")) rfl)
theorem n_heights_of (b : Bd K mg) : mg "heights_of" = some (.ref (He.ga K "heights_of")) := by
  obtain ⟨h, X, G, c⟩ := b.ex
  exact He.glo_ok X G (c.fact 37 (f := .he (.glo "heights_of")) rfl)
theorem na_Row_heights (b : Bd K mg) : NoAttr K (He.ga K "Row") "heights" := by
  obtain ⟨h, X, G, c⟩ := b.ex
  exact He.noat_ok (c.fact 38 (f := .he (.noat "Row" "heights")) rfl)
theorem na_Row_gains (b : Bd K mg) : NoAttr K (He.ga K "Row") "gains" := by
  obtain ⟨h, X, G, c⟩ := b.ex
  exact He.noat_ok (c.fact 39 (f := .he (.noat "Row" "gains")) rfl)
theorem k_MOST_DAYS (b : Bd K mg) : ∃ t, mg "MOST_DAYS" = some (.int (48) t) := by
  obtain ⟨h, X, G, c⟩ := b.ex
  exact He.int_ok X G (c.fact 40 (f := .he (.int "MOST_DAYS" (48))) rfl)
theorem g_all (b : Bd K mg) : mg "all" = none := by
  obtain ⟨h, X, G, c⟩ := b.ex
  exact He.free_ok X G (c.fact 41 (f := .he (.free "all")) rfl)
theorem g_list (b : Bd K mg) : mg "list" = none := by
  obtain ⟨h, X, G, c⟩ := b.ex
  exact He.free_ok X G (c.fact 42 (f := .he (.free "list")) rfl)
theorem n_are_integers (b : Bd K mg) : mg "are_integers" = some (.ref (He.ga K "are_integers")) := by
  obtain ⟨h, X, G, c⟩ := b.ex
  exact He.glo_ok X G (c.fact 43 (f := .he (.glo "are_integers")) rfl)
theorem cl_Row (b : Bd K mg) : Cls K (He.ga K "Row") := by
  obtain ⟨h, X, G, c⟩ := b.ex
  exact He.cls_ok (c.fact 44 (f := .he (.cls "Row")) rfl)
theorem ty_Row (b : Bd K mg) : Tyi K (He.ga K "Row") := by
  obtain ⟨h, X, G, c⟩ := b.ex
  exact tyi_ok (c.fact 44 (f := .he (.cls "Row")) rfl) (c.fact 45 (f := .tyi "Row") rfl)
theorem mk_Row (b : Bd K mg) : Mk K (He.ga K "Row") (ad K (.meth "Row" "__init__")) := by
  obtain ⟨h, X, G, c⟩ := b.ex
  exact He.mkr_ok (c.fact 46 (f := .he (.mkr "Row")) rfl)
theorem me_Row_times (b : Bd K mg) : Meth K (He.ga K "Row") "times" (ad K (.meth "Row" "times")) := by
  obtain ⟨h, X, G, c⟩ := b.ex
  exact He.meth_ok (c.fact 47 (f := .he (.meth "Row" "times")) rfl)
theorem me_Row_plus (b : Bd K mg) : Meth K (He.ga K "Row") "plus" (ad K (.meth "Row" "plus")) := by
  obtain ⟨h, X, G, c⟩ := b.ex
  exact He.meth_ok (c.fact 48 (f := .he (.meth "Row" "plus")) rfl)
theorem n_levelled (b : Bd K mg) : mg "levelled" = some (.ref (He.ga K "levelled")) := by
  obtain ⟨h, X, G, c⟩ := b.ex
  exact He.glo_ok X G (c.fact 49 (f := .he (.glo "levelled")) rfl)
theorem n_law_lengths_right (b : Bd K mg) : mg "_law_lengths_right" = some (.ref (He.ga K "_law_lengths_right")) := by
  obtain ⟨h, X, G, c⟩ := b.ex
  exact He.glo_ok X G (c.fact 50 (f := .he (.glo "_law_lengths_right")) rfl)
theorem g_abs (b : Bd K mg) : mg "abs" = none := by
  obtain ⟨h, X, G, c⟩ := b.ex
  exact He.free_ok X G (c.fact 51 (f := .he (.free "abs")) rfl)
theorem n_measure (b : Bd K mg) : mg "measure" = some (.ref (He.ga K "measure")) := by
  obtain ⟨h, X, G, c⟩ := b.ex
  exact He.glo_ok X G (c.fact 52 (f := .he (.glo "measure")) rfl)
theorem n_in_lowest (b : Bd K mg) : mg "in_lowest" = some (.ref (He.ga K "in_lowest")) := by
  obtain ⟨h, X, G, c⟩ := b.ex
  exact He.glo_ok X G (c.fact 53 (f := .he (.glo "in_lowest")) rfl)
theorem n_steady (b : Bd K mg) : mg "steady" = some (.ref (He.ga K "steady")) := by
  obtain ⟨h, X, G, c⟩ := b.ex
  exact He.glo_ok X G (c.fact 54 (f := .he (.glo "steady")) rfl)
theorem n_law_part (b : Bd K mg) : mg "_law_part" = some (.ref (He.ga K "_law_part")) := by
  obtain ⟨h, X, G, c⟩ := b.ex
  exact He.glo_ok X G (c.fact 55 (f := .he (.glo "_law_part")) rfl)
theorem me_Row_backwards (b : Bd K mg) : Meth K (He.ga K "Row") "backwards" (ad K (.meth "Row" "backwards")) := by
  obtain ⟨h, X, G, c⟩ := b.ex
  exact He.meth_ok (c.fact 56 (f := .he (.meth "Row" "backwards")) rfl)
theorem n_is_level (b : Bd K mg) : mg "is_level" = some (.ref (He.ga K "is_level")) := by
  obtain ⟨h, X, G, c⟩ := b.ex
  exact He.glo_ok X G (c.fact 57 (f := .he (.glo "is_level")) rfl)
theorem n_law_drip (b : Bd K mg) : mg "_law_drip" = some (.ref (He.ga K "_law_drip")) := by
  obtain ⟨h, X, G, c⟩ := b.ex
  exact He.glo_ok X G (c.fact 58 (f := .he (.glo "_law_drip")) rfl)
theorem n_law_any (b : Bd K mg) : mg "_law_any" = some (.ref (He.ga K "_law_any")) := by
  obtain ⟨h, X, G, c⟩ := b.ex
  exact He.glo_ok X G (c.fact 59 (f := .he (.glo "_law_any")) rfl)
theorem n_law_plain_right (b : Bd K mg) : mg "_law_plain_right" = some (.ref (He.ga K "_law_plain_right")) := by
  obtain ⟨h, X, G, c⟩ := b.ex
  exact He.glo_ok X G (c.fact 60 (f := .he (.glo "_law_plain_right")) rfl)
theorem n_law_known (b : Bd K mg) : mg "_law_known" = some (.ref (He.ga K "_law_known")) := by
  obtain ⟨h, X, G, c⟩ := b.ex
  exact He.glo_ok X G (c.fact 61 (f := .he (.glo "_law_known")) rfl)
theorem n_law_gains (b : Bd K mg) : mg "_law_gains" = some (.ref (He.ga K "_law_gains")) := by
  obtain ⟨h, X, G, c⟩ := b.ex
  exact He.glo_ok X G (c.fact 62 (f := .he (.glo "_law_gains")) rfl)
theorem n_law_tap (b : Bd K mg) : mg "_law_tap" = some (.ref (He.ga K "_law_tap")) := by
  obtain ⟨h, X, G, c⟩ := b.ex
  exact He.glo_ok X G (c.fact 63 (f := .he (.glo "_law_tap")) rfl)
theorem kit_NoneType_Row (b : Bd K mg) : PySem.W.kitOne K (.type "NoneType") (.ref (He.ga K "Row")) = some false := by
  obtain ⟨h, X, G, c⟩ := b.ex
  exact of_decide_eq_true (c.fact 64 (f := .kit "NoneType" "Row" false) rfl)
theorem kit_bool_Row (b : Bd K mg) : PySem.W.kitOne K (.type "bool") (.ref (He.ga K "Row")) = some false := by
  obtain ⟨h, X, G, c⟩ := b.ex
  exact of_decide_eq_true (c.fact 65 (f := .kit "bool" "Row" false) rfl)
theorem kit_int_Row (b : Bd K mg) : PySem.W.kitOne K (.type "int") (.ref (He.ga K "Row")) = some false := by
  obtain ⟨h, X, G, c⟩ := b.ex
  exact of_decide_eq_true (c.fact 66 (f := .kit "int" "Row" false) rfl)
theorem kit_str_Row (b : Bd K mg) : PySem.W.kitOne K (.type "str") (.ref (He.ga K "Row")) = some false := by
  obtain ⟨h, X, G, c⟩ := b.ex
  exact of_decide_eq_true (c.fact 67 (f := .kit "str" "Row" false) rfl)
theorem kit_list_Row (b : Bd K mg) : PySem.W.kitOne K (.type "list") (.ref (He.ga K "Row")) = some false := by
  obtain ⟨h, X, G, c⟩ := b.ex
  exact of_decide_eq_true (c.fact 68 (f := .kit "list" "Row" false) rfl)
theorem kit_tuple_Row (b : Bd K mg) : PySem.W.kitOne K (.type "tuple") (.ref (He.ga K "Row")) = some false := by
  obtain ⟨h, X, G, c⟩ := b.ex
  exact of_decide_eq_true (c.fact 69 (f := .kit "tuple" "Row" false) rfl)
theorem kitT_Row_NoneType (b : Bd K mg) : PySem.W.kitOne K (.ref (He.ga K "Row")) (.type "NoneType") = some false := by
  obtain ⟨h, X, G, c⟩ := b.ex
  exact of_decide_eq_true (c.fact 70 (f := .kitT "Row" "NoneType" false) rfl)
theorem kitT_Row_bool (b : Bd K mg) : PySem.W.kitOne K (.ref (He.ga K "Row")) (.type "bool") = some false := by
  obtain ⟨h, X, G, c⟩ := b.ex
  exact of_decide_eq_true (c.fact 71 (f := .kitT "Row" "bool" false) rfl)
theorem kitT_Row_int (b : Bd K mg) : PySem.W.kitOne K (.ref (He.ga K "Row")) (.type "int") = some false := by
  obtain ⟨h, X, G, c⟩ := b.ex
  exact of_decide_eq_true (c.fact 72 (f := .kitT "Row" "int" false) rfl)
theorem kitT_Row_str (b : Bd K mg) : PySem.W.kitOne K (.ref (He.ga K "Row")) (.type "str") = some false := by
  obtain ⟨h, X, G, c⟩ := b.ex
  exact of_decide_eq_true (c.fact 73 (f := .kitT "Row" "str" false) rfl)
theorem kitT_Row_list (b : Bd K mg) : PySem.W.kitOne K (.ref (He.ga K "Row")) (.type "list") = some false := by
  obtain ⟨h, X, G, c⟩ := b.ex
  exact of_decide_eq_true (c.fact 74 (f := .kitT "Row" "list" false) rfl)
theorem kitT_Row_tuple (b : Bd K mg) : PySem.W.kitOne K (.ref (He.ga K "Row")) (.type "tuple") = some false := by
  obtain ⟨h, X, G, c⟩ := b.ex
  exact of_decide_eq_true (c.fact 75 (f := .kitT "Row" "tuple" false) rfl)
theorem kitO_Row_Row (b : Bd K mg) : PySem.W.kitOne K (.ref (He.ga K "Row")) (.ref (He.ga K "Row")) = some true := by
  obtain ⟨h, X, G, c⟩ := b.ex
  exact of_decide_eq_true (c.fact 76 (f := .kitO "Row" "Row" true) rfl)
end
abbrev GoodF (P : Program) (w : World) (K : PySem.W.Frag) (mg : Str → Option Value) (base : Heap) (k : Nat) (d : Df) (ps : List Str) (sp : Sp) : Prop := ∃ fd, FnOk P w K mg base CX0 k (ad K d.loc) fd ps sp ∧ FunD K d.name d.qual d.params d.body d.scope [] [] (ad K d.loc) fd
section
variable {P : Program} {w : World} {K : PySem.W.Frag} {mg : Str → Option Value} {base : Heap}
theorem sc_Row_eq : FnScope N_Row_eq ["self", "other"] (defScope st_Row_eq) := ⟨rfl, rfl, rfl, by decide +kernel, rfl, by decide +kernel, by decide +kernel⟩
theorem ok_Row_eq (b : Bd K mg)  : GoodF P w K mg base 1 d_Row_eq ["self", "other"] (sp_Row_eq K w) := by
  obtain ⟨h, X, G, c⟩ := b.ex
  obtain ⟨fd, F⟩ := c.def_ 0 (d := d_Row_eq) rfl
  have nd : (N_Row_eq).Nodup := sc_Row_eq.nd
  refine ⟨fd, F.ok sc_Row_eq (fun vs H Q E h => h.1) (fun cdv A outer s H vs Q E hr h => ⟨t_Row_eq K w, PSs.nox ?_, h.2⟩), F⟩
  exact (pss_one (ps_ret (pe_andT (pe_callB cg_isi (by rfl) (g_isinstance b) (by decide +kernel) (pa_cons (pv 1) (pa_cons (pe_glob (by rfl) (n_Row b) rfl) pa_nil))) (pe_one (pe_cmpR (og_eq hr.units) (pe_fld (pv 0) rfl) (pe_fld (pv 1) rfl) (nomark _))))))
theorem sc_Row_len : FnScope N_Row_len ["self"] (defScope st_Row_len) := ⟨rfl, rfl, rfl, by decide +kernel, rfl, by decide +kernel, by decide +kernel⟩
theorem ok_Row_len (b : Bd K mg)  : GoodF P w K mg base 1 d_Row_len ["self"] (sp_Row_len K w) := by
  obtain ⟨h, X, G, c⟩ := b.ex
  obtain ⟨fd, F⟩ := c.def_ 1 (d := d_Row_len) rfl
  have nd : (N_Row_len).Nodup := sc_Row_len.nd
  refine ⟨fd, F.ok sc_Row_len (fun vs H Q E h => h.1) (fun cdv A outer s H vs Q E hr h => ⟨t_Row_len K w, PSs.nox ?_, h.2⟩), F⟩
  exact (pss_one (ps_ret (pe_callB cg_len (by rfl) (g_len b) boot_len (pa_cons (pe_fld (pv 0) rfl) pa_nil))))
theorem sc_word_of : FnScope N_word_of ["told"] (defScope st_word_of) := ⟨rfl, rfl, rfl, by decide +kernel, rfl, by decide +kernel, by decide +kernel⟩
theorem ok_word_of (b : Bd K mg)  : GoodF P w K mg base 1 d_word_of ["told"] (sp_word_of K w) := by
  obtain ⟨h, X, G, c⟩ := b.ex
  obtain ⟨fd, F⟩ := c.def_ 2 (d := d_word_of) rfl
  have nd : (N_word_of).Nodup := sc_word_of.nd
  refine ⟨fd, F.ok sc_word_of (fun vs H Q E h => h.1) (fun cdv A outer s H vs Q E hr h => ⟨t_word_of K w, PSs.nox ?_, h.2⟩), F⟩
  exact (pss_cons (ps_if (pt_cmpR og_gt (pe_callB (cg_minT rfl hr.units) (by rfl) (g_min b) (by decide +kernel) (pa_cons (pv 0) pa_nil)) pe_int (nomark _)) (pss_one (ps_ret (pe_glob (by rfl) (k_GAINS b).choose_spec ⟨_, rfl⟩))) pss_nil)
  (pss_cons (ps_if (pt_cmpR (og_lt hr.units0) (pe_callB (cg_maxT rfl hr.units) (by rfl) (g_max b) (by decide +kernel) (pa_cons (pv 0) pa_nil)) pe_int (nomark _)) (pss_one (ps_ret (pe_glob (by rfl) (k_LOSES b).choose_spec ⟨_, rfl⟩))) pss_nil)
  (pss_one (ps_ret (pe_ifExp (PW.pt (pw_and (pt_cmpR (og_eq hr.units) (pe_callB (cg_minT rfl hr.units) (by rfl) (g_min b) (by decide +kernel) (pa_cons (pv 0) pa_nil)) pe_int (nomark _)) (pw_and1 (pt_cmpR (og_eq hr.units) (pe_callB (cg_maxT rfl hr.units) (by rfl) (g_max b) (by decide +kernel) (pa_cons (pv 0) pa_nil)) pe_int (nomark _))))) (pe_glob (by rfl) (k_FLAT b).choose_spec ⟨_, rfl⟩) (pe_glob (by rfl) (k_MIXED b).choose_spec ⟨_, rfl⟩))))))
theorem sc_sums_in : FnScope N_sums_in ["row", "length"] (defScope st_sums_in) := ⟨rfl, rfl, rfl, by decide +kernel, rfl, by decide +kernel, by decide +kernel⟩
theorem ok_sums_in (b : Bd K mg)  : GoodF P w K mg base 1 d_sums_in ["row", "length"] (sp_sums_in K w) := by
  obtain ⟨h, X, G, c⟩ := b.ex
  obtain ⟨fd, F⟩ := c.def_ 3 (d := d_sums_in) rfl
  have nd : (N_sums_in).Nodup := sc_sums_in.nd
  refine ⟨fd, F.ok sc_sums_in (fun vs H Q E h => h.1) (fun cdv A outer s H vs Q E hr h => ⟨t_sums_in K w, PSs.nox ?_, h.2⟩), F⟩
  exact (pss_one (ps_ret (pe_callTy cg_tuple (by rfl) (g_tuple b) boot_tuple (pa_cons (pe_lc (own := [("ahead", 2), ("behind", 3)]) (g := (gTup K 2 (gCons (gName 2) (gCons (gName 3) gNil)))) (tt := tYes) (by rfl) nd (pi_zipA (by rfl) (g_zip b) (pa_cons (pe_fld (pv 0) rfl) (pa_cons (pe_slice sg_all (pe_fld (pv 0) rfl) (po_some (pv 1)) po_none) pa_nil))) (blkOk_by (N := ["row", "length", "ahead", "behind"]) (sc := defScope st_sums_in) (by decide +kernel)) (fun _ _ _ _ _ => (pg_tup rfl (pgs_cons (pg_name (i := 2) nd rfl (Or.inl rfl)) (pgs_cons (pg_name (i := 3) nd rfl (Or.inl rfl)) pgs_nil)))) (fun _ _ _ _ _ => pts_nil) (fun _ _ _ _ _ => (pe_op og_sub (pv 3) (pv 2)))) pa_nil))))
theorem sc_is_integer : FnScope N_is_integer ["value"] (defScope st_is_integer) := ⟨rfl, rfl, rfl, by decide +kernel, rfl, by decide +kernel, by decide +kernel⟩
theorem ok_is_integer (b : Bd K mg)  : GoodF P w K mg base 1 d_is_integer ["value"] (sp_is_integer K w) := by
  obtain ⟨h, X, G, c⟩ := b.ex
  obtain ⟨fd, F⟩ := c.def_ 4 (d := d_is_integer) rfl
  have nd : (N_is_integer).Nodup := sc_is_integer.nd
  refine ⟨fd, F.ok sc_is_integer (fun vs H Q E h => h.1) (fun cdv A outer s H vs Q E hr h => ⟨t_is_integer K w, PSs.nox ?_, h.2⟩), F⟩
  exact (pss_one (ps_ret (pe_andT (pe_callB cg_isi (by rfl) (g_isinstance b) (by decide +kernel) (pa_cons (pv 0) (pa_cons (pe_bltn (v := .ty "int") (by rfl) (g_int b) (by decide +kernel) rfl) pa_nil))) (pe_one (pe_notT (pe_callB cg_isi (by rfl) (g_isinstance b) (by decide +kernel) (pa_cons (pv 0) (pa_cons (pe_bltn (v := .ty "bool") (by rfl) (g_bool b) (by decide +kernel) rfl) pa_nil))))))))
theorem sc_is_within : FnScope N_is_within ["value", "least", "most"] (defScope st_is_within) := ⟨rfl, rfl, rfl, by decide +kernel, rfl, by decide +kernel, by decide +kernel⟩
theorem ok_is_within (b : Bd K mg) (h_is_integer : GoodF P w K mg base 1 d_is_integer ["value"] (sp_is_integer K w)) : GoodF P w K mg base 2 d_is_within ["value", "least", "most"] (sp_is_within K w) := by
  obtain ⟨_, G_is_integer, F_is_integer⟩ := h_is_integer
  obtain ⟨h, X, G, c⟩ := b.ex
  obtain ⟨fd, F⟩ := c.def_ 5 (d := d_is_within) rfl
  have nd : (N_is_within).Nodup := sc_is_within.nd
  refine ⟨fd, F.ok sc_is_within (fun vs H Q E h => h.1) (fun cdv A outer s H vs Q E hr h => ⟨t_is_within K w, PSs.nox ?_, h.2⟩), F⟩
  exact (pss_cons (ps_if (pt_not (pt_truth (pe_fn G_is_integer (hr.mono (by decide)) (by rfl) (n_is_integer b) F_is_integer.kp (bindsP F_is_integer fun _ _ _ _ _ _ us hl => match us, hl with | [_], _ => rfl) pass0 (pc_p (pa_cons (pv 0) pa_nil))) (by intro _; rfl))) (pss_one (ps_ret pe_bl)) pss_nil)
  (pss_one (ps_ret (pe_andT (pe_orT (pe_cmpR og_is (pv 1) pe_non (nomark _)) (pe_one (pe_cmpR og_le (pv 1) (pv 0) (nomark _)))) (pe_one (pe_orT (pe_cmpR og_is (pv 2) pe_non (nomark _)) (pe_one (pe_cmpR og_le (pv 0) (pv 2) (nomark _)))))))))
theorem sc_need_number : FnScope N_need_number ["value", "part", "least", "most"] (defScope st_need_number) := ⟨rfl, rfl, rfl, by decide +kernel, rfl, by decide +kernel, by decide +kernel⟩
theorem ok_need_number (b : Bd K mg) (h_is_within : GoodF P w K mg base 2 d_is_within ["value", "least", "most"] (sp_is_within K w)) : GoodF P w K mg base 3 d_need_number ["value", "part", "least", "most"] (sp_need_number K w) := by
  obtain ⟨_, G_is_within, F_is_within⟩ := h_is_within
  obtain ⟨h, X, G, c⟩ := b.ex
  obtain ⟨fd, F⟩ := c.def_ 6 (d := d_need_number) rfl
  have nd : (N_need_number).Nodup := sc_need_number.nd
  refine ⟨fd, F.ok sc_need_number (fun vs H Q E h => h.1) (fun cdv A outer s H vs Q E hr h => ⟨t_need_number K w, PSs.nox ?_, h.2⟩), F⟩
  exact (pss_one (ps_if (pt_not (pt_truth (pe_fn G_is_within (hr.mono (by decide)) (by rfl) (n_is_within b) F_is_within.kp (bindsP F_is_within fun _ _ _ _ _ _ us hl => match us, hl with | [_, _, _], _ => rfl) pass0 (pc_p (pa_cons (pv 0) (pa_cons (pv 2) (pa_cons (pv 3) pa_nil))))) (by intro _; rfl))) (pss_one ps_never) pss_nil))
theorem sc_need_row : FnScope N_need_row ["value", "part"] (defScope st_need_row) := ⟨rfl, rfl, rfl, by decide +kernel, rfl, by decide +kernel, by decide +kernel⟩
theorem ok_need_row (b : Bd K mg)  : GoodF P w K mg base 1 d_need_row ["value", "part"] (sp_need_row K w) := by
  obtain ⟨h, X, G, c⟩ := b.ex
  obtain ⟨fd, F⟩ := c.def_ 7 (d := d_need_row) rfl
  have nd : (N_need_row).Nodup := sc_need_row.nd
  refine ⟨fd, F.ok sc_need_row (fun vs H Q E h => h.1) (fun cdv A outer s H vs Q E hr h => ⟨t_need_row K w, PSs.nox ?_, h.2⟩), F⟩
  exact (pss_one (ps_if (pt_not (pt_truth (pe_callB cg_isi (by rfl) (g_isinstance b) (by decide +kernel) (pa_cons (pv 0) (pa_cons (pe_glob (by rfl) (n_Row b) rfl) pa_nil))) (by intro _; rfl))) (pss_one ps_never) pss_nil))
theorem sc_need_length : FnScope N_need_length ["row", "length"] (defScope st_need_length) := ⟨rfl, rfl, rfl, by decide +kernel, rfl, by decide +kernel, by decide +kernel⟩
theorem ok_need_length (b : Bd K mg) (h_need_number : GoodF P w K mg base 3 d_need_number ["value", "part", "least", "most"] (sp_need_number K w)) (h_need_row : GoodF P w K mg base 1 d_need_row ["value", "part"] (sp_need_row K w)) : GoodF P w K mg base 4 d_need_length ["row", "length"] (sp_need_length K w) := by
  obtain ⟨_, G_need_number, F_need_number⟩ := h_need_number
  obtain ⟨_, G_need_row, F_need_row⟩ := h_need_row
  obtain ⟨h, X, G, c⟩ := b.ex
  obtain ⟨fd, F⟩ := c.def_ 8 (d := d_need_length) rfl
  have nd : (N_need_length).Nodup := sc_need_length.nd
  refine ⟨fd, F.ok sc_need_length (fun vs H Q E h => h.1) (fun cdv A outer s H vs Q E hr h => ⟨t_need_length K w, PSs.nox ?_, h.2⟩), F⟩
  exact (pss_cons (ps_expr (pe_fn G_need_row (hr.mono (by decide)) (by rfl) (n_need_row b) F_need_row.kp (bindsP F_need_row fun _ _ _ _ _ _ us hl => match us, hl with | [_, _], _ => rfl) pass0 (pc_p (pa_cons (pv 0) (pa_cons pe_str pa_nil)))))
  (pss_one (ps_expr (pe_fn G_need_number (hr.mono (by decide)) (by rfl) (n_need_number b) F_need_number.kp (bindsP F_need_number fun _ _ _ _ _ _ us hl => match us, hl with | [_, _, _, _], _ => rfl) pass0 (pc_p (pa_cons (pv 1) (pa_cons pe_str (pa_cons pe_int (pa_cons (pe_fld (pv 0) rfl) pa_nil)))))))))
theorem sc_sort_of : FnScope N_sort_of ["row", "length"] (defScope st_sort_of) := ⟨rfl, rfl, rfl, by decide +kernel, rfl, by decide +kernel, by decide +kernel⟩
theorem ok_sort_of (b : Bd K mg) (h_word_of : GoodF P w K mg base 1 d_word_of ["told"] (sp_word_of K w)) (h_sums_in : GoodF P w K mg base 1 d_sums_in ["row", "length"] (sp_sums_in K w)) (h_need_length : GoodF P w K mg base 4 d_need_length ["row", "length"] (sp_need_length K w)) : GoodF P w K mg base 5 d_sort_of ["row", "length"] (sp_sort_of K w) := by
  obtain ⟨_, G_word_of, F_word_of⟩ := h_word_of
  obtain ⟨_, G_sums_in, F_sums_in⟩ := h_sums_in
  obtain ⟨_, G_need_length, F_need_length⟩ := h_need_length
  obtain ⟨h, X, G, c⟩ := b.ex
  obtain ⟨fd, F⟩ := c.def_ 9 (d := d_sort_of) rfl
  have nd : (N_sort_of).Nodup := sc_sort_of.nd
  refine ⟨fd, F.ok sc_sort_of (fun vs H Q E h => h.1) (fun cdv A outer s H vs Q E hr h => ⟨t_sort_of K w, PSs.nox ?_, h.2⟩), F⟩
  exact (pss_cons (ps_expr (pe_fn G_need_length (hr.mono (by decide)) (by rfl) (n_need_length b) F_need_length.kp (bindsP F_need_length fun _ _ _ _ _ _ us hl => match us, hl with | [_, _], _ => rfl) pass0 (pc_p (pa_cons (pv 0) (pa_cons (pv 1) pa_nil)))))
  (pss_one (ps_ret (pe_fn G_word_of (hr.mono (by decide)) (by rfl) (n_word_of b) F_word_of.kp (bindsP F_word_of fun _ _ _ _ _ _ us hl => match us, hl with | [_], _ => rfl) pass0 (pc_p (pa_cons (pe_fn G_sums_in (hr.mono (by decide)) (by rfl) (n_sums_in b) F_sums_in.kp (bindsP F_sums_in fun _ _ _ _ _ _ us hl => match us, hl with | [_, _], _ => rfl) pass0 (pc_p (pa_cons (pv 0) (pa_cons (pv 1) pa_nil)))) pa_nil))))))
theorem sc_sums : FnScope N_sums ["row", "length"] (defScope st_sums) := ⟨rfl, rfl, rfl, by decide +kernel, rfl, by decide +kernel, by decide +kernel⟩
theorem ok_sums (b : Bd K mg) (h_sums_in : GoodF P w K mg base 1 d_sums_in ["row", "length"] (sp_sums_in K w)) (h_need_length : GoodF P w K mg base 4 d_need_length ["row", "length"] (sp_need_length K w)) : GoodF P w K mg base 5 d_sums ["row", "length"] (sp_sums K w) := by
  obtain ⟨_, G_sums_in, F_sums_in⟩ := h_sums_in
  obtain ⟨_, G_need_length, F_need_length⟩ := h_need_length
  obtain ⟨h, X, G, c⟩ := b.ex
  obtain ⟨fd, F⟩ := c.def_ 10 (d := d_sums) rfl
  have nd : (N_sums).Nodup := sc_sums.nd
  refine ⟨fd, F.ok sc_sums (fun vs H Q E h => h.1) (fun cdv A outer s H vs Q E hr h => ⟨t_sums K w, PSs.nox ?_, h.2⟩), F⟩
  exact (pss_cons (ps_expr (pe_fn G_need_length (hr.mono (by decide)) (by rfl) (n_need_length b) F_need_length.kp (bindsP F_need_length fun _ _ _ _ _ _ us hl => match us, hl with | [_, _], _ => rfl) pass0 (pc_p (pa_cons (pv 0) (pa_cons (pv 1) pa_nil)))))
  (pss_one (ps_ret (pe_fn G_sums_in (hr.mono (by decide)) (by rfl) (n_sums_in b) F_sums_in.kp (bindsP F_sums_in fun _ _ _ _ _ _ us hl => match us, hl with | [_, _], _ => rfl) pass0 (pc_p (pa_cons (pv 0) (pa_cons (pv 1) pa_nil)))))))
theorem sc_law_sums : FnScope N_law_sums ["_law_gains_here", "_law_length"] (defScope st_law_sums) := ⟨rfl, rfl, rfl, by decide +kernel, rfl, by decide +kernel, by decide +kernel⟩
theorem ok_law_sums (b : Bd K mg) (h_Row_len : GoodF P w K mg base 1 d_Row_len ["self"] (sp_Row_len K w)) : GoodF P w K mg base 3 d_law_sums ["_law_gains_here", "_law_length"] (sp_law_sums K w) := by
  obtain ⟨_, G_Row_len, F_Row_len⟩ := h_Row_len
  obtain ⟨h, X, G, c⟩ := b.ex
  obtain ⟨fd, F⟩ := c.def_ 11 (d := d_law_sums) rfl
  have nd : (N_law_sums).Nodup := sc_law_sums.nd
  refine ⟨fd, F.ok sc_law_sums (fun vs H Q E h => h.1) (fun cdv A outer s H vs Q E hr h => ⟨t_law_sums K w, PSs.nox ?_, h.2⟩), F⟩
  exact (pss_one (ps_ret (pe_lc (own := [("_law_begin", 2)]) (g := (gName 2)) (tt := tYes) (by rfl) nd (pi_range1 (by rfl) (g_range b) (pa_cons (pe_op og_add (pe_op og_sub (pe_callB (Rl.CallR.or cg_len (call_lenO (spm_Row_len b) G_Row_len (hr.mono (by decide)) (F_Row_len.bindsN fun _ _ _ _ _ _ us hl => match us, hl with | [_], _ => rfl) pass0)) (by rfl) (g_len b) boot_len (pa_cons (pv 0) pa_nil)) (pv 1)) pe_int) pa_nil)) (blkOk_by (N := ["_law_gains_here", "_law_length", "_law_begin"]) (sc := defScope st_law_sums) (by decide +kernel)) (fun _ _ _ _ _ => (pg_name (i := 2) nd rfl (Or.inl rfl))) (fun _ _ _ _ _ => pts_nil) (fun _ _ _ _ _ => (pe_callB (cg_sum rfl) (by rfl) (g_sum b) (by decide +kernel) (pa_cons (pe_slice sg_all (pv 0) (po_some (pv 2)) (po_some (pe_op og_add (pv 2) (pv 1)))) pa_nil))))))
theorem sc_heights_of : FnScope N_heights_of ["gains"] (defScope st_heights_of) := ⟨rfl, rfl, rfl, by decide +kernel, rfl, by decide +kernel, by decide +kernel⟩
theorem ok_heights_of (b : Bd K mg)  : GoodF P w K mg base 1 d_heights_of ["gains"] (sp_heights_of K w) := by
  obtain ⟨h, X, G, c⟩ := b.ex
  obtain ⟨fd, F⟩ := c.def_ 12 (d := d_heights_of) rfl
  have nd : (N_heights_of).Nodup := sc_heights_of.nd
  refine ⟨fd, F.ok sc_heights_of (fun vs H Q E h => h.1) (fun cdv A outer s H vs Q E hr h => ⟨t_heights_of K w, PSs.nox ?_, h.2⟩), F⟩
  exact (pss_cons (ps_set (i := 1) nd rfl (Or.inl rfl) (pe_lst (pa_cons pe_int pa_nil)))
  (pss_cons (ps_for PassesOwn.never rfl (pi_seq (pv 0)) (pg_name (i := 2) nd rfl (Or.inl rfl)) (pss_one (ps_expr (pe_bm PySem.F.plainAttrs_list PySem.F.slot_list_append PySem.F.type_list_append mt_append (pv 1) (pa_cons (pe_op og_add (pe_ix ix_seq (pv 1) (pe_un un_neg pe_int) (fun _ _ => rfl)) (pv 2)) pa_nil)))))
  (pss_one (ps_ret (pe_callTy cg_tuple (by rfl) (g_tuple b) boot_tuple (pa_cons (pv 1) pa_nil))))))
theorem sc_are_integers : FnScope N_are_integers ["value"] (defScope st_are_integers) := ⟨rfl, rfl, rfl, by decide +kernel, rfl, by decide +kernel, by decide +kernel⟩
theorem ok_are_integers (b : Bd K mg) (h_is_integer : GoodF P w K mg base 1 d_is_integer ["value"] (sp_is_integer K w)) : GoodF P w K mg base 2 d_are_integers ["value"] (sp_are_integers K w) := by
  obtain ⟨_, G_is_integer, F_is_integer⟩ := h_is_integer
  obtain ⟨h, X, G, c⟩ := b.ex
  obtain ⟨fd, F⟩ := c.def_ 13 (d := d_are_integers) rfl
  have nd : (N_are_integers).Nodup := sc_are_integers.nd
  refine ⟨fd, F.ok sc_are_integers (fun vs H Q E h => h.1) (fun cdv A outer s H vs Q E hr h => ⟨t_are_integers K w, PSs.nox ?_, h.2⟩), F⟩
  exact (pss_one (ps_ret (pe_andT (pe_callB cg_isi (by rfl) (g_isinstance b) (by decide +kernel) (pa_cons (pv 0) (pa_cons (pe_tup (pa_cons (pe_bltn (v := .ty "list") (by rfl) (g_list b) (by decide +kernel) rfl) (pa_cons (pe_bltn (v := .ty "tuple") (by rfl) (g_tuple b) (by decide +kernel) rfl) pa_nil))) pa_nil))) (pe_one (pe_callB (cg_all rfl) (by rfl) (g_all b) (by decide +kernel) (pa_cons (pe_lc (own := [("each", 1)]) (g := (gName 1)) (tt := tYes) (by rfl) nd (pi_seq (pv 0)) (blkOk_by (N := ["value", "each"]) (sc := defScope st_are_integers) (by decide +kernel)) (fun _ _ _ _ _ => (pg_name (i := 1) nd rfl (Or.inl rfl))) (fun _ _ _ _ _ => pts_nil) (fun _ _ _ _ _ => (pe_fn G_is_integer (hr.mono (by decide)) (by rfl) (n_is_integer b) F_is_integer.kp (bindsP F_is_integer fun _ _ _ _ _ _ us hl => match us, hl with | [_], _ => rfl) pass0 (pc_p (pa_cons (pv 1) pa_nil))))) pa_nil))))))
theorem sc_Row_init : FnScope N_Row_init ["self", "gains"] (defScope st_Row_init) := ⟨rfl, rfl, rfl, by decide +kernel, rfl, by decide +kernel, by decide +kernel⟩
theorem ok_Row_init (b : Bd K mg) (h_heights_of : GoodF P w K mg base 1 d_heights_of ["gains"] (sp_heights_of K w)) (h_are_integers : GoodF P w K mg base 2 d_are_integers ["value"] (sp_are_integers K w)) : GoodF P w K mg base 3 d_Row_init ["self", "gains"] (sp_Row_init K w) := by
  obtain ⟨_, G_heights_of, F_heights_of⟩ := h_heights_of
  obtain ⟨_, G_are_integers, F_are_integers⟩ := h_are_integers
  obtain ⟨h, X, G, c⟩ := b.ex
  obtain ⟨fd, F⟩ := c.def_ 14 (d := d_Row_init) rfl
  have nd : (N_Row_init).Nodup := sc_Row_init.nd
  refine ⟨fd, F.ok sc_Row_init (fun vs H Q E h => h.1) (fun cdv A outer s H vs Q E hr h => ⟨t_Row_init K w, PSs.nox ?_, h.2⟩), F⟩
  exact (pss_cons (ps_if (PW.pt (pw_or (pt_not (pt_truth (pe_fn G_are_integers (hr.mono (by decide)) (by rfl) (n_are_integers b) F_are_integers.kp (bindsP F_are_integers fun _ _ _ _ _ _ us hl => match us, hl with | [_], _ => rfl) pass0 (pc_p (pa_cons (pv 1) pa_nil))) (by intro _; rfl))) (pw_or1 (pt_cmpR (og_eq hr.units) (pe_callB cg_len (by rfl) (g_len b) boot_len (pa_cons (pv 1) pa_nil)) pe_int (nomark _))))) (pss_one ps_never) pss_nil)
  (pss_cons (ps_if (pt_cmpR og_gt (pe_callB cg_len (by rfl) (g_len b) boot_len (pa_cons (pv 1) pa_nil)) (pe_glob (by rfl) (k_MOST_DAYS b).choose_spec ⟨_, rfl⟩) (nomark _)) (pss_one ps_never) pss_nil)
  (pss_cons (ps_fld (pv 0) (pe_callTy cg_tuple (by rfl) (g_tuple b) boot_tuple (pa_cons (pv 1) pa_nil)) rfl)
  (pss_cons (ps_fld (pv 0) (pe_fn G_heights_of (hr.mono (by decide)) (by rfl) (n_heights_of b) F_heights_of.kp (bindsP F_heights_of fun _ _ _ _ _ _ us hl => match us, hl with | [_], _ => rfl) pass0 (pc_p (pa_cons (pv 1) pa_nil))) rfl)
  (pss_cons (ps_fld (pv 0) (pe_callB cg_len (by rfl) (g_len b) boot_len (pa_cons (pv 1) pa_nil)) rfl)
  (pss_one (ps_fld (pv 0) (pe_ix ix_seq (pe_fld (pv 0) rfl) (pe_un un_neg pe_int) (fun _ _ => rfl)) rfl)))))))
theorem sc_Row_times : FnScope N_Row_times ["self", "number"] (defScope st_Row_times) := ⟨rfl, rfl, rfl, by decide +kernel, rfl, by decide +kernel, by decide +kernel⟩
theorem ok_Row_times (b : Bd K mg) (h_Row_init : GoodF P w K mg base 3 d_Row_init ["self", "gains"] (sp_Row_init K w)) (h_need_number : GoodF P w K mg base 3 d_need_number ["value", "part", "least", "most"] (sp_need_number K w)) : GoodF P w K mg base 5 d_Row_times ["self", "number"] (sp_Row_times K w) := by
  obtain ⟨_, G_Row_init, F_Row_init⟩ := h_Row_init
  obtain ⟨_, G_need_number, F_need_number⟩ := h_need_number
  obtain ⟨h, X, G, c⟩ := b.ex
  obtain ⟨fd, F⟩ := c.def_ 15 (d := d_Row_times) rfl
  have nd : (N_Row_times).Nodup := sc_Row_times.nd
  refine ⟨fd, F.ok sc_Row_times (fun vs H Q E h => h.1) (fun cdv A outer s H vs Q E hr h => ⟨t_Row_times K w, PSs.nox ?_, h.2⟩), F⟩
  exact (pss_cons (ps_expr (pe_fn G_need_number (hr.mono (by decide)) (by rfl) (n_need_number b) F_need_number.kp (bindsP F_need_number fun _ _ _ _ _ _ us hl => match us, hl with | [_, _, _, _], _ => rfl) pass0 (pc_p (pa_cons (pv 1) (pa_cons pe_str (pa_cons pe_non (pa_cons pe_non pa_nil)))))))
  (pss_one (ps_ret (pe_new (mk_Row b) G_Row_init (hr.mono (by decide)) (by rfl) (n_Row b) (bindsP F_Row_init fun _ _ _ _ _ _ us hl => match us, hl with | [_, _], _ => rfl) pass0 (pc_p (pa_cons (pe_lc (own := [("gain", 2)]) (g := (gName 2)) (tt := tYes) (by rfl) nd (pi_seq (pe_fld (pv 0) rfl)) (blkOk_by (N := ["self", "number", "gain"]) (sc := defScope st_Row_times) (by decide +kernel)) (fun _ _ _ _ _ => (pg_name (i := 2) nd rfl (Or.inl rfl))) (fun _ _ _ _ _ => pts_nil) (fun _ _ _ _ _ => (pe_op og_mulT (pv 1) (pv 2)))) pa_nil))))))
theorem sc_Row_plus : FnScope N_Row_plus ["self", "number"] (defScope st_Row_plus) := ⟨rfl, rfl, rfl, by decide +kernel, rfl, by decide +kernel, by decide +kernel⟩
theorem ok_Row_plus (b : Bd K mg) (h_Row_init : GoodF P w K mg base 3 d_Row_init ["self", "gains"] (sp_Row_init K w)) (h_need_number : GoodF P w K mg base 3 d_need_number ["value", "part", "least", "most"] (sp_need_number K w)) : GoodF P w K mg base 5 d_Row_plus ["self", "number"] (sp_Row_plus K w) := by
  obtain ⟨_, G_Row_init, F_Row_init⟩ := h_Row_init
  obtain ⟨_, G_need_number, F_need_number⟩ := h_need_number
  obtain ⟨h, X, G, c⟩ := b.ex
  obtain ⟨fd, F⟩ := c.def_ 16 (d := d_Row_plus) rfl
  have nd : (N_Row_plus).Nodup := sc_Row_plus.nd
  refine ⟨fd, F.ok sc_Row_plus (fun vs H Q E h => h.1) (fun cdv A outer s H vs Q E hr h => ⟨t_Row_plus K w, PSs.nox ?_, h.2⟩), F⟩
  exact (pss_cons (ps_expr (pe_fn G_need_number (hr.mono (by decide)) (by rfl) (n_need_number b) F_need_number.kp (bindsP F_need_number fun _ _ _ _ _ _ us hl => match us, hl with | [_, _, _, _], _ => rfl) pass0 (pc_p (pa_cons (pv 1) (pa_cons pe_str (pa_cons pe_non (pa_cons pe_non pa_nil)))))))
  (pss_one (ps_ret (pe_new (mk_Row b) G_Row_init (hr.mono (by decide)) (by rfl) (n_Row b) (bindsP F_Row_init fun _ _ _ _ _ _ us hl => match us, hl with | [_, _], _ => rfl) pass0 (pc_p (pa_cons (pe_lc (own := [("gain", 2)]) (g := (gName 2)) (tt := tYes) (by rfl) nd (pi_seq (pe_fld (pv 0) rfl)) (blkOk_by (N := ["self", "number", "gain"]) (sc := defScope st_Row_plus) (by decide +kernel)) (fun _ _ _ _ _ => (pg_name (i := 2) nd rfl (Or.inl rfl))) (fun _ _ _ _ _ => pts_nil) (fun _ _ _ _ _ => (pe_op og_add (pv 2) (pv 1)))) pa_nil))))))
theorem sc_levelled : FnScope N_levelled ["row"] (defScope st_levelled) := ⟨rfl, rfl, rfl, by decide +kernel, rfl, by decide +kernel, by decide +kernel⟩
theorem ok_levelled (b : Bd K mg) (h_Row_times : GoodF P w K mg base 5 d_Row_times ["self", "number"] (sp_Row_times K w)) (h_Row_plus : GoodF P w K mg base 5 d_Row_plus ["self", "number"] (sp_Row_plus K w)) (h_need_row : GoodF P w K mg base 1 d_need_row ["value", "part"] (sp_need_row K w)) : GoodF P w K mg base 6 d_levelled ["row"] (sp_levelled K w) := by
  obtain ⟨_, G_Row_times, F_Row_times⟩ := h_Row_times
  obtain ⟨_, G_Row_plus, F_Row_plus⟩ := h_Row_plus
  obtain ⟨_, G_need_row, F_need_row⟩ := h_need_row
  obtain ⟨h, X, G, c⟩ := b.ex
  obtain ⟨fd, F⟩ := c.def_ 17 (d := d_levelled) rfl
  have nd : (N_levelled).Nodup := sc_levelled.nd
  refine ⟨fd, F.ok sc_levelled (fun vs H Q E h => h.1) (fun cdv A outer s H vs Q E hr h => ⟨t_levelled K w, PSs.nox ?_, h.2⟩), F⟩
  exact (pss_cons (ps_expr (pe_fn G_need_row (hr.mono (by decide)) (by rfl) (n_need_row b) F_need_row.kp (bindsP F_need_row fun _ _ _ _ _ _ us hl => match us, hl with | [_, _], _ => rfl) pass0 (pc_p (pa_cons (pv 0) (pa_cons pe_str pa_nil)))))
  (pss_one (ps_ret (pe_mt (pe_mt (pv 0) (cl_Row b) (me_Row_times b) G_Row_times (hr.mono (by decide)) (bindsP F_Row_times fun _ _ _ _ _ _ us hl => match us, hl with | [_, _], _ => rfl) pass0 (pc_p (pa_cons (pe_fld (pv 0) rfl) pa_nil))) (cl_Row b) (me_Row_plus b) G_Row_plus (hr.mono (by decide)) (bindsP F_Row_plus fun _ _ _ _ _ _ us hl => match us, hl with | [_, _], _ => rfl) pass0 (pc_p (pa_cons (pe_un un_neg (pe_fld (pv 0) rfl)) pa_nil))))))
theorem sc_law_lengths_right : FnScope N_law_lengths_right ["_law_row", "_law_gains_here"] (defScope st_law_lengths_right) := ⟨rfl, rfl, rfl, by decide +kernel, rfl, by decide +kernel, by decide +kernel⟩
theorem ok_law_lengths_right (b : Bd K mg) (h_Row_eq : GoodF P w K mg base 1 d_Row_eq ["self", "other"] (sp_Row_eq K w)) (h_Row_len : GoodF P w K mg base 1 d_Row_len ["self"] (sp_Row_len K w)) (h_sort_of : GoodF P w K mg base 5 d_sort_of ["row", "length"] (sp_sort_of K w)) (h_sums : GoodF P w K mg base 5 d_sums ["row", "length"] (sp_sums K w)) (h_law_sums : GoodF P w K mg base 3 d_law_sums ["_law_gains_here", "_law_length"] (sp_law_sums K w)) (h_levelled : GoodF P w K mg base 6 d_levelled ["row"] (sp_levelled K w)) : GoodF P w K mg base 7 d_law_lengths_right ["_law_row", "_law_gains_here"] (sp_law_lengths_right K w) := by
  obtain ⟨_, G_Row_eq, F_Row_eq⟩ := h_Row_eq
  obtain ⟨_, G_Row_len, F_Row_len⟩ := h_Row_len
  obtain ⟨_, G_sort_of, F_sort_of⟩ := h_sort_of
  obtain ⟨_, G_sums, F_sums⟩ := h_sums
  obtain ⟨_, G_law_sums, F_law_sums⟩ := h_law_sums
  obtain ⟨_, G_levelled, F_levelled⟩ := h_levelled
  obtain ⟨h, X, G, c⟩ := b.ex
  obtain ⟨fd, F⟩ := c.def_ 18 (d := d_law_lengths_right) rfl
  have nd : (N_law_lengths_right).Nodup := sc_law_lengths_right.nd
  refine ⟨fd, F.ok sc_law_lengths_right (fun vs H Q E h => h.1) (fun cdv A outer s H vs Q E hr h => ⟨t_law_lengths_right K w, PSs.nox ?_, h.2⟩), F⟩
  exact (pss_cons (ps_asg (pe_tup (pa_cons (pe_callB (Rl.CallR.or cg_len (call_lenO (spm_Row_len b) G_Row_len (hr.mono (by decide)) (F_Row_len.bindsN fun _ _ _ _ _ _ us hl => match us, hl with | [_], _ => rfl) pass0)) (by rfl) (g_len b) boot_len (pa_cons (pv 1) pa_nil)) (pa_cons (pe_callB (cg_sum rfl) (by rfl) (g_sum b) (by decide +kernel) (pa_cons (pv 1) pa_nil)) (pa_cons (pe_fn G_levelled (hr.mono (by decide)) (by rfl) (n_levelled b) F_levelled.kp (bindsP F_levelled fun _ _ _ _ _ _ us hl => match us, hl with | [_], _ => rfl) pass0 (pc_p (pa_cons (pv 0) pa_nil))) pa_nil)))) (pg_tup rfl (pgs_cons (pg_name (i := 2) nd rfl (Or.inr rfl)) (pgs_cons (pg_name (i := 3) nd rfl (Or.inr rfl)) (pgs_cons (pg_name (i := 4) nd rfl (Or.inl rfl)) pgs_nil)))))
  (pss_cons (ps_for PassesOwn.never rfl (pi_range2 (by rfl) (g_range b) (pa_cons pe_int (pa_cons (pe_op og_add (pv 2) pe_int) pa_nil))) (pg_name (i := 5) nd rfl (Or.inr rfl)) (pss_cons (ps_set (i := 6) nd rfl (Or.inl rfl) (pe_fn G_law_sums (hr.mono (by decide)) (by rfl) (n_law_sums b) F_law_sums.kp (bindsP F_law_sums fun _ _ _ _ _ _ us hl => match us, hl with | [_, _], _ => rfl) pass0 (pc_p (pa_cons (pv 1) (pa_cons (pv 5) pa_nil)))))
  (pss_cons (ps_if (pt_cmpR (OpR.or (og_ne hr.units) (op_neO (spm_Row_eq b) (nem_Row b) G_Row_eq (hr.mono (by decide)) (F_Row_eq.bindsN fun _ _ _ _ _ _ us hl => match us, hl with | [_, _], _ => rfl) pass0)) (pe_fn G_sums (hr.mono (by decide)) (by rfl) (n_sums b) F_sums.kp (bindsP F_sums fun _ _ _ _ _ _ us hl => match us, hl with | [_, _], _ => rfl) pass0 (pc_p (pa_cons (pv 4) (pa_cons (pv 5) pa_nil)))) (pe_callTy cg_tuple (by rfl) (g_tuple b) boot_tuple (pa_cons (pe_lc (own := [("_law_one", 10)]) (g := (gName 10)) (tt := tYes) (by rfl) nd (pi_seq (pv 6)) (blkOk_by (N := ["_law_row", "_law_gains_here", "_law_days", "_law_total", "_law_told", "_law_length", "_law_mine", "_law_over", "_law_under", "_law_word", "_law_one"]) (sc := defScope st_law_lengths_right) (by decide +kernel)) (fun _ _ _ _ _ => (pg_name (i := 10) nd rfl (Or.inl rfl))) (fun _ _ _ _ _ => pts_nil) (fun _ _ _ _ _ => (pe_op og_sub (pe_op og_mulT (pv 2) (pv 10)) (pe_op og_mulT (pv 5) (pv 3))))) pa_nil)) (nomark _)) (pss_one (ps_ret pe_bl)) pss_nil)
  (pss_cons (ps_par (i := 7) (j := 8) (by rfl) nd rfl rfl (by decide) rfl rfl (pa_cons (pe_lc (own := [("_law_one", 10)]) (g := (gName 10)) (tt := (tTest (tOp qGt (tOp (qMulT K) (tVar 2) (tVar 10)) (tOp (qMulT K) (tVar 5) (tVar 3))))) (by rfl) nd (pi_seq (pv 6)) (blkOk_by (N := ["_law_row", "_law_gains_here", "_law_days", "_law_total", "_law_told", "_law_length", "_law_mine", "_law_over", "_law_under", "_law_word", "_law_one"]) (sc := defScope st_law_lengths_right) (by decide +kernel)) (fun _ _ _ _ _ => (pg_name (i := 10) nd rfl (Or.inl rfl))) (fun _ _ _ _ _ => (pts_one (pt_cmpR og_gt (pe_op og_mulT (pv 2) (pv 10)) (pe_op og_mulT (pv 5) (pv 3)) (nomark _)))) (fun _ _ _ _ _ => (pv 10))) (pa_cons (pe_lc (own := [("_law_one", 10)]) (g := (gName 10)) (tt := (tTest (tOp (qLt K) (tOp (qMulT K) (tVar 2) (tVar 10)) (tOp (qMulT K) (tVar 5) (tVar 3))))) (by rfl) nd (pi_seq (pv 6)) (blkOk_by (N := ["_law_row", "_law_gains_here", "_law_days", "_law_total", "_law_told", "_law_length", "_law_mine", "_law_over", "_law_under", "_law_word", "_law_one"]) (sc := defScope st_law_lengths_right) (by decide +kernel)) (fun _ _ _ _ _ => (pg_name (i := 10) nd rfl (Or.inl rfl))) (fun _ _ _ _ _ => (pts_one (pt_cmpR (og_lt hr.units0) (pe_op og_mulT (pv 2) (pv 10)) (pe_op og_mulT (pv 5) (pv 3)) (nomark _)))) (fun _ _ _ _ _ => (pv 10))) pa_nil)) (by rfl))
  (pss_cons (ps_set (i := 9) nd rfl (Or.inl rfl) (pe_fn G_sort_of (hr.mono (by decide)) (by rfl) (n_sort_of b) F_sort_of.kp (bindsP F_sort_of fun _ _ _ _ _ _ us hl => match us, hl with | [_, _], _ => rfl) pass0 (pc_p (pa_cons (pv 4) (pa_cons (pv 5) pa_nil)))))
  (pss_cons (ps_if (PW.pt (pw_or (pt_cmpR (OpR.or (og_ne hr.units) (op_neO (spm_Row_eq b) (nem_Row b) G_Row_eq (hr.mono (by decide)) (F_Row_eq.bindsN fun _ _ _ _ _ _ us hl => match us, hl with | [_, _], _ => rfl) pass0)) (pe_cmpR (OpR.or (og_eq hr.units) (op_eqO (spm_Row_eq b) G_Row_eq (hr.mono (by decide)) (F_Row_eq.bindsN fun _ _ _ _ _ _ us hl => match us, hl with | [_, _], _ => rfl) pass0)) (pv 9) pe_str (nomark _)) (pe_cmpR (OpR.or (og_eq hr.units) (op_eqO (spm_Row_eq b) G_Row_eq (hr.mono (by decide)) (F_Row_eq.bindsN fun _ _ _ _ _ _ us hl => match us, hl with | [_, _], _ => rfl) pass0)) (pe_callB (Rl.CallR.or cg_len (call_lenO (spm_Row_len b) G_Row_len (hr.mono (by decide)) (F_Row_len.bindsN fun _ _ _ _ _ _ us hl => match us, hl with | [_], _ => rfl) pass0)) (by rfl) (g_len b) boot_len (pa_cons (pv 7) pa_nil)) (pe_callB (Rl.CallR.or cg_len (call_lenO (spm_Row_len b) G_Row_len (hr.mono (by decide)) (F_Row_len.bindsN fun _ _ _ _ _ _ us hl => match us, hl with | [_], _ => rfl) pass0)) (by rfl) (g_len b) boot_len (pa_cons (pv 6) pa_nil)) (nomark _)) (nomark _)) (pw_or (pt_cmpR (OpR.or (og_ne hr.units) (op_neO (spm_Row_eq b) (nem_Row b) G_Row_eq (hr.mono (by decide)) (F_Row_eq.bindsN fun _ _ _ _ _ _ us hl => match us, hl with | [_, _], _ => rfl) pass0)) (pe_cmpR (OpR.or (og_eq hr.units) (op_eqO (spm_Row_eq b) G_Row_eq (hr.mono (by decide)) (F_Row_eq.bindsN fun _ _ _ _ _ _ us hl => match us, hl with | [_, _], _ => rfl) pass0)) (pv 9) pe_str (nomark _)) (pe_cmpR (OpR.or (og_eq hr.units) (op_eqO (spm_Row_eq b) G_Row_eq (hr.mono (by decide)) (F_Row_eq.bindsN fun _ _ _ _ _ _ us hl => match us, hl with | [_, _], _ => rfl) pass0)) (pe_callB (Rl.CallR.or cg_len (call_lenO (spm_Row_len b) G_Row_len (hr.mono (by decide)) (F_Row_len.bindsN fun _ _ _ _ _ _ us hl => match us, hl with | [_], _ => rfl) pass0)) (by rfl) (g_len b) boot_len (pa_cons (pv 8) pa_nil)) (pe_callB (Rl.CallR.or cg_len (call_lenO (spm_Row_len b) G_Row_len (hr.mono (by decide)) (F_Row_len.bindsN fun _ _ _ _ _ _ us hl => match us, hl with | [_], _ => rfl) pass0)) (by rfl) (g_len b) boot_len (pa_cons (pv 6) pa_nil)) (nomark _)) (nomark _)) (pw_or1 (pt_cmpR (OpR.or (og_ne hr.units) (op_neO (spm_Row_eq b) (nem_Row b) G_Row_eq (hr.mono (by decide)) (F_Row_eq.bindsN fun _ _ _ _ _ _ us hl => match us, hl with | [_, _], _ => rfl) pass0)) (pe_cmpR (OpR.or (og_eq hr.units) (op_eqO (spm_Row_eq b) G_Row_eq (hr.mono (by decide)) (F_Row_eq.bindsN fun _ _ _ _ _ _ us hl => match us, hl with | [_, _], _ => rfl) pass0)) (pv 9) pe_str (nomark _)) (pe_cmpR (OpR.or (og_eq hr.units) (op_eqO (spm_Row_eq b) G_Row_eq (hr.mono (by decide)) (F_Row_eq.bindsN fun _ _ _ _ _ _ us hl => match us, hl with | [_, _], _ => rfl) pass0)) (pe_op og_add (pv 7) (pv 8)) (pe_lst pa_nil) (nomark _)) (nomark _)))))) (pss_one (ps_ret pe_bl)) pss_nil)
  (pss_one (ps_if (PW.pt (pw_and (pt_cmpR (OpR.or (og_eq hr.units) (op_eqO (spm_Row_eq b) G_Row_eq (hr.mono (by decide)) (F_Row_eq.bindsN fun _ _ _ _ _ _ us hl => match us, hl with | [_, _], _ => rfl) pass0)) (pe_op og_md (pe_callTy cg_int (by rfl) (g_int b) boot_int (pa_cons (pv 2) pa_nil)) (pv 5)) pe_int (nomark _)) (pw_and1 (pt_cmpR (og_in (rm65 hr)) (pv 9) (pe_tup (pa_cons pe_str (pa_cons pe_str pa_nil))) (by rfl))))) (pss_one (ps_ret pe_bl)) pss_nil))))))))
  (pss_one (ps_ret pe_bl))))
theorem sc_measure : FnScope N_measure ["one", "other"] (defScope st_measure) := ⟨rfl, rfl, rfl, by decide +kernel, rfl, by decide +kernel, by decide +kernel⟩
theorem ok_measure (b : Bd K mg)  : GoodF P w K mg base 1 d_measure ["one", "other"] (sp_measure K w) := by
  obtain ⟨h, X, G, c⟩ := b.ex
  obtain ⟨fd, F⟩ := c.def_ 19 (d := d_measure) rfl
  have nd : (N_measure).Nodup := sc_measure.nd
  refine ⟨fd, F.ok sc_measure (fun vs H Q E h => h.1) (fun cdv A outer s H vs Q E hr h => ⟨t_measure K w, PSs.nox ?_, h.2⟩), F⟩
  exact (pss_cons (ps_par (i := 0) (j := 1) (by rfl) nd rfl rfl (by decide) rfl rfl (pa_cons (pe_callB cg_abs (by rfl) (g_abs b) (by decide +kernel) (pa_cons (pv 0) pa_nil)) (pa_cons (pe_callB cg_abs (by rfl) (g_abs b) (by decide +kernel) (pa_cons (pv 1) pa_nil)) pa_nil)) (by rfl))
  (pss_cons (ps_while PassesOwn.never (pt_cmpR (og_ne hr.units) (pv 1) pe_int (nomark _)) (pss_one (ps_par (i := 0) (j := 1) (by rfl) nd rfl rfl (by decide) rfl rfl (pa_cons (pv 1) (pa_cons (pe_op og_md (pv 0) (pv 1)) pa_nil)) (by rfl))))
  (pss_one (ps_ret (pv 0)))))
theorem sc_in_lowest : FnScope N_in_lowest ["number", "by"] (defScope st_in_lowest) := ⟨rfl, rfl, rfl, by decide +kernel, rfl, by decide +kernel, by decide +kernel⟩
theorem ok_in_lowest (b : Bd K mg) (h_measure : GoodF P w K mg base 1 d_measure ["one", "other"] (sp_measure K w)) : GoodF P w K mg base 2 d_in_lowest ["number", "by"] (sp_in_lowest K w) := by
  obtain ⟨_, G_measure, F_measure⟩ := h_measure
  obtain ⟨h, X, G, c⟩ := b.ex
  obtain ⟨fd, F⟩ := c.def_ 20 (d := d_in_lowest) rfl
  have nd : (N_in_lowest).Nodup := sc_in_lowest.nd
  refine ⟨fd, F.ok sc_in_lowest (fun vs H Q E h => h.1) (fun cdv A outer s H vs Q E hr h => ⟨t_in_lowest K w, PSs.nox ?_, h.2⟩), F⟩
  exact (pss_cons (ps_set (i := 2) nd rfl (Or.inl rfl) (pe_ifExp (pt_cmpR og_gt (pv 1) pe_int (nomark _)) (pe_fn G_measure (hr.mono (by decide)) (by rfl) (n_measure b) F_measure.kp (bindsP F_measure fun _ _ _ _ _ _ us hl => match us, hl with | [_, _], _ => rfl) pass0 (pc_p (pa_cons (pv 0) (pa_cons (pv 1) pa_nil)))) (pe_un un_neg (pe_fn G_measure (hr.mono (by decide)) (by rfl) (n_measure b) F_measure.kp (bindsP F_measure fun _ _ _ _ _ _ us hl => match us, hl with | [_, _], _ => rfl) pass0 (pc_p (pa_cons (pv 0) (pa_cons (pv 1) pa_nil)))))))
  (pss_one (ps_ret (pe_tup (pa_cons (pe_op og_fd (pv 0) (pv 2)) (pa_cons (pe_op og_fd (pv 1) (pv 2)) pa_nil))))))
theorem sc_steady : FnScope N_steady ["row"] (defScope st_steady) := ⟨rfl, rfl, rfl, by decide +kernel, rfl, by decide +kernel, by decide +kernel⟩
theorem ok_steady (b : Bd K mg) (h_in_lowest : GoodF P w K mg base 2 d_in_lowest ["number", "by"] (sp_in_lowest K w)) (h_need_row : GoodF P w K mg base 1 d_need_row ["value", "part"] (sp_need_row K w)) : GoodF P w K mg base 3 d_steady ["row"] (sp_steady K w) := by
  obtain ⟨_, G_in_lowest, F_in_lowest⟩ := h_in_lowest
  obtain ⟨_, G_need_row, F_need_row⟩ := h_need_row
  obtain ⟨h, X, G, c⟩ := b.ex
  obtain ⟨fd, F⟩ := c.def_ 21 (d := d_steady) rfl
  have nd : (N_steady).Nodup := sc_steady.nd
  refine ⟨fd, F.ok sc_steady (fun vs H Q E h => h.1) (fun cdv A outer s H vs Q E hr h => ⟨t_steady K w, PSs.nox ?_, h.2⟩), F⟩
  exact (pss_cons (ps_expr (pe_fn G_need_row (hr.mono (by decide)) (by rfl) (n_need_row b) F_need_row.kp (bindsP F_need_row fun _ _ _ _ _ _ us hl => match us, hl with | [_, _], _ => rfl) pass0 (pc_p (pa_cons (pv 0) (pa_cons pe_str pa_nil)))))
  (pss_one (ps_ret (pe_fn G_in_lowest (hr.mono (by decide)) (by rfl) (n_in_lowest b) F_in_lowest.kp (bindsP F_in_lowest fun _ _ _ _ _ _ us hl => match us, hl with | [_, _], _ => rfl) pass0 (pc_p (pa_cons (pe_fld (pv 0) rfl) (pa_cons (pe_fld (pv 0) rfl) pa_nil)))))))
theorem sc_law_part : FnScope N_law_part ["_law_total", "_law_days"] (defScope st_law_part) := ⟨rfl, rfl, rfl, by decide +kernel, rfl, by decide +kernel, by decide +kernel⟩
theorem ok_law_part (b : Bd K mg) (h_Row_eq : GoodF P w K mg base 1 d_Row_eq ["self", "other"] (sp_Row_eq K w)) : GoodF P w K mg base 2 d_law_part ["_law_total", "_law_days"] (sp_law_part K w) := by
  obtain ⟨_, G_Row_eq, F_Row_eq⟩ := h_Row_eq
  obtain ⟨h, X, G, c⟩ := b.ex
  obtain ⟨fd, F⟩ := c.def_ 22 (d := d_law_part) rfl
  have nd : (N_law_part).Nodup := sc_law_part.nd
  refine ⟨fd, F.ok sc_law_part (fun vs H Q E h => h.1) (fun cdv A outer s H vs Q E hr h => ⟨t_law_part K w, PSs.nox ?_, h.2⟩), F⟩
  exact (pss_cons (ps_set (i := 2) nd rfl (Or.inl rfl) (pe_ix ix_seq (pe_lc (own := [("_law_each", 3)]) (g := (gName 3)) (tt := (tAnd (tTest (tOp (orR2 (qEq K) (rEqO K (He.ga K "Row") (sp_Row_eq K w) E0)) (tOp qMd (tCB qInt (tCons (tVar 1) tNil)) (tVar 3)) (tC (.int 0)))) (tTest (tOp (orR2 (qEq K) (rEqO K (He.ga K "Row") (sp_Row_eq K w) E0)) (tOp qMd (tCB qInt (tCons (tVar 0) tNil)) (tVar 3)) (tC (.int 0)))))) (by rfl) nd (pi_range3 (by rfl) (g_range b) (pa_cons (pv 1) (pa_cons pe_int (pa_cons (pe_un un_neg pe_int) pa_nil)))) (blkOk_by (N := ["_law_total", "_law_days", "_law_shared", "_law_each"]) (sc := defScope st_law_part) (by decide +kernel)) (fun _ _ _ _ _ => (pg_name (i := 3) nd rfl (Or.inl rfl))) (fun _ _ _ _ _ => (pts_one (PW.pt (pw_and (pt_cmpR (OpR.or (og_eq hr.units) (op_eqO (spm_Row_eq b) G_Row_eq (hr.mono (by decide)) (F_Row_eq.bindsN fun _ _ _ _ _ _ us hl => match us, hl with | [_, _], _ => rfl) pass0)) (pe_op og_md (pe_callTy cg_int (by rfl) (g_int b) boot_int (pa_cons (pv 1) pa_nil)) (pv 3)) pe_int (nomark _)) (pw_and1 (pt_cmpR (OpR.or (og_eq hr.units) (op_eqO (spm_Row_eq b) G_Row_eq (hr.mono (by decide)) (F_Row_eq.bindsN fun _ _ _ _ _ _ us hl => match us, hl with | [_, _], _ => rfl) pass0)) (pe_op og_md (pe_callTy cg_int (by rfl) (g_int b) boot_int (pa_cons (pv 0) pa_nil)) (pv 3)) pe_int (nomark _))))))) (fun _ _ _ _ _ => (pv 3))) pe_int (fun _ _ => rfl)))
  (pss_one (ps_ret (pe_tup (pa_cons (pe_callTy cg_int (by rfl) (g_int b) boot_int (pa_cons (pe_op og_fd (pv 0) (pv 2)) pa_nil)) (pa_cons (pe_callTy cg_int (by rfl) (g_int b) boot_int (pa_cons (pe_op og_fd (pv 1) (pv 2)) pa_nil)) pa_nil))))))
theorem sc_Row_backwards : FnScope N_Row_backwards ["self"] (defScope st_Row_backwards) := ⟨rfl, rfl, rfl, by decide +kernel, rfl, by decide +kernel, by decide +kernel⟩
theorem ok_Row_backwards (b : Bd K mg) (h_Row_init : GoodF P w K mg base 3 d_Row_init ["self", "gains"] (sp_Row_init K w)) : GoodF P w K mg base 5 d_Row_backwards ["self"] (sp_Row_backwards K w) := by
  obtain ⟨_, G_Row_init, F_Row_init⟩ := h_Row_init
  obtain ⟨h, X, G, c⟩ := b.ex
  obtain ⟨fd, F⟩ := c.def_ 23 (d := d_Row_backwards) rfl
  have nd : (N_Row_backwards).Nodup := sc_Row_backwards.nd
  refine ⟨fd, F.ok sc_Row_backwards (fun vs H Q E h => h.1) (fun cdv A outer s H vs Q E hr h => ⟨t_Row_backwards K w, PSs.nox ?_, h.2⟩), F⟩
  exact (pss_one (ps_ret (pe_new (mk_Row b) G_Row_init (hr.mono (by decide)) (by rfl) (n_Row b) (bindsP F_Row_init fun _ _ _ _ _ _ us hl => match us, hl with | [_, _], _ => rfl) pass0 (pc_p (pa_cons (pe_revA (pe_fld (pv 0) rfl)) pa_nil)))))
theorem sc_is_level : FnScope N_is_level ["row"] (defScope st_is_level) := ⟨rfl, rfl, rfl, by decide +kernel, rfl, by decide +kernel, by decide +kernel⟩
theorem ok_is_level (b : Bd K mg) (h_need_row : GoodF P w K mg base 1 d_need_row ["value", "part"] (sp_need_row K w)) : GoodF P w K mg base 2 d_is_level ["row"] (sp_is_level K w) := by
  obtain ⟨_, G_need_row, F_need_row⟩ := h_need_row
  obtain ⟨h, X, G, c⟩ := b.ex
  obtain ⟨fd, F⟩ := c.def_ 24 (d := d_is_level) rfl
  have nd : (N_is_level).Nodup := sc_is_level.nd
  refine ⟨fd, F.ok sc_is_level (fun vs H Q E h => h.1) (fun cdv A outer s H vs Q E hr h => ⟨t_is_level K w, PSs.nox ?_, h.2⟩), F⟩
  exact (pss_cons (ps_expr (pe_fn G_need_row (hr.mono (by decide)) (by rfl) (n_need_row b) F_need_row.kp (bindsP F_need_row fun _ _ _ _ _ _ us hl => match us, hl with | [_, _], _ => rfl) pass0 (pc_p (pa_cons (pv 0) (pa_cons pe_str pa_nil)))))
  (pss_one (ps_ret (pe_cmpR (og_eq hr.units) (pe_fld (pv 0) rfl) pe_int (nomark _)))))
theorem sc_law_drip : FnScope N_law_drip ["_law_tap_here", "_law_many"] (defScope st_law_drip) := ⟨rfl, rfl, rfl, by decide +kernel, rfl, by decide +kernel, by decide +kernel⟩
theorem ok_law_drip (b : Bd K mg) (h_Row_len : GoodF P w K mg base 1 d_Row_len ["self"] (sp_Row_len K w)) (h_Row_eq : GoodF P w K mg base 1 d_Row_eq ["self", "other"] (sp_Row_eq K w)) : GoodF P w K mg base 3 d_law_drip ["_law_tap_here", "_law_many"] (sp_law_drip K w) := by
  obtain ⟨_, G_Row_len, F_Row_len⟩ := h_Row_len
  obtain ⟨_, G_Row_eq, F_Row_eq⟩ := h_Row_eq
  obtain ⟨h, X, G, c⟩ := b.ex
  obtain ⟨fd, F⟩ := c.def_ 25 (d := d_law_drip) rfl
  have nd : (N_law_drip).Nodup := sc_law_drip.nd
  refine ⟨fd, F.ok sc_law_drip (fun vs H Q E h => h.1) (fun cdv A outer s H vs Q E hr h => ⟨t_law_drip K w, PSs.nox ?_, h.2⟩), F⟩
  exact (pss_cons (ps_if (pt_cmpR og_gt (pe_ix ix_seq (pv 0) pe_int (fun _ _ => rfl)) pe_int (nomark _)) (pss_cons (ps_set (i := 2) nd rfl (Or.inl rfl) (pe_op og_md (pe_callTy cg_int (by rfl) (g_int b) boot_int (pa_cons (pe_ix ix_seq (pv 0) pe_int (fun _ _ => rfl)) pa_nil)) (pv 1)))
  (pss_cons (ps_asg (pe_op og_fd (pe_callTy cg_int (by rfl) (g_int b) boot_int (pa_cons (pe_ix ix_seq (pv 0) pe_int (fun _ _ => rfl)) pa_nil)) (pv 1)) (pg_sub (pv 0) pe_int set_list))
  (pss_one (ps_ret (pv 2))))) pss_nil)
  (pss_cons (ps_set (i := 3) nd rfl (Or.inl rfl) (pe_ix ix_seq (pv 0) pe_int (fun _ _ => rfl)))
  (pss_cons (ps_asg (pe_op og_add (pv 3) pe_int) (pg_sub (pv 0) pe_int set_list))
  (pss_cons (ps_set (i := 4) nd rfl (Or.inl rfl) (pe_op og_add (pe_op og_mulT pe_int (pv 3)) pe_int))
  (pss_cons (ps_if (pt_cmpR (OpR.or (og_ne hr.units) (op_neO (spm_Row_eq b) (nem_Row b) G_Row_eq (hr.mono (by decide)) (F_Row_eq.bindsN fun _ _ _ _ _ _ us hl => match us, hl with | [_, _], _ => rfl) pass0)) (pe_ix ix_seq (pv 0) pe_int (fun _ _ => rfl)) (pe_lst pa_nil) (nomark _)) (pss_one (ps_set (i := 4) nd rfl (Or.inl rfl) (pe_ix ix_seq (pe_ix ix_seq (pv 0) pe_int (fun _ _ => rfl)) (pe_op og_md (pe_callTy cg_int (by rfl) (g_int b) boot_int (pa_cons (pv 3) pa_nil)) (pe_callB (Rl.CallR.or cg_len (call_lenO (spm_Row_len b) G_Row_len (hr.mono (by decide)) (F_Row_len.bindsN fun _ _ _ _ _ _ us hl => match us, hl with | [_], _ => rfl) pass0)) (by rfl) (g_len b) boot_len (pa_cons (pe_ix ix_seq (pv 0) pe_int (fun _ _ => rfl)) pa_nil))) (fun _ _ => rfl)))) pss_nil)
  (pss_cons (ps_if (PW.pt (pw_and (pt_cmpR (og_lt hr.units0) (pv 3) (pe_callB (Rl.CallR.or cg_len (call_lenO (spm_Row_len b) G_Row_len (hr.mono (by decide)) (F_Row_len.bindsN fun _ _ _ _ _ _ us hl => match us, hl with | [_], _ => rfl) pass0)) (by rfl) (g_len b) boot_len (pa_cons (pe_ix ix_seq (pv 0) pe_int (fun _ _ => rfl)) pa_nil)) (nomark _)) (pw_and1 (pt_cmpR og_ge (pe_callB cg_abs (by rfl) (g_abs b) (by decide +kernel) (pa_cons (pv 4) pa_nil)) (pe_op og_pw pe_int pe_int) (nomark _))))) (pss_cons (ps_set (i := 5) nd rfl (Or.inl rfl) (pe_op og_add (pe_op og_mulT pe_int (pe_op og_sub (pe_callB cg_abs (by rfl) (g_abs b) (by decide +kernel) (pa_cons (pv 4) pa_nil)) (pe_op og_pw pe_int pe_int))) (pe_callTy cg_int (by rfl) (g_int b) boot_int (pa_cons (pe_cmpR (og_lt hr.units0) (pv 4) pe_int (nomark _)) pa_nil))))
  (pss_cons (ps_asg (pe_op og_fd (pe_callTy cg_int (by rfl) (g_int b) boot_int (pa_cons (pv 5) pa_nil)) (pv 1)) (pg_sub (pv 0) pe_int set_list))
  (pss_one (ps_ret (pe_op og_md (pe_callTy cg_int (by rfl) (g_int b) boot_int (pa_cons (pv 5) pa_nil)) (pv 1)))))) pss_nil)
  (pss_cons (ps_set (i := 6) nd rfl (Or.inl rfl) (pe_op og_md (pe_callTy cg_int (by rfl) (g_int b) boot_int (pa_cons (pe_op og_pw (pe_op og_add (pe_op og_add (pe_op og_md (pe_callTy cg_int (by rfl) (g_int b) boot_int (pa_cons (pv 4) pa_nil)) pe_int) (pe_op og_mulT pe_int (pv 3))) pe_int) pe_int) pa_nil)) pe_int))
  (pss_cons (ps_set (i := 6) nd rfl (Or.inl rfl) (pe_op og_md (pe_callTy cg_int (by rfl) (g_int b) boot_int (pa_cons (pe_op og_pw (pe_op og_add (pe_op og_add (pe_op og_mulT (pv 6) (pe_op og_add (pe_op og_mulT pe_int (pv 3)) pe_int)) (pe_op og_mulT (pe_op og_mulT pe_int (pv 3)) (pv 3))) pe_int) pe_int) pa_nil)) pe_int))
  (pss_one (ps_ret (pe_op og_md (pe_callTy cg_int (by rfl) (g_int b) boot_int (pa_cons (pe_op og_fd (pv 6) pe_int) pa_nil)) (pv 1))))))))))))
theorem sc_law_any : FnScope N_law_any ["_law_tap_here", "_law_some"] (defScope st_law_any) := ⟨rfl, rfl, rfl, by decide +kernel, rfl, by decide +kernel, by decide +kernel⟩
theorem ok_law_any (b : Bd K mg) (h_law_drip : GoodF P w K mg base 3 d_law_drip ["_law_tap_here", "_law_many"] (sp_law_drip K w)) (h_Row_len : GoodF P w K mg base 1 d_Row_len ["self"] (sp_Row_len K w)) : GoodF P w K mg base 4 d_law_any ["_law_tap_here", "_law_some"] (sp_law_any K w) := by
  obtain ⟨_, G_law_drip, F_law_drip⟩ := h_law_drip
  obtain ⟨_, G_Row_len, F_Row_len⟩ := h_Row_len
  obtain ⟨h, X, G, c⟩ := b.ex
  obtain ⟨fd, F⟩ := c.def_ 26 (d := d_law_any) rfl
  have nd : (N_law_any).Nodup := sc_law_any.nd
  refine ⟨fd, F.ok sc_law_any (fun vs H Q E h => h.1) (fun cdv A outer s H vs Q E hr h => ⟨t_law_any K w, PSs.nox ?_, h.2⟩), F⟩
  exact (pss_one (ps_ret (pe_ix ix_seq (pv 1) (pe_fn G_law_drip (hr.mono (by decide)) (by rfl) (n_law_drip b) F_law_drip.kp (bindsP F_law_drip fun _ _ _ _ _ _ us hl => match us, hl with | [_, _], _ => rfl) pass0 (pc_p (pa_cons (pv 0) (pa_cons (pe_callB (Rl.CallR.or cg_len (call_lenO (spm_Row_len b) G_Row_len (hr.mono (by decide)) (F_Row_len.bindsN fun _ _ _ _ _ _ us hl => match us, hl with | [_], _ => rfl) pass0)) (by rfl) (g_len b) boot_len (pa_cons (pv 1) pa_nil)) pa_nil)))) (fun _ _ => rfl))))
theorem sc_law_plain_right : FnScope N_law_plain_right ["_law_tap_here", "_law_row", "_law_gains_here"] (defScope st_law_plain_right) := ⟨rfl, rfl, rfl, by decide +kernel, rfl, by decide +kernel, by decide +kernel⟩
theorem ok_law_plain_right (b : Bd K mg) (h_Row_eq : GoodF P w K mg base 1 d_Row_eq ["self", "other"] (sp_Row_eq K w)) (h_Row_times : GoodF P w K mg base 5 d_Row_times ["self", "number"] (sp_Row_times K w)) (h_levelled : GoodF P w K mg base 6 d_levelled ["row"] (sp_levelled K w)) (h_steady : GoodF P w K mg base 3 d_steady ["row"] (sp_steady K w)) (h_Row_plus : GoodF P w K mg base 5 d_Row_plus ["self", "number"] (sp_Row_plus K w)) (h_law_part : GoodF P w K mg base 2 d_law_part ["_law_total", "_law_days"] (sp_law_part K w)) (h_Row_backwards : GoodF P w K mg base 5 d_Row_backwards ["self"] (sp_Row_backwards K w)) (h_is_level : GoodF P w K mg base 2 d_is_level ["row"] (sp_is_level K w)) (h_law_any : GoodF P w K mg base 4 d_law_any ["_law_tap_here", "_law_some"] (sp_law_any K w)) (h_Row_len : GoodF P w K mg base 1 d_Row_len ["self"] (sp_Row_len K w)) : GoodF P w K mg base 7 d_law_plain_right ["_law_tap_here", "_law_row", "_law_gains_here"] (sp_law_plain_right K w) := by
  obtain ⟨_, G_Row_eq, F_Row_eq⟩ := h_Row_eq
  obtain ⟨_, G_Row_times, F_Row_times⟩ := h_Row_times
  obtain ⟨_, G_levelled, F_levelled⟩ := h_levelled
  obtain ⟨_, G_steady, F_steady⟩ := h_steady
  obtain ⟨_, G_Row_plus, F_Row_plus⟩ := h_Row_plus
  obtain ⟨_, G_law_part, F_law_part⟩ := h_law_part
  obtain ⟨_, G_Row_backwards, F_Row_backwards⟩ := h_Row_backwards
  obtain ⟨_, G_is_level, F_is_level⟩ := h_is_level
  obtain ⟨_, G_law_any, F_law_any⟩ := h_law_any
  obtain ⟨_, G_Row_len, F_Row_len⟩ := h_Row_len
  obtain ⟨h, X, G, c⟩ := b.ex
  obtain ⟨fd, F⟩ := c.def_ 27 (d := d_law_plain_right) rfl
  have nd : (N_law_plain_right).Nodup := sc_law_plain_right.nd
  refine ⟨fd, F.ok sc_law_plain_right (fun vs H Q E h => h.1) (fun cdv A outer s H vs Q E hr h => ⟨t_law_plain_right K w, PSs.nox ?_, h.2⟩), F⟩
  exact (pss_cons (ps_asg (pe_tup (pa_cons (pe_callB (Rl.CallR.or cg_len (call_lenO (spm_Row_len b) G_Row_len (hr.mono (by decide)) (F_Row_len.bindsN fun _ _ _ _ _ _ us hl => match us, hl with | [_], _ => rfl) pass0)) (by rfl) (g_len b) boot_len (pa_cons (pv 2) pa_nil)) (pa_cons (pe_callB (cg_sum rfl) (by rfl) (g_sum b) (by decide +kernel) (pa_cons (pv 2) pa_nil)) (pa_cons (pe_fn G_law_any (hr.mono (by decide)) (by rfl) (n_law_any b) F_law_any.kp (bindsP F_law_any fun _ _ _ _ _ _ us hl => match us, hl with | [_, _], _ => rfl) pass0 (pc_p (pa_cons (pv 0) (pa_cons (pe_lst (pa_cons pe_int (pa_cons (pe_un un_neg pe_int) (pa_cons pe_int (pa_cons (pe_op og_pw pe_int pe_int) pa_nil))))) pa_nil)))) pa_nil)))) (pg_tup rfl (pgs_cons (pg_name (i := 3) nd rfl (Or.inr rfl)) (pgs_cons (pg_name (i := 4) nd rfl (Or.inr rfl)) (pgs_cons (pg_name (i := 5) nd rfl (Or.inl rfl)) pgs_nil)))))
  (pss_cons (ps_par (i := 6) (j := 7) (by rfl) nd rfl rfl (by decide) rfl rfl (pa_cons (pe_fn G_levelled (hr.mono (by decide)) (by rfl) (n_levelled b) F_levelled.kp (bindsK (ks := ["row"]) (n := 0) [0] F_levelled fun _ _ _ _ _ _ us ws hl hk => match us, ws, hl, hk with | [], [_], _, _ => rfl) pass0 (pc_k (pk_cons (pv 1) pk_nil))) (pa_cons (pe_fn G_is_level (hr.mono (by decide)) (by rfl) (n_is_level b) F_is_level.kp (bindsK (ks := ["row"]) (n := 0) [0] F_is_level fun _ _ _ _ _ _ us ws hl hk => match us, ws, hl, hk with | [], [_], _, _ => rfl) pass0 (pc_k (pk_cons (pv 1) pk_nil))) pa_nil)) (by rfl))
  (pss_cons (ps_if (PW.pt (pw_or (pt_not (pt_truth (pe_callB cg_isi (by rfl) (g_isinstance b) (by decide +kernel) (pa_cons (pv 7) (pa_cons (pe_bltn (v := .ty "bool") (by rfl) (g_bool b) (by decide +kernel) rfl) pa_nil))) (by intro _; rfl))) (pw_or (pt_cmpR (OpR.or (og_ne hr.units) (op_neO (spm_Row_eq b) (nem_Row b) G_Row_eq (hr.mono (by decide)) (F_Row_eq.bindsN fun _ _ _ _ _ _ us hl => match us, hl with | [_, _], _ => rfl) pass0)) (pv 7) (pe_cmpR (OpR.or (og_eq hr.units) (op_eqO (spm_Row_eq b) G_Row_eq (hr.mono (by decide)) (F_Row_eq.bindsN fun _ _ _ _ _ _ us hl => match us, hl with | [_, _], _ => rfl) pass0)) (pv 4) pe_int (nomark _)) (nomark _)) (pw_or (pt_cmpR (OpR.or (og_ne hr.units) (op_neO (spm_Row_eq b) (nem_Row b) G_Row_eq (hr.mono (by decide)) (F_Row_eq.bindsN fun _ _ _ _ _ _ us hl => match us, hl with | [_, _], _ => rfl) pass0)) (pe_fn G_steady (hr.mono (by decide)) (by rfl) (n_steady b) F_steady.kp (bindsK (ks := ["row"]) (n := 0) [0] F_steady fun _ _ _ _ _ _ us ws hl hk => match us, ws, hl, hk with | [], [_], _, _ => rfl) pass0 (pc_k (pk_cons (pv 1) pk_nil))) (pe_fn G_law_part (hr.mono (by decide)) (by rfl) (n_law_part b) F_law_part.kp (bindsP F_law_part fun _ _ _ _ _ _ us hl => match us, hl with | [_, _], _ => rfl) pass0 (pc_p (pa_cons (pv 4) (pa_cons (pv 3) pa_nil)))) (nomark _)) (pw_or1 (pt_not (pt_truth (pe_callB cg_isi (by rfl) (g_isinstance b) (by decide +kernel) (pa_cons (pe_fn G_steady (hr.mono (by decide)) (by rfl) (n_steady b) F_steady.kp (bindsP F_steady fun _ _ _ _ _ _ us hl => match us, hl with | [_], _ => rfl) pass0 (pc_p (pa_cons (pv 1) pa_nil))) (pa_cons (pe_bltn (v := .ty "tuple") (by rfl) (g_tuple b) (by decide +kernel) rfl) pa_nil))) (by intro _; rfl)))))))) (pss_one (ps_ret pe_bl)) pss_nil)
  (pss_cons (ps_if (PW.pt (pw_or (pt_cmpR (OpR.or (og_ne hr.units) (op_neO (spm_Row_eq b) (nem_Row b) G_Row_eq (hr.mono (by decide)) (F_Row_eq.bindsN fun _ _ _ _ _ _ us hl => match us, hl with | [_, _], _ => rfl) pass0)) (pe_fld (pv 6) rfl) (pe_callTy cg_tuple (by rfl) (g_tuple b) boot_tuple (pa_cons (pe_lc (own := [("_law_gain", 8)]) (g := (gName 8)) (tt := tYes) (by rfl) nd (pi_seq (pv 2)) (blkOk_by (N := ["_law_tap_here", "_law_row", "_law_gains_here", "_law_days", "_law_total", "_law_more", "_law_told", "_law_even", "_law_gain"]) (sc := defScope st_law_plain_right) (by decide +kernel)) (fun _ _ _ _ _ => (pg_name (i := 8) nd rfl (Or.inl rfl))) (fun _ _ _ _ _ => pts_nil) (fun _ _ _ _ _ => (pe_op og_sub (pe_op og_mulT (pv 3) (pv 8)) (pv 4)))) pa_nil)) (nomark _)) (pw_or (pt_cmpR og_isnB (pe_fn G_is_level (hr.mono (by decide)) (by rfl) (n_is_level b) F_is_level.kp (bindsP F_is_level fun _ _ _ _ _ _ us hl => match us, hl with | [_], _ => rfl) pass0 (pc_p (pa_cons (pv 6) pa_nil))) pe_bl (nomark _)) (pw_or1 (pt_cmpR (OpR.or (og_ne hr.units) (op_neO (spm_Row_eq b) (nem_Row b) G_Row_eq (hr.mono (by decide)) (F_Row_eq.bindsN fun _ _ _ _ _ _ us hl => match us, hl with | [_, _], _ => rfl) pass0)) (pe_fn G_steady (hr.mono (by decide)) (by rfl) (n_steady b) F_steady.kp (bindsP F_steady fun _ _ _ _ _ _ us hl => match us, hl with | [_], _ => rfl) pass0 (pc_p (pa_cons (pv 6) pa_nil))) (pe_tup (pa_cons pe_int (pa_cons pe_int pa_nil))) (nomark _)))))) (pss_one (ps_ret pe_bl)) pss_nil)
  (pss_cons (ps_if (PW.pt (pw_or (pt_cmpR (OpR.or (og_ne hr.units) (op_neO (spm_Row_eq b) (nem_Row b) G_Row_eq (hr.mono (by decide)) (F_Row_eq.bindsN fun _ _ _ _ _ _ us hl => match us, hl with | [_, _], _ => rfl) pass0)) (pe_fn G_levelled (hr.mono (by decide)) (by rfl) (n_levelled b) F_levelled.kp (bindsP F_levelled fun _ _ _ _ _ _ us hl => match us, hl with | [_], _ => rfl) pass0 (pc_p (pa_cons (pe_mt (pv 1) (cl_Row b) (me_Row_plus b) G_Row_plus (hr.mono (by decide)) (bindsP F_Row_plus fun _ _ _ _ _ _ us hl => match us, hl with | [_, _], _ => rfl) pass0 (pc_p (pa_cons (pv 5) pa_nil))) pa_nil))) (pv 6) (nomark _)) (pw_or (pt_cmpR (OpR.or (og_ne hr.units) (op_neO (spm_Row_eq b) (nem_Row b) G_Row_eq (hr.mono (by decide)) (F_Row_eq.bindsN fun _ _ _ _ _ _ us hl => match us, hl with | [_, _], _ => rfl) pass0)) (pe_fn G_levelled (hr.mono (by decide)) (by rfl) (n_levelled b) F_levelled.kp (bindsP F_levelled fun _ _ _ _ _ _ us hl => match us, hl with | [_], _ => rfl) pass0 (pc_p (pa_cons (pe_mt (pv 1) (cl_Row b) (me_Row_times b) G_Row_times (hr.mono (by decide)) (bindsP F_Row_times fun _ _ _ _ _ _ us hl => match us, hl with | [_, _], _ => rfl) pass0 (pc_p (pa_cons (pv 5) pa_nil))) pa_nil))) (pe_mt (pv 6) (cl_Row b) (me_Row_times b) G_Row_times (hr.mono (by decide)) (bindsP F_Row_times fun _ _ _ _ _ _ us hl => match us, hl with | [_, _], _ => rfl) pass0 (pc_p (pa_cons (pv 5) pa_nil))) (nomark _)) (pw_or1 (pt_cmpR (OpR.or (og_ne hr.units) (op_neO (spm_Row_eq b) (nem_Row b) G_Row_eq (hr.mono (by decide)) (F_Row_eq.bindsN fun _ _ _ _ _ _ us hl => match us, hl with | [_, _], _ => rfl) pass0)) (pe_fn G_levelled (hr.mono (by decide)) (by rfl) (n_levelled b) F_levelled.kp (bindsP F_levelled fun _ _ _ _ _ _ us hl => match us, hl with | [_], _ => rfl) pass0 (pc_p (pa_cons (pe_mt (pv 1) (cl_Row b) (me_Row_backwards b) G_Row_backwards (hr.mono (by decide)) (bindsP F_Row_backwards fun _ _ _ _ _ _ us hl => match us, hl with | [_], _ => rfl) pass0 pc_0) pa_nil))) (pe_mt (pv 6) (cl_Row b) (me_Row_backwards b) G_Row_backwards (hr.mono (by decide)) (bindsP F_Row_backwards fun _ _ _ _ _ _ us hl => match us, hl with | [_], _ => rfl) pass0 pc_0) (nomark _)))))) (pss_one (ps_ret pe_bl)) pss_nil)
  (pss_cons (ps_if (PW.pt (pw_or (pt_cmpR (OpR.or (og_ne hr.units) (op_neO (spm_Row_eq b) (nem_Row b) G_Row_eq (hr.mono (by decide)) (F_Row_eq.bindsN fun _ _ _ _ _ _ us hl => match us, hl with | [_, _], _ => rfl) pass0)) (pe_fn G_steady (hr.mono (by decide)) (by rfl) (n_steady b) F_steady.kp (bindsP F_steady fun _ _ _ _ _ _ us hl => match us, hl with | [_], _ => rfl) pass0 (pc_p (pa_cons (pe_mt (pv 1) (cl_Row b) (me_Row_plus b) G_Row_plus (hr.mono (by decide)) (bindsP F_Row_plus fun _ _ _ _ _ _ us hl => match us, hl with | [_, _], _ => rfl) pass0 (pc_p (pa_cons (pv 5) pa_nil))) pa_nil))) (pe_fn G_law_part (hr.mono (by decide)) (by rfl) (n_law_part b) F_law_part.kp (bindsP F_law_part fun _ _ _ _ _ _ us hl => match us, hl with | [_, _], _ => rfl) pass0 (pc_p (pa_cons (pe_op og_add (pv 4) (pe_op og_mulT (pv 3) (pv 5))) (pa_cons (pv 3) pa_nil)))) (nomark _)) (pw_or1 (pt_cmpR (OpR.or (og_ne hr.units) (op_neO (spm_Row_eq b) (nem_Row b) G_Row_eq (hr.mono (by decide)) (F_Row_eq.bindsN fun _ _ _ _ _ _ us hl => match us, hl with | [_, _], _ => rfl) pass0)) (pe_fld (pv 1) rfl) (pe_callTy cg_tuple (by rfl) (g_tuple b) boot_tuple (pa_cons (pv 2) pa_nil)) (nomark _))))) (pss_one (ps_ret pe_bl)) pss_nil)
  (pss_one (ps_ret (pe_andT (pe_cmpR (OpR.or (og_eq hr.units) (op_eqO (spm_Row_eq b) G_Row_eq (hr.mono (by decide)) (F_Row_eq.bindsN fun _ _ _ _ _ _ us hl => match us, hl with | [_, _], _ => rfl) pass0)) (pe_fn G_levelled (hr.mono (by decide)) (by rfl) (n_levelled b) F_levelled.kp (bindsP F_levelled fun _ _ _ _ _ _ us hl => match us, hl with | [_], _ => rfl) pass0 (pc_p (pa_cons (pv 6) pa_nil))) (pe_mt (pv 6) (cl_Row b) (me_Row_times b) G_Row_times (hr.mono (by decide)) (bindsP F_Row_times fun _ _ _ _ _ _ us hl => match us, hl with | [_, _], _ => rfl) pass0 (pc_p (pa_cons (pv 3) pa_nil))) (nomark _)) (pe_one (pe_orT (pe_cmpR (OpR.or (og_ne hr.units) (op_neO (spm_Row_eq b) (nem_Row b) G_Row_eq (hr.mono (by decide)) (F_Row_eq.bindsN fun _ _ _ _ _ _ us hl => match us, hl with | [_, _], _ => rfl) pass0)) (pv 4) pe_int (nomark _)) (pe_one (pe_cmpR (OpR.or (og_eq hr.units) (op_eqO (spm_Row_eq b) G_Row_eq (hr.mono (by decide)) (F_Row_eq.bindsN fun _ _ _ _ _ _ us hl => match us, hl with | [_, _], _ => rfl) pass0)) (pv 6) (pe_mt (pv 1) (cl_Row b) (me_Row_times b) G_Row_times (hr.mono (by decide)) (bindsP F_Row_times fun _ _ _ _ _ _ us hl => match us, hl with | [_, _], _ => rfl) pass0 (pc_p (pa_cons (pv 3) pa_nil))) (nomark _))))))))))))))
theorem sc_law_known : FnScope N_law_known ["_law_tap_here"] (defScope st_law_known) := ⟨rfl, rfl, rfl, by decide +kernel, rfl, by decide +kernel, by decide +kernel⟩
theorem ok_law_known (b : Bd K mg) (h_law_any : GoodF P w K mg base 4 d_law_any ["_law_tap_here", "_law_some"] (sp_law_any K w)) : GoodF P w K mg base 5 d_law_known ["_law_tap_here"] (sp_law_known K w) := by
  obtain ⟨_, G_law_any, F_law_any⟩ := h_law_any
  obtain ⟨h, X, G, c⟩ := b.ex
  obtain ⟨fd, F⟩ := c.def_ 28 (d := d_law_known) rfl
  have nd : (N_law_known).Nodup := sc_law_known.nd
  refine ⟨fd, F.ok sc_law_known (fun vs H Q E h => h.1) (fun cdv A outer s H vs Q E hr h => ⟨t_law_known K w, PSs.nox ?_, h.2⟩), F⟩
  exact (pss_one (ps_ret (pe_fn G_law_any (hr.mono (by decide)) (by rfl) (n_law_any b) F_law_any.kp (bindsP F_law_any fun _ _ _ _ _ _ us hl => match us, hl with | [_, _], _ => rfl) pass0 (pc_p (pa_cons (pv 0) (pa_cons (pe_lst (pa_cons (pe_lst (pa_cons (pe_un un_neg pe_int) (pa_cons pe_int (pa_cons (pe_un un_neg pe_int) (pa_cons (pe_un un_neg pe_int) (pa_cons pe_int (pa_cons (pe_un un_neg pe_int) pa_nil))))))) (pa_cons (pe_lst (pa_cons pe_int (pa_cons pe_int (pa_cons (pe_un un_neg pe_int) (pa_cons pe_int (pa_cons pe_int (pa_cons pe_int (pa_cons (pe_un un_neg pe_int) (pa_cons pe_int (pa_cons pe_int (pa_cons (pe_un un_neg pe_int) (pa_cons pe_int (pa_cons pe_int (pa_cons pe_int (pa_cons (pe_un un_neg pe_int) (pa_cons pe_int (pa_cons pe_int pa_nil))))))))))))))))) (pa_cons (pe_lst (pa_cons (pe_un un_neg pe_int) (pa_cons pe_int (pa_cons (pe_un un_neg pe_int) (pa_cons (pe_un un_neg pe_int) (pa_cons pe_int (pa_cons pe_int (pa_cons (pe_un un_neg pe_int) pa_nil)))))))) (pa_cons (pe_lst (pa_cons pe_int (pa_cons (pe_un un_neg pe_int) (pa_cons pe_int (pa_cons (pe_un un_neg pe_int) (pa_cons pe_int pa_nil)))))) (pa_cons (pe_lst (pa_cons pe_int (pa_cons pe_int (pa_cons pe_int pa_nil)))) (pa_cons (pe_lst (pa_cons (pe_un un_neg pe_int) (pa_cons pe_int (pa_cons (pe_un un_neg pe_int) pa_nil)))) (pa_cons (pe_lst (pa_cons pe_int pa_nil)) pa_nil)))))))) pa_nil))))))
theorem sc_law_gains : FnScope N_law_gains ["_law_tap_here", "_law_days"] (defScope st_law_gains) := ⟨rfl, rfl, rfl, by decide +kernel, rfl, by decide +kernel, by decide +kernel⟩
theorem ok_law_gains (b : Bd K mg) (h_Row_eq : GoodF P w K mg base 1 d_Row_eq ["self", "other"] (sp_Row_eq K w)) (h_law_any : GoodF P w K mg base 4 d_law_any ["_law_tap_here", "_law_some"] (sp_law_any K w)) (h_law_drip : GoodF P w K mg base 3 d_law_drip ["_law_tap_here", "_law_many"] (sp_law_drip K w)) (h_Row_len : GoodF P w K mg base 1 d_Row_len ["self"] (sp_Row_len K w)) : GoodF P w K mg base 5 d_law_gains ["_law_tap_here", "_law_days"] (sp_law_gains K w) := by
  obtain ⟨_, G_Row_eq, F_Row_eq⟩ := h_Row_eq
  obtain ⟨_, G_law_any, F_law_any⟩ := h_law_any
  obtain ⟨_, G_law_drip, F_law_drip⟩ := h_law_drip
  obtain ⟨_, G_Row_len, F_Row_len⟩ := h_Row_len
  obtain ⟨h, X, G, c⟩ := b.ex
  obtain ⟨fd, F⟩ := c.def_ 29 (d := d_law_gains) rfl
  have nd : (N_law_gains).Nodup := sc_law_gains.nd
  refine ⟨fd, F.ok sc_law_gains (fun vs H Q E h => h.1) (fun cdv A outer s H vs Q E hr h => ⟨t_law_gains K w, PSs.nox ?_, h.2⟩), F⟩
  exact (pss_cons (ps_set (i := 2) nd rfl (Or.inl rfl) (pe_fn G_law_drip (hr.mono (by decide)) (by rfl) (n_law_drip b) F_law_drip.kp (bindsP F_law_drip fun _ _ _ _ _ _ us hl => match us, hl with | [_, _], _ => rfl) pass0 (pc_p (pa_cons (pv 0) (pa_cons pe_int pa_nil)))))
  (pss_cons (ps_if (pt_cmpR (og_lt hr.units0) (pv 2) pe_int (nomark _)) (pss_one (ps_ret (pe_lc (own := [("_law_day", 6)]) (g := (gName 6)) (tt := tYes) (by rfl) nd (pi_range1 (by rfl) (g_range b) (pa_cons (pv 1) pa_nil)) (blkOk_by (N := ["_law_tap_here", "_law_days", "_law_way", "_law_few", "_law_found", "_law_at", "_law_day"]) (sc := defScope st_law_gains) (by decide +kernel)) (fun _ _ _ _ _ => (pg_name (i := 6) nd rfl (Or.inl rfl))) (fun _ _ _ _ _ => pts_nil) (fun _ _ _ _ _ => (pe_op og_sub (pe_fn G_law_drip (hr.mono (by decide)) (by rfl) (n_law_drip b) F_law_drip.kp (bindsP F_law_drip fun _ _ _ _ _ _ us hl => match us, hl with | [_, _], _ => rfl) pass0 (pc_p (pa_cons (pv 0) (pa_cons pe_int pa_nil)))) pe_int))))) pss_nil)
  (pss_cons (ps_if (pt_cmpR (OpR.or (og_eq hr.units) (op_eqO (spm_Row_eq b) G_Row_eq (hr.mono (by decide)) (F_Row_eq.bindsN fun _ _ _ _ _ _ us hl => match us, hl with | [_, _], _ => rfl) pass0)) (pv 2) pe_int (nomark _)) (pss_one (ps_ret (pe_lc (own := [("_law_day", 6)]) (g := (gName 6)) (tt := tYes) (by rfl) nd (pi_range1 (by rfl) (g_range b) (pa_cons (pv 1) pa_nil)) (blkOk_by (N := ["_law_tap_here", "_law_days", "_law_way", "_law_few", "_law_found", "_law_at", "_law_day"]) (sc := defScope st_law_gains) (by decide +kernel)) (fun _ _ _ _ _ => (pg_name (i := 6) nd rfl (Or.inl rfl))) (fun _ _ _ _ _ => pts_nil) (fun _ _ _ _ _ => (pe_fn G_law_any (hr.mono (by decide)) (by rfl) (n_law_any b) F_law_any.kp (bindsP F_law_any fun _ _ _ _ _ _ us hl => match us, hl with | [_, _], _ => rfl) pass0 (pc_p (pa_cons (pv 0) (pa_cons (pe_lst (pa_cons pe_int (pa_cons pe_int (pa_cons pe_int (pa_cons pe_int (pa_cons (pe_un un_neg pe_int) pa_nil)))))) pa_nil)))))))) pss_nil)
  (pss_cons (ps_if (pt_cmpR (OpR.or (og_eq hr.units) (op_eqO (spm_Row_eq b) G_Row_eq (hr.mono (by decide)) (F_Row_eq.bindsN fun _ _ _ _ _ _ us hl => match us, hl with | [_, _], _ => rfl) pass0)) (pv 2) pe_int (nomark _)) (pss_one (ps_ret (pe_lc (own := [("_law_day", 6)]) (g := (gName 6)) (tt := tYes) (by rfl) nd (pi_range1 (by rfl) (g_range b) (pa_cons (pv 1) pa_nil)) (blkOk_by (N := ["_law_tap_here", "_law_days", "_law_way", "_law_few", "_law_found", "_law_at", "_law_day"]) (sc := defScope st_law_gains) (by decide +kernel)) (fun _ _ _ _ _ => (pg_name (i := 6) nd rfl (Or.inl rfl))) (fun _ _ _ _ _ => pts_nil) (fun _ _ _ _ _ => (pe_fn G_law_any (hr.mono (by decide)) (by rfl) (n_law_any b) F_law_any.kp (bindsP F_law_any fun _ _ _ _ _ _ us hl => match us, hl with | [_, _], _ => rfl) pass0 (pc_p (pa_cons (pv 0) (pa_cons (pe_lst (pa_cons (pe_op og_pw pe_int pe_int) (pa_cons (pe_op og_sub pe_int (pe_op og_pw pe_int pe_int)) (pa_cons (pe_op og_pw pe_int pe_int) (pa_cons pe_int (pa_cons (pe_un un_neg pe_int) (pa_cons pe_int pa_nil))))))) pa_nil)))))))) pss_nil)
  (pss_cons (ps_set (i := 3) nd rfl (Or.inr rfl) (pe_lc (own := [("_law_day", 6)]) (g := (gName 6)) (tt := tYes) (by rfl) nd (pi_range1 (by rfl) (g_range b) (pa_cons (pe_op og_add pe_int (pe_fn G_law_drip (hr.mono (by decide)) (by rfl) (n_law_drip b) F_law_drip.kp (bindsP F_law_drip fun _ _ _ _ _ _ us hl => match us, hl with | [_, _], _ => rfl) pass0 (pc_p (pa_cons (pv 0) (pa_cons pe_int pa_nil))))) pa_nil)) (blkOk_by (N := ["_law_tap_here", "_law_days", "_law_way", "_law_few", "_law_found", "_law_at", "_law_day"]) (sc := defScope st_law_gains) (by decide +kernel)) (fun _ _ _ _ _ => (pg_name (i := 6) nd rfl (Or.inl rfl))) (fun _ _ _ _ _ => pts_nil) (fun _ _ _ _ _ => (pe_op og_sub (pe_fn G_law_drip (hr.mono (by decide)) (by rfl) (n_law_drip b) F_law_drip.kp (bindsP F_law_drip fun _ _ _ _ _ _ us hl => match us, hl with | [_, _], _ => rfl) pass0 (pc_p (pa_cons (pv 0) (pa_cons pe_int pa_nil)))) pe_int))))
  (pss_cons (ps_if (pt_cmpR (OpR.or (og_eq hr.units) (op_eqO (spm_Row_eq b) G_Row_eq (hr.mono (by decide)) (F_Row_eq.bindsN fun _ _ _ _ _ _ us hl => match us, hl with | [_, _], _ => rfl) pass0)) (pv 2) pe_int (nomark _)) (pss_one (ps_asg (pe_op og_sub (pe_ix ix_seq (pv 3) pe_int (fun _ _ => rfl)) (pe_callB (cg_sum rfl) (by rfl) (g_sum b) (by decide +kernel) (pa_cons (pv 3) pa_nil))) (pg_sub (pv 3) pe_int set_list))) pss_nil)
  (pss_cons (ps_setLc (i := 4) (own := [("_law_day", 6)]) (g := (gName 6)) (tt := tYes) (by rfl) nd rfl rfl (sw_true rfl rfl rfl (by decide +kernel)) (pi_range1 (by rfl) (g_range b) (pa_cons (pv 1) pa_nil)) (blkOk_by (N := ["_law_tap_here", "_law_days", "_law_way", "_law_few", "_law_found", "_law_at", "_law_day"]) (sc := defScope st_law_gains) (by decide +kernel)) (fun _ _ _ _ _ => (pg_name (i := 6) nd rfl (Or.inl rfl))) (fun _ _ _ _ _ => pts_nil) (fun _ _ _ _ _ => (pe_ix ix_seq (pv 3) (pe_op og_md (pe_callTy cg_int (by rfl) (g_int b) boot_int (pa_cons (pv 6) pa_nil)) (pe_callB (Rl.CallR.or cg_len (call_lenO (spm_Row_len b) G_Row_len (hr.mono (by decide)) (F_Row_len.bindsN fun _ _ _ _ _ _ us hl => match us, hl with | [_], _ => rfl) pass0)) (by rfl) (g_len b) boot_len (pa_cons (pv 3) pa_nil))) (fun _ _ => rfl))))
  (pss_cons (ps_if (pt_cmpR (OpR.or (og_eq hr.units) (op_eqO (spm_Row_eq b) G_Row_eq (hr.mono (by decide)) (F_Row_eq.bindsN fun _ _ _ _ _ _ us hl => match us, hl with | [_, _], _ => rfl) pass0)) (pv 2) pe_int (nomark _)) (pss_cons (ps_set (i := 5) nd rfl (Or.inl rfl) (pe_fn G_law_drip (hr.mono (by decide)) (by rfl) (n_law_drip b) F_law_drip.kp (bindsP F_law_drip fun _ _ _ _ _ _ us hl => match us, hl with | [_, _], _ => rfl) pass0 (pc_p (pa_cons (pv 0) (pa_cons (pv 1) pa_nil)))))
  (pss_one (ps_asg (pe_op og_add (pe_ix ix_seq (pv 4) (pv 5) (fun _ _ => rfl)) (pe_fn G_law_any (hr.mono (by decide)) (by rfl) (n_law_any b) F_law_any.kp (bindsP F_law_any fun _ _ _ _ _ _ us hl => match us, hl with | [_, _], _ => rfl) pass0 (pc_p (pa_cons (pv 0) (pa_cons (pe_lst (pa_cons pe_int (pa_cons (pe_un un_neg pe_int) (pa_cons pe_int pa_nil)))) pa_nil))))) (pg_sub (pv 4) (pv 5) set_list)))) pss_nil)
  (pss_one (ps_ret (pv 4)))))))))))
theorem sc_law_tap : FnScope N_law_tap ["_law_script"] (defScope st_law_tap) := ⟨rfl, rfl, rfl, by decide +kernel, rfl, by decide +kernel, by decide +kernel⟩
theorem ok_law_tap (b : Bd K mg)  : GoodF P w K mg base 1 d_law_tap ["_law_script"] (sp_law_tap K w) := by
  obtain ⟨h, X, G, c⟩ := b.ex
  obtain ⟨fd, F⟩ := c.def_ 30 (d := d_law_tap) rfl
  have nd : (N_law_tap).Nodup := sc_law_tap.nd
  refine ⟨fd, F.ok sc_law_tap (fun vs H Q E h => h.1) (fun cdv A outer s H vs Q E hr h => ⟨t_law_tap K w, PSs.nox ?_, h.2⟩), F⟩
  exact (pss_one (ps_ret (pe_lst (pa_cons (pe_lc (own := [("_law_cell", 1)]) (g := (gName 1)) (tt := tYes) (by rfl) nd (pi_seq (pe_slice sg_all (pv 0) po_none (po_some pe_int))) (blkOk_by (N := ["_law_script", "_law_cell"]) (sc := defScope st_law_tap) (by decide +kernel)) (fun _ _ _ _ _ => (pg_name (i := 1) nd rfl (Or.inl rfl))) (fun _ _ _ _ _ => pts_nil) (fun _ _ _ _ _ => (pe_callTy cg_int (by rfl) (g_int b) boot_int (pa_cons (pv 1) pa_nil)))) (pa_cons pe_int (pa_cons pe_int pa_nil))))))
theorem sc_law : FnScope N_law ["_law_script"] (defScope st_law) := ⟨rfl, rfl, rfl, by decide +kernel, rfl, by decide +kernel, by decide +kernel⟩
theorem ok_law (b : Bd K mg) (h_law_lengths_right : GoodF P w K mg base 7 d_law_lengths_right ["_law_row", "_law_gains_here"] (sp_law_lengths_right K w)) (h_law_plain_right : GoodF P w K mg base 7 d_law_plain_right ["_law_tap_here", "_law_row", "_law_gains_here"] (sp_law_plain_right K w)) (h_Row_init : GoodF P w K mg base 3 d_Row_init ["self", "gains"] (sp_Row_init K w)) (h_Row_eq : GoodF P w K mg base 1 d_Row_eq ["self", "other"] (sp_Row_eq K w)) (h_law_known : GoodF P w K mg base 5 d_law_known ["_law_tap_here"] (sp_law_known K w)) (h_law_drip : GoodF P w K mg base 3 d_law_drip ["_law_tap_here", "_law_many"] (sp_law_drip K w)) (h_law_gains : GoodF P w K mg base 5 d_law_gains ["_law_tap_here", "_law_days"] (sp_law_gains K w)) (h_law_any : GoodF P w K mg base 4 d_law_any ["_law_tap_here", "_law_some"] (sp_law_any K w)) (h_law_tap : GoodF P w K mg base 1 d_law_tap ["_law_script"] (sp_law_tap K w)) : GoodF P w K mg base 8 d_law ["_law_script"] (sp_law K w) := by
  obtain ⟨_, G_law_lengths_right, F_law_lengths_right⟩ := h_law_lengths_right
  obtain ⟨_, G_law_plain_right, F_law_plain_right⟩ := h_law_plain_right
  obtain ⟨_, G_Row_init, F_Row_init⟩ := h_Row_init
  obtain ⟨_, G_Row_eq, F_Row_eq⟩ := h_Row_eq
  obtain ⟨_, G_law_known, F_law_known⟩ := h_law_known
  obtain ⟨_, G_law_drip, F_law_drip⟩ := h_law_drip
  obtain ⟨_, G_law_gains, F_law_gains⟩ := h_law_gains
  obtain ⟨_, G_law_any, F_law_any⟩ := h_law_any
  obtain ⟨_, G_law_tap, F_law_tap⟩ := h_law_tap
  obtain ⟨h, X, G, c⟩ := b.ex
  obtain ⟨fd, F⟩ := c.def_ 31 (d := d_law) rfl
  have nd : (N_law).Nodup := sc_law.nd
  refine ⟨fd, F.ok sc_law (fun vs H Q E h => h.1) (fun cdv A outer s H vs Q E hr h => ⟨t_law K w, PSs.nox ?_, h.2⟩), F⟩
  exact (pss_cons (ps_set (i := 1) nd rfl (Or.inl rfl) (pe_fn G_law_tap (hr.mono (by decide)) (by rfl) (n_law_tap b) F_law_tap.kp (bindsP F_law_tap fun _ _ _ _ _ _ us hl => match us, hl with | [_], _ => rfl) pass0 (pc_p (pa_cons (pv 0) pa_nil))))
  (pss_cons (ps_for PassesOwn.never rfl (pi_range1 (by rfl) (g_range b) (pa_cons pe_int pa_nil)) (pg_name (i := 2) nd rfl (Or.inl rfl)) (pss_cons (ps_set (i := 3) nd rfl (Or.inl rfl) (pe_fn G_law_gains (hr.mono (by decide)) (by rfl) (n_law_gains b) F_law_gains.kp (bindsP F_law_gains fun _ _ _ _ _ _ us hl => match us, hl with | [_, _], _ => rfl) pass0 (pc_p (pa_cons (pv 1) (pa_cons (pe_fn G_law_any (hr.mono (by decide)) (by rfl) (n_law_any b) F_law_any.kp (bindsP F_law_any fun _ _ _ _ _ _ us hl => match us, hl with | [_, _], _ => rfl) pass0 (pc_p (pa_cons (pv 1) (pa_cons (pe_lst (pa_cons pe_int (pa_cons pe_int (pa_cons pe_int (pa_cons pe_int (pa_cons pe_int (pa_cons pe_int (pa_cons pe_int (pa_cons pe_int (pa_cons pe_int (pa_cons pe_int pa_nil))))))))))) pa_nil)))) pa_nil)))))
  (pss_cons (ps_set (i := 4) nd rfl (Or.inl rfl) (pe_fn G_law_drip (hr.mono (by decide)) (by rfl) (n_law_drip b) F_law_drip.kp (bindsP F_law_drip fun _ _ _ _ _ _ us hl => match us, hl with | [_, _], _ => rfl) pass0 (pc_p (pa_cons (pv 1) (pa_cons pe_int pa_nil)))))
  (pss_cons (ps_if (pt_cmpR (OpR.or (og_eq hr.units) (op_eqO (spm_Row_eq b) G_Row_eq (hr.mono (by decide)) (F_Row_eq.bindsN fun _ _ _ _ _ _ us hl => match us, hl with | [_, _], _ => rfl) pass0)) (pv 4) pe_int (nomark _)) (pss_one (ps_set (i := 3) nd rfl (Or.inl rfl) (pe_fn G_law_known (hr.mono (by decide)) (by rfl) (n_law_known b) F_law_known.kp (bindsP F_law_known fun _ _ _ _ _ _ us hl => match us, hl with | [_], _ => rfl) pass0 (pc_p (pa_cons (pv 1) pa_nil))))) pss_nil)
  (pss_cons (ps_if (pt_cmpR (OpR.or (og_eq hr.units) (op_eqO (spm_Row_eq b) G_Row_eq (hr.mono (by decide)) (F_Row_eq.bindsN fun _ _ _ _ _ _ us hl => match us, hl with | [_, _], _ => rfl) pass0)) (pv 4) pe_int (nomark _)) (pss_one (ps_asg (pe_op og_sub (pe_ix ix_seq (pv 3) (pe_un un_neg pe_int) (fun _ _ => rfl)) (pe_callB (cg_sum rfl) (by rfl) (g_sum b) (by decide +kernel) (pa_cons (pv 3) pa_nil))) (pg_sub (pv 3) (pe_un un_neg pe_int) set_list))) pss_nil)
  (pss_cons (ps_set (i := 5) nd rfl (Or.inl rfl) (pe_new (mk_Row b) G_Row_init (hr.mono (by decide)) (by rfl) (n_Row b) (bindsP F_Row_init fun _ _ _ _ _ _ us hl => match us, hl with | [_, _], _ => rfl) pass0 (pc_p (pa_cons (pv 3) pa_nil))))
  (pss_one (ps_if (PW.pt (pw_or (pt_not (pt_truth (pe_fn G_law_plain_right (hr.mono (by decide)) (by rfl) (n_law_plain_right b) F_law_plain_right.kp (bindsP F_law_plain_right fun _ _ _ _ _ _ us hl => match us, hl with | [_, _, _], _ => rfl) pass0 (pc_p (pa_cons (pv 1) (pa_cons (pv 5) (pa_cons (pv 3) pa_nil))))) (by intro _; rfl))) (pw_or1 (pt_not (pt_truth (pe_fn G_law_lengths_right (hr.mono (by decide)) (by rfl) (n_law_lengths_right b) F_law_lengths_right.kp (bindsP F_law_lengths_right fun _ _ _ _ _ _ us hl => match us, hl with | [_, _], _ => rfl) pass0 (pc_p (pa_cons (pv 5) (pa_cons (pv 3) pa_nil)))) (by intro _; rfl)))))) (pss_one (ps_ret pe_bl)) pss_nil))))))))
  (pss_one (ps_ret pe_bl))))
end
end K08

set_option Elab.async false
set_option linter.all false
set_option maxRecDepth 100000
set_option maxHeartbeats 4000000
namespace K08
open PySem PySem.Spec PyProof.Rows L2 Rl RZ RT Px
section
variable {K : PySem.W.Frag} {mg : Str → Option Value} {w : World}
theorem ct_ok (b : Bd K mg) : CTok K clsT := ⟨(memC (memC (kit_NoneType_Row b) (memC (kit_bool_Row b) (memC (kit_int_Row b) (memC (kit_str_Row b) (memC (kit_list_Row b) (memC (kit_tuple_Row b) memN)))))) memN),
  (memC (memC (kitO_Row_Row b) memN) memN),
  (memC (memC (kitT_Row_NoneType b) (memC (kitT_Row_bool b) (memC (kitT_Row_int b) (memC (kitT_Row_str b) (memC (kitT_Row_list b) (memC (kitT_Row_tuple b) memN)))))) memN)⟩
theorem sd_Row_eq (b : Bd K mg)  : SdF K (sp_Row_eq K w) w_Row_eq := by
  rw [w_Row_eq_eq]
  exact sdf_of (ts := t_Row_eq K w) (N := N_Row_eq) rfl (fun vs H Q EX h => h) (by
  unfold t_Row_eq
  exact (sds_ret (sd_andT (sd_cb (s_isi (ct_ok b)) (sda_cons sd_var (sda_cons sd_cls sda_nil))) (sd_op s_eq (sd_fld sd_var) (sd_fld sd_var)))))
theorem sd_Row_len (b : Bd K mg)  : SdF K (sp_Row_len K w) w_Row_len := by
  rw [w_Row_len_eq]
  exact sdf_of (ts := t_Row_len K w) (N := N_Row_len) rfl (fun vs H Q EX h => h) (by
  unfold t_Row_len
  exact (sds_ret (sd_cb s_len (sda_cons (sd_fld sd_var) sda_nil))))
theorem sd_word_of (b : Bd K mg)  : SdF K (sp_word_of K w) w_word_of := by
  rw [w_word_of_eq]
  exact sdf_of (ts := t_word_of K w) (N := N_word_of) rfl (fun vs H Q EX h => h) (by
  unfold t_word_of
  exact (sds_seq (sds_if (sdt_test (sd_op s_gt (sd_cb s_minT (sda_cons sd_var sda_nil)) sd_int)) (sds_ret sd_str) sds_next)
  (sds_seq (sds_if (sdt_test (sd_op s_lt (sd_cb s_maxT (sda_cons sd_var sda_nil)) sd_int)) (sds_ret sd_str) sds_next)
  (sds_ret (sd_if (sdt_and (sdt_test (sd_op s_eq (sd_cb s_minT (sda_cons sd_var sda_nil)) sd_int)) (sdt_test (sd_op s_eq (sd_cb s_maxT (sda_cons sd_var sda_nil)) sd_int))) sd_str sd_str)))))
theorem sd_sums_in (b : Bd K mg)  : SdF K (sp_sums_in K w) w_sums_in := by
  rw [w_sums_in_eq]
  exact sdf_of (ts := t_sums_in K w) (N := N_sums_in) rfl (fun vs H Q EX h => h) (by
  unfold t_sums_in
  exact (sds_ret (sd_cb s_tuple (sda_cons (sd_lc (gin_tup (gin_cons (gin_name rfl) (gin_cons (gin_name rfl) gin_nil))) (sdi_zip (sda_cons (sd_fld sd_var) (sda_cons (sd_sl (sd_fld sd_var) (sdo_some sd_var) sdo_none) sda_nil))) (sdg_tup (sdgs_cons sdg_name (sdgs_cons sdg_name sdgs_nil))) sdt_yes (sd_op s_sub sd_var sd_var)) sda_nil))))
theorem sd_is_integer (b : Bd K mg)  : SdF K (sp_is_integer K w) w_is_integer := by
  rw [w_is_integer_eq]
  exact sdf_of (ts := t_is_integer K w) (N := N_is_integer) rfl (fun vs H Q EX h => h) (by
  unfold t_is_integer
  exact (sds_ret (sd_andT (sd_cb (s_isi (ct_ok b)) (sda_cons sd_var (sda_cons sd_ty sda_nil))) (sd_notT (sd_cb (s_isi (ct_ok b)) (sda_cons sd_var (sda_cons sd_ty sda_nil)))))))
theorem sd_is_within (b : Bd K mg) (S_is_integer : SdF K (sp_is_integer K w) w_is_integer) : SdF K (sp_is_within K w) w_is_within := by
  rw [w_is_within_eq]
  exact sdf_of (ts := t_is_within K w) (N := N_is_within) rfl (fun vs H Q EX h => h) (by
  unfold t_is_within
  exact (sds_seq (sds_if (sdt_not (sdt_tru (sd_fn S_is_integer (sdc_p (sda_cons sd_var sda_nil))))) (sds_ret sd_bl) sds_next)
  (sds_ret (sd_andT (sd_orT (sd_op s_is sd_var sd_non) (sd_op s_le sd_var sd_var)) (sd_orT (sd_op s_is sd_var sd_non) (sd_op s_le sd_var sd_var))))))
theorem sd_need_number (b : Bd K mg) (S_is_within : SdF K (sp_is_within K w) w_is_within) : SdF K (sp_need_number K w) w_need_number := by
  rw [w_need_number_eq]
  exact sdf_of (ts := t_need_number K w) (N := N_need_number) rfl (fun vs H Q EX h => h) (by
  unfold t_need_number
  exact (sds_if (sdt_not (sdt_tru (sd_fn S_is_within (sdc_p (sda_cons sd_var (sda_cons sd_var (sda_cons sd_var sda_nil))))))) sds_never sds_next))
theorem sd_need_row (b : Bd K mg)  : SdF K (sp_need_row K w) w_need_row := by
  rw [w_need_row_eq]
  exact sdf_of (ts := t_need_row K w) (N := N_need_row) rfl (fun vs H Q EX h => h) (by
  unfold t_need_row
  exact (sds_if (sdt_not (sdt_tru (sd_cb (s_isi (ct_ok b)) (sda_cons sd_var (sda_cons sd_cls sda_nil))))) sds_never sds_next))
theorem sd_need_length (b : Bd K mg) (S_need_number : SdF K (sp_need_number K w) w_need_number) (S_need_row : SdF K (sp_need_row K w) w_need_row) : SdF K (sp_need_length K w) w_need_length := by
  rw [w_need_length_eq]
  exact sdf_of (ts := t_need_length K w) (N := N_need_length) rfl (fun vs H Q EX h => h) (by
  unfold t_need_length
  exact (sds_seq (sds_drop (sd_fn S_need_row (sdc_p (sda_cons sd_var (sda_cons sd_str sda_nil)))))
  (sds_drop (sd_fn S_need_number (sdc_p (sda_cons sd_var (sda_cons sd_str (sda_cons sd_int (sda_cons (sd_fld sd_var) sda_nil)))))))))
theorem sd_sort_of (b : Bd K mg) (S_word_of : SdF K (sp_word_of K w) w_word_of) (S_sums_in : SdF K (sp_sums_in K w) w_sums_in) (S_need_length : SdF K (sp_need_length K w) w_need_length) : SdF K (sp_sort_of K w) w_sort_of := by
  rw [w_sort_of_eq]
  exact sdf_of (ts := t_sort_of K w) (N := N_sort_of) rfl (fun vs H Q EX h => h) (by
  unfold t_sort_of
  exact (sds_seq (sds_drop (sd_fn S_need_length (sdc_p (sda_cons sd_var (sda_cons sd_var sda_nil)))))
  (sds_ret (sd_fn S_word_of (sdc_p (sda_cons (sd_fn S_sums_in (sdc_p (sda_cons sd_var (sda_cons sd_var sda_nil)))) sda_nil))))))
theorem sd_sums (b : Bd K mg) (S_sums_in : SdF K (sp_sums_in K w) w_sums_in) (S_need_length : SdF K (sp_need_length K w) w_need_length) : SdF K (sp_sums K w) w_sums := by
  rw [w_sums_eq]
  exact sdf_of (ts := t_sums K w) (N := N_sums) rfl (fun vs H Q EX h => h) (by
  unfold t_sums
  exact (sds_seq (sds_drop (sd_fn S_need_length (sdc_p (sda_cons sd_var (sda_cons sd_var sda_nil)))))
  (sds_ret (sd_fn S_sums_in (sdc_p (sda_cons sd_var (sda_cons sd_var sda_nil)))))))
theorem sd_law_sums (b : Bd K mg) (S_Row_len : SdF K (sp_Row_len K w) w_Row_len) : SdF K (sp_law_sums K w) w_law_sums := by
  rw [w_law_sums_eq]
  exact sdf_of (ts := t_law_sums K w) (N := N_law_sums) rfl (fun vs H Q EX h => h) (by
  unfold t_law_sums
  exact (sds_ret (sd_lc (gin_name rfl) (sdi_r1 (sda_cons (sd_op s_add (sd_op s_sub (sd_cb (s_lenO S_Row_len s_len) (sda_cons sd_var sda_nil)) sd_var) sd_int) sda_nil)) sdg_name sdt_yes (sd_cb s_sum (sda_cons (sd_sl sd_var (sdo_some sd_var) (sdo_some (sd_op s_add sd_var sd_var))) sda_nil)))))
theorem sd_heights_of (b : Bd K mg)  : SdF K (sp_heights_of K w) w_heights_of := by
  rw [w_heights_of_eq]
  exact sdf_of (ts := t_heights_of K w) (N := N_heights_of) rfl (fun vs H Q EX h => h) (by
  unfold t_heights_of
  exact (sds_seq (sds_asg (sd_lst (sda_cons sd_int sda_nil)) sdg_name)
  (sds_seq (sds_for (ks := [2]) (sdi_any sd_var) sdg_name (sds_drop (sd_bl_ s_app sd_var (sda_cons (sd_op s_add (sd_op s_ix sd_var (sd_un s_neg sd_int)) sd_var) sda_nil))))
  (sds_ret (sd_dp (sd_cb s_tuple (sda_cons sd_var sda_nil)))))))
theorem sd_are_integers (b : Bd K mg) (S_is_integer : SdF K (sp_is_integer K w) w_is_integer) : SdF K (sp_are_integers K w) w_are_integers := by
  rw [w_are_integers_eq]
  exact sdf_of (ts := t_are_integers K w) (N := N_are_integers) rfl (fun vs H Q EX h => h) (by
  unfold t_are_integers
  exact (sds_ret (sd_andT (sd_isi2 sd_var) (sd_cb s_all (sda_cons (sd_lc (gin_name rfl) (sdi_any sd_var) sdg_name sdt_yes (sd_fn S_is_integer (sdc_p (sda_cons sd_var sda_nil)))) sda_nil)))))
theorem sd_Row_init (b : Bd K mg) (S_heights_of : SdF K (sp_heights_of K w) w_heights_of) (S_are_integers : SdF K (sp_are_integers K w) w_are_integers) : SdF K (sp_Row_init K w) w_Row_init := by
  rw [w_Row_init_eq]
  exact sdf_of (ts := t_Row_init K w) (N := N_Row_init) rfl (fun vs H Q EX h => h) (by
  unfold t_Row_init
  exact (sds_seq (sds_if (sdt_or (sdt_not (sdt_tru (sd_fn S_are_integers (sdc_p (sda_cons sd_var sda_nil))))) (sdt_test (sd_op s_eq (sd_cb s_len (sda_cons sd_var sda_nil)) sd_int))) sds_never sds_next)
  (sds_seq (sds_if (sdt_test (sd_op s_gt (sd_cb s_len (sda_cons sd_var sda_nil)) sd_int)) sds_never sds_next)
  (sds_seq (sds_fld (memC (na_Row_gains b) memN) sd_var (sd_cb s_tuple (sda_cons sd_var sda_nil)))
  (sds_seq (sds_fld (memC (na_Row_heights b) memN) sd_var (sd_fn S_heights_of (sdc_p (sda_cons sd_var sda_nil))))
  (sds_seq (sds_fld (memC (na_Row_days b) memN) sd_var (sd_cb s_len (sda_cons sd_var sda_nil)))
  (sds_fld (memC (na_Row_total b) memN) sd_var (sd_op s_ix (sd_fld sd_var) (sd_un s_neg sd_int)))))))))
theorem sd_Row_times (b : Bd K mg) (S_Row_init : SdF K (sp_Row_init K w) w_Row_init) (S_need_number : SdF K (sp_need_number K w) w_need_number) : SdF K (sp_Row_times K w) w_Row_times := by
  rw [w_Row_times_eq]
  exact sdf_of (ts := t_Row_times K w) (N := N_Row_times) rfl (fun vs H Q EX h => h) (by
  unfold t_Row_times
  exact (sds_seq (sds_drop (sd_fn S_need_number (sdc_p (sda_cons sd_var (sda_cons sd_str (sda_cons sd_non (sda_cons sd_non sda_nil)))))))
  (sds_ret (sd_new S_Row_init ⟨cl_Row b, ty_Row b, fun f hf => nomatch hf⟩ (sdc_p (sda_cons (sd_lc (gin_name rfl) (sdi_any (sd_fld sd_var)) sdg_name sdt_yes (sd_op s_mulT sd_var sd_var)) sda_nil))))))
theorem sd_Row_plus (b : Bd K mg) (S_Row_init : SdF K (sp_Row_init K w) w_Row_init) (S_need_number : SdF K (sp_need_number K w) w_need_number) : SdF K (sp_Row_plus K w) w_Row_plus := by
  rw [w_Row_plus_eq]
  exact sdf_of (ts := t_Row_plus K w) (N := N_Row_plus) rfl (fun vs H Q EX h => h) (by
  unfold t_Row_plus
  exact (sds_seq (sds_drop (sd_fn S_need_number (sdc_p (sda_cons sd_var (sda_cons sd_str (sda_cons sd_non (sda_cons sd_non sda_nil)))))))
  (sds_ret (sd_new S_Row_init ⟨cl_Row b, ty_Row b, fun f hf => nomatch hf⟩ (sdc_p (sda_cons (sd_lc (gin_name rfl) (sdi_any (sd_fld sd_var)) sdg_name sdt_yes (sd_op s_add sd_var sd_var)) sda_nil))))))
theorem sd_levelled (b : Bd K mg) (S_Row_times : SdF K (sp_Row_times K w) w_Row_times) (S_Row_plus : SdF K (sp_Row_plus K w) w_Row_plus) (S_need_row : SdF K (sp_need_row K w) w_need_row) : SdF K (sp_levelled K w) w_levelled := by
  rw [w_levelled_eq]
  exact sdf_of (ts := t_levelled K w) (N := N_levelled) rfl (fun vs H Q EX h => h) (by
  unfold t_levelled
  exact (sds_seq (sds_drop (sd_fn S_need_row (sdc_p (sda_cons sd_var (sda_cons sd_str sda_nil)))))
  (sds_ret (sd_mt S_Row_plus (sd_mt S_Row_times sd_var (sdc_p (sda_cons (sd_fld sd_var) sda_nil))) (sdc_p (sda_cons (sd_un s_neg (sd_fld sd_var)) sda_nil))))))
theorem sd_law_lengths_right (b : Bd K mg) (S_Row_eq : SdF K (sp_Row_eq K w) w_Row_eq) (S_Row_len : SdF K (sp_Row_len K w) w_Row_len) (S_sort_of : SdF K (sp_sort_of K w) w_sort_of) (S_sums : SdF K (sp_sums K w) w_sums) (S_law_sums : SdF K (sp_law_sums K w) w_law_sums) (S_levelled : SdF K (sp_levelled K w) w_levelled) : SdF K (sp_law_lengths_right K w) w_law_lengths_right := by
  rw [w_law_lengths_right_eq]
  exact sdf_of (ts := t_law_lengths_right K w) (N := N_law_lengths_right) rfl (fun vs H Q EX h => h) (by
  unfold t_law_lengths_right
  exact (sds_seq (sds_asg (sd_tup (sda_cons (sd_cb (s_lenO S_Row_len s_len) (sda_cons sd_var sda_nil)) (sda_cons (sd_cb s_sum (sda_cons sd_var sda_nil)) (sda_cons (sd_fn S_levelled (sdc_p (sda_cons sd_var sda_nil))) sda_nil)))) (sdg_tup (sdgs_cons sdg_name (sdgs_cons sdg_name (sdgs_cons sdg_name sdgs_nil)))))
  (sds_seq (sds_for (ks := [5, 6, 7, 8, 9, 10]) (sdi_r2 (sda_cons sd_int (sda_cons (sd_op s_add sd_var sd_int) sda_nil))) sdg_name (sds_seq (sds_asg (sd_fn S_law_sums (sdc_p (sda_cons sd_var (sda_cons sd_var sda_nil)))) sdg_name)
  (sds_seq (sds_if (sdt_test (sd_op (s_neO (memC (nf_NoneType_Row b) (memC (nf_bool_Row b) (memC (nf_int_Row b) (memC (nf_str_Row b) (memC (nf_list_Row b) (memC (nf_tuple_Row b) memN)))))) (memC (nfO_Row_Row b) memN) S_Row_eq s_ne) (sd_fn S_sums (sdc_p (sda_cons sd_var (sda_cons sd_var sda_nil)))) (sd_cb s_tuple (sda_cons (sd_lc (gin_name rfl) (sdi_any sd_var) sdg_name sdt_yes (sd_op s_sub (sd_op s_mulT sd_var sd_var) (sd_op s_mulT sd_var sd_var))) sda_nil)))) (sds_ret sd_bl) sds_next)
  (sds_seq (sds_par (sda_cons (sd_lc (gin_name rfl) (sdi_any sd_var) sdg_name (sdt_test (sd_op s_gt (sd_op s_mulT sd_var sd_var) (sd_op s_mulT sd_var sd_var))) sd_var) (sda_cons (sd_lc (gin_name rfl) (sdi_any sd_var) sdg_name (sdt_test (sd_op s_lt (sd_op s_mulT sd_var sd_var) (sd_op s_mulT sd_var sd_var))) sd_var) sda_nil)))
  (sds_seq (sds_asg (sd_fn S_sort_of (sdc_p (sda_cons sd_var (sda_cons sd_var sda_nil)))) sdg_name)
  (sds_seq (sds_if (sdt_or (sdt_test (sd_op (s_neO (memC (nf_NoneType_Row b) (memC (nf_bool_Row b) (memC (nf_int_Row b) (memC (nf_str_Row b) (memC (nf_list_Row b) (memC (nf_tuple_Row b) memN)))))) (memC (nfO_Row_Row b) memN) S_Row_eq s_ne) (sd_op (s_eqO (memC (nf_NoneType_Row b) (memC (nf_bool_Row b) (memC (nf_int_Row b) (memC (nf_str_Row b) (memC (nf_list_Row b) (memC (nf_tuple_Row b) memN)))))) (memC (nfO_Row_Row b) memN) S_Row_eq s_eq) sd_var sd_str) (sd_op (s_eqO (memC (nf_NoneType_Row b) (memC (nf_bool_Row b) (memC (nf_int_Row b) (memC (nf_str_Row b) (memC (nf_list_Row b) (memC (nf_tuple_Row b) memN)))))) (memC (nfO_Row_Row b) memN) S_Row_eq s_eq) (sd_cb (s_lenO S_Row_len s_len) (sda_cons sd_var sda_nil)) (sd_cb (s_lenO S_Row_len s_len) (sda_cons sd_var sda_nil))))) (sdt_or (sdt_test (sd_op (s_neO (memC (nf_NoneType_Row b) (memC (nf_bool_Row b) (memC (nf_int_Row b) (memC (nf_str_Row b) (memC (nf_list_Row b) (memC (nf_tuple_Row b) memN)))))) (memC (nfO_Row_Row b) memN) S_Row_eq s_ne) (sd_op (s_eqO (memC (nf_NoneType_Row b) (memC (nf_bool_Row b) (memC (nf_int_Row b) (memC (nf_str_Row b) (memC (nf_list_Row b) (memC (nf_tuple_Row b) memN)))))) (memC (nfO_Row_Row b) memN) S_Row_eq s_eq) sd_var sd_str) (sd_op (s_eqO (memC (nf_NoneType_Row b) (memC (nf_bool_Row b) (memC (nf_int_Row b) (memC (nf_str_Row b) (memC (nf_list_Row b) (memC (nf_tuple_Row b) memN)))))) (memC (nfO_Row_Row b) memN) S_Row_eq s_eq) (sd_cb (s_lenO S_Row_len s_len) (sda_cons sd_var sda_nil)) (sd_cb (s_lenO S_Row_len s_len) (sda_cons sd_var sda_nil))))) (sdt_test (sd_op (s_neO (memC (nf_NoneType_Row b) (memC (nf_bool_Row b) (memC (nf_int_Row b) (memC (nf_str_Row b) (memC (nf_list_Row b) (memC (nf_tuple_Row b) memN)))))) (memC (nfO_Row_Row b) memN) S_Row_eq s_ne) (sd_op (s_eqO (memC (nf_NoneType_Row b) (memC (nf_bool_Row b) (memC (nf_int_Row b) (memC (nf_str_Row b) (memC (nf_list_Row b) (memC (nf_tuple_Row b) memN)))))) (memC (nfO_Row_Row b) memN) S_Row_eq s_eq) sd_var sd_str) (sd_op (s_eqO (memC (nf_NoneType_Row b) (memC (nf_bool_Row b) (memC (nf_int_Row b) (memC (nf_str_Row b) (memC (nf_list_Row b) (memC (nf_tuple_Row b) memN)))))) (memC (nfO_Row_Row b) memN) S_Row_eq s_eq) (sd_op s_add sd_var sd_var) (sd_lst sda_nil)))))) (sds_ret sd_bl) sds_next)
  (sds_if (sdt_and (sdt_test (sd_op (s_eqO (memC (nf_NoneType_Row b) (memC (nf_bool_Row b) (memC (nf_int_Row b) (memC (nf_str_Row b) (memC (nf_list_Row b) (memC (nf_tuple_Row b) memN)))))) (memC (nfO_Row_Row b) memN) S_Row_eq s_eq) (sd_op s_md (sd_cb s_int (sda_cons sd_var sda_nil)) sd_var) sd_int)) (sdt_test (sd_op s_in sd_var (sd_tup (sda_cons sd_str (sda_cons sd_str sda_nil)))))) (sds_ret sd_bl) sds_next)))))))
  (sds_ret sd_bl))))
theorem sd_measure (b : Bd K mg)  : SdF K (sp_measure K w) w_measure := by
  rw [w_measure_eq]
  exact sdf_of (ts := t_measure K w) (N := N_measure) rfl (fun vs H Q EX h => h) (by
  unfold t_measure
  exact (sds_seq (sds_par (sda_cons (sd_cb s_abs (sda_cons sd_var sda_nil)) (sda_cons (sd_cb s_abs (sda_cons sd_var sda_nil)) sda_nil)))
  (sds_seq (sds_while (ks := []) (sdt_test (sd_op s_ne sd_var sd_int)) (sds_par (sda_cons sd_var (sda_cons (sd_op s_md sd_var sd_var) sda_nil))))
  (sds_ret sd_var))))
theorem sd_in_lowest (b : Bd K mg) (S_measure : SdF K (sp_measure K w) w_measure) : SdF K (sp_in_lowest K w) w_in_lowest := by
  rw [w_in_lowest_eq]
  exact sdf_of (ts := t_in_lowest K w) (N := N_in_lowest) rfl (fun vs H Q EX h => h) (by
  unfold t_in_lowest
  exact (sds_seq (sds_asg (sd_if (sdt_test (sd_op s_gt sd_var sd_int)) (sd_fn S_measure (sdc_p (sda_cons sd_var (sda_cons sd_var sda_nil)))) (sd_un s_neg (sd_fn S_measure (sdc_p (sda_cons sd_var (sda_cons sd_var sda_nil)))))) sdg_name)
  (sds_ret (sd_tup (sda_cons (sd_op s_fd sd_var sd_var) (sda_cons (sd_op s_fd sd_var sd_var) sda_nil))))))
theorem sd_steady (b : Bd K mg) (S_in_lowest : SdF K (sp_in_lowest K w) w_in_lowest) (S_need_row : SdF K (sp_need_row K w) w_need_row) : SdF K (sp_steady K w) w_steady := by
  rw [w_steady_eq]
  exact sdf_of (ts := t_steady K w) (N := N_steady) rfl (fun vs H Q EX h => h) (by
  unfold t_steady
  exact (sds_seq (sds_drop (sd_fn S_need_row (sdc_p (sda_cons sd_var (sda_cons sd_str sda_nil)))))
  (sds_ret (sd_fn S_in_lowest (sdc_p (sda_cons (sd_fld sd_var) (sda_cons (sd_fld sd_var) sda_nil)))))))
theorem sd_law_part (b : Bd K mg) (S_Row_eq : SdF K (sp_Row_eq K w) w_Row_eq) : SdF K (sp_law_part K w) w_law_part := by
  rw [w_law_part_eq]
  exact sdf_of (ts := t_law_part K w) (N := N_law_part) rfl (fun vs H Q EX h => h) (by
  unfold t_law_part
  exact (sds_seq (sds_asg (sd_op s_ix (sd_lc (gin_name rfl) (sdi_r3 (sda_cons sd_var (sda_cons sd_int (sda_cons (sd_un s_neg sd_int) sda_nil)))) sdg_name (sdt_and (sdt_test (sd_op (s_eqO (memC (nf_NoneType_Row b) (memC (nf_bool_Row b) (memC (nf_int_Row b) (memC (nf_str_Row b) (memC (nf_list_Row b) (memC (nf_tuple_Row b) memN)))))) (memC (nfO_Row_Row b) memN) S_Row_eq s_eq) (sd_op s_md (sd_cb s_int (sda_cons sd_var sda_nil)) sd_var) sd_int)) (sdt_test (sd_op (s_eqO (memC (nf_NoneType_Row b) (memC (nf_bool_Row b) (memC (nf_int_Row b) (memC (nf_str_Row b) (memC (nf_list_Row b) (memC (nf_tuple_Row b) memN)))))) (memC (nfO_Row_Row b) memN) S_Row_eq s_eq) (sd_op s_md (sd_cb s_int (sda_cons sd_var sda_nil)) sd_var) sd_int))) sd_var) sd_int) sdg_name)
  (sds_ret (sd_tup (sda_cons (sd_cb s_int (sda_cons (sd_op s_fd sd_var sd_var) sda_nil)) (sda_cons (sd_cb s_int (sda_cons (sd_op s_fd sd_var sd_var) sda_nil)) sda_nil))))))
theorem sd_Row_backwards (b : Bd K mg) (S_Row_init : SdF K (sp_Row_init K w) w_Row_init) : SdF K (sp_Row_backwards K w) w_Row_backwards := by
  rw [w_Row_backwards_eq]
  exact sdf_of (ts := t_Row_backwards K w) (N := N_Row_backwards) rfl (fun vs H Q EX h => h) (by
  unfold t_Row_backwards
  exact (sds_ret (sd_new S_Row_init ⟨cl_Row b, ty_Row b, fun f hf => nomatch hf⟩ (sdc_p (sda_cons (sd_rev (sd_fld sd_var)) sda_nil)))))
theorem sd_is_level (b : Bd K mg) (S_need_row : SdF K (sp_need_row K w) w_need_row) : SdF K (sp_is_level K w) w_is_level := by
  rw [w_is_level_eq]
  exact sdf_of (ts := t_is_level K w) (N := N_is_level) rfl (fun vs H Q EX h => h) (by
  unfold t_is_level
  exact (sds_seq (sds_drop (sd_fn S_need_row (sdc_p (sda_cons sd_var (sda_cons sd_str sda_nil)))))
  (sds_ret (sd_op s_eq (sd_fld sd_var) sd_int))))
theorem sd_law_drip (b : Bd K mg) (S_Row_len : SdF K (sp_Row_len K w) w_Row_len) (S_Row_eq : SdF K (sp_Row_eq K w) w_Row_eq) : SdF K (sp_law_drip K w) w_law_drip := by
  rw [w_law_drip_eq]
  exact sdf_of (ts := t_law_drip K w) (N := N_law_drip) rfl (fun vs H Q EX h => h) (by
  unfold t_law_drip
  exact (sds_seq (sds_if (sdt_test (sd_op s_gt (sd_op s_ix sd_var sd_int) sd_int)) (sds_seq (sds_asg (sd_op s_md (sd_cb s_int (sda_cons (sd_op s_ix sd_var sd_int) sda_nil)) sd_var) sdg_name)
  (sds_seq (sds_asg (sd_op s_fd (sd_cb s_int (sda_cons (sd_op s_ix sd_var sd_int) sda_nil)) sd_var) (sdg_sub sd_var sd_int))
  (sds_ret sd_var))) sds_next)
  (sds_seq (sds_asg (sd_op s_ix sd_var sd_int) sdg_name)
  (sds_seq (sds_asg (sd_op s_add sd_var sd_int) (sdg_sub sd_var sd_int))
  (sds_seq (sds_asg (sd_op s_add (sd_op s_mulT sd_int sd_var) sd_int) sdg_name)
  (sds_seq (sds_if (sdt_test (sd_op (s_neO (memC (nf_NoneType_Row b) (memC (nf_bool_Row b) (memC (nf_int_Row b) (memC (nf_str_Row b) (memC (nf_list_Row b) (memC (nf_tuple_Row b) memN)))))) (memC (nfO_Row_Row b) memN) S_Row_eq s_ne) (sd_op s_ix sd_var sd_int) (sd_lst sda_nil))) (sds_asg (sd_op s_ix (sd_op s_ix sd_var sd_int) (sd_op s_md (sd_cb s_int (sda_cons sd_var sda_nil)) (sd_cb (s_lenO S_Row_len s_len) (sda_cons (sd_op s_ix sd_var sd_int) sda_nil)))) sdg_name) sds_next)
  (sds_seq (sds_if (sdt_and (sdt_test (sd_op s_lt sd_var (sd_cb (s_lenO S_Row_len s_len) (sda_cons (sd_op s_ix sd_var sd_int) sda_nil)))) (sdt_test (sd_op s_ge (sd_cb s_abs (sda_cons sd_var sda_nil)) (sd_op s_pw sd_int sd_int)))) (sds_seq (sds_asg (sd_op s_add (sd_op s_mulT sd_int (sd_op s_sub (sd_cb s_abs (sda_cons sd_var sda_nil)) (sd_op s_pw sd_int sd_int))) (sd_cb s_int (sda_cons (sd_op s_lt sd_var sd_int) sda_nil))) sdg_name)
  (sds_seq (sds_asg (sd_op s_fd (sd_cb s_int (sda_cons sd_var sda_nil)) sd_var) (sdg_sub sd_var sd_int))
  (sds_ret (sd_op s_md (sd_cb s_int (sda_cons sd_var sda_nil)) sd_var)))) sds_next)
  (sds_seq (sds_asg (sd_op s_md (sd_cb s_int (sda_cons (sd_op s_pw (sd_op s_add (sd_op s_add (sd_op s_md (sd_cb s_int (sda_cons sd_var sda_nil)) sd_int) (sd_op s_mulT sd_int sd_var)) sd_int) sd_int) sda_nil)) sd_int) sdg_name)
  (sds_seq (sds_asg (sd_op s_md (sd_cb s_int (sda_cons (sd_op s_pw (sd_op s_add (sd_op s_add (sd_op s_mulT sd_var (sd_op s_add (sd_op s_mulT sd_int sd_var) sd_int)) (sd_op s_mulT (sd_op s_mulT sd_int sd_var) sd_var)) sd_int) sd_int) sda_nil)) sd_int) sdg_name)
  (sds_ret (sd_op s_md (sd_cb s_int (sda_cons (sd_op s_fd sd_var sd_int) sda_nil)) sd_var)))))))))))
theorem sd_law_any (b : Bd K mg) (S_law_drip : SdF K (sp_law_drip K w) w_law_drip) (S_Row_len : SdF K (sp_Row_len K w) w_Row_len) : SdF K (sp_law_any K w) w_law_any := by
  rw [w_law_any_eq]
  exact sdf_of (ts := t_law_any K w) (N := N_law_any) rfl (fun vs H Q EX h => h) (by
  unfold t_law_any
  exact (sds_ret (sd_op s_ix sd_var (sd_fn S_law_drip (sdc_p (sda_cons sd_var (sda_cons (sd_cb (s_lenO S_Row_len s_len) (sda_cons sd_var sda_nil)) sda_nil)))))))
theorem sd_law_plain_right (b : Bd K mg) (S_Row_eq : SdF K (sp_Row_eq K w) w_Row_eq) (S_Row_times : SdF K (sp_Row_times K w) w_Row_times) (S_levelled : SdF K (sp_levelled K w) w_levelled) (S_steady : SdF K (sp_steady K w) w_steady) (S_Row_plus : SdF K (sp_Row_plus K w) w_Row_plus) (S_law_part : SdF K (sp_law_part K w) w_law_part) (S_Row_backwards : SdF K (sp_Row_backwards K w) w_Row_backwards) (S_is_level : SdF K (sp_is_level K w) w_is_level) (S_law_any : SdF K (sp_law_any K w) w_law_any) (S_Row_len : SdF K (sp_Row_len K w) w_Row_len) : SdF K (sp_law_plain_right K w) w_law_plain_right := by
  rw [w_law_plain_right_eq]
  exact sdf_of (ts := t_law_plain_right K w) (N := N_law_plain_right) rfl (fun vs H Q EX h => h) (by
  unfold t_law_plain_right
  exact (sds_seq (sds_asg (sd_tup (sda_cons (sd_cb (s_lenO S_Row_len s_len) (sda_cons sd_var sda_nil)) (sda_cons (sd_cb s_sum (sda_cons sd_var sda_nil)) (sda_cons (sd_fn S_law_any (sdc_p (sda_cons sd_var (sda_cons (sd_lst (sda_cons sd_int (sda_cons (sd_un s_neg sd_int) (sda_cons sd_int (sda_cons (sd_op s_pw sd_int sd_int) sda_nil))))) sda_nil)))) sda_nil)))) (sdg_tup (sdgs_cons sdg_name (sdgs_cons sdg_name (sdgs_cons sdg_name sdgs_nil)))))
  (sds_seq (sds_par (sda_cons (sd_fnK S_levelled (sdc_k (sda_cons sd_var sda_nil))) (sda_cons (sd_fnK S_is_level (sdc_k (sda_cons sd_var sda_nil))) sda_nil)))
  (sds_seq (sds_if (sdt_or (sdt_not (sdt_tru (sd_cb (s_isi (ct_ok b)) (sda_cons sd_var (sda_cons sd_ty sda_nil))))) (sdt_or (sdt_test (sd_op (s_neO (memC (nf_NoneType_Row b) (memC (nf_bool_Row b) (memC (nf_int_Row b) (memC (nf_str_Row b) (memC (nf_list_Row b) (memC (nf_tuple_Row b) memN)))))) (memC (nfO_Row_Row b) memN) S_Row_eq s_ne) sd_var (sd_op (s_eqO (memC (nf_NoneType_Row b) (memC (nf_bool_Row b) (memC (nf_int_Row b) (memC (nf_str_Row b) (memC (nf_list_Row b) (memC (nf_tuple_Row b) memN)))))) (memC (nfO_Row_Row b) memN) S_Row_eq s_eq) sd_var sd_int))) (sdt_or (sdt_test (sd_op (s_neO (memC (nf_NoneType_Row b) (memC (nf_bool_Row b) (memC (nf_int_Row b) (memC (nf_str_Row b) (memC (nf_list_Row b) (memC (nf_tuple_Row b) memN)))))) (memC (nfO_Row_Row b) memN) S_Row_eq s_ne) (sd_fnK S_steady (sdc_k (sda_cons sd_var sda_nil))) (sd_fn S_law_part (sdc_p (sda_cons sd_var (sda_cons sd_var sda_nil)))))) (sdt_not (sdt_tru (sd_cb (s_isi (ct_ok b)) (sda_cons (sd_fn S_steady (sdc_p (sda_cons sd_var sda_nil))) (sda_cons sd_ty sda_nil)))))))) (sds_ret sd_bl) sds_next)
  (sds_seq (sds_if (sdt_or (sdt_test (sd_op (s_neO (memC (nf_NoneType_Row b) (memC (nf_bool_Row b) (memC (nf_int_Row b) (memC (nf_str_Row b) (memC (nf_list_Row b) (memC (nf_tuple_Row b) memN)))))) (memC (nfO_Row_Row b) memN) S_Row_eq s_ne) (sd_fld sd_var) (sd_cb s_tuple (sda_cons (sd_lc (gin_name rfl) (sdi_any sd_var) sdg_name sdt_yes (sd_op s_sub (sd_op s_mulT sd_var sd_var) sd_var)) sda_nil)))) (sdt_or (sdt_test (sd_op s_isnB (sd_fn S_is_level (sdc_p (sda_cons sd_var sda_nil))) sd_bl)) (sdt_test (sd_op (s_neO (memC (nf_NoneType_Row b) (memC (nf_bool_Row b) (memC (nf_int_Row b) (memC (nf_str_Row b) (memC (nf_list_Row b) (memC (nf_tuple_Row b) memN)))))) (memC (nfO_Row_Row b) memN) S_Row_eq s_ne) (sd_fn S_steady (sdc_p (sda_cons sd_var sda_nil))) (sd_tup (sda_cons sd_int (sda_cons sd_int sda_nil))))))) (sds_ret sd_bl) sds_next)
  (sds_seq (sds_if (sdt_or (sdt_test (sd_op (s_neO (memC (nf_NoneType_Row b) (memC (nf_bool_Row b) (memC (nf_int_Row b) (memC (nf_str_Row b) (memC (nf_list_Row b) (memC (nf_tuple_Row b) memN)))))) (memC (nfO_Row_Row b) memN) S_Row_eq s_ne) (sd_fn S_levelled (sdc_p (sda_cons (sd_mt S_Row_plus sd_var (sdc_p (sda_cons sd_var sda_nil))) sda_nil))) sd_var)) (sdt_or (sdt_test (sd_op (s_neO (memC (nf_NoneType_Row b) (memC (nf_bool_Row b) (memC (nf_int_Row b) (memC (nf_str_Row b) (memC (nf_list_Row b) (memC (nf_tuple_Row b) memN)))))) (memC (nfO_Row_Row b) memN) S_Row_eq s_ne) (sd_fn S_levelled (sdc_p (sda_cons (sd_mt S_Row_times sd_var (sdc_p (sda_cons sd_var sda_nil))) sda_nil))) (sd_mt S_Row_times sd_var (sdc_p (sda_cons sd_var sda_nil))))) (sdt_test (sd_op (s_neO (memC (nf_NoneType_Row b) (memC (nf_bool_Row b) (memC (nf_int_Row b) (memC (nf_str_Row b) (memC (nf_list_Row b) (memC (nf_tuple_Row b) memN)))))) (memC (nfO_Row_Row b) memN) S_Row_eq s_ne) (sd_fn S_levelled (sdc_p (sda_cons (sd_mt S_Row_backwards sd_var (sdc_p sda_nil)) sda_nil))) (sd_mt S_Row_backwards sd_var (sdc_p sda_nil)))))) (sds_ret sd_bl) sds_next)
  (sds_seq (sds_if (sdt_or (sdt_test (sd_op (s_neO (memC (nf_NoneType_Row b) (memC (nf_bool_Row b) (memC (nf_int_Row b) (memC (nf_str_Row b) (memC (nf_list_Row b) (memC (nf_tuple_Row b) memN)))))) (memC (nfO_Row_Row b) memN) S_Row_eq s_ne) (sd_fn S_steady (sdc_p (sda_cons (sd_mt S_Row_plus sd_var (sdc_p (sda_cons sd_var sda_nil))) sda_nil))) (sd_fn S_law_part (sdc_p (sda_cons (sd_op s_add sd_var (sd_op s_mulT sd_var sd_var)) (sda_cons sd_var sda_nil)))))) (sdt_test (sd_op (s_neO (memC (nf_NoneType_Row b) (memC (nf_bool_Row b) (memC (nf_int_Row b) (memC (nf_str_Row b) (memC (nf_list_Row b) (memC (nf_tuple_Row b) memN)))))) (memC (nfO_Row_Row b) memN) S_Row_eq s_ne) (sd_fld sd_var) (sd_cb s_tuple (sda_cons sd_var sda_nil))))) (sds_ret sd_bl) sds_next)
  (sds_ret (sd_andT (sd_op (s_eqO (memC (nf_NoneType_Row b) (memC (nf_bool_Row b) (memC (nf_int_Row b) (memC (nf_str_Row b) (memC (nf_list_Row b) (memC (nf_tuple_Row b) memN)))))) (memC (nfO_Row_Row b) memN) S_Row_eq s_eq) (sd_fn S_levelled (sdc_p (sda_cons sd_var sda_nil))) (sd_mt S_Row_times sd_var (sdc_p (sda_cons sd_var sda_nil)))) (sd_orT (sd_op (s_neO (memC (nf_NoneType_Row b) (memC (nf_bool_Row b) (memC (nf_int_Row b) (memC (nf_str_Row b) (memC (nf_list_Row b) (memC (nf_tuple_Row b) memN)))))) (memC (nfO_Row_Row b) memN) S_Row_eq s_ne) sd_var sd_int) (sd_op (s_eqO (memC (nf_NoneType_Row b) (memC (nf_bool_Row b) (memC (nf_int_Row b) (memC (nf_str_Row b) (memC (nf_list_Row b) (memC (nf_tuple_Row b) memN)))))) (memC (nfO_Row_Row b) memN) S_Row_eq s_eq) sd_var (sd_mt S_Row_times sd_var (sdc_p (sda_cons sd_var sda_nil))))))))))))))
theorem sd_law_known (b : Bd K mg) (S_law_any : SdF K (sp_law_any K w) w_law_any) : SdF K (sp_law_known K w) w_law_known := by
  rw [w_law_known_eq]
  exact sdf_of (ts := t_law_known K w) (N := N_law_known) rfl (fun vs H Q EX h => h) (by
  unfold t_law_known
  exact (sds_ret (sd_fn S_law_any (sdc_p (sda_cons sd_var (sda_cons (sd_lst (sda_cons (sd_lst (sda_cons (sd_un s_neg sd_int) (sda_cons sd_int (sda_cons (sd_un s_neg sd_int) (sda_cons (sd_un s_neg sd_int) (sda_cons sd_int (sda_cons (sd_un s_neg sd_int) sda_nil))))))) (sda_cons (sd_lst (sda_cons sd_int (sda_cons sd_int (sda_cons (sd_un s_neg sd_int) (sda_cons sd_int (sda_cons sd_int (sda_cons sd_int (sda_cons (sd_un s_neg sd_int) (sda_cons sd_int (sda_cons sd_int (sda_cons (sd_un s_neg sd_int) (sda_cons sd_int (sda_cons sd_int (sda_cons sd_int (sda_cons (sd_un s_neg sd_int) (sda_cons sd_int (sda_cons sd_int sda_nil))))))))))))))))) (sda_cons (sd_lst (sda_cons (sd_un s_neg sd_int) (sda_cons sd_int (sda_cons (sd_un s_neg sd_int) (sda_cons (sd_un s_neg sd_int) (sda_cons sd_int (sda_cons sd_int (sda_cons (sd_un s_neg sd_int) sda_nil)))))))) (sda_cons (sd_lst (sda_cons sd_int (sda_cons (sd_un s_neg sd_int) (sda_cons sd_int (sda_cons (sd_un s_neg sd_int) (sda_cons sd_int sda_nil)))))) (sda_cons (sd_lst (sda_cons sd_int (sda_cons sd_int (sda_cons sd_int sda_nil)))) (sda_cons (sd_lst (sda_cons (sd_un s_neg sd_int) (sda_cons sd_int (sda_cons (sd_un s_neg sd_int) sda_nil)))) (sda_cons (sd_lst (sda_cons sd_int sda_nil)) sda_nil)))))))) sda_nil))))))
theorem sd_law_gains (b : Bd K mg) (S_Row_eq : SdF K (sp_Row_eq K w) w_Row_eq) (S_law_any : SdF K (sp_law_any K w) w_law_any) (S_law_drip : SdF K (sp_law_drip K w) w_law_drip) (S_Row_len : SdF K (sp_Row_len K w) w_Row_len) : SdF K (sp_law_gains K w) w_law_gains := by
  rw [w_law_gains_eq]
  exact sdf_of (ts := t_law_gains K w) (N := N_law_gains) rfl (fun vs H Q EX h => h) (by
  unfold t_law_gains
  exact (sds_seq (sds_asg (sd_fn S_law_drip (sdc_p (sda_cons sd_var (sda_cons sd_int sda_nil)))) sdg_name)
  (sds_seq (sds_if (sdt_test (sd_op s_lt sd_var sd_int)) (sds_ret (sd_dp (sd_lc (gin_name rfl) (sdi_r1 (sda_cons sd_var sda_nil)) sdg_name sdt_yes (sd_op s_sub (sd_fn S_law_drip (sdc_p (sda_cons sd_var (sda_cons sd_int sda_nil)))) sd_int)))) sds_next)
  (sds_seq (sds_if (sdt_test (sd_op (s_eqO (memC (nf_NoneType_Row b) (memC (nf_bool_Row b) (memC (nf_int_Row b) (memC (nf_str_Row b) (memC (nf_list_Row b) (memC (nf_tuple_Row b) memN)))))) (memC (nfO_Row_Row b) memN) S_Row_eq s_eq) sd_var sd_int)) (sds_ret (sd_dp (sd_lc (gin_name rfl) (sdi_r1 (sda_cons sd_var sda_nil)) sdg_name sdt_yes (sd_fn S_law_any (sdc_p (sda_cons sd_var (sda_cons (sd_lst (sda_cons sd_int (sda_cons sd_int (sda_cons sd_int (sda_cons sd_int (sda_cons (sd_un s_neg sd_int) sda_nil)))))) sda_nil))))))) sds_next)
  (sds_seq (sds_if (sdt_test (sd_op (s_eqO (memC (nf_NoneType_Row b) (memC (nf_bool_Row b) (memC (nf_int_Row b) (memC (nf_str_Row b) (memC (nf_list_Row b) (memC (nf_tuple_Row b) memN)))))) (memC (nfO_Row_Row b) memN) S_Row_eq s_eq) sd_var sd_int)) (sds_ret (sd_dp (sd_lc (gin_name rfl) (sdi_r1 (sda_cons sd_var sda_nil)) sdg_name sdt_yes (sd_fn S_law_any (sdc_p (sda_cons sd_var (sda_cons (sd_lst (sda_cons (sd_op s_pw sd_int sd_int) (sda_cons (sd_op s_sub sd_int (sd_op s_pw sd_int sd_int)) (sda_cons (sd_op s_pw sd_int sd_int) (sda_cons sd_int (sda_cons (sd_un s_neg sd_int) (sda_cons sd_int sda_nil))))))) sda_nil))))))) sds_next)
  (sds_seq (sds_asg (sd_lc (gin_name rfl) (sdi_r1 (sda_cons (sd_op s_add sd_int (sd_fn S_law_drip (sdc_p (sda_cons sd_var (sda_cons sd_int sda_nil))))) sda_nil)) sdg_name sdt_yes (sd_op s_sub (sd_fn S_law_drip (sdc_p (sda_cons sd_var (sda_cons sd_int sda_nil)))) sd_int)) sdg_name)
  (sds_seq (sds_if (sdt_test (sd_op (s_eqO (memC (nf_NoneType_Row b) (memC (nf_bool_Row b) (memC (nf_int_Row b) (memC (nf_str_Row b) (memC (nf_list_Row b) (memC (nf_tuple_Row b) memN)))))) (memC (nfO_Row_Row b) memN) S_Row_eq s_eq) sd_var sd_int)) (sds_asg (sd_op s_sub (sd_op s_ix sd_var sd_int) (sd_cb s_sum (sda_cons sd_var sda_nil))) (sdg_sub sd_var sd_int)) sds_next)
  (sds_seq (sds_asg (sd_lc (gin_name rfl) (sdi_r1 (sda_cons sd_var sda_nil)) sdg_name sdt_yes (sd_op s_ix sd_var (sd_op s_md (sd_cb s_int (sda_cons sd_var sda_nil)) (sd_cb (s_lenO S_Row_len s_len) (sda_cons sd_var sda_nil))))) sdg_name)
  (sds_seq (sds_if (sdt_test (sd_op (s_eqO (memC (nf_NoneType_Row b) (memC (nf_bool_Row b) (memC (nf_int_Row b) (memC (nf_str_Row b) (memC (nf_list_Row b) (memC (nf_tuple_Row b) memN)))))) (memC (nfO_Row_Row b) memN) S_Row_eq s_eq) sd_var sd_int)) (sds_seq (sds_asg (sd_fn S_law_drip (sdc_p (sda_cons sd_var (sda_cons sd_var sda_nil)))) sdg_name)
  (sds_asg (sd_op s_add (sd_op s_ix sd_var sd_var) (sd_fn S_law_any (sdc_p (sda_cons sd_var (sda_cons (sd_lst (sda_cons sd_int (sda_cons (sd_un s_neg sd_int) (sda_cons sd_int sda_nil)))) sda_nil))))) (sdg_sub sd_var sd_var))) sds_next)
  (sds_ret (sd_dp sd_var)))))))))))
theorem sd_law_tap (b : Bd K mg)  : SdF K (sp_law_tap K w) w_law_tap := by
  rw [w_law_tap_eq]
  exact sdf_of (ts := t_law_tap K w) (N := N_law_tap) rfl (fun vs H Q EX h => h) (by
  unfold t_law_tap
  exact (sds_ret (sd_lst (sda_cons (sd_lc (gin_name rfl) (sdi_any (sd_sl sd_var sdo_none (sdo_some sd_int))) sdg_name sdt_yes (sd_cb s_int (sda_cons sd_var sda_nil))) (sda_cons sd_int (sda_cons sd_int sda_nil))))))
theorem sd_law (b : Bd K mg) (S_law_lengths_right : SdF K (sp_law_lengths_right K w) w_law_lengths_right) (S_law_plain_right : SdF K (sp_law_plain_right K w) w_law_plain_right) (S_Row_init : SdF K (sp_Row_init K w) w_Row_init) (S_Row_eq : SdF K (sp_Row_eq K w) w_Row_eq) (S_law_known : SdF K (sp_law_known K w) w_law_known) (S_law_drip : SdF K (sp_law_drip K w) w_law_drip) (S_law_gains : SdF K (sp_law_gains K w) w_law_gains) (S_law_any : SdF K (sp_law_any K w) w_law_any) (S_law_tap : SdF K (sp_law_tap K w) w_law_tap) : SdF K (sp_law K w) w_law := by
  rw [w_law_eq]
  exact sdf_of (ts := t_law K w) (N := N_law) rfl (fun vs H Q EX h => h) (by
  unfold t_law
  exact (sds_seq (sds_asg (sd_fn S_law_tap (sdc_p (sda_cons sd_var sda_nil))) sdg_name)
  (sds_seq (sds_for (ks := [2, 4, 5]) (sdi_r1 (sda_cons sd_int sda_nil)) sdg_name (sds_seq (sds_asg (sd_fn S_law_gains (sdc_p (sda_cons sd_var (sda_cons (sd_fn S_law_any (sdc_p (sda_cons sd_var (sda_cons (sd_lst (sda_cons sd_int (sda_cons sd_int (sda_cons sd_int (sda_cons sd_int (sda_cons sd_int (sda_cons sd_int (sda_cons sd_int (sda_cons sd_int (sda_cons sd_int (sda_cons sd_int sda_nil))))))))))) sda_nil)))) sda_nil)))) sdg_name)
  (sds_seq (sds_asg (sd_fn S_law_drip (sdc_p (sda_cons sd_var (sda_cons sd_int sda_nil)))) sdg_name)
  (sds_seq (sds_if (sdt_test (sd_op (s_eqO (memC (nf_NoneType_Row b) (memC (nf_bool_Row b) (memC (nf_int_Row b) (memC (nf_str_Row b) (memC (nf_list_Row b) (memC (nf_tuple_Row b) memN)))))) (memC (nfO_Row_Row b) memN) S_Row_eq s_eq) sd_var sd_int)) (sds_asg (sd_fn S_law_known (sdc_p (sda_cons sd_var sda_nil))) sdg_name) sds_next)
  (sds_seq (sds_if (sdt_test (sd_op (s_eqO (memC (nf_NoneType_Row b) (memC (nf_bool_Row b) (memC (nf_int_Row b) (memC (nf_str_Row b) (memC (nf_list_Row b) (memC (nf_tuple_Row b) memN)))))) (memC (nfO_Row_Row b) memN) S_Row_eq s_eq) sd_var sd_int)) (sds_asg (sd_op s_sub (sd_op s_ix sd_var (sd_un s_neg sd_int)) (sd_cb s_sum (sda_cons sd_var sda_nil))) (sdg_sub sd_var (sd_un s_neg sd_int))) sds_next)
  (sds_frzA (sds_seq (sds_asg (sd_new S_Row_init ⟨cl_Row b, ty_Row b, fun f hf => nomatch hf⟩ (sdc_p (sda_cons sd_var sda_nil))) sdg_name)
  (sds_if (sdt_or (sdt_not (sdt_tru (sd_fn S_law_plain_right (sdc_p (sda_cons sd_var (sda_cons sd_var (sda_cons sd_var sda_nil))))))) (sdt_not (sdt_tru (sd_fn S_law_lengths_right (sdc_p (sda_cons sd_var (sda_cons sd_var sda_nil))))))) (sds_ret (sd_dp sd_bl)) sds_next))))))))
  (sds_ret (sd_dp sd_bl)))))
theorem sd_all (b : Bd K mg) : SdF K (sp_law K w) w_law := by
  have S_Row_eq : SdF K (sp_Row_eq K w) w_Row_eq := sd_Row_eq b 
  have S_Row_len : SdF K (sp_Row_len K w) w_Row_len := sd_Row_len b 
  have S_word_of : SdF K (sp_word_of K w) w_word_of := sd_word_of b 
  have S_sums_in : SdF K (sp_sums_in K w) w_sums_in := sd_sums_in b 
  have S_is_integer : SdF K (sp_is_integer K w) w_is_integer := sd_is_integer b 
  have S_is_within : SdF K (sp_is_within K w) w_is_within := sd_is_within b S_is_integer
  have S_need_number : SdF K (sp_need_number K w) w_need_number := sd_need_number b S_is_within
  have S_need_row : SdF K (sp_need_row K w) w_need_row := sd_need_row b 
  have S_need_length : SdF K (sp_need_length K w) w_need_length := sd_need_length b S_need_number S_need_row
  have S_sort_of : SdF K (sp_sort_of K w) w_sort_of := sd_sort_of b S_word_of S_sums_in S_need_length
  have S_sums : SdF K (sp_sums K w) w_sums := sd_sums b S_sums_in S_need_length
  have S_law_sums : SdF K (sp_law_sums K w) w_law_sums := sd_law_sums b S_Row_len
  have S_heights_of : SdF K (sp_heights_of K w) w_heights_of := sd_heights_of b 
  have S_are_integers : SdF K (sp_are_integers K w) w_are_integers := sd_are_integers b S_is_integer
  have S_Row_init : SdF K (sp_Row_init K w) w_Row_init := sd_Row_init b S_heights_of S_are_integers
  have S_Row_times : SdF K (sp_Row_times K w) w_Row_times := sd_Row_times b S_Row_init S_need_number
  have S_Row_plus : SdF K (sp_Row_plus K w) w_Row_plus := sd_Row_plus b S_Row_init S_need_number
  have S_levelled : SdF K (sp_levelled K w) w_levelled := sd_levelled b S_Row_times S_Row_plus S_need_row
  have S_law_lengths_right : SdF K (sp_law_lengths_right K w) w_law_lengths_right := sd_law_lengths_right b S_Row_eq S_Row_len S_sort_of S_sums S_law_sums S_levelled
  have S_measure : SdF K (sp_measure K w) w_measure := sd_measure b 
  have S_in_lowest : SdF K (sp_in_lowest K w) w_in_lowest := sd_in_lowest b S_measure
  have S_steady : SdF K (sp_steady K w) w_steady := sd_steady b S_in_lowest S_need_row
  have S_law_part : SdF K (sp_law_part K w) w_law_part := sd_law_part b S_Row_eq
  have S_Row_backwards : SdF K (sp_Row_backwards K w) w_Row_backwards := sd_Row_backwards b S_Row_init
  have S_is_level : SdF K (sp_is_level K w) w_is_level := sd_is_level b S_need_row
  have S_law_drip : SdF K (sp_law_drip K w) w_law_drip := sd_law_drip b S_Row_len S_Row_eq
  have S_law_any : SdF K (sp_law_any K w) w_law_any := sd_law_any b S_law_drip S_Row_len
  have S_law_plain_right : SdF K (sp_law_plain_right K w) w_law_plain_right := sd_law_plain_right b S_Row_eq S_Row_times S_levelled S_steady S_Row_plus S_law_part S_Row_backwards S_is_level S_law_any S_Row_len
  have S_law_known : SdF K (sp_law_known K w) w_law_known := sd_law_known b S_law_any
  have S_law_gains : SdF K (sp_law_gains K w) w_law_gains := sd_law_gains b S_Row_eq S_law_any S_law_drip S_Row_len
  have S_law_tap : SdF K (sp_law_tap K w) w_law_tap := sd_law_tap b 
  exact sd_law b S_law_lengths_right S_law_plain_right S_Row_init S_Row_eq S_law_known S_law_drip S_law_gains S_law_any S_law_tap
end
end K08

set_option Elab.async false
set_option linter.all false
set_option maxRecDepth 100000
set_option maxHeartbeats 4000000
namespace K08
open PySem PySem.Spec PyProof.Rows L2 Rl RZ RT Px
local macro_rules | `(tactic| walk_at "n") => `(tactic| first | assumption | rfl | omega | decide)
local macro_rules | `(tactic| walk_at "sz") => `(tactic| first | exact Nat.le_of_ble_eq_true rfl | omega | (simp only [List.length_append, List.length_cons, List.length_nil, List.length_map, List.length_reverse] at *; omega))
local macro_rules | `(tactic| walk_at "call") => `(tactic| fail)
local macro_rules | `(tactic| walk_at "h") => `(tactic| with_reducible first
  | apply br_t
  | apply br_f
  | apply br_not
  | (apply br_nonF; (· with_unfolding_all rfl))
  | (apply br_nonT; (· with_unfolding_all rfl))
  | (apply br_blF; (· with_unfolding_all rfl))
  | (apply br_blT; (· with_unfolding_all rfl))
  | apply br_bne
  | apply br_empL
  | (refine br_p ?_ ?_; (· with_unfolding_all walk_at "n"))
  | (refine br_n ?_ ?_; (· with_unfolding_all walk_at "n"))
  | (refine sz ?_ ?_; (· with_unfolding_all walk_at "sz"))
  | apply cell_mu
  | (apply cell_of; (· assumption))
  | (apply ern_mu; (· assumption))
  | apply mun_mu
  | apply cellI_mu
  | (apply cellI_of; (· assumption))
  | (apply fld; (· with_unfolding_all rfl))
  | (refine mt_d ?_ ?_; (· with_unfolding_all rfl))
  | (refine att_new ?_ ?_ ?_ ?_ ?_; (· with_unfolding_all rfl); (· with_unfolding_all rfl); (· with_unfolding_all exact List.Mem.head _); (· with_unfolding_all decide))
  | (refine att_set 0 ?_ ?_ ?_ ?_ ?_; (· with_unfolding_all rfl); (· with_unfolding_all rfl); (· with_unfolding_all exact List.Mem.head _); (· with_unfolding_all decide))
  | (refine att_set 1 ?_ ?_ ?_ ?_ ?_; (· with_unfolding_all rfl); (· with_unfolding_all rfl); (· with_unfolding_all exact List.Mem.head _); (· with_unfolding_all decide))
  | (refine att_set 2 ?_ ?_ ?_ ?_ ?_; (· with_unfolding_all rfl); (· with_unfolding_all rfl); (· with_unfolding_all exact List.Mem.head _); (· with_unfolding_all decide))
  | (refine att_set 3 ?_ ?_ ?_ ?_ ?_; (· with_unfolding_all rfl); (· with_unfolding_all rfl); (· with_unfolding_all exact List.Mem.head _); (· with_unfolding_all decide))
  | (apply isi_ttT; (· with_unfolding_all rfl); (· with_unfolding_all rfl))
  | (apply isi_ttF; (· with_unfolding_all rfl); (· with_unfolding_all rfl))
  | (apply isi_to; (· with_unfolding_all rfl); (· with_unfolding_all rfl))
  | (apply isi_ooT; (· with_unfolding_all rfl); (· with_unfolding_all rfl))
  | (apply isi_ooF; (· with_unfolding_all rfl); (· with_unfolding_all rfl))
  | (refine isi_ot ?_ ?_ ?_; (· with_unfolding_all rfl); (· with_unfolding_all decide))
  | (apply isi_2T; (· with_unfolding_all rfl); (· with_unfolding_all rfl))
  | (apply isi_2F; (· with_unfolding_all rfl); (· with_unfolding_all rfl))
  | apply ints_of
  | apply strs_of
  | apply bls_of
  | apply eq_tt
  | apply eq_ll
  | apply eq_l0
  | apply eq_00
  | apply eq_t0
  | apply eq_nonint
  | apply eq_intnon
  | apply eq_nonnon
  | apply eq_blbl
  | (refine rg ?_ ?_; (· with_unfolding_all first | decide | omega | (simp only [List.length_map]; omega)))
  | (refine fd_pos ?_ ?_; (· with_unfolding_all first | decide | omega | (simp only [List.length_map]; omega)))
  | (refine md_pos ?_ ?_; (· with_unfolding_all first | decide | omega | (simp only [List.length_map]; omega)))
  | (refine mul_l ?_ ?_; (· with_unfolding_all first | decide | omega | (simp only [List.length_map]; omega)))
  | (refine mul_r ?_ ?_; (· with_unfolding_all first | decide | omega | (simp only [List.length_map]; omega)))
  | (refine pw_of ?_ ?_ ?_; (· with_unfolding_all first | decide | omega | (simp only [List.length_map]; omega)); (· with_unfolding_all first | decide | omega | (simp only [List.length_map]; omega)))
  | (apply ix_of; (· with_unfolding_all rfl))
  | (apply set_mu; (· with_unfolding_all rfl))
  | apply same_of
  | (refine lenr ?_ ?_; (· with_unfolding_all omega))
  | (refine eq_own ?_ ?_; (· with_unfolding_all first | trivial | exact List.Mem.head _ | exact List.Mem.tail _ (List.Mem.head _)))
  | walk_at "call")
local macro_rules | `(tactic| walk_at "lc") => `(tactic| fail)
local macro_rules | `(tactic| walk_at "w") => `(tactic| ((repeat ((try conv => whnf); first | walk_at "h" | walk_at "lc")); try conv => whnf))
/-! ### lists of ints -/
theorem Li_len (l : List Int) : (Li l).length = l.length := by simp
theorem Li_app (l m : List Int) : Li l ++ Li m = Li (l ++ m) := by simp
theorem Li_rev (l : List Int) : (Li l).reverse = Li l.reverse := by simp
theorem cutD_Li (l : List Int) (lo hi : Option Int) : Px.cutD (Li l) lo hi = Li (Px.cutD l lo hi) := cutD_map _ _ _ _
theorem atI_Li {l : List Int} {i : Int} {x : Int} (h : atI l i = some x) : atI (Li l) i = some (.int x) := by
  unfold atI at h ⊢
  rw [Li_len]
  obtain ⟨j, e1, e2⟩ := Option.bind_eq_some_iff.mp h
  rw [e1]
  show (Li l)[j]? = _
  rw [List.getElem?_map, e2]; rfl
theorem atI_nn {α : Type} {l : List α} {i : Int} (h0 : 0 ≤ i) (h : i < l.length) : atI l i = some (l[i.toNat]'(by omega)) := by
  unfold atI ixN
  rw [if_pos h0, if_pos h]
  show l[i.toNat]? = _
  rw [List.getElem?_eq_getElem]
theorem ix_li {l : List Int} {i : Int} {k : D → Prop} (h0 : 0 ≤ i) (h : i < l.length) (hk : k (.int (l[i.toNat]'(by omega)))) : ixD (Li l) i k := ix_of (atI_Li (atI_nn h0 h)) hk
theorem ixn_nn {n : Nat} {i : Int} (h0 : 0 ≤ i) (h : i < n) : ixN n i = some i.toNat := by
  unfold ixN; rw [if_pos h0, if_pos h]
theorem set_Li (l : List Int) (n : Nat) (x : Int) : (Li l).set n (.int x) = Li (l.set n x) := by rw [← List.map_set]
/-- heights from s on -/
def hs : Int → List Int → List Int
  | s, [] => [s]
  | s, x :: xs => s :: hs (s + x) xs
def hts (l : List Int) : List Int := hs 0 l
theorem hs_len : ∀ (s : Int) (l : List Int), (hs s l).length = l.length + 1
  | _, [] => rfl
  | s, x :: xs => by simp [hs, hs_len]
theorem hs_app : ∀ (s : Int) (l : List Int) (x : Int), hs s (l ++ [x]) = hs s l ++ [s + l.sum + x]
  | s, [], x => by simp [hs]
  | s, y :: l, x => by
    have e : s + y + l.sum + x = s + (y + l.sum) + x := by omega
    simp only [List.cons_append, hs, hs_app, List.sum_cons, e]
theorem hs_get : ∀ (s : Int) (l : List Int) (i : Nat), i ≤ l.length → (hs s l)[i]? = some (s + (l.take i).sum)
  | s, [], i, h => by
    have : i = 0 := by simpa using h
    subst this; simp [hs]
  | s, x :: xs, 0, h => by simp [hs]
  | s, x :: xs, i + 1, h => by
    have z := hs_get (s + x) xs i (by simpa using h)
    simp only [hs, List.getElem?_cons_succ, z, List.take_succ_cons, List.sum_cons]
    congr 1; omega
theorem hts_len (l : List Int) : (hts l).length = l.length + 1 := hs_len 0 l
theorem hts_at (l : List Int) {i : Int} (h0 : 0 ≤ i) (h : i ≤ l.length) : atI (hts l) i = some ((l.take i.toNat).sum) := by
  unfold atI ixN
  rw [if_pos h0, if_pos (by rw [hts_len]; omega)]
  show (hs 0 l)[i.toNat]? = _
  rw [hs_get 0 l _ (by omega), Int.zero_add]
theorem ix_hts {l : List Int} {i : Int} {k : D → Prop} (h0 : 0 ≤ i) (h : i ≤ l.length) (hk : k (.int (l.take i.toNat).sum)) : ixD (Li (hts l)) i k := ix_of (atI_Li (hts_at l h0 h)) hk
theorem hts_last (l : List Int) : atI (hts l) (-1) = some l.sum := by
  unfold atI ixN
  rw [if_neg (by omega), if_pos (by rw [hts_len]; omega)]
  show (hs 0 l)[((-1 : Int) + (hts l).length).toNat]? = _
  rw [hts_len, show ((-1 : Int) + ((l.length + 1 : Nat) : Int)).toNat = l.length by omega, hs_get 0 l _ (Nat.le_refl _), List.take_length, Int.zero_add]
theorem hts_app (l : List Int) (x : Int) : hts (l ++ [x]) = hts l ++ [l.sum + x] := by
  unfold hts; rw [hs_app, Int.zero_add]
theorem hs_neg (s : Int) (l : List Int) : ((-1 : Int) : Int) = -1 := rfl
/-- the stretch -/
abbrev cut (l : List Int) (b n : Int) : List Int := Px.cutD l (some b) (some (b + n))
theorem cut_eq {l : List Int} {b n : Int} (h0 : 0 ≤ b) (h1 : 0 ≤ n) (h : b + n ≤ l.length) : cut l b n = (l.drop b.toNat).take n.toNat := by
  unfold cut Px.cutD HT.sIx
  simp only []
  rw [if_neg (by omega), if_neg (by omega), show min b.toNat l.length = b.toNat by omega, show min (b + n).toNat l.length - b.toNat = n.toNat by omega]
theorem cut_len {l : List Int} {b n : Int} (h0 : 0 ≤ b) (h1 : 0 ≤ n) (h : b + n ≤ l.length) : (cut l b n).length = n.toNat := by
  rw [cut_eq h0 h1 h, List.length_take, List.length_drop]; omega
theorem cut_sum {l : List Int} {b n : Int} (h0 : 0 ≤ b) (h1 : 0 ≤ n) (h : b + n ≤ l.length) : (l.take (b + n).toNat).sum - (l.take b.toNat).sum = (cut l b n).sum := by
  rw [cut_eq h0 h1 h, show (b + n).toNat = b.toNat + n.toNat by omega, List.take_add, List.sum_append]
  omega
theorem cut_from {l : List Int} {a : Int} (h0 : 0 ≤ a) : Px.cutD l (some a) none = l.drop a.toNat := by
  unfold Px.cutD HT.sIx
  simp only []
  rw [if_neg (by omega)]
  by_cases h : a ≤ l.length
  · rw [show min a.toNat l.length = a.toNat by omega, List.take_of_length_le (by rw [List.length_drop]; omega)]
  · rw [show min a.toNat l.length = l.length by omega, List.drop_of_length_le (by omega : l.length ≤ a.toNat)]; simp
theorem cut_to {l : List Int} {a : Int} (h0 : 0 ≤ a) : Px.cutD l none (some a) = l.take a.toNat := by
  unfold Px.cutD HT.sIx
  simp only []
  rw [if_neg (by omega)]
  by_cases h : a ≤ l.length
  · rw [show min a.toNat l.length = a.toNat by omega]; simp
  · rw [show min a.toNat l.length = l.length by omega, List.take_of_length_le (by omega : l.length ≤ a.toNat)]; simp
theorem rev_sum {l : List Int} {i : Int} (h0 : 0 ≤ i) (h : i ≤ l.length) : (l.reverse.take i.toNat).sum = (Px.cutD l (some ((l.length : Int) - i)) none).sum := by
  rw [cut_from (by omega), List.take_reverse, List.sum_reverse, show ((l.length : Int) - i).toNat = l.length - i.toNat by omega]
theorem cut_all (l : List Int) : cut l 0 l.length = l := by
  rw [cut_eq (by omega) (by omega) (by omega)]
  simp
theorem cut1 {α : Type} (xs : List α) : Px.cutD xs (some 1) none = xs.drop 1 := by
  unfold Px.cutD HT.sIx
  simp only []
  rw [if_neg (by omega), List.take_of_length_le (by rw [List.length_drop]; omega)]
  by_cases h : 1 ≤ xs.length
  · rw [show min (1 : Int).toNat xs.length = 1 by omega]
  · have : xs = [] := List.length_eq_zero_iff.mp (by omega)
    subst this; simp
/-! ### rows -/
abbrev rowN : List Str := ["gains", "heights", "days", "total"]
abbrev rowX (l : List Int) : List D := [.tup (Li l), .tup (Li (hts l)), .int (l.length : Nat), .int l.sum]
abbrev rowD (l : List Int) : D := .ins "Row" rowN (rowX l)
section
variable {M : Mem} {k : D → Mem → Prop} {E : XP}
theorem is_integer_i {i : Int} (hk : k (.bl true) M) : w_is_integer [.int i] M k E := by
  rw [w_is_integer_eq]
  walk_at "w"
  exact hk
local macro_rules | `(tactic| walk_at "call") => `(tactic| apply is_integer_i)
theorem all_true' (l : List Int) : (l.map fun _ => true).all id = true := by induction l <;> simp_all
theorem are_integers_l {l : List Int} (hl : l.length ≤ 16777216) (hk : k (.bl true) M) : w_are_integers [.lst (Li l)] M k E := by
  rw [w_are_integers_eq]
  walk_at "w"
  refine lc_int (fun _ => .bl true) gd0 hl (fun i hi K Z h => ?_) ?_
  · walk_at "w"
    exact h
  · refine bls_eq (l := l.map fun _ => true) (by simp) ?_
    rw [all_true']
    exact hk
theorem are_integers_t {l : List Int} (hl : l.length ≤ 16777216) (hk : k (.bl true) M) : w_are_integers [.tup (Li l)] M k E := by
  rw [w_are_integers_eq]
  walk_at "w"
  refine lc_int (fun _ => .bl true) gd0 hl (fun i hi K Z h => ?_) ?_
  · walk_at "w"
    exact h
  · refine bls_eq (l := l.map fun _ => true) (by simp) ?_
    rw [all_true']
    exact hk
/-- a list or a tuple of ints -/
inductive LT : D → List Int → Prop
  | l (l : List Int) : LT (.lst (Li l)) l
  | t (l : List Int) : LT (.tup (Li l)) l
theorem heights_of_ok {d : D} {l : List Int} (hd : LT d l) (hl : l.length < 1000000) (hk : k (.tup (Li (hts l))) M) : w_heights_of [d] M k E := by
  rw [w_heights_of_eq]
  walk_at "w"
  intro p hp
  have key : ∀ d, LT d l → ∀ {gd : List (Addr × List D)} {P : Ps}, GdM gd M → gd = [] → (P.nx [some d, some (.ref p), none] (mu M p (.lst (Li (hts l))))) → loopS gd (wgName 2) (wDrop (wBL dApp (wVar 1) (waCons (wOp (dAdd false) (wOp dIx (wVar 1) (wUn dNeg (wC (D.int 1)))) (wVar 2)) waNil))) [2] P E (Li l) [some d, some (.ref p), none] (mu M p (.lst [.int 0])) := fun d hd gd P _ hg h => by
    subst hg
    refine for_det (fun i => [some d, some (.ref p), none]) (fun i => mu M p (.lst (Li (hts (l.take i))))) rfl rfl (fun i _ => gd0) (fun i x hx K h => ?_) (by rw [Li_len, List.take_length]; exact h)
    obtain ⟨j, hj, rfl⟩ : ∃ j, l[i]? = some j ∧ x = .int j := by
      rw [List.getElem?_map] at hx
      obtain ⟨j, h1, h2⟩ := Option.map_eq_some_iff.mp hx
      exact ⟨j, h1, h2.symm⟩
    have hi := (List.getElem?_eq_some_iff.mp hj).1
    have e : hts (l.take (i + 1)) = hts (l.take i) ++ [(l.take i).sum + j] := by
      rw [List.take_succ, hj]; exact hts_app _ _
    walk_at "w"
    refine ix_of (atI_Li (hts_last _)) ?_
    walk_at "w"
    refine sz (by rw [Li_len, hts_len, List.length_take]; omega) ?_
    walk_at "w"
    rw [e, ← Li_app] at h
    exact h
  cases hd with
  | l =>
    walk_at "w"
    refine key _ (.l l) gd0 rfl ?_
    walk_at "w"
    exact hk
  | t =>
    walk_at "w"
    refine key _ (.t l) gd0 rfl ?_
    walk_at "w"
    exact hk
end
end K08

set_option Elab.async false
set_option linter.all false
set_option maxRecDepth 100000
set_option maxHeartbeats 4000000
namespace K08
open PySem PySem.Spec PyProof.Rows L2 Rl RZ RT Px
local macro_rules | `(tactic| walk_at "n") => `(tactic| first | assumption | rfl | omega | decide)
local macro_rules | `(tactic| walk_at "sz") => `(tactic| first | exact Nat.le_of_ble_eq_true rfl | omega | (simp only [List.length_append, List.length_cons, List.length_nil, List.length_map, List.length_reverse] at *; omega))
local macro_rules | `(tactic| walk_at "call") => `(tactic| fail)
local macro_rules | `(tactic| walk_at "h") => `(tactic| with_reducible first
  | apply br_t
  | apply br_f
  | apply br_not
  | (apply br_nonF; (· with_unfolding_all rfl))
  | (apply br_nonT; (· with_unfolding_all rfl))
  | (apply br_blF; (· with_unfolding_all rfl))
  | (apply br_blT; (· with_unfolding_all rfl))
  | apply br_bne
  | apply br_empL
  | (refine br_p ?_ ?_; (· with_unfolding_all walk_at "n"))
  | (refine br_n ?_ ?_; (· with_unfolding_all walk_at "n"))
  | (refine sz ?_ ?_; (· with_unfolding_all walk_at "sz"))
  | apply cell_mu
  | (apply cell_of; (· assumption))
  | (apply ern_mu; (· assumption))
  | apply mun_mu
  | apply cellI_mu
  | (apply cellI_of; (· assumption))
  | (apply fld; (· with_unfolding_all rfl))
  | (refine mt_d ?_ ?_; (· with_unfolding_all rfl))
  | (refine att_new ?_ ?_ ?_ ?_ ?_; (· with_unfolding_all rfl); (· with_unfolding_all rfl); (· with_unfolding_all exact List.Mem.head _); (· with_unfolding_all decide))
  | (refine att_set 0 ?_ ?_ ?_ ?_ ?_; (· with_unfolding_all rfl); (· with_unfolding_all rfl); (· with_unfolding_all exact List.Mem.head _); (· with_unfolding_all decide))
  | (refine att_set 1 ?_ ?_ ?_ ?_ ?_; (· with_unfolding_all rfl); (· with_unfolding_all rfl); (· with_unfolding_all exact List.Mem.head _); (· with_unfolding_all decide))
  | (refine att_set 2 ?_ ?_ ?_ ?_ ?_; (· with_unfolding_all rfl); (· with_unfolding_all rfl); (· with_unfolding_all exact List.Mem.head _); (· with_unfolding_all decide))
  | (refine att_set 3 ?_ ?_ ?_ ?_ ?_; (· with_unfolding_all rfl); (· with_unfolding_all rfl); (· with_unfolding_all exact List.Mem.head _); (· with_unfolding_all decide))
  | (apply isi_ttT; (· with_unfolding_all rfl); (· with_unfolding_all rfl))
  | (apply isi_ttF; (· with_unfolding_all rfl); (· with_unfolding_all rfl))
  | (apply isi_to; (· with_unfolding_all rfl); (· with_unfolding_all rfl))
  | (apply isi_ooT; (· with_unfolding_all rfl); (· with_unfolding_all rfl))
  | (apply isi_ooF; (· with_unfolding_all rfl); (· with_unfolding_all rfl))
  | (refine isi_ot ?_ ?_ ?_; (· with_unfolding_all rfl); (· with_unfolding_all decide))
  | (apply isi_2T; (· with_unfolding_all rfl); (· with_unfolding_all rfl))
  | (apply isi_2F; (· with_unfolding_all rfl); (· with_unfolding_all rfl))
  | apply ints_of
  | apply strs_of
  | apply bls_of
  | apply eq_tt
  | apply eq_ll
  | apply eq_l0
  | apply eq_00
  | apply eq_t0
  | apply eq_nonint
  | apply eq_intnon
  | apply eq_nonnon
  | apply eq_blbl
  | (refine rg ?_ ?_; (· with_unfolding_all first | decide | omega | (simp only [List.length_map]; omega)))
  | (refine fd_pos ?_ ?_; (· with_unfolding_all first | decide | omega | (simp only [List.length_map]; omega)))
  | (refine md_pos ?_ ?_; (· with_unfolding_all first | decide | omega | (simp only [List.length_map]; omega)))
  | (refine mul_l ?_ ?_; (· with_unfolding_all first | decide | omega | (simp only [List.length_map]; omega)))
  | (refine mul_r ?_ ?_; (· with_unfolding_all first | decide | omega | (simp only [List.length_map]; omega)))
  | (refine pw_of ?_ ?_ ?_; (· with_unfolding_all first | decide | omega | (simp only [List.length_map]; omega)); (· with_unfolding_all first | decide | omega | (simp only [List.length_map]; omega)))
  | (apply ix_of; (· with_unfolding_all rfl))
  | (apply set_mu; (· with_unfolding_all rfl))
  | apply same_of
  | (refine lenr ?_ ?_; (· with_unfolding_all omega))
  | (refine eq_own ?_ ?_; (· with_unfolding_all first | trivial | exact List.Mem.head _ | exact List.Mem.tail _ (List.Mem.head _)))
  | walk_at "call")
local macro_rules | `(tactic| walk_at "lc") => `(tactic| fail)
local macro_rules | `(tactic| walk_at "w") => `(tactic| ((repeat ((try conv => whnf); first | walk_at "h" | walk_at "lc")); try conv => whnf))
theorem map_same {f : Int → Int} (h : ∀ x, f x = x) {l : List Int} : l.map f = l := by
  induction l with
  | nil => rfl
  | cons x l ih => rw [List.map_cons, h, ih]
theorem sum_plus (b : Int) : ∀ l : List Int, (l.map (· + b)).sum = l.sum + (l.length : Nat) * b
  | [] => by simp
  | x :: l => by
    have z := sum_plus b l
    rw [List.map_cons, List.sum_cons, z, List.sum_cons, List.length_cons, Int.natCast_add, Int.add_mul]
    omega
theorem dT {p : Prop} {_ : Decidable p} {M : Mem} {k : D → Mem → Prop} (h : p) (hk : k (.bl true) M) : k (.bl (decide p)) M := by rw [decide_eq_true h]; exact hk
theorem rep_Li (n : Nat) (i : Int) : (List.replicate n [D.int i]).flatten = Li (List.replicate n i) := by
  induction n with
  | zero => rfl
  | succ n ih => rw [List.replicate_succ, List.flatten_cons, ih, List.replicate_succ]; rfl
section
variable {M : Mem} {k : D → Mem → Prop} {E : XP}
local macro_rules | `(tactic| walk_at "call") => `(tactic| first | apply is_integer_i | (apply are_integers_l; (· omega)) | (apply are_integers_t; (· omega)))
theorem Row_init_ok {d : D} {l : List Int} {p : Addr} (hd : LT d l) (h0 : 0 < l.length) (h1 : l.length ≤ 48) (hk : k .non (mu M p (.ins "Row" rowN (rowX l)))) : w_Row_init [.ref p, d] (mu M p (.ins "Row" [] [])) k E := by
  rw [w_Row_init_eq]
  cases hd with
  | l =>
    have hn : ¬ ((Li l).length : Int) = 0 := by rw [Li_len]; omega
    have hn2 : ¬ (48 : Int) < ((Li l).length : Int) := by rw [Li_len]; omega
    walk_at "w"
    refine heights_of_ok (.l l) (by omega) ?_
    walk_at "w"
    refine ix_of (atI_Li (hts_last _)) ?_
    walk_at "w"
    rw [Li_len]
    exact hk
  | t =>
    have hn : ¬ ((Li l).length : Int) = 0 := by rw [Li_len]; omega
    have hn2 : ¬ (48 : Int) < ((Li l).length : Int) := by rw [Li_len]; omega
    walk_at "w"
    refine heights_of_ok (.t l) (by omega) ?_
    walk_at "w"
    refine ix_of (atI_Li (hts_last _)) ?_
    walk_at "w"
    rw [Li_len]
    exact hk
theorem new_row {as : D → List D} {d : D} {l : List Int} (has : ∀ x, as x = [x, d]) (hd : LT d l) (h0 : 0 < l.length) (h1 : l.length ≤ 48) (hk : k (rowD l) M) : newI false "Row" w_Row_init as M k E :=
  new_f (ns := rowN) (xs := rowX l) (fun p k' hp hk' => by rw [has]; exact Row_init_ok hd h0 h1 hk') hk
theorem need_row_ok {l : List Int} {z : Str} (hk : k .non M) : w_need_row [rowD l, .str z] M k E := by
  rw [w_need_row_eq]
  walk_at "w"
  exact hk
theorem is_within_ok {v lo hi : Int} (h1 : lo ≤ v) (h2 : v ≤ hi) (hk : k (.bl true) M) : w_is_within [.int v, .int lo, .int hi] M k E := by
  rw [w_is_within_eq]
  walk_at "w"
  rw [show k (.bl (decide (v ≤ hi))) M = k (.bl true) M by rw [decide_eq_true h2]]
  exact hk
theorem is_within_nn {v : Int} (hk : k (.bl true) M) : w_is_within [.int v, .non, .non] M k E := by
  rw [w_is_within_eq]
  walk_at "w"
  exact hk
theorem need_number_ok {v lo hi : Int} {p : Str} (h1 : lo ≤ v) (h2 : v ≤ hi) (hk : k .non M) : w_need_number [.int v, .str p, .int lo, .int hi] M k E := by
  rw [w_need_number_eq]
  walk_at "w"
  refine is_within_ok h1 h2 ?_
  walk_at "w"
  exact hk
theorem need_number_nn {v : Int} {p : Str} (hk : k .non M) : w_need_number [.int v, .str p, .non, .non] M k E := by
  rw [w_need_number_eq]
  walk_at "w"
  refine is_within_nn ?_
  walk_at "w"
  exact hk
theorem Row_len_ok {l : List Int} (hk : k (.int (l.length : Nat)) M) : w_Row_len [rowD l] M k E := by
  rw [w_Row_len_eq]
  walk_at "w"
  rw [Li_len]
  exact hk
theorem Row_eq_ok {l m : List Int} (hk : k (.bl (decide (l = m))) M) : w_Row_eq [rowD l, rowD m] M k E := by
  rw [w_Row_eq_eq]
  walk_at "w"
  exact hk
theorem Row_eq_t {l m : List Int} (hk : k (.bl false) M) : w_Row_eq [rowD l, .tup (Li m)] M k E := by
  rw [w_Row_eq_eq]
  walk_at "w"
  exact hk
theorem Row_backwards_ok {l : List Int} (h0 : 0 < l.length) (h1 : l.length ≤ 48) (hk : k (rowD l.reverse) M) : w_Row_backwards [rowD l] M k E := by
  rw [w_Row_backwards_eq]
  walk_at "w"
  rw [Li_rev]
  exact new_row (fun _ => rfl) (.t _) (by simpa using h0) (by simpa using h1) hk
theorem Row_times_ok {l : List Int} {n : Int} (hn : -(2 ^ 64) < n ∧ n < 2 ^ 64) (h0 : 0 < l.length) (h1 : l.length ≤ 48) (hk : k (rowD (l.map (n * ·))) M) : w_Row_times [rowD l, .int n] M k E := by
  rw [w_Row_times_eq]
  walk_at "w"
  refine need_number_nn ?_
  walk_at "w"
  refine lc_intI (fun i => n * i) gd0 (by omega) (fun i hi K Z h => ?_) ?_
  · walk_at "w"
    exact h
  · walk_at "w"
    exact new_row (fun _ => rfl) (.l _) (by simpa using h0) (by simpa using h1) hk
theorem Row_plus_ok {l : List Int} {n : Int} (h0 : 0 < l.length) (h1 : l.length ≤ 48) (hk : k (rowD (l.map (· + n))) M) : w_Row_plus [rowD l, .int n] M k E := by
  rw [w_Row_plus_eq]
  walk_at "w"
  refine need_number_nn ?_
  walk_at "w"
  refine lc_intI (fun i => i + n) gd0 (by omega) (fun i hi K Z h => ?_) ?_
  · walk_at "w"
    exact h
  · walk_at "w"
    exact new_row (fun _ => rfl) (.l _) (by simpa using h0) (by simpa using h1) hk
end
end K08

set_option Elab.async false
set_option linter.all false
set_option maxRecDepth 100000
set_option maxHeartbeats 4000000
namespace K08
open PySem PySem.Spec PyProof.Rows L2 Rl RZ RT Px
local macro_rules | `(tactic| walk_at "n") => `(tactic| first | assumption | rfl | omega | decide)
local macro_rules | `(tactic| walk_at "sz") => `(tactic| first | exact Nat.le_of_ble_eq_true rfl | omega | (simp only [List.length_append, List.length_cons, List.length_nil, List.length_map, List.length_reverse] at *; omega))
local macro_rules | `(tactic| walk_at "call") => `(tactic| fail)
local macro_rules | `(tactic| walk_at "h") => `(tactic| with_reducible first
  | apply br_t
  | apply br_f
  | apply br_not
  | (apply br_nonF; (· with_unfolding_all rfl))
  | (apply br_nonT; (· with_unfolding_all rfl))
  | (apply br_blF; (· with_unfolding_all rfl))
  | (apply br_blT; (· with_unfolding_all rfl))
  | apply br_bne
  | apply br_empL
  | (refine br_p ?_ ?_; (· with_unfolding_all walk_at "n"))
  | (refine br_n ?_ ?_; (· with_unfolding_all walk_at "n"))
  | (refine sz ?_ ?_; (· with_unfolding_all walk_at "sz"))
  | apply cell_mu
  | (apply cell_of; (· assumption))
  | (apply ern_mu; (· assumption))
  | apply mun_mu
  | apply cellI_mu
  | (apply cellI_of; (· assumption))
  | (apply fld; (· with_unfolding_all rfl))
  | (refine mt_d ?_ ?_; (· with_unfolding_all rfl))
  | (refine att_new ?_ ?_ ?_ ?_ ?_; (· with_unfolding_all rfl); (· with_unfolding_all rfl); (· with_unfolding_all exact List.Mem.head _); (· with_unfolding_all decide))
  | (refine att_set 0 ?_ ?_ ?_ ?_ ?_; (· with_unfolding_all rfl); (· with_unfolding_all rfl); (· with_unfolding_all exact List.Mem.head _); (· with_unfolding_all decide))
  | (refine att_set 1 ?_ ?_ ?_ ?_ ?_; (· with_unfolding_all rfl); (· with_unfolding_all rfl); (· with_unfolding_all exact List.Mem.head _); (· with_unfolding_all decide))
  | (refine att_set 2 ?_ ?_ ?_ ?_ ?_; (· with_unfolding_all rfl); (· with_unfolding_all rfl); (· with_unfolding_all exact List.Mem.head _); (· with_unfolding_all decide))
  | (refine att_set 3 ?_ ?_ ?_ ?_ ?_; (· with_unfolding_all rfl); (· with_unfolding_all rfl); (· with_unfolding_all exact List.Mem.head _); (· with_unfolding_all decide))
  | (apply isi_ttT; (· with_unfolding_all rfl); (· with_unfolding_all rfl))
  | (apply isi_ttF; (· with_unfolding_all rfl); (· with_unfolding_all rfl))
  | (apply isi_to; (· with_unfolding_all rfl); (· with_unfolding_all rfl))
  | (apply isi_ooT; (· with_unfolding_all rfl); (· with_unfolding_all rfl))
  | (apply isi_ooF; (· with_unfolding_all rfl); (· with_unfolding_all rfl))
  | (refine isi_ot ?_ ?_ ?_; (· with_unfolding_all rfl); (· with_unfolding_all decide))
  | (apply isi_2T; (· with_unfolding_all rfl); (· with_unfolding_all rfl))
  | (apply isi_2F; (· with_unfolding_all rfl); (· with_unfolding_all rfl))
  | apply ints_of
  | apply strs_of
  | apply bls_of
  | apply eq_tt
  | apply eq_ll
  | apply eq_l0
  | apply eq_00
  | apply eq_t0
  | apply eq_nonint
  | apply eq_intnon
  | apply eq_nonnon
  | apply eq_blbl
  | (refine rg ?_ ?_; (· with_unfolding_all first | decide | omega | (simp only [List.length_map]; omega)))
  | (refine fd_pos ?_ ?_; (· with_unfolding_all first | decide | omega | (simp only [List.length_map]; omega)))
  | (refine md_pos ?_ ?_; (· with_unfolding_all first | decide | omega | (simp only [List.length_map]; omega)))
  | (refine mul_l ?_ ?_; (· with_unfolding_all first | decide | omega | (simp only [List.length_map]; omega)))
  | (refine mul_r ?_ ?_; (· with_unfolding_all first | decide | omega | (simp only [List.length_map]; omega)))
  | (refine pw_of ?_ ?_ ?_; (· with_unfolding_all first | decide | omega | (simp only [List.length_map]; omega)); (· with_unfolding_all first | decide | omega | (simp only [List.length_map]; omega)))
  | (apply ix_of; (· with_unfolding_all rfl))
  | (apply set_mu; (· with_unfolding_all rfl))
  | apply same_of
  | (refine lenr ?_ ?_; (· with_unfolding_all omega))
  | (refine eq_own ?_ ?_; (· with_unfolding_all first | trivial | exact List.Mem.head _ | exact List.Mem.tail _ (List.Mem.head _)))
  | walk_at "call")
local macro_rules | `(tactic| walk_at "lc") => `(tactic| fail)
local macro_rules | `(tactic| walk_at "w") => `(tactic| ((repeat ((try conv => whnf); first | walk_at "h" | walk_at "lc")); try conv => whnf))
/-! ### the drawing of numbers -/
abbrev tapC (c : List Int) (p dg : Int) : Cell := .lst [.lst (Li c), .int p, .int dg]
/-- n more draws -/
def Tap (t : Addr) (n : Int) (M : Mem) : Prop := ∃ c p dg, M t = some (tapC c p dg) ∧ c.length ≤ 60 ∧ 0 ≤ p ∧ p + n ≤ 1048576
def Off (t : Addr) (M M' : Mem) : Prop := ∀ a, a ≠ t → M' a = M a
theorem Off.refl {t : Addr} {M : Mem} : Off t M M := fun _ _ => rfl
theorem Off.trans {t : Addr} {M M1 M2 : Mem} (h : Off t M M1) (h2 : Off t M1 M2) : Off t M M2 := fun a n => (h2 a n).trans (h a n)
theorem Tap.mono {t : Addr} {n m : Int} {M : Mem} (h : Tap t n M) (hm : m ≤ n) : Tap t m M := by
  obtain ⟨c, p, dg, h1, h2, h3, h4⟩ := h
  exact ⟨c, p, dg, h1, h2, h3, by omega⟩
theorem Tap.ne {t p : Addr} {n : Int} {M : Mem} (h : Tap t n M) (hp : M p = none) : p ≠ t := fun e => by
  obtain ⟨c, q, dg, h1, _⟩ := h
  rw [e, h1] at hp; cases hp
theorem Tap.mu {t p : Addr} {n : Int} {M : Mem} {c : Cell} (h : Tap t n M) (hp : p ≠ t) : Tap t n (mu M p c) := by
  obtain ⟨cs, q, dg, h1, h2⟩ := h
  exact ⟨cs, q, dg, by rw [mu_ne (fun e => hp e.symm)]; exact h1, h2⟩
theorem Tap.er {t p : Addr} {n : Int} {M : Mem} (h : Tap t n M) (hp : p ≠ t) : Tap t n (er M p) := by
  obtain ⟨cs, q, dg, h1, h2⟩ := h
  exact ⟨cs, q, dg, by unfold Px.er; rw [if_neg (fun e => hp e.symm)]; exact h1, h2⟩
/-- another cell on the way -/
theorem Off.mu {t p : Addr} {M M' : Mem} {c : Cell} (h : Off t (mu M p c) M') (hp : p ≠ t) : M' p = some c := by rw [h p hp, mu_same]
theorem Off.er {t p : Addr} {M M' : Mem} {c : Cell} (h : Off t (Px.mu M p c) M') (hn : M p = none) : Off t M (Px.er M' p) := fun a n => by
  unfold Px.er
  by_cases e : a = p
  · subst e; rw [if_pos rfl, hn]
  · rw [if_neg e, h a n, mu_ne e]
/-- a new state of another cell -/
theorem Off.st {t p : Addr} {M M' : Mem} {c c' : Cell} (h : Off t (Px.mu M p c) M') (hp : p ≠ t) : Off t (Px.mu M p c') (Px.mu M' p c') := fun a n => by
  by_cases e : a = p
  · subst e; rw [mu_same, mu_same]
  · rw [mu_ne e, mu_ne e, h a n, mu_ne e]
theorem pw_ok {m a c1 c2 c3 : Int} (h0 : 0 ≤ m) (h1 : m < 2147483648) (h2 : 0 ≤ a) (h3 : a ≤ 1048576) (k1 : 0 ≤ c1 ∧ c1 ≤ 1000000) (k2 : 0 ≤ c2 ∧ c2 ≤ 1000000) (k3 : 0 ≤ c3 ∧ c3 ≤ 1000000) : (m * (2 * a + c1) + c2 * a * a + c3).natAbs < 2 ^ 64 := by
  have e1 : m * (2 * a + c1) ≤ 2147483648 * (2 * 1048576 + 1000000) := Int.mul_le_mul (by omega) (by omega) (by omega) (by omega)
  have e2 : 0 ≤ m * (2 * a + c1) := Int.mul_nonneg h0 (by omega)
  have e5 : 0 ≤ c2 * a := Int.mul_nonneg k2.1 h2
  have e6 : c2 * a ≤ 1000000 * 1048576 := Int.mul_le_mul k2.2 h3 h2 (by omega)
  have e3 : c2 * a * a ≤ (1000000 * 1048576) * 1048576 := Int.mul_le_mul e6 h3 h2 (by omega)
  have e4 : 0 ≤ c2 * a * a := Int.mul_nonneg e5 h2
  omega
theorem cut60_len (l : List Int) : (Px.cutD l none (some 60)).length ≤ 60 := by
  unfold Px.cutD
  rw [List.length_take]
  have h : HT.sIx l.length l.length (some 60) ≤ 60 := by
    unfold HT.sIx
    simp only []
    rw [if_neg (by omega)]
    exact Nat.min_le_left _ _
  omega
section
variable {M : Mem} {k : D → Mem → Prop} {E : XP} {t : Addr}
theorem drip_core {cells : List Int} {p dg many : Int} (hm : 0 < many) (hm2 : many < 1000000) (hp : 0 ≤ p) (hp2 : p ≤ 1048576) (hc : cells.length ≤ 60) (hM : M t = some (tapC cells p dg)) (hk : ∀ r p' dg', 0 ≤ r → r < many → p ≤ p' → p' ≤ p + 1 → k (.int r) (mu M t (tapC cells p' dg'))) : w_law_drip [.ref t, .int many] M k E := by
  obtain ⟨M0, rfl⟩ : ∃ M0, M = mu M0 t (tapC cells p dg) := ⟨M, (mu_id hM).symm⟩
  simp only [mu_mu] at hk
  rw [w_law_drip_eq]
  walk_at "w"
  apply br_d <;> intro hd
  · walk_at "w"
    exact hk _ _ _ (Int.emod_nonneg _ (by omega)) (Int.emod_lt_of_pos _ hm) (by omega) (by omega)
  · walk_at "w"
    apply br_d <;> intro hx
    · subst hx
      have hp0 : ¬ p < ((Li []).length : Int) := by simpa using hp
      walk_at "w"
      refine pw_of (by omega) ?_ ?_
      · exact pw_ok (Int.emod_nonneg _ (by decide)) (Int.lt_trans (Int.emod_lt_of_pos _ (by decide)) (by decide)) hp hp2 (by decide) (by decide) (by decide)
      walk_at "w"
      exact hk _ _ _ (Int.emod_nonneg _ (by omega)) (Int.emod_lt_of_pos _ hm) (by omega) (by omega)
    · have hcl : 0 < cells.length := List.length_pos_iff.mpr hx
      walk_at "w"
      rw [Li_len]
      walk_at "w"
      have q0 := Int.emod_nonneg p (b := (cells.length : Int)) (by omega)
      have q1 := Int.emod_lt_of_pos p (b := (cells.length : Int)) (by omega)
      refine ix_of (atI_Li (atI_nn q0 q1)) ?_
      walk_at "w"
      apply br_d <;> intro h1
      · walk_at "w"
        apply br_d <;> intro h2
        · walk_at "w"
          exact hk _ _ _ (Int.emod_nonneg _ (by omega)) (Int.emod_lt_of_pos _ hm) (by omega) (by omega)
        · walk_at "w"
          refine pw_of (by omega) ?_ ?_
          · exact pw_ok (Int.emod_nonneg _ (by decide)) (Int.lt_trans (Int.emod_lt_of_pos _ (by decide)) (by decide)) hp hp2 (by decide) (by decide) (by decide)
          walk_at "w"
          exact hk _ _ _ (Int.emod_nonneg _ (by omega)) (Int.emod_lt_of_pos _ hm) (by omega) (by omega)
      · walk_at "w"
        refine pw_of (by omega) ?_ ?_
        · exact pw_ok (Int.emod_nonneg _ (by decide)) (Int.lt_trans (Int.emod_lt_of_pos _ (by decide)) (by decide)) hp hp2 (by decide) (by decide) (by decide)
        walk_at "w"
        exact hk _ _ _ (Int.emod_nonneg _ (by omega)) (Int.emod_lt_of_pos _ hm) (by omega) (by omega)
theorem drip_ok {many n : Int} (h : Tap t n M) (hn : 1 ≤ n) (hm : 0 < many) (hm2 : many < 1000000) (hk : ∀ r M', 0 ≤ r → r < many → Tap t (n - 1) M' → Off t M M' → k (.int r) M') : w_law_drip [.ref t, .int many] M k E := by
  obtain ⟨c, p, dg, h1, h2, h3, h4⟩ := h
  exact drip_core hm hm2 h3 (by omega) h2 h1 fun r p' dg' q1 q2 q3 q4 => hk r _ q1 q2 ⟨c, p', dg', mu_same, h2, by omega, by omega⟩ fun a ha => mu_ne ha
theorem any_ok {xs : List D} {n : Int} (h : Tap t n M) (hn : 1 ≤ n) (hx : 0 < xs.length) (hx2 : xs.length < 1000000) (hk : ∀ x M', x ∈ xs → Tap t (n - 1) M' → Off t M M' → k x M') : w_law_any [.ref t, .lst xs] M k E := by
  rw [w_law_any_eq]
  walk_at "w"
  refine drip_ok h hn (by omega) (by omega) fun r M1 h1 h2 hT hO => ?_
  walk_at "w"
  refine ix_of (atI_nn h1 h2) ?_
  exact hk _ M1 (List.getElem_mem _) hT hO
theorem any_ok_t {xs : List D} {n : Int} (h : Tap t n M) (hn : 1 ≤ n) (hx : 0 < xs.length) (hx2 : xs.length < 1000000) (hk : ∀ x M', x ∈ xs → Tap t (n - 1) M' → Off t M M' → k x M') : w_law_any [.ref t, .tup xs] M k E := by
  rw [w_law_any_eq]
  walk_at "w"
  refine drip_ok h hn (by omega) (by omega) fun r M1 h1 h2 hT hO => ?_
  walk_at "w"
  refine ix_of (atI_nn h1 h2) ?_
  exact hk _ M1 (List.getElem_mem _) hT hO
theorem any_i (ns : List Int) {n : Int} (h : Tap t n M) (hn : 1 ≤ n) (hx : 0 < ns.length) (hx2 : ns.length < 1000000) (hk : ∀ i M', i ∈ ns → Tap t (n - 1) M' → Off t M M' → k (.int i) M') : w_law_any [.ref t, .lst (Li ns)] M k E :=
  any_ok h hn (by rw [Li_len]; exact hx) (by rw [Li_len]; exact hx2) fun x M' hx hT hO => by
    obtain ⟨i, hi, rfl⟩ := mem_Li hx
    exact hk i M' hi hT hO
theorem tap_ok {l : List Int} (hk : ∀ p M', M p = none → Tap p 1048576 M' → k (.ref p) M') : w_law_tap [.scr l] M k E := by
  rw [w_law_tap_eq]
  walk_at "w"
  refine lc_intI (fun i => i) gd0 ?_ (fun i hi K Z h => ?_) ?_
  · have := cut60_len l
    omega
  · walk_at "w"
    exact h
  · walk_at "w"
    intro p hp
    walk_at "w"
    exact hk p _ hp ⟨_, 0, 0, mu_same, by rw [List.map_id']; exact cut60_len l, by omega, by omega⟩
/-- drawn items -/
theorem lc_tap {wg : WG} {we : W} {ρw : St'} {k : List D → Mem → Prop} {xs : List D} {n c : Int} (P : Int → Prop) (h : Tap t n M) (hc : 0 ≤ c) (hn : c * xs.length ≤ n) (hl : xs.length ≤ 16777216)
    (step : ∀ x M1 m, x ∈ xs → Tap t m M1 → c ≤ m → Off t M M1 → ∀ (K : D → Mem → Prop) (Z : Mem → Prop), (∀ y M2, P y → Tap t (m - c) M2 → Off t M1 M2 → K (.int y) M2) → wg x ρw M1 (fun ρ2 M2 => wYes ρ2 M2 (fun b M3 => Br b (we ρ2 M3 K noX) (Z M3)) noX) noX)
    (hk : ∀ l M', l.length = xs.length → (∀ y ∈ l, P y) → Tap t (n - c * xs.length) M' → Off t M M' → k (Li l) M') : loopC [] wg wYes we ρw k xs [] M := by
  refine lc_inv (fun i acc M1 => i ≤ xs.length ∧ ∃ l, acc = Li l ∧ l.length = i ∧ (∀ y ∈ l, P y) ∧ Tap t (n - c * i) M1 ∧ Off t M M1) ⟨Nat.zero_le _, [], rfl, rfl, (fun y hy => by cases hy), by simpa using h, Off.refl⟩ (fun _ _ _ _ => gd0) (fun i x acc M1 hx hi K hK => ?_) fun acc M1 hi => ?_
  · obtain ⟨h0, l, rfl, h1, h2, h3, h4⟩ := hi
    have hlt := (List.getElem?_eq_some_iff.mp hx).1
    have e : c * ((i + 1 : Nat) : Int) = c * i + c := by rw [Int.natCast_add, Int.mul_add]; omega
    have hle : c * ((i + 1 : Nat) : Int) ≤ c * xs.length := Int.mul_le_mul_of_nonneg_left (by omega) hc
    refine step x M1 _ (List.mem_of_getElem? hx) h3 (by omega) h4 _ _ fun y M2 hy hT hO => ?_
    refine sz (by rw [Li_len]; omega) (hK _ _ ⟨by omega, l ++ [y], by simp, by simp [h1], fun z hz => ?_, by rw [e]; exact hT.mono (by omega), h4.trans hO⟩)
    rcases List.mem_append.mp hz with hz | hz
    · exact h2 z hz
    · rw [List.mem_singleton.mp hz]; exact hy
  · obtain ⟨h0, l, rfl, h1, h2, h3, h4⟩ := hi
    exact hk l M1 h1 h2 h3 h4
end
end K08

set_option Elab.async false
set_option linter.all false
set_option maxRecDepth 100000
set_option maxHeartbeats 4000000
namespace K08
open PySem PySem.Spec PyProof.Rows L2 Rl RZ RT Px
local macro_rules | `(tactic| walk_at "n") => `(tactic| first | assumption | rfl | omega | decide)
local macro_rules | `(tactic| walk_at "sz") => `(tactic| first | exact Nat.le_of_ble_eq_true rfl | omega | (simp only [List.length_append, List.length_cons, List.length_nil, List.length_map, List.length_reverse] at *; omega))
local macro_rules | `(tactic| walk_at "call") => `(tactic| fail)
local macro_rules | `(tactic| walk_at "h") => `(tactic| with_reducible first
  | apply br_t
  | apply br_f
  | apply br_not
  | (apply br_nonF; (· with_unfolding_all rfl))
  | (apply br_nonT; (· with_unfolding_all rfl))
  | (apply br_blF; (· with_unfolding_all rfl))
  | (apply br_blT; (· with_unfolding_all rfl))
  | apply br_bne
  | apply br_empL
  | (refine br_p ?_ ?_; (· with_unfolding_all walk_at "n"))
  | (refine br_n ?_ ?_; (· with_unfolding_all walk_at "n"))
  | (refine sz ?_ ?_; (· with_unfolding_all walk_at "sz"))
  | apply cell_mu
  | (apply cell_of; (· assumption))
  | (apply ern_mu; (· assumption))
  | apply mun_mu
  | apply cellI_mu
  | (apply cellI_of; (· assumption))
  | (apply fld; (· with_unfolding_all rfl))
  | (refine mt_d ?_ ?_; (· with_unfolding_all rfl))
  | (refine att_new ?_ ?_ ?_ ?_ ?_; (· with_unfolding_all rfl); (· with_unfolding_all rfl); (· with_unfolding_all exact List.Mem.head _); (· with_unfolding_all decide))
  | (refine att_set 0 ?_ ?_ ?_ ?_ ?_; (· with_unfolding_all rfl); (· with_unfolding_all rfl); (· with_unfolding_all exact List.Mem.head _); (· with_unfolding_all decide))
  | (refine att_set 1 ?_ ?_ ?_ ?_ ?_; (· with_unfolding_all rfl); (· with_unfolding_all rfl); (· with_unfolding_all exact List.Mem.head _); (· with_unfolding_all decide))
  | (refine att_set 2 ?_ ?_ ?_ ?_ ?_; (· with_unfolding_all rfl); (· with_unfolding_all rfl); (· with_unfolding_all exact List.Mem.head _); (· with_unfolding_all decide))
  | (refine att_set 3 ?_ ?_ ?_ ?_ ?_; (· with_unfolding_all rfl); (· with_unfolding_all rfl); (· with_unfolding_all exact List.Mem.head _); (· with_unfolding_all decide))
  | (apply isi_ttT; (· with_unfolding_all rfl); (· with_unfolding_all rfl))
  | (apply isi_ttF; (· with_unfolding_all rfl); (· with_unfolding_all rfl))
  | (apply isi_to; (· with_unfolding_all rfl); (· with_unfolding_all rfl))
  | (apply isi_ooT; (· with_unfolding_all rfl); (· with_unfolding_all rfl))
  | (apply isi_ooF; (· with_unfolding_all rfl); (· with_unfolding_all rfl))
  | (refine isi_ot ?_ ?_ ?_; (· with_unfolding_all rfl); (· with_unfolding_all decide))
  | (apply isi_2T; (· with_unfolding_all rfl); (· with_unfolding_all rfl))
  | (apply isi_2F; (· with_unfolding_all rfl); (· with_unfolding_all rfl))
  | apply ints_of
  | apply strs_of
  | apply bls_of
  | apply eq_tt
  | apply eq_ll
  | apply eq_l0
  | apply eq_00
  | apply eq_t0
  | apply eq_nonint
  | apply eq_intnon
  | apply eq_nonnon
  | apply eq_blbl
  | (refine rg ?_ ?_; (· with_unfolding_all first | decide | omega | (simp only [List.length_map]; omega)))
  | (refine fd_pos ?_ ?_; (· with_unfolding_all first | decide | omega | (simp only [List.length_map]; omega)))
  | (refine md_pos ?_ ?_; (· with_unfolding_all first | decide | omega | (simp only [List.length_map]; omega)))
  | (refine mul_l ?_ ?_; (· with_unfolding_all first | decide | omega | (simp only [List.length_map]; omega)))
  | (refine mul_r ?_ ?_; (· with_unfolding_all first | decide | omega | (simp only [List.length_map]; omega)))
  | (refine pw_of ?_ ?_ ?_; (· with_unfolding_all first | decide | omega | (simp only [List.length_map]; omega)); (· with_unfolding_all first | decide | omega | (simp only [List.length_map]; omega)))
  | (apply ix_of; (· with_unfolding_all rfl))
  | (apply set_mu; (· with_unfolding_all rfl))
  | apply same_of
  | (refine lenr ?_ ?_; (· with_unfolding_all omega))
  | (refine eq_own ?_ ?_; (· with_unfolding_all first | trivial | exact List.Mem.head _ | exact List.Mem.tail _ (List.Mem.head _)))
  | walk_at "call")
local macro_rules | `(tactic| walk_at "lc") => `(tactic| fail)
local macro_rules | `(tactic| walk_at "w") => `(tactic| ((repeat ((try conv => whnf); first | walk_at "h" | walk_at "lc")); try conv => whnf))
section
variable {M : Mem} {k : D → Mem → Prop} {E : XP} {t : Addr}
/-- bounded -/
def Bn (b : Nat) (l : List Int) : Prop := ∀ x ∈ l, x.natAbs ≤ b
theorem Bn.mono {b c : Nat} {l : List Int} (h : Bn b l) (hc : b ≤ c) : Bn c l := fun x hx => Nat.le_trans (h x hx) hc
theorem Bn.get {b : Nat} {l : List Int} {i : Nat} (h : Bn b l) (hi : i < l.length) : (l[i]).natAbs ≤ b := h _ (List.getElem_mem _)
theorem Bn.sum {b : Nat} {l : List Int} (h : Bn b l) : l.sum.natAbs ≤ l.length * b := by
  induction l with
  | nil => simp
  | cons x l ih =>
    have h1 := h x (by simp)
    have h2 := ih fun y hy => h y (List.mem_cons_of_mem _ hy)
    rw [List.sum_cons, List.length_cons, Nat.succ_mul]
    omega
theorem Bn.set {b : Nat} {l : List Int} {i : Nat} {x : Int} (h : Bn b l) (hx : x.natAbs ≤ b) : Bn b (l.set i x) := fun y hy => by
  rcases List.mem_or_eq_of_mem_set hy with h1 | h1
  · exact h y h1
  · rw [h1]; exact hx
def pickL (f : List Int) (i : Int) : Int := f.getD (i % f.length).toNat 0
theorem pickL_at {f : List Int} {i : Int} (h : 0 < f.length) : atI (Li f) (i % ((Li f).length : Nat)) = some (.int (pickL f i)) := by
  rw [Li_len]
  have q0 := Int.emod_nonneg i (b := (f.length : Int)) (by omega)
  have q1 := Int.emod_lt_of_pos i (b := (f.length : Int)) (by omega)
  rw [atI_Li (atI_nn q0 q1)]
  unfold pickL
  rw [List.getD_eq_getElem?_getD, List.getElem?_eq_getElem]
  rfl
theorem pickL_bn {b : Nat} {f : List Int} {i : Int} (h : Bn b f) : (pickL f i).natAbs ≤ b := by
  unfold pickL
  rw [List.getD_eq_getElem?_getD]
  cases e : f[(i % (f.length : Int)).toNat]? with
  | none => simp
  | some x => exact h x (List.mem_of_getElem? e)
theorem Off.er2 {X M3 : Mem} {p p4 : Addr} (h : ∀ a, a ≠ t → a ≠ p → a ≠ p4 → X a = M3 a) (hp : M3 p = none) (hp4 : M3 p4 = none) : Off t M3 (Px.er (Px.er X p4) p) := fun a ha => by
  unfold Px.er
  by_cases e : a = p
  · rw [if_pos e, e, hp]
  · rw [if_neg e]
    by_cases e4 : a = p4
    · rw [if_pos e4, e4, hp4]
    · rw [if_neg e4]; exact h a ha e e4
theorem er_ne {M : Mem} {p q : Addr} {c : Cell} (h : p ≠ q) (e : M p = some c) : Px.er M q p = some c := by
  unfold Px.er
  rw [if_neg h, e]
theorem gains_ok {n days : Int} (h : Tap t n M) (hn : 60 ≤ n) (h1 : 1 ≤ days) (h2 : days ≤ 48) (hk : ∀ l p M', p ≠ t → (l.length : Int) = days → Bn 400000000000000000000 l → M' p = some (.lst (Li l)) → Tap t (n - 60) M' → k (.ref p) M') : w_law_gains [.ref t, .int days] M k E := by
  rw [w_law_gains_eq]
  walk_at "w"
  refine drip_ok h (by omega) (by omega) (by omega) fun r M1 q1 q2 hT hO => ?_
  walk_at "w"
  apply br_d <;> intro hr
  · walk_at "w"
    refine lc_tap (n := n - 1) (c := 1) (fun y => y.natAbs ≤ 400000000000000000000) hT (by omega) (by rw [Li_len, irng_len]; omega) (by rw [Li_len, irng_len]; omega) (fun x M2 m hx hT2 hm hO2 K Z hK => ?_) fun l M2 hl hb hT2 hO2 => ?_
    · walk_at "w"
      refine drip_ok hT2 hm (by omega) (by omega) fun y M3 y1 y2 hT3 hO3 => ?_
      walk_at "w"
      exact hK _ _ (by omega) hT3 hO3
    · rw [Li_len, irng_len] at hl hT2
      walk_at "w"
      intro p hp
      walk_at "w"
      exact hk l p _ (hT2.ne hp) (by omega) hb mu_same ((hT2.mu (hT2.ne hp)).mono (by omega))
  · walk_at "w"
    apply br_d <;> intro hr2
    · walk_at "w"
      refine lc_tap (n := n - 1) (c := 1) (fun y => y.natAbs ≤ 400000000000000000000) hT (by omega) (by rw [Li_len, irng_len]; omega) (by rw [Li_len, irng_len]; omega) (fun x M2 m hx hT2 hm hO2 K Z hK => ?_) fun l M2 hl hb hT2 hO2 => ?_
      · walk_at "w"
        refine any_i [0, 0, 0, 1, -1] hT2 hm (by decide) (by decide) fun y M3 hy hT3 hO3 => ?_
        walk_at "w"
        refine hK _ _ ?_ hT3 hO3
        simp only [List.mem_cons, List.not_mem_nil, or_false] at hy
        omega
      · rw [Li_len, irng_len] at hl hT2
        walk_at "w"
        intro p hp
        walk_at "w"
        exact hk l p _ (hT2.ne hp) (by omega) hb mu_same ((hT2.mu (hT2.ne hp)).mono (by omega))
    · walk_at "w"
      apply br_d <;> intro hr3
      · walk_at "w"
        refine lc_tap (n := n - 1) (c := 1) (fun y => y.natAbs ≤ 400000000000000000000) hT (by omega) (by rw [Li_len, irng_len]; omega) (by rw [Li_len, irng_len]; omega) (fun x M2 m hx hT2 hm hO2 K Z hK => ?_) fun l M2 hl hb hT2 hO2 => ?_
        · walk_at "w"
          refine any_i [10 ^ 20, 1 - 10 ^ 20, 10 ^ 6, 0, -999999, 7] hT2 hm (by decide) (by decide) fun y M3 hy hT3 hO3 => ?_
          walk_at "w"
          refine hK _ _ ?_ hT3 hO3
          simp only [List.mem_cons, List.not_mem_nil, or_false] at hy
          omega
        · rw [Li_len, irng_len] at hl hT2
          walk_at "w"
          intro p hp
          walk_at "w"
          exact hk l p _ (hT2.ne hp) (by omega) hb mu_same ((hT2.mu (hT2.ne hp)).mono (by omega))
      · walk_at "w"
        refine drip_ok hT (by omega) (by omega) (by omega) fun r2 M2 q3 q4 hT hO1 => ?_
        replace hO := hO.trans hO1
        walk_at "w"
        refine lc_tap (n := n - 1 - 1) (c := 1) (fun y => y.natAbs ≤ 4) hT (by omega) (by rw [Li_len, irng_len]; omega) (by rw [Li_len, irng_len]; omega) (fun x M2 m hx hT2 hm hO2 K Z hK => ?_) fun f M3 hl hb hT2 hO2 => ?_
        · walk_at "w"
          refine drip_ok hT2 hm (by omega) (by omega) fun y M3 y1 y2 hT3 hO3 => ?_
          walk_at "w"
          exact hK _ _ (by omega) hT3 hO3
        rw [Li_len, irng_len] at hl hT2
        replace hO := hO.trans hO2
        walk_at "w"
        intro p hp
        have pt := hT2.ne hp
        have hf : 0 < f.length := by omega
        have hf5 : f.length ≤ 5 := by omega
        have hbm : Bn 28 f := Bn.mono hb (by omega)
        apply br_d <;> intro hr4
        focus
          walk_at "w"
          refine ix_li (by omega) (by omega) ?_
          walk_at "w"
          refine set_mu (ixn_nn (by omega) (by rw [Li_len]; omega)) ?_
          rw [set_Li]
          have hs := Bn.sum hb
          have h0 := Bn.get (i := 0) hb hf
          have hs2 : f.length * 4 ≤ 20 := by omega
          have hb2 : Bn 28 (f.set 0 (f[0] - f.sum)) := hbm.set (by omega)
          have hf2 : 0 < (f.set 0 (f[0] - f.sum)).length := by rw [List.length_set]; omega
          generalize hfe : f.set 0 (f[0] - f.sum) = f2 at hb2 hf2
          have hfe2 : f.set (Int.toNat 0) (f[Int.toNat 0] - f.sum) = f2 := hfe
          rw [hfe2]
          clear hfe hfe2 hs h0 hs2 hbm hf hb hl hf5
          have hbm := hb2
          have hf := hf2
          clear hb2 hf2
          rename List Int => f
        all_goals
          walk_at "w"
          refine lc_intI (fun i => pickL f i) gd0 (by rw [irng_len]; omega) (fun i hi K Z h => ?_) ?_
          · walk_at "w"
            refine ix_of (pickL_at hf) ?_
            exact h
          walk_at "w"
          intro p4 hp4
          have hgl : (((irng 0 days.toNat).map fun i => pickL f i).length : Int) = days := by rw [List.length_map, irng_len]; omega
          have hgb : Bn 28 ((irng 0 days.toNat).map fun i => pickL f i) := fun y hy => by
            obtain ⟨i, _, rfl⟩ := List.mem_map.mp hy
            exact pickL_bn hbm
          generalize (irng 0 days.toNat).map (fun i => pickL f i) = g at hgl hgb ⊢
          have p4p : p4 ≠ p := fun e => by rw [e, mu_same] at hp4; cases hp4
          have hp4' : M3 p4 = none := by rw [← mu_ne (M := M3) (c := .lst (Li f)) p4p]; exact hp4
          have p4t : p4 ≠ t := hT2.ne hp4'
          have hT3 := (hT2.mu (c := .lst (Li f)) pt).mu (c := .lst (Li g)) p4t
          by_cases hr6 : r = 6
          · first
              | (exfalso; omega)
              | (walk_at "w"
                 refine drip_ok hT3 (by omega) (by omega) (by omega) fun r6 M4 q5 q6 hT4 hO4 => ?_
                 have c4 : M4 p4 = some (.lst (Li g)) := hO4.mu p4t
                 walk_at "w"
                 refine ix_li (l := g) q5 (by omega) ?_
                 walk_at "w"
                 refine any_i [1, -1, 30] hT4 (by omega) (by decide) (by decide) fun y M5 hy hT5 hO5 => ?_
                 have c5 : M5 p4 = some (.lst (Li g)) := by rw [hO5 p4 p4t]; exact c4
                 walk_at "w"
                 refine set_of c5 (ixn_nn q5 (by rw [Li_len]; omega)) ?_
                 rw [set_Li]
                 walk_at "w"
                 refine ern_of ?_
                 walk_at "w"
                 refine hk (g.set r6.toNat _) p4 _ p4t (by rw [List.length_set]; exact hgl) ?_ (er_ne p4p mu_same) (((hT5.mu p4t).er pt).mono (by omega))
                 refine (hgb.mono (by decide)).set ?_
                 have := hgb.get (i := r6.toNat) (by omega)
                 simp only [List.mem_cons, List.not_mem_nil, or_false] at hy
                 omega)
          · walk_at "w"
            refine ern_of ?_
            walk_at "w"
            exact hk g p4 _ p4t hgl (hgb.mono (by decide)) (er_ne p4p mu_same) ((hT3.er pt).mono (by omega))
end
end K08

set_option Elab.async false
set_option linter.all false
set_option maxRecDepth 100000
set_option maxHeartbeats 4000000
namespace K08
open PySem PySem.Spec PyProof.Rows L2 Rl RZ RT Px
local macro_rules | `(tactic| walk_at "n") => `(tactic| first | assumption | rfl | omega | decide)
local macro_rules | `(tactic| walk_at "sz") => `(tactic| first | exact Nat.le_of_ble_eq_true rfl | omega | (simp only [List.length_append, List.length_cons, List.length_nil, List.length_map, List.length_reverse] at *; omega))
local macro_rules | `(tactic| walk_at "call") => `(tactic| fail)
local macro_rules | `(tactic| walk_at "h") => `(tactic| with_reducible first
  | apply br_t
  | apply br_f
  | apply br_not
  | (apply br_nonF; (· with_unfolding_all rfl))
  | (apply br_nonT; (· with_unfolding_all rfl))
  | (apply br_blF; (· with_unfolding_all rfl))
  | (apply br_blT; (· with_unfolding_all rfl))
  | apply br_bne
  | apply br_empL
  | (refine br_p ?_ ?_; (· with_unfolding_all walk_at "n"))
  | (refine br_n ?_ ?_; (· with_unfolding_all walk_at "n"))
  | (refine sz ?_ ?_; (· with_unfolding_all walk_at "sz"))
  | apply cell_mu
  | (apply cell_of; (· assumption))
  | (apply ern_mu; (· assumption))
  | apply mun_mu
  | apply cellI_mu
  | (apply cellI_of; (· assumption))
  | (apply fld; (· with_unfolding_all rfl))
  | (refine mt_d ?_ ?_; (· with_unfolding_all rfl))
  | (refine att_new ?_ ?_ ?_ ?_ ?_; (· with_unfolding_all rfl); (· with_unfolding_all rfl); (· with_unfolding_all exact List.Mem.head _); (· with_unfolding_all decide))
  | (refine att_set 0 ?_ ?_ ?_ ?_ ?_; (· with_unfolding_all rfl); (· with_unfolding_all rfl); (· with_unfolding_all exact List.Mem.head _); (· with_unfolding_all decide))
  | (refine att_set 1 ?_ ?_ ?_ ?_ ?_; (· with_unfolding_all rfl); (· with_unfolding_all rfl); (· with_unfolding_all exact List.Mem.head _); (· with_unfolding_all decide))
  | (refine att_set 2 ?_ ?_ ?_ ?_ ?_; (· with_unfolding_all rfl); (· with_unfolding_all rfl); (· with_unfolding_all exact List.Mem.head _); (· with_unfolding_all decide))
  | (refine att_set 3 ?_ ?_ ?_ ?_ ?_; (· with_unfolding_all rfl); (· with_unfolding_all rfl); (· with_unfolding_all exact List.Mem.head _); (· with_unfolding_all decide))
  | (apply isi_ttT; (· with_unfolding_all rfl); (· with_unfolding_all rfl))
  | (apply isi_ttF; (· with_unfolding_all rfl); (· with_unfolding_all rfl))
  | (apply isi_to; (· with_unfolding_all rfl); (· with_unfolding_all rfl))
  | (apply isi_ooT; (· with_unfolding_all rfl); (· with_unfolding_all rfl))
  | (apply isi_ooF; (· with_unfolding_all rfl); (· with_unfolding_all rfl))
  | (refine isi_ot ?_ ?_ ?_; (· with_unfolding_all rfl); (· with_unfolding_all decide))
  | (apply isi_2T; (· with_unfolding_all rfl); (· with_unfolding_all rfl))
  | (apply isi_2F; (· with_unfolding_all rfl); (· with_unfolding_all rfl))
  | apply ints_of
  | apply strs_of
  | apply bls_of
  | apply eq_tt
  | apply eq_ll
  | apply eq_l0
  | apply eq_00
  | apply eq_t0
  | apply eq_nonint
  | apply eq_intnon
  | apply eq_nonnon
  | apply eq_blbl
  | (refine rg ?_ ?_; (· with_unfolding_all first | decide | omega | (simp only [List.length_map]; omega)))
  | (refine fd_pos ?_ ?_; (· with_unfolding_all first | decide | omega | (simp only [List.length_map]; omega)))
  | (refine md_pos ?_ ?_; (· with_unfolding_all first | decide | omega | (simp only [List.length_map]; omega)))
  | (refine mul_l ?_ ?_; (· with_unfolding_all first | decide | omega | (simp only [List.length_map]; omega)))
  | (refine mul_r ?_ ?_; (· with_unfolding_all first | decide | omega | (simp only [List.length_map]; omega)))
  | (refine pw_of ?_ ?_ ?_; (· with_unfolding_all first | decide | omega | (simp only [List.length_map]; omega)); (· with_unfolding_all first | decide | omega | (simp only [List.length_map]; omega)))
  | (apply ix_of; (· with_unfolding_all rfl))
  | (apply set_mu; (· with_unfolding_all rfl))
  | apply same_of
  | (refine lenr ?_ ?_; (· with_unfolding_all omega))
  | (refine eq_own ?_ ?_; (· with_unfolding_all first | trivial | exact List.Mem.head _ | exact List.Mem.tail _ (List.Mem.head _)))
  | walk_at "call")
local macro_rules | `(tactic| walk_at "lc") => `(tactic| fail)
local macro_rules | `(tactic| walk_at "w") => `(tactic| ((repeat ((try conv => whnf); first | walk_at "h" | walk_at "lc")); try conv => whnf))
/-! ### the sums of all stretches -/
def sumsL (l : List Int) (n : Int) : List Int := (irng 0 ((l.length : Int) - n + 1).toNat).map fun b => (cut l b n).sum
theorem sumsL_len (l : List Int) (n : Int) : (sumsL l n).length = ((l.length : Int) - n + 1).toNat := by unfold sumsL; rw [List.length_map, irng_len]
theorem zip_hts {l : List Int} {n : Int} (h0 : 0 ≤ n) (h1 : n ≤ l.length) : List.zipWith (fun a b => b - a) (hts l) (Px.cutD (hts l) (some n) none) = sumsL l n := by
  rw [cut_from h0]
  refine List.ext_getElem ?_ fun i q1 q2 => ?_
  · rw [List.length_zipWith, List.length_drop, hts_len, sumsL_len]; omega
  · rw [List.length_zipWith, List.length_drop, hts_len] at q1
    rw [List.getElem_zipWith, List.getElem_drop]
    have e : ∀ (j : Nat) (hj : j < (hts l).length), (hts l)[j] = (l.take j).sum := fun j hj => by
      have z := hs_get 0 l j (by rw [hts_len] at hj; omega)
      rw [Int.zero_add] at z
      exact (List.getElem?_eq_some_iff.mp z).2
    rw [e, e]
    have z : (sumsL l n)[i]? = some ((l.take (n.toNat + i)).sum - (l.take i).sum) := by
      unfold sumsL
      rw [List.getElem?_map, irng_at (by omega)]
      show some ((cut l (0 + (i : Nat)) n).sum) = _
      rw [← cut_sum (by omega) h0 (by omega), show ((0 : Int) + (i : Nat) + n).toNat = n.toNat + i by omega, show ((0 : Int) + (i : Nat)).toNat = i by omega]
    exact (List.getElem?_eq_some_iff.mp z).2.symm
def wordL (t : List Int) : Str := if t.all (0 < ·) then "gains" else if t.all (· < 0) then "loses" else if t.all (· = 0) then "flat" else "mixed"
theorem wordL_gains {u : List Int} : wordL u = "gains" ↔ ∀ x ∈ u, 0 < x := by
  unfold wordL
  constructor
  · intro h
    by_cases c : u.all (0 < ·) = true
    · exact fun x hx => of_decide_eq_true (List.all_eq_true.mp c x hx)
    · rw [if_neg c] at h
      split at h
      · exact absurd h (by decide)
      · split at h <;> exact absurd h (by decide)
  · intro h
    rw [if_pos (List.all_eq_true.mpr fun x hx => decide_eq_true (h x hx))]
theorem wordL_loses {u : List Int} (h0 : 0 < u.length) : wordL u = "loses" ↔ ∀ x ∈ u, x < 0 := by
  obtain ⟨y, hy⟩ := List.exists_mem_of_length_pos h0
  unfold wordL
  constructor
  · intro h
    split at h
    · exact absurd h (by decide)
    · split at h
      · rename_i c
        exact fun x hx => of_decide_eq_true (List.all_eq_true.mp c x hx)
      · split at h <;> exact absurd h (by decide)
  · intro h
    rw [if_neg fun e => by have := of_decide_eq_true (List.all_eq_true.mp e y hy); have := h y hy; omega, if_pos (List.all_eq_true.mpr fun x hx => decide_eq_true (h x hx))]
theorem wordL_flat {u : List Int} (h0 : 0 < u.length) : wordL u = "flat" ↔ ∀ x ∈ u, x = 0 := by
  obtain ⟨y, hy⟩ := List.exists_mem_of_length_pos h0
  unfold wordL
  constructor
  · intro h
    split at h
    · exact absurd h (by decide)
    · split at h
      · exact absurd h (by decide)
      · split at h
        · rename_i c
          exact fun x hx => of_decide_eq_true (List.all_eq_true.mp c x hx)
        · exact absurd h (by decide)
  · intro h
    rw [if_neg fun e => by have := of_decide_eq_true (List.all_eq_true.mp e y hy); have := h y hy; omega, if_neg fun e => by have := of_decide_eq_true (List.all_eq_true.mp e y hy); have := h y hy; omega, if_pos (List.all_eq_true.mpr fun x hx => decide_eq_true (h x hx))]
theorem sumsL_mem {l : List Int} {b n : Int} (h0 : 0 ≤ b) (h1 : b + n ≤ l.length) : (cut l b n).sum ∈ sumsL l n := by
  unfold sumsL
  refine List.mem_map.mpr ⟨b, ?_, rfl⟩
  have z := irng_at (lo := 0) (n := ((l.length : Int) - n + 1).toNat) (i := b.toNat) (by omega)
  rw [show (0 : Int) + (b.toNat : Nat) = b by omega] at z
  exact List.mem_of_getElem? z
/-- lengths that divide the days -/
theorem div_pos {l : List Int} {n : Int} (h1 : 1 ≤ n) (h : (l.length : Int) % n = 0) (hl : 0 < l.length) (hs : ∀ x ∈ sumsL l n, 0 < x) : 0 < l.sum := by
  have key : ∀ j : Nat, 0 < j → (j : Int) * n ≤ l.length → 0 < (l.take ((j : Int) * n).toNat).sum := fun j => by
    induction j with
    | zero => intro h; omega
    | succ j ih =>
      intro _ hle
      have e : ((j + 1 : Nat) : Int) * n = j * n + n := by rw [Int.natCast_add, Int.add_mul]; omega
      have p0 : 0 ≤ (j : Int) * n := Int.mul_nonneg (by omega) (by omega)
      have z := cut_sum (l := l) (b := j * n) (n := n) p0 (by omega) (by omega)
      have m := hs _ (sumsL_mem (l := l) (b := j * n) (n := n) p0 (by omega))
      rw [e]
      by_cases hj : j = 0
      · subst hj
        have e0 : (((0 : Nat) : Int) * n).toNat = 0 := by simp
        rw [e0] at z
        have : (l.take 0).sum = 0 := by simp
        omega
      · have := ih (by omega) (by omega)
        omega
  obtain ⟨q, hq⟩ := Int.dvd_of_emod_eq_zero h
  have hq0 : 0 < q := by
    rcases Int.lt_trichotomy q 0 with c | c | c
    · have : n * q ≤ 0 := by
        have := Int.mul_nonneg (a := n) (b := -q) (by omega) (by omega)
        rw [Int.mul_neg] at this; omega
      omega
    · subst c; omega
    · exact c
  have e : ((q.toNat : Nat) : Int) * n = l.length := by rw [show ((q.toNat : Nat) : Int) = q by omega, Int.mul_comm]; exact hq.symm
  have z := key q.toNat (by omega) (by omega)
  rw [e, Int.toNat_natCast, List.take_length] at z
  exact z
section
variable {M : Mem} {k : D → Mem → Prop} {E : XP} {t : Addr}
theorem need_length_ok {l : List Int} {n : Int} (h1 : 1 ≤ n) (h2 : n ≤ l.length) (hk : k .non M) : w_need_length [rowD l, .int n] M k E := by
  rw [w_need_length_eq]
  walk_at "w"
  refine need_row_ok ?_
  walk_at "w"
  refine need_number_ok h1 h2 ?_
  walk_at "w"
  exact hk
theorem sums_in_ok {l : List Int} {n : Int} (h1 : 0 ≤ n) (h2 : n ≤ l.length) (hl : l.length ≤ 100) (hk : k (.tup (Li (sumsL l n))) M) : w_sums_in [rowD l, .int n] M k E := by
  rw [w_sums_in_eq]
  have e := zip_hts h1 h2
  walk_at "w"
  rw [cutD_Li]
  refine lc_zipI (fun a b => b - a) gd0 (by rw [hts_len]; omega) (fun i j hi K Z h => ?_) ?_
  · walk_at "w"
    exact h
  walk_at "w"
  rw [e]
  exact hk
theorem word_of_ok {u : List Int} (h0 : 0 < u.length) (hk : k (.str (wordL u)) M) : w_word_of [.tup (Li u)] M k E := by
  rw [w_word_of_eq]
  walk_at "w"
  refine min_of h0 fun m hm hm1 => ?_
  walk_at "w"
  apply br_d <;> intro q1
  · walk_at "w"
    have e : wordL u = "gains" := by
      unfold wordL
      rw [if_pos (List.all_eq_true.mpr fun x hx => decide_eq_true (by have := hm1 x hx; omega))]
    rw [← e]
    exact hk
  · have n1 : ¬ (u.all (0 < ·)) = true := fun e => q1 (of_decide_eq_true (List.all_eq_true.mp e m hm))
    walk_at "w"
    refine max_of h0 fun a ha ha1 => ?_
    walk_at "w"
    apply br_d <;> intro q2
    · walk_at "w"
      have e : wordL u = "loses" := by
        unfold wordL
        rw [if_neg n1, if_pos (List.all_eq_true.mpr fun x hx => decide_eq_true (by have := ha1 x hx; omega))]
      rw [← e]
      exact hk
    · have n2 : ¬ (u.all (· < 0)) = true := fun e => q2 (of_decide_eq_true (List.all_eq_true.mp e a ha))
      walk_at "w"
      refine min_of h0 fun m' hm' hm1' => ?_
      walk_at "w"
      have flat : ∀ x ∈ u, m' ≤ x := hm1'
      apply br_d <;> intro q3
      · walk_at "w"
        refine max_of h0 fun a' ha' ha1' => ?_
        walk_at "w"
        apply br_d <;> intro q4
        · walk_at "w"
          have e : wordL u = "flat" := by
            unfold wordL
            rw [if_neg n1, if_neg n2, if_pos (List.all_eq_true.mpr fun x hx => decide_eq_true (by have := ha1' x hx; have := hm1' x hx; omega))]
          rw [← e]
          exact hk
        · walk_at "w"
          have e : wordL u = "mixed" := by
            unfold wordL
            rw [if_neg n1, if_neg n2, if_neg fun e => q4 (of_decide_eq_true (List.all_eq_true.mp e a' ha'))]
          rw [← e]
          exact hk
      · walk_at "w"
        have e : wordL u = "mixed" := by
          unfold wordL
          rw [if_neg n1, if_neg n2, if_neg fun e => q3 (of_decide_eq_true (List.all_eq_true.mp e m' hm'))]
        rw [← e]
        exact hk
theorem sums_ok {l : List Int} {n : Int} (h1 : 1 ≤ n) (h2 : n ≤ l.length) (hl : l.length ≤ 100) (hk : k (.tup (Li (sumsL l n))) M) : w_sums [rowD l, .int n] M k E := by
  rw [w_sums_eq]
  walk_at "w"
  refine need_length_ok h1 h2 ?_
  walk_at "w"
  refine sums_in_ok (by omega) h2 hl ?_
  walk_at "w"
  exact hk
theorem sort_of_ok {l : List Int} {n : Int} (h1 : 1 ≤ n) (h2 : n ≤ l.length) (hl : l.length ≤ 100) (hk : k (.str (wordL (sumsL l n))) M) : w_sort_of [rowD l, .int n] M k E := by
  rw [w_sort_of_eq]
  walk_at "w"
  refine need_length_ok h1 h2 ?_
  walk_at "w"
  refine sums_in_ok (by omega) h2 hl ?_
  walk_at "w"
  refine word_of_ok (by rw [sumsL_len]; omega) ?_
  walk_at "w"
  exact hk
theorem law_sums_ok {l : List Int} {n : Int} (h1 : 0 ≤ n) (h2 : n ≤ l.length) (hl : l.length ≤ 100) (hk : k (.lst (Li (sumsL l n))) M) : w_law_sums [.lst (Li l), .int n] M k E := by
  rw [w_law_sums_eq]
  walk_at "w"
  refine lc_intI (fun b => (cut l b n).sum) gd0 (by rw [irng_len]; simp only [Li_len]; omega) (fun i hi K Z h => ?_) ?_
  · walk_at "w"
    refine ints_cut ?_
    exact h
  walk_at "w"
  unfold sumsL at hk
  simp only [Li_len]
  exact hk
end
end K08

set_option Elab.async false
set_option linter.all false
set_option maxRecDepth 100000
set_option maxHeartbeats 4000000
namespace K08
open PySem PySem.Spec PyProof.Rows L2 Rl RZ RT Px
local macro_rules | `(tactic| walk_at "n") => `(tactic| first | assumption | rfl | omega | decide)
local macro_rules | `(tactic| walk_at "sz") => `(tactic| first | exact Nat.le_of_ble_eq_true rfl | omega | (simp only [List.length_append, List.length_cons, List.length_nil, List.length_map, List.length_reverse] at *; omega))
local macro_rules | `(tactic| walk_at "call") => `(tactic| fail)
local macro_rules | `(tactic| walk_at "h") => `(tactic| with_reducible first
  | apply br_t
  | apply br_f
  | apply br_not
  | (apply br_nonF; (· with_unfolding_all rfl))
  | (apply br_nonT; (· with_unfolding_all rfl))
  | (apply br_blF; (· with_unfolding_all rfl))
  | (apply br_blT; (· with_unfolding_all rfl))
  | apply br_bne
  | apply br_empL
  | (refine br_p ?_ ?_; (· with_unfolding_all walk_at "n"))
  | (refine br_n ?_ ?_; (· with_unfolding_all walk_at "n"))
  | (refine sz ?_ ?_; (· with_unfolding_all walk_at "sz"))
  | apply cell_mu
  | (apply cell_of; (· assumption))
  | (apply ern_mu; (· assumption))
  | apply mun_mu
  | apply cellI_mu
  | (apply cellI_of; (· assumption))
  | (apply fld; (· with_unfolding_all rfl))
  | (refine mt_d ?_ ?_; (· with_unfolding_all rfl))
  | (refine att_new ?_ ?_ ?_ ?_ ?_; (· with_unfolding_all rfl); (· with_unfolding_all rfl); (· with_unfolding_all exact List.Mem.head _); (· with_unfolding_all decide))
  | (refine att_set 0 ?_ ?_ ?_ ?_ ?_; (· with_unfolding_all rfl); (· with_unfolding_all rfl); (· with_unfolding_all exact List.Mem.head _); (· with_unfolding_all decide))
  | (refine att_set 1 ?_ ?_ ?_ ?_ ?_; (· with_unfolding_all rfl); (· with_unfolding_all rfl); (· with_unfolding_all exact List.Mem.head _); (· with_unfolding_all decide))
  | (refine att_set 2 ?_ ?_ ?_ ?_ ?_; (· with_unfolding_all rfl); (· with_unfolding_all rfl); (· with_unfolding_all exact List.Mem.head _); (· with_unfolding_all decide))
  | (refine att_set 3 ?_ ?_ ?_ ?_ ?_; (· with_unfolding_all rfl); (· with_unfolding_all rfl); (· with_unfolding_all exact List.Mem.head _); (· with_unfolding_all decide))
  | (apply isi_ttT; (· with_unfolding_all rfl); (· with_unfolding_all rfl))
  | (apply isi_ttF; (· with_unfolding_all rfl); (· with_unfolding_all rfl))
  | (apply isi_to; (· with_unfolding_all rfl); (· with_unfolding_all rfl))
  | (apply isi_ooT; (· with_unfolding_all rfl); (· with_unfolding_all rfl))
  | (apply isi_ooF; (· with_unfolding_all rfl); (· with_unfolding_all rfl))
  | (refine isi_ot ?_ ?_ ?_; (· with_unfolding_all rfl); (· with_unfolding_all decide))
  | (apply isi_2T; (· with_unfolding_all rfl); (· with_unfolding_all rfl))
  | (apply isi_2F; (· with_unfolding_all rfl); (· with_unfolding_all rfl))
  | apply ints_of
  | apply strs_of
  | apply bls_of
  | apply eq_tt
  | apply eq_ll
  | apply eq_l0
  | apply eq_00
  | apply eq_t0
  | apply eq_nonint
  | apply eq_intnon
  | apply eq_nonnon
  | apply eq_blbl
  | (refine rg ?_ ?_; (· with_unfolding_all first | decide | omega | (simp only [List.length_map]; omega)))
  | (refine fd_pos ?_ ?_; (· with_unfolding_all first | decide | omega | (simp only [List.length_map]; omega)))
  | (refine md_pos ?_ ?_; (· with_unfolding_all first | decide | omega | (simp only [List.length_map]; omega)))
  | (refine mul_l ?_ ?_; (· with_unfolding_all first | decide | omega | (simp only [List.length_map]; omega)))
  | (refine mul_r ?_ ?_; (· with_unfolding_all first | decide | omega | (simp only [List.length_map]; omega)))
  | (refine pw_of ?_ ?_ ?_; (· with_unfolding_all first | decide | omega | (simp only [List.length_map]; omega)); (· with_unfolding_all first | decide | omega | (simp only [List.length_map]; omega)))
  | (apply ix_of; (· with_unfolding_all rfl))
  | (apply set_mu; (· with_unfolding_all rfl))
  | apply same_of
  | (refine lenr ?_ ?_; (· with_unfolding_all omega))
  | (refine eq_own ?_ ?_; (· with_unfolding_all first | trivial | exact List.Mem.head _ | exact List.Mem.tail _ (List.Mem.head _)))
  | walk_at "call")
local macro_rules | `(tactic| walk_at "lc") => `(tactic| fail)
local macro_rules | `(tactic| walk_at "w") => `(tactic| ((repeat ((try conv => whnf); first | walk_at "h" | walk_at "lc")); try conv => whnf))
section
variable {M : Mem} {k : D → Mem → Prop} {E : XP} {t : Addr}
theorem at0 {l : List Int} {x : Int} (h : l[0]? = some x) : atI l 0 = some x := by
  have hl := (List.getElem?_eq_some_iff.mp h).1
  unfold atI ixN
  rw [if_pos (by omega), if_pos (by omega)]
  exact h
theorem measure_ok {a b : Int} (hk : k (.int (Int.gcd a b)) M) : w_measure [.int a, .int b] M k E := by
  rw [w_measure_eq]
  walk_at "w"
  refine while_inv (fun m ρ M' => ∃ x y : Nat, ρ = [some (.int x), some (.int y)] ∧ Nat.gcd x y = Nat.gcd a.natAbs b.natAbs ∧ m = y ∧ M' = M) b.natAbs ⟨a.natAbs, b.natAbs, rfl, rfl, rfl, rfl⟩ fun m ρ M' h K hK => ?_
  obtain ⟨x, y, rfl, hg, hm, rfl⟩ := h
  walk_at "w"
  apply br_d <;> intro hy
  · walk_at "w"
    have hy0 : y = 0 := by omega
    subst hy0
    rw [Nat.gcd_zero_right] at hg
    rw [hg]
    exact hk
  · have hp : 0 < y := by omega
    walk_at "w"
    refine hK (x % y) _ _ (by rw [hm]; exact Nat.mod_lt _ hp) ⟨y, x % y, rfl, ?_, rfl, rfl⟩
    rw [← hg, Nat.gcd_comm x y, Nat.gcd_rec y x, Nat.gcd_comm]
theorem in_lowest_ok {a b : Int} (h0 : 0 < b) (h1 : b < 2 ^ 60) (hk : k (.tup [.int (a / Int.gcd a b), .int (b / Int.gcd a b)]) M) : w_in_lowest [.int a, .int b] M k E := by
  have g0 : 0 < Int.gcd a b := Int.gcd_pos_of_ne_zero_right a (by omega)
  have g1 : (Int.gcd a b : Int) ≤ b := Int.le_of_dvd h0 (Int.gcd_dvd_right ..)
  rw [w_in_lowest_eq]
  walk_at "w"
  refine measure_ok ?_
  walk_at "w"
  exact hk
theorem steady_ok {l : List Int} (h0 : 0 < l.length) (h1 : l.length < 1000) (hk : k (.tup [.int (l.sum / Int.gcd l.sum l.length), .int ((l.length : Int) / Int.gcd l.sum l.length)]) M) : w_steady [rowD l] M k E := by
  rw [w_steady_eq]
  walk_at "w"
  refine need_row_ok ?_
  walk_at "w"
  refine in_lowest_ok (by omega) (by omega) ?_
  walk_at "w"
  exact hk
theorem is_level_ok {l : List Int} (hk : k (.bl (decide (l.sum = 0))) M) : w_is_level [rowD l] M k E := by
  rw [w_is_level_eq]
  walk_at "w"
  refine need_row_ok ?_
  walk_at "w"
  exact hk
def lvl (l : List Int) : List Int := (l.map ((l.length : Int) * ·)).map (· + -l.sum)
theorem lvl_len (l : List Int) : (lvl l).length = l.length := by unfold lvl; simp
theorem levelled_ok {l : List Int} (h0 : 0 < l.length) (h1 : l.length ≤ 48) (hk : k (rowD (lvl l)) M) : w_levelled [rowD l] M k E := by
  rw [w_levelled_eq]
  walk_at "w"
  refine need_row_ok ?_
  walk_at "w"
  refine Row_times_ok (by omega) h0 h1 ?_
  walk_at "w"
  refine Row_plus_ok (by simpa using h0) (by simpa using h1) ?_
  walk_at "w"
  exact hk
def knowns : List (List Int) := [[-3, 5, -3, -3, 5, -3], [5, 5, -13, 5, 5, 5, -13, 5, 5, -13, 5, 5, 5, -13, 5, 5], [-1, 3, -1, -3, 0, 3, -1], [1, -1, 1, -1, 1], [0, 0, 0], [-1, 2, -1], [4]]
theorem known_ok {n : Int} (h : Tap t n M) (hn : 1 ≤ n) (hk : ∀ l M', 1 ≤ l.length → l.length ≤ 24 → Tap t (n - 1) M' → Off t M M' → k (.lst (Li l)) M') : w_law_known [.ref t] M k E := by
  rw [w_law_known_eq]
  walk_at "w"
  refine any_ok (xs := knowns.map fun l => D.lst (Li l)) h hn (by decide) (by decide) fun x M' hx hT hO => ?_
  obtain ⟨l, hl, rfl⟩ := List.mem_map.mp hx
  have hb : ∀ l ∈ knowns, 1 ≤ l.length ∧ l.length ≤ 24 := by decide
  walk_at "w"
  exact hk l M' (hb l hl).1 (hb l hl).2 hT hO
theorem law_part_ok {a b : Int} (h0 : 0 < b) (h1 : b < 1000) (hk : k (.tup [.int (a / Int.gcd a b), .int (b / Int.gcd a b)]) M) : w_law_part [.int a, .int b] M k E := by
  have g0 : 0 < Int.gcd a b := Int.gcd_pos_of_ne_zero_right a (by omega)
  have g1 : (Int.gcd a b : Int) ≤ b := Int.le_of_dvd h0 (Int.gcd_dvd_right ..)
  rw [w_law_part_eq]
  walk_at "w"
  refine rg3 (RgC.neg (by omega) (by omega) (by omega) (by omega)) ?_
  walk_at "w"
  refine lc_filtI (fun i => decide (b % i = 0) && decide (a % i = 0)) gd0 (by rw [irngC_len]; omega) (fun i hi K Z h1 h2 => ?_) ?_
  · obtain ⟨j, hj, rfl⟩ := mem_irngC hi
    have hpos : 0 < b + (j : Int) * -1 := by omega
    walk_at "w"
    apply br_d <;> intro q1
    · walk_at "w"
      apply br_d <;> intro q2
      · walk_at "w"
        exact h1 (by rw [decide_eq_true q1, decide_eq_true q2]; rfl)
      · walk_at "w"
        exact h2 (by rw [decide_eq_false q2, Bool.and_false])
    · walk_at "w"
      exact h2 (by rw [decide_eq_false q1, Bool.false_and])
  have e : ((irngC b (-1) (b - 0).toNat).filter fun i => decide (b % i = 0) && decide (a % i = 0))[0]? = some (Int.gcd a b : Int) := by
    refine filter_head (i := (b - Int.gcd a b).toNat) (x := Int.gcd a b) ?_ ?_ fun j y hj hy => ?_
    · rw [irngC_at (by omega)]
      congr 1
      omega
    · rw [decide_eq_true (Int.emod_eq_zero_of_dvd (Int.gcd_dvd_right ..)), decide_eq_true (Int.emod_eq_zero_of_dvd (Int.gcd_dvd_left ..))]
      rfl
    · have hj2 : j < (b - 0).toNat := by omega
      rw [irngC_at hj2] at hy
      have hy : b + (j : Int) * -1 = y := Option.some.inj hy
      by_cases c1 : b % y = 0
      · by_cases c2 : a % y = 0
        · have d := Int.dvd_coe_gcd (Int.dvd_of_emod_eq_zero c2) (Int.dvd_of_emod_eq_zero c1)
          have := Int.le_of_dvd (by omega) d
          omega
        · rw [decide_eq_false c2, Bool.and_false]
      · rw [decide_eq_false c1, Bool.false_and]
  walk_at "w"
  refine ix_of (atI_Li (at0 e)) ?_
  walk_at "w"
  exact hk
end
end K08

set_option Elab.async false
set_option linter.all false
set_option maxRecDepth 100000
set_option maxHeartbeats 4000000
namespace K08
open PySem PySem.Spec PyProof.Rows L2 Rl RZ RT Px
local macro_rules | `(tactic| walk_at "n") => `(tactic| first | assumption | rfl | omega | decide)
local macro_rules | `(tactic| walk_at "sz") => `(tactic| first | exact Nat.le_of_ble_eq_true rfl | omega | (simp only [List.length_append, List.length_cons, List.length_nil, List.length_map, List.length_reverse] at *; omega))
local macro_rules | `(tactic| walk_at "call") => `(tactic| fail)
local macro_rules | `(tactic| walk_at "h") => `(tactic| with_reducible first
  | apply br_t
  | apply br_f
  | apply br_not
  | (apply br_nonF; (· with_unfolding_all rfl))
  | (apply br_nonT; (· with_unfolding_all rfl))
  | (apply br_blF; (· with_unfolding_all rfl))
  | (apply br_blT; (· with_unfolding_all rfl))
  | apply br_bne
  | apply br_empL
  | (refine br_p ?_ ?_; (· with_unfolding_all walk_at "n"))
  | (refine br_n ?_ ?_; (· with_unfolding_all walk_at "n"))
  | (refine sz ?_ ?_; (· with_unfolding_all walk_at "sz"))
  | apply cell_mu
  | (apply cell_of; (· assumption))
  | (apply ern_mu; (· assumption))
  | apply mun_mu
  | apply cellI_mu
  | (apply cellI_of; (· assumption))
  | (apply fld; (· with_unfolding_all rfl))
  | (refine mt_d ?_ ?_; (· with_unfolding_all rfl))
  | (refine att_new ?_ ?_ ?_ ?_ ?_; (· with_unfolding_all rfl); (· with_unfolding_all rfl); (· with_unfolding_all exact List.Mem.head _); (· with_unfolding_all decide))
  | (refine att_set 0 ?_ ?_ ?_ ?_ ?_; (· with_unfolding_all rfl); (· with_unfolding_all rfl); (· with_unfolding_all exact List.Mem.head _); (· with_unfolding_all decide))
  | (refine att_set 1 ?_ ?_ ?_ ?_ ?_; (· with_unfolding_all rfl); (· with_unfolding_all rfl); (· with_unfolding_all exact List.Mem.head _); (· with_unfolding_all decide))
  | (refine att_set 2 ?_ ?_ ?_ ?_ ?_; (· with_unfolding_all rfl); (· with_unfolding_all rfl); (· with_unfolding_all exact List.Mem.head _); (· with_unfolding_all decide))
  | (refine att_set 3 ?_ ?_ ?_ ?_ ?_; (· with_unfolding_all rfl); (· with_unfolding_all rfl); (· with_unfolding_all exact List.Mem.head _); (· with_unfolding_all decide))
  | (apply isi_ttT; (· with_unfolding_all rfl); (· with_unfolding_all rfl))
  | (apply isi_ttF; (· with_unfolding_all rfl); (· with_unfolding_all rfl))
  | (apply isi_to; (· with_unfolding_all rfl); (· with_unfolding_all rfl))
  | (apply isi_ooT; (· with_unfolding_all rfl); (· with_unfolding_all rfl))
  | (apply isi_ooF; (· with_unfolding_all rfl); (· with_unfolding_all rfl))
  | (refine isi_ot ?_ ?_ ?_; (· with_unfolding_all rfl); (· with_unfolding_all decide))
  | (apply isi_2T; (· with_unfolding_all rfl); (· with_unfolding_all rfl))
  | (apply isi_2F; (· with_unfolding_all rfl); (· with_unfolding_all rfl))
  | apply ints_of
  | apply strs_of
  | apply bls_of
  | apply eq_tt
  | apply eq_ll
  | apply eq_l0
  | apply eq_00
  | apply eq_t0
  | apply eq_nonint
  | apply eq_intnon
  | apply eq_nonnon
  | apply eq_blbl
  | (refine rg ?_ ?_; (· with_unfolding_all first | decide | omega | (simp only [List.length_map]; omega)))
  | (refine fd_pos ?_ ?_; (· with_unfolding_all first | decide | omega | (simp only [List.length_map]; omega)))
  | (refine md_pos ?_ ?_; (· with_unfolding_all first | decide | omega | (simp only [List.length_map]; omega)))
  | (refine mul_l ?_ ?_; (· with_unfolding_all first | decide | omega | (simp only [List.length_map]; omega)))
  | (refine mul_r ?_ ?_; (· with_unfolding_all first | decide | omega | (simp only [List.length_map]; omega)))
  | (refine pw_of ?_ ?_ ?_; (· with_unfolding_all first | decide | omega | (simp only [List.length_map]; omega)); (· with_unfolding_all first | decide | omega | (simp only [List.length_map]; omega)))
  | (apply ix_of; (· with_unfolding_all rfl))
  | (apply set_mu; (· with_unfolding_all rfl))
  | apply same_of
  | (refine lenr ?_ ?_; (· with_unfolding_all omega))
  | (refine eq_own ?_ ?_; (· with_unfolding_all first | trivial | exact List.Mem.head _ | exact List.Mem.tail _ (List.Mem.head _)))
  | walk_at "call")
local macro_rules | `(tactic| walk_at "lc") => `(tactic| fail)
local macro_rules | `(tactic| walk_at "w") => `(tactic| ((repeat ((try conv => whnf); first | walk_at "h" | walk_at "lc")); try conv => whnf))
local macro_rules | `(tactic| walk_at "len") => `(tactic| first | omega | (simp only [List.length_reverse, List.length_map, List.length_zipWith, List.length_append, Li_len, irng_len]; done) | (simp only [List.length_reverse, List.length_map, List.length_zipWith, List.length_append, Li_len, irng_len]; omega))
local macro_rules | `(tactic| walk_at "li") => `(tactic| first | exact (rfl : ([] : List D) = Li []) | exact rfl | exact Li_rev _ | exact Li_app _ _ | exact cutD_Li _ _ _ | exact rep_Li _ _ | (rw [Li_app]; exact cutD_Li _ _ _))
local macro_rules | `(tactic| walk_at "eq") => `(tactic| first | rfl | (simp; done))
local macro_rules | `(tactic| walk_at "lc") => `(tactic| ((with_reducible apply lc_id); first
  | (apply lc_intI (hg := gd0); (· walk_at "len"); (· intro i hi K Z h; walk_at "w"; exact h))
  | (apply lc_zipI (hg := gd0); (· walk_at "len"); (· intro i j hi K Z h; walk_at "w"; exact h))))
local macro_rules | `(tactic| walk_at "call") => `(tactic| with_reducible first
  | (apply new_row; (· exact fun _ => rfl); (· first | exact LT.l _ | exact LT.t _); (· walk_at "len"); (· walk_at "len"))
  | (apply Row_backwards_ok; (· walk_at "len"); (· walk_at "len"))
  | (apply Row_times_ok; (· omega); (· walk_at "len"); (· walk_at "len"))
  | (apply Row_plus_ok; (· walk_at "len"); (· walk_at "len"))
  | (apply Row_joined_ok; (· walk_at "len"); (· walk_at "len"))
  | (apply Row_added_ok; (· walk_at "len"); (· walk_at "len"); (· walk_at "len"))
  | (apply Row_part_ok; (· walk_at "len"); (· walk_at "len"); (· walk_at "len"); (· walk_at "len"))
  | apply Row_len_ok
  | apply Row_eq_ok
  | apply Row_eq_t
  | (apply eq_lG; (· with_unfolding_all walk_at "li"); (· with_unfolding_all walk_at "li"))
  | (apply eq_tG; (· with_unfolding_all walk_at "li"); (· with_unfolding_all walk_at "li"))
  | apply ints_cut
  | (apply br_isD; (· assumption))
  | (refine br_same ?_ ?_; (· with_unfolding_all first | rfl | assumption | (rw [decide_eq_decide]; assumption)))
  | (refine rep_t ?_ ?_ ?_ ?_; (· exact List.cons_ne_nil _ _); (· walk_at "len"); (· exact Nat.le_of_ble_eq_true rfl))
  | (apply ix_hts; (· omega); (· walk_at "len"))
  | (refine br_p ?_ ?_; (· with_unfolding_all walk_at "eq")))
local macro_rules | `(tactic| walk_at "call") => `(tactic| with_reducible first
  | (apply levelled_ok; (· walk_at "len"); (· walk_at "len"))
  | (apply steady_ok; (· walk_at "len"); (· walk_at "len"))
  | apply is_level_ok
  | (apply law_part_ok; (· walk_at "len"); (· walk_at "len"))
  | apply eq_pair)
local macro_rules | `(tactic| walk_at "len") => `(tactic| (simp only [List.length_reverse, List.length_map, lvl_len, Li_len, sumsL_len]; omega))
section
variable {M : Mem} {k : D → Mem → Prop} {E : XP} {t : Addr}
theorem lvl_map (l : List Int) : lvl l = l.map fun g => (l.length : Int) * g - l.sum := by
  unfold lvl
  rw [List.map_map]
  exact List.map_congr_left fun x _ => by show (l.length : Int) * x + -l.sum = _; omega
theorem sum_lin (a b : Int) : ∀ l : List Int, (l.map fun g => a * g - b).sum = a * l.sum - (l.length : Nat) * b
  | [] => by simp
  | x :: l => by
    have z := sum_lin a b l
    rw [List.map_cons, List.sum_cons, z, List.sum_cons, List.length_cons, Int.natCast_add, Int.add_mul, Int.mul_add]
    omega
theorem lvl_sum (l : List Int) : (lvl l).sum = 0 := by
  rw [lvl_map, sum_lin]; omega
theorem sum_mul (a : Int) : ∀ l : List Int, (l.map (a * ·)).sum = a * l.sum
  | [] => by simp
  | x :: l => by
    have z := sum_mul a l
    rw [List.map_cons, List.sum_cons, z, List.sum_cons, Int.mul_add]
theorem lvl_plus (l : List Int) (m : Int) : lvl (l.map (· + m)) = lvl l := by
  rw [lvl_map, lvl_map, List.map_map, List.length_map, sum_plus]
  refine List.map_congr_left fun x _ => ?_
  show (l.length : Int) * (x + m) - (l.sum + l.length * m) = l.length * x - l.sum
  rw [Int.mul_add]; omega
theorem lvl_times (l : List Int) (m : Int) : lvl (l.map (m * ·)) = (lvl l).map (m * ·) := by
  rw [lvl_map, lvl_map, List.map_map, List.map_map, List.length_map, sum_mul]
  refine List.map_congr_left fun x _ => ?_
  show (l.length : Int) * (m * x) - m * l.sum = m * (l.length * x - l.sum)
  rw [Int.mul_sub, ← Int.mul_assoc, ← Int.mul_assoc, Int.mul_comm (l.length : Int) m]
theorem lvl_rev (l : List Int) : lvl l.reverse = (lvl l).reverse := by
  rw [lvl_map, lvl_map, List.length_reverse, List.sum_reverse, List.map_reverse]
theorem lvl_lvl (l : List Int) : lvl (lvl l) = (lvl l).map ((l.length : Int) * ·) := by
  rw [lvl_map (lvl l), lvl_len, lvl_sum]
  exact List.map_congr_left fun x _ => by omega
theorem lvl_zero {l : List Int} (h : l.sum = 0) : lvl l = l.map ((l.length : Int) * ·) := by
  rw [lvl_map, h]
  exact List.map_congr_left fun x _ => by omega
theorem plain_ok {l : List Int} {n : Int} (hT : Tap t n M) (hn : 1 ≤ n) (h0 : 0 < l.length) (h1 : l.length ≤ 48) (hk : ∀ M', Tap t (n - 1) M' → Off t M M' → k (.bl true) M') : w_law_plain_right [.ref t, rowD l, .lst (Li l)] M k E := by
  rw [w_law_plain_right_eq]
  have e1 : ((Li l).length : Int) = l.length := by rw [Li_len]
  walk_at "w"
  refine any_i [1, -2, 0, 10 ^ 9] hT hn (by decide) (by decide) fun m M1 hm hT1 hO1 => ?_
  have hm1 : -(2 ^ 40) < m ∧ m < 2 ^ 40 := by
    simp only [List.mem_cons, List.not_mem_nil, or_false] at hm
    omega
  clear hm
  have f1 : lvl l = l.map fun g => ((Li l).length : Int) * g - l.sum := by rw [e1, lvl_map]
  have f2 := lvl_sum l
  have f4 := lvl_plus l m
  have f5 := lvl_times l m
  have f6 := lvl_rev l
  have f7 : (l.map (· + m)).sum = l.sum + (Li l).length * m := by rw [e1, sum_plus]
  have f8 : lvl (lvl l) = (lvl l).map (((Li l).length : Int) * ·) := by rw [e1, lvl_lvl]
  have f0 : [l.sum / (Int.gcd l.sum l.length : Int), (l.length : Int) / (Int.gcd l.sum l.length : Int)] = [l.sum / (Int.gcd l.sum (Li l).length : Int), ((Li l).length : Int) / (Int.gcd l.sum (Li l).length : Int)] := by rw [e1]
  have f3 : [(lvl l).sum / (Int.gcd (lvl l).sum (lvl l).length : Int), ((lvl l).length : Int) / (Int.gcd (lvl l).sum (lvl l).length : Int)] = [0, 1] := by
    rw [f2, lvl_len, Int.gcd_zero_left, Int.natAbs_natCast, Int.zero_ediv, Int.ediv_self (by omega)]
  have f9 : [(l.map (· + m)).sum / (Int.gcd (l.map (· + m)).sum (l.map (· + m)).length : Int), ((l.map (· + m)).length : Int) / (Int.gcd (l.map (· + m)).sum (l.map (· + m)).length : Int)] = [(l.sum + (Li l).length * m) / (Int.gcd (l.sum + (Li l).length * m) (Li l).length : Int), ((Li l).length : Int) / (Int.gcd (l.sum + (Li l).length * m) (Li l).length : Int)] := by
    rw [f7, show (l.map (· + m)).length = l.length from List.length_map .., e1]
  walk_at "w"
  apply br_d <;> intro hs
  · have f11 : lvl l = l.map (((Li l).length : Int) * ·) := by rw [e1, lvl_zero hs]
    walk_at "w"
    refine dT f11 ?_
    exact hk M1 hT1 hO1
  · walk_at "w"
    rw [decide_eq_false hs]
    exact hk M1 hT1 hO1
theorem sums_lvl {l : List Int} {n : Int} (h1 : 1 ≤ n) (h2 : n ≤ l.length) : sumsL (lvl l) n = (sumsL l n).map fun s => (l.length : Int) * s - n * l.sum := by
  unfold sumsL
  rw [List.map_map, lvl_len]
  refine List.map_congr_left fun b hb => ?_
  obtain ⟨b0, b1⟩ := mem_irng hb
  show (cut (lvl l) b n).sum = (l.length : Int) * (cut l b n).sum - n * l.sum
  have e : cut (lvl l) b n = (cut l b n).map fun g => (l.length : Int) * g - l.sum := by
    rw [lvl_map]
    exact cutD_map _ _ _ _
  rw [e, sum_lin, cut_len (by omega) (by omega) (by omega), show ((n.toNat : Nat) : Int) = n by omega]
theorem sumsL_neg (l : List Int) (n : Int) : sumsL (l.map (-1 * ·)) n = (sumsL l n).map (-1 * ·) := by
  unfold sumsL
  rw [List.map_map, List.length_map]
  refine List.map_congr_left fun b _ => ?_
  show (cut (l.map (-1 * ·)) b n).sum = -1 * (cut l b n).sum
  rw [show cut (l.map (-1 * ·)) b n = (cut l b n).map (-1 * ·) from cutD_map _ _ _ _, sum_mul]
theorem q_gains {S : List Int} {a b : Int} : wordL (S.map fun s => a * s - b) = "gains" ↔ ((Li (S.filter fun s => decide (a * s > b))).length : Int) = (Li S).length := by
  rw [wordL_gains, Li_len, Li_len]
  have z := List.length_filter_eq_length_iff (p := fun s => decide (a * s > b)) (l := S)
  constructor
  · intro h
    have := z.mpr fun s hs => decide_eq_true (by have := h _ (List.mem_map_of_mem hs); omega)
    omega
  · intro h x hx
    obtain ⟨s, hs, rfl⟩ := List.mem_map.mp hx
    have := of_decide_eq_true (z.mp (by omega) s hs)
    omega
theorem q_loses {S : List Int} {a b : Int} (u0 : 0 < S.length) : wordL (S.map fun s => a * s - b) = "loses" ↔ ((Li (S.filter fun s => decide (a * s < b))).length : Int) = (Li S).length := by
  rw [wordL_loses (by rw [List.length_map]; exact u0), Li_len, Li_len]
  have z := List.length_filter_eq_length_iff (p := fun s => decide (a * s < b)) (l := S)
  constructor
  · intro h
    have := z.mpr fun s hs => decide_eq_true (by have := h _ (List.mem_map_of_mem hs); omega)
    omega
  · intro h x hx
    obtain ⟨s, hs, rfl⟩ := List.mem_map.mp hx
    have := of_decide_eq_true (z.mp (by omega) s hs)
    omega
theorem q_flat {S : List Int} {a b : Int} (u0 : 0 < S.length) : wordL (S.map fun s => a * s - b) = "flat" ↔ (S.filter fun s => decide (a * s > b)) ++ (S.filter fun s => decide (a * s < b)) = [] := by
  rw [wordL_flat (by rw [List.length_map]; exact u0), List.append_eq_nil_iff, List.filter_eq_nil_iff, List.filter_eq_nil_iff]
  constructor
  · intro h
    exact ⟨fun s hs c => by have := of_decide_eq_true c; have := h _ (List.mem_map_of_mem hs); omega, fun s hs c => by have := of_decide_eq_true c; have := h _ (List.mem_map_of_mem hs); omega⟩
  · intro h x hx
    obtain ⟨s, hs, rfl⟩ := List.mem_map.mp hx
    have a1 : ¬ (a * s > b) := fun c => h.1 s hs (decide_eq_true c)
    have a2 : ¬ (a * s < b) := fun c => h.2 s hs (decide_eq_true c)
    omega
theorem lengths_ok {l : List Int} (h0 : 0 < l.length) (h1 : l.length ≤ 48) (hk : k (.bl true) M) : w_law_lengths_right [rowD l, .lst (Li l)] M k E := by
  rw [w_law_lengths_right_eq]
  have e1 : ((Li l).length : Int) = l.length := by rw [Li_len]
  walk_at "w"
  refine for_inv (fun i ρ M' => M' = M ∧ ρ = wipe' [some (rowD l), some (.lst (Li l)), some (.int (Li l).length), some (.int l.sum), some (rowD (lvl l)), none, none, none, none, none, none] [5, 6, 7, 8, 9, 10]) ⟨rfl, rfl⟩ (fun i ρ M h => gd0) (fun i x ρ M' hx h K hK => ?_) fun ρ M' h => ?_
  · obtain ⟨rfl, rfl⟩ := h
    obtain ⟨n, hn, rfl⟩ := mem_Li (List.mem_of_getElem? hx)
    obtain ⟨n1, n2⟩ := mem_irng hn
    have n3 : n ≤ l.length := by omega
    walk_at "w"
    refine law_sums_ok (by omega) n3 (by omega) ?_
    walk_at "w"
    refine sums_ok n1 (by rw [lvl_len]; exact n3) (by rw [lvl_len]; omega) ?_
    walk_at "w"
    have g1 : sumsL (lvl l) n = (sumsL l n).map fun s => ((Li l).length : Int) * s - n * l.sum := by rw [e1]; exact sums_lvl n1 n3
    have u0 : 0 < (sumsL l n).length := by rw [sumsL_len]; omega
    walk_at "w"
    refine lc_filtI (fun s => decide (((Li l).length : Int) * s > n * l.sum)) gd0 (by rw [sumsL_len]; omega) (fun i hi K Z h1 h2 => ?_) ?_
    · walk_at "w"
      apply br_d <;> intro q
      · walk_at "w"
        exact h1 (decide_eq_true q)
      · walk_at "w"
        exact h2 (decide_eq_false q)
    walk_at "w"
    refine lc_filtI (fun s => decide (((Li l).length : Int) * s < n * l.sum)) gd0 (by rw [sumsL_len]; omega) (fun i hi K Z h1 h2 => ?_) ?_
    · walk_at "w"
      apply br_d <;> intro q
      · walk_at "w"
        exact h1 (decide_eq_true q)
      · walk_at "w"
        exact h2 (decide_eq_false q)
    walk_at "w"
    refine sort_of_ok n1 (by rw [lvl_len]; exact n3) (by rw [lvl_len]; omega) ?_
    have q1 : wordL (sumsL (lvl l) n) = "gains" ↔ ((Li ((sumsL l n).filter fun s => decide (((Li l).length : Int) * s > n * l.sum))).length : Int) = (Li (sumsL l n)).length := by
      rw [g1]; exact q_gains
    have q2 : wordL (sumsL (lvl l) n) = "loses" ↔ ((Li ((sumsL l n).filter fun s => decide (((Li l).length : Int) * s < n * l.sum))).length : Int) = (Li (sumsL l n)).length := by
      rw [g1]; exact q_loses u0
    have q3 : wordL (sumsL (lvl l) n) = "flat" ↔ ((sumsL l n).filter fun s => decide (((Li l).length : Int) * s > n * l.sum)) ++ ((sumsL l n).filter fun s => decide (((Li l).length : Int) * s < n * l.sum)) = [] := by
      rw [g1]; exact q_flat u0
    have z0 : (sumsL l n).length ≤ 48 := by rw [sumsL_len]; omega
    have z1 : (Li ((sumsL l n).filter fun s => decide (((Li l).length : Int) * s > n * l.sum))).length ≤ 48 := by
      rw [Li_len]; exact Nat.le_trans (List.length_filter_le ..) z0
    have z2 : (Li ((sumsL l n).filter fun s => decide (((Li l).length : Int) * s < n * l.sum))).length ≤ 48 := by
      rw [Li_len]; exact Nat.le_trans (List.length_filter_le ..) z0
    walk_at "w"
    refine eq_lG (m := []) (Li_app _ _) rfl ?_
    walk_at "w"
    apply br_d <;> intro hd
    · have nope : ¬ (wordL (sumsL (lvl l) n) = "gains" ∨ wordL (sumsL (lvl l) n) = "loses") := fun c => by
        have hz := lvl_sum l
        rcases c with c | c
        · have := div_pos n1 (by rw [lvl_len, ← e1]; exact hd) (by rw [lvl_len]; exact h0) (wordL_gains.mp c)
          omega
        · have w := (wordL_loses (by rw [sumsL_len, lvl_len]; omega)).mp c
          have := div_pos (l := (lvl l).map (-1 * ·)) n1 (by rw [List.length_map, lvl_len, ← e1]; exact hd) (by rw [List.length_map, lvl_len]; exact h0) (fun x hx => by
            rw [sumsL_neg] at hx
            obtain ⟨s, hs, rfl⟩ := List.mem_map.mp hx
            have := w s hs
            omega)
          rw [sum_mul] at this
          omega
      walk_at "w"
      refine strs_eq (l := ["gains", "loses"]) rfl ?_
      refine br_n (fun c => nope (by simpa using c)) ?_
      walk_at "w"
      exact hK _ _ ⟨rfl, rfl⟩
    · walk_at "w"
      exact hK _ _ ⟨rfl, rfl⟩
  · obtain ⟨rfl, rfl⟩ := h
    walk_at "w"
    exact hk
end
end K08

set_option Elab.async false
set_option linter.all false
set_option maxRecDepth 100000
set_option maxHeartbeats 4000000
namespace K08
open PySem PySem.Spec PyProof.Rows L2 Rl RZ RT Px
local macro_rules | `(tactic| walk_at "n") => `(tactic| first | assumption | rfl | omega | decide)
local macro_rules | `(tactic| walk_at "sz") => `(tactic| first | exact Nat.le_of_ble_eq_true rfl | omega | (simp only [List.length_append, List.length_cons, List.length_nil, List.length_map, List.length_reverse] at *; omega))
local macro_rules | `(tactic| walk_at "call") => `(tactic| fail)
local macro_rules | `(tactic| walk_at "h") => `(tactic| with_reducible first
  | apply br_t
  | apply br_f
  | apply br_not
  | (apply br_nonF; (· with_unfolding_all rfl))
  | (apply br_nonT; (· with_unfolding_all rfl))
  | (apply br_blF; (· with_unfolding_all rfl))
  | (apply br_blT; (· with_unfolding_all rfl))
  | apply br_bne
  | apply br_empL
  | (refine br_p ?_ ?_; (· with_unfolding_all walk_at "n"))
  | (refine br_n ?_ ?_; (· with_unfolding_all walk_at "n"))
  | (refine sz ?_ ?_; (· with_unfolding_all walk_at "sz"))
  | apply cell_mu
  | (apply cell_of; (· assumption))
  | (apply ern_mu; (· assumption))
  | apply mun_mu
  | apply cellI_mu
  | (apply cellI_of; (· assumption))
  | (apply fld; (· with_unfolding_all rfl))
  | (refine mt_d ?_ ?_; (· with_unfolding_all rfl))
  | (refine att_new ?_ ?_ ?_ ?_ ?_; (· with_unfolding_all rfl); (· with_unfolding_all rfl); (· with_unfolding_all exact List.Mem.head _); (· with_unfolding_all decide))
  | (refine att_set 0 ?_ ?_ ?_ ?_ ?_; (· with_unfolding_all rfl); (· with_unfolding_all rfl); (· with_unfolding_all exact List.Mem.head _); (· with_unfolding_all decide))
  | (refine att_set 1 ?_ ?_ ?_ ?_ ?_; (· with_unfolding_all rfl); (· with_unfolding_all rfl); (· with_unfolding_all exact List.Mem.head _); (· with_unfolding_all decide))
  | (refine att_set 2 ?_ ?_ ?_ ?_ ?_; (· with_unfolding_all rfl); (· with_unfolding_all rfl); (· with_unfolding_all exact List.Mem.head _); (· with_unfolding_all decide))
  | (refine att_set 3 ?_ ?_ ?_ ?_ ?_; (· with_unfolding_all rfl); (· with_unfolding_all rfl); (· with_unfolding_all exact List.Mem.head _); (· with_unfolding_all decide))
  | (apply isi_ttT; (· with_unfolding_all rfl); (· with_unfolding_all rfl))
  | (apply isi_ttF; (· with_unfolding_all rfl); (· with_unfolding_all rfl))
  | (apply isi_to; (· with_unfolding_all rfl); (· with_unfolding_all rfl))
  | (apply isi_ooT; (· with_unfolding_all rfl); (· with_unfolding_all rfl))
  | (apply isi_ooF; (· with_unfolding_all rfl); (· with_unfolding_all rfl))
  | (refine isi_ot ?_ ?_ ?_; (· with_unfolding_all rfl); (· with_unfolding_all decide))
  | (apply isi_2T; (· with_unfolding_all rfl); (· with_unfolding_all rfl))
  | (apply isi_2F; (· with_unfolding_all rfl); (· with_unfolding_all rfl))
  | apply ints_of
  | apply strs_of
  | apply bls_of
  | apply eq_tt
  | apply eq_ll
  | apply eq_l0
  | apply eq_00
  | apply eq_t0
  | apply eq_nonint
  | apply eq_intnon
  | apply eq_nonnon
  | apply eq_blbl
  | (refine rg ?_ ?_; (· with_unfolding_all first | decide | omega | (simp only [List.length_map]; omega)))
  | (refine fd_pos ?_ ?_; (· with_unfolding_all first | decide | omega | (simp only [List.length_map]; omega)))
  | (refine md_pos ?_ ?_; (· with_unfolding_all first | decide | omega | (simp only [List.length_map]; omega)))
  | (refine mul_l ?_ ?_; (· with_unfolding_all first | decide | omega | (simp only [List.length_map]; omega)))
  | (refine mul_r ?_ ?_; (· with_unfolding_all first | decide | omega | (simp only [List.length_map]; omega)))
  | (refine pw_of ?_ ?_ ?_; (· with_unfolding_all first | decide | omega | (simp only [List.length_map]; omega)); (· with_unfolding_all first | decide | omega | (simp only [List.length_map]; omega)))
  | (apply ix_of; (· with_unfolding_all rfl))
  | (apply set_mu; (· with_unfolding_all rfl))
  | apply same_of
  | (refine lenr ?_ ?_; (· with_unfolding_all omega))
  | (refine eq_own ?_ ?_; (· with_unfolding_all first | trivial | exact List.Mem.head _ | exact List.Mem.tail _ (List.Mem.head _)))
  | walk_at "call")
local macro_rules | `(tactic| walk_at "lc") => `(tactic| fail)
local macro_rules | `(tactic| walk_at "w") => `(tactic| ((repeat ((try conv => whnf); first | walk_at "h" | walk_at "lc")); try conv => whnf))
local macro_rules | `(tactic| walk_at "len") => `(tactic| first | omega | (simp only [List.length_reverse, List.length_map, List.length_zipWith, List.length_append, Li_len, irng_len]; done) | (simp only [List.length_reverse, List.length_map, List.length_zipWith, List.length_append, Li_len, irng_len]; omega))
local macro_rules | `(tactic| walk_at "li") => `(tactic| first | exact (rfl : ([] : List D) = Li []) | exact rfl | exact Li_rev _ | exact Li_app _ _ | exact cutD_Li _ _ _ | exact rep_Li _ _ | (rw [Li_app]; exact cutD_Li _ _ _))
local macro_rules | `(tactic| walk_at "eq") => `(tactic| first | rfl | (simp; done))
local macro_rules | `(tactic| walk_at "lc") => `(tactic| ((with_reducible apply lc_id); first
  | (apply lc_intI (hg := gd0); (· walk_at "len"); (· intro i hi K Z h; walk_at "w"; exact h))
  | (apply lc_zipI (hg := gd0); (· walk_at "len"); (· intro i j hi K Z h; walk_at "w"; exact h))))
local macro_rules | `(tactic| walk_at "call") => `(tactic| with_reducible first
  | (apply new_row; (· exact fun _ => rfl); (· first | exact LT.l _ | exact LT.t _); (· walk_at "len"); (· walk_at "len"))
  | (apply Row_backwards_ok; (· walk_at "len"); (· walk_at "len"))
  | (apply Row_times_ok; (· omega); (· walk_at "len"); (· walk_at "len"))
  | (apply Row_plus_ok; (· walk_at "len"); (· walk_at "len"))
  | (apply Row_joined_ok; (· walk_at "len"); (· walk_at "len"))
  | (apply Row_added_ok; (· walk_at "len"); (· walk_at "len"); (· walk_at "len"))
  | (apply Row_part_ok; (· walk_at "len"); (· walk_at "len"); (· walk_at "len"); (· walk_at "len"))
  | apply Row_len_ok
  | apply Row_eq_ok
  | apply Row_eq_t
  | (apply eq_lG; (· with_unfolding_all walk_at "li"); (· with_unfolding_all walk_at "li"))
  | (apply eq_tG; (· with_unfolding_all walk_at "li"); (· with_unfolding_all walk_at "li"))
  | apply ints_cut
  | (apply br_isD; (· assumption))
  | (refine br_same ?_ ?_; (· with_unfolding_all first | rfl | assumption | (rw [decide_eq_decide]; assumption)))
  | (refine rep_t ?_ ?_ ?_ ?_; (· exact List.cons_ne_nil _ _); (· walk_at "len"); (· exact Nat.le_of_ble_eq_true rfl))
  | (apply ix_hts; (· omega); (· walk_at "len"))
  | (refine br_p ?_ ?_; (· with_unfolding_all walk_at "eq")))
local macro_rules | `(tactic| walk_at "call") => `(tactic| with_reducible first
  | (apply levelled_ok; (· walk_at "len"); (· walk_at "len"))
  | (apply steady_ok; (· walk_at "len"); (· walk_at "len"))
  | apply is_level_ok
  | (apply law_part_ok; (· walk_at "len"); (· walk_at "len"))
  | apply eq_pair)
local macro_rules | `(tactic| walk_at "len") => `(tactic| (simp only [List.length_reverse, List.length_map, lvl_len, Li_len, sumsL_len]; omega))
section
variable {M : Mem} {k : D → Mem → Prop} {E : XP} {t : Addr}
theorem at_last {l : List Int} (h : 0 < l.length) : atI l (-1) = some (l[l.length - 1]'(by omega)) := by
  unfold atI ixN
  rw [if_neg (by omega), if_pos (by omega)]
  show l[((-1 : Int) + (l.length : Nat)).toNat]? = _
  rw [show ((-1 : Int) + (l.length : Nat)).toNat = l.length - 1 by omega, List.getElem?_eq_getElem]
theorem ix_last {n : Nat} (h : 0 < n) : ixN n (-1) = some (n - 1) := by
  unfold ixN
  rw [if_neg (by omega), if_pos (by omega)]
  congr 1; omega
theorem law_ok {ns : List Int} : w_law [.scr ns] M (fun v _ => v = .bl true) E := by
  rw [w_law_eq]
  walk_at "w"
  refine tap_ok fun p M0 hp hT => ?_
  walk_at "w"
  refine for_inv (fun i ρ M => (∃ x, ρ = [some (.scr ns), some (.ref p), none, x, none, none]) ∧ Tap p (1048576 - 1000 * i) M) ⟨⟨_, rfl⟩, by simpa using hT⟩ (fun i ρ M h => gd0) (fun i x ρ M hx h K hK => ?_) fun ρ M h => ?_
  · obtain ⟨⟨x3, rfl⟩, hT⟩ := h
    have hi : i < 3 := by
      have := (List.getElem?_eq_some_iff.mp hx).1
      rw [Li_len, irng_len] at this
      exact this
    walk_at "w"
    refine any_i [6, 12, 5, 1, 24, 7, 2, 10, 16, 3] hT (by omega) (by decide) (by decide) fun d M1 hd hT1 _ => ?_
    have hd1 : 1 ≤ d ∧ d ≤ 24 := by
      simp only [List.mem_cons, List.not_mem_nil, or_false] at hd
      omega
    clear hd
    walk_at "w"
    refine gains_ok hT1 (by omega) hd1.1 (by omega) fun l q M2 hq hl _ hM2 hT2 => ?_
    walk_at "w"
    refine drip_ok hT2 (by omega) (by omega) (by omega) fun r M3 r0 r1 hT3 hO3 => ?_
    have hM3 : M3 q = some (.lst (Li l)) := by rw [hO3 q hq]; exact hM2
    walk_at "w"
    apply br_d <;> intro hr
    · walk_at "w"
      refine known_ok hT3 (by omega) fun u M4 u0 u1 hT4 hO4 => ?_
      walk_at "w"
      refine plain_ok hT4 (by omega) (by omega) (by omega) fun M5 hT5 hO5 => ?_
      walk_at "w"
      refine lengths_ok (by omega) (by omega) ?_
      walk_at "w"
      exact hK _ _ ⟨⟨_, rfl⟩, hT5.mono (by omega)⟩
    · walk_at "w"
      apply br_d <;> intro hr1
      · walk_at "w"
        refine ix_of (atI_Li (at_last (by omega))) ?_
        walk_at "w"
        refine set_of hM3 (ix_last (by rw [Li_len]; omega)) ?_
        rw [set_Li]
        walk_at "w"
        refine frz_of mu_same ?_
        walk_at "w"
        refine new_row (fun _ => rfl) (.l _) (by rw [List.length_set]; omega) (by rw [List.length_set]; omega) ?_
        walk_at "w"
        refine plain_ok ((hT3.mu hq).er hq) (by omega) (by rw [List.length_set]; omega) (by rw [List.length_set]; omega) fun M5 hT5 hO5 => ?_
        walk_at "w"
        refine lengths_ok (by rw [List.length_set]; omega) (by rw [List.length_set]; omega) ?_
        walk_at "w"
        exact hK _ _ ⟨⟨_, rfl⟩, hT5.mono (by omega)⟩
      · walk_at "w"
        refine frz_of hM3 ?_
        walk_at "w"
        refine new_row (fun _ => rfl) (.l _) (by omega) (by omega) ?_
        walk_at "w"
        refine plain_ok (hT3.er hq) (by omega) (by omega) (by omega) fun M5 hT5 hO5 => ?_
        walk_at "w"
        refine lengths_ok (by omega) (by omega) ?_
        walk_at "w"
        exact hK _ _ ⟨⟨_, rfl⟩, hT5.mono (by omega)⟩
  · obtain ⟨⟨x3, rfl⟩, hT⟩ := h
    walk_at "w"
    refine ern_of ?_
    walk_at "w"
    rcases x3 with _ | x3
    · walk_at "w"
    · cases x3 with
      | ref a =>
        walk_at "w"
        refine ern_of ?_
        walk_at "w"
      | _ => walk_at "w"
end
end K08

set_option Elab.async false
set_option linter.all false
set_option maxRecDepth 100000
set_option maxHeartbeats 0
namespace K08
open PySem PySem.Spec PyProof.Rows L2 Rl RZ RT Px
section
variable {P : Program} {w : World} {K : PySem.W.Frag} {mg : Str → Option Value} {base : Heap}
theorem all_ok (b : Bd K mg) : GoodF P w K mg base 8 d_law ["_law_script"] (sp_law K w) := by
  have h_Row_eq : GoodF P w K mg base 1 d_Row_eq ["self", "other"] (sp_Row_eq K w) := ok_Row_eq b 
  have h_Row_len : GoodF P w K mg base 1 d_Row_len ["self"] (sp_Row_len K w) := ok_Row_len b 
  have h_word_of : GoodF P w K mg base 1 d_word_of ["told"] (sp_word_of K w) := ok_word_of b 
  have h_sums_in : GoodF P w K mg base 1 d_sums_in ["row", "length"] (sp_sums_in K w) := ok_sums_in b 
  have h_is_integer : GoodF P w K mg base 1 d_is_integer ["value"] (sp_is_integer K w) := ok_is_integer b 
  have h_is_within : GoodF P w K mg base 2 d_is_within ["value", "least", "most"] (sp_is_within K w) := ok_is_within b h_is_integer
  have h_need_number : GoodF P w K mg base 3 d_need_number ["value", "part", "least", "most"] (sp_need_number K w) := ok_need_number b h_is_within
  have h_need_row : GoodF P w K mg base 1 d_need_row ["value", "part"] (sp_need_row K w) := ok_need_row b 
  have h_need_length : GoodF P w K mg base 4 d_need_length ["row", "length"] (sp_need_length K w) := ok_need_length b h_need_number h_need_row
  have h_sort_of : GoodF P w K mg base 5 d_sort_of ["row", "length"] (sp_sort_of K w) := ok_sort_of b h_word_of h_sums_in h_need_length
  have h_sums : GoodF P w K mg base 5 d_sums ["row", "length"] (sp_sums K w) := ok_sums b h_sums_in h_need_length
  have h_law_sums : GoodF P w K mg base 3 d_law_sums ["_law_gains_here", "_law_length"] (sp_law_sums K w) := ok_law_sums b h_Row_len
  have h_heights_of : GoodF P w K mg base 1 d_heights_of ["gains"] (sp_heights_of K w) := ok_heights_of b 
  have h_are_integers : GoodF P w K mg base 2 d_are_integers ["value"] (sp_are_integers K w) := ok_are_integers b h_is_integer
  have h_Row_init : GoodF P w K mg base 3 d_Row_init ["self", "gains"] (sp_Row_init K w) := ok_Row_init b h_heights_of h_are_integers
  have h_Row_times : GoodF P w K mg base 5 d_Row_times ["self", "number"] (sp_Row_times K w) := ok_Row_times b h_Row_init h_need_number
  have h_Row_plus : GoodF P w K mg base 5 d_Row_plus ["self", "number"] (sp_Row_plus K w) := ok_Row_plus b h_Row_init h_need_number
  have h_levelled : GoodF P w K mg base 6 d_levelled ["row"] (sp_levelled K w) := ok_levelled b h_Row_times h_Row_plus h_need_row
  have h_law_lengths_right : GoodF P w K mg base 7 d_law_lengths_right ["_law_row", "_law_gains_here"] (sp_law_lengths_right K w) := ok_law_lengths_right b h_Row_eq h_Row_len h_sort_of h_sums h_law_sums h_levelled
  have h_measure : GoodF P w K mg base 1 d_measure ["one", "other"] (sp_measure K w) := ok_measure b 
  have h_in_lowest : GoodF P w K mg base 2 d_in_lowest ["number", "by"] (sp_in_lowest K w) := ok_in_lowest b h_measure
  have h_steady : GoodF P w K mg base 3 d_steady ["row"] (sp_steady K w) := ok_steady b h_in_lowest h_need_row
  have h_law_part : GoodF P w K mg base 2 d_law_part ["_law_total", "_law_days"] (sp_law_part K w) := ok_law_part b h_Row_eq
  have h_Row_backwards : GoodF P w K mg base 5 d_Row_backwards ["self"] (sp_Row_backwards K w) := ok_Row_backwards b h_Row_init
  have h_is_level : GoodF P w K mg base 2 d_is_level ["row"] (sp_is_level K w) := ok_is_level b h_need_row
  have h_law_drip : GoodF P w K mg base 3 d_law_drip ["_law_tap_here", "_law_many"] (sp_law_drip K w) := ok_law_drip b h_Row_len h_Row_eq
  have h_law_any : GoodF P w K mg base 4 d_law_any ["_law_tap_here", "_law_some"] (sp_law_any K w) := ok_law_any b h_law_drip h_Row_len
  have h_law_plain_right : GoodF P w K mg base 7 d_law_plain_right ["_law_tap_here", "_law_row", "_law_gains_here"] (sp_law_plain_right K w) := ok_law_plain_right b h_Row_eq h_Row_times h_levelled h_steady h_Row_plus h_law_part h_Row_backwards h_is_level h_law_any h_Row_len
  have h_law_known : GoodF P w K mg base 5 d_law_known ["_law_tap_here"] (sp_law_known K w) := ok_law_known b h_law_any
  have h_law_gains : GoodF P w K mg base 5 d_law_gains ["_law_tap_here", "_law_days"] (sp_law_gains K w) := ok_law_gains b h_Row_eq h_law_any h_law_drip h_Row_len
  have h_law_tap : GoodF P w K mg base 1 d_law_tap ["_law_script"] (sp_law_tap K w) := ok_law_tap b 
  exact ok_law b h_law_lengths_right h_law_plain_right h_Row_init h_Row_eq h_law_known h_law_drip h_law_gains h_law_any h_law_tap
end
def obsBG2 (n : Nat) (fa : List Fb) (fn : List Df) (g : Addr → Option Obj) : Rl.Al := obsB fa fn (He.frG g (cStatics :: He.asD g n))
def hookB2 (n : Nat) (fa : List Fb) (fn : List Df) : PySem.W.Hook where
  α := Rl.Al
  obs := fun s => obsBG2 n fa fn s.heap.get?
  val := fun _ => valB fn
  says := fun _ h => ∃ K : PySem.W.Frag, K.In h ∧ SaysB fa fn K
  of := fun _ _ e => ⟨_, He.frG_in, e⟩
  keeps := fun _ _ _ ⟨K, hK, c⟩ k => ⟨K, PySem.W.Frag.In.keeps hK k, c⟩
theorem obsBG2_eq {n : Nat} {fa : List Fb} {fn : List Df} {g : Addr → Option Obj} {s : Shared} (h : ∀ a, g a = s.heap.get? a) : obsBG2 n fa fn g = (hookB2 n fa fn).obs s := by
  have e : g = s.heap.get? := funext h
  rw [e] <;> rfl
def fb : List Fb := fa ++ [.he (.glo "law")]
theorem fb_says {K : PySem.W.Frag} (c : SaysB fb fn K) : SaysB fa fn K ∧ (Fb.he (.glo "law")).ok K = true := by
  have c1 := (He.ba (show ((fb.all fun f => f.ok K) && fn.all fun d => d.ok K) = true from congrArg (fun z : Rl.Al => z.1) c))
  have c2 : fn.map (fun d => fnW K (ad K d.loc)) = fn.map Df.val := congrArg (fun z : Rl.Al => z.2) c
  have c3 : ((fa.all fun f => f.ok K) && ([Fb.he (.glo "law")].all fun f => f.ok K)) = true := by
    rw [← List.all_append]; exact c1.1
  obtain ⟨c4, c5⟩ := He.ba c3
  refine ⟨?_, by simpa using c5⟩
  show ((fa.all fun f => f.ok K) && fn.all fun d => d.ok K, fn.map fun d => fnW K (ad K d.loc)) = (true, fn.map Df.val)
  rw [c4, c1.2, c2]
  rfl
abbrev R : PySem.W.OpenRow := PySem.W.OpenLaw.row PySem.Challenge.rw_anyseven_k08_the_steady_part_taken_off
abbrev hk : PySem.W.Hook := hookB2 6 fb fn
def ob (s : PySem.W.SharedT) : Rl.Al := obsBG2 6 fb fn (HandSHeadRun.getT s)
theorem ob_eq (s : PySem.W.SharedT) : ob s = hk.obs s.abs := obsBG2_eq (HandSHeadRun.getT_eq s)
def names0 : List PySem.Str := ["_wall", "DayError", "BadRow", "BadNumber", "TooMany", "BadText", "DIGITS", "is_integer", "is_within", "are_integers", "need_number", "measure", "in_lowest", "MOST_DIGITS", "integer_of", "Scan", "MOST_DAYS", "need_row", "need_stretch", "heights_of", "Row", "is_level", "steady", "levelled", "GAINS", "LOSES", "FLAT", "MIXED", "need_length", "sums_in"]
def names1 : List PySem.Str := ["word_of", "sums", "sort_of", "_law_tap", "_law_drip", "_law_any", "_law_gains", "_law_known", "_law_sums", "_law_part", "_law_plain_right", "_law_lengths_right"]
def names : List PySem.Str := names0 ++ names1
theorem run (w : World) : HandSHeadRun.RunEq R (PySem.W.view R.prog [49]) hk ob 4000 names w := by
  intro os
  kernel_rfl
theorem fd_uniq {K : PySem.W.Frag} {x qual : Str} {params : Arguments} {body : List Stmt} {scope : Scope} {dvs : List V} {kws : List (Str × V)} {f : Addr} {fd fd' : FuncData} (h : FunD K x qual params body scope dvs kws f fd) (h' : FunD K x qual params body scope dvs kws f fd') : fd = fd' := by
  obtain ⟨oc, od, dV, kV, doc, pm, an, cdv, ct, osl, e, lk, _⟩ := h.ex
  obtain ⟨oc', od', dV', kV', doc', pm', an', cdv', ct', osl', e', lk', _⟩ := h'.ex
  rw [lk] at lk'
  have z := congrArg Obj.data (Option.some.inj lk')
  exact Data.func.inj z
theorem law_start {K : PySem.W.Frag} {w : World} {mg : Str → Option Value} (b : Bd K mg) (H : Hp) (a : Addr) (ns : List Int) (hS : SqL K H a (ns.map V.int)) : sp_law K w [.ref a] H (fun v _ => v = .bl true) fun _ _ _ => False :=
  sd_all (w := w) b (fun _ => none) H H (fun _ => none) [.ref a] [.scr ns] (fun v _ => v = .bl true) noX (fun v _ => v = .bl true) (fun _ _ _ => False)
    { gh := (fun _ _ h => by cases h), fh := Evl.Ex.refl H, gf := (fun _ _ h => by cases h), gm := (fun _ _ h => by cases h), mc := (fun _ _ h => by cases h) }
    (.cons (.scr hS) .nil) law_ok (fun F' H' v x M' hk _ _ i => by
      cases hk
      cases i
      rfl)
theorem facts {P : Program} {w : World} {K : PySem.W.Frag} {h : Heap} {mg : Str → Option Value} {f : Addr} (X : K.In h) (G : h.Ns mainGlobals mg) (hfa : mg ("law" : Str) = some (.ref f)) (c0 : SaysB fb fn K) :
    ∃ fd : FuncData, (∀ (s : Shared) (v : Value), BindsTo s fd ⟨[v], []⟩ [("_law_script", v)]) ∧ (∀ (H : Hp) (a : Addr) (ns : List Int), SqL K H a (ns.map V.int) → sp_law K w [.ref a] H (fun v _ => v = .bl true) fun _ _ _ => False) ∧ ∀ base : Heap, K.In base → base.Ns mainGlobals mg → FnOk P w K mg base CX0 8 f fd ["_law_script"] (sp_law K w) := by
  obtain ⟨c, cl⟩ := fb_says c0
  have b : Bd K mg := ⟨h, X, G, c⟩
  obtain ⟨fd, F⟩ := c.def_ 31 (d := d_law) rfl
  have e : mg ("law" : Str) = some (.ref (ad K d_law.loc)) := He.glo_ok X G cl
  have e2 : f = ad K d_law.loc := by
    have := hfa.symm.trans e
    cases this
    rfl
  subst e2
  have bd := FunD.bindsA (ps := ["_law_script"]) F fun _ _ _ _ _ _ us hl => match us, hl with | [_], _ => rfl
  refine ⟨fd, fun s v => bd s [v] rfl, fun H a ns hS => law_start b H a ns hS, fun base _ _ => ?_⟩
  obtain ⟨fd', G', F'⟩ := all_ok (P := P) (w := w) (base := base) b
  rw [fd_uniq F F']
  exact G'
end K08
open PySem PySem.W PySem.Calls PyProof.Rows
theorem PySem.Challenge.cw_anyseven_k08_the_steady_part_taken_off_holds : PySem.Challenge.rw_anyseven_k08_the_steady_part_taken_off.Holds := by
  w_on; o_law
  refine HandSHeadRun.head_any (r := OpenLaw.row PySem.Challenge.rw_anyseven_k08_the_steady_part_taken_off) (q := view (OpenLaw.row PySem.Challenge.rw_anyseven_k08_the_steady_part_taken_off).prog [49]) (H := K08.hk) (ob := K08.ob) (M := 4000) (loose := K08.names) (d := HandSHeadRun.topDef (OpenLaw.row PySem.Challenge.rw_anyseven_k08_the_steady_part_taken_off).prog 49) (kwd := []) K08.ob_eq
    (by kernel_rfl) (fun s => by kernel_rfl) K08.run (by kernel_rfl) (by kernel_rfl) (by kernel_rfl) (by rfl) (by first | assumption | decide +kernel) (by decide +kernel) ⟨rfl, rfl, rfl, rfl, rfl, by decide +kernel⟩ ?hw ?hc
  case hw => w_witness2
  case hc =>
    refine L2.walk_ofE (l := PySem.Challenge.rw_anyseven_k08_the_steady_part_taken_off) (n := 63) (k := 8) (x := "_law_script") (CX := L2.CX0) rfl (by decide) (by kernel_rfl) ⟨rfl, by decide, by decide⟩ ?F (fun _ _ _ _ z => z)
    intro w mg fa h Y G hmg0
    obtain ⟨K, KX, c⟩ := Y
    have hmg : mg ("law" : PySem.Str) = some (.ref fa) := by
      have e : (HandSHeadRun.topDef (OpenLaw.row PySem.Challenge.rw_anyseven_k08_the_steady_part_taken_off).prog 49).name = ("law" : PySem.Str) := by kernel_rfl
      rw [← e]
      exact hmg0
    obtain ⟨fd, hb, hs, hF⟩ := K08.facts (P := (PySem.Challenge.rw_anyseven_k08_the_steady_part_taken_off).prog) (w := w) KX G hmg c
    exact ⟨K, fd, K08.sp_law K w, KX, hb, fun H a ns hl _ hS => hs H a ns hS, hF⟩

