import PyProof.Rows.All
import Wide.All
import OpenK.AllK
import Wide.FinOn
import HandS.ForMost
import HandS.Evl
import HandS.Exc
import HandS.HeadHook1
import HandS.HeadHook2
import KE.KFmtOwn
import KE.KCallOwn
import PyProof.InstEq
import HandS.Defaults
import HandS.IsInst
import HandS.MakeKw
import HandS.TupAny
import HandS.ClsMeth
import HandS.Wide
import HandS.TupLe
import HandS.Deep
import HandS.Zip
import HandS.Style
import HandS.Flow
import HandS.Steps
import HandS.Rev
import PySem.Challenge.RW_anyseven_k04_rows_by_their_gains
import KE.KStateDown
import HandS.Head0
import HandS.Head1
import HandS.Head2
import HandS.HeadEnd
set_option Elab.async false
set_option linter.all false
set_option maxRecDepth 100000
set_option maxHeartbeats 4000000
/-! Plain data over the abstract heap, and symbolic frames: slots and what is on the way. -/
namespace Dl
open PySem PySem.Spec PyProof.Rows L2
open Evl (Ex)
abbrev Frag := PySem.W.Frag

/-- plain data -/
inductive D where
  | non | bl (b : Bool) | int (i : Int) | str (s : Str) | ty (n : String)
  | lst (xs : List D) | tup (xs : List D)
  | ins (c : Str) (ns : List Str) (xs : List D)
  /-- an own class -/
  | cls (c : Str)
  /-- any value, not looked into -/
  | opq (v : V)

mutual
/-- v is the datum, over the heap F -/
inductive Is (K : Frag) (F : Hp) : V → D → Prop
  | non : Is K F .non .non
  | bl (b : Bool) : Is K F (.bl b) (.bl b)
  | int (i : Int) : Is K F (.int i) (.int i)
  | str (s : Str) : Is K F (.str s) (.str s)
  | ty (n : String) : Is K F (.ty n) (.ty n)
  | lst {a : Addr} {xs : List V} {ds : List D} : Rd F a (.lst xs) → IsAll K F xs ds → Is K F (.ref a) (.lst ds)
  | tup {a : Addr} {xs : List V} {ds : List D} : SqT K F a xs → IsAll K F xs ds → Is K F (.ref a) (.tup ds)
  | ins {a dx : Addr} {fs : List (Str × V)} {c : Str} {ns : List Str} {ds : List D} : F a = some (.ins (He.ga K c) dx fs) → fs.map (·.1) = ns → IsAll K F (fs.map (·.2)) ds → Is K F (.ref a) (.ins c ns ds)
  | cls (c : Str) : Is K F (.ref (He.ga K c)) (.cls c)
  | opq (v : V) : Is K F v (.opq v)
inductive IsAll (K : Frag) (F : Hp) : List V → List D → Prop
  | nil : IsAll K F [] []
  | cons {v : V} {vs : List V} {d : D} {ds : List D} : Is K F v d → IsAll K F vs ds → IsAll K F (v :: vs) (d :: ds)
end
section
variable {K : Frag} {F F' H H' : Hp}
mutual
theorem Is.mono (e : Ex F F') : ∀ (d : D) (v : V), Is K F v d → Is K F' v d
  | .non, _, h => by cases h; exact .non
  | .bl b, _, h => by cases h; exact .bl b
  | .int i, _, h => by cases h; exact .int i
  | .str s, _, h => by cases h; exact .str s
  | .ty s, _, h => by cases h; exact .ty s
  | .cls s, _, h => by cases h; exact .cls s
  | .opq u, _, h => by cases h; exact .opq u
  | .lst ds, _, h => by
    cases h with
    | lst h1 h2 => exact .lst (Evl.ex_rd e h1) (IsAll.mono e ds _ h2)
  | .tup ds, _, h => by
    cases h with
    | tup h1 h2 => exact .tup (Evl.ex_t e h1) (IsAll.mono e ds _ h2)
  | .ins c ns ds, _, h => by
    cases h with
    | ins h1 h2 h3 => exact .ins (e _ _ h1) h2 (IsAll.mono e ds _ h3)
theorem IsAll.mono (e : Ex F F') : ∀ (ds : List D) (vs : List V), IsAll K F vs ds → IsAll K F' vs ds
  | [], _, h => by cases h; exact .nil
  | d :: ds, _, h => by
    cases h with
    | cons h1 h2 => exact .cons (Is.mono e d _ h1) (IsAll.mono e ds _ h2)
end
theorem Is.up {v : V} {d : D} (h : Is K F v d) (e : Ex F F') : Is K F' v d := Is.mono e d v h
theorem IsAll.up {v : List V} {d : List D} (h : IsAll K F v d) (e : Ex F F') : IsAll K F' v d := IsAll.mono e d v h
theorem IsAll.len : ∀ {vs : List V} {ds : List D}, IsAll K F vs ds → vs.length = ds.length
  | _, _, .nil => rfl
  | _, _, .cons _ h => by rw [List.length_cons, List.length_cons, IsAll.len h]
theorem IsAll.get : ∀ {vs : List V} {ds : List D} {i : Nat} {d : D}, IsAll K F vs ds → ds[i]? = some d → ∃ v, vs[i]? = some v ∧ Is K F v d
  | _, _, _, _, .nil, e => by simp at e
  | _, _, 0, _, .cons h _, e => by simp at e; subst e; exact ⟨_, rfl, h⟩
  | _, _, i + 1, d, .cons _ t, e => by
    obtain ⟨v, h1, h2⟩ := IsAll.get (i := i) (d := d) t (by simpa using e)
    exact ⟨v, by simpa using h1, h2⟩
theorem IsAll.getV : ∀ {vs : List V} {ds : List D} {i : Nat} {v : V}, IsAll K F vs ds → vs[i]? = some v → ∃ d, ds[i]? = some d ∧ Is K F v d
  | _, _, _, _, .nil, e => by simp at e
  | _, _, 0, _, .cons h _, e => by simp at e; subst e; exact ⟨_, rfl, h⟩
  | _, _, i + 1, d, .cons _ t, e => by
    obtain ⟨v, h1, h2⟩ := IsAll.getV (i := i) t (by simpa using e)
    exact ⟨v, by simpa using h1, h2⟩
theorem IsAll.app : ∀ {vs ws : List V} {ds es : List D}, IsAll K F vs ds → IsAll K F ws es → IsAll K F (vs ++ ws) (ds ++ es)
  | _, _, _, _, .nil, h => h
  | _, _, _, _, .cons h t, g => .cons h (IsAll.app t g)
theorem IsAll.set : ∀ {vs : List V} {ds : List D} {v : V} {d : D} (i : Nat), IsAll K F vs ds → Is K F v d → IsAll K F (vs.set i v) (ds.set i d)
  | _, _, _, _, _, .nil, _ => .nil
  | _, _, _, _, 0, .cons _ t, g => .cons g t
  | _, _, _, _, i + 1, .cons h t, g => .cons h (IsAll.set i t g)
theorem IsAll.take : ∀ {vs : List V} {ds : List D} (i : Nat), IsAll K F vs ds → IsAll K F (vs.take i) (ds.take i)
  | _, _, 0, _ => .nil
  | _, _, _ + 1, .nil => .nil
  | _, _, i + 1, .cons h t => .cons h (IsAll.take i t)
theorem IsAll.drop : ∀ {vs : List V} {ds : List D} (i : Nat), IsAll K F vs ds → IsAll K F (vs.drop i) (ds.drop i)
  | _, _, 0, h => h
  | _, _, _ + 1, .nil => .nil
  | _, _, i + 1, .cons _ t => IsAll.drop i t
theorem IsAll.rev {vs : List V} {ds : List D} (h : IsAll K F vs ds) : IsAll K F vs.reverse ds.reverse := by
  induction ds generalizing vs with
  | nil => cases h; exact .nil
  | cons d ds ih =>
    cases h with
    | cons h t =>
      rw [List.reverse_cons, List.reverse_cons]
      exact (ih t).app (.cons h .nil)
/-- lists of ints, of texts, of bools -/
abbrev Li (l : List Int) : List D := l.map D.int
abbrev Ls (l : List Str) : List D := l.map D.str
abbrev Lb (l : List Bool) : List D := l.map D.bl
theorem IsAll.li : ∀ (l : List Int) {vs : List V}, IsAll K F vs (l.map D.int) → vs = l.map V.int
  | [], _, h => by cases h; rfl
  | i :: l, _, h => by
    cases h with
    | cons h t => cases h; rw [IsAll.li l t]; rfl
theorem IsAll.ls : ∀ (l : List Str) {vs : List V}, IsAll K F vs (l.map D.str) → vs = l.map V.str
  | [], _, h => by cases h; rfl
  | i :: l, _, h => by
    cases h with
    | cons h t => cases h; rw [IsAll.ls l t]; rfl
theorem IsAll.lb : ∀ (l : List Bool) {vs : List V}, IsAll K F vs (l.map D.bl) → vs = l.map V.bl
  | [], _, h => by cases h; rfl
  | i :: l, _, h => by
    cases h with
    | cons h t => cases h; rw [IsAll.lb l t]; rfl
theorem IsAll.of_li : ∀ (l : List Int), IsAll K F (l.map V.int) (l.map D.int)
  | [] => .nil
  | i :: l => .cons (.int i) (IsAll.of_li l)
end

/-! ### what is owned -/
/-- an owned object's content -/
inductive OC where
  | lst (xs : List D)
  | ins (c : Str) (ns : List Str) (xs : List D)
/-- frozen -/
def OC.toD : OC → D
  | .lst xs => .lst xs
  | .ins c ns xs => .ins c ns xs
def OCat (K : Frag) (F H : Hp) (a : Addr) : OC → Prop
  | .lst ds => ∃ vs, H a = some (.lst vs) ∧ IsAll K F vs ds
  | .ins c ns ds => ∃ dx fs, H a = some (.ins (He.ga K c) dx fs) ∧ fs.map (·.1) = ns ∧ IsAll K F (fs.map (·.2)) ds
theorem OCat.there {K : Frag} {F H : Hp} {a : Addr} {c : OC} (h : OCat K F H a c) : ∃ o, H a = some o := by
  cases c with
  | lst ds => obtain ⟨vs, h, _⟩ := h; exact ⟨_, h⟩
  | ins c ns ds => obtain ⟨dx, fs, h, _⟩ := h; exact ⟨_, h⟩
theorem OCat.mono {K : Frag} {F F' H H' : Hp} {a : Addr} {c : OC} (h : OCat K F H a c) (e : Ex F F') (k : ∀ o, H a = some o → H' a = some o) : OCat K F' H' a c := by
  cases c with
  | lst ds => obtain ⟨vs, h, g⟩ := h; exact ⟨_, k _ h, g.up e⟩
  | ins c ns ds => obtain ⟨dx, fs, h, g1, g2⟩ := h; exact ⟨dx, fs, k _ h, g1, g2.up e⟩
/-- slots; what is on the way -/
inductive S where
  | u | d (x : D) | m (c : OC)
inductive T where
  | d (x : D) | m (c : OC) | at (k : Nat)

def HS (K : Frag) (F G H : Hp) (o : Option V) : S → Prop
  | .u => True
  | .d x => ∃ v, o = some v ∧ Is K F v x
  | .m c => ∃ a, o = some (.ref a) ∧ F a = none ∧ G a = none ∧ OCat K F H a c
def HTm (K : Frag) (F G H : Hp) (σ : L2.St) (ρ : List S) (v : V) : T → Prop
  | .d x => Is K F v x
  | .m c => ∃ a, v = .ref a ∧ F a = none ∧ G a = none ∧ OCat K F H a c
  | .at k => σ[k]? = some (some v) ∧ ∃ c, ρ[k]? = some (.m c)

/-- what stands fixed while a def runs: what it must leave as it is, the slots of what it may change -/
structure Fix where
  K : Frag
  G : Hp
  pl : List (Nat × Addr)

/-- a frame -/
structure Ev (B : Fix) (F H : Hp) (σ : L2.St) (τ : List V) (ρ : List S) (θ : List T) : Prop where
  g : Ex B.G H
  fh : Ex F H
  ls : σ.length = ρ.length
  lt : τ.length = θ.length
  sl : ∀ (i : Nat) (s : S) (o : Option V), ρ[i]? = some s → σ[i]? = some o → HS B.K F B.G H o s
  tp : ∀ (i : Nat) (t : T) (v : V), θ[i]? = some t → τ[i]? = some v → HTm B.K F B.G H σ ρ v t
  ss : ∀ (i j : Nat) (c c' : OC) (a : Addr), ρ[i]? = some (.m c) → ρ[j]? = some (.m c') → σ[i]? = some (some (.ref a)) → σ[j]? = some (some (.ref a)) → i = j
  st : ∀ (i j : Nat) (c c' : OC) (a : Addr), ρ[i]? = some (.m c) → θ[j]? = some (.m c') → σ[i]? = some (some (.ref a)) → τ[j]? = some (.ref a) → False
  tt : ∀ (i j : Nat) (c c' : OC) (a : Addr), θ[i]? = some (.m c) → θ[j]? = some (.m c') → τ[i]? = some (.ref a) → τ[j]? = some (.ref a) → i = j
  pn : ∀ p ∈ B.pl, σ[p.1]? = some (some (.ref p.2)) ∧ ∃ c, ρ[p.1]? = some (.m c)

/-- the data grow; nothing of the surroundings becomes a datum -/
structure Up (B : Fix) (F F' : Hp) : Prop where
  ex : Ex F F'
  gn : ∀ a o, B.G a = some o → F a = none → F' a = none
theorem Up.refl {B : Fix} {F : Hp} : Up B F F := ⟨Ex.refl F, fun _ _ _ h => h⟩
theorem Up.trans {B : Fix} {F F1 F2 : Hp} (a : Up B F F1) (b : Up B F1 F2) : Up B F F2 := ⟨a.ex.trans b.ex, fun x o h n => b.gn x o h (a.gn x o h n)⟩

/-- a pure step of the heaps -/
structure Grow (F H F' H' : Hp) : Prop where
  ff : Ex F F'
  fh : Ex F' H'
  hh : Ex H H'
  new : ∀ a, F a = none → (∃ o, H a = some o) → F' a = none
theorem Grow.refl {F H : Hp} (h : Ex F H) : Grow F H F H := ⟨Ex.refl F, h, Ex.refl H, fun _ h _ => h⟩
theorem Grow.trans {F H F1 H1 F2 H2 : Hp} (a : Grow F H F1 H1) (b : Grow F1 H1 F2 H2) : Grow F H F2 H2 :=
  ⟨a.ff.trans b.ff, b.fh, a.hh.trans b.hh, fun x h o => b.new x (a.new x h o) (let ⟨y, e⟩ := o; ⟨y, a.hh x y e⟩)⟩
theorem Grow.up {B : Fix} {F H F' H' : Hp} (a : Grow F H F' H') (g : Ex B.G H) : Up B F F' := ⟨a.ff, fun x o h n => a.new x n ⟨o, g x o h⟩⟩
/-- a new object, frozen at once -/
theorem Grow.laid {F H : Hp} {p : Addr} {o : HO} (h : Ex F H) (n : H p = none) : Grow F H (upd F p o) (upd H p o) := by
  have fn : F p = none := Evl.fresh_back h n
  refine ⟨Ex.new fn, fun a u e => ?_, Ex.new n, fun a h1 h2 => ?_⟩
  · by_cases ha : a = p
    · subst ha; rw [upd_same] at e ⊢; exact e
    · rw [upd_ne ha] at e ⊢; exact h a u e
  · obtain ⟨u, h2⟩ := h2
    rw [upd_ne (ne_of_none h2 n)]; exact h1
/-- a new object, not frozen -/
theorem Grow.own {F H : Hp} {p : Addr} {o : HO} (h : Ex F H) (n : H p = none) : Grow F H F (upd H p o) :=
  ⟨Ex.refl F, h.trans (Ex.new n), Ex.new n, fun a h1 _ => h1⟩

section
variable {B : Fix} {F H F' H' : Hp} {σ : L2.St} {τ : List V} {ρ : List S} {θ : List T}
/-- the owned objects stay, the data grow -/
theorem Ev.keep (E : Ev B F H σ τ ρ θ) (u : Ex F F') (fh : Ex F' H') (gh : Ex B.G H') (k : ∀ a, F a = none → B.G a = none → (∃ o, H a = some o) → F' a = none ∧ ∀ o, H a = some o → H' a = some o) : Ev B F' H' σ τ ρ θ where
  g := gh
  fh := fh
  ls := E.ls
  lt := E.lt
  sl := fun i s o h1 h2 => by
    have h := E.sl i s o h1 h2
    cases s with
    | u => trivial
    | d x => obtain ⟨v, e, h⟩ := h; exact ⟨v, e, h.up u⟩
    | m c => obtain ⟨a, e, h3, h4, h5⟩ := h; have q := k a h3 h4 h5.there; exact ⟨a, e, q.1, h4, h5.mono u q.2⟩
  tp := fun i t v h1 h2 => by
    have h := E.tp i t v h1 h2
    cases t with
    | d x => exact h.up u
    | m c => obtain ⟨a, e, h3, h4, h5⟩ := h; have q := k a h3 h4 h5.there; exact ⟨a, e, q.1, h4, h5.mono u q.2⟩
    | «at» k => exact h
  ss := E.ss
  st := E.st
  tt := E.tt
  pn := E.pn
theorem Ev.grow (E : Ev B F H σ τ ρ θ) (g : Grow F H F' H') : Ev B F' H' σ τ ρ θ :=
  E.keep g.ff g.fh (E.g.trans g.hh) fun a h1 _ h3 => ⟨g.new a h1 h3, fun o q => g.hh a o q⟩
theorem getE {α : Type} {l : List α} {x y : α} {i : Nat} (h : (l ++ [x])[i]? = some y) : (i < l.length ∧ l[i]? = some y) ∨ (i = l.length ∧ x = y) := by
  by_cases hi : i < l.length
  · rw [List.getElem?_append_left hi] at h; exact .inl ⟨hi, h⟩
  · rw [List.getElem?_append_right (by omega)] at h
    rcases hk : i - l.length with _ | k
    · rw [hk] at h; simp at h; exact .inr ⟨by omega, h⟩
    · rw [hk] at h; simp at h
/-- one more on the way, whatever it is -/
theorem Ev.push {v : V} {t : T} (E : Ev B F H σ τ ρ θ) (h : HTm B.K F B.G H σ ρ v t)
    (n1 : ∀ (i : Nat) (c c' : OC) (a : Addr), t = .m c' → v = .ref a → ρ[i]? = some (.m c) → σ[i]? = some (some (.ref a)) → False) (n2 : ∀ (i : Nat) (c c' : OC) (a : Addr), t = .m c' → v = .ref a → θ[i]? = some (.m c) → τ[i]? = some (.ref a) → False) :
    Ev B F H σ (τ ++ [v]) ρ (θ ++ [t]) where
  g := E.g
  fh := E.fh
  ls := E.ls
  lt := by rw [List.length_append, List.length_append, E.lt]; rfl
  sl := E.sl
  tp := fun i r w h1 h2 => by
    have lt := E.lt
    rcases getE h1 with ⟨a1, a2⟩ | ⟨a1, a2⟩ <;> rcases getE h2 with ⟨b1, b2⟩ | ⟨b1, b2⟩
    · exact E.tp i r w a2 b2
    · omega
    · omega
    · subst a2 b2; exact h
  ss := E.ss
  st := fun i j c c' a h1 h2 h3 h4 => by
    have lt := E.lt
    rcases getE h2 with ⟨a1, a2⟩ | ⟨a1, a2⟩ <;> rcases getE h4 with ⟨b1, b2⟩ | ⟨b1, b2⟩
    · exact E.st i j c c' a h1 a2 h3 b2
    · omega
    · omega
    · exact n1 i c c' a a2 b2 h1 h3
  tt := fun i j c c' a h1 h2 h3 h4 => by
    have lt := E.lt
    rcases getE h1 with ⟨a1, a2⟩ | ⟨a1, a2⟩ <;> rcases getE h3 with ⟨b1, b2⟩ | ⟨b1, b2⟩ <;> rcases getE h2 with ⟨c1, c2⟩ | ⟨c1, c2⟩ <;> rcases getE h4 with ⟨d1, d2⟩ | ⟨d1, d2⟩ <;> try omega
    · exact E.tt i j c c' a a2 c2 b2 d2
    · exact (n2 i c c' a c2 d2 a2 b2).elim
    · exact (n2 j c' c a a2 b2 c2 d2).elim
  pn := E.pn
theorem Ev.push_d {v : V} {x : D} (E : Ev B F H σ τ ρ θ) (h : Is B.K F v x) : Ev B F H σ (τ ++ [v]) ρ (θ ++ [.d x]) :=
  E.push (t := .d x) h (fun _ _ _ _ e => by cases e) fun _ _ _ _ e => by cases e
theorem Ev.push_at {v : V} {k : Nat} {c : OC} (E : Ev B F H σ τ ρ θ) (h : σ[k]? = some (some v)) (q : ρ[k]? = some (.m c)) : Ev B F H σ (τ ++ [v]) ρ (θ ++ [.at k]) :=
  E.push (t := .at k) ⟨h, c, q⟩ (fun _ _ _ _ e => by cases e) fun _ _ _ _ e => by cases e
/-- owned addresses of a frame stand in its heap -/
theorem Ev.slot_there (E : Ev B F H σ τ ρ θ) {i : Nat} {c : OC} {a : Addr} (h1 : ρ[i]? = some (.m c)) (h2 : σ[i]? = some (some (.ref a))) : F a = none ∧ B.G a = none ∧ OCat B.K F H a c := by
  obtain ⟨b, e, q⟩ := E.sl i _ _ h1 h2
  cases e
  exact q
theorem Ev.tmp_there (E : Ev B F H σ τ ρ θ) {i : Nat} {c : OC} {a : Addr} (h1 : θ[i]? = some (.m c)) (h2 : τ[i]? = some (.ref a)) : F a = none ∧ B.G a = none ∧ OCat B.K F H a c := by
  obtain ⟨b, e, q⟩ := E.tp i _ _ h1 h2
  cases e
  exact q
/-- a new owned object on the way -/
theorem Ev.push_new {a : Addr} {c : OC} {o : HO} (E : Ev B F H σ τ ρ θ) (n : H a = none) (h : OCat B.K F (upd H a o) a c) : Ev B F (upd H a o) σ (τ ++ [.ref a]) ρ (θ ++ [.m c]) := by
  have E' := E.grow (Grow.own (o := o) E.fh n)
  refine E'.push (t := .m c) ⟨a, rfl, Evl.fresh_back E.fh n, Evl.fresh_back E.g n, h⟩ (fun i c1 c2 b _ e h1 h2 => ?_) fun i c1 c2 b _ e h1 h2 => ?_
  · cases e
    obtain ⟨_, _, q⟩ := E.slot_there h1 h2
    obtain ⟨o, q⟩ := q.there
    rw [n] at q; cases q
  · cases e
    obtain ⟨_, _, q⟩ := E.tmp_there h1 h2
    obtain ⟨o, q⟩ := q.there
    rw [n] at q; cases q
/-- the last one is forgotten -/
theorem Ev.pop {v : V} {t : T} (E : Ev B F H σ (τ ++ [v]) ρ (θ ++ [t])) : Ev B F H σ τ ρ θ := by
  have lt : τ.length = θ.length := by
    have := E.lt
    rw [List.length_append, List.length_append] at this
    simpa using this
  have up : ∀ {i : Nat} {s : T}, θ[i]? = some s → (θ ++ [t])[i]? = some s := fun {i s} h => by
    rw [List.getElem?_append_left (List.getElem?_eq_some_iff.mp h).1]; exact h
  have upv : ∀ {i : Nat} {s : V}, τ[i]? = some s → (τ ++ [v])[i]? = some s := fun {i s} h => by
    rw [List.getElem?_append_left (List.getElem?_eq_some_iff.mp h).1]; exact h
  exact { g := E.g, fh := E.fh, ls := E.ls, lt := lt, sl := E.sl, ss := E.ss, pn := E.pn
          tp := fun i t v h1 h2 => E.tp i t v (up h1) (upv h2)
          st := fun i j c c' a h1 h2 h3 h4 => E.st i j c c' a h1 (up h2) h3 (upv h4)
          tt := fun i j c c' a h1 h2 h3 h4 => E.tt i j c c' a (up h1) (up h2) (upv h3) (upv h4) }
theorem Ev.popsN : ∀ (n : Nat) (vs : List V) (ts : List T), vs.length = n → ts.length = n → Ev B F H σ (τ ++ vs) ρ (θ ++ ts) → Ev B F H σ τ ρ θ
  | 0, vs, ts, h1, h2, E => by
    have e1 : vs = [] := List.length_eq_zero_iff.mp h1
    have e2 : ts = [] := List.length_eq_zero_iff.mp h2
    subst e1 e2
    simpa using E
  | n + 1, vs, ts, h1, h2, E => by
    rcases List.eq_nil_or_concat vs with rfl | ⟨ws, v, rfl⟩
    · simp at h1
    · rcases List.eq_nil_or_concat ts with rfl | ⟨us, t, rfl⟩
      · simp at h2
      · refine Ev.popsN n ws us (by simpa using h1) (by simpa using h2) (Ev.pop (v := v) (t := t) ?_)
        simpa using E
theorem Ev.pops {vs : List V} {ts : List T} (E : Ev B F H σ (τ ++ vs) ρ (θ ++ ts)) (hl : vs.length = ts.length) : Ev B F H σ τ ρ θ := Ev.popsN ts.length vs ts hl rfl E
/-- the last one -/
theorem Ev.last {v : V} {t : T} (E : Ev B F H σ (τ ++ [v]) ρ (θ ++ [t])) : HTm B.K F B.G H σ ρ v t := by
  have lt := E.pop.lt
  exact E.tp θ.length t v (by simp) (by rw [← lt]; simp)
/-! ### slots are set -/
def notM (ρ : List S) (i : Nat) : Bool := match ρ[i]? with
  | some (.m _) => false
  | _ => true
theorem notM_ok {i : Nat} (h : notM ρ i = true) {c : OC} (e : ρ[i]? = some (.m c)) : False := by
  unfold notM at h; rw [e] at h; cases h
def noAt (θ : List T) (i : Nat) : Prop := ∀ j : Nat, θ[j]? ≠ some (.at i)
theorem setE {α : Type} {l : List α} {x y : α} {i j : Nat} (h : (l.set i x)[j]? = some y) : (j = i ∧ x = y) ∨ (j ≠ i ∧ l[j]? = some y) := by
  by_cases e : i = j
  · subst e
    by_cases hl : i < l.length
    · rw [List.getElem?_set_self hl] at h; simp at h; exact .inl ⟨rfl, h⟩
    · rw [List.getElem?_eq_none (by simpa using hl)] at h; cases h
  · rw [List.getElem?_set_ne e] at h; exact .inr ⟨fun q => e q.symm, h⟩
/-- a slot gets what is last on the way -/
theorem Ev.set {v : V} {x : D} {i : Nat} (E : Ev B F H σ (τ ++ [v]) ρ (θ ++ [.d x])) (hp : ∀ p ∈ B.pl, p.1 ≠ i) (hn : (∀ c, ρ[i]? ≠ some (.m c)) ∨ noAt θ i) : Ev B F H (σ.set i (some v)) τ (ρ.set i (.d x)) θ := by
  have E' := E.pop
  have l := E.last
  refine { g := E'.g, fh := E'.fh, ls := by rw [List.length_set, List.length_set, E'.ls], lt := E'.lt, sl := fun j s o h1 h2 => ?_, tp := fun j t w h1 h2 => ?_, ss := fun j k c c' a h1 h2 h3 h4 => ?_, st := fun j k c c' a h1 h2 h3 h4 => ?_, tt := E'.tt, pn := fun p hp' => ?_ }
  · rcases setE h1 with ⟨a1, a2⟩ | ⟨a1, a2⟩ <;> rcases setE h2 with ⟨b1, b2⟩ | ⟨b1, b2⟩ <;> first | (exact absurd a1 b1) | (exact absurd b1 a1) | skip
    · subst a2 b2; exact ⟨v, rfl, l⟩
    · exact E'.sl j s o a2 b2
  · have h := E'.tp j t w h1 h2
    cases t with
    | d x => exact h
    | m c => exact h
    | «at» k =>
      obtain ⟨h3, c, h4⟩ := h
      have ne : k ≠ i := fun e => by
        subst e
        rcases hn with hn | hn
        · exact hn c h4
        · exact hn j h1
      exact ⟨by rw [List.getElem?_set_ne (Ne.symm ne)]; exact h3, c, by rw [List.getElem?_set_ne (Ne.symm ne)]; exact h4⟩
  · rcases setE h1 with ⟨_, a2⟩ | ⟨a1, a2⟩
    · cases a2
    rcases setE h2 with ⟨_, b2⟩ | ⟨b1, b2⟩
    · cases b2
    rw [List.getElem?_set_ne (Ne.symm a1)] at h3
    rw [List.getElem?_set_ne (Ne.symm b1)] at h4
    exact E'.ss j k c c' a a2 b2 h3 h4
  · rcases setE h1 with ⟨_, a2⟩ | ⟨a1, a2⟩
    · cases a2
    rw [List.getElem?_set_ne (Ne.symm a1)] at h3
    exact E'.st j k c c' a a2 h2 h3 h4
  · have q := hp p hp'
    rw [List.getElem?_set_ne (Ne.symm q), List.getElem?_set_ne (Ne.symm q)]
    exact E'.pn p hp'
/-- an owned object moves into a slot -/
theorem Ev.setM {v : V} {x : OC} {i : Nat} (E : Ev B F H σ (τ ++ [v]) ρ (θ ++ [.m x])) (hp : ∀ p ∈ B.pl, p.1 ≠ i) (hn : (∀ c, ρ[i]? ≠ some (.m c)) ∨ noAt θ i) : Ev B F H (σ.set i (some v)) τ (ρ.set i (.m x)) θ := by
  have E' := E.pop
  obtain ⟨av, ev, l⟩ := E.last
  have lt := E'.lt
  have lastT : (θ ++ [T.m x])[θ.length]? = some (.m x) := by simp
  have lastV : (τ ++ [v])[θ.length]? = some (.ref av) := by rw [← lt, ev]; simp
  refine { g := E'.g, fh := E'.fh, ls := by rw [List.length_set, List.length_set, E'.ls], lt := E'.lt, sl := fun j s o h1 h2 => ?_, tp := fun j t w h1 h2 => ?_, ss := fun j k c c' a h1 h2 h3 h4 => ?_, st := fun j k c c' a h1 h2 h3 h4 => ?_, tt := E'.tt, pn := fun p hp' => ?_ }
  · rcases setE h1 with ⟨a1, a2⟩ | ⟨a1, a2⟩ <;> rcases setE h2 with ⟨b1, b2⟩ | ⟨b1, b2⟩ <;> first | (exact absurd a1 b1) | (exact absurd b1 a1) | skip
    · subst a2 b2; exact ⟨av, by rw [ev], l⟩
    · exact E'.sl j s o a2 b2
  · have h := E'.tp j t w h1 h2
    cases t with
    | d x => exact h
    | m c => exact h
    | «at» k =>
      obtain ⟨h3, c, h4⟩ := h
      have ne : k ≠ i := fun e => by
        subst e
        rcases hn with hn | hn
        · exact hn c h4
        · exact hn j h1
      exact ⟨by rw [List.getElem?_set_ne (Ne.symm ne)]; exact h3, c, by rw [List.getElem?_set_ne (Ne.symm ne)]; exact h4⟩
  · rcases setE h1 with ⟨a0, a2⟩ | ⟨a1, a2⟩ <;> rcases setE h3 with ⟨c0, c2⟩ | ⟨c1, c2⟩ <;> rcases setE h2 with ⟨b0, b2⟩ | ⟨b1, b2⟩ <;> rcases setE h4 with ⟨d0, d2⟩ | ⟨d1, d2⟩ <;> first | (exact absurd a0 c1) | (exact absurd c0 a1) | (exact absurd b0 d1) | (exact absurd d0 b1) | skip
    · rw [a0, b0]
    · have e : V.ref av = V.ref a := by rw [← ev]; exact Option.some.inj c2
      cases e
      exact (E.st k θ.length c' x av b2 lastT d2 lastV).elim
    · have e : V.ref av = V.ref a := by rw [← ev]; exact Option.some.inj d2
      cases e
      exact (E.st j θ.length c x av a2 lastT c2 lastV).elim
    · exact E'.ss j k c c' a a2 b2 c2 d2
  · rcases setE h1 with ⟨a0, a2⟩ | ⟨a1, a2⟩ <;> rcases setE h3 with ⟨c0, c2⟩ | ⟨c1, c2⟩ <;> first | (exact absurd a0 c1) | (exact absurd c0 a1) | skip
    · have e : V.ref av = V.ref a := by rw [← ev]; exact Option.some.inj c2
      cases e
      have hk := (List.getElem?_eq_some_iff.mp h2).1
      have z := E.tt k θ.length c' x av (by rw [List.getElem?_append_left hk]; exact h2) lastT (by rw [List.getElem?_append_left (by omega)]; exact h4) lastV
      omega
    · exact E'.st j k c c' a a2 h2 c2 h4
  · have q := hp p hp'
    rw [List.getElem?_set_ne (Ne.symm q), List.getElem?_set_ne (Ne.symm q)]
    exact E'.pn p hp'
/-- a slot is forgotten, whatever then stands in it -/
theorem Ev.forget {o : Option V} {i : Nat} (E : Ev B F H σ τ ρ θ) (hp : ∀ p ∈ B.pl, p.1 ≠ i) (hn : (∀ c, ρ[i]? ≠ some (.m c)) ∨ noAt θ i) : Ev B F H (σ.set i o) τ (ρ.set i .u) θ := by
  refine { g := E.g, fh := E.fh, ls := by rw [List.length_set, List.length_set, E.ls], lt := E.lt, sl := fun j s o h1 h2 => ?_, tp := fun j t w h1 h2 => ?_, ss := fun j k c c' a h1 h2 h3 h4 => ?_, st := fun j k c c' a h1 h2 h3 h4 => ?_, tt := E.tt, pn := fun p hp' => ?_ }
  · rcases setE h1 with ⟨a1, a2⟩ | ⟨a1, a2⟩
    · subst a2; trivial
    · rw [List.getElem?_set_ne (Ne.symm a1)] at h2
      exact E.sl j s _ a2 h2
  · have h := E.tp j t w h1 h2
    cases t with
    | d x => exact h
    | m c => exact h
    | «at» k =>
      obtain ⟨h3, c, h4⟩ := h
      have ne : k ≠ i := fun e => by
        subst e
        rcases hn with hn | hn
        · exact hn c h4
        · exact hn j h1
      exact ⟨by rw [List.getElem?_set_ne (Ne.symm ne)]; exact h3, c, by rw [List.getElem?_set_ne (Ne.symm ne)]; exact h4⟩
  · rcases setE h1 with ⟨_, a2⟩ | ⟨a1, a2⟩
    · cases a2
    rcases setE h2 with ⟨_, b2⟩ | ⟨b1, b2⟩
    · cases b2
    rw [List.getElem?_set_ne (Ne.symm a1)] at h3
    rw [List.getElem?_set_ne (Ne.symm b1)] at h4
    exact E.ss j k c c' a a2 b2 h3 h4
  · rcases setE h1 with ⟨_, a2⟩ | ⟨a1, a2⟩
    · cases a2
    rw [List.getElem?_set_ne (Ne.symm a1)] at h3
    exact E.st j k c c' a a2 h2 h3 h4
  · have q := hp p hp'
    rw [List.getElem?_set_ne (Ne.symm q), List.getElem?_set_ne (Ne.symm q)]
    exact E.pn p hp'
/-- an owned slot's object is changed -/
theorem Ev.chg {k : Nat} {c c' : OC} {a : Addr} {o : HO} (E : Ev B F H σ τ ρ θ) (h1 : ρ[k]? = some (.m c)) (h2 : σ[k]? = some (some (.ref a))) (h : OCat B.K F (upd H a o) a c') : Ev B F (upd H a o) σ τ (ρ.set k (.m c')) θ := by
  obtain ⟨fa, ga, _⟩ := E.slot_there h1 h2
  have up : ∀ {F' : Hp}, F' a = none → Ex F' H → Ex F' (upd H a o) := fun {F'} n e b u q => by
    rw [upd_ne (ne_of_none q n)]; exact e b u q
  have oc : ∀ {b : Addr} {d : OC}, b ≠ a → OCat B.K F H b d → OCat B.K F (upd H a o) b d := fun {b d} n q => q.mono (Ex.refl F) fun u z => by rw [upd_ne n]; exact z
  have kl := (List.getElem?_eq_some_iff.mp h1).1
  refine { g := up ga E.g, fh := up fa E.fh, ls := by rw [List.length_set, E.ls], lt := E.lt, sl := fun j s w q1 q2 => ?_, tp := fun j t w q1 q2 => ?_, ss := fun i j d d' b q1 q2 q3 q4 => ?_, st := fun i j d d' b q1 q2 q3 q4 => ?_, tt := E.tt, pn := fun p hp' => ?_ }
  · rcases setE q1 with ⟨a1, a2⟩ | ⟨a1, a2⟩
    · subst a1 a2
      rw [h2] at q2; cases q2
      exact ⟨a, rfl, fa, ga, h⟩
    · have z := E.sl j s w a2 q2
      cases s with
      | u => trivial
      | d x => exact z
      | m d =>
        obtain ⟨b, e, z1, z2, z3⟩ := z
        refine ⟨b, e, z1, z2, oc (fun eb => ?_) z3⟩
        subst eb e
        exact a1 (E.ss j k d c b a2 h1 q2 h2)
  · have z := E.tp j t w q1 q2
    cases t with
    | d x => exact z
    | m d =>
      obtain ⟨b, e, z1, z2, z3⟩ := z
      refine ⟨b, e, z1, z2, oc (fun eb => ?_) z3⟩
      subst eb e
      exact E.st k j c d b h1 q1 h2 q2
    | «at» l =>
      obtain ⟨z1, d, z2⟩ := z
      refine ⟨z1, ?_⟩
      by_cases el : k = l
      · subst el; exact ⟨c', List.getElem?_set_self kl⟩
      · exact ⟨d, by rw [List.getElem?_set_ne el]; exact z2⟩
  · have back : ∀ {i : Nat} {d : OC}, (ρ.set k (.m c'))[i]? = some (.m d) → ∃ d, ρ[i]? = some (.m d) := fun {i d} q => by
      rcases setE q with ⟨a1, a2⟩ | ⟨a1, a2⟩
      · subst a1; exact ⟨c, h1⟩
      · exact ⟨d, a2⟩
    obtain ⟨d1, q1⟩ := back q1
    obtain ⟨d2, q2⟩ := back q2
    exact E.ss i j d1 d2 b q1 q2 q3 q4
  · rcases setE q1 with ⟨a1, a2⟩ | ⟨a1, a2⟩
    · subst a1; exact E.st i j c d' b h1 q2 q3 q4
    · exact E.st i j d d' b a2 q2 q3 q4
  · obtain ⟨z1, d, z2⟩ := E.pn p hp'
    refine ⟨z1, ?_⟩
    by_cases el : k = p.1
    · rw [← el]; exact ⟨c', List.getElem?_set_self kl⟩
    · exact ⟨d, by rw [List.getElem?_set_ne el]; exact z2⟩
/-! ### what is owned becomes a datum -/
theorem OCat.toIs {K : Frag} {F H : Hp} {a : Addr} {c : OC} (h : OCat K F H a c) (n : F a = none) : ∃ o, H a = some o ∧ Is K (upd F a o) (.ref a) c.toD := by
  have e : ∀ {o : HO}, Ex F (upd F a o) := fun {o} => Ex.new n
  cases c with
  | lst ds =>
    obtain ⟨vs, h1, h2⟩ := h
    exact ⟨_, h1, .lst (.inl upd_same) (h2.up e)⟩
  | ins c ns ds =>
    obtain ⟨dx, fs, h1, h2, h3⟩ := h
    exact ⟨_, h1, .ins upd_same h2 (h3.up e)⟩
/-- the surroundings and the other owned objects, when a becomes a datum -/
theorem Ev.frz_top {v : V} {c : OC} (E : Ev B F H σ (τ ++ [v]) ρ (θ ++ [.m c])) : ∃ F', Up B F F' ∧ Ev B F' H σ (τ ++ [v]) ρ (θ ++ [.d c.toD]) := by
  obtain ⟨a, ev, fa, ga, oc⟩ := E.last
  obtain ⟨o, ho, is⟩ := oc.toIs fa
  have E' := E.pop
  have lt := E'.lt
  have lastT : (θ ++ [T.m c])[θ.length]? = some (.m c) := by simp
  have lastV : (τ ++ [v])[θ.length]? = some (.ref a) := by rw [← lt, ev]; simp
  have ex : Ex F (upd F a o) := Ex.new fa
  refine ⟨upd F a o, ⟨ex, fun b u hb n => ?_⟩, ?_⟩
  · rw [upd_ne (ne_of_none hb ga)]; exact n
  · subst ev
    have fh : Ex (upd F a o) H := fun b u q => by
      by_cases e : b = a
      · subst e; rw [upd_same] at q; cases q; exact ho
      · rw [upd_ne e] at q; exact E.fh b u q
    have key : ∀ {b : Addr} {d : OC}, b ≠ a → F b = none → OCat B.K F H b d → (upd F a o) b = none ∧ OCat B.K (upd F a o) H b d := fun {b d} n f q => ⟨by rw [upd_ne n]; exact f, q.mono ex fun _ z => z⟩
    have E2 : Ev B (upd F a o) H σ τ ρ θ := by
      refine { g := E'.g, fh := fh, ls := E'.ls, lt := E'.lt, sl := fun j s w q1 q2 => ?_, tp := fun j t w q1 q2 => ?_, ss := E'.ss, st := E'.st, tt := E'.tt, pn := E'.pn }
      · have z := E'.sl j s w q1 q2
        cases s with
        | u => trivial
        | d x => obtain ⟨w, e, z⟩ := z; exact ⟨w, e, z.up ex⟩
        | m d =>
          obtain ⟨b, e, z1, z2, z3⟩ := z
          subst e
          have n : b ≠ a := fun e => by subst e; exact E.st j θ.length d c b q1 lastT q2 lastV
          exact ⟨b, rfl, (key n z1 z3).1, z2, (key n z1 z3).2⟩
      · have z := E'.tp j t w q1 q2
        cases t with
        | d x => exact z.up ex
        | m d =>
          obtain ⟨b, e, z1, z2, z3⟩ := z
          subst e
          have hj := (List.getElem?_eq_some_iff.mp q1).1
          have n : b ≠ a := fun e => by
            subst e
            have := E.tt j θ.length d c b (by rw [List.getElem?_append_left hj]; exact q1) lastT (by rw [List.getElem?_append_left (by omega)]; exact q2) lastV
            omega
          exact ⟨b, rfl, (key n z1 z3).1, z2, (key n z1 z3).2⟩
        | «at» k => exact z
    exact E2.push_d is
/-- an owned slot becomes a datum -/
theorem Ev.frz_slot {k : Nat} {c : OC} (E : Ev B F H σ [] ρ []) (h1 : ρ[k]? = some (.m c)) (hp : ∀ p ∈ B.pl, p.1 ≠ k) : ∃ F', Up B F F' ∧ Ev B F' H σ [] (ρ.set k (.d c.toD)) [] := by
  have kl := (List.getElem?_eq_some_iff.mp h1).1
  obtain ⟨w, hw⟩ : ∃ w, σ[k]? = some w := ⟨_, List.getElem?_eq_getElem (by rw [E.ls]; exact kl)⟩
  obtain ⟨a, ew, fa, ga, oc⟩ := E.sl k _ _ h1 hw
  subst ew
  have E1 : Ev B F H (σ.set k none) [] (ρ.set k .u) [] := E.forget hp (.inr fun j z => by simp at z)
  have E2 : Ev B F H (σ.set k none) ([] ++ [V.ref a]) (ρ.set k .u) ([] ++ [T.m c]) := by
    refine E1.push (t := .m c) ⟨a, rfl, fa, ga, oc⟩ (fun i c1 c2 b _ e q1 q2 => ?_) fun i c1 c2 b _ e q1 q2 => by simp at q1
    cases e
    rcases setE q1 with ⟨_, z⟩ | ⟨z, q1⟩
    · cases z
    · rw [List.getElem?_set_ne (Ne.symm z)] at q2
      exact z (E.ss i k c1 c a q1 h1 q2 hw)
  obtain ⟨F', u, E3⟩ := E2.frz_top
  refine ⟨F', u, ?_⟩
  have E4 := E3.set (i := k) hp (.inr fun j z => by simp at z)
  rw [List.set_set, List.set_set] at E4
  have e : σ.set k (some (V.ref a)) = σ := by
    refine List.ext_getElem? fun j => ?_
    by_cases ej : k = j
    · subst ej; rw [List.getElem?_set_self (by rw [E.ls]; exact kl), hw]
    · rw [List.getElem?_set_ne ej]
  rw [e] at E4
  exact E4
end
end Dl

set_option Elab.async false
set_option linter.all false
set_option maxRecDepth 100000
set_option maxHeartbeats 4000000
/-! Rules more than the layer has: own len, str, == and !=, staticmethods, keywords at methods; lists joined that are locked. -/
namespace PySem.W
open PySem PySem.Spec PySem.Calls PyProof.Rows
section
variable {prog : Program} {w : World} {M : Model} {A : Around} {E : Value → Shared → Prop} {s : Shared} {K : Frag} {x C f L : Addr} {ox : Obj} {od : Option Obj} {h₀ : Heap} {m : Str → Option Value} {b tb : Value}
/-- a slot of a built-in that a class has not of its own -/
theorem ifBound_B {name : Str} {id : String} {args : List Value} {Q : Option Value → Shared → Prop} (X : K.In s.heap) (I : InstAt s.heap x ox C od) (hs : findIn K (.ref C) name = some (some (.builtin id)))
    (hb : ∀ self, bindSpecial (.builtin id) self = pure (.builtin id, [self])) (h : wpAny M A (call (.builtin id) (.ref x :: args)) (fun v => Q (some v)) E s) : wpAny M A (callSpecialIfBound? (.ref x) name args) Q E s := by
  simp only [callSpecialIfBound?, bindSpecialIfBound?]
  refine wpAny_holding (wpAny_bind (wpAny_bind (wpAny_bind (I.type.here ((looks_findIn X hs).here ?_)))))
  refine wpAny_bind (wpAny_askSetting (wpAny_ite ?_))
  have fin : wpAny M A (call (.builtin id) ([.ref x] ++ args) >>= fun v => pure (some v)) Q E s := wpAny_bind (wpAny_mono h (fun v s' h' => wpAny_pure h') fun _ _ h' => h')
  split
  · exact wpAny_bind ((Looks.of_pure (hb _)).here (wpAny_pure (by exact fin)))
  · exact wpAny_tryCatch (wpAny_bind ((Looks.of_pure (hb _)).here (wpAny_pure (by exact fin))))
/-- x != b by the own == of x's class, which has no own != -/
theorem ne_K {Q : Value → Shared → Prop} (hu : A.units < cLine) (hu1 : A.in1.units < cLine) (F : Fr h₀ L s.heap m) (X₀ : K.In h₀) (I : InstAt s.heap x ox C od) (hb : Looks (model prog w) s.heap (typeOf b) tb) (hn : notFirst K C tb = true)
    (hne : findIn K (.ref C) "__ne__" = some (some (.builtin "object.__ne__"))) (hm : mroIn K C (.type "object") = some true) (hs : findIn K (.ref C) "__eq__" = some (some (.ref f))) (hf : isFn K (.ref f) = true)
    (h : wpAny (model prog w) A.in1 (call (.ref f) [.ref x, b]) (fun v s' => ∃ r, v = .bool r ∧ Q (.bool (!r)) s') E s) : wpAny (model prog w) A (richCompare .NotEq (.ref x) b) Q E s := by
  have X := X₀.keeps F.keep
  have one : wpAny (model prog w) A (tryCompare (.ref x) (cmpInfo .NotEq).2.1 b) (fun r s' => ∃ v, r = some v ∧ Q v s') E s := by
    unfold tryCompare
    refine wpAny_bind (ifBound_B X I hne PySem.F.slot_object_ne.bind (wpAny_call (codeAny_call_builtin PySem.F.slot_object_ne.plain PySem.F.cmpEntry_ne (check_slot (i := "object.__ne__") (owner := "object") (n := "__ne__") PySem.F.cmpKind_ne PySem.F.cmpSplit_ne (I.type.andThen (looks_mroIn X hm)) (PySem.F.cmpArgs_ne _ _) ?_))))
    show wpAny _ A.in1 (Builtin.«object.__ne__» ⟨[.ref x, b], []⟩) _ _ _
    unfold Builtin.«object.__ne__»
    refine wpAny_bind (m := slotArgs "__ne__" 1 _) (wpAny_pure ?_)
    refine wpAny_bind (m := cRoomFor _ _) (wpAny_cRoomFor hu1 ?_)
    refine wpAny_bind (m := callSpecialIfBound? (.ref x) (Str.ofString "__eq__") [b]) (ifBound_K X I hs hf (wpAny_mono h (fun r s' hr => ?_) fun _ _ e => e))
    obtain ⟨r, rfl, hq⟩ := hr
    refine wpAny_bind (m := truthy (.bool r)) (wpAny_truthy_bool ?_)
    exact wpAny_pure (wpAny_pure ⟨_, rfl, hq⟩)
  unfold richCompare
  simp only [oneThing_ref]
  refine wpAny_holding (wpAny_bind (wpAny_cRoomFor hu ?_))
  refine wpAny_bind (I.type.here (wpAny_bind (hb.here ?_)))
  split
  · rename_i q
    have e : subIn K tb (.ref C) = some false := by
      rcases Bool.or_eq_true_iff.mp hn with e | e
      · rw [beq_iff_eq.mp e] at q; simp at q
      · exact beq_iff_eq.mp e
    refine wpAny_bind ((looks_subIn X e).here ?_)
    simp only [Bool.false_eq_true, if_false]
    refine wpAny_bind (wpAny_mono one (fun r s' z => ?_) fun _ _ e => e)
    obtain ⟨v, rfl, hq⟩ := z
    exact wpAny_pure hq
  · refine wpAny_bind (wpAny_pure ?_)
    simp only [Bool.false_eq_true, if_false]
    refine wpAny_bind (wpAny_mono one (fun r s' z => ?_) fun _ _ e => e)
    obtain ⟨v, rfl, hq⟩ := z
    exact wpAny_pure hq
end
end PySem.W
namespace Rl
open PySem PySem.Spec PyProof.Rows L2
section
variable {X : Cx} {pins : List (Addr × Obj)} {σ : L2.St} {H : Hp} {s : Shared}
/-- an own def called from below the running body -/
theorem run_in {CX : CXT} {k : Nat} {f : Addr} {fd : FuncData} {ps : List Str} {sp : Sp} {E : XK} {A : Around} {Q : VK} {us : List Value} {vs : List V} (F : FnOk X.prog X.w X.K X.mg X.base CX k f fd ps sp) (hr : Room k A) (hf : A.frames = X.A.frames)
    (hb : Binds X.K fd ps []) (hx : Passes CX X E) (I : Inv X pins σ H s) (r : Vals vs us) (h : sp vs H Q E) : wpAny (model X.prog X.w) A (call (.ref f) us) (EP X pins σ Q) X.xe s := by
  have e0 : Env0 X.prog X.w X.K X.mg X.base A X.stack s H := by
    have e := I.env0
    exact ⟨by rw [hf]; exact e.frames, e.mod, e.bs, e.bsz, e.funs, e.frf, e.hok, e.bare⟩
  have hl := F.len _ _ _ _ h
  have hl2 : us.length = ps.length := by rw [← r.length]; exact hl
  refine wpAny_call (codeAny_mono (F.run A X.stack s H ⟨us, []⟩ us vs _ E hr e0 (by
    have := hb s us I.kIn (by simpa using hl2)
    simpa using this) r h) fun r s' hq => ?_)
  cases r with
  | error e => exact hx pins σ H s e s' I hq
  | ok fl =>
    cases fl with
    | ret w => exact I.after hq
    | next => exact False.elim hq
    | brk => exact False.elim hq
    | cont => exact False.elim hq
/-- what an own special method is: of the class at C, named m, the def at f -/
structure Spm (K : PySem.W.Frag) (C : Addr) (m : Str) (f : Addr) : Prop where
  at_ : PySem.W.findIn K (.ref C) m = some (some (.ref f))
  fn : PySem.W.isFn K (.ref f) = true
theorem inst_of {a C dx : Addr} {fs : List (Str × V)} (I : Inv X pins σ H s) (h : H a = some (.ins C dx fs)) : ∃ od, PySem.W.InstAt s.heap a (PySem.W.instObj C dx) C (some od) := by
  obtain ⟨mA, J, _⟩ := ins_get I.hok h
  obtain ⟨od, J, _⟩ := J.look
  exact ⟨od, J⟩
/-- len(o), o's class with an own __len__ -/
def rLenO (C : Addr) (sp : Sp) (E : XK) : List V → Hp → VK → Prop := fun xs H Q => ∃ a dx fs, xs = [.ref a] ∧ H a = some (.ins C dx fs) ∧ sp [.ref a] H (fun v H' => ∃ n : Int, v = .int n ∧ 0 ≤ n ∧ n < 2 ^ 63 ∧ Q (.int n) H') E
theorem call_lenO {CX : CXT} {k : Nat} {C f : Addr} {fd : FuncData} {ps : List Str} {sp : Sp} {E : XK} (m : Spm X.K C "__len__" f) (F : FnOk X.prog X.w X.K X.mg X.base CX k f fd ps sp) (hr : Room (k + 1) X.A) (hb : Binds X.K fd ps []) (hx : Passes CX X E) :
    CallR X (.builtin "len") (rLenO C sp E) := by
  intro pins s σ H xs us Q I rv h
  obtain ⟨a, dx, fs, rfl, ha, q⟩ := h
  obtain ⟨u, rfl, ru⟩ := vals1 rv
  cases ru
  obtain ⟨od, J⟩ := inst_of I ha
  obtain ⟨mm, hF⟩ := I.fr
  refine PySem.W.len_K hF I.ok.mod.kin J m.at_ m.fn (thn (run_in F hr.in1 rfl hb hx I rv q) fun v s' ⟨x, H', I', rx, n, ex, h0, h1, q⟩ => ?_)
  subst ex
  obtain ⟨t, rfl⟩ := rx
  exact ⟨⟨h0, h1⟩, .int n, H', I'.tok _, ⟨_, rfl⟩, q⟩
/-- str(o), o's class with an own __str__ -/
def rStrO (C : Addr) (sp : Sp) (E : XK) : List V → Hp → VK → Prop := fun xs H Q => ∃ a dx fs, xs = [.ref a] ∧ H a = some (.ins C dx fs) ∧ sp [.ref a] H (fun v H' => ∃ z : Str, v = .str z ∧ Q (.str z) H') E
theorem call_strO {CX : CXT} {k : Nat} {C f : Addr} {fd : FuncData} {ps : List Str} {sp : Sp} {E : XK} (m : Spm X.K C "__str__" f) (F : FnOk X.prog X.w X.K X.mg X.base CX k f fd ps sp) (hr : Room (k + 2) X.A) (hb : Binds X.K fd ps []) (hx : Passes CX X E) :
    CallR X (.type "str") (rStrO C sp E) := by
  intro pins s σ H xs us Q I rv h
  obtain ⟨a, dx, fs, rfl, ha, q⟩ := h
  obtain ⟨u, rfl, ru⟩ := vals1 rv
  cases ru
  obtain ⟨od, J⟩ := inst_of I ha
  refine PySem.W.kso_call hr.in1.in1.units0 I.kIn J m.at_ m.fn (thn (run_in F hr.in1.in1 rfl hb hx I rv q) fun v s' ⟨x, H', I', rx, z, ex, q⟩ => ?_)
  subst ex
  obtain ⟨t, rfl⟩ := rx
  exact ⟨.str z, H', I', ⟨_, rfl⟩, q⟩
/-- the type of a value, for a comparison with an own instance -/
theorem type_of {x : V} {u t : Value} (I : Inv X pins σ H s) (rx : RelV x u) (ty : TyX X.K H x t) : PySem.W.Looks (model X.prog X.w) s.heap (typeOf u) t := by
  obtain ⟨P, Z, p, _⟩ := kit_of I rx ty
  exact Z.ty _ _ I.kIn p
/-- o == y, o's class with an own __eq__ -/
def rEqO (K : PySem.W.Frag) (C : Addr) (sp : Sp) (E : XK) : R2 := fun x y H Q => ∃ a dx fs t, x = .ref a ∧ H a = some (.ins C dx fs) ∧ TyX K H y t ∧ PySem.W.notFirst K C t = true ∧ sp [.ref a, y] H (fun v H' => ∃ b : Bool, v = .bl b ∧ Q (.bl b) H') E
theorem op_eqO {CX : CXT} {k : Nat} {C f : Addr} {fd : FuncData} {ps : List Str} {sp : Sp} {E : XK} (m : Spm X.K C "__eq__" f) (F : FnOk X.prog X.w X.K X.mg X.base CX k f fd ps sp) (hr : Room k X.A) (hb : Binds X.K fd ps []) (hx : Passes CX X E) :
    OpR X (compareOp .Eq) (rEqO X.K C sp E) := by
  intro pins s σ H x y v u Q I rx ry h
  obtain ⟨a, dx, fs, t, rfl, ha, ty, nf, q⟩ := h
  cases rx
  obtain ⟨od, J⟩ := inst_of I ha
  obtain ⟨mm, hF⟩ := I.fr
  show wpAny (model X.prog X.w) X.A (richCompare .Eq (.ref a) u) (EP X pins σ Q) X.xe s
  refine PySem.W.cmp_K (op := .Eq) (tb := t) hr.units0 hF I.ok.mod.kin J (type_of I ry ty) nf m.at_ m.fn (thn (run_in F hr rfl hb hx I (Paired.cons (show RelV (.ref a) (Value.ref a) from rfl) (Paired.cons ry .nil)) q) fun v s' ⟨x, H', I', rx, b, ex, q⟩ => ?_)
  subst ex
  cases rx
  exact ⟨.bl b, H', I', rfl, q⟩
/-- o != y, o's class with an own __eq__ and no own __ne__ -/
structure Nem (K : PySem.W.Frag) (C : Addr) : Prop where
  ne : PySem.W.findIn K (.ref C) "__ne__" = some (some (.builtin "object.__ne__"))
  ob : PySem.W.mroIn K C (.type "object") = some true
def rNeO (K : PySem.W.Frag) (C : Addr) (sp : Sp) (E : XK) : R2 := fun x y H Q => ∃ a dx fs t, x = .ref a ∧ H a = some (.ins C dx fs) ∧ TyX K H y t ∧ PySem.W.notFirst K C t = true ∧ sp [.ref a, y] H (fun v H' => ∃ b : Bool, v = .bl b ∧ Q (.bl (!b)) H') E
theorem op_neO {CX : CXT} {k : Nat} {C f : Addr} {fd : FuncData} {ps : List Str} {sp : Sp} {E : XK} (m : Spm X.K C "__eq__" f) (n : Nem X.K C) (F : FnOk X.prog X.w X.K X.mg X.base CX k f fd ps sp) (hr : Room (k + 1) X.A) (hb : Binds X.K fd ps []) (hx : Passes CX X E) :
    OpR X (compareOp .NotEq) (rNeO X.K C sp E) := by
  intro pins s σ H x y v u Q I rx ry h
  obtain ⟨a, dx, fs, t, rfl, ha, ty, nf, q⟩ := h
  cases rx
  obtain ⟨od, J⟩ := inst_of I ha
  obtain ⟨mm, hF⟩ := I.fr
  show wpAny (model X.prog X.w) X.A (richCompare .NotEq (.ref a) u) (EP X pins σ Q) X.xe s
  refine PySem.W.ne_K (tb := t) hr.units0 hr.in1.units0 hF I.ok.mod.kin J (type_of I ry ty) nf n.ne n.ob m.at_ m.fn (thn (run_in F hr.in1 rfl hb hx I (Paired.cons (show RelV (.ref a) (Value.ref a) from rfl) (Paired.cons ry .nil)) q) fun v s' ⟨x, H', I', rx, b, ex, q⟩ => ?_)
  subst ex
  cases rx
  exact ⟨b, rfl, .bl (!b), H', I', rfl, q⟩
end
end Rl

set_option Elab.async false
set_option linter.all false
set_option maxRecDepth 100000
set_option maxHeartbeats 4000000
/-! One rule for calls of own defs, classes, methods, staticmethods, by place and by name. -/
namespace Rl
open PySem PySem.Spec PyProof.Rows L2
/-- what the arguments come to: those by place, those by name -/
abbrev TC := L2.St → Hp → (List V → List V → Hp → Prop) → Prop
def tcP (ta : TA) : TC := fun σ H R => ta σ H fun vs H1 => R vs [] H1
def tcK (tk : TA) : TC := fun σ H R => tk σ H fun zs H1 => R [] zs H1
def tcPK (ta tk : TA) : TC := fun σ H R => ta σ H fun vs H1 => tk σ H1 fun zs H2 => R vs zs H2
structure PC (X : Cx) (es : List Expr) (kws : List Keyword) (ks : List Str) (t : TC) : Prop where
  run : ∀ (pos : Pos) (f : Value) (first : List Value) (pins : List (Addr × Obj)) (s : Shared) (σ : L2.St) (H : Hp) (R : List V → List V → Hp → Prop) (Q : Value → Shared → Prop), PySem.W.keepIn X.K f = true → Inv X pins σ H s → t σ H R →
    (∀ us ws vs zs H' s', Inv X pins σ H' s' → Vals vs us → Vals zs ws → R vs zs H' → wpAny (model X.prog X.w) X.A (call f (first ++ us) (ks.zip ws)) Q X.xe s') →
    wpAny (model X.prog X.w) X.A (callWith pos f first (backTo pos (starEach es X.env)) (backToKw pos (keywordEach kws X.env))) Q X.xe s
section
variable {X : Cx} {e : Expr} {es : List Expr} {kws : List Keyword} {ks : List Str} {t tk : TA}
theorem pc_0 : PC X [] [] [] (tcP tNil) := ⟨fun pos f first pins s σ H R Q hk I h g => PySem.W.callWith_K0 I.kIn hk (g [] [] [] [] H s I .nil .nil h)⟩
theorem pc_p (ha : PA X (e :: es) t) (hpl : ∀ pos, (backTo pos (starEach es X.env)).any (·.1) = false := by intro _; rfl) (he : starEach (e :: es) X.env = (false, eval e X.env) :: starEach es X.env := by rfl) : PC X (e :: es) [] [] (tcP t) :=
  ⟨fun pos f first pins s σ H R Q hk I h g => PySem.W.callWith_K (first := first) (h₀ := X.base) I.ok.mod.kin hk (thn (ha.run pos pins s σ H _ I h) fun us s1 ⟨vs, H1, I1, r, q⟩ => ⟨I1.kIn, g us [] vs [] H1 s1 I1 r .nil q⟩) he (hpl pos)⟩
theorem pc_k (hkw : PK X kws tk) (hall : ∀ pos, (backToKw pos (keywordEach kws X.env)).all (·.1.isSome) = true := by intro _; rfl) (hks : ∀ pos, (backToKw pos (keywordEach kws X.env)).filterMap (·.1) = ks := by intro _; rfl)
    (hpl : ∀ pos, ((backTo pos (starEach [] X.env)).any (·.1) || (backToKw pos (keywordEach kws X.env)).any (·.1.isNone)) = false := by intro _; rfl) : PC X [] kws ks (tcK tk) :=
  ⟨fun pos f first pins s σ H R Q hk I h g => by
    refine PySem.W.callWith_KW0 (first := first) (h₀ := X.base) I.ok.mod.kin hk (hall pos) ?_ (hpl pos)
    refine thn (hkw.run pos pins s σ H _ I h) fun ws s2 ⟨zs, H2, I2, rz, q2⟩ => ⟨I2.kIn, ?_⟩
    rw [hks pos]
    exact g [] ws [] zs H2 s2 I2 .nil rz q2⟩
theorem pc_pk (ha : PA X (e :: es) t) (hkw : PK X kws tk) (hall : ∀ pos, (backToKw pos (keywordEach kws X.env)).all (·.1.isSome) = true := by intro _; rfl) (hks : ∀ pos, (backToKw pos (keywordEach kws X.env)).filterMap (·.1) = ks := by intro _; rfl)
    (he : starEach (e :: es) X.env = (false, eval e X.env) :: starEach es X.env := by rfl) (hpl : ∀ pos, ((backTo pos (starEach (e :: es) X.env)).any (·.1) || (backToKw pos (keywordEach kws X.env)).any (·.1.isNone)) = false := by intro _; rfl) : PC X (e :: es) kws ks (tcPK t tk) :=
  ⟨fun pos f first pins s σ H R Q hk I h g => by
    refine PySem.W.callWith_KW (first := first) (h₀ := X.base) I.ok.mod.kin hk (hall pos) (thn (ha.run pos pins s σ H _ I h) fun us s1 ⟨vs, H1, I1, r, q⟩ => ?_) (hpl pos) he
    refine thn (hkw.run pos pins s1 σ H1 _ I1 q) fun ws s2 ⟨zs, H2, I2, rz, q2⟩ => ⟨I2.kIn, ?_⟩
    rw [hks pos]
    exact g us ws vs zs H2 s2 I2 r rz q2⟩
end
/-- how the arguments become the parameters -/
structure Bn (K : PySem.W.Frag) (fd : FuncData) (ps : List Str) (n : Nat) (ks : List Str) (g : List Value → List Value → List Value) (gV : List V → List V → List V) : Prop where
  to : ∀ (s : Shared) (us ws : List Value), K.In s.heap → us.length = n → ws.length = ks.length → BindsTo s fd ⟨us, ks.zip ws⟩ (ps.zip (g us ws))
  rel : ∀ {vs : List V} {us : List Value} {zs : List V} {ws : List Value}, Vals vs us → Vals zs ws → Vals (gV vs zs) (g us ws)
/-- the values at some places -/
def pick {α : Type} (d : α) (π : List Nat) (us ws : List α) : List α := π.map fun i => (us ++ ws).getD i d
theorem Vals.pick {vs zs : List V} {us ws : List Value} (π : List Nat) (r : Vals vs us) (q : Vals zs ws) : Vals (Rl.pick V.non π vs zs) (Rl.pick Value.none π us ws) := by
  have a := r.append q
  induction π with
  | nil => exact .nil
  | cons i π ih =>
    refine .cons ?_ ih
    show RelV ((vs ++ zs).getD i V.non) ((us ++ ws).getD i Value.none)
    cases e : (vs ++ zs)[i]? with
    | some x =>
      obtain ⟨u, e2, rx⟩ := a.get e
      rw [List.getD_eq_getElem?_getD, List.getD_eq_getElem?_getD, e, e2]
      exact rx
    | none =>
      rw [List.getD_eq_getElem?_getD, List.getD_eq_getElem?_getD, e, a.none_of e]
      rfl
theorem bn_pos {K : PySem.W.Frag} {fd : FuncData} {ps : List Str} {n : Nat} (h : ∀ (s : Shared) (us : List Value), us.length = n → BindsTo s fd ⟨us, []⟩ (ps.zip us)) : Bn K fd ps n [] (fun us _ => us) (fun vs _ => vs) where
  to := fun s us ws _ h1 h2 => h s us h1
  rel := fun r _ => r
theorem bn_kw {K : PySem.W.Frag} {fd : FuncData} {ps ks : List Str} {n : Nat} (π : List Nat) (h : ∀ (s : Shared) (us ws : List Value), us.length = n → ws.length = ks.length → BindsTo s fd ⟨us, ks.zip ws⟩ (ps.zip (pick Value.none π us ws))) : Bn K fd ps n ks (pick Value.none π) (pick V.non π) where
  to := fun s us ws _ h1 h2 => h s us ws h1 h2
  rel := fun r q => Vals.pick π r q
theorem bindsK {K : PySem.W.Frag} {x qual : Str} {params : Arguments} {body : List Stmt} {scope : Scope} {kws : List (Str × V)} {f : Addr} {fd : FuncData} {ps ks : List Str} (π : List Nat) {n : Nat} (F : FunD K x qual params body scope [] kws f fd)
    (h : ∀ (kV doc pm : Value) (an : Option Addr) (cdv ct : Value) (us ws : List Value), us.length = n → ws.length = ks.length → bindArgs (PySem.W.fnOf x qual params body scope .none kV doc pm an cdv ct) ⟨us, ks.zip ws⟩ = pure (ps.zip (pick Value.none π us ws))) :
    Bn K fd ps n ks (pick Value.none π) (pick V.non π) := by
  obtain ⟨oc, od, dV, kV, doc, pm, an, cdv, ct, osl, rfl, lk, hcd, hD, hK⟩ := F.ex
  rcases hD with ⟨_, rfl⟩ | ⟨e, _⟩
  · exact bn_kw π fun s us ws h1 h2 => .of_eq (h kV doc pm an cdv ct us ws h1 h2)
  · exact absurd rfl e
theorem bindsP {K : PySem.W.Frag} {x qual : Str} {params : Arguments} {body : List Stmt} {scope : Scope} {kws : List (Str × V)} {f : Addr} {fd : FuncData} {ps : List Str} {n : Nat} (F : FunD K x qual params body scope [] kws f fd)
    (h : ∀ (kV doc pm : Value) (an : Option Addr) (cdv ct : Value) (us : List Value), us.length = n → bindArgs (PySem.W.fnOf x qual params body scope .none kV doc pm an cdv ct) ⟨us, []⟩ = pure (ps.zip us)) :
    Bn K fd ps n [] (fun us _ => us) (fun vs _ => vs) := by
  obtain ⟨oc, od, dV, kV, doc, pm, an, cdv, ct, osl, rfl, lk, hcd, hD, hK⟩ := F.ex
  rcases hD with ⟨_, rfl⟩ | ⟨e, _⟩
  · exact bn_pos fun s us h1 => .of_eq (h kV doc pm an cdv ct us h1)
  · exact absurd rfl e
/-- f(..) -/
def tFn (n m : Nat) (sp : Sp) (gV : List V → List V → List V) (E : XK) (t : TC) : TE := fun σ H Q => t σ H fun vs zs H1 => vs.length = n ∧ zs.length = m ∧ sp (gV vs zs) H1 Q E
/-- o.m(..) -/
def tMt (C : Addr) (m : Str) (n k : Nat) (sp : Sp) (gV : List V → List V → List V) (E : XK) (ta : TE) (t : TC) : TE := fun σ H Q => ta σ H fun x H1 => ∃ a dx fs, x = .ref a ∧ H1 a = some (.ins C dx fs) ∧ fs.lookup m = none ∧
  t σ H1 fun vs zs H2 => vs.length = n ∧ zs.length = k ∧ sp (gV (x :: vs) zs) H2 Q E
/-- C(..) -/
def tNew (C : Addr) (n m : Nat) (sp : Sp) (gV : List V → List V → List V) (E : XK) (t : TC) : TE := fun σ H Q => t σ H fun vs zs H1 => vs.length = n ∧ zs.length = m ∧ ∀ x dx, H1 x = none → H1 dx = none → dx ≠ x →
  sp (gV (.ref x :: vs) zs) (upd (upd H1 dx (.own x)) x (.ins C dx [])) (fun v H2 => v = .non ∧ Q (.ref x) H2) E
/-- a staticmethod of the class at C: its record at p, its def at g -/
structure Stm (K : PySem.W.Frag) (C : Addr) (m : Str) (g : Addr) : Prop where
  ex : ∃ mc p rest, PySem.W.readsIn K C mc = true ∧ PySem.W.specialIn K (.ref C) "__getattribute__" = some (some (.builtin "type.__getattribute__")) ∧ PySem.W.findCls K (.ref C) mc m = some (.get (.builtin "staticmethod.__get__") (.ref p) .none (.ref C)) ∧
    PySem.W.recIn K p "staticmethod" = some (.ref g :: rest)
  kp : PySem.W.keepIn K (.ref g) = true
section
variable {X : Cx} {CX : CXT} {k n : Nat} {f C : Addr} {fd : FuncData} {ps ks : List Str} {sp : Sp} {E : XK} {x m : Str} {p pos apos : Pos} {o : Expr} {es : List Expr} {kws : List Keyword} {ta : TE} {t : TC} {g : List Value → List Value → List Value} {gV : List V → List V → List V}
theorem run_f {pins : List (Addr × Obj)} {σ : L2.St} {H : Hp} {s : Shared} {Q : VK} {us ws : List Value} {vs zs : List V} (F : FnOk X.prog X.w X.K X.mg X.base CX k f fd ps sp) (hr : Room k X.A) (hb : Bn X.K fd ps n ks g gV) (hx : Passes CX X E)
    (I : Inv X pins σ H s) (r : Vals vs us) (rz : Vals zs ws) (l1 : vs.length = n) (l2 : zs.length = ks.length) (h : sp (gV vs zs) H Q E) : wpAny (model X.prog X.w) X.A (call (.ref f) us (ks.zip ws)) (EP X pins σ Q) X.xe s :=
  run_fnN F hr ⟨hb.to, hb.rel⟩ hx I r rz l1 l2 h
theorem pe_fn (F : FnOk X.prog X.w X.K X.mg X.base CX k f fd ps sp) (hr : Room k X.A) (hg : Gl X x) (hm : X.mg x = some (.ref f)) (hk : PySem.W.keepIn X.K (.ref f) = true) (hb : Bn X.K fd ps n ks g gV) (hx : Passes CX X E) (ha : PC X es kws ks t)
    (hdb : (x == ("__debug__" : Str)) = false := by decide) : PE X (.Call (.Name x p) es kws pos) (tFn n ks.length sp gV E t) := by
  refine ⟨fun pins s σ H Q I h => ?_⟩
  refine wpAny_Call_Name_kw (ld_glob I hg hm ?_ hdb)
  exact ha.run pos (.ref f) [] pins s σ H _ _ hk I h fun us ws vs zs H' s' I' r rz ⟨l1, l2, q⟩ => run_f F hr hb hx I' r rz l1 l2 q
theorem pe_new (M : Mk X.K C f) (F : FnOk X.prog X.w X.K X.mg X.base CX k f fd ps sp) (hr : Room (k + 1) X.A) (hg : Gl X x) (hm : X.mg x = some (.ref C)) (hb : Bn X.K fd ps (n + 1) ks g gV) (hx : Passes CX X E) (ha : PC X es kws ks t)
    (hdb : (x == ("__debug__" : Str)) = false := by decide) : PE X (.Call (.Name x p) es kws pos) (tNew C n ks.length sp gV E t) := by
  refine ⟨fun pins s σ H Q I h => ?_⟩
  refine wpAny_Call_Name_kw (ld_glob I hg hm ?_ hdb)
  exact ha.run pos (.ref C) [] pins s σ H _ _ M.kp I h fun us ws vs zs H' s' I' r rz ⟨l1, l2, q⟩ => run_makeN M F hr ⟨hb.to, hb.rel⟩ hx I' r rz l1 l2 q
theorem pe_mt {pl : Sem Bool} (he : PE X o ta) (c : Cls X.K C) (hm : Meth X.K C m f) (F : FnOk X.prog X.w X.K X.mg X.base CX k f fd ps sp) (hr : Room k X.A) (hb : Bn X.K fd ps (n + 1) ks g gV) (hx : Passes CX X E) (ha : PC X es kws ks t)
    (ht : eval (.Call (.Attribute o m apos) es kws pos) X.env = (do
      let ov ← eval o X.env
      standAt apos.atName
      let (f, first) ← holding [ov] (getMethod ov m pl)
      callWith pos f first (backTo pos (starEach es X.env)) (backToKw pos (keywordEach kws X.env))) := by rfl) :
    PE X (.Call (.Attribute o m apos) es kws pos) (tMt C m n ks.length sp gV E ta t) := by
  refine ⟨fun pins s σ H Q I h => ?_⟩
  refine PySem.W.methodCall_KW (pl := pl) (thn (he.run pins s σ H _ I h) fun u s1 ⟨x, H1, I1, rx, a, dx, fs, ex, ea, l, q⟩ => ?_) ht
  subst ex
  obtain rfl : u = Value.ref a := rx
  refine getmeth_ok I1 ea c hm l ?_
  exact ha.run pos (.ref f) [.ref a] pins s1 σ H1 _ _ hm.kp I1 q fun us ws vs zs H' s' I' r rz ⟨l1, l2, q⟩ =>
    run_f (us := .ref a :: us) (vs := .ref a :: vs) F hr hb hx I' (.cons rfl r) rz (congrArg Nat.succ l1) l2 q
theorem pe_st {pl : Sem Bool} (S : Stm X.K C m f) (hg : Gl X x) (hm : X.mg x = some (.ref C)) (F : FnOk X.prog X.w X.K X.mg X.base CX k f fd ps sp) (hr : Room k X.A) (hb : Bn X.K fd ps n ks g gV) (hx : Passes CX X E) (ha : PC X es kws ks t)
    (hdb : (x == ("__debug__" : Str)) = false := by decide)
    (ht : eval (.Call (.Attribute (.Name x p) m apos) es kws pos) X.env = (do
      let ov ← eval (.Name x p) X.env
      standAt apos.atName
      let (f, first) ← holding [ov] (getMethod ov m pl)
      callWith pos f first (backTo pos (starEach es X.env)) (backToKw pos (keywordEach kws X.env))) := by rfl) :
    PE X (.Call (.Attribute (.Name x p) m apos) es kws pos) (tFn n ks.length sp gV E t) := by
  refine ⟨fun pins s σ H Q I h => ?_⟩
  refine PySem.W.methodCall_KW (pl := pl) (ld_glob I hg hm ?_ hdb) ht
  obtain ⟨mc, pp, rest, rd, ga, fc, rc⟩ := S.ex
  refine PySem.W.method_cls I.kIn ga ?_
  refine PySem.W.cls_bind I.kIn rd fc ?_
  refine wpAny_call (PySem.W.sm_get (s := { s with toks := s.toks + 1 }) I.kIn rc (PySem.W.handed_on rfl ?_))
  exact ha.run pos (.ref f) [] pins _ σ H _ _ S.kp (I.tok _) h fun us ws vs zs H' s' I' r rz ⟨l1, l2, q⟩ => run_f F hr hb hx I' r rz l1 l2 q
end
/-! ### joins of readings -/
section
variable {X : Cx}
theorem pe_or2 {e : Expr} {t u : TE} (h1 : PE X e t) (h2 : PE X e u) : PE X e (fun σ H Q => t σ H Q ∨ u σ H Q) := ⟨fun pins s σ H Q I h => h.elim (h1.run pins s σ H Q I) (h2.run pins s σ H Q I)⟩
theorem pi_or2 {tg e : Expr} {t u : TI} (h1 : PI X tg e t) (h2 : PI X tg e u) : PI X tg e (fun σ H R => t σ H R ∨ u σ H R) := ⟨fun pins s σ H R I h => h.elim (h1.run pins s σ H R I) (h2.run pins s σ H R I)⟩
theorem CallR.or {f : Value} {r r' : List V → Hp → VK → Prop} (h : CallR X f r) (h' : CallR X f r') : CallR X f (fun xs H Q => r xs H Q ∨ r' xs H Q) := fun pins s σ H xs us Q I rv q => q.elim (h pins s σ H xs us Q I rv) (h' pins s σ H xs us Q I rv)
/-! ### lists joined that may be locked -/
def rCatR : R2 := fun x y H Q => ∃ l b xs zs, x = .ref l ∧ y = .ref b ∧ Rd H l (.lst xs) ∧ Rd H b (.lst zs) ∧ xs.length + zs.length ≤ sizeLine ∧ ∀ p, H p = none → Q (.ref p) (upd H p (.lst (xs ++ zs)))
theorem rdM {pins : List (Addr × Obj)} {σ : L2.St} {H : Hp} {s : Shared} {l : Addr} {xs : List V} (I : Inv X pins σ H s) (h : Rd H l (.lst xs)) :
    xs.length ≤ sizeLine ∧ ∃ (its : List Value) (n : Nat), Vals xs its ∧ xs.length = its.length ∧ s.heap.get? l = some { cls := .type "list", data := .seq its.toArray n } := by
  obtain ⟨z, its, n, r, e⟩ := h.ok I.hok
  exact ⟨z, its, n, r, r.length, e⟩
theorem op_catR : OpR X (binaryOp .Add) rCatR := by
  intro pins s σ H x y v u Q I rx ry h
  obtain ⟨l, b, xs, zs, rfl, rfl, hH, hB, hz, q⟩ := h
  cases rx
  cases ry
  obtain ⟨z, its, n, r, hl, e⟩ := rdM I hH
  obtain ⟨z2, its2, n2, r2, hl2, e2⟩ := rdM I hB
  refine PySem.P.add_list e e2 ?_ (by rw [List.size_toArray, List.size_toArray]; omega)
  have ea : its.toArray ++ its2.toArray = (its ++ its2).toArray := by simp
  rw [ea]
  exact ⟨.ref _, _, I.lnew (t' := s.toks) (r.append r2) (by rw [List.length_append]; omega), rfl, q _ I.fresh⟩
def rExtR : V → List V → Hp → VK → Prop := fun x vs H Q => ∃ l b xs zs, x = .ref l ∧ vs = [.ref b] ∧ H l = some (.lst xs) ∧ Rd H b (.lst zs) ∧ xs.length + zs.length ≤ sizeLine ∧ Q .non (upd H l (.lst (xs ++ zs)))
theorem mt_extR : MtM X "list.extend" rExtR := by
  intro pins s σ H x vs v us Q I rx rv h
  obtain ⟨l, b, xs, zs, rfl, rfl, hH, hB, hz, q⟩ := h
  cases rx
  obtain ⟨u, rfl, ru⟩ := rv.one
  cases ru
  obtain ⟨z, its, n, r, hl, e⟩ := I.lstM hH
  obtain ⟨z2, its2, n2, r2, hl2, e2⟩ := rdM I hB
  have hsz : its.toArray.size + its2.toArray.size ≤ sizeLine := by rw [List.size_toArray, List.size_toArray]; omega
  have hlong : ¬ (!its.toArray.isEmpty && Builtin.List.listTooLong (its.toArray.size + its2.toArray.size)) = true := by
    rw [notLongL hsz, Bool.and_false]
    exact Bool.false_ne_true
  refine call_meets F.slot_list_extend ⟨_, e, rfl⟩ F.entry_list_extend (F.args_list_extend_2 _ _)
    (AutoSeq1.list_extend_list_list_0 l its.toArray n b its2.toArray n2 hlong (by rw [List.size_toArray]; omega) (by omega)) ⟨e, e2, ?_⟩
  refine ⟨.non, _, I.lset (its' := its ++ its2) hH e (by simp) (r.append r2) ?_, rfl, q⟩
  rw [List.length_append]
  omega
end
end Rl

set_option Elab.async false
set_option linter.all false
set_option maxRecDepth 100000
set_option maxHeartbeats 4000000
/-! The top's facts of my own: staticmethods, special methods, isinstance, own equality. -/
namespace Rl
open PySem PySem.Spec PyProof.Rows L2
open He (ga ma eqO eqO_ok ba)
/-- where a def stands -/
inductive Loc where
  | top (x : Str) | meth (C m : Str) | stat (C m : Str)
/-- the record of a staticmethod, its def -/
def smRec (K : PySem.W.Frag) (C : Addr) (m : Str) : Addr := match PySem.W.findCls K (.ref C) (.type "type") m with
  | some (.get _ (.ref p) _ _) => p
  | _ => 0
def smDef (K : PySem.W.Frag) (C : Addr) (m : Str) : Addr := match PySem.W.recIn K (smRec K C m) "staticmethod" with
  | some (.ref g :: _) => g
  | _ => 0
def ad (K : PySem.W.Frag) : Loc → Addr
  | .top x => ga K x
  | .meth C m => ma K (ga K C) m
  | .stat C m => smDef K (ga K C) m
structure Df where
  loc : Loc
  name : Str
  qual : Str
  params : Arguments
  body : List Stmt
  scope : Scope
abbrev FnW : Type := Option (Str × Str × Arguments × FuncBody × Scope × Addr × List (Str × Addr) × Addr)
def fnW (K : PySem.W.Frag) (a : Addr) : FnW := match K.lookup a with
  | some ⟨_, _, .func fd, _⟩ => some (fd.name, fd.qualname, fd.params, fd.body, fd.scope, fd.globals, fd.closure, fd.builtins)
  | _ => none
def Df.val (d : Df) : FnW := some (d.name, d.qual, d.params, .stmts d.body, d.scope, mainGlobals, [], builtinsNs)
def Df.ok (K : PySem.W.Frag) (d : Df) : Bool := PySem.W.keepIn K (.ref (ad K d.loc)) && (match K.lookup (ad K d.loc) with
  | some ⟨_, _, .func fd, _⟩ => PySem.W.codeIn K fd.code d.qual && (He.dflB K fd.defaults [] && He.kwdB K fd.kwdefaults [])
  | _ => false)
theorem Df.funD {K : PySem.W.Frag} {d : Df} (e : fnW K (ad K d.loc) = d.val) (c : d.ok K = true) : ∃ fd, FunD K d.name d.qual d.params d.body d.scope [] [] (ad K d.loc) fd := by
  obtain ⟨kp, c2⟩ := ba c
  unfold fnW at e
  cases q : K.lookup (ad K d.loc) with
  | none =>
    rw [q] at c2
    cases c2
  | some o =>
    obtain ⟨oc, od, dt, osl⟩ := o
    rw [q] at c2 e
    cases dt with
    | func fd =>
      obtain ⟨n1, n2, n3, n4, n5, n6, n7, n8, n9, n10, n11, n12, n13, n14, n15⟩ := fd
      have e2 : (some (n1, n2, n3, n4, n5, n6, n7, n15) : FnW) = some (d.name, d.qual, d.params, .stmts d.body, d.scope, mainGlobals, [], builtinsNs) := e
      simp only [Option.some.injEq, Prod.mk.injEq] at e2
      obtain ⟨h1, h2, h3, h4, h5, h6, h7, h8⟩ := e2
      subst h1 h2 h3 h4 h5 h6 h7 h8
      have c3 : (PySem.W.codeIn K n13 d.qual && (He.dflB K n8 [] && He.kwdB K n9 [])) = true := c2
      obtain ⟨k1, k2⟩ := ba c3
      obtain ⟨k3, k4⟩ := ba k2
      exact ⟨_, ⟨oc, od, n8, n9, n10, n11, n12, n13, n14, osl, rfl, q, k1, He.dflB_ok k3, He.kwdB_ok k4⟩, kp⟩
    | _ => cases c2
/-- facts -/
inductive Fb where
  | he (f : He.Fa)
  | stm (C m : Str)
  | spm (C m : Str)
  | nem (C : Str)
  /-- an instance's type can be told -/
  | tyi (C : Str)
  /-- isinstance of a type, of an own class -/
  | kit (t : String) (C : Str) (b : Bool)
  | kitO (C C' : Str) (b : Bool)
  | nf (t : String) (C : Str)
  | nfO (C' C : Str)
  | tup (x : Str) (vs : List He.Dv)
def Fb.ok (K : PySem.W.Frag) : Fb → Bool
  | .he f => f.ok K
  | .stm C m => PySem.W.readsIn K (ga K C) (.type "type") && (eqO (PySem.W.specialIn K (.ref (ga K C)) "__getattribute__") (some (some (.builtin "type.__getattribute__"))) && ((match PySem.W.findCls K (.ref (ga K C)) (.type "type") m with
      | some (.get g p n c) => decide (g = .builtin "staticmethod.__get__") && (decide (p = .ref (smRec K (ga K C) m)) && (decide (n = .none) && decide (c = .ref (ga K C))))
      | _ => false) && ((match PySem.W.recIn K (smRec K (ga K C) m) "staticmethod" with
      | some (g :: _) => decide (g = .ref (smDef K (ga K C) m))
      | _ => false) && PySem.W.keepIn K (.ref (smDef K (ga K C) m)))))
  | .spm C m => eqO (PySem.W.findIn K (.ref (ga K C)) m) (some (some (.ref (ma K (ga K C) m)))) && PySem.W.isFn K (.ref (ma K (ga K C) m))
  | .nem C => eqO (PySem.W.findIn K (.ref (ga K C)) "__ne__") (some (some (.builtin "object.__ne__"))) && decide (PySem.W.mroIn K (ga K C) (.type "object") = some true)
  | .tyi C => eqO (PySem.W.findIn K (.ref (ga K C)) "__class__") (some (some (.builtin "object.__class__"))) && (eqO (PySem.W.specialIn K (.builtin "object.__class__") "__get__") (some (some (.builtin "getset_descriptor.__get__"))) &&
      (decide (PySem.W.takesIn K (.builtin "object.__class__") = some true) && decide (PySem.W.mroIn K (ga K C) (.type "object") = some true)))
  | .kit t C b => decide (PySem.W.kitOne K (.type t) (.ref (ga K C)) = some b)
  | .kitO C C' b => decide (PySem.W.kitOne K (.ref (ga K C)) (.ref (ga K C')) = some b)
  | .nf t C => PySem.W.notFirst K (ga K C) (.type t)
  | .nfO C' C => PySem.W.notFirst K (ga K C) (.ref (ga K C'))
  | .tup x vs => He.tupB K x vs
theorem stm_ok {K : PySem.W.Frag} {C m : Str} (c : (Fb.stm C m).ok K = true) : Stm K (ga K C) m (ad K (.stat C m)) := by
  obtain ⟨c1, c⟩ := ba c
  obtain ⟨c2, c⟩ := ba c
  obtain ⟨c3, c⟩ := ba c
  obtain ⟨c4, c5⟩ := ba c
  refine ⟨?_, c5⟩
  cases e : PySem.W.findCls K (.ref (ga K C)) (.type "type") m with
  | none => rw [e] at c3; cases c3
  | some o =>
    rw [e] at c3
    cases o with
    | get g p n c0 =>
      obtain ⟨d1, d⟩ := ba (show (decide (g = .builtin "staticmethod.__get__") && (decide (p = .ref (smRec K (ga K C) m)) && (decide (n = .none) && decide (c0 = .ref (ga K C))))) = true from c3)
      obtain ⟨d2, d⟩ := ba d
      obtain ⟨d3, d4⟩ := ba d
      have e1 := of_decide_eq_true d1
      have e2 := of_decide_eq_true d2
      have e3 := of_decide_eq_true d3
      have e4 := of_decide_eq_true d4
      cases q : PySem.W.recIn K (smRec K (ga K C) m) "staticmethod" with
      | none => rw [q] at c4; cases c4
      | some l =>
        rw [q] at c4
        cases l with
        | nil => cases c4
        | cons g2 rest =>
          have e5 := of_decide_eq_true (show decide (g2 = .ref (smDef K (ga K C) m)) = true from c4)
          refine ⟨.type "type", smRec K (ga K C) m, rest, c1, eqO_ok c2, ?_, ?_⟩
          · rw [e, e1, e2, e3, e4]
          · rw [q, e5]; rfl
    | _ => cases c3
theorem spm_ok {K : PySem.W.Frag} {C m : Str} (c : (Fb.spm C m).ok K = true) : Spm K (ga K C) m (ad K (.meth C m)) := by
  obtain ⟨c1, c2⟩ := ba c
  exact ⟨eqO_ok c1, c2⟩
theorem nem_ok {K : PySem.W.Frag} {C : Str} (c : (Fb.nem C).ok K = true) : Nem K (ga K C) := by
  obtain ⟨c1, c2⟩ := ba c
  exact ⟨eqO_ok c1, of_decide_eq_true c2⟩
/-- what of an own class makes its instances' type known -/
structure Tyi (K : PySem.W.Frag) (C : Addr) : Prop where
  cl : Cls K C
  ha : PySem.W.findIn K (.ref C) "__class__" = some (some (.builtin "object.__class__"))
  hn : PySem.W.specialIn K (.builtin "object.__class__") "__get__" = some (some (.builtin "getset_descriptor.__get__"))
  ht : PySem.W.takesIn K (.builtin "object.__class__") = some true
  hm : PySem.W.mroIn K C (.type "object") = some true
theorem tyi_ok {K : PySem.W.Frag} {C : Str} (l : (Fb.he (.cls C)).ok K = true) (c : (Fb.tyi C).ok K = true) : Tyi K (ga K C) := by
  obtain ⟨c1, c⟩ := ba c
  obtain ⟨c2, c⟩ := ba c
  obtain ⟨c3, c4⟩ := ba c
  exact ⟨He.cls_ok l, eqO_ok c1, eqO_ok c2, of_decide_eq_true c3, of_decide_eq_true c4⟩
theorem Tyi.ty {K : PySem.W.Frag} {C a dx : Addr} {fs : List (Str × V)} {H : Hp} (t : Tyi K C) (h : H a = some (.ins C dx fs)) : TyX K H (.ref a) (.ref C) := .base (.ins h t.cl t.ha t.hn t.ht t.hm)
/-- the Hook -/
abbrev Al : Type := Bool × List FnW
def obsB (fa : List Fb) (fn : List Df) (K : PySem.W.Frag) : Al := ((fa.all fun f => f.ok K) && fn.all fun d => d.ok K, fn.map fun d => fnW K (ad K d.loc))
def valB (fn : List Df) : Al := (true, fn.map Df.val)
def SaysB (fa : List Fb) (fn : List Df) (K : PySem.W.Frag) : Prop := obsB fa fn K = valB fn
def obsBG (n : Nat) (fa : List Fb) (fn : List Df) (g : Addr → Option Obj) : Al := obsB fa fn (He.frG g (He.asD g n))
def hookB (n : Nat) (fa : List Fb) (fn : List Df) : PySem.W.Hook where
  α := Al
  obs := fun s => obsBG n fa fn s.heap.get?
  val := fun _ => valB fn
  says := fun _ h => ∃ K : PySem.W.Frag, K.In h ∧ SaysB fa fn K
  of := fun _ _ e => ⟨_, He.frG_in, e⟩
  keeps := fun _ _ _ ⟨K, hK, c⟩ k => ⟨K, PySem.W.Frag.In.keeps hK k, c⟩
theorem obsBG_eq {n : Nat} {fa : List Fb} {fn : List Df} {g : Addr → Option Obj} {s : Shared} (h : ∀ a, g a = s.heap.get? a) : obsBG n fa fn g = (hookB n fa fn).obs s := by
  have e : g = s.heap.get? := funext h
  rw [e] <;> rfl
section
variable {fa : List Fb} {fn : List Df} {K : PySem.W.Frag}
theorem SaysB.fact (c : SaysB fa fn K) (i : Nat) {f : Fb} (h : fa[i]? = some f := by rfl) : f.ok K = true := by
  have c1 := (ba (show ((fa.all fun f => f.ok K) && fn.all fun d => d.ok K) = true from congrArg (fun z : Al => z.1) c)).1
  exact List.all_eq_true.mp c1 f (List.mem_of_getElem? h)
theorem SaysB.def_ (c : SaysB fa fn K) (i : Nat) {d : Df} (h : fn[i]? = some d := by rfl) : ∃ fd, FunD K d.name d.qual d.params d.body d.scope [] [] (ad K d.loc) fd := by
  have c2 := (ba (show ((fa.all fun f => f.ok K) && fn.all fun d => d.ok K) = true from congrArg (fun z : Al => z.1) c)).2
  have e : fn.map (fun d => fnW K (ad K d.loc)) = fn.map Df.val := congrArg (fun z : Al => z.2) c
  have e2 : (fn.map fun d => fnW K (ad K d.loc))[i]? = (fn.map Df.val)[i]? := by rw [e]
  rw [List.getElem?_map, List.getElem?_map, h] at e2
  exact Df.funD (Option.some.inj e2) (List.all_eq_true.mp c2 d (List.mem_of_getElem? h))
end
end Rl

set_option Elab.async false
set_option linter.all false
set_option maxRecDepth 100000
set_option maxHeartbeats 4000000
/-! One reading an operator, whatever the values. -/
namespace Rl
open PySem PySem.Spec PyProof.Rows L2
def qAdd (K : PySem.W.Frag) : R2 := fun x y H Q => rI0 (fun i j => .int (i + j)) x y H Q ∨ ((∃ i j, x = .str i ∧ y = .str j ∧ i.length + j.length ≤ sizeLine ∧ Q (.str (i ++ j)) H) ∨ (rCatR x y H Q ∨ rCatA K x y H Q))
def qSub : R2 := rI0 fun i j => .int (i - j)
def qMul : R2 := fun x y H Q => rI CMul (fun i j => .int (i * j)) x y H Q ∨ (rI CMulW (fun i j => .int (i * j)) x y H Q ∨ rRep x y H Q)
def qFd : R2 := fun x y H Q => rI CDivN (fun i j => .int (i.fdiv j)) x y H Q ∨ rI CDivW (fun i j => .int (i / j)) x y H Q
def qMd : R2 := fun x y H Q => rI (fun _ j => 0 < j) (fun i j => .int (i % j)) x y H Q ∨ rI (fun _ j => j ≠ 0) (fun i j => .int (i.fmod j)) x y H Q
def qPw : R2 := rI CPow fun i j => .int (i ^ j.toNat)
def qEq (K : PySem.W.Frag) : R2 := fun x y H Q => rEq x y H Q ∨ rEqD K x y H Q
def qNe (K : PySem.W.Frag) : R2 := fun x y H Q => rNe x y H Q ∨ rNeD K x y H Q
def qLt (K : PySem.W.Frag) : R2 := fun x y H Q => rI0 (fun i j => .bl (decide (i < j))) x y H Q ∨ rLtT K x y H Q
def qLe : R2 := rI0 fun i j => .bl (decide (i ≤ j))
def qGt : R2 := rI0 fun i j => .bl (decide (j < i))
def qGe : R2 := rI0 fun i j => .bl (decide (j ≤ i))
def qIn (K : PySem.W.Frag) : R2 := fun x y H Q => (∃ (c : Nat) (z : Str), x = .str ⟨#[c]⟩ ∧ y = .str z ∧ Q (.bl (decide (c ∈ z.cps.toList))) H) ∨ (rIn K false x y H Q ∨ ((∃ i j, x = .str i ∧ y = .str j ∧ Q (.bl (!(Builtin.Str.occurrences j i 0 j.length 1).isEmpty)) H) ∨ rInD K x y H Q))
def qNin (K : PySem.W.Frag) : R2 := fun x y H Q => (∃ (c : Nat) (z : Str), x = .str ⟨#[c]⟩ ∧ y = .str z ∧ Q (.bl (!decide (c ∈ z.cps.toList))) H) ∨ (rIn K true x y H Q ∨ ((∃ i j, x = .str i ∧ y = .str j ∧ Q (.bl (!(!(Builtin.Str.occurrences j i 0 j.length 1).isEmpty))) H) ∨ rNotInD K x y H Q))
def qIs : R2 := fun x y H Q => y = .non ∧ Q (.bl (decide (x = .non))) H
def qIsn : R2 := fun x y H Q => y = .non ∧ Q (.bl (!decide (x = .non))) H
section
variable {X : Cx}
theorem og_add : OpR X (binaryOp .Add) (qAdd X.K) := op_add.or (op_add_str.or (op_catR.or op_catA))
theorem og_sub : OpR X (binaryOp .Sub) qSub := op_sub
theorem og_mul : OpR X (binaryOp .Mult) qMul := op_mul.or (op_mulW.or op_rep)
theorem og_fd : OpR X (binaryOp .FloorDiv) qFd := op_fdivN.or op_fdivW
theorem og_md : OpR X (binaryOp .Mod) qMd := op_mod.or op_modN
theorem og_pw : OpR X (binaryOp .Pow) qPw := op_pow
theorem og_eq (hu : X.A.units + 64 < cLine) : OpR X (compareOp .Eq) (qEq X.K) := op_eq.or (op_eqD hu)
theorem og_ne (hu : X.A.units + 64 < cLine) : OpR X (compareOp .NotEq) (qNe X.K) := op_ne.or (op_neD hu)
theorem og_lt (hu : X.A.units < cLine) : OpR X (compareOp .Lt) (qLt X.K) := op_lt.or (op_ltT hu)
theorem og_le : OpR X (compareOp .LtE) qLe := op_le
theorem og_gt : OpR X (compareOp .Gt) qGt := op_gt
theorem og_ge : OpR X (compareOp .GtE) qGe := op_ge
theorem og_in (hu : X.A.units + 65 < cLine) : OpR X (compareOp .In) (qIn X.K) := op_in_sign.or (op_in_seq.or (op_in_str.or (op_inD hu)))
theorem og_nin (hu : X.A.units + 65 < cLine) : OpR X (compareOp .NotIn) (qNin X.K) := op_notIn_sign.or (op_notIn_seq.or (op_notIn_str.or (op_notInD hu)))
theorem og_is : OpR X (compareOp .Is) qIs := op_isN
theorem og_isn : OpR X (compareOp .IsNot) qIsn := op_notN
/-- slices -/
def qSl (K : PySem.W.Frag) : V → Option Int → Option Int → Hp → VK → Prop := fun x lo hi H Q => rSlL K x lo hi H Q ∨ (rSlA K x lo hi H Q ∨ rSlS x lo hi H Q)
theorem sg_all : SlR X (qSl X.K) := sl_list.or (sl_tupA.or sl_str)
/-- what is walked: a list, a tuple -/
def iAny (K : PySem.W.Frag) (te : TE) : TI := fun σ H R => iList K te σ H R ∨ iTup K te σ H R
theorem pi_any {tg e : Expr} {te : TE} (h : PE X e te) : PI X tg e (iAny X.K te) := pi_or2 (pi_list h) (pi_tup h)
/-- calls of built-ins -/
def qLen (K : PySem.W.Frag) : List V → Hp → VK → Prop := fun xs H Q => ∃ x n, xs = [x] ∧ LenV K x H n ∧ Q (.int n) H
theorem cg_len : CallR X (.builtin "len") (qLen X.K) := call_len
def qInt : List V → Hp → VK → Prop := fun xs H Q => ((∃ i, xs = [.int i] ∧ Q (.int i) H) ∨ ∃ k, xs = [.bl k] ∧ Q (.int (if k then 1 else 0)) H) ∨ ∃ a n, xs = [.str a] ∧ PySem.intText? a = some n ∧ a.length ≤ 640 ∧ Q (.int n) H
theorem cg_int : CallR X (.type "int") qInt := Rl.CallR.or call_int1 call_int_str
def qStr : List V → Hp → VK → Prop := fun xs H Q => ∃ i, xs = [.int i] ∧ i.natAbs.log2 < 1920 ∧ Q (.str (toString i)) H
theorem cg_str : CallR X (.type "str") qStr := call_str_int
def qAbs : List V → Hp → VK → Prop := fun xs H Q => ∃ i, xs = [.int i] ∧ Q (.int (if i < 0 then -i else i)) H
theorem cg_abs : CallR X (.builtin "abs") qAbs := call_abs
def qMx (K : PySem.W.Frag) : List V → Hp → VK → Prop := fun xs H Q => (∃ i j, xs = [.int i, .int j] ∧ Q (.int (if j > i then j else i)) H) ∨ rMax K xs H Q
theorem cg_max (hc : X.calm = true) : CallR X (.builtin "max") (qMx X.K) := Rl.CallR.or (call_max2 hc) (cr_max hc)
def qMn (K : PySem.W.Frag) : List V → Hp → VK → Prop := fun xs H Q => (∃ i j, xs = [.int i, .int j] ∧ Q (.int (if j < i then j else i)) H) ∨ rMin K xs H Q
theorem cg_min (hc : X.calm = true) : CallR X (.builtin "min") (qMn X.K) := Rl.CallR.or (call_min2 hc) (cr_min hc)
theorem cg_sum (hc : X.calm = true) : CallR X (.builtin "sum") (rSum X.K) := cr_sum hc
theorem cg_all (hc : X.calm = true) : CallR X (.builtin "all") (rAll X.K) := cr_all hc
theorem cg_any (hc : X.calm = true) : CallR X (.builtin "any") (rAny X.K) := cr_any hc
def qTup (K : PySem.W.Frag) : List V → Hp → VK → Prop := fun xs H Q => ∃ p ys, xs = [.ref p] ∧ ((SqL K H p ys ∧ ∀ l, H l = none → Q (.ref l) (upd H l (.tup ys))) ∨ (SqT K H p ys ∧ Q (.ref p) H))
theorem cg_tuple : CallR X (.type "tuple") (qTup X.K) := call_tuple_of
def qLst (K : PySem.W.Frag) : List V → Hp → VK → Prop := fun xs H Q => ∃ p ys, xs = [.ref p] ∧ (SqL K H p ys ∨ SqT K H p ys) ∧ ∀ l, H l = none → Q (.ref l) (upd H l (.lst ys))
theorem cg_list : CallR X (.type "list") (qLst X.K) := call_list_of
def qIsi (K : PySem.W.Frag) : List V → Hp → VK → Prop := fun xs H Q => rIsi K xs H Q ∨ rIsiT K xs H Q
theorem cg_isi : CallR X (.builtin "isinstance") (qIsi X.K) := Rl.CallR.or call_isi call_isiT
/-- sep.join(xs) -/
def qJoin (K : PySem.W.Frag) : V → List V → Hp → VK → Prop := fun x xs H Q => ∃ a p, ∃ ys : List Str, x = .str a ∧ xs = [.ref p] ∧ (SqL K H p (ys.map V.str) ∨ SqT K H p (ys.map V.str)) ∧ (ys.map (·.length)).sum + ys.length * a.length ≤ 16777216 ∧ Q (.str (Txt.join a ys)) H
def qSplit : V → List V → Hp → VK → Prop := fun x xs H Q => ∃ a b, x = .str a ∧ xs = [.str b] ∧ (b.length == 0) = false ∧ a.length + 2 ≤ sizeLine ∧ rNewStrs (Txt.split a b) H Q
def qStarts : V → List V → Hp → VK → Prop := fun x xs H Q => ∃ a b, x = .str a ∧ xs = [.str b] ∧ Q (.bl (Txt.startswith a b)) H
def qBool : List V → Hp → VK → Prop := fun xs H Q => (∃ i, xs = [.int i] ∧ Q (.bl (i != 0)) H) ∨ ∃ k, xs = [.bl k] ∧ Q (.bl k) H
def orR2 (r r' : R2) : R2 := fun x y H Q => r x y H Q ∨ r' x y H Q
def orC (r r' : List V → Hp → VK → Prop) : List V → Hp → VK → Prop := fun xs H Q => r xs H Q ∨ r' xs H Q
def orE (t u : TE) : TE := fun σ H Q => t σ H Q ∨ u σ H Q
end
end Rl

set_option Elab.async false
set_option linter.all false
set_option maxRecDepth 100000
set_option maxHeartbeats 4000000
/-! Readings of expressions over symbolic frames. -/
namespace Dl
open PySem PySem.Spec PyProof.Rows L2 Rl RZ RT
open Evl (Ex)

/-! ### the judgements -/
def Wp (B : Fix) (te : TE) (ρ : List S) (k : T → List S → Prop) : Prop := ∀ F H σ τ θ, Ev B F H σ τ ρ θ → ∀ Q : VK, (∀ F' H' v t ρ', k t ρ' → Up B F F' → Ev B F' H' σ (τ ++ [v]) ρ' (θ ++ [t]) → Q v H') → te σ H Q
/-- .. to a datum -/
def WpD (B : Fix) (te : TE) (ρ : List S) (k : D → List S → Prop) : Prop := ∀ F H σ τ θ, Ev B F H σ τ ρ θ → ∀ Q : VK, (∀ F' H' v x ρ', k x ρ' → Up B F F' → Ev B F' H' σ (τ ++ [v]) ρ' (θ ++ [.d x]) → Q v H') → te σ H Q
def WpT (B : Fix) (tt : TT) (ρ : List S) (k : Bool → List S → Prop) : Prop := ∀ F H σ τ θ, Ev B F H σ τ ρ θ → ∀ Q : Bool → Hp → Prop, (∀ F' H' b ρ', k b ρ' → Up B F F' → Ev B F' H' σ τ ρ' θ → Q b H') → tt σ H Q
def WpA (B : Fix) (ta : TA) (ρ : List S) (k : List T → List S → Prop) : Prop := ∀ F H σ τ θ, Ev B F H σ τ ρ θ → ∀ Q : List V → Hp → Prop, (∀ F' H' vs ts ρ', k ts ρ' → Up B F F' → Ev B F' H' σ (τ ++ vs) ρ' (θ ++ ts) → vs.length = ts.length → Q vs H') → ta σ H Q
/-- .. to data -/
def WpAD (B : Fix) (ta : TA) (ρ : List S) (k : List D → List S → Prop) : Prop := ∀ F H σ τ θ, Ev B F H σ τ ρ θ → ∀ Q : List V → Hp → Prop, (∀ F' H' vs xs ρ', k xs ρ' → Up B F F' → Ev B F' H' σ τ ρ' θ → IsAll B.K F' vs xs → Q vs H') → ta σ H Q
def WpO (B : Fix) (to : TO) (ρ : List S) (k : Option Int → List S → Prop) : Prop := ∀ F H σ τ θ, Ev B F H σ τ ρ θ → ∀ Q : Option Int → Hp → Prop, (∀ F' H' o ρ', k o ρ' → Up B F F' → Ev B F' H' σ τ ρ' θ → Q o H') → to σ H Q
/-- an operation on what is on the way -/
def Op1 (B : Fix) (r : V → Hp → VK → Prop) (x : T) (ρ : List S) (k : T → List S → Prop) : Prop := ∀ F H σ τ θ v, Ev B F H σ (τ ++ [v]) ρ (θ ++ [x]) → ∀ Q : VK, (∀ F' H' u z ρ', k z ρ' → Up B F F' → Ev B F' H' σ (τ ++ [u]) ρ' (θ ++ [z]) → Q u H') → r v H Q
def Op2 (B : Fix) (r : R2) (x y : T) (ρ : List S) (k : T → List S → Prop) : Prop := ∀ F H σ τ θ v w, Ev B F H σ (τ ++ [v, w]) ρ (θ ++ [x, y]) → ∀ Q : VK, (∀ F' H' u z ρ', k z ρ' → Up B F F' → Ev B F' H' σ (τ ++ [u]) ρ' (θ ++ [z]) → Q u H') → r v w H Q
def OpA (B : Fix) (r : List V → Hp → VK → Prop) (ts : List T) (ρ : List S) (k : T → List S → Prop) : Prop := ∀ F H σ τ θ vs, Ev B F H σ (τ ++ vs) ρ (θ ++ ts) → vs.length = ts.length → ∀ Q : VK, (∀ F' H' u z ρ', k z ρ' → Up B F F' → Ev B F' H' σ (τ ++ [u]) ρ' (θ ++ [z]) → Q u H') → r vs H Q

/-! ### what is looked at -/
def rd (ρ : List S) (i : Nat) : Option T := match ρ[i]? with
  | some (.d x) => some (.d x)
  | some (.m _) => some (.at i)
  | _ => none
def toD : T → Option D
  | .d x => some x
  | .m c => some c.toD
  | .at _ => none
/-- the content that a reference reads -/
def oc (ρ : List S) : T → Option D
  | .d x => some x
  | .m c => some c.toD
  | .at k => match ρ[k]? with
    | some (.m c) => some c.toD
    | _ => none
/-- the items of a list or tuple -/
def lv (ρ : List S) (t : T) : Option (List D) := match oc ρ t with
  | some (.lst xs) => some xs
  | some (.tup xs) => some xs
  | _ => none
def ll (ρ : List S) (t : T) : Option (List D) := match oc ρ t with
  | some (.lst xs) => some xs
  | _ => none
def iv (ρ : List S) (t : T) : Option (Str × List Str × List D) := match oc ρ t with
  | some (.ins c ns xs) => some (c, ns, xs)
  | _ => none
/-- the truth of a datum -/
def trD : D → Option Bool
  | .non => some false
  | .bl b => some b
  | .int i => some (i != 0)
  | .str s => if s.length ≤ 16777216 then some ((s.length : Int) != 0) else none
  | .lst xs => some (!xs.isEmpty)
  | .tup xs => some (!xs.isEmpty)
  | _ => none

section
variable {B : Fix} {F H F' H' : Hp} {σ : L2.St} {τ : List V} {ρ ρ' : List S} {θ : List T} {v w : V} {t : T} {x y : D}
theorem Ev.datum (E : Ev B F H σ (τ ++ [v]) ρ (θ ++ [.d x])) : Is B.K F v x := E.last
theorem Ev.two {v w : V} {t r : T} (E : Ev B F H σ (τ ++ [v, w]) ρ (θ ++ [t, r])) : Ev B F H σ ((τ ++ [v]) ++ [w]) ρ ((θ ++ [t]) ++ [r]) := by simpa using E
theorem Ev.datum1 {s : T} (E : Ev B F H σ (τ ++ [v, w]) ρ (θ ++ [.d x, s])) : Is B.K F v x := E.two.pop.last
theorem Ev.datum2 {s : T} (E : Ev B F H σ (τ ++ [v, w]) ρ (θ ++ [s, .d x])) : Is B.K F w x := E.two.last
theorem Ev.pop2' {s t : T} (E : Ev B F H σ (τ ++ [v, w]) ρ (θ ++ [s, t])) : Ev B F H σ τ ρ θ := E.two.pop.pop
/-- a value that reads as a datum, over the heap as it stands -/
theorem HTm.oc {σ : L2.St} (E : Ev B F H σ τ ρ θ) (h : HTm B.K F B.G H σ ρ v t) (e : oc ρ t = some x) : Is B.K F v x ∨ ∃ a c, v = .ref a ∧ c.toD = x ∧ OCat B.K F H a c := by
  cases t with
  | d y => cases e; exact .inl h
  | m c => cases e; obtain ⟨a, e, _, _, q⟩ := h; exact .inr ⟨a, c, e, rfl, q⟩
  | «at» k =>
    obtain ⟨h1, c, h2⟩ := h
    simp only [Dl.oc, h2, Option.some.injEq] at e
    subst e
    obtain ⟨a, ea, _, _, q⟩ := E.sl k _ _ h2 h1
    cases ea
    exact .inr ⟨a, c, rfl, rfl, q⟩
theorem seq_of {σ : L2.St} (E : Ev B F H σ τ ρ θ) (h : HTm B.K F B.G H σ ρ v t) {xs : List D} (e : lv ρ t = some xs) : ∃ a vs, v = .ref a ∧ IsAll B.K F vs xs ∧ (SqL B.K H a vs ∨ SqT B.K H a vs) := by
  unfold lv at e
  split at e <;> try (cases e)
  · rename_i ys he
    rcases HTm.oc E h he with q | ⟨a, c, ev, ec, q⟩
    · cases q with
      | lst h1 h2 => exact ⟨_, _, rfl, h2, .inl (.inl (Evl.ex_rd E.fh h1))⟩
    · cases c with
      | lst ds => cases ec; obtain ⟨vs, q1, q2⟩ := q; exact ⟨a, vs, ev, q2, .inl (SqL.of q1)⟩
      | ins _ _ _ => cases ec
  · rename_i ys he
    rcases HTm.oc E h he with q | ⟨a, c, ev, ec, q⟩
    · cases q with
      | tup h1 h2 => exact ⟨_, _, rfl, h2, .inr (Evl.ex_t E.fh h1)⟩
    · cases c <;> cases ec
theorem lst_of {σ : L2.St} (E : Ev B F H σ τ ρ θ) (h : HTm B.K F B.G H σ ρ v t) {xs : List D} (e : ll ρ t = some xs) : ∃ a vs, v = .ref a ∧ IsAll B.K F vs xs ∧ Rd H a (.lst vs) := by
  unfold ll at e
  split at e <;> try (cases e)
  · rename_i ys he
    rcases HTm.oc E h he with q | ⟨a, c, ev, ec, q⟩
    · cases q with
      | lst h1 h2 => exact ⟨_, _, rfl, h2, Evl.ex_rd E.fh h1⟩
    · cases c with
      | lst ds => cases ec; obtain ⟨vs, q1, q2⟩ := q; exact ⟨a, vs, ev, q2, .inl q1⟩
      | ins _ _ _ => cases ec
theorem tup_of {σ : L2.St} (E : Ev B F H σ τ ρ θ) (h : HTm B.K F B.G H σ ρ v (.d (.tup xs))) : ∃ a vs, v = .ref a ∧ IsAll B.K F vs xs ∧ SqT B.K H a vs := by
  cases (show Is B.K F v (.tup xs) from h) with
  | tup h1 h2 => exact ⟨_, _, rfl, h2, Evl.ex_t E.fh h1⟩
theorem ins_of' {σ : L2.St} (E : Ev B F H σ τ ρ θ) (h : HTm B.K F B.G H σ ρ v t) {c : Str} {ns : List Str} {xs : List D} (e : iv ρ t = some (c, ns, xs)) :
    ∃ a dx fs, v = .ref a ∧ H a = some (.ins (He.ga B.K c) dx fs) ∧ fs.map (·.1) = ns ∧ IsAll B.K F (fs.map (·.2)) xs := by
  unfold iv at e
  split at e <;> try (cases e)
  · rename_i he
    rcases HTm.oc E h he with q | ⟨a, o, ev, ec, q⟩
    · cases q with
      | ins h1 h2 h3 => exact ⟨_, _, _, rfl, E.fh _ _ h1, h2, h3⟩
    · cases o with
      | lst ds => cases ec
      | ins _ _ _ => cases ec; obtain ⟨dx, fs, q1, q2, q3⟩ := q; exact ⟨a, dx, fs, ev, q1, q2, q3⟩

/-! ### values -/
variable {k : T → List S → Prop}
theorem wp_mono {te : TE} {k' : T → List S → Prop} (h : Wp B te ρ k) (hk : ∀ t ρ', k t ρ' → k' t ρ') : Wp B te ρ k' := fun F H σ τ θ E Q q => h F H σ τ θ E Q fun F' H' v t ρ' hh u E' => q F' H' v t ρ' (hk t ρ' hh) u E'
theorem wp_var {i : Nat} (h : rd ρ i = some t) (q : k t ρ) : Wp B (tVar i) ρ k := fun F H σ τ θ E Q hq => by
  unfold rd at h
  split at h
  · rename_i x e
    cases h
    obtain ⟨o, ho⟩ : ∃ o, σ[i]? = some o := ⟨_, List.getElem?_eq_getElem (by rw [E.ls]; exact (List.getElem?_eq_some_iff.mp e).1)⟩
    obtain ⟨v, ev, is⟩ := E.sl i _ _ e ho
    subst ev
    exact ⟨v, ho, hq F H v _ ρ q Up.refl (E.push_d is)⟩
  · rename_i c e
    cases h
    obtain ⟨o, ho⟩ : ∃ o, σ[i]? = some o := ⟨_, List.getElem?_eq_getElem (by rw [E.ls]; exact (List.getElem?_eq_some_iff.mp e).1)⟩
    obtain ⟨a, ev, _⟩ := E.sl i _ _ e ho
    subst ev
    exact ⟨_, ho, hq F H _ _ ρ q Up.refl (E.push_at ho e)⟩
  · cases h
theorem wp_c (h : ∀ F, Is B.K F v x) (q : k (.d x) ρ) : Wp B (tC v) ρ k := fun F H σ τ θ E Q hq => hq F H v _ ρ q Up.refl (E.push_d (h F))
theorem wp_int {i : Int} (q : k (.d (.int i)) ρ) : Wp B (tC (.int i)) ρ k := wp_c (fun _ => .int i) q
theorem wp_str {i : Str} (q : k (.d (.str i)) ρ) : Wp B (tC (.str i)) ρ k := wp_c (fun _ => .str i) q
theorem wp_bl {i : Bool} (q : k (.d (.bl i)) ρ) : Wp B (tC (.bl i)) ρ k := wp_c (fun _ => .bl i) q
theorem wp_non (q : k (.d .non) ρ) : Wp B (tC .non) ρ k := wp_c (fun _ => .non) q
theorem wp_ty {n : String} (q : k (.d (.ty n)) ρ) : Wp B (tC (.ty n)) ρ k := wp_c (fun _ => .ty n) q
theorem wp_cls {c : Str} (q : k (.d (.cls c)) ρ) : Wp B (tC (.ref (He.ga B.K c))) ρ k := wp_c (fun _ => .cls c) q
theorem wpd_of {te : TE} {kd : D → List S → Prop} (h : Wp B te ρ fun t ρ1 => ∃ x, toD t = some x ∧ kd x ρ1) : WpD B te ρ kd := fun F H σ τ θ E Q hq => h F H σ τ θ E Q fun F1 H1 v t ρ1 hk u1 E1 => by
  obtain ⟨x, e, hk⟩ := hk
  cases t with
  | d y =>
    obtain rfl : y = x := Option.some.inj e
    exact hq F1 H1 v y ρ1 hk u1 E1
  | m c =>
    cases e
    obtain ⟨F2, u2, E2⟩ := E1.frz_top
    exact hq F2 H1 v _ ρ1 hk (u1.trans u2) E2
  | «at» k => cases e
theorem wp_op {r : R2} {ta tb : TE} (h : Wp B ta ρ fun x ρ1 => Wp B tb ρ1 fun y ρ2 => Op2 B r x y ρ2 k) : Wp B (tOp r ta tb) ρ k := fun F H σ τ θ E Q hq =>
  h F H σ τ θ E _ fun F1 H1 v x ρ1 h1 u1 E1 => h1 F1 H1 σ _ _ E1 _ fun F2 H2 w y ρ2 h2 u2 E2 => h2 F2 H2 σ τ θ v w (by simpa using E2) Q fun F3 H3 u z ρ3 h3 u3 E3 => hq F3 H3 u z ρ3 h3 ((u1.trans u2).trans u3) E3
theorem wp_un {r : V → Hp → VK → Prop} {ta : TE} (h : Wp B ta ρ fun x ρ1 => Op1 B r x ρ1 k) : Wp B (tUn r ta) ρ k := fun F H σ τ θ E Q hq =>
  h F H σ τ θ E _ fun F1 H1 v x ρ1 h1 u1 E1 => h1 F1 H1 σ τ θ v E1 Q fun F3 H3 u z ρ3 h3 u3 E3 => hq F3 H3 u z ρ3 h3 (u1.trans u3) E3
theorem wpa_nil {ka : List T → List S → Prop} (q : ka [] ρ) : WpA B tNil ρ ka := fun F H σ τ θ E Q hq => hq F H [] [] ρ q Up.refl (by simpa using E) rfl
theorem wpa_cons {te : TE} {tr : TA} {ka : List T → List S → Prop} (h : Wp B te ρ fun x ρ1 => WpA B tr ρ1 fun ts ρ2 => ka (x :: ts) ρ2) : WpA B (tCons te tr) ρ ka := fun F H σ τ θ E Q hq =>
  h F H σ τ θ E _ fun F1 H1 v x ρ1 h1 u1 E1 => h1 F1 H1 σ _ _ E1 _ fun F2 H2 vs ts ρ2 h2 u2 E2 hl => hq F2 H2 (v :: vs) (x :: ts) ρ2 h2 (u1.trans u2) (by simpa using E2) (by simp [hl])
theorem wpad_nil {ka : List D → List S → Prop} (q : ka [] ρ) : WpAD B tNil ρ ka := fun F H σ τ θ E Q hq => hq F H [] [] ρ q Up.refl E .nil
theorem wpad_cons {te : TE} {tr : TA} {ka : List D → List S → Prop} (h : WpD B te ρ fun x ρ1 => WpAD B tr ρ1 fun ts ρ2 => ka (x :: ts) ρ2) : WpAD B (tCons te tr) ρ ka := fun F H σ τ θ E Q hq =>
  h F H σ τ θ E _ fun F1 H1 v x ρ1 h1 u1 E1 => h1 F1 H1 σ _ _ E1 _ fun F2 H2 vs ts ρ2 h2 u2 E2 hl => hq F2 H2 (v :: vs) (x :: ts) ρ2 h2 (u1.trans u2) E2.pop (.cons E2.datum hl)
theorem wp_cb {r : List V → Hp → VK → Prop} {ta : TA} (h : WpA B ta ρ fun ts ρ1 => OpA B r ts ρ1 k) : Wp B (tCB r ta) ρ k := fun F H σ τ θ E Q hq =>
  h F H σ τ θ E _ fun F1 H1 vs ts ρ1 h1 u1 E1 hl => h1 F1 H1 σ τ θ vs E1 hl Q fun F3 H3 u z ρ3 h3 u3 E3 => hq F3 H3 u z ρ3 h3 (u1.trans u3) E3
theorem wp_tup {ta : TA} (h : WpAD B ta ρ fun xs ρ1 => xs.length ≤ sizeLine ∧ k (.d (.tup xs)) ρ1) : Wp B (tTup ta) ρ k := fun F H σ τ θ E Q hq =>
  h F H σ τ θ E _ fun F1 H1 vs xs ρ1 h1 u1 E1 hl => ⟨by rw [hl.len]; exact h1.1, fun p hp => hq (upd F1 p (.tup vs)) _ (.ref p) _ ρ1 h1.2 (u1.trans ((Grow.laid E1.fh hp).up E1.g))
    ((E1.grow (Grow.laid E1.fh hp)).push_d (.tup (SqT.of upd_same) (hl.up (Grow.laid (o := .tup vs) E1.fh hp).ff)))⟩
theorem wp_lst {ta : TA} (h : WpAD B ta ρ fun xs ρ1 => xs.length ≤ sizeLine ∧ k (.m (.lst xs)) ρ1) : Wp B (tLst ta) ρ k := fun F H σ τ θ E Q hq =>
  h F H σ τ θ E _ fun F1 H1 vs xs ρ1 h1 u1 E1 hl => ⟨by rw [hl.len]; exact h1.1, fun p hp => hq F1 _ (.ref p) _ ρ1 h1.2 u1 (E1.push_new hp ⟨vs, upd_same, hl⟩)⟩
theorem wp_orl {t u : TE} (h : Wp B t ρ k) : Wp B (orE t u) ρ k := fun F H σ τ θ E Q hq => .inl (h F H σ τ θ E Q hq)
theorem wp_orr {t u : TE} (h : Wp B u ρ k) : Wp B (orE t u) ρ k := fun F H σ τ θ E Q hq => .inr (h F H σ τ θ E Q hq)

/-! ### tests -/
variable {kt : Bool → List S → Prop}
theorem wpt_mono {tt : TT} {k' : Bool → List S → Prop} (h : WpT B tt ρ kt) (hk : ∀ t ρ', kt t ρ' → k' t ρ') : WpT B tt ρ k' := fun F H σ τ θ E Q q => h F H σ τ θ E Q fun F' H' b ρ' hh u E' => q F' H' b ρ' (hk b ρ' hh) u E'
theorem wpt_test {te : TE} (h : Wp B te ρ fun t ρ1 => ∃ b, t = .d (.bl b) ∧ kt b ρ1) : WpT B (tTest te) ρ kt := fun F H σ τ θ E Q hq => h F H σ τ θ E _ fun F1 H1 v t ρ1 h1 u1 E1 => by
  obtain ⟨b, rfl, h1⟩ := h1
  have z := E1.datum
  cases z
  exact ⟨b, rfl, hq F1 H1 b ρ1 h1 u1 E1.pop⟩
theorem wpt_B {te : TE} (h : Wp B te ρ fun t ρ1 => ∃ b, t = .d (.bl b) ∧ kt b ρ1) : WpT B (tB te) ρ kt := fun F H σ τ θ E Q hq => h F H σ τ θ E _ fun F1 H1 v t ρ1 h1 u1 E1 => by
  obtain ⟨b, rfl, h1⟩ := h1
  have z := E1.datum
  cases z
  exact ⟨b, rfl, hq F1 H1 b ρ1 h1 u1 E1.pop⟩
theorem tru_of {σ : L2.St} (E : Ev B F H σ τ ρ θ) (h : HTm B.K F B.G H σ ρ v t) {b : Bool} (e : (oc ρ t).bind trD = some b) : TruV B.K v H b := by
  obtain ⟨x, e1, e2⟩ := Option.bind_eq_some_iff.mp e
  have key : ∀ {a : Addr} {vs : List V} {xs : List D}, IsAll B.K F vs xs → (!vs.isEmpty) = !xs.isEmpty := fun {a vs xs} q => by cases q <;> rfl
  rcases HTm.oc E h e1 with q | ⟨a, c, ev, ec, q⟩
  · cases q with
    | non => cases e2; rfl
    | bl b => cases e2; rfl
    | int i => cases e2; rfl
    | str s =>
      simp only [trD] at e2
      split at e2
      · rename_i hs
        cases e2
        exact ⟨by have := sizeLine_eq; omega, rfl⟩
      · cases e2
    | ty n => cases e2
    | lst h1 h2 => cases e2; exact .inl ⟨_, .inl (Evl.ex_rd E.fh h1), (by cases h2 <;> rfl)⟩
    | tup h1 h2 => cases e2; exact .inr (.inl ⟨_, Evl.ex_t E.fh h1, (by cases h2 <;> rfl)⟩)
    | ins _ _ _ => cases e2
    | cls c => cases e2
    | opq c => cases e2
  · subst ev
    cases c with
    | lst ds => subst ec; cases e2; obtain ⟨vs, q1, q2⟩ := q; exact .inl ⟨vs, SqL.of q1, (by cases q2 <;> rfl)⟩
    | ins _ _ _ => subst ec; cases e2
theorem wpt_tru {te : TE} (h : Wp B te ρ fun t ρ1 => ∃ b, (oc ρ1 t).bind trD = some b ∧ kt b ρ1) : WpT B (tTru B.K te) ρ kt := fun F H σ τ θ E Q hq => h F H σ τ θ E _ fun F1 H1 v t ρ1 h1 u1 E1 => by
  obtain ⟨b, e, h1⟩ := h1
  exact ⟨b, tru_of E1.pop E1.last e, hq F1 H1 b ρ1 h1 u1 E1.pop⟩
theorem wpt_and {t u : TT} (h : WpT B t ρ fun b ρ1 => (b = true → WpT B u ρ1 kt) ∧ (b = false → kt false ρ1)) : WpT B (tAnd t u) ρ kt := fun F H σ τ θ E Q hq => h F H σ τ θ E _ fun F1 H1 b ρ1 h1 u1 E1 => by
  cases b with
  | true => exact h1.1 rfl F1 H1 σ τ θ E1 Q fun F2 H2 b2 ρ2 h2 u2 E2 => hq F2 H2 b2 ρ2 h2 (u1.trans u2) E2
  | false => exact hq F1 H1 false ρ1 (h1.2 rfl) u1 E1
theorem wpt_or {t u : TT} (h : WpT B t ρ fun b ρ1 => (b = true → kt true ρ1) ∧ (b = false → WpT B u ρ1 kt)) : WpT B (tOr t u) ρ kt := fun F H σ τ θ E Q hq => h F H σ τ θ E _ fun F1 H1 b ρ1 h1 u1 E1 => by
  cases b with
  | true => exact hq F1 H1 true ρ1 (h1.1 rfl) u1 E1
  | false => exact h1.2 rfl F1 H1 σ τ θ E1 Q fun F2 H2 b2 ρ2 h2 u2 E2 => hq F2 H2 b2 ρ2 h2 (u1.trans u2) E2
theorem wpt_not {t : TT} (h : WpT B t ρ fun b ρ1 => kt (!b) ρ1) : WpT B (tNot t) ρ kt := fun F H σ τ θ E Q hq => h F H σ τ θ E _ fun F1 H1 b ρ1 h1 u1 E1 => hq F1 H1 (!b) ρ1 h1 u1 E1
/-- both answers known as one truth value: for tests without effects -/
theorem wpt_and' {t u : TT} {a : Bool} (h : WpT B t ρ fun b ρ1 => b = a ∧ ρ1 = ρ) (h2 : a = true → WpT B u ρ fun b ρ1 => ρ1 = ρ ∧ kt (a && b) ρ) (h3 : a = false → kt false ρ) : WpT B (tAnd t u) ρ kt := wpt_and (wpt_mono h fun b ρ1 ⟨e1, e2⟩ => by
  subst e1 e2
  exact ⟨fun e => wpt_mono (h2 e) fun b2 ρ2 ⟨e3, q⟩ => by subst e3; rw [e] at q; exact q, h3⟩)
theorem wp_if {t : TT} {ta tb : TE} (h : WpT B t ρ fun b ρ1 => (b = true → Wp B ta ρ1 k) ∧ (b = false → Wp B tb ρ1 k)) : Wp B (tIf t ta tb) ρ k := fun F H σ τ θ E Q hq => h F H σ τ θ E _ fun F1 H1 b ρ1 h1 u1 E1 => by
  cases b with
  | true => exact h1.1 rfl F1 H1 σ τ θ E1 Q fun F2 H2 b2 t2 ρ2 h2 u2 E2 => hq F2 H2 b2 t2 ρ2 h2 (u1.trans u2) E2
  | false => exact h1.2 rfl F1 H1 σ τ θ E1 Q fun F2 H2 b2 t2 ρ2 h2 u2 E2 => hq F2 H2 b2 t2 ρ2 h2 (u1.trans u2) E2
theorem wp_orT {ta tb : TE} (h : Wp B ta ρ fun t ρ1 => ∃ b, (oc ρ1 t).bind trD = some b ∧ (b = true → k t ρ1) ∧ (b = false → Wp B tb ρ1 k)) : Wp B (tOrT B.K ta tb) ρ k := fun F H σ τ θ E Q hq => h F H σ τ θ E _ fun F1 H1 v t ρ1 h1 u1 E1 => by
  obtain ⟨b, e, h2, h3⟩ := h1
  refine ⟨b, tru_of E1.pop E1.last e, ?_⟩
  cases b with
  | true => exact hq F1 H1 v t ρ1 (h2 rfl) u1 E1
  | false => exact h3 rfl F1 H1 σ τ θ E1.pop Q fun F2 H2 b2 t2 ρ2 h2 u2 E2 => hq F2 H2 b2 t2 ρ2 h2 (u1.trans u2) E2
theorem wp_andT {ta tb : TE} (h : Wp B ta ρ fun t ρ1 => ∃ b, (oc ρ1 t).bind trD = some b ∧ (b = true → Wp B tb ρ1 k) ∧ (b = false → k t ρ1)) : Wp B (tAndT B.K ta tb) ρ k := fun F H σ τ θ E Q hq => h F H σ τ θ E _ fun F1 H1 v t ρ1 h1 u1 E1 => by
  obtain ⟨b, e, h2, h3⟩ := h1
  refine ⟨b, tru_of E1.pop E1.last e, ?_⟩
  cases b with
  | true => exact h2 rfl F1 H1 σ τ θ E1.pop Q fun F2 H2 b2 t2 ρ2 h2 u2 E2 => hq F2 H2 b2 t2 ρ2 h2 (u1.trans u2) E2
  | false => exact hq F1 H1 v t ρ1 (h3 rfl) u1 E1
theorem wp_notT {ta : TE} (h : Wp B ta ρ fun t ρ1 => ∃ b, (oc ρ1 t).bind trD = some b ∧ k (.d (.bl (!b))) ρ1) : Wp B (tNotT B.K ta) ρ k := fun F H σ τ θ E Q hq => h F H σ τ θ E _ fun F1 H1 v t ρ1 h1 u1 E1 => by
  obtain ⟨b, e, h2⟩ := h1
  exact ⟨b, tru_of E1.pop E1.last e, hq F1 H1 _ _ ρ1 h2 u1 (E1.pop.push_d (.bl _))⟩
theorem wp_chain {r r' : R2} {ta tb tc : TE} (h : Wp B ta ρ fun x ρ1 => WpD B tb ρ1 fun y ρ2 => Op2 B r x (.d y) ρ2 fun z ρ3 => ∃ b, z = .d (.bl b) ∧ (b = true → Wp B tc ρ3 fun w ρ4 => Op2 B r' (.d y) w ρ4 k) ∧ (b = false → k (.d (.bl false)) ρ3)) : Wp B (tChain r r' ta tb tc) ρ k :=
  fun F H σ τ θ E Q hq => h F H σ τ θ E _ fun F1 H1 v x ρ1 h1 u1 E1 => h1 F1 H1 σ _ _ E1 _ fun F2 H2 w y ρ2 h2 u2 E2 => by
  have dy := E2.datum
  refine h2 F2 H2 σ τ θ v w (by simpa using E2) _ fun F3 H3 u z ρ3 h3 u3 E3 => ?_
  obtain ⟨b, rfl, h4, h5⟩ := h3
  have zz := E3.datum
  cases zz
  refine ⟨b, rfl, ?_⟩
  cases b with
  | true =>
    refine h4 rfl F3 H3 σ (τ ++ [w]) (θ ++ [.d y]) (E3.pop.push_d (dy.up u3.ex)) _ fun F4 H4 u4 t4 ρ4 h6 u4' E4 => ?_
    exact h6 F4 H4 σ τ θ w u4 (by simpa using E4) Q fun F5 H5 u5 t5 ρ5 h7 u5' E5 => hq F5 H5 u5 t5 ρ5 h7 ((((u1.trans u2).trans u3).trans u4').trans u5') E5
  | false => exact hq F3 H3 _ _ ρ3 (h5 rfl) ((u1.trans u2).trans u3) E3
/-- parts of slices -/
theorem wpo_none {ko : Option Int → List S → Prop} (q : ko none ρ) : WpO B tNoPart ρ ko := fun F H σ τ θ E Q hq => hq F H none ρ q Up.refl E
theorem wpo_some {te : TE} {ko : Option Int → List S → Prop} (h : Wp B te ρ fun t ρ1 => ∃ i, t = .d (.int i) ∧ ko (some i) ρ1) : WpO B (tPart te) ρ ko := fun F H σ τ θ E Q hq => h F H σ τ θ E _ fun F1 H1 v t ρ1 h1 u1 E1 => by
  obtain ⟨i, rfl, h1⟩ := h1
  have z := E1.datum
  cases z
  exact ⟨i, rfl, hq F1 H1 _ ρ1 h1 u1 E1.pop⟩
end
end Dl

set_option Elab.async false
set_option linter.all false
set_option maxRecDepth 100000
set_option maxHeartbeats 4000000
/-! Operators, built-ins, fields, slices over symbolic frames. -/
namespace Dl
open PySem PySem.Spec PyProof.Rows L2 Rl RZ RT
open Evl (Ex)
/-! ### data that == compares -/
mutual
def py : D → Option PyData
  | .non => some .none
  | .bl b => some (.bool b)
  | .int i => some (.int i)
  | .str s => some (.str s)
  | .lst xs => (pyAll xs).map .list
  | .tup xs => (pyAll xs).map .tuple
  | .ty _ => none
  | .ins _ _ _ => none
  | .cls _ => none
  | .opq _ => none
def pyAll : List D → Option (List PyData)
  | [] => some []
  | x :: xs => (py x).bind fun p => (pyAll xs).map fun ps => p :: ps
end
section
variable {K : Frag} {F H : Hp}
mutual
theorem Is.dp (e : Ex F H) : ∀ (x : D) (v : V) (p : PyData), Is K F v x → py x = some p → Dp K H v p
  | .non, _, _, h, q => by cases h; cases q; exact .non
  | .bl b, _, _, h, q => by cases h; cases q; exact .bl b
  | .int i, _, _, h, q => by cases h; cases q; exact .int i
  | .str s, _, _, h, q => by cases h; cases q; exact .str s
  | .lst xs, _, p, h, q => by
    simp only [py, Option.map_eq_some_iff] at q
    obtain ⟨ps, q, rfl⟩ := q
    cases h with
    | lst h1 h2 => exact .lst (.inl (Evl.ex_rd e h1)) (IsAll.dp e xs _ ps h2 q)
  | .tup xs, _, p, h, q => by
    simp only [py, Option.map_eq_some_iff] at q
    obtain ⟨ps, q, rfl⟩ := q
    cases h with
    | tup h1 h2 => exact .tup (Evl.ex_t e h1) (IsAll.dp e xs _ ps h2 q)
  | .ty _, _, _, _, q => by simp [py] at q
  | .ins _ _ _, _, _, _, q => by simp [py] at q
  | .cls _, _, _, _, q => by simp [py] at q
  | .opq _, _, _, _, q => by simp [py] at q
theorem IsAll.dp (e : Ex F H) : ∀ (xs : List D) (vs : List V) (ps : List PyData), IsAll K F vs xs → pyAll xs = some ps → DpAll K H vs ps
  | [], _, _, h, q => by cases h; cases q; exact .nil
  | x :: xs, _, ps, h, q => by
    simp only [pyAll, Option.bind_eq_some_iff, Option.map_eq_some_iff] at q
    obtain ⟨p, q1, qs, q2, rfl⟩ := q
    cases h with
    | cons h1 h2 => exact .cons (Is.dp e x _ p h1 q1) (IsAll.dp e xs _ qs h2 q2)
end
end
/-- a datum that == compares, of some depth -/
structure Pk (n : Nat) (x : D) (p : PyData) : Prop where
  py : py x = some p
  ok : p.canLay0 = true
  dp : p.depth ≤ n
def PkAll (n : Nat) (xs : List D) (ps : List PyData) : Prop := pyAll xs = some ps ∧ PyData.canLayAll0 ps = true ∧ PyData.depthAll ps ≤ n
theorem Pk.sh {x : D} {p : PyData} {n : Nat} (h : Pk n x p) (hn : n ≤ 64) : SeqAt.shaped p = true := by
  unfold SeqAt.shaped
  rw [h.ok, decide_eq_true (Nat.le_trans h.dp hn)]
  rfl
theorem pk_non {n : Nat} : Pk n .non .none := ⟨rfl, rfl, Nat.zero_le _⟩
theorem pk_bl {n : Nat} {b : Bool} : Pk n (.bl b) (.bool b) := ⟨rfl, rfl, Nat.zero_le _⟩
theorem pk_int {n : Nat} {i : Int} : Pk n (.int i) (.int i) := ⟨rfl, rfl, Nat.zero_le _⟩
theorem pk_str {n : Nat} {s : Str} (h : PyData.canLay0 (.str s) = true) : Pk n (.str s) (.str s) := ⟨rfl, h, Nat.zero_le _⟩
theorem pka_nil {n : Nat} : PkAll n [] [] := ⟨rfl, rfl, Nat.zero_le _⟩
theorem pka_cons {n : Nat} {x : D} {p : PyData} {xs : List D} {ps : List PyData} (h : Pk n x p) (g : PkAll n xs ps) : PkAll n (x :: xs) (p :: ps) := by
  refine ⟨?_, ?_, ?_⟩
  · simp [pyAll, h.py, g.1]
  · simp [PyData.canLayAll0, h.ok, g.2.1]
  · simp only [PyData.depthAll]
    have := h.dp
    have := g.2.2
    omega
theorem pk_lst {n : Nat} {xs : List D} {ps : List PyData} (h : PkAll n xs ps) : Pk (n + 1) (.lst xs) (.list ps) := by
  refine ⟨by simp [py, h.1], ?_, ?_⟩
  · simp [PyData.canLay0, h.2.1]
  · simp only [PyData.depth]; have := h.2.2; omega
theorem pk_tup {n : Nat} {xs : List D} {ps : List PyData} (h : PkAll n xs ps) : Pk (n + 1) (.tup xs) (.tuple ps) := by
  refine ⟨by simp [py, h.1], ?_, ?_⟩
  · simp [PyData.canLay0, h.2.1]
  · simp only [PyData.depth]; have := h.2.2; omega
theorem pka_ints {n : Nat} : ∀ l : List Int, PkAll n (Li l) (l.map .int)
  | [] => pka_nil
  | i :: l => pka_cons pk_int (pka_ints l)
theorem eqv_ints : ∀ l m : List Int, PyData.eqvAll (l.map .int) (m.map .int) = decide (l = m)
  | [], [] => by simp [PyData.eqvAll]
  | [], _ :: _ => by simp [PyData.eqvAll]
  | _ :: _, [] => by simp [PyData.eqvAll]
  | i :: l, j :: m => by
    simp only [List.map_cons, PyData.eqvAll, PyData.eqv, eqv_ints l m]
    by_cases h : i = j <;> by_cases g : l = m <;> simp [h, g]
theorem dec_intV {i j : Int} : decide (V.int i = V.int j) = decide (i = j) := by by_cases h : i = j <;> simp [h]
def isNon : D → Bool
  | .non => true
  | .opq v => decide (v = V.non)
  | _ => false
section
variable {B : Fix} {F H F' H' : Hp} {σ : L2.St} {τ : List V} {ρ ρ' : List S} {θ : List T} {v w : V} {t s : T} {x y z : D} {k : T → List S → Prop}
/-! ### two-place operators -/
theorem op2_c {r : R2} {u : V} (h : ∀ F H (v w : V) (Q : VK), Is B.K F v x → Is B.K F w y → Ex F H → Q u H → r v w H Q) (is : ∀ F, Is B.K F u z) (q : k (.d z) ρ) : Op2 B r (.d x) (.d y) ρ k := fun F H σ τ θ v w E Q hq =>
  h F H v w Q E.datum1 E.datum2 E.fh (hq F H u _ ρ q Up.refl (E.pop2'.push_d (is F)))
theorem op2_or1 {r r' : R2} (h : Op2 B r t s ρ k) : Op2 B (orR2 r r') t s ρ k := fun F H σ τ θ v w E Q hq => .inl (h F H σ τ θ v w E Q hq)
theorem op2_or2 {r r' : R2} (h : Op2 B r' t s ρ k) : Op2 B (orR2 r r') t s ρ k := fun F H σ τ θ v w E Q hq => .inr (h F H σ τ θ v w E Q hq)
theorem o_add {i j : Int} (q : k (.d (.int (i + j))) ρ) : Op2 B (qAdd B.K) (.d (.int i)) (.d (.int j)) ρ k := op2_c (u := .int (i + j)) (fun F H v w Q h1 h2 _ q => by cases h1; cases h2; exact .inl ⟨i, j, rfl, rfl, q⟩) (fun _ => .int _) q
theorem o_adds {i j : Str} (hl : i.length + j.length ≤ sizeLine) (q : k (.d (.str (i ++ j))) ρ) : Op2 B (qAdd B.K) (.d (.str i)) (.d (.str j)) ρ k := op2_c (u := .str (i ++ j)) (fun F H v w Q h1 h2 _ q => by cases h1; cases h2; exact .inr (.inl ⟨i, j, rfl, rfl, hl, q⟩)) (fun _ => .str _) q
theorem o_sub {i j : Int} (q : k (.d (.int (i - j))) ρ) : Op2 B qSub (.d (.int i)) (.d (.int j)) ρ k := op2_c (u := .int (i - j)) (fun F H v w Q h1 h2 _ q => by cases h1; cases h2; exact ⟨i, j, rfl, rfl, q⟩) (fun _ => .int _) q
theorem o_mul {i j : Int} (h : CMul i j) (q : k (.d (.int (i * j))) ρ) : Op2 B qMul (.d (.int i)) (.d (.int j)) ρ k := op2_c (u := .int (i * j)) (fun F H v w Q h1 h2 _ q => by cases h1; cases h2; exact .inl ⟨i, j, rfl, rfl, h, q⟩) (fun _ => .int _) q
theorem o_mulW {i j : Int} (h : CMulW i j) (q : k (.d (.int (i * j))) ρ) : Op2 B qMul (.d (.int i)) (.d (.int j)) ρ k := op2_c (u := .int (i * j)) (fun F H v w Q h1 h2 _ q => by cases h1; cases h2; exact .inr (.inl ⟨i, j, rfl, rfl, h, q⟩)) (fun _ => .int _) q
theorem o_fd {i j : Int} (h0 : 0 < j) (h : j.natAbs.log2 < 9000) (q : k (.d (.int (i / j))) ρ) : Op2 B qFd (.d (.int i)) (.d (.int j)) ρ k := op2_c (u := .int (i / j)) (fun F H v w Q h1 h2 _ q => by cases h1; cases h2; exact .inr ⟨i, j, rfl, rfl, ⟨h0, h⟩, q⟩) (fun _ => .int _) q
theorem o_md {i j : Int} (h0 : 0 < j) (q : k (.d (.int (i % j))) ρ) : Op2 B qMd (.d (.int i)) (.d (.int j)) ρ k := op2_c (u := .int (i % j)) (fun F H v w Q h1 h2 _ q => by cases h1; cases h2; exact .inl ⟨i, j, rfl, rfl, h0, q⟩) (fun _ => .int _) q
theorem o_pw {i j : Int} (h : CPow i j) (q : k (.d (.int (i ^ j.toNat))) ρ) : Op2 B qPw (.d (.int i)) (.d (.int j)) ρ k := op2_c (u := .int (i ^ j.toNat)) (fun F H v w Q h1 h2 _ q => by cases h1; cases h2; exact ⟨i, j, rfl, rfl, h, q⟩) (fun _ => .int _) q
theorem o_lt {i j : Int} (q : k (.d (.bl (decide (i < j)))) ρ) : Op2 B (qLt B.K) (.d (.int i)) (.d (.int j)) ρ k := op2_c (u := .bl (decide (i < j))) (fun F H v w Q h1 h2 _ q => by cases h1; cases h2; exact .inl ⟨i, j, rfl, rfl, q⟩) (fun _ => .bl _) q
theorem o_le {i j : Int} (q : k (.d (.bl (decide (i ≤ j)))) ρ) : Op2 B qLe (.d (.int i)) (.d (.int j)) ρ k := op2_c (u := .bl (decide (i ≤ j))) (fun F H v w Q h1 h2 _ q => by cases h1; cases h2; exact ⟨i, j, rfl, rfl, q⟩) (fun _ => .bl _) q
theorem o_gt {i j : Int} (q : k (.d (.bl (decide (j < i)))) ρ) : Op2 B qGt (.d (.int i)) (.d (.int j)) ρ k := op2_c (u := .bl (decide (j < i))) (fun F H v w Q h1 h2 _ q => by cases h1; cases h2; exact ⟨i, j, rfl, rfl, q⟩) (fun _ => .bl _) q
theorem o_ge {i j : Int} (q : k (.d (.bl (decide (j ≤ i)))) ρ) : Op2 B qGe (.d (.int i)) (.d (.int j)) ρ k := op2_c (u := .bl (decide (j ≤ i))) (fun F H v w Q h1 h2 _ q => by cases h1; cases h2; exact ⟨i, j, rfl, rfl, q⟩) (fun _ => .bl _) q
theorem o_eqi {i j : Int} (q : k (.d (.bl (decide (i = j)))) ρ) : Op2 B (qEq B.K) (.d (.int i)) (.d (.int j)) ρ k := op2_c (u := .bl (decide (i = j))) (fun F H v w Q h1 h2 _ q => by cases h1; cases h2; exact .inl ⟨rfl, by rw [dec_intV]; exact q⟩) (fun _ => .bl _) q
theorem o_nei {i j : Int} (q : k (.d (.bl (!decide (i = j)))) ρ) : Op2 B (qNe B.K) (.d (.int i)) (.d (.int j)) ρ k := op2_c (u := .bl (!decide (i = j))) (fun F H v w Q h1 h2 _ q => by cases h1; cases h2; exact .inl ⟨rfl, by rw [dec_intV]; exact q⟩) (fun _ => .bl _) q
theorem o_eqs {i j : Str} (q : k (.d (.bl (decide (i = j)))) ρ) : Op2 B (qEq B.K) (.d (.str i)) (.d (.str j)) ρ k := op2_c (u := .bl (decide (i = j))) (fun F H v w Q h1 h2 _ q => by
  cases h1; cases h2
  refine .inl ⟨rfl, ?_⟩
  have e : decide (V.str i = V.str j) = decide (i = j) := by by_cases h : i = j <;> simp [h]
  rw [e]; exact q) (fun _ => .bl _) q
theorem o_nes {i j : Str} (q : k (.d (.bl (!decide (i = j)))) ρ) : Op2 B (qNe B.K) (.d (.str i)) (.d (.str j)) ρ k := op2_c (u := .bl (!decide (i = j))) (fun F H v w Q h1 h2 _ q => by
  cases h1; cases h2
  refine .inl ⟨rfl, ?_⟩
  have e : decide (V.str i = V.str j) = decide (i = j) := by by_cases h : i = j <;> simp [h]
  rw [e]; exact q) (fun _ => .bl _) q
/-- a value on the way that == compares -/
theorem dp_of {σ : L2.St} (E : Ev B F H σ τ ρ θ) (h : HTm B.K F B.G H σ ρ v t) {p : PyData} (e : oc ρ t = some x) (hp : py x = some p) : Dp B.K H v p := by
  rcases HTm.oc E h e with q | ⟨a, c, ev, ec, q⟩
  · exact Is.dp E.fh _ _ _ q hp
  · subst ev ec
    cases c with
    | lst ds =>
      obtain ⟨vs, q1, q2⟩ := q
      have hp : (pyAll ds).map PyData.list = some p := by simpa [OC.toD, py] using hp
      obtain ⟨ps, q3, rfl⟩ := Option.map_eq_some_iff.mp hp
      exact .lst (SqL.of q1) (IsAll.dp E.fh _ _ _ q2 q3)
    | ins _ _ _ => simp [OC.toD, py] at hp
theorem o_eq {p q : PyData} {n m : Nat} (hx : oc ρ t = some x) (hy : oc ρ s = some y) (px : Pk n x p) (qy : Pk m y q) (hn : n ≤ 64) (hm : m ≤ 64) (h : k (.d (.bl (PyData.eqv p q))) ρ) : Op2 B (qEq B.K) t s ρ k := fun F H σ τ θ v w E Q hq =>
  .inr ⟨p, q, dp_of E.pop2' E.two.pop.last hx px.py, dp_of E.pop2' E.two.last hy qy.py, px.sh hn, qy.sh hm, hq F H _ _ ρ h Up.refl (E.pop2'.push_d (.bl _))⟩
theorem o_ne {p q : PyData} {n m : Nat} (hx : oc ρ t = some x) (hy : oc ρ s = some y) (px : Pk n x p) (qy : Pk m y q) (hn : n ≤ 64) (hm : m ≤ 64) (h : k (.d (.bl (!PyData.eqv p q))) ρ) : Op2 B (qNe B.K) t s ρ k := fun F H σ τ θ v w E Q hq =>
  .inr ⟨p, q, dp_of E.pop2' E.two.pop.last hx px.py, dp_of E.pop2' E.two.last hy qy.py, px.sh hn, qy.sh hm, hq F H _ _ ρ h Up.refl (E.pop2'.push_d (.bl _))⟩
/-- tuples of ints, lists of ints -/
theorem o_eqT {l m : List Int} (h : k (.d (.bl (decide (l = m)))) ρ) : Op2 B (qEq B.K) (.d (.tup (Li l))) (.d (.tup (Li m))) ρ k := o_eq rfl rfl (pk_tup (n := 0) (pka_ints l)) (pk_tup (n := 0) (pka_ints m)) (by omega) (by omega) (by
  show k (.d (.bl (PyData.eqvAll _ _))) ρ
  rw [eqv_ints]; exact h)
theorem o_neT {l m : List Int} (h : k (.d (.bl (!decide (l = m)))) ρ) : Op2 B (qNe B.K) (.d (.tup (Li l))) (.d (.tup (Li m))) ρ k := o_ne rfl rfl (pk_tup (n := 0) (pka_ints l)) (pk_tup (n := 0) (pka_ints m)) (by omega) (by omega) (by
  show k (.d (.bl (!PyData.eqvAll _ _))) ρ
  rw [eqv_ints]; exact h)
theorem o_eqL {l m : List Int} (hx : ll ρ t = some (Li l)) (hy : ll ρ s = some (Li m)) (h : k (.d (.bl (decide (l = m)))) ρ) : Op2 B (qEq B.K) t s ρ k := by
  have e : ∀ {t : T} {xs : List D}, ll ρ t = some xs → oc ρ t = some (.lst xs) := fun {t xs} q => by
    unfold ll at q
    split at q <;> cases q
    assumption
  exact o_eq (e hx) (e hy) (pk_lst (n := 0) (pka_ints l)) (pk_lst (n := 0) (pka_ints m)) (by omega) (by omega) (by
    show k (.d (.bl (PyData.eqvAll _ _))) ρ
    rw [eqv_ints]; exact h)
theorem o_neL {l m : List Int} (hx : ll ρ t = some (Li l)) (hy : ll ρ s = some (Li m)) (h : k (.d (.bl (!decide (l = m)))) ρ) : Op2 B (qNe B.K) t s ρ k := by
  have e : ∀ {t : T} {xs : List D}, ll ρ t = some xs → oc ρ t = some (.lst xs) := fun {t xs} q => by
    unfold ll at q
    split at q <;> cases q
    assumption
  exact o_ne (e hx) (e hy) (pk_lst (n := 0) (pka_ints l)) (pk_lst (n := 0) (pka_ints m)) (by omega) (by omega) (by
    show k (.d (.bl (!PyData.eqvAll _ _))) ρ
    rw [eqv_ints]; exact h)
theorem o_is (hx : oc ρ t = some x) (h : k (.d (.bl (isNon x))) ρ) : Op2 B qIs t (.d .non) ρ k := fun F H σ τ θ v w E Q hq => by
  have w0 := E.datum2
  cases w0
  refine ⟨rfl, ?_⟩
  have e : decide (v = V.non) = (isNon x) := by
    rcases HTm.oc E.pop2' E.two.pop.last hx with q | ⟨a, c, ev, ec, q⟩
    · cases q <;> rfl
    · subst ev ec; cases c <;> rfl
  rw [e]
  exact hq F H _ _ ρ h Up.refl (E.pop2'.push_d (.bl _))
theorem o_isn (hx : oc ρ t = some x) (h : k (.d (.bl (!(isNon x)))) ρ) : Op2 B qIsn t (.d .non) ρ k := fun F H σ τ θ v w E Q hq => by
  have w0 := E.datum2
  cases w0
  refine ⟨rfl, ?_⟩
  have e : decide (v = V.non) = (isNon x) := by
    rcases HTm.oc E.pop2' E.two.pop.last hx with q | ⟨a, c, ev, ec, q⟩
    · cases q <;> rfl
    · subst ev ec; cases c <;> rfl
  rw [e]
  exact hq F H _ _ ρ h Up.refl (E.pop2'.push_d (.bl _))
/-- lists joined -/
theorem o_cat {xs ys : List D} (hx : ll ρ t = some xs) (hy : ll ρ s = some ys) (hl : xs.length + ys.length ≤ sizeLine) (h : k (.m (.lst (xs ++ ys))) ρ) : Op2 B (qAdd B.K) t s ρ k := fun F H σ τ θ v w E Q hq => by
  obtain ⟨a, vs, rfl, i1, r1⟩ := lst_of E.pop2' E.two.pop.last hx
  obtain ⟨b, ws, rfl, i2, r2⟩ := lst_of E.pop2' E.two.last hy
  exact .inr (.inr (.inl ⟨a, b, vs, ws, rfl, rfl, r1, r2, by rw [i1.len, i2.len]; exact hl, fun p hp => hq F _ (.ref p) _ ρ h Up.refl (E.pop2'.push_new hp ⟨_, upd_same, i1.app i2⟩)⟩))
/-- tuples joined -/
theorem o_catT {xs ys : List D} (hl : xs.length + ys.length ≤ sizeLine) (h : k (.d (.tup (xs ++ ys))) ρ) : Op2 B (qAdd B.K) (.d (.tup xs)) (.d (.tup ys)) ρ k := fun F H σ τ θ v w E Q hq => by
  obtain ⟨a, vs, rfl, i1, r1⟩ := tup_of E.pop2' E.two.pop.last
  obtain ⟨b, ws, rfl, i2, r2⟩ := tup_of E.pop2' E.two.last
  have d1 := E.datum1
  have d2 := E.datum2
  refine .inr (.inr (.inr ⟨a, b, vs, ws, rfl, rfl, r1, r2, by rw [i1.len, i2.len]; exact hl, fun e => ?_, fun _ e => ?_, fun _ _ p hp => ?_⟩))
  · subst e; cases i1; exact hq F H _ _ ρ h Up.refl (E.pop2'.push_d d2)
  · subst e; cases i2
    have e2 : xs ++ [] = xs := List.append_nil xs
    rw [e2] at h
    exact hq F H _ _ ρ h Up.refl (E.pop2'.push_d d1)
  · exact hq _ _ (.ref p) _ ρ h ((Grow.laid E.fh hp).up E.g) ((E.pop2'.grow (Grow.laid E.fh hp)).push_d (.tup (SqT.of upd_same) ((i1.app i2).up (Grow.laid (o := .tup (vs ++ ws)) E.fh hp).ff)))
/-- items -/
theorem atI_map {vs : List V} {xs : List D} (h : IsAll B.K F vs xs) {i : Int} (e : atI xs i = some x) : ∃ v, atI vs i = some v ∧ Is B.K F v x := by
  unfold atI at e ⊢
  obtain ⟨j, e1, e2⟩ := Option.bind_eq_some_iff.mp e
  obtain ⟨v, h1, h2⟩ := h.get e2
  exact ⟨v, by rw [h.len, e1]; exact h1, h2⟩
theorem o_ix {xs : List D} {i : Int} (hx : lv ρ t = some xs) (e : atI xs i = some x) (h : k (.d x) ρ) : Op2 B (rIx B.K) t (.d (.int i)) ρ k := fun F H σ τ θ v w E Q hq => by
  obtain ⟨a, vs, rfl, i1, r1⟩ := seq_of E.pop2' E.two.pop.last hx
  have w0 := E.datum2
  cases w0
  obtain ⟨u, e1, iu⟩ := atI_map i1 e
  have fin := hq F H u _ ρ h Up.refl (E.pop2'.push_d iu)
  rcases r1 with r1 | r1
  · exact .inl ⟨a, vs, i, u, rfl, rfl, r1, e1, fin⟩
  · exact .inr (.inl ⟨a, vs, i, u, rfl, rfl, r1, e1, fin⟩)
theorem o_ixs {z : Str} {i : Int} {c : Nat} (hl : z.length ≤ sizeLine) (e : atI z.cps.toList i = some c) (h : k (.d (.str ⟨#[c]⟩)) ρ) : Op2 B (rIx B.K) (.d (.str z)) (.d (.int i)) ρ k := op2_c (u := .str ⟨#[c]⟩) (fun F H v w Q h1 h2 _ q => by
  cases h1; cases h2; exact .inr (.inr ⟨z, i, c, rfl, rfl, hl, e, q⟩)) (fun _ => .str _) h
/-- in -/
theorem o_insign {c : Nat} {z : Str} (h : k (.d (.bl (decide (c ∈ z.cps.toList)))) ρ) : Op2 B (qIn B.K) (.d (.str ⟨#[c]⟩)) (.d (.str z)) ρ k := op2_c (u := .bl (decide (c ∈ z.cps.toList))) (fun F H v w Q h1 h2 _ q => by cases h1; cases h2; exact .inl ⟨c, z, rfl, rfl, q⟩) (fun _ => .bl _) h
theorem inV_ints {i : Int} : ∀ l : List Int, inV (.int i) (l.map V.int) = decide (i ∈ l)
  | [] => by simp [inV]
  | j :: l => by
    have z := inV_ints (i := i) l
    unfold inV at z ⊢
    rw [List.map_cons, List.any_cons, z]
    show ((j == i) || decide (i ∈ l)) = decide (i ∈ j :: l)
    by_cases h : j = i
    · subst h; simp
    · have : i ≠ j := fun e => h e.symm
      simp [h, this]
theorem flat_ints : ∀ l : List Int, (l.map V.int).all flatV = true
  | [] => rfl
  | _ :: l => flat_ints l
theorem o_in {i : Int} {l : List Int} (hy : lv ρ s = some (Li l)) (h : k (.d (.bl (decide (i ∈ l)))) ρ) : Op2 B (qIn B.K) (.d (.int i)) s ρ k := fun F H σ τ θ v w E Q hq => by
  obtain ⟨a, vs, rfl, i1, r1⟩ := seq_of E.pop2' E.two.last hy
  have w0 := E.datum1
  cases w0
  have e := IsAll.li l i1
  subst e
  exact .inr (.inl ⟨a, _, rfl, r1, rfl, flat_ints l, by
    show Q (.bl (inV (.int i) (l.map V.int))) H
    rw [inV_ints]; exact hq F H _ _ ρ h Up.refl (E.pop2'.push_d (.bl _))⟩)
theorem o_nin {i : Int} {l : List Int} (hy : lv ρ s = some (Li l)) (h : k (.d (.bl (!decide (i ∈ l)))) ρ) : Op2 B (qNin B.K) (.d (.int i)) s ρ k := fun F H σ τ θ v w E Q hq => by
  obtain ⟨a, vs, rfl, i1, r1⟩ := seq_of E.pop2' E.two.last hy
  have w0 := E.datum1
  cases w0
  have e := IsAll.li l i1
  subst e
  exact .inr (.inl ⟨a, _, rfl, r1, rfl, flat_ints l, by
    show Q (.bl (!inV (.int i) (l.map V.int))) H
    rw [inV_ints]; exact hq F H _ _ ρ h Up.refl (E.pop2'.push_d (.bl _))⟩)
/-! ### one-place operators -/
theorem o_neg {i : Int} (h : k (.d (.int (-i))) ρ) : Op1 B (rU fun i => .int (-i)) (.d (.int i)) ρ k := fun F H σ τ θ v E Q hq => by
  have w0 := E.datum
  cases w0
  exact ⟨i, rfl, hq F H _ _ ρ h Up.refl (E.pop.push_d (.int _))⟩
/-! ### built-ins -/
theorem E1 {v : V} (E : Ev B F H σ (τ ++ [v]) ρ (θ ++ [t])) : Ev B F H σ (τ ++ [v]) ρ (θ ++ [t]) := E
theorem one_of {vs : List V} {t : T} (hl : vs.length = [t].length) : ∃ v, vs = [v] := by
  match vs, hl with
  | [v], _ => exact ⟨v, rfl⟩
theorem two_of {vs : List V} {t s : T} (hl : vs.length = [t, s].length) : ∃ v w, vs = [v, w] := by
  match vs, hl with
  | [v, w], _ => exact ⟨v, w, rfl⟩
theorem opa_1 {r : List V → Hp → VK → Prop} (h : Op1 B (fun v H Q => r [v] H Q) t ρ k) : OpA B r [t] ρ k := fun F H σ τ θ vs E hl Q hq => by
  obtain ⟨v, rfl⟩ := one_of hl
  exact h F H σ τ θ v E Q hq
theorem opa_2 {r : List V → Hp → VK → Prop} (h : Op2 B (fun v w H Q => r [v, w] H Q) t s ρ k) : OpA B r [t, s] ρ k := fun F H σ τ θ vs E hl Q hq => by
  obtain ⟨v, w, rfl⟩ := two_of hl
  exact h F H σ τ θ v w E Q hq
theorem opa_or1 {r r' : List V → Hp → VK → Prop} {ts : List T} (h : OpA B r ts ρ k) : OpA B (orC r r') ts ρ k := fun F H σ τ θ vs E hl Q hq => .inl (h F H σ τ θ vs E hl Q hq)
theorem opa_or2 {r r' : List V → Hp → VK → Prop} {ts : List T} (h : OpA B r' ts ρ k) : OpA B (orC r r') ts ρ k := fun F H σ τ θ vs E hl Q hq => .inr (h F H σ τ θ vs E hl Q hq)
theorem a_len {xs : List D} (hx : lv ρ t = some xs) (h : k (.d (.int (xs.length : Int))) ρ) : OpA B (qLen B.K) [t] ρ k := opa_1 fun F H σ τ θ v E Q hq => by
  obtain ⟨a, vs, rfl, i1, r1⟩ := seq_of E.pop E.last hx
  refine ⟨_, vs.length, rfl, ?_, ?_⟩
  · rcases r1 with r1 | r1
    · exact .inl ⟨vs, r1, rfl⟩
    · exact .inr ⟨vs, r1, rfl⟩
  · rw [i1.len]; exact hq F H _ _ ρ h Up.refl (E.pop.push_d (.int _))
theorem a_lens {z : Str} (hl : z.length ≤ sizeLine) (h : k (.d (.int (z.length : Int))) ρ) : OpA B (qLen B.K) [.d (.str z)] ρ k := opa_1 fun F H σ τ θ v E Q hq => by
  have w0 := E.datum
  cases w0
  exact ⟨_, z.length, rfl, ⟨hl, rfl⟩, hq F H _ _ ρ h Up.refl (E.pop.push_d (.int _))⟩
theorem a_int {i : Int} (h : k (.d (.int i)) ρ) : OpA B qInt [.d (.int i)] ρ k := opa_1 fun F H σ τ θ v E Q hq => by
  have w0 := E.datum
  cases w0
  exact .inl (.inl ⟨i, rfl, hq F H _ _ ρ h Up.refl (E.pop.push_d (.int _))⟩)
theorem a_intb {b : Bool} (h : k (.d (.int (if b then 1 else 0))) ρ) : OpA B qInt [.d (.bl b)] ρ k := opa_1 fun F H σ τ θ v E Q hq => by
  have w0 := E.datum
  cases w0
  exact .inl (.inr ⟨b, rfl, hq F H _ _ ρ h Up.refl (E.pop.push_d (.int _))⟩)
theorem a_ints {z : Str} {n : Int} (hn : PySem.intText? z = some n) (hl : z.length ≤ 640) (h : k (.d (.int n)) ρ) : OpA B qInt [.d (.str z)] ρ k := opa_1 fun F H σ τ θ v E Q hq => by
  have w0 := E.datum
  cases w0
  exact .inr ⟨z, n, rfl, hn, hl, hq F H _ _ ρ h Up.refl (E.pop.push_d (.int _))⟩
theorem a_str {i : Int} (hl : i.natAbs.log2 < 1920) (h : k (.d (.str (toString i))) ρ) : OpA B qStr [.d (.int i)] ρ k := opa_1 fun F H σ τ θ v E Q hq => by
  have w0 := E.datum
  cases w0
  exact ⟨i, rfl, hl, hq F H _ _ ρ h Up.refl (E.pop.push_d (.str _))⟩
theorem a_abs {i : Int} (h : k (.d (.int (if i < 0 then -i else i))) ρ) : OpA B qAbs [.d (.int i)] ρ k := opa_1 fun F H σ τ θ v E Q hq => by
  have w0 := E.datum
  cases w0
  exact ⟨i, rfl, hq F H _ _ ρ h Up.refl (E.pop.push_d (.int _))⟩
theorem a_max2 {i j : Int} (h : k (.d (.int (if j > i then j else i))) ρ) : OpA B (qMx B.K) [.d (.int i), .d (.int j)] ρ k := opa_2 (op2_c (u := .int (if j > i then j else i)) (fun F H v w Q h1 h2 _ q => by cases h1; cases h2; exact .inl ⟨i, j, rfl, q⟩) (fun _ => .int _) h)
theorem a_min2 {i j : Int} (h : k (.d (.int (if j < i then j else i))) ρ) : OpA B (qMn B.K) [.d (.int i), .d (.int j)] ρ k := opa_2 (op2_c (u := .int (if j < i then j else i)) (fun F H v w Q h1 h2 _ q => by cases h1; cases h2; exact .inl ⟨i, j, rfl, q⟩) (fun _ => .int _) h)
theorem a_max {l : List Int} (hx : ll ρ t = some (Li l)) (h0 : 0 < l.length) (h : ∀ m, m ∈ l → (∀ y, y ∈ l → y ≤ m) → k (.d (.int m)) ρ) : OpA B (qMx B.K) [t] ρ k := opa_1 fun F H σ τ θ v E Q hq => by
  obtain ⟨a, vs, rfl, i1, r1⟩ := lst_of E.pop E.last hx
  have e := IsAll.li l i1
  subst e
  exact .inr ⟨a, l, rfl, .inl r1, h0, fun m h1 h2 => hq F H _ _ ρ (h m h1 h2) Up.refl (E.pop.push_d (.int _))⟩
theorem a_min {l : List Int} (hx : ll ρ t = some (Li l)) (h0 : 0 < l.length) (h : ∀ m, m ∈ l → (∀ y, y ∈ l → m ≤ y) → k (.d (.int m)) ρ) : OpA B (qMn B.K) [t] ρ k := opa_1 fun F H σ τ θ v E Q hq => by
  obtain ⟨a, vs, rfl, i1, r1⟩ := lst_of E.pop E.last hx
  have e := IsAll.li l i1
  subst e
  exact .inr ⟨a, l, rfl, .inl r1, h0, fun m h1 h2 => hq F H _ _ ρ (h m h1 h2) Up.refl (E.pop.push_d (.int _))⟩
theorem a_sum {l : List Int} (hx : ll ρ t = some (Li l)) (h : k (.d (.int l.sum)) ρ) : OpA B (rSum B.K) [t] ρ k := opa_1 fun F H σ τ θ v E Q hq => by
  obtain ⟨a, vs, rfl, i1, r1⟩ := lst_of E.pop E.last hx
  have e := IsAll.li l i1
  subst e
  exact ⟨a, l, rfl, .inl r1, hq F H _ _ ρ h Up.refl (E.pop.push_d (.int _))⟩
theorem a_all {l : List Bool} (hx : ll ρ t = some (Lb l)) (h : k (.d (.bl (l.all id))) ρ) : OpA B (rAll B.K) [t] ρ k := opa_1 fun F H σ τ θ v E Q hq => by
  obtain ⟨a, vs, rfl, i1, r1⟩ := lst_of E.pop E.last hx
  have e := IsAll.lb l i1
  subst e
  exact ⟨a, l, rfl, .inl r1, hq F H _ _ ρ h Up.refl (E.pop.push_d (.bl _))⟩
theorem a_any {l : List Bool} (hx : ll ρ t = some (Lb l)) (h : k (.d (.bl (l.any id))) ρ) : OpA B (rAny B.K) [t] ρ k := opa_1 fun F H σ τ θ v E Q hq => by
  obtain ⟨a, vs, rfl, i1, r1⟩ := lst_of E.pop E.last hx
  have e := IsAll.lb l i1
  subst e
  exact ⟨a, l, rfl, .inl r1, hq F H _ _ ρ h Up.refl (E.pop.push_d (.bl _))⟩
/-- tuple(xs) -/
theorem a_tuple {xs : List D} (hx : ll ρ t = some xs) (h : k (.d (.tup xs)) ρ) : OpA B (qTup B.K) [t] ρ k := opa_1 fun F H σ τ θ v E Q hq => by
  obtain ⟨a, vs, rfl, i1, r1⟩ := lst_of E.pop E.last hx
  exact ⟨a, vs, rfl, .inl ⟨.inl r1, fun p hp => hq _ _ (.ref p) _ ρ h ((Grow.laid E.fh hp).up E.g) ((E.pop.grow (Grow.laid E.fh hp)).push_d (.tup (SqT.of upd_same) (i1.up (Grow.laid (o := .tup vs) E.fh hp).ff)))⟩⟩
theorem a_tupleT {xs : List D} (h : k (.d (.tup xs)) ρ) : OpA B (qTup B.K) [.d (.tup xs)] ρ k := opa_1 fun F H σ τ θ v E Q hq => by
  obtain ⟨a, vs, rfl, i1, r1⟩ := tup_of E.pop E.last
  exact ⟨a, vs, rfl, .inr ⟨r1, hq F H _ _ ρ h Up.refl E⟩⟩
/-- list(xs) -/
theorem a_list {xs : List D} (hx : lv ρ t = some xs) (h : k (.m (.lst xs)) ρ) : OpA B (qLst B.K) [t] ρ k := opa_1 fun F H σ τ θ v E Q hq => by
  obtain ⟨a, vs, rfl, i1, r1⟩ := seq_of E.pop E.last hx
  exact ⟨a, vs, rfl, r1, fun p hp => hq F _ (.ref p) _ ρ h Up.refl (E.pop.push_new hp ⟨vs, upd_same, i1⟩)⟩
/-! ### isinstance -/
/-- the built-in type of a datum -/
def tyD : D → Option String
  | .non => some "NoneType"
  | .bl _ => some "bool"
  | .int _ => some "int"
  | .str _ => some "str"
  | .lst _ => some "list"
  | .tup _ => some "tuple"
  | _ => none
theorem ty_of {σ : L2.St} (E : Ev B F H σ τ ρ θ) (h : HTm B.K F B.G H σ ρ v t) {n : String} (e : (oc ρ t).bind tyD = some n) : TyX B.K H v (.type n) := by
  obtain ⟨x, e1, e2⟩ := Option.bind_eq_some_iff.mp e
  rcases HTm.oc E h e1 with q | ⟨a, c, ev, ec, q⟩
  · cases q with
    | non => cases e2; exact .base .non
    | bl b => cases e2; exact .base (.bl b)
    | int i => cases e2; exact .base (.int i)
    | str s => cases e2; exact .base (.str s)
    | ty n => cases e2
    | lst h1 h2 =>
      cases e2
      rcases Evl.ex_rd E.fh h1 with z | ⟨o, z⟩
      · exact .base (.lst z)
      · exact .base (.frz z)
    | tup h1 h2 =>
      cases e2
      rcases Evl.ex_t E.fh h1 with (z | ⟨o, z⟩) | ⟨o, its, n, z1, z2, _⟩
      · exact .base (.tup z)
      · exact .fTuple z
      · exact .kTuple z1 z2
    | ins _ _ _ => cases e2
    | cls c => cases e2
    | opq c => cases e2
  · subst ev ec
    cases c with
    | lst ds => cases e2; obtain ⟨vs, q1, q2⟩ := q; exact .base (.lst q1)
    | ins _ _ _ => cases e2
theorem tyi_of {σ : L2.St} (E : Ev B F H σ τ ρ θ) (h : HTm B.K F B.G H σ ρ v t) {c : Str} {ns : List Str} {xs : List D} (e : iv ρ t = some (c, ns, xs)) (ty : Tyi B.K (He.ga B.K c)) : TyX B.K H v (.ref (He.ga B.K c)) := by
  obtain ⟨a, dx, fs, rfl, h1, _⟩ := ins_of' E h e
  exact ty.ty h1
/-- a built-in class -/
theorem a_isi {n m : String} {b : Bool} (hx : (oc ρ t).bind tyD = some n) (hk : kitB n m = some b) (h : k (.d (.bl b)) ρ) : OpA B (qIsi B.K) [t, .d (.ty m)] ρ k := opa_2 fun F H σ τ θ v w E Q hq => by
  have w0 := E.datum2
  cases w0
  exact .inl ⟨v, .ty m, .type n, .type m, b, rfl, .ty m, ty_of E.pop2' E.two.pop.last hx, kit_ty hk, hq F H _ _ ρ h Up.refl (E.pop2'.push_d (.bl _))⟩
/-- an own class, asked of what is none of an own class -/
theorem a_isiO {n : String} {c : Str} {b : Bool} (hx : (oc ρ t).bind tyD = some n) (hk : PySem.W.kitOne B.K (.type n) (.ref (He.ga B.K c)) = some b) (h : k (.d (.bl b)) ρ) : OpA B (qIsi B.K) [t, .d (.cls c)] ρ k := opa_2 fun F H σ τ θ v w E Q hq => by
  have w0 := E.datum2
  cases w0
  exact .inl ⟨v, _, .type n, _, b, rfl, .own _, ty_of E.pop2' E.two.pop.last hx, hk, hq F H _ _ ρ h Up.refl (E.pop2'.push_d (.bl _))⟩
theorem a_isiI {c' c : Str} {ns : List Str} {xs : List D} {b : Bool} (hx : iv ρ t = some (c', ns, xs)) (ty : Tyi B.K (He.ga B.K c')) (hk : PySem.W.kitOne B.K (.ref (He.ga B.K c')) (.ref (He.ga B.K c)) = some b) (h : k (.d (.bl b)) ρ) : OpA B (qIsi B.K) [t, .d (.cls c)] ρ k := opa_2 fun F H σ τ θ v w E Q hq => by
  have w0 := E.datum2
  cases w0
  exact .inl ⟨v, _, _, _, b, rfl, .own _, tyi_of E.pop2' E.two.pop.last hx ty, hk, hq F H _ _ ρ h Up.refl (E.pop2'.push_d (.bl _))⟩
theorem a_isiIT {c' : Str} {m : String} {ns : List Str} {xs : List D} {b : Bool} (hx : iv ρ t = some (c', ns, xs)) (ty : Tyi B.K (He.ga B.K c')) (hk : PySem.W.kitOne B.K (.ref (He.ga B.K c')) (.type m) = some b) (h : k (.d (.bl b)) ρ) : OpA B (qIsi B.K) [t, .d (.ty m)] ρ k := opa_2 fun F H σ τ θ v w E Q hq => by
  have w0 := E.datum2
  cases w0
  exact .inl ⟨v, .ty m, _, _, b, rfl, .ty m, tyi_of E.pop2' E.two.pop.last hx ty, hk, hq F H _ _ ρ h Up.refl (E.pop2'.push_d (.bl _))⟩
/-- isinstance(x, (list, tuple)): the answer of both -/
def kit2 (n m1 m2 : String) : Option Bool := match kitB n m1 with
  | some true => some true
  | some false => kitB n m2
  | none => none
theorem wp_isi2 {te : TE} {m1 m2 : String} (h : Wp B te ρ fun t ρ1 => ∃ n b, (oc ρ1 t).bind tyD = some n ∧ kit2 n m1 m2 = some b ∧ k (.d (.bl b)) ρ1) : Wp B (tCB (qIsi B.K) (tCons te (tCons (tTup (tCons (tC (.ty m1)) (tCons (tC (.ty m2)) tNil))) tNil))) ρ k := fun F H σ τ θ E Q hq =>
  h F H σ τ θ E _ fun F1 H1 v t ρ1 h1 u1 E1 => by
  obtain ⟨n, b, e1, e2, h2⟩ := h1
  have ty := ty_of E1.pop E1.last e1
  refine ⟨by show 2 ≤ sizeLine; decide, fun p hp => ?_⟩
  have E2 := E1.grow (Grow.laid (o := .tup [.ty m1, .ty m2]) E1.fh hp)
  have ty2 := ty_of E2.pop E2.last e1
  refine .inr ⟨v, p, [.ty m1, .ty m2], .type n, [.type m1, .type m2], b, rfl, upd_same, .cons (.ty m1) (.cons (.ty m2) .nil), ty2, ?_, hq _ _ _ _ ρ1 h2 (u1.trans ((Grow.laid (o := .tup [.ty m1, .ty m2]) E1.fh hp).up E1.g)) (E2.pop.push_d (.bl _))⟩
  unfold kit2 at e2
  cases q : kitB n m1 with
  | none => rw [q] at e2; cases e2
  | some r =>
    rw [q] at e2
    cases r with
    | true => cases e2; exact kitAny_cons (kit_ty q) (fun z => by cases z) fun _ => rfl
    | false =>
      have e3 : kitB n m2 = some b := e2
      exact kitAny_cons (kit_ty q) (fun _ => kitAny_cons (kit_ty e3) (fun z => by rw [z]; exact kitAny_nil) fun z => z) fun z => by cases z
/-! ### fields -/
def fget : List Str → List D → Str → Option D
  | n :: ns, x :: xs, f => if f = n then some x else fget ns xs f
  | _, _, _ => none
theorem lookup_fs {f : Str} : ∀ {fs : List (Str × V)} {ns : List Str} {xs : List D} {x : D}, fs.map (·.1) = ns → IsAll B.K F (fs.map (·.2)) xs → fget ns xs f = some x → ∃ v, fs.lookup f = some v ∧ Is B.K F v x
  | [], _, _, _, e, h, g => by subst e; simp [fget] at g
  | (n, v) :: fs, _, xs, x, e, h, g => by
    subst e
    cases xs with
    | nil => simp [fget] at g
    | cons y ys =>
      cases h with
      | cons h1 h2 =>
        have g2 : (if f = n then some y else fget (fs.map (·.1)) ys f) = some x := g
        by_cases c : f = n
        · rw [if_pos c] at g2
          cases g2
          exact ⟨v, by subst c; simp [List.lookup], h1⟩
        · rw [if_neg c] at g2
          obtain ⟨w, q1, q2⟩ := lookup_fs (fs := fs) rfl h2 g2
          refine ⟨w, ?_, q2⟩
          have c2 : (f == n) = false := by simpa using c
          simp only [List.lookup, c2]
          exact q1
theorem lookup_none {f : Str} : ∀ {fs : List (Str × V)} {ns : List Str}, fs.map (·.1) = ns → f ∉ ns → fs.lookup f = none
  | [], _, _, _ => rfl
  | (n, v) :: fs, _, e, h => by
    subst e
    have c2 : (f == n) = false := by
      have : f ≠ n := fun e => h (by simp [e])
      simpa using this
    simp only [List.lookup, c2]
    exact lookup_none rfl fun q => h (by simp only [List.map_cons, List.mem_cons]; exact .inr q)
theorem wp_fld {te : TE} {f : Str} (h : Wp B te ρ fun t ρ1 => ∃ c ns xs x, iv ρ1 t = some (c, ns, xs) ∧ Cls B.K (He.ga B.K c) ∧ NoAttr B.K (He.ga B.K c) f ∧ fget ns xs f = some x ∧ k (.d x) ρ1) : Wp B (tFld B.K te f) ρ k := fun F H σ τ θ E Q hq =>
  h F H σ τ θ E _ fun F1 H1 v t ρ1 h1 u1 E1 => by
  obtain ⟨c, ns, xs, x, e, c1, c2, e2, h2⟩ := h1
  obtain ⟨a, dx, fs, rfl, q1, q2, q3⟩ := ins_of' E1.pop E1.last e
  obtain ⟨u, l, is⟩ := lookup_fs q2 q3 e2
  exact ⟨a, _, dx, fs, u, rfl, q1, c1, c2, l, hq F1 H1 u _ ρ1 h2 u1 (E1.pop.push_d is)⟩
/-! ### slices -/
def cutD {α : Type} (xs : List α) (lo hi : Option Int) : List α := (xs.drop (HT.sIx xs.length 0 lo)).take (HT.sIx xs.length xs.length hi - HT.sIx xs.length 0 lo)
theorem cut_is {vs : List V} {xs : List D} (h : IsAll B.K F vs xs) (lo hi : Option Int) : IsAll B.K F (cutV vs lo hi) (cutD xs lo hi) := by
  unfold cutV cutD
  rw [h.len]
  exact (h.drop _).take _
theorem wp_sl {te : TE} {tl th : TO} (h : Wp B te ρ fun t ρ1 => WpO B tl ρ1 fun lo ρ2 => WpO B th ρ2 fun hi ρ3 => (∃ xs, ll ρ3 t = some xs ∧ k (.m (.lst (cutD xs lo hi))) ρ3) ∨ (∃ xs, t = .d (.tup xs) ∧ k (.d (.tup (cutD xs lo hi))) ρ3) ∨ ∃ z, t = .d (.str z) ∧ z.length ≤ sizeLine ∧ k (.d (.str (cutS z lo hi))) ρ3) : Wp B (tSl (qSl B.K) te tl th) ρ k := fun F H σ τ θ E Q hq =>
  h F H σ τ θ E _ fun F1 H1 v t ρ1 h1 u1 E1 => h1 F1 H1 σ _ _ E1 _ fun F2 H2 lo ρ2 h2 u2 E2 => h2 F2 H2 σ _ _ E2 _ fun F3 H3 hi ρ3 h3 u3 E3 => by
  have uu := (u1.trans u2).trans u3
  rcases h3 with ⟨xs, e, h3⟩ | ⟨xs, rfl, h3⟩ | ⟨z, rfl, hz, h3⟩
  · obtain ⟨a, vs, rfl, i1, r1⟩ := lst_of E3.pop E3.last e
    exact .inl ⟨a, vs, rfl, .inl r1, fun p hp => hq F3 _ (.ref p) _ ρ3 h3 uu (E3.pop.push_new hp ⟨_, upd_same, cut_is i1 lo hi⟩)⟩
  · obtain ⟨a, vs, rfl, i1, r1⟩ := tup_of E3.pop E3.last
    refine .inr (.inl ⟨a, vs, rfl, r1, fun ⟨z1, z2⟩ => ?_, fun _ p hp => hq _ _ (.ref p) _ ρ3 h3 (uu.trans ((Grow.laid E3.fh hp).up E3.g)) ((E3.pop.grow (Grow.laid E3.fh hp)).push_d (.tup (SqT.of upd_same) ((cut_is i1 lo hi).up (Grow.laid (o := .tup (cutV vs lo hi)) E3.fh hp).ff)))⟩)
    have e : cutD xs lo hi = xs := by
      unfold cutD
      rw [← i1.len, z1, z2, i1.len]
      simp
    rw [e] at h3
    exact hq F3 H3 _ _ ρ3 h3 uu E3
  · have w0 := E3.datum
    cases w0
    exact .inr (.inr ⟨z, rfl, hz, hq F3 H3 _ _ ρ3 h3 uu (E3.pop.push_d (.str _))⟩)
/-! ### methods of built-ins -/
theorem wp_append {to te : TE} (h : Wp B to ρ fun t ρ1 => ∃ i, t = .at i ∧ (∃ xs, ρ1[i]? = some (.m (.lst xs))) ∧ WpD B te ρ1 fun y ρ2 => ∃ xs, ρ2[i]? = some (.m (.lst xs)) ∧ xs.length < sizeLine ∧ k (.d .non) (ρ2.set i (.m (.lst (xs ++ [y]))))) : Wp B (tBM B.K "list" rAppend to (tCons te tNil)) ρ k := fun F H σ τ θ E Q hq =>
  h F H σ τ θ E _ fun F1 H1 v t ρ1 h1 u1 E1 => by
  obtain ⟨i, rfl, ⟨xs0, e0⟩, h1⟩ := h1
  obtain ⟨l1, _⟩ := E1.last
  obtain ⟨a, ev, fa, ga, vs0, o1, _⟩ := E1.sl i _ _ e0 l1
  cases ev
  refine ⟨.inl ⟨rfl, vs0, SqL.of o1⟩, ?_⟩
  refine h1 F1 H1 σ _ _ E1 _ fun F2 H2 w y ρ2 h2 u2 E2 => ?_
  obtain ⟨xs, e1, hl, h3⟩ := h2
  have E3 := E2.pop.pop
  have l2 : σ[i]? = some (some (V.ref a)) := l1
  obtain ⟨_, _, vs, o2, is⟩ := E3.slot_there e1 l2
  refine ⟨a, vs, w, rfl, rfl, o2, by rw [is.len]; exact hl, ?_⟩
  exact hq F2 _ .non _ _ h3 (u1.trans u2) ((E3.chg (c' := .lst (xs ++ [y])) (o := .lst (vs ++ [w])) e1 l2 ⟨_, upd_same, is.app (.cons E2.datum .nil)⟩).push_d .non)
theorem wp_extend {to te : TE} (h : Wp B to ρ fun t ρ1 => ∃ i, t = .at i ∧ (∃ xs, ρ1[i]? = some (.m (.lst xs))) ∧ WpD B te ρ1 fun y ρ2 => ∃ xs ys, y = .lst ys ∧ ρ2[i]? = some (.m (.lst xs)) ∧ xs.length + ys.length ≤ sizeLine ∧ k (.d .non) (ρ2.set i (.m (.lst (xs ++ ys))))) : Wp B (tBM B.K "list" rExtR to (tCons te tNil)) ρ k := fun F H σ τ θ E Q hq =>
  h F H σ τ θ E _ fun F1 H1 v t ρ1 h1 u1 E1 => by
  obtain ⟨i, rfl, ⟨xs0, e0⟩, h1⟩ := h1
  obtain ⟨l1, _⟩ := E1.last
  obtain ⟨a, ev, fa, ga, vs0, o1, _⟩ := E1.sl i _ _ e0 l1
  cases ev
  refine ⟨.inl ⟨rfl, vs0, SqL.of o1⟩, ?_⟩
  refine h1 F1 H1 σ _ _ E1 _ fun F2 H2 w y ρ2 h2 u2 E2 => ?_
  obtain ⟨xs, ys, rfl, e1, hl, h3⟩ := h2
  have E3 := E2.pop.pop
  have l2 : σ[i]? = some (some (V.ref a)) := l1
  obtain ⟨_, _, vs, o2, is⟩ := E3.slot_there e1 l2
  obtain ⟨b, ws, rfl, i2, r2⟩ := lst_of E2.pop E2.last (xs := ys) rfl
  refine ⟨a, b, vs, ws, rfl, rfl, o2, r2, by rw [is.len, i2.len]; exact hl, ?_⟩
  exact hq F2 _ .non _ _ h3 (u1.trans u2) ((E3.chg (c' := .lst (xs ++ ys)) (o := .lst (vs ++ ws)) e1 l2 ⟨_, upd_same, is.app i2⟩).push_d .non)
theorem wp_join {te : TE} {a : Str} (h : Wp B te ρ fun t ρ1 => ∃ ys, lv ρ1 t = some (Ls ys) ∧ (ys.map (·.length)).sum + ys.length * a.length ≤ 16777216 ∧ k (.d (.str (Txt.join a ys))) ρ1) : Wp B (tBM B.K "str" (qJoin B.K) (tC (.str a)) (tCons te tNil)) ρ k := fun F H σ τ θ E Q hq =>
  ⟨rfl, h F H σ τ θ E _ fun F1 H1 v t ρ1 h1 u1 E1 => by
  obtain ⟨ys, e, hl, h2⟩ := h1
  obtain ⟨p, vs, rfl, i1, r1⟩ := seq_of E1.pop E1.last e
  have e2 := IsAll.ls ys i1
  subst e2
  exact ⟨a, p, ys, rfl, rfl, r1, hl, hq F1 H1 _ _ ρ1 h2 u1 (E1.pop.push_d (.str _))⟩⟩
end
end Dl

set_option Elab.async false
set_option linter.all false
set_option maxRecDepth 100000
set_option maxHeartbeats 4000000
/-! Calls of own defs over symbolic frames. -/
namespace Dl
open PySem PySem.Spec PyProof.Rows L2 Rl RZ RT
open Evl (Ex)
/-- a def's promise: from its arguments to what it gives and what becomes of the owned ones -/
def Fn (K : Frag) (sp : Sp) (as : List T) (k : T → List T → Prop) : Prop :=
  ∀ F G H vs, Ev ⟨K, G, []⟩ F H [] vs [] as → ∀ Q : VK, (∀ F' H' v t as', k t as' → Up ⟨K, G, []⟩ F F' → Ev ⟨K, G, []⟩ F' H' [] (vs ++ [v]) [] (as' ++ [t]) → Q v H') → ∀ E, sp vs H Q E
theorem Fn.mono {K : Frag} {sp : Sp} {as : List T} {k k' : T → List T → Prop} (h : Fn K sp as k) (hk : ∀ t as', k t as' → k' t as') : Fn K sp as k' := fun F G H vs E Q q => h F G H vs E Q fun F' H' v t as' hh u E' => q F' H' v t as' (hk t as' hh) u E'
/-- how what is on the way is passed -/
inductive View (ρ : List S) : List T → List T → Prop
  | nil : View ρ [] []
  | d {x : D} {ts as : List T} : View ρ ts as → View ρ (.d x :: ts) (.d x :: as)
  | m {c : OC} {ts as : List T} : View ρ ts as → View ρ (.m c :: ts) (.m c :: as)
  | «at» {i : Nat} {c : OC} {ts as : List T} : ρ[i]? = some (.m c) → (∀ j : Nat, ts[j]? ≠ some (T.at i)) → View ρ ts as → View ρ (.at i :: ts) (.m c :: as)
/-- what is fresh becomes a datum -/
inductive Fz : List T → List T → Prop
  | nil : Fz [] []
  | same {t : T} {ts us : List T} : Fz ts us → Fz (t :: ts) (t :: us)
  | fz {c : OC} {ts us : List T} : Fz ts us → Fz (.m c :: ts) (.d c.toD :: us)
/-- the slots behind a call -/
def upR : List S → List T → List T → List S
  | ρ, .at i :: ts, .m c :: as => upR (ρ.set i (.m c)) ts as
  | ρ, _ :: ts, _ :: as => upR ρ ts as
  | ρ, _, _ => ρ
/-- the owned ones come back -/
def shp : List T → List T → Bool
  | [], [] => true
  | .at _ :: ts, .m _ :: as => shp ts as
  | .at _ :: _, _ :: _ => false
  | _ :: ts, _ :: as => shp ts as
  | _, _ => false
theorem shp_at : ∀ {ts as : List T} {j i : Nat}, shp ts as = true → ts[j]? = some (T.at i) → ∃ c, as[j]? = some (.m c)
  | [], _, _, _, _, h => by simp at h
  | _ :: _, [], _, _, h, _ => by simp [shp] at h
  | t :: ts, a :: as, 0, i, h, e => by
    simp at e
    subst e
    cases a with
    | m c => exact ⟨c, rfl⟩
    | d x => simp [shp] at h
    | «at» k => simp [shp] at h
  | t :: ts, a :: as, j + 1, i, h, e => by
    have h' : shp ts as = true := by
      cases t <;> cases a <;> simp [shp] at h <;> exact h
    simpa using shp_at (j := j) h' (by simpa using e)
theorem shp_len : ∀ {ts as : List T}, shp ts as = true → ts.length = as.length
  | [], [], _ => rfl
  | [], _ :: _, h => by simp [shp] at h
  | _ :: _, [], h => by simp [shp] at h
  | t :: ts, a :: as, h => by
    have h' : shp ts as = true := by
      cases t <;> cases a <;> simp [shp] at h <;> exact h
    simp [shp_len h']
theorem upR_len : ∀ (ρ : List S) (ts as : List T), (upR ρ ts as).length = ρ.length
  | ρ, [], _ => by simp [upR]
  | ρ, t :: ts, [] => by cases t <;> simp [upR]
  | ρ, t :: ts, a :: as => by
    cases t <;> cases a <;> simp only [upR] <;> rw [upR_len] <;> simp
theorem upR_m {i : Nat} : ∀ {ρ : List S} {ts as : List T}, (∃ c, ρ[i]? = some (.m c)) → ∃ c, (upR ρ ts as)[i]? = some (.m c)
  | ρ, [], _, h => by simpa [upR] using h
  | ρ, t :: ts, [], h => by cases t <;> simpa [upR] using h
  | ρ, t :: ts, a :: as, h => by
    have key : ∀ (c' : OC) (k : Nat), ∃ c, (ρ.set k (.m c'))[i]? = some (.m c) := fun c' k => by
      obtain ⟨c, h⟩ := h
      by_cases e : k = i
      · subst e; exact ⟨c', List.getElem?_set_self (List.getElem?_eq_some_iff.mp h).1⟩
      · exact ⟨c, by rw [List.getElem?_set_ne e]; exact h⟩
    cases t <;> cases a <;> simp only [upR] <;> first | exact upR_m h | exact upR_m (key _ _)
theorem upR_get {i : Nat} {s : S} : ∀ {ρ : List S} {ts as : List T}, (∀ j j' : Nat, ts[j]? = some (T.at i) → ts[j']? = some (T.at i) → j = j') → (upR ρ ts as)[i]? = some s → (∃ (j : Nat) (c : OC), ts[j]? = some (T.at i) ∧ as[j]? = some (.m c) ∧ s = .m c) ∨ ρ[i]? = some s
  | ρ, [], _, _, h => .inr (by simpa [upR] using h)
  | ρ, t :: ts, [], _, h => .inr (by cases t <;> simpa [upR] using h)
  | ρ, t :: ts, a :: as, dj, h => by
    have dj' : ∀ j j' : Nat, ts[j]? = some (T.at i) → ts[j']? = some (T.at i) → j = j' := fun j j' h1 h2 => by
      have := dj (j + 1) (j' + 1) (by simpa using h1) (by simpa using h2)
      omega
    have lift : ∀ {ρ' : List S}, (upR ρ' ts as)[i]? = some s → (∃ (j : Nat) (c : OC), (t :: ts)[j]? = some (T.at i) ∧ (a :: as)[j]? = some (.m c) ∧ s = .m c) ∨ ρ'[i]? = some s := fun {ρ'} q => by
      rcases upR_get dj' q with ⟨j, c, q1, q2, q3⟩ | q
      · exact .inl ⟨j + 1, c, by simpa using q1, by simpa using q2, q3⟩
      · exact .inr q
    cases t with
    | d x => exact lift (by cases a <;> simpa [upR] using h)
    | m c => exact lift (by cases a <;> simpa [upR] using h)
    | «at» k =>
      cases a with
      | d x => exact lift (by simpa [upR] using h)
      | «at» l => exact lift (by simpa [upR] using h)
      | m c =>
        have h' : (upR (ρ.set k (.m c)) ts as)[i]? = some s := by simpa [upR] using h
        rcases lift h' with q | q
        · exact .inl q
        · rcases setE q with ⟨q1, q2⟩ | ⟨q1, q2⟩
          · subst q1; exact .inl ⟨0, c, rfl, rfl, q2.symm⟩
          · exact .inr q2
theorem upR_set {i : Nat} {c : OC} : ∀ {ts as' : List T} {ρ : List S} {j : Nat} {c3 : OC}, ρ[i]? = some (.m c3) → (∀ j j' : Nat, ts[j]? = some (T.at i) → ts[j']? = some (T.at i) → j = j') → ts[j]? = some (T.at i) → as'[j]? = some (.m c) → (upR ρ ts as')[i]? = some (.m c) := by
  intro ts
  induction ts with
  | nil => intro as' ρ j c3 _ _ h; simp at h
  | cons t ts ih =>
    intro as' ρ j c3 hr dj h1 h2
    cases as' with
    | nil => simp at h2
    | cons a as' =>
      have dj' : ∀ j j' : Nat, ts[j]? = some (T.at i) → ts[j']? = some (T.at i) → j = j' := fun j j' h1 h2 => by
        have := dj (j + 1) (j' + 1) (by simpa using h1) (by simpa using h2)
        omega
      cases j with
      | zero =>
        simp at h1 h2
        subst h1 h2
        show (upR (ρ.set i (.m c)) ts as')[i]? = _
        have no : ∀ j : Nat, ts[j]? ≠ some (T.at i) := fun j h => by
          have := dj 0 (j + 1) rfl (by simpa using h)
          omega
        have z2 : ∃ x, (upR (ρ.set i (.m c)) ts as')[i]? = some x := ⟨_, List.getElem?_eq_getElem (by rw [upR_len, List.length_set]; exact (List.getElem?_eq_some_iff.mp hr).1)⟩
        obtain ⟨x, z2⟩ := z2
        rcases upR_get dj' z2 with ⟨j, _, q, _⟩ | q
        · exact (no j q).elim
        · rw [List.getElem?_set_self (List.getElem?_eq_some_iff.mp hr).1] at q
          cases q; exact z2
      | succ j =>
        simp at h1 h2
        have setm : ∀ (k : Nat) (c' : OC), ∃ c3, (ρ.set k (.m c'))[i]? = some (.m c3) := fun k c' => by
          by_cases e : k = i
          · subst e; exact ⟨c', List.getElem?_set_self (List.getElem?_eq_some_iff.mp hr).1⟩
          · exact ⟨c3, by rw [List.getElem?_set_ne e]; exact hr⟩
        cases t <;> cases a <;> simp only [upR] <;> first | exact ih hr dj' h1 h2 | (obtain ⟨c4, z⟩ := setm _ _; exact ih z dj' h1 h2)
theorem View.len {ρ : List S} : ∀ {ts as : List T}, View ρ ts as → ts.length = as.length
  | _, _, .nil => rfl
  | _, _, .d h => by simp [View.len h]
  | _, _, .m h => by simp [View.len h]
  | _, _, .at _ _ h => by simp [View.len h]
theorem View.uniq {ρ : List S} {i : Nat} : ∀ {ts as : List T}, View ρ ts as → ∀ j j' : Nat, ts[j]? = some (T.at i) → ts[j']? = some (T.at i) → j = j'
  | _, _, .nil, j, _, h, _ => by simp at h
  | _, _, .d h, j, j', h1, h2 => by
    cases j <;> cases j' <;> simp at h1 h2
    rw [View.uniq h _ _ h1 h2]
  | _, _, .m h, j, j', h1, h2 => by
    cases j <;> cases j' <;> simp at h1 h2
    rw [View.uniq h _ _ h1 h2]
  | _, _, .at e n h, j, j', h1, h2 => by
    cases j with
    | zero =>
      cases j' with
      | zero => rfl
      | succ j' => simp at h1 h2; subst h1; exact (n j' h2).elim
    | succ j =>
      cases j' with
      | zero => simp at h1 h2; subst h2; exact (n j h1).elim
      | succ j' => simp at h1 h2; rw [View.uniq h _ _ h1 h2]
/-- the shape of one argument -/
theorem View.get {ρ : List S} {j : Nat} {a : T} : ∀ {ts as : List T}, View ρ ts as → as[j]? = some a → (∃ x, a = .d x ∧ ts[j]? = some (.d x)) ∨ (∃ c, a = .m c ∧ ts[j]? = some (.m c)) ∨ ∃ c i, a = .m c ∧ ts[j]? = some (T.at i) ∧ ρ[i]? = some (.m c)
  | _, _, .nil, h => by simp at h
  | _, _, .d (x := x) g, h => by
    cases j with
    | zero => simp at h; subst h; exact .inl ⟨x, rfl, rfl⟩
    | succ j => simpa using View.get (j := j) g (by simpa using h)
  | _, _, .m (c := c) g, h => by
    cases j with
    | zero => simp at h; subst h; exact .inr (.inl ⟨c, rfl, rfl⟩)
    | succ j => simpa using View.get (j := j) g (by simpa using h)
  | _, _, .at (i := i) (c := c) e n g, h => by
    cases j with
    | zero => simp at h; subst h; exact .inr (.inr ⟨c, i, rfl, rfl, e⟩)
    | succ j => simpa using View.get (j := j) g (by simpa using h)
section
variable {B : Fix} {F H F' H' : Hp} {σ : L2.St} {τ vs : List V} {ρ : List S} {θ ts us as : List T}
theorem Ev.frz_at {j : Nat} {c : OC} (E : Ev B F H σ τ ρ θ) (hj : θ[j]? = some (.m c)) : ∃ F', Up B F F' ∧ Ev B F' H σ τ ρ (θ.set j (.d c.toD)) := by
  have jl := (List.getElem?_eq_some_iff.mp hj).1
  obtain ⟨v, hv⟩ : ∃ v, τ[j]? = some v := ⟨_, List.getElem?_eq_getElem (by rw [E.lt]; exact jl)⟩
  obtain ⟨a, ev, fa, ga, oc⟩ := E.tp j _ _ hj hv
  subst ev
  obtain ⟨o, ho, is⟩ := oc.toIs fa
  have ex : Ex F (upd F a o) := Ex.new fa
  have fh : Ex (upd F a o) H := fun b u q => by
    by_cases e : b = a
    · subst e; rw [upd_same] at q; cases q; exact ho
    · rw [upd_ne e] at q; exact E.fh b u q
  have key : ∀ {b : Addr} {d : OC}, b ≠ a → F b = none → OCat B.K F H b d → (upd F a o) b = none ∧ OCat B.K (upd F a o) H b d := fun {b d} n f q => ⟨by rw [upd_ne n]; exact f, q.mono ex fun _ z => z⟩
  refine ⟨upd F a o, ⟨ex, fun b u hb n => by rw [upd_ne (ne_of_none hb ga)]; exact n⟩, ?_⟩
  refine { g := E.g, fh := fh, ls := E.ls, lt := by rw [List.length_set]; exact E.lt, sl := fun i s w q1 q2 => ?_, tp := fun i t w q1 q2 => ?_, ss := E.ss, st := fun i k c1 c2 b q1 q2 q3 q4 => ?_, tt := fun i k c1 c2 b q1 q2 q3 q4 => ?_, pn := E.pn }
  · have z := E.sl i s w q1 q2
    cases s with
    | u => trivial
    | d x => obtain ⟨w, e, z⟩ := z; exact ⟨w, e, z.up ex⟩
    | m d =>
      obtain ⟨b, e, z1, z2, z3⟩ := z
      subst e
      have n : b ≠ a := fun e => by subst e; exact E.st i j d c b q1 hj q2 hv
      exact ⟨b, rfl, (key n z1 z3).1, z2, (key n z1 z3).2⟩
  · rcases setE q1 with ⟨e1, e2⟩ | ⟨e1, e2⟩
    · subst e1 e2
      rw [hv] at q2; cases q2
      exact is
    · have z := E.tp i t w e2 q2
      cases t with
      | d x => exact z.up ex
      | m d =>
        obtain ⟨b, e, z1, z2, z3⟩ := z
        subst e
        have n : b ≠ a := fun e => by subst e; exact e1 (E.tt i j d c b e2 hj q2 hv)
        exact ⟨b, rfl, (key n z1 z3).1, z2, (key n z1 z3).2⟩
      | «at» k => exact z
  · rcases setE q2 with ⟨_, e2⟩ | ⟨_, e2⟩
    · cases e2
    · exact E.st i k c1 c2 b q1 e2 q3 q4
  · rcases setE q1 with ⟨_, e1⟩ | ⟨_, e1⟩
    · cases e1
    rcases setE q2 with ⟨_, e2⟩ | ⟨_, e2⟩
    · cases e2
    exact E.tt i k c1 c2 b e1 e2 q3 q4
theorem Ev.fz : ∀ {ts us : List T} {θ : List T} {F : Hp}, Fz ts us → Ev B F H σ τ ρ (θ ++ ts) → ∃ F', Up B F F' ∧ Ev B F' H σ τ ρ (θ ++ us)
  | _, _, _, F, .nil, E => ⟨F, Up.refl, E⟩
  | _, _, θ, F, .same (t := t) (ts := ts) (us := us) h, E => by
    obtain ⟨F', u, E'⟩ := Ev.fz (θ := θ ++ [t]) h (by simpa using E)
    exact ⟨F', u, by simpa using E'⟩
  | _, _, θ, F, .fz (c := c) (ts := ts) (us := us) h, E => by
    obtain ⟨F1, u1, E1⟩ := E.frz_at (j := θ.length) (c := c) (by simp)
    have e : (θ ++ T.m c :: ts).set θ.length (.d c.toD) = (θ ++ [T.d c.toD]) ++ ts := by simp
    rw [e] at E1
    obtain ⟨F', u, E'⟩ := Ev.fz (θ := θ ++ [.d c.toD]) h E1
    exact ⟨F', u1.trans u, by simpa using E'⟩
open Classical in
/-- what a callee must leave as it is -/
noncomputable def around (H : Hp) (vs : List V) (as : List T) : Hp := fun a => if ∃ (j : Nat) (c : OC), as[j]? = some (.m c) ∧ vs[j]? = some (.ref a) then none else H a
theorem around_own {a : Addr} {j : Nat} {c : OC} (h1 : as[j]? = some (.m c)) (h2 : vs[j]? = some (.ref a)) : around H vs as a = none := by
  unfold around
  rw [if_pos ⟨j, c, h1, h2⟩]
theorem around_not {a : Addr} (h : ∀ (j : Nat) (c : OC), as[j]? = some (.m c) → vs[j]? = some (.ref a) → False) : around H vs as a = H a := by
  unfold around
  rw [if_neg fun ⟨j, c, h1, h2⟩ => h j c h1 h2]
theorem around_ex : Ex (around H vs as) H := fun a o h => by
  unfold around at h
  split at h
  · cases h
  · exact h
theorem getA {α : Type} {l m : List α} {j : Nat} : (l ++ m)[l.length + j]? = m[j]? := by
  rw [List.getElem?_append_right (by omega)]
  congr 1
  omega
theorem call_in (E : Ev B F H σ (τ ++ vs) ρ (θ ++ ts)) (hl : vs.length = ts.length) (w : View ρ ts as) : Ev ⟨B.K, around H vs as, []⟩ F H [] vs [] as := by
  have E0 := E.pops hl
  have lt := E0.lt
  have tv : ∀ {j : Nat} {v : V}, vs[j]? = some v → (τ ++ vs)[θ.length + j]? = some v := fun {j v} h => by rw [← lt, getA]; exact h
  have tt' : ∀ {j : Nat} {t : T}, ts[j]? = some t → (θ ++ ts)[θ.length + j]? = some t := fun {j t} h => by rw [getA]; exact h
  refine { g := around_ex, fh := E.fh, ls := rfl, lt := by rw [hl, w.len], sl := fun i s o h => by simp at h, tp := fun j a v h1 h2 => ?_, ss := fun i j c c' a h => by simp at h, st := fun i j c c' a h => by simp at h, tt := fun i j c c' a h1 h2 h3 h4 => ?_, pn := fun p hp => by cases hp }
  · rcases w.get h1 with ⟨x, rfl, e⟩ | ⟨c, rfl, e⟩ | ⟨c, i, rfl, e, er⟩
    · exact E.tp _ _ _ (tt' e) (tv h2)
    · obtain ⟨b, ev, q1, _, q3⟩ := E.tp _ _ _ (tt' e) (tv h2)
      subst ev
      exact ⟨b, rfl, q1, around_own h1 h2, q3⟩
    · obtain ⟨q0, _⟩ := E.tp _ _ _ (tt' e) (tv h2)
      obtain ⟨b, ev, q1, _, q3⟩ := E.sl i _ _ er q0
      cases ev
      exact ⟨b, rfl, q1, around_own h1 h2, q3⟩
  · rcases w.get h1 with ⟨x, e0, e⟩ | ⟨c1, e0, e⟩ | ⟨c1, k, e0, e, er⟩
    · cases e0
    · rcases w.get h2 with ⟨x, f0, f⟩ | ⟨c2, f0, f⟩ | ⟨c2, l, f0, f, fr⟩
      · cases f0
      · have := E.tt _ _ _ _ a (tt' e) (tt' f) (tv h3) (tv h4)
        omega
      · obtain ⟨q0, _⟩ := E.tp _ _ _ (tt' f) (tv h4)
        exact (E.st l _ _ _ a fr (tt' e) q0 (tv h3)).elim
    · rcases w.get h2 with ⟨x, f0, f⟩ | ⟨c2, f0, f⟩ | ⟨c2, l, f0, f, fr⟩
      · cases f0
      · obtain ⟨q0, _⟩ := E.tp _ _ _ (tt' e) (tv h3)
        exact (E.st k _ _ _ a er (tt' f) q0 (tv h4)).elim
      · obtain ⟨q0, _⟩ := E.tp _ _ _ (tt' e) (tv h3)
        obtain ⟨q1, _⟩ := E.tp _ _ _ (tt' f) (tv h4)
        have ek := E.ss k l _ _ a er fr q0 q1
        subst ek
        exact w.uniq i j e f
theorem call_out {v : V} {t : T} {as' : List T} (E : Ev B F H σ (τ ++ vs) ρ (θ ++ ts)) (hl : vs.length = ts.length) (w : View ρ ts as) (hs : shp ts as' = true) (u : Up ⟨B.K, around H vs as, []⟩ F F') (E1 : Ev ⟨B.K, around H vs as, []⟩ F' H' [] (vs ++ [v]) [] (as' ++ [t])) :
    Up B F F' ∧ Ev B F' H' σ (τ ++ [v]) (upR ρ ts as') (θ ++ [t]) := by
  have E0 := E.pops hl
  have lt := E0.lt
  have E2 := E1.pop
  have tv : ∀ {j : Nat} {v : V}, vs[j]? = some v → (τ ++ vs)[θ.length + j]? = some v := fun {j v} h => by rw [← lt, getA]; exact h
  have tt' : ∀ {j : Nat} {t : T}, ts[j]? = some t → (θ ++ ts)[θ.length + j]? = some t := fun {j t} h => by rw [getA]; exact h
  -- owned arguments are nothing of the surroundings
  have ownG : ∀ {a : Addr} {j : Nat} {c : OC}, as[j]? = some (.m c) → vs[j]? = some (.ref a) → B.G a = none := fun {a j c} h1 h2 => by
    rcases w.get h1 with ⟨x, e0, e⟩ | ⟨c1, e0, e⟩ | ⟨c1, k, e0, e, er⟩
    · cases e0
    · exact (E.tmp_there (tt' e) (tv h2)).2.1
    · obtain ⟨q0, _⟩ := E.tp _ _ _ (tt' e) (tv h2)
      exact (E.slot_there er q0).2.1
  have inG : ∀ {a : Addr} {o : HO}, B.G a = some o → around H vs as a = some o := fun {a o} h => by
    rw [around_not fun j c h1 h2 => by rw [ownG h1 h2] at h; cases h]
    exact E.g a o h
  -- a slot that is not passed, a temporary that stays
  have slotN : ∀ {i : Nat} {c : OC} {b : Addr}, ρ[i]? = some (.m c) → (∀ j : Nat, ts[j]? ≠ some (T.at i)) → σ[i]? = some (some (.ref b)) → ∀ (j : Nat) (c : OC), as[j]? = some (.m c) → vs[j]? = some (.ref b) → False := fun {i c b} h0 hn h1 j c' h2 h3 => by
    rcases w.get h2 with ⟨x, e0, e⟩ | ⟨c1, e0, e⟩ | ⟨c1, k, e0, e, er⟩
    · cases e0
    · exact E.st i _ _ _ b h0 (tt' e) h1 (tv h3)
    · obtain ⟨q0, _⟩ := E.tp _ _ _ (tt' e) (tv h3)
      have ek := E.ss i k _ _ b h0 er h1 q0
      subst ek
      exact hn j e
  have tmpN : ∀ {i : Nat} {c : OC} {b : Addr}, θ[i]? = some (.m c) → τ[i]? = some (.ref b) → ∀ (j : Nat) (c : OC), as[j]? = some (.m c) → vs[j]? = some (.ref b) → False := fun {i c b} h0 h1 j c' h2 h3 => by
    have hi := (List.getElem?_eq_some_iff.mp h0).1
    have g0 : (θ ++ ts)[i]? = some (.m c) := by rw [List.getElem?_append_left hi]; exact h0
    have g1 : (τ ++ vs)[i]? = some (.ref b) := by rw [List.getElem?_append_left (by omega)]; exact h1
    rcases w.get h2 with ⟨x, e0, e⟩ | ⟨c1, e0, e⟩ | ⟨c1, k, e0, e, er⟩
    · cases e0
    · have := E.tt _ _ _ _ b g0 (tt' e) g1 (tv h3)
      omega
    · obtain ⟨q0, _⟩ := E.tp _ _ _ (tt' e) (tv h3)
      exact E.st k _ _ _ b er g0 q0 g1
  have stay : ∀ {b : Addr} {c : OC}, F b = none → OCat B.K F H b c → (∀ (j : Nat) (c : OC), as[j]? = some (.m c) → vs[j]? = some (.ref b) → False) → F' b = none ∧ OCat B.K F' H' b c := fun {b c} h1 h2 hn => by
    obtain ⟨o, ho⟩ := h2.there
    have e : around H vs as b = some o := by rw [around_not hn]; exact ho
    exact ⟨u.gn b o e h1, h2.mono u.ex fun o' z => by rw [ho] at z; cases z; exact E1.g b o e⟩
  have UB : Up B F F' := ⟨u.ex, fun a o h n => u.gn a o (inG h) n⟩
  have Em : Ev B F' H' σ τ (upR ρ ts as') θ := by
    refine { g := fun a o h => E1.g a o (inG h), fh := E1.fh, ls := by rw [upR_len]; exact E0.ls, lt := E0.lt, sl := fun i s o h1 h2 => ?_, tp := fun i r x h1 h2 => ?_, ss := fun i j c c' a h1 h2 h3 h4 => ?_, st := fun i j c c' a h1 h2 h3 h4 => ?_, tt := E0.tt, pn := fun p hp => ⟨(E0.pn p hp).1, upR_m (E0.pn p hp).2⟩ }
    · by_cases hi : ∃ j : Nat, ts[j]? = some (T.at i)
      · rcases upR_get (fun j j' => w.uniq j j') h1 with ⟨j, c, e1, e2, rfl⟩ | e
        · obtain ⟨vj, hv⟩ : ∃ v, vs[j]? = some v := ⟨_, List.getElem?_eq_getElem (by rw [hl]; exact (List.getElem?_eq_some_iff.mp e1).1)⟩
          obtain ⟨q0, c0, q1⟩ := E.tp _ _ _ (tt' e1) (tv hv)
          obtain ⟨b, ev, z1, z2, z3⟩ := E2.tp j _ _ e2 hv
          subst ev
          rw [q0] at h2; cases h2
          exact ⟨b, rfl, z1, (E.slot_there q1 q0).2.1, z3⟩
        · obtain ⟨j, hj⟩ := hi
          obtain ⟨c, hc⟩ := shp_at hs hj
          -- then the slot is set, so it holds what came back
          obtain ⟨vj, hv⟩ : ∃ v, vs[j]? = some v := ⟨_, List.getElem?_eq_getElem (by rw [hl]; exact (List.getElem?_eq_some_iff.mp hj).1)⟩
          obtain ⟨q0, c0, q1⟩ := E.tp _ _ _ (tt' hj) (tv hv)
          obtain ⟨b, ev, z1, z2, z3⟩ := E2.tp j _ _ hc hv
          subst ev
          rw [q0] at h2; cases h2
          have sv : s = .m c := by
            have := upR_set (ts := ts) (as' := as') q1 (fun j j' => w.uniq j j') hj hc
            rw [this] at h1
            cases h1; rfl
          subst sv
          exact ⟨b, rfl, z1, (E.slot_there q1 q0).2.1, z3⟩
      · have hn : ∀ j : Nat, ts[j]? ≠ some (T.at i) := fun j h => hi ⟨j, h⟩
        rcases upR_get (fun j j' => w.uniq j j') h1 with ⟨j, c, e1, _⟩ | e
        · exact (hn j e1).elim
        · have z := E.sl i s o e h2
          cases s with
          | u => trivial
          | d x => obtain ⟨x, ex, z⟩ := z; exact ⟨x, ex, z.up u.ex⟩
          | m c =>
            obtain ⟨b, eb, z1, z2, z3⟩ := z
            subst eb
            have q := stay z1 z3 (slotN e hn h2)
            exact ⟨b, rfl, q.1, z2, q.2⟩
    · have z := E0.tp i r x h1 h2
      cases r with
      | d y => exact z.up u.ex
      | m c =>
        obtain ⟨b, eb, z1, z2, z3⟩ := z
        subst eb
        have q := stay z1 z3 (tmpN h1 h2)
        exact ⟨b, rfl, q.1, z2, q.2⟩
      | «at» k => exact ⟨z.1, upR_m z.2⟩
    · have back : ∀ {i : Nat} {c : OC}, (upR ρ ts as')[i]? = some (.m c) → ∃ c, ρ[i]? = some (.m c) := fun {i c} h => by
        rcases upR_get (fun j j' => w.uniq j j') h with ⟨j, c1, e1, e2, e3⟩ | e
        · obtain ⟨vj, hv⟩ : ∃ v, vs[j]? = some v := ⟨_, List.getElem?_eq_getElem (by rw [hl]; exact (List.getElem?_eq_some_iff.mp e1).1)⟩
          exact (E.tp _ _ _ (tt' e1) (tv hv)).2
        · exact ⟨c, e⟩
      obtain ⟨d1, q1⟩ := back h1
      obtain ⟨d2, q2⟩ := back h2
      exact E0.ss i j d1 d2 a q1 q2 h3 h4
    · have back : ∀ {i : Nat} {c : OC}, (upR ρ ts as')[i]? = some (.m c) → ∃ c, ρ[i]? = some (.m c) := fun {i c} h => by
        rcases upR_get (fun j j' => w.uniq j j') h with ⟨j, c1, e1, e2, e3⟩ | e
        · obtain ⟨vj, hv⟩ : ∃ v, vs[j]? = some v := ⟨_, List.getElem?_eq_getElem (by rw [hl]; exact (List.getElem?_eq_some_iff.mp e1).1)⟩
          exact (E.tp _ _ _ (tt' e1) (tv hv)).2
        · exact ⟨c, e⟩
      obtain ⟨d1, q1⟩ := back h1
      exact E0.st i j d1 c' a q1 h2 h3 h4
  refine ⟨UB, Em.push ?_ (fun i c c' a et ev h1 h2 => ?_) fun i c c' a et ev h1 h2 => ?_⟩
  · have z := E1.last
    cases t with
    | d x => exact z
    | m c =>
      obtain ⟨a, ev, z1, z2, z3⟩ := z
      refine ⟨a, ev, z1, ?_, z3⟩
      cases q : B.G a with
      | none => rfl
      | some o => exact absurd ((inG q).symm.trans z2) (by simp)
    | «at» k => exact absurd z.1 (by simp)
  · subst et ev
    obtain ⟨a', ev', z1, z2, z3⟩ := E1.last
    cases ev'
    -- a slot's address stands; either it is passed, then it is no fresh one; or it is around
    by_cases hi : ∃ j : Nat, ts[j]? = some (T.at i)
    · obtain ⟨j, hj⟩ := hi
      obtain ⟨c2, hc⟩ := shp_at hs hj
      obtain ⟨vj, hv⟩ : ∃ v, vs[j]? = some v := ⟨_, List.getElem?_eq_getElem (by rw [hl]; exact (List.getElem?_eq_some_iff.mp hj).1)⟩
      obtain ⟨q0, _⟩ := E.tp _ _ _ (tt' hj) (tv hv)
      rw [h2] at q0; cases q0
      have la := E2.lt
      have hjl := (List.getElem?_eq_some_iff.mp hc).1
      have := E1.tt j as'.length c2 c' a (by rw [List.getElem?_append_left hjl]; exact hc) (by simp) (by rw [List.getElem?_append_left (by omega)]; exact hv) (by rw [← la]; simp)
      omega
    · have hn : ∀ j : Nat, ts[j]? ≠ some (T.at i) := fun j h => hi ⟨j, h⟩
      rcases upR_get (fun j j' => w.uniq j j') h1 with ⟨j, c1, e1, _⟩ | e
      · exact hn j e1
      · obtain ⟨_, _, q⟩ := E.slot_there e h2
        obtain ⟨o, ho⟩ := q.there
        have z4 : around H vs as a = H a := around_not (slotN e hn h2)
        exact absurd (ho.symm.trans (z4.symm.trans z2)) (by simp)
  · subst et ev
    obtain ⟨a', ev', z1, z2, z3⟩ := E1.last
    cases ev'
    obtain ⟨_, _, q⟩ := E0.tmp_there h1 h2
    obtain ⟨o, ho⟩ := q.there
    have z4 : around H vs as a = H a := around_not (tmpN h1 h2)
    exact absurd (ho.symm.trans (z4.symm.trans z2)) (by simp)
end
end Dl

set_option Elab.async false
set_option linter.all false
set_option maxRecDepth 100000
set_option maxHeartbeats 4000000
/-! Calls over symbolic frames. -/
namespace Dl
open PySem PySem.Spec PyProof.Rows L2 Rl RZ RT
open Evl (Ex)
section
variable {B : Fix} {F H F' H' : Hp} {σ : L2.St} {τ vs : List V} {ρ : List S} {θ ts us as : List T} {k : T → List S → Prop}
/-- some of the temporaries, in another order -/
theorem Ev.sel (E : Ev B F H σ (τ ++ vs) ρ (θ ++ ts)) (hl : vs.length = ts.length) (π : List Nat) (hn : π.Nodup) (hb : ∀ i ∈ π, i < ts.length) (ws : List V) (ss : List T) (hws : ws = π.map fun i => vs.getD i V.non) (hss : ss = π.map fun i => ts.getD i (.d .non)) : Ev B F H σ (τ ++ ws) ρ (θ ++ ss) := by
  have E0 := E.pops hl
  have lt := E0.lt
  have lw : ws.length = π.length := by rw [hws]; simp
  have lss : ss.length = π.length := by rw [hss]; simp
  -- where an index of the new comes from
  have gv : ∀ {i : Nat} {v : V}, (τ ++ ws)[i]? = some v → (i < θ.length ∧ (τ ++ vs)[i]? = some v) ∨ ∃ j p : Nat, i = θ.length + j ∧ π[j]? = some p ∧ (τ ++ vs)[θ.length + p]? = some v := fun {i v} h => by
    by_cases hi : i < τ.length
    · rw [List.getElem?_append_left hi] at h
      exact .inl ⟨by omega, by rw [List.getElem?_append_left hi]; exact h⟩
    · rw [List.getElem?_append_right (by omega), hws, List.getElem?_map] at h
      obtain ⟨p, hp, e⟩ := Option.map_eq_some_iff.mp h
      have hb' := hb p (List.mem_of_getElem? hp)
      refine .inr ⟨i - τ.length, p, by omega, hp, ?_⟩
      rw [← lt, List.getElem?_append_right (by omega), show τ.length + p - τ.length = p by omega, ← e, List.getD_eq_getElem?_getD, List.getElem?_eq_getElem (by omega)]
      rfl
  have gt : ∀ {i : Nat} {t : T}, (θ ++ ss)[i]? = some t → (i < θ.length ∧ (θ ++ ts)[i]? = some t) ∨ ∃ j p : Nat, i = θ.length + j ∧ π[j]? = some p ∧ (θ ++ ts)[θ.length + p]? = some t := fun {i t} h => by
    by_cases hi : i < θ.length
    · rw [List.getElem?_append_left hi] at h
      exact .inl ⟨hi, by rw [List.getElem?_append_left hi]; exact h⟩
    · rw [List.getElem?_append_right (by omega), hss, List.getElem?_map] at h
      obtain ⟨p, hp, e⟩ := Option.map_eq_some_iff.mp h
      have hb' := hb p (List.mem_of_getElem? hp)
      refine .inr ⟨i - θ.length, p, by omega, hp, ?_⟩
      rw [List.getElem?_append_right (by omega), show θ.length + p - θ.length = p by omega, ← e, List.getD_eq_getElem?_getD, List.getElem?_eq_getElem hb']
      rfl
  -- one index for value and shape
  have both : ∀ {i : Nat} {v : V} {t : T}, (θ ++ ss)[i]? = some t → (τ ++ ws)[i]? = some v → ∃ q : Nat, (θ ++ ts)[q]? = some t ∧ (τ ++ vs)[q]? = some v ∧ ((i < θ.length ∧ q = i) ∨ ∃ j p : Nat, i = θ.length + j ∧ π[j]? = some p ∧ q = θ.length + p) := fun {i v t} h1 h2 => by
    rcases gt h1 with ⟨a1, a2⟩ | ⟨j, p, a1, a2, a3⟩ <;> rcases gv h2 with ⟨b1, b2⟩ | ⟨j', p', b1, b2, b3⟩
    · exact ⟨i, a2, b2, .inl ⟨a1, rfl⟩⟩
    · omega
    · omega
    · have ej : j = j' := by omega
      subst ej
      rw [a2] at b2; cases b2
      exact ⟨_, a3, b3, .inr ⟨j, p, a1, a2, rfl⟩⟩
  refine { g := E.g, fh := E.fh, ls := E.ls, lt := by rw [List.length_append, List.length_append, lw, lss, lt], sl := E.sl, tp := fun i t v h1 h2 => ?_, ss := E.ss, st := fun i j c c' a h1 h2 h3 h4 => ?_, tt := fun i j c c' a h1 h2 h3 h4 => ?_, pn := E.pn }
  · obtain ⟨q, q1, q2, _⟩ := both h1 h2
    exact E.tp q t v q1 q2
  · obtain ⟨q, q1, q2, _⟩ := both h2 h4
    exact E.st i q c c' a h1 q1 h3 q2
  · obtain ⟨q, q1, q2, q3⟩ := both h1 h3
    obtain ⟨r, r1, r2, r3⟩ := both h2 h4
    have e := E.tt q r c c' a q1 r1 q2 r2
    rcases q3 with ⟨q3, q4⟩ | ⟨j1, p1, q3, q4, q5⟩ <;> rcases r3 with ⟨r3, r4⟩ | ⟨j2, p2, r3, r4, r5⟩
    · omega
    · omega
    · omega
    · have ep : p1 = p2 := by omega
      subst ep
      have ej : j1 = j2 := by
        have h1' := (List.getElem?_eq_some_iff.mp q4).1
        exact (List.getElem?_inj h1' hn).mp (by rw [q4, r4])
      omega
/-- arguments by place and by name -/
def WpC (B : Fix) (tc : TC) (ρ : List S) (k : List T → List T → List S → Prop) : Prop := ∀ F H σ τ θ, Ev B F H σ τ ρ θ → ∀ R : List V → List V → Hp → Prop, (∀ F' H' vs zs ts us ρ', k ts us ρ' → Up B F F' → Ev B F' H' σ (τ ++ (vs ++ zs)) ρ' (θ ++ (ts ++ us)) → vs.length = ts.length → zs.length = us.length → R vs zs H') → tc σ H R
theorem wpc_p {ta : TA} {kc : List T → List T → List S → Prop} (h : WpA B ta ρ fun ts ρ1 => kc ts [] ρ1) : WpC B (tcP ta) ρ kc := fun F H σ τ θ E R q => h F H σ τ θ E _ fun F' H' vs ts ρ' hk u E' hl => q F' H' vs [] ts [] ρ' hk u (by simpa using E') hl rfl
theorem wpc_k {ta : TA} {kc : List T → List T → List S → Prop} (h : WpA B ta ρ fun ts ρ1 => kc [] ts ρ1) : WpC B (tcK ta) ρ kc := fun F H σ τ θ E R q => h F H σ τ θ E _ fun F' H' vs ts ρ' hk u E' hl => q F' H' [] vs [] ts ρ' hk u (by simpa using E') rfl hl
theorem wpc_pk {ta tk : TA} {kc : List T → List T → List S → Prop} (h : WpA B ta ρ fun ts ρ1 => WpA B tk ρ1 fun us ρ2 => kc ts us ρ2) : WpC B (tcPK ta tk) ρ kc := fun F H σ τ θ E R q => h F H σ τ θ E _ fun F1 H1 vs ts ρ1 h1 u1 E1 hl => h1 F1 H1 σ _ _ E1 _ fun F2 H2 zs us ρ2 h2 u2 E2 hl2 =>
  q F2 H2 vs zs ts us ρ2 h2 (u1.trans u2) (by simpa using E2) hl hl2
/-- a call of an own def at arguments -/
def CallOk (K : Frag) (sp : Sp) (ts : List T) (ρ : List S) (k : T → List S → Prop) : Prop := ∃ us as, Fz ts us ∧ View ρ us as ∧ Fn K sp as fun t as' => shp us as' = true ∧ k t (upR ρ us as')
theorem Fz.len : ∀ {ts us : List T}, Fz ts us → ts.length = us.length
  | _, _, .nil => rfl
  | _, _, .same h => by simp [Fz.len h]
  | _, _, .fz h => by simp [Fz.len h]
theorem call_ok {sp : Sp} {Ex : XK} (E : Ev B F H σ (τ ++ vs) ρ (θ ++ ts)) (hl : vs.length = ts.length) (c : CallOk B.K sp ts ρ k) (Q : VK) (q : ∀ F' H' v t ρ', k t ρ' → Up B F F' → Ev B F' H' σ (τ ++ [v]) ρ' (θ ++ [t]) → Q v H') : sp vs H Q Ex := by
  obtain ⟨us, as, fz, vw, fn⟩ := c
  obtain ⟨F1, u1, E1⟩ := E.fz fz
  have hl1 : vs.length = us.length := by rw [hl, fz.len]
  refine fn F1 _ H vs (call_in E1 hl1 vw) Q (fun F' H' v t as' hk u E' => ?_) Ex
  obtain ⟨u2, E2⟩ := call_out E1 hl1 vw hk.1 u E'
  exact q F' H' v t _ hk.2 (u1.trans u2) E2
theorem wp_fn {n m : Nat} {sp : Sp} {Ex : XK} {tc : TC} (h : WpC B tc ρ fun ts us ρ1 => ts.length = n ∧ us.length = m ∧ us = [] ∧ CallOk B.K sp ts ρ1 k) : Wp B (tFn n m sp (fun vs _ => vs) Ex tc) ρ k := fun F H σ τ θ E Q hq => h F H σ τ θ E _ fun F1 H1 vs zs ts us ρ1 h1 u1 E1 l1 l2 => by
  obtain ⟨e1, e2, e3, c⟩ := h1
  subst e3
  have ez : zs = [] := List.length_eq_zero_iff.mp l2
  subst ez
  exact ⟨by omega, by simpa using e2, call_ok (by simpa using E1) l1 c Q fun F' H' v t ρ' hk u E' => hq F' H' v t ρ' hk (u1.trans u) E'⟩
theorem wp_fnK {n m : Nat} {sp : Sp} {Ex : XK} {tc : TC} {π : List Nat} (h : WpC B tc ρ fun ts us ρ1 => ts.length = n ∧ us.length = m ∧ (π.Nodup ∧ ∀ i ∈ π, i < n + m) ∧ CallOk B.K sp (π.map fun i => (ts ++ us).getD i (.d .non)) ρ1 k) : Wp B (tFn n m sp (pick V.non π) Ex tc) ρ k := fun F H σ τ θ E Q hq => h F H σ τ θ E _ fun F1 H1 vs zs ts us ρ1 h1 u1 E1 l1 l2 => by
  obtain ⟨e1, e2, ⟨e3, e4⟩, c⟩ := h1
  refine ⟨by omega, by omega, ?_⟩
  have E2 := E1.sel (by simp [l1, l2]) π e3 (fun i hi => by have := e4 i hi; rw [List.length_append]; omega) _ _ rfl rfl
  exact call_ok E2 (by simp) c Q fun F' H' v t ρ' hk u E' => hq F' H' v t ρ' hk (u1.trans u) E'
theorem lk_none {fs : List (Str × V)} {m : Str} {ns : List Str} (e : fs.map (·.1) = ns) (h : ns.contains m = false) : fs.lookup m = none := by
  subst e
  induction fs with
  | nil => rfl
  | cons p fs ih =>
    obtain ⟨a, v⟩ := p
    simp only [List.map_cons, List.contains_cons, Bool.or_eq_false_iff] at h
    rw [List.lookup_cons, h.1]
    exact ih h.2
theorem wp_mt {C : Addr} {nm : Str} {n m : Nat} {sp : Sp} {Ex : XK} {ta : TE} {tc : TC} (h : Wp B ta ρ fun x ρ1 => ∃ c ns xs, iv ρ1 x = some (c, ns, xs) ∧ C = He.ga B.K c ∧ ns.contains nm = false ∧ WpC B tc ρ1 fun ts us ρ2 => ts.length = n ∧ us.length = m ∧ us = [] ∧ CallOk B.K sp (x :: ts) ρ2 k) : Wp B (tMt C nm n m sp (fun vs _ => vs) Ex ta tc) ρ k := fun F H σ τ θ E Q hq =>
  h F H σ τ θ E _ fun F1 H1 v x ρ1 h1 u1 E1 => by
  obtain ⟨c, ns, xs, e1, rfl, e3, h2⟩ := h1
  obtain ⟨a, dx, fs, rfl, i1, i2, i3⟩ := ins_of' E1.pop E1.last e1
  refine ⟨a, dx, fs, rfl, i1, lk_none i2 e3, h2 F1 H1 σ _ _ E1 _ fun F2 H2 vs zs ts us ρ2 h3 u2 E2 l1 l2 => ?_⟩
  obtain ⟨g1, g2, g3, g4⟩ := h3
  subst g3
  have ez : zs = [] := List.length_eq_zero_iff.mp l2
  subst ez
  exact ⟨by omega, by simpa using g2, call_ok (ts := x :: ts) (by simpa using E2) (by simp [l1]) g4 Q fun F' H' v t ρ' hk u E' => hq F' H' v t ρ' hk ((u1.trans u2).trans u) E'⟩
theorem wp_mtK {C : Addr} {nm : Str} {n m : Nat} {sp : Sp} {Ex : XK} {ta : TE} {tc : TC} {π : List Nat} (h : Wp B ta ρ fun x ρ1 => ∃ c ns xs, iv ρ1 x = some (c, ns, xs) ∧ C = He.ga B.K c ∧ ns.contains nm = false ∧ WpC B tc ρ1 fun ts us ρ2 => ts.length = n ∧ us.length = m ∧ (π.Nodup ∧ ∀ i ∈ π, i < n + m + 1) ∧ CallOk B.K sp (π.map fun i => (x :: (ts ++ us)).getD i (.d .non)) ρ2 k) : Wp B (tMt C nm n m sp (pick V.non π) Ex ta tc) ρ k := fun F H σ τ θ E Q hq =>
  h F H σ τ θ E _ fun F1 H1 v x ρ1 h1 u1 E1 => by
  obtain ⟨c, ns, xs, e1, rfl, e3, h2⟩ := h1
  obtain ⟨a, dx, fs, rfl, i1, i2, i3⟩ := ins_of' E1.pop E1.last e1
  refine ⟨a, dx, fs, rfl, i1, lk_none i2 e3, h2 F1 H1 σ _ _ E1 _ fun F2 H2 vs zs ts us ρ2 h3 u2 E2 l1 l2 => ?_⟩
  obtain ⟨g1, g2, ⟨g3, g4⟩, g5⟩ := h3
  refine ⟨by omega, by omega, ?_⟩
  have E3 : Ev B F2 H2 σ (τ ++ (.ref a :: (vs ++ zs))) ρ2 (θ ++ (x :: (ts ++ us))) := by simpa using E2
  have E4 := E3.sel (by simp [l1, l2]) π g3 (fun i hi => by have := g4 i hi; rw [List.length_cons, List.length_append]; omega) _ _ rfl rfl
  exact call_ok E4 (by simp) g5 Q fun F' H' v t ρ' hk u E' => hq F' H' v t ρ' hk ((u1.trans u2).trans u) E'

/-! ### new objects: one slot more for a while -/
theorem Ev.addslot {v : V} {c : OC} (E : Ev B F H σ (τ ++ [v]) ρ (θ ++ [.m c])) : Ev B F H (σ ++ [some v]) τ (ρ ++ [.m c]) θ := by
  have E0 := E.pop
  have lt := E0.lt
  have ls := E0.ls
  obtain ⟨a, rfl, fa, ga, oc⟩ := E.last
  have lastT : (θ ++ [T.m c])[θ.length]? = some (.m c) := by simp
  have lastV : (τ ++ [V.ref a])[θ.length]? = some (.ref a) := by rw [← lt]; simp
  have upT : ∀ {j : Nat} {t : T}, θ[j]? = some t → (θ ++ [T.m c])[j]? = some t := fun {j t} h => by rw [List.getElem?_append_left (List.getElem?_eq_some_iff.mp h).1]; exact h
  have upV : ∀ {j : Nat} {t : V}, τ[j]? = some t → (τ ++ [V.ref a])[j]? = some t := fun {j t} h => by rw [List.getElem?_append_left (List.getElem?_eq_some_iff.mp h).1]; exact h
  refine { g := E.g, fh := E.fh, ls := by simp [ls], lt := lt, sl := fun i s o h1 h2 => ?_, tp := fun i t w h1 h2 => ?_, ss := fun i j c1 c2 b h1 h2 h3 h4 => ?_, st := fun i j c1 c2 b h1 h2 h3 h4 => ?_, tt := E0.tt, pn := fun p hp => ?_ }
  · rcases getE h1 with ⟨a1, a2⟩ | ⟨a1, a2⟩ <;> rcases getE h2 with ⟨b1, b2⟩ | ⟨b1, b2⟩ <;> try omega
    · exact E0.sl i s o a2 b2
    · subst a2 b2; exact ⟨a, rfl, fa, ga, oc⟩
  · have z := E0.tp i t w h1 h2
    cases t with
    | d x => exact z
    | m c => exact z
    | «at» k =>
      obtain ⟨z1, d, z2⟩ := z
      exact ⟨by rw [List.getElem?_append_left (List.getElem?_eq_some_iff.mp z1).1]; exact z1, d, by rw [List.getElem?_append_left (List.getElem?_eq_some_iff.mp z2).1]; exact z2⟩
  · rcases getE h1 with ⟨a1, a2⟩ | ⟨a1, a2⟩ <;> rcases getE h3 with ⟨b1, b2⟩ | ⟨b1, b2⟩ <;> rcases getE h2 with ⟨d1, d2⟩ | ⟨d1, d2⟩ <;> rcases getE h4 with ⟨e1, e2⟩ | ⟨e1, e2⟩ <;> try omega
    · exact E0.ss i j c1 c2 b a2 d2 b2 e2
    · cases e2; exact (E.st i θ.length c1 c a a2 lastT b2 lastV).elim
    · cases b2; exact (E.st j θ.length c2 c a d2 lastT e2 lastV).elim
  · rcases getE h1 with ⟨a1, a2⟩ | ⟨a1, a2⟩ <;> rcases getE h3 with ⟨b1, b2⟩ | ⟨b1, b2⟩ <;> try omega
    · exact E0.st i j c1 c2 b a2 h2 b2 h4
    · cases b2
      have hj := (List.getElem?_eq_some_iff.mp h2).1
      have := E.tt j θ.length c2 c a (upT h2) lastT (upV h4) lastV
      omega
  · obtain ⟨z1, d, z2⟩ := E0.pn p hp
    exact ⟨by rw [List.getElem?_append_left (List.getElem?_eq_some_iff.mp z1).1]; exact z1, d, by rw [List.getElem?_append_left (List.getElem?_eq_some_iff.mp z2).1]; exact z2⟩
theorem Ev.offslot {v : V} {c : OC} (E : Ev B F H (σ ++ [some v]) τ (ρ ++ [.m c]) θ) (hn : ∀ j : Nat, θ[j]? ≠ some (T.at ρ.length)) (hp : ∀ p ∈ B.pl, p.1 < ρ.length) : Ev B F H σ (τ ++ [v]) ρ (θ ++ [.m c]) := by
  have ls : σ.length = ρ.length := by simpa using E.ls
  have lastS : (ρ ++ [S.m c])[ρ.length]? = some (.m c) := by simp
  have lastO : (σ ++ [some v])[ρ.length]? = some (some v) := by rw [← ls]; simp
  obtain ⟨a, ev, fa, ga, oc⟩ := E.sl _ _ _ lastS lastO
  have ev' : v = .ref a := Option.some.inj ev
  subst ev'
  have upS : ∀ {j : Nat} {t : S}, ρ[j]? = some t → (ρ ++ [S.m c])[j]? = some t := fun {j t} h => by rw [List.getElem?_append_left (List.getElem?_eq_some_iff.mp h).1]; exact h
  have upO : ∀ {j : Nat} {t : Option V}, σ[j]? = some t → (σ ++ [some (V.ref a)])[j]? = some t := fun {j t} h => by rw [List.getElem?_append_left (List.getElem?_eq_some_iff.mp h).1]; exact h
  have dnS : ∀ {j : Nat} {t : S}, j ≠ ρ.length → (ρ ++ [S.m c])[j]? = some t → ρ[j]? = some t := fun {j t} n h => by
    rcases getE h with ⟨_, h⟩ | ⟨h, _⟩
    · exact h
    · exact absurd h n
  have dnO : ∀ {j : Nat} {t : Option V}, j ≠ ρ.length → (σ ++ [some (V.ref a)])[j]? = some t → σ[j]? = some t := fun {j t} n h => by
    rcases getE h with ⟨_, h⟩ | ⟨h, _⟩
    · exact h
    · omega
  have E1 : Ev B F H σ τ ρ θ := { g := E.g, fh := E.fh, ls := ls, lt := E.lt, sl := fun i s o h1 h2 => E.sl i s o (upS h1) (upO h2)
                                  tp := fun i t w h1 h2 => by
                                    have z := E.tp i t w h1 h2
                                    cases t with
                                    | d x => exact z
                                    | m c => exact z
                                    | «at» k =>
                                      have n : k ≠ ρ.length := fun e => hn i (by rw [← e]; exact h1)
                                      obtain ⟨z1, d, z2⟩ := z
                                      exact ⟨dnO n z1, d, dnS n z2⟩
                                  ss := fun i j c1 c2 b h1 h2 h3 h4 => E.ss i j c1 c2 b (upS h1) (upS h2) (upO h3) (upO h4)
                                  st := fun i j c1 c2 b h1 h2 h3 h4 => E.st i j c1 c2 b (upS h1) h2 (upO h3) h4
                                  tt := E.tt
                                  pn := fun p h => by
                                    obtain ⟨z1, d, z2⟩ := E.pn p h
                                    have n : p.1 ≠ ρ.length := by have := hp p h; omega
                                    exact ⟨dnO n z1, d, dnS n z2⟩ }
  refine E1.push ⟨a, rfl, fa, ga, oc⟩ (fun i c1 c2 b e1 e2 h1 h2 => ?_) fun i c1 c2 b e1 e2 h1 h2 => ?_
  · cases e2
    have := E.ss i ρ.length c1 c a (upS h1) lastS (upO h2) lastO
    have := (List.getElem?_eq_some_iff.mp h1).1
    omega
  · cases e2
    exact E.st ρ.length i c c1 a lastS h1 lastO h2
/-- which slots the temporaries name -/
def inside (n : Nat) : List T → Prop
  | [] => True
  | .at i :: ts => i < n ∧ inside n ts
  | _ :: ts => inside n ts
theorem inside_of {n : Nat} : ∀ {ts : List T}, (∀ (j i : Nat), ts[j]? = some (T.at i) → i < n) → inside n ts
  | [], _ => trivial
  | t :: ts, h => by
    have h' : inside n ts := inside_of fun j i e => h (j + 1) i (by simpa using e)
    cases t with
    | «at» i => exact ⟨h 0 i rfl, h'⟩
    | d _ => exact h'
    | m _ => exact h'
theorem upR_app {s : S} : ∀ {ts as' : List T} {ρ : List S}, inside ρ.length ts → upR (ρ ++ [s]) ts as' = upR ρ ts as' ++ [s]
  | [], _, _, _ => by simp [upR]
  | t :: ts, [], _, _ => by cases t <;> simp [upR]
  | t :: ts, a :: as', ρ, h => by
    cases t with
    | d _ => cases a <;> (simp only [upR]; exact upR_app h)
    | m _ => cases a <;> (simp only [upR]; exact upR_app h)
    | «at» i =>
      obtain ⟨h1, h2⟩ := h
      cases a with
      | d _ => simp only [upR]; exact upR_app h2
      | «at» _ => simp only [upR]; exact upR_app h2
      | m c =>
        simp only [upR]
        rw [List.set_append_left _ _ h1]
        exact upR_app (by rw [List.length_set]; exact h2)
theorem View.app {s : S} : ∀ {ρ : List S} {ts as : List T}, View ρ ts as → View (ρ ++ [s]) ts as
  | _, _, _, .nil => .nil
  | _, _, _, .d h => .d h.app
  | _, _, _, .m h => .m h.app
  | _, _, _, .at e n h => .at (by rw [List.getElem?_append_left (List.getElem?_eq_some_iff.mp e).1]; exact e) n h.app
theorem View.bel : ∀ {ρ : List S} {ts as : List T}, View ρ ts as → inside ρ.length ts
  | _, _, _, .nil => trivial
  | _, _, _, .d h => h.bel
  | _, _, _, .m h => h.bel
  | _, _, _, .at e n h => ⟨(List.getElem?_eq_some_iff.mp e).1, h.bel⟩
/-- a new object of the class c at arguments -/
def NewOk (K : Frag) (sp : Sp) (c : Str) (ts : List T) (ρ : List S) (k : T → List S → Prop) : Prop := ∃ us as, Fz ts us ∧ View ρ us as ∧ Fn K sp (.m (.ins c [] []) :: as) fun t as' => t = .d .non ∧ ∃ c' as'', as' = .m c' :: as'' ∧ shp us as'' = true ∧ k (.m c') (upR ρ us as'')
theorem new_ok {c : Str} {sp : Sp} {Ex : XK} {x dx : Addr} (E : Ev B F H σ (τ ++ vs) ρ (θ ++ ts)) (hl : vs.length = ts.length) (h : NewOk B.K sp c ts ρ k) (hx : H x = none) (hd : H dx = none) (hne : dx ≠ x) (Q : VK) (q : ∀ F' H' t ρ', k t ρ' → Up B F F' → Ev B F' H' σ (τ ++ [.ref x]) ρ' (θ ++ [t]) → Q (.ref x) H') :
    sp (.ref x :: vs) (upd (upd H dx (.own x)) x (.ins (He.ga B.K c) dx [])) (fun v H2 => v = .non ∧ Q (.ref x) H2) Ex := by
  obtain ⟨us, as, fz, vw, fn⟩ := h
  obtain ⟨F1, u1, E1⟩ := E.fz fz
  have hl1 : vs.length = us.length := by rw [hl, fz.len]
  have bθ : ∀ (j i : Nat), θ[j]? = some (T.at i) → i < ρ.length := fun j i e => by
    have E0 := E1.pops hl1
    obtain ⟨w, hw⟩ : ∃ w, τ[j]? = some w := ⟨_, List.getElem?_eq_getElem (by rw [E0.lt]; exact (List.getElem?_eq_some_iff.mp e).1)⟩
    obtain ⟨_, d, z⟩ := E0.tp j _ _ e hw
    exact (List.getElem?_eq_some_iff.mp z).1
  have bp : ∀ p ∈ B.pl, p.1 < ρ.length := fun p hp => by
    obtain ⟨_, d, z⟩ := E1.pn p hp
    exact (List.getElem?_eq_some_iff.mp z).1
  have ls := E1.ls
  -- the new one's dict, the new one
  have E2 : Ev B F1 (upd H dx (.own x)) σ (τ ++ vs) ρ (θ ++ us) := E1.grow (Grow.own E1.fh hd)
  have hx' : upd H dx (.own x) x = none := by rw [upd_ne (Ne.symm hne)]; exact hx
  have E3 : Ev B F1 (upd (upd H dx (.own x)) x (.ins (He.ga B.K c) dx [])) σ ((τ ++ vs) ++ [.ref x]) ρ ((θ ++ us) ++ [.m (.ins c [] [])]) := E2.push_new hx' ⟨dx, [], upd_same, rfl, .nil⟩
  have E4 := E3.addslot
  -- the slot is named first
  have lastS : (ρ ++ [S.m (.ins c [] [])])[ρ.length]? = some (.m (.ins c [] [])) := by simp
  have lastO : (σ ++ [some (V.ref x)])[ρ.length]? = some (some (.ref x)) := by rw [← ls]; simp
  have E5 := E4.push_at lastO lastS
  have E6 : Ev B F1 (upd (upd H dx (.own x)) x (.ins (He.ga B.K c) dx [])) (σ ++ [some (V.ref x)]) (τ ++ (V.ref x :: vs)) (ρ ++ [S.m (.ins c [] [])]) (θ ++ (T.at ρ.length :: us)) := by
    refine Ev.sel (vs := vs ++ [V.ref x]) (ts := us ++ [T.at ρ.length]) (by simpa using E5) (by simp [hl1]) (us.length :: List.range us.length) ?_ (fun i hi => ?_) _ _ ?_ ?_
    · refine List.nodup_cons.mpr ⟨by simp, List.nodup_range⟩
    · rcases List.mem_cons.mp hi with e | e
      · simp [e]
      · have := List.mem_range.mp e; simp; omega
    · rw [List.map_cons]
      congr 1
      · rw [List.getD_eq_getElem?_getD, ← hl1]; simp
      · refine List.ext_getElem? fun i => ?_
        rw [List.getElem?_map]
        by_cases hi : i < us.length
        · rw [List.getElem?_range hi]
          simp only [Option.map_some]
          rw [List.getD_eq_getElem?_getD, List.getElem?_append_left (by omega), List.getElem?_eq_getElem (by omega)]
          rfl
        · rw [List.getElem?_eq_none (by omega), List.getElem?_eq_none (by simp; omega)]; rfl
    · rw [List.map_cons]
      congr 1
      · rw [List.getD_eq_getElem?_getD]; simp
      · refine List.ext_getElem? fun i => ?_
        rw [List.getElem?_map]
        by_cases hi : i < us.length
        · rw [List.getElem?_range hi]
          simp only [Option.map_some]
          rw [List.getD_eq_getElem?_getD, List.getElem?_append_left (by omega), List.getElem?_eq_getElem (by omega)]
          rfl
        · rw [List.getElem?_eq_none (by omega), List.getElem?_eq_none (by simp; omega)]; rfl
  have vbel := vw.bel
  have vnot : ∀ {n : Nat} {us : List T}, inside n us → ∀ j : Nat, us[j]? ≠ some (T.at n) := fun {n us} => by
    induction us with
    | nil => intro _ j h; simp at h
    | cons t us ih =>
      intro hb j h
      cases j with
      | zero => simp at h; subst h; exact absurd hb.1 (Nat.lt_irrefl _)
      | succ j =>
        have hb' : inside n us := by cases t <;> first | exact hb.2 | exact hb
        exact ih hb' j (by simpa using h)
  have vw' : View (ρ ++ [S.m (.ins c [] [])]) (T.at ρ.length :: us) (.m (.ins c [] []) :: as) := .at lastS (vnot vbel) vw.app
  have hl6 : (V.ref x :: vs).length = (T.at ρ.length :: us).length := by simp [hl1]
  refine fn F1 _ _ _ (call_in E6 hl6 vw') _ (fun F' H' v t as' hk u E' => ?_) Ex
  obtain ⟨rfl, c', as'', rfl, sh, hk⟩ := hk
  obtain ⟨u2, E7⟩ := call_out E6 hl6 vw' (by simpa [shp] using sh) u E'
  have zv : v = .non := by
    have z := E7.datum
    cases z; rfl
  have E8 := E7.pop
  have er : upR (ρ ++ [S.m (.ins c [] [])]) (T.at ρ.length :: us) (.m c' :: as'') = upR ρ us as'' ++ [S.m c'] := by
    show upR ((ρ ++ [S.m (.ins c [] [])]).set ρ.length (.m c')) us as'' = _
    rw [List.set_append_right _ _ (Nat.le_refl _)]
    simp only [Nat.sub_self, List.set_cons_zero]
    exact upR_app vbel
  rw [er] at E8
  have E9 := E8.offslot (fun j e => by have := bθ j _ e; rw [upR_len] at this; omega) (fun p hp => by rw [upR_len]; exact bp p hp)
  exact ⟨zv, q F' H' _ _ hk (u1.trans u2) E9⟩
theorem wp_new {c : Str} {n m : Nat} {sp : Sp} {Ex : XK} {tc : TC} (h : WpC B tc ρ fun ts us ρ1 => ts.length = n ∧ us.length = m ∧ us = [] ∧ NewOk B.K sp c ts ρ1 k) : Wp B (tNew (He.ga B.K c) n m sp (fun vs _ => vs) Ex tc) ρ k := fun F H σ τ θ E Q hq => h F H σ τ θ E _ fun F1 H1 vs zs ts us ρ1 h1 u1 E1 l1 l2 => by
  obtain ⟨e1, e2, e3, g⟩ := h1
  subst e3
  have ez : zs = [] := List.length_eq_zero_iff.mp l2
  subst ez
  exact ⟨by omega, by simpa using e2, fun x dx hx hd hn => new_ok (by simpa using E1) l1 g hx hd hn Q fun F' H' t ρ' hk u E' => hq F' H' _ t ρ' hk (u1.trans u) E'⟩
/-- the first by name too: π begins with the new one -/
theorem wp_newK {c : Str} {n m : Nat} {sp : Sp} {Ex : XK} {tc : TC} {π : List Nat} (h : WpC B tc ρ fun ts us ρ1 => ts.length = n ∧ us.length = m ∧ (π.Nodup ∧ ∀ i ∈ π, i < n + m) ∧ NewOk B.K sp c (π.map fun i => (ts ++ us).getD i (.d .non)) ρ1 k) : Wp B (tNew (He.ga B.K c) n m sp (pick V.non (0 :: π.map (· + 1))) Ex tc) ρ k := fun F H σ τ θ E Q hq => h F H σ τ θ E _ fun F1 H1 vs zs ts us ρ1 h1 u1 E1 l1 l2 => by
  obtain ⟨e1, e2, ⟨e3, e4⟩, g⟩ := h1
  refine ⟨by omega, by omega, fun x dx hx hd hn => ?_⟩
  have E2 := E1.sel (by simp [l1, l2]) π e3 (fun i hi => by have := e4 i hi; rw [List.length_append]; omega) _ _ rfl rfl
  have e : pick V.non (0 :: π.map (· + 1)) (.ref x :: vs) zs = .ref x :: π.map fun i => (vs ++ zs).getD i V.non := by
    unfold pick
    rw [List.map_cons, List.map_map]
    rfl
  rw [e]
  exact new_ok E2 (by simp) g hx hd hn Q fun F' H' t ρ' hk u E' => hq F' H' _ t ρ' hk (u1.trans u) E'
end
end Dl

set_option Elab.async false
set_option linter.all false
set_option maxRecDepth 100000
set_option maxHeartbeats 4000000
/-! Statements over symbolic frames. -/
namespace Dl
open PySem PySem.Spec PyProof.Rows L2 Rl RZ RT
open Evl (Ex)
/-- what is wanted behind a statement -/
structure Ps where
  nx : List S → Prop
  rt : T → List S → Prop
  bk : List S → Prop := fun _ => False
  ct : List S → Prop := fun _ => False
def WpS (B : Fix) (ts : TS) (ρ : List S) (P : Ps) : Prop := ∀ F H σ, Ev B F H σ [] ρ [] → ∀ D : Ends,
  (∀ F' H' σ' ρ', P.nx ρ' → Up B F F' → Ev B F' H' σ' [] ρ' [] → D.nx σ' H') → (∀ F' H' σ' v t ρ', P.rt t ρ' → Up B F F' → Ev B F' H' σ' [v] ρ' [t] → D.rt v H') →
  (∀ F' H' σ' ρ', P.bk ρ' → Up B F F' → Ev B F' H' σ' [] ρ' [] → D.bk σ' H') → (∀ F' H' σ' ρ', P.ct ρ' → Up B F F' → Ev B F' H' σ' [] ρ' [] → D.ct σ' H') → ts D σ H
/-- a target; z: nothing else is on the way -/
def WpG (B : Fix) (z : Bool) (g : TG) (t : T) (ρ : List S) (k : List S → Prop) : Prop := ∀ F H σ τ θ v, Ev B F H σ (τ ++ [v]) ρ (θ ++ [t]) → (z = true → θ = []) → ∀ Q : L2.St → Hp → Prop, (∀ F' H' σ' ρ', k ρ' → Up B F F' → Ev B F' H' σ' τ ρ' θ → Q σ' H') → g v σ H Q
def WpGs (B : Fix) (z : Bool) (g : TGs) (xs : List D) (ρ : List S) (k : List S → Prop) : Prop := ∀ F H σ τ θ vs, Ev B F H σ τ ρ θ → IsAll B.K F vs xs → (z = true → θ = []) → ∀ Q : L2.St → Hp → Prop, (∀ F' H' σ' ρ', k ρ' → Up B F F' → Ev B F' H' σ' τ ρ' θ → Q σ' H') → g vs σ H Q
/-- the pinned slots -/
def Pn (B : Fix) (l : List Nat) : Prop := B.pl.map (·.1) = l
theorem Pn.no {B : Fix} {l : List Nat} {i : Nat} (h : Pn B l) (n : l.contains i = false) : ∀ p ∈ B.pl, p.1 ≠ i := fun p hp e => by
  have : i ∈ l := by rw [← h]; exact List.mem_map.mpr ⟨p, hp, e⟩
  have := List.contains_iff_mem.mpr this
  rw [n] at this; cases this
/-- what is last goes into a slot -/
def put (ρ : List S) (i : Nat) : T → Option (List S)
  | .d x => some (ρ.set i (.d x))
  | .m c => some (ρ.set i (.m c))
  | .at _ => none
section
variable {B : Fix} {F H F' H' : Hp} {σ : L2.St} {τ vs : List V} {ρ ρ' : List S} {θ ts us as : List T} {v : V} {t : T} {P : Ps} {l : List Nat} {x : D}
theorem Ev.put {i : Nat} (E : Ev B F H σ (τ ++ [v]) ρ (θ ++ [t])) (e : put ρ i t = some ρ') (hp : ∀ p ∈ B.pl, p.1 ≠ i) (hn : (∀ c, ρ[i]? ≠ some (.m c)) ∨ noAt θ i) : Ev B F H (σ.set i (some v)) τ ρ' θ := by
  cases t with
  | d x => cases e; exact E.set hp hn
  | m c => cases e; exact E.setM hp hn
  | «at» k => cases e
theorem wps_mono {ts : TS} {P' : Ps} (h : WpS B ts ρ P) (h1 : ∀ ρ, P.nx ρ → P'.nx ρ) (h2 : ∀ t ρ, P.rt t ρ → P'.rt t ρ) (h3 : ∀ ρ, P.bk ρ → P'.bk ρ) (h4 : ∀ ρ, P.ct ρ → P'.ct ρ) : WpS B ts ρ P' := fun F H σ E D a b c d =>
  h F H σ E D (fun F' H' σ' ρ' q => a F' H' σ' ρ' (h1 _ q)) (fun F' H' σ' v t ρ' q => b F' H' σ' v t ρ' (h2 _ _ q)) (fun F' H' σ' ρ' q => c F' H' σ' ρ' (h3 _ q)) fun F' H' σ' ρ' q => d F' H' σ' ρ' (h4 _ q)
theorem wps_next (q : P.nx ρ) : WpS B tNext ρ P := fun F H σ E D a b c d => a F H σ ρ q Up.refl E
theorem wps_brk (q : P.bk ρ) : WpS B tBreak ρ P := fun F H σ E D a b c d => c F H σ ρ q Up.refl E
theorem wps_cont (q : P.ct ρ) : WpS B tCont ρ P := fun F H σ E D a b c d => d F H σ ρ q Up.refl E
theorem wps_never (q : False) : WpS B tNever ρ P := q.elim
theorem wps_seq {s u : TS} (h : WpS B s ρ { P with nx := fun ρ1 => WpS B u ρ1 P }) : WpS B (tSeq s u) ρ P := fun F H σ E D a b c d =>
  h F H σ E _ (fun F1 H1 σ1 ρ1 q u1 E1 => q F1 H1 σ1 E1 D (fun F' H' σ' ρ' q u => a F' H' σ' ρ' q (u1.trans u)) (fun F' H' σ' v t ρ' q u => b F' H' σ' v t ρ' q (u1.trans u)) (fun F' H' σ' ρ' q u => c F' H' σ' ρ' q (u1.trans u)) fun F' H' σ' ρ' q u => d F' H' σ' ρ' q (u1.trans u)) b c d
theorem wps_if {c : TT} {s u : TS} (h : WpT B c ρ fun b ρ1 => (b = true → WpS B s ρ1 P) ∧ (b = false → WpS B u ρ1 P)) : WpS B (tIfS c s u) ρ P := fun F H σ E D a b c' d => h F H σ [] [] E _ fun F1 H1 b1 ρ1 hk u1 E1 => by
  cases b1 with
  | true => exact hk.1 rfl F1 H1 σ E1 D (fun F' H' σ' ρ' q u => a F' H' σ' ρ' q (u1.trans u)) (fun F' H' σ' v t ρ' q u => b F' H' σ' v t ρ' q (u1.trans u)) (fun F' H' σ' ρ' q u => c' F' H' σ' ρ' q (u1.trans u)) fun F' H' σ' ρ' q u => d F' H' σ' ρ' q (u1.trans u)
  | false => exact hk.2 rfl F1 H1 σ E1 D (fun F' H' σ' ρ' q u => a F' H' σ' ρ' q (u1.trans u)) (fun F' H' σ' v t ρ' q u => b F' H' σ' v t ρ' q (u1.trans u)) (fun F' H' σ' ρ' q u => c' F' H' σ' ρ' q (u1.trans u)) fun F' H' σ' ρ' q u => d F' H' σ' ρ' q (u1.trans u)
theorem wps_drop {te : TE} (h : Wp B te ρ fun _ ρ1 => P.nx ρ1) : WpS B (tDrop te) ρ P := fun F H σ E D a b c d => h F H σ [] [] E _ fun F1 H1 v t ρ1 hk u1 E1 => a F1 H1 σ ρ1 hk u1 E1.pop
theorem wps_ret {te : TE} (h : Wp B te ρ P.rt) : WpS B (tRet te) ρ P := fun F H σ E D a b c d => h F H σ [] [] E _ fun F1 H1 v t ρ1 hk u1 E1 => b F1 H1 σ v t ρ1 hk u1 (by simpa using E1)
theorem wps_retN (h : P.rt (.d .non) ρ) : WpS B tRetN ρ P := fun F H σ E D a b c d => b F H σ .non _ ρ h Up.refl (E.push_d .non)
theorem wps_asg {te : TE} {g : TG} (h : Wp B te ρ fun t ρ1 => WpG B true g t ρ1 P.nx) : WpS B (tAsg te g) ρ P := fun F H σ E D a b c d => h F H σ [] [] E _ fun F1 H1 v t ρ1 hk u1 E1 => hk F1 H1 σ [] [] v E1 (fun _ => rfl) _ fun F' H' σ' ρ' q u E' => a F' H' σ' ρ' q (u1.trans u) E'
theorem wpg_name {i : Nat} {z : Bool} {k : List S → Prop} (hB : Pn B l) (hi : l.contains i = false) (hz : (z || notM ρ i) = true) (e : put ρ i t = some ρ') (q : k ρ') : WpG B z (gName i) t ρ k := fun F H σ τ θ v E h0 Q hq => hq F H _ ρ' q Up.refl (E.put e (hB.no hi) (by
  rcases Bool.or_eq_true_iff.mp hz with e | e
  · right; rw [h0 e]; intro j h; simp at h
  · exact .inl fun c h => notM_ok e h))
theorem wpg_tup {n : Nat} {z : Bool} {g : TGs} {k : List S → Prop} {xs : List D} (hl : xs.length = n) (h : WpGs B z g xs ρ k) : WpG B z (gTup B.K n g) (.d (.tup xs)) ρ k := fun F H σ τ θ v E h0 Q hq => by
  obtain ⟨a, vs, rfl, i1, r1⟩ := tup_of E.pop E.last
  exact ⟨a, vs, rfl, r1, by rw [i1.len]; exact hl, h F H σ τ θ vs E.pop i1 h0 Q hq⟩
theorem wpgs_nil {z : Bool} {k : List S → Prop} (q : k ρ) : WpGs B z gNil [] ρ k := fun F H σ τ θ vs E hv h0 Q hq => by
  cases hv
  exact ⟨rfl, hq F H σ ρ q Up.refl E⟩
theorem wpgs_cons {z : Bool} {g : TG} {gs : TGs} {k : List S → Prop} {xs : List D} (h : WpG B z g (.d x) ρ fun ρ1 => WpGs B z gs xs ρ1 k) : WpGs B z (gCons g gs) (x :: xs) ρ k := fun F H σ τ θ vs E hv h0 Q hq => by
  cases hv with
  | @cons v vs _ _ h1 h2 =>
    exact ⟨v, vs, rfl, h F H σ τ θ v (E.push_d h1) h0 _ fun F1 H1 σ1 ρ1 hk u1 E1 => hk F1 H1 σ1 τ θ vs E1 (h2.up u1.ex) h0 Q fun F' H' σ' ρ' q u E' => hq F' H' σ' ρ' q (u1.trans u) E'⟩
theorem wpg_frz {z : Bool} {g : TG} {c : OC} {k : List S → Prop} (h : WpG B z g (.d c.toD) ρ k) : WpG B z g (.m c) ρ k := fun F H σ τ θ v E h0 Q hq => by
  obtain ⟨F1, u1, E1⟩ := E.frz_top
  exact h F1 H σ τ θ v E1 h0 Q fun F' H' σ' ρ' q u E' => hq F' H' σ' ρ' q (u1.trans u) E'
/-- o[i] = x -/
theorem wpg_sub {z : Bool} {to ti : TE} {k : List S → Prop} (h : Wp B to ρ fun t1 ρ1 => ∃ j, t1 = .at j ∧ Wp B ti ρ1 fun t2 ρ2 => ∃ xs i n, t2 = .d (.int i) ∧ ρ2[j]? = some (.m (.lst xs)) ∧ ixN xs.length i = some n ∧ k (ρ2.set j (.m (.lst (xs.set n x))))) : WpG B z (gSub to ti rSetL) (.d x) ρ k := fun F H σ τ θ v E h0 Q hq =>
  h F H σ _ _ E _ fun F1 H1 o t1 ρ1 h1 u1 E1 => by
  obtain ⟨j, rfl, h1⟩ := h1
  refine h1 F1 H1 σ _ _ E1 _ fun F2 H2 w t2 ρ2 h2 u2 E2 => ?_
  obtain ⟨xs, i, n, rfl, e1, e2, h2⟩ := h2
  have w0 := E2.datum
  cases w0
  have E3 := E2.pop.pop
  have dx := E3.datum
  obtain ⟨l1, _⟩ := E2.pop.last
  obtain ⟨a, ev, _⟩ := E3.sl j _ _ e1 l1
  cases ev
  obtain ⟨_, _, ws, o2, is⟩ := E3.slot_there e1 l1
  refine ⟨a, ws, i, n, rfl, rfl, o2, by rw [is.len]; exact e2, ?_⟩
  exact hq F2 _ σ _ h2 (u1.trans u2) (E3.pop.chg (c' := .lst (xs.set n x)) (o := .lst (ws.set n v)) e1 l1 ⟨_, upd_same, is.set n dx⟩)
theorem wps_par {i j : Nat} {ta : TA} (hB : Pn B l) (hi : l.contains i = false) (hj : l.contains j = false) (hne : i ≠ j) (h : WpA B ta ρ fun ts ρ1 => ∃ x y ρ2 ρ3, ts = [x, y] ∧ put ρ1 j y = some ρ2 ∧ put ρ2 i x = some ρ3 ∧ P.nx ρ3) : WpS B (tPar i j ta) ρ P := fun F H σ E D a b c d => h F H σ [] [] E _ fun F1 H1 vs ts ρ1 hk u1 E1 hl => by
  obtain ⟨x, y, ρ2, ρ3, rfl, e1, e2, q⟩ := hk
  obtain ⟨v, w, rfl⟩ := two_of hl
  refine ⟨v, w, rfl, ?_⟩
  have E2 := (E1.two).put e1 (hB.no hj) (.inr fun n h => by
    cases n with
    | zero => simp at h; subst h; cases e2
    | succ n => simp at h)
  have E3 := Ev.put (τ := []) (θ := []) E2 e2 (hB.no hi) (.inr fun n h => by simp at h)
  rw [List.set_comm _ _ (Ne.symm hne)] at E3
  exact a F1 H1 _ ρ3 q u1 E3
theorem three_of {α : Type} {β : Type} {vs : List α} {x y z : β} (h : vs.length = [x, y, z].length) : ∃ u v w, vs = [u, v, w] := by
  rcases vs with _ | ⟨u, _ | ⟨v, _ | ⟨w, _ | ⟨q, r⟩⟩⟩⟩ <;> simp at h
  exact ⟨u, v, w, rfl⟩
theorem wps_par3 {i j n : Nat} {ta : TA} (hB : Pn B l) (hi : l.contains i = false) (hj : l.contains j = false) (hn : l.contains n = false) (hne : i ≠ j) (hne2 : i ≠ n) (hne3 : j ≠ n) (h : WpA B ta ρ fun ts ρ1 => ∃ x y z ρ2 ρ3 ρ4, ts = [x, y, z] ∧ put ρ1 n z = some ρ2 ∧ put ρ2 j y = some ρ3 ∧ put ρ3 i x = some ρ4 ∧ P.nx ρ4) : WpS B (tPar3 i j n ta) ρ P := fun F H σ E D a b c d => h F H σ [] [] E _ fun F1 H1 vs ts ρ1 hk u1 E1 hl => by
  obtain ⟨x, y, z, ρ2, ρ3, ρ4, rfl, e1, e2, e3, q⟩ := hk
  obtain ⟨v, w, r, rfl⟩ := three_of hl
  refine ⟨v, w, r, rfl, ?_⟩
  have E2 := Ev.put (τ := [v, w]) (θ := [x, y]) (by simpa using E1) e1 (hB.no hn) (.inr fun m h => by
    rcases m with _ | _ | m
    · simp at h; subst h; cases e3
    · simp at h; subst h; cases e2
    · simp at h)
  have E3 := Ev.put (τ := [v]) (θ := [x]) (by simpa using E2) e2 (hB.no hj) (.inr fun m h => by
    rcases m with _ | m
    · simp at h; subst h; cases e3
    · simp at h)
  have E4 := Ev.put (τ := []) (θ := []) (by simpa using E3) e3 (hB.no hi) (.inr fun m h => by simp at h)
  have e : (((σ.set n (some r)).set j (some w)).set i (some v)) = (((σ.set i (some v)).set j (some w)).set n (some r)) := by
    rw [List.set_comm _ _ (Ne.symm hne3), List.set_comm _ _ (Ne.symm hne2), List.set_comm _ _ (Ne.symm hne)]
  rw [e] at E4
  exact a F1 H1 _ ρ4 q u1 E4
/-- a slot's object becomes a datum -/
theorem wps_freeze {ts : TS} {j : Nat} {c : OC} (j' : Nat) (hB : Pn B l) (e : ρ[j']? = some (.m c)) (hj : l.contains j' = false) (h : WpS B ts (ρ.set j' (.d c.toD)) P) : WpS B ts ρ P := fun F H σ E D a b c d => by
  obtain ⟨F1, u1, E1⟩ := E.frz_slot e (hB.no hj)
  exact h F1 H σ E1 D (fun F' H' σ' ρ' q u => a F' H' σ' ρ' q (u1.trans u)) (fun F' H' σ' v t ρ' q u => b F' H' σ' v t ρ' q (u1.trans u)) (fun F' H' σ' ρ' q u => c F' H' σ' ρ' q (u1.trans u)) fun F' H' σ' ρ' q u => d F' H' σ' ρ' q (u1.trans u)
/-- a slot is forgotten -/
theorem wps_forget {ts : TS} (j : Nat) (hB : Pn B l) (hj : l.contains j = false) (h : WpS B ts (ρ.set j .u) P) : WpS B ts ρ P := fun F H σ E D a b c d => by
  have E1 := E.forget (o := σ.getD j none) (hB.no hj) (.inr fun m h => by simp at h)
  have e : σ.set j (σ.getD j none) = σ := by
    refine List.ext_getElem? fun n => ?_
    by_cases en : j = n
    · subst en
      by_cases hl : j < σ.length
      · rw [List.getElem?_set_self hl, List.getD_eq_getElem?_getD, List.getElem?_eq_getElem hl]; rfl
      · rw [List.getElem?_eq_none (by simpa using hl), List.getElem?_eq_none (by omega)]
    · rw [List.getElem?_set_ne en]
  rw [e] at E1
  exact h F H σ E1 D a b c d
/-- a slot's address is fixed -/
theorem wps_pin {ts : TS} {c : OC} (j : Nat) (e : ρ[j]? = some (.m c)) (h : ∀ a, WpS ⟨B.K, B.G, (j, a) :: B.pl⟩ ts ρ P) : WpS B ts ρ P := fun F H σ E D a b c' d => by
  obtain ⟨o, ho⟩ : ∃ o, σ[j]? = some o := ⟨_, List.getElem?_eq_getElem (by rw [E.ls]; exact (List.getElem?_eq_some_iff.mp e).1)⟩
  obtain ⟨ad, ev, _⟩ := E.sl j _ _ e ho
  subst ev
  have to : ∀ {F : Hp} {H : Hp} {σ : L2.St} {τ : List V} {ρ : List S} {θ : List T}, Ev ⟨B.K, B.G, (j, ad) :: B.pl⟩ F H σ τ ρ θ → Ev B F H σ τ ρ θ := fun {F H σ τ ρ θ} E => { E with pn := fun p hp => E.pn p (List.mem_cons_of_mem _ hp) }
  have E1 : Ev ⟨B.K, B.G, (j, ad) :: B.pl⟩ F H σ [] ρ [] := { E with pn := fun p hp => by
                                                                                    rcases List.mem_cons.mp hp with e1 | e1
                                                                                    · subst e1; exact ⟨ho, c, e⟩
                                                                                    · exact E.pn p e1 }
  exact h ad F H σ E1 D (fun F' H' σ' ρ' q u E' => a F' H' σ' ρ' q ⟨u.ex, u.gn⟩ (to E')) (fun F' H' σ' v t ρ' q u E' => b F' H' σ' v t ρ' q ⟨u.ex, u.gn⟩ (to E')) (fun F' H' σ' ρ' q u E' => c' F' H' σ' ρ' q ⟨u.ex, u.gn⟩ (to E')) fun F' H' σ' ρ' q u E' => d F' H' σ' ρ' q ⟨u.ex, u.gn⟩ (to E')
/-- a pinned slot, as a plain value and back -/
theorem wp_opq {j : Nat} {a : Addr} {k : T → List S → Prop} (hp : (j, a) ∈ B.pl) (q : k (.d (.opq (.ref a))) ρ) : Wp B (tVar j) ρ k := fun F H σ τ θ E Q hq => by
  have e := (E.pn _ hp).1
  exact ⟨_, e, hq F H _ _ ρ q Up.refl (E.push_d (.opq _))⟩
theorem wp_back {te : TE} {j : Nat} {a : Addr} {k : T → List S → Prop} (hp : (j, a) ∈ B.pl) (h : Wp B te ρ fun t ρ1 => (t = .d (.opq (.ref a)) ∧ k (.at j) ρ1) ∨ k t ρ1) : Wp B te ρ k := fun F H σ τ θ E Q hq => h F H σ τ θ E Q fun F' H' v t ρ1 hk u E' => by
  rcases hk with ⟨rfl, hk⟩ | hk
  · have w0 := E'.datum
    cases w0
    obtain ⟨e1, c, e2⟩ := E'.pn _ hp
    exact hq F' H' _ _ ρ1 hk u (E'.pop.push_at e1 e2)
  · exact hq F' H' v t ρ1 hk u E'
/-! ### fields -/
def fput : List Str → List D → Str → D → List Str × List D
  | n :: ns, y :: ys, f, x => if n = f then (n :: ns, x :: ys) else let r := fput ns ys f x; (n :: r.1, y :: r.2)
  | _, _, f, x => ([f], [x])
theorem putF_is {f : Str} {y : V} {K : Frag} : ∀ {fs : List (Str × V)} {ns : List Str} {xs : List D}, fs.map (·.1) = ns → IsAll K F (fs.map (·.2)) xs → Is K F y x → (putF f y fs).map (·.1) = (fput ns xs f x).1 ∧ IsAll K F ((putF f y fs).map (·.2)) (fput ns xs f x).2
  | [], _, _, e, h, g => by
    subst e
    cases h
    exact ⟨rfl, .cons g .nil⟩
  | (n, v) :: fs, _, _, e, h, g => by
    subst e
    cases h with
    | cons h1 h2 =>
      simp only [putF, fput, List.map_cons]
      by_cases en : n = f
      · rw [if_pos en, if_pos en]; exact ⟨rfl, .cons g h2⟩
      · rw [if_neg en, if_neg en]
        obtain ⟨a, b⟩ := putF_is (f := f) (y := y) (fs := fs) rfl h2 g
        exact ⟨by rw [List.map_cons, a], .cons h1 b⟩
theorem wps_fld {ta tv : TE} {f : Str} (h : WpD B tv ρ fun x ρ1 => Wp B ta ρ1 fun t ρ2 => ∃ j c ns xs, t = .at j ∧ ρ2[j]? = some (.m (.ins c ns xs)) ∧ Cls B.K (He.ga B.K c) ∧ NoAttr B.K (He.ga B.K c) f ∧ ns.length < 1000 ∧ P.nx (ρ2.set j (.m (.ins c (fput ns xs f x).1 (fput ns xs f x).2)))) : WpS B (sFld B.K ta tv f) ρ P := fun F H σ E D a b c d =>
  h F H σ [] [] E _ fun F1 H1 y x ρ1 h1 u1 E1 => h1 F1 H1 σ _ _ E1 _ fun F2 H2 o t ρ2 h2 u2 E2 => by
  obtain ⟨j, cc, ns, xs, rfl, e1, c1, c2, hl, q⟩ := h2
  have dx := E2.pop.datum
  obtain ⟨l1, _⟩ := E2.last
  obtain ⟨ad, ev, _⟩ := E2.sl j _ _ e1 l1
  cases ev
  obtain ⟨_, _, dxx, fs, o2, i2, is⟩ := E2.slot_there e1 l1
  have pf := putF_is (f := f) i2 is dx
  refine ⟨ad, _, dxx, fs, rfl, o2, c1, c2, ?_, ?_⟩
  · have : fs.length = ns.length := by rw [← i2]; simp
    omega
  · refine a F2 _ σ _ q (u1.trans u2) ?_
    have E3 : Ev B F2 H2 σ [] ρ2 [] := (E2.pop).pop
    exact E3.chg e1 l1 ⟨dxx, _, upd_same, pf.1, pf.2⟩

/-! ### what is walked -/
structure ItOk (K : Frag) (F : Hp) (J : It) (xs : List D) : Prop where
  go : ∀ (i : Nat) (F1 H1 : Hp), i < xs.length → Ex F F1 → Ex F1 H1 → J.go i H1
  stop : ∀ (i : Nat) (F1 H1 : Hp), xs.length ≤ i → Ex F F1 → Ex F1 H1 → J.stop i H1
  yld : ∀ (i : Nat) (F1 H1 : Hp) (v : V) (H2 : Hp) (x : D), xs[i]? = some x → Ex F F1 → Ex F1 H1 → J.yld i H1 v H2 → ∃ F2, Grow F1 H1 F2 H2 ∧ Is K F2 v x
def WpI (B : Fix) (wi : TI) (ρ : List S) (k : List D → List S → Prop) : Prop := ∀ F H σ τ θ, Ev B F H σ τ ρ θ → ∀ R : It → Hp → Prop, (∀ F' H' J xs ρ', k xs ρ' → Up B F F' → Ev B F' H' σ τ ρ' θ → ItOk B.K F' J xs → R J H') → wi σ H R
theorem itok_l {K : Frag} {a : Addr} {vs : List V} {xs : List D} (h : Rd F a (.lst vs)) (i1 : IsAll K F vs xs) : ItOk K F (Itl K a) xs where
  go := fun i F1 H1 hi e1 e2 => by
    have z : SqL K H1 a vs := .inl (Evl.ex_rd (e1.trans e2) h)
    exact ⟨vs, vs[i]'(by rw [i1.len]; exact hi), z, List.getElem?_eq_getElem _⟩
  stop := fun i F1 H1 hi e1 e2 => ⟨vs, .inl (Evl.ex_rd (e1.trans e2) h), by rw [i1.len]; exact hi⟩
  yld := fun i F1 H1 v H2 x hx e1 e2 ⟨eh, q⟩ => by
    subst eh
    have z := q vs (.inl (Evl.ex_rd (e1.trans e2) h))
    obtain ⟨u, hu, is⟩ := i1.get hx
    rw [z] at hu; cases hu
    exact ⟨F1, Grow.refl e2, is.up e1⟩
theorem itok_t {K : Frag} {a : Addr} {vs : List V} {xs : List D} (h : SqT K F a vs) (i1 : IsAll K F vs xs) : ItOk K F (Itt K a) xs where
  go := fun i F1 H1 hi e1 e2 => by
    have z : SqT K H1 a vs := Evl.ex_t (e1.trans e2) h
    exact ⟨vs, vs[i]'(by rw [i1.len]; exact hi), z, List.getElem?_eq_getElem _⟩
  stop := fun i F1 H1 hi e1 e2 => ⟨vs, Evl.ex_t (e1.trans e2) h, by rw [i1.len]; exact hi⟩
  yld := fun i F1 H1 v H2 x hx e1 e2 ⟨eh, q⟩ => by
    subst eh
    have z := q vs (Evl.ex_t (e1.trans e2) h)
    obtain ⟨u, hu, is⟩ := i1.get hx
    rw [z] at hu; cases hu
    exact ⟨F1, Grow.refl e2, is.up e1⟩
theorem itok_r {K : Frag} {lo : Int} {n : Nat} : ItOk K F (Itr lo n) ((List.range n).map fun i : Nat => D.int (lo + i)) where
  go := fun i F1 H1 hi e1 e2 => by
    have h : i < n := by simpa using hi
    exact h
  stop := fun i F1 H1 hi e1 e2 => by
    have h : n ≤ i := by simpa using hi
    exact h
  yld := fun i F1 H1 v H2 x hx e1 e2 ⟨eh, q⟩ => by
    subst eh q
    refine ⟨F1, Grow.refl e2, ?_⟩
    rw [List.getElem?_map] at hx
    obtain ⟨p, hp, e⟩ := Option.map_eq_some_iff.mp hx
    have := List.getElem?_eq_some_iff.mp hp
    obtain ⟨h1, h2⟩ := this
    rw [List.getElem_range] at h2
    subst h2 e
    exact .int _
theorem wpi_lst {te : TE} {k : List D → List S → Prop} (h : WpD B te ρ fun x ρ1 => ∃ xs, x = .lst xs ∧ k xs ρ1) : WpI B (iAny B.K te) ρ k := fun F H σ τ θ E R hq => .inl (h F H σ τ θ E _ fun F1 H1 v x ρ1 hk u1 E1 => by
  obtain ⟨xs, rfl, hk⟩ := hk
  have z := E1.datum
  cases z with
  | lst r1 i1 => exact ⟨_, rfl, ⟨_, .inl (Evl.ex_rd E1.fh r1)⟩, hq F1 H1 _ xs ρ1 hk u1 E1.pop (itok_l r1 i1)⟩)
theorem wpi_tup {te : TE} {k : List D → List S → Prop} (h : WpD B te ρ fun x ρ1 => ∃ xs, x = .tup xs ∧ k xs ρ1) : WpI B (iAny B.K te) ρ k := fun F H σ τ θ E R hq => .inr (h F H σ τ θ E _ fun F1 H1 v x ρ1 hk u1 E1 => by
  obtain ⟨xs, rfl, hk⟩ := hk
  have z := E1.datum
  cases z with
  | tup r1 i1 => exact ⟨_, rfl, ⟨_, Evl.ex_t E1.fh r1⟩, hq F1 H1 _ xs ρ1 hk u1 E1.pop (itok_t r1 i1)⟩)
/-- lo, lo + 1, .. (n of them) -/
def rngD (lo : Int) (n : Nat) : List D := (List.range n).map fun i : Nat => D.int (lo + i)
theorem wpi_r1 {ta : TA} {k : List D → List S → Prop} (h : WpA B ta ρ fun ts ρ1 => ∃ j : Int, ts = [.d (.int j)] ∧ (-(2 ^ 62) ≤ j ∧ j < 2 ^ 62) ∧ k (rngD 0 j.toNat) ρ1) : WpI B (iRng1 ta) ρ k := fun F H σ τ θ E R hq => h F H σ τ θ E _ fun F1 H1 vs ts ρ1 hk u1 E1 hl => by
  obtain ⟨j, rfl, ⟨q1, q2⟩, hk⟩ := hk
  obtain ⟨v, rfl⟩ := one_of hl
  have w0 := E1.datum
  cases w0
  exact ⟨j, rfl, q1, q2, hq F1 H1 _ _ ρ1 hk u1 E1.pop itok_r⟩
theorem wpi_r2 {ta : TA} {k : List D → List S → Prop} (h : WpA B ta ρ fun ts ρ1 => ∃ i j : Int, ts = [.d (.int i), .d (.int j)] ∧ (-(2 ^ 62) ≤ i ∧ i < 2 ^ 62 ∧ -(2 ^ 62) ≤ j ∧ j < 2 ^ 62) ∧ k (rngD i (j - i).toNat) ρ1) : WpI B (iRng2 ta) ρ k := fun F H σ τ θ E R hq => h F H σ τ θ E _ fun F1 H1 vs ts ρ1 hk u1 E1 hl => by
  obtain ⟨i, j, rfl, q, hk⟩ := hk
  obtain ⟨v, w, rfl⟩ := two_of hl
  have w0 := E1.datum1
  cases w0
  have w1 := E1.datum2
  cases w1
  exact ⟨i, j, rfl, q, hq F1 H1 _ _ ρ1 hk u1 E1.two.pop.pop itok_r⟩
def zipD : List D → List D → List D
  | x :: xs, y :: ys => .tup [x, y] :: zipD xs ys
  | _, _ => []
theorem zipD_get : ∀ {xs ys : List D} {i : Nat} {z : D}, (zipD xs ys)[i]? = some z → ∃ x y, xs[i]? = some x ∧ ys[i]? = some y ∧ z = .tup [x, y]
  | [], _, _, _, h => by simp [zipD] at h
  | _ :: _, [], _, _, h => by simp [zipD] at h
  | x :: xs, y :: ys, 0, z, h => by simp [zipD] at h; exact ⟨x, y, rfl, rfl, h.symm⟩
  | x :: xs, y :: ys, i + 1, z, h => by simpa using zipD_get (xs := xs) (ys := ys) (i := i) (by simpa [zipD] using h)
theorem zipD_len : ∀ (xs ys : List D), (zipD xs ys).length = min xs.length ys.length
  | [], _ => by simp [zipD]
  | _ :: _, [] => by simp [zipD]
  | x :: xs, y :: ys => by simp [zipD, zipD_len xs ys]
theorem itok_z {K : Frag} {a b : Addr} {vs ws : List V} {xs ys : List D} (h : Rd F a (.lst vs)) (i1 : IsAll K F vs xs) (g : Rd F b (.lst ws)) (i2 : IsAll K F ws ys) : ItOk K F (Itz K a b) (zipD xs ys) where
  go := fun i F1 H1 hi e1 e2 => by
    rw [zipD_len] at hi
    exact ⟨vs, ws, vs[i]'(by rw [i1.len]; omega), ws[i]'(by rw [i2.len]; omega), .inl (Evl.ex_rd (e1.trans e2) h), .inl (Evl.ex_rd (e1.trans e2) g), List.getElem?_eq_getElem _, List.getElem?_eq_getElem _⟩
  stop := fun i F1 H1 hi e1 e2 => ⟨vs, ws, .inl (Evl.ex_rd (e1.trans e2) h), .inl (Evl.ex_rd (e1.trans e2) g), by rw [zipD_len] at hi; rw [i1.len, i2.len]; omega⟩
  yld := fun i F1 H1 v H2 x hx e1 e2 ⟨T, x1, y1, q1, q2, q3, q4, q5⟩ => by
    subst q1 q3
    obtain ⟨dx, dy, hx1, hy1, rfl⟩ := zipD_get hx
    have z1 := q4 vs (.inl (Evl.ex_rd (e1.trans e2) h))
    have z2 := q5 ws (.inl (Evl.ex_rd (e1.trans e2) g))
    obtain ⟨u1, hu1, is1⟩ := i1.get hx1
    obtain ⟨u2, hu2, is2⟩ := i2.get hy1
    rw [z1] at hu1; cases hu1
    rw [z2] at hu2; cases hu2
    have gr := Grow.laid (o := .tup [x1, y1]) e2 q2
    exact ⟨_, gr, .tup (SqT.of upd_same) (.cons (is1.up (e1.trans gr.ff)) (.cons (is2.up (e1.trans gr.ff)) .nil))⟩
theorem itok_zT {K : Frag} {a b : Addr} {vs ws : List V} {xs ys : List D} (h : SqT K F a vs) (i1 : IsAll K F vs xs) (g : SqT K F b ws) (i2 : IsAll K F ws ys) : ItOk K F (ItzT K a b) (zipD xs ys) where
  go := fun i F1 H1 hi e1 e2 => by
    rw [zipD_len] at hi
    exact ⟨vs, ws, vs[i]'(by rw [i1.len]; omega), ws[i]'(by rw [i2.len]; omega), Evl.ex_t (e1.trans e2) h, Evl.ex_t (e1.trans e2) g, List.getElem?_eq_getElem _, List.getElem?_eq_getElem _⟩
  stop := fun i F1 H1 hi e1 e2 => ⟨vs, ws, Evl.ex_t (e1.trans e2) h, Evl.ex_t (e1.trans e2) g, by rw [zipD_len] at hi; rw [i1.len, i2.len]; omega⟩
  yld := fun i F1 H1 v H2 x hx e1 e2 ⟨T, x1, y1, q1, q2, q3, q4, q5⟩ => by
    subst q1 q3
    obtain ⟨dx, dy, hx1, hy1, rfl⟩ := zipD_get hx
    have z1 := q4 vs (Evl.ex_t (e1.trans e2) h)
    have z2 := q5 ws (Evl.ex_t (e1.trans e2) g)
    obtain ⟨u1, hu1, is1⟩ := i1.get hx1
    obtain ⟨u2, hu2, is2⟩ := i2.get hy1
    rw [z1] at hu1; cases hu1
    rw [z2] at hu2; cases hu2
    have gr := Grow.laid (o := .tup [x1, y1]) e2 q2
    exact ⟨_, gr, .tup (SqT.of upd_same) (.cons (is1.up (e1.trans gr.ff)) (.cons (is2.up (e1.trans gr.ff)) .nil))⟩
theorem wpi_zip {ta tb : TE} {k : List D → List S → Prop} (h : WpD B ta ρ fun x ρ1 => WpD B tb ρ1 fun y ρ2 => (∃ xs ys, x = .lst xs ∧ y = .lst ys ∧ k (zipD xs ys) ρ2) ∨ ∃ xs ys, x = .tup xs ∧ y = .tup ys ∧ k (zipD xs ys) ρ2) : WpI B (iZipA B.K (tCons ta (tCons tb tNil))) ρ k := fun F H σ τ θ E R hq =>
  h F H σ τ θ E _ fun F1 H1 v x ρ1 h1 u1 E1 => h1 F1 H1 σ _ _ E1 _ fun F2 H2 w y ρ2 h2 u2 E2 => by
  rcases h2 with ⟨xs, ys, rfl, rfl, hk⟩ | ⟨xs, ys, rfl, rfl, hk⟩
  · have z1 := E2.pop.datum
    have z2 := E2.datum
    cases z1 with
    | lst r1 i1 =>
      cases z2 with
      | lst r2 i2 => exact ⟨_, _, _, _, rfl, .inl ⟨.inl (Evl.ex_rd E2.fh r1), .inl (Evl.ex_rd E2.fh r2), hq F2 H2 _ _ ρ2 hk (u1.trans u2) E2.pop.pop (itok_z r1 i1 r2 i2)⟩⟩
  · have z1 := E2.pop.datum
    have z2 := E2.datum
    cases z1 with
    | tup r1 i1 =>
      cases z2 with
      | tup r2 i2 => exact ⟨_, _, _, _, rfl, .inr ⟨Evl.ex_t E2.fh r1, Evl.ex_t E2.fh r2, hq F2 H2 _ _ ρ2 hk (u1.trans u2) E2.pop.pop (itok_zT r1 i1 r2 i2)⟩⟩
def enumD (n : Nat) : List D → List D
  | [] => []
  | x :: xs => .tup [.int n, x] :: enumD (n + 1) xs
theorem enumD_get : ∀ {xs : List D} {n i : Nat} {z : D}, (enumD n xs)[i]? = some z → ∃ x, xs[i]? = some x ∧ z = .tup [.int ((n + i : Nat) : Int), x]
  | [], _, _, _, h => by simp [enumD] at h
  | x :: xs, n, 0, z, h => by simp [enumD] at h; exact ⟨x, rfl, h.symm⟩
  | x :: xs, n, i + 1, z, h => by
    obtain ⟨y, e1, e2⟩ := enumD_get (xs := xs) (n := n + 1) (i := i) (by simpa [enumD] using h)
    exact ⟨y, by simpa using e1, by rw [e2, show n + 1 + i = n + (i + 1) by omega]⟩
theorem enumD_len : ∀ (xs : List D) (n : Nat), (enumD n xs).length = xs.length
  | [], _ => rfl
  | x :: xs, n => by simp [enumD, enumD_len xs]
theorem itok_e {K : Frag} {a : Addr} {vs : List V} {xs : List D} (h : Rd F a (.lst vs)) (i1 : IsAll K F vs xs) : ItOk K F (Ite K a) (enumD 0 xs) where
  go := fun i F1 H1 hi e1 e2 => by
    rw [enumD_len] at hi
    exact ⟨vs, vs[i]'(by rw [i1.len]; omega), .inl (Evl.ex_rd (e1.trans e2) h), List.getElem?_eq_getElem _⟩
  stop := fun i F1 H1 hi e1 e2 => ⟨vs, .inl (Evl.ex_rd (e1.trans e2) h), by rw [enumD_len] at hi; rw [i1.len]; omega⟩
  yld := fun i F1 H1 v H2 x hx e1 e2 ⟨T, x1, q1, q2, q3, q4⟩ => by
    subst q1 q3
    obtain ⟨dx, hx1, rfl⟩ := enumD_get hx
    have z1 := q4 vs (.inl (Evl.ex_rd (e1.trans e2) h))
    obtain ⟨u1, hu1, is1⟩ := i1.get hx1
    rw [z1] at hu1; cases hu1
    have gr := Grow.laid (o := .tup [.int (i : Nat), x1]) e2 q2
    rw [Nat.zero_add]
    exact ⟨_, gr, .tup (SqT.of upd_same) (.cons (.int _) (.cons (is1.up (e1.trans gr.ff)) .nil))⟩
theorem wpi_enum {ta : TE} {k : List D → List S → Prop} (h : WpD B ta ρ fun x ρ1 => ∃ xs, x = .lst xs ∧ k (enumD 0 xs) ρ1) : WpI B (iEnum B.K (tCons ta tNil)) ρ k := fun F H σ τ θ E R hq =>
  h F H σ τ θ E _ fun F1 H1 v x ρ1 h1 u1 E1 => by
  obtain ⟨xs, rfl, hk⟩ := h1
  have z1 := E1.datum
  cases z1 with
  | lst r1 i1 => exact ⟨_, _, rfl, .inl (Evl.ex_rd E1.fh r1), hq F1 H1 _ _ ρ1 hk u1 E1.pop (itok_e r1 i1)⟩

/-! ### loops -/
theorem wps_for {wi : TI} {g : TG} {tb : TS} (h : WpI B wi ρ fun xs ρ1 => ∃ inv : Nat → List S → Prop, inv 0 ρ1 ∧ (∀ i x ρ2, xs[i]? = some x → inv i ρ2 → WpG B true g (.d x) ρ2 fun ρ3 => WpS B tb ρ3 { nx := inv (i + 1), rt := P.rt, bk := P.nx, ct := inv (i + 1) }) ∧ ∀ ρ2, inv xs.length ρ2 → P.nx ρ2) : WpS B (tFor wi g tb) ρ P := fun F H σ E D a b c d =>
  h F H σ [] [] E _ fun F0 H0 J xs ρ1 hk u0 E0 it => by
  obtain ⟨inv, h0, step, last⟩ := hk
  refine ⟨fun i m σ H => m = xs.length - i ∧ i ≤ xs.length ∧ ∃ F ρ, inv i ρ ∧ Up B F0 F ∧ Ev B F H σ [] ρ [], ⟨_, rfl, Nat.zero_le _, F0, ρ1, h0, Up.refl, E0⟩, fun i m σ1 H1 hW => ?_⟩
  obtain ⟨rfl, hi, F1, ρ2, hinv, u1, E1⟩ := hW
  by_cases e : i = xs.length
  · subst e
    exact .inl ⟨it.stop _ F1 H1 (Nat.le_refl _) u1.ex E1.fh, a F1 H1 σ1 ρ2 (last ρ2 hinv) (u0.trans u1) E1⟩
  · have hlt : i < xs.length := by omega
    refine .inr ⟨it.go i F1 H1 hlt u1.ex E1.fh, fun σ H => ∃ F ρ, inv (i + 1) ρ ∧ Up B F0 F ∧ Ev B F H σ [] ρ [], fun σ' H' hN => ⟨_, by omega, rfl, hlt, hN⟩, fun v H2 hy => ?_⟩
    obtain ⟨F2, gr, is⟩ := it.yld i F1 H1 v H2 (xs[i]'hlt) (List.getElem?_eq_getElem hlt) u1.ex E1.fh hy
    have u2 := gr.up E1.g
    have E2 := (E1.grow gr).push_d is
    refine step i _ ρ2 (List.getElem?_eq_getElem hlt) hinv F2 H2 σ1 [] [] v E2 (fun _ => rfl) _ fun F3 H3 σ3 ρ3 hk u3 E3 => ?_
    have uu : Up B F0 F3 := (u1.trans u2).trans u3
    exact hk F3 H3 σ3 E3 _ (fun F' H' σ' ρ' q u E' => ⟨F', ρ', q, uu.trans u, E'⟩) (fun F' H' σ' v t ρ' q u => b F' H' σ' v t ρ' q ((u0.trans uu).trans u)) (fun F' H' σ' ρ' q u => a F' H' σ' ρ' q ((u0.trans uu).trans u)) fun F' H' σ' ρ' q u E' => ⟨F', ρ', q, uu.trans u, E'⟩
theorem wps_while {tc : TT} {tb : TS} (inv : Nat → List S → Prop) (m0 : Nat) (h0 : inv m0 ρ) (step : ∀ m ρ2, inv m ρ2 → WpT B tc ρ2 fun bb ρ3 => (bb = true → WpS B tb ρ3 { nx := fun ρ' => ∃ m', m' < m ∧ inv m' ρ', rt := P.rt, bk := P.nx, ct := fun ρ' => ∃ m', m' < m ∧ inv m' ρ' }) ∧ (bb = false → P.nx ρ3)) : WpS B (tWhile tc tb) ρ P := fun F0 H σ E D a b c d => by
  refine ⟨fun m σ H => ∃ F ρ, inv m ρ ∧ Up B F0 F ∧ Ev B F H σ [] ρ [], ⟨m0, F0, ρ, h0, Up.refl, E⟩, fun m σ1 H1 hW => ?_⟩
  obtain ⟨F1, ρ2, hinv, u1, E1⟩ := hW
  refine step m ρ2 hinv F1 H1 σ1 [] [] E1 _ fun F2 H2 bb ρ3 hk u2 E2 => ?_
  cases bb with
  | true =>
    rw [if_pos rfl]
    refine ⟨fun σ H => ∃ m', m' < m ∧ ∃ F ρ, inv m' ρ ∧ Up B F0 F ∧ Ev B F H σ [] ρ [], fun σ' H' hN => hN, ?_⟩
    have uu := u1.trans u2
    exact hk.1 rfl F2 H2 σ1 E2 _ (fun F' H' σ' ρ' ⟨m', hm, q⟩ u E' => ⟨m', hm, F', ρ', q, uu.trans u, E'⟩) (fun F' H' σ' v t ρ' q u => b F' H' σ' v t ρ' q (uu.trans u)) (fun F' H' σ' ρ' q u => a F' H' σ' ρ' q (uu.trans u)) fun F' H' σ' ρ' ⟨m', hm, q⟩ u E' => ⟨m', hm, F', ρ', q, uu.trans u, E'⟩
  | false =>
    rw [if_neg Bool.false_ne_true]
    exact a F2 H2 σ1 ρ3 (hk.2 rfl) (u1.trans u2) E2
/-! ### comprehensions -/
def wipeS (ρ : List S) : List Nat → List S
  | [] => ρ
  | v :: vs => (wipeS ρ vs).set v .u
theorem Ev.wipe {l : List Nat} (hn : ∀ p ∈ B.pl, ∀ v ∈ l, p.1 ≠ v) (hm : ∀ v ∈ l, notM ρ v = true) (E : Ev B F H σ τ ρ θ) : Ev B F H (L2.wipe σ l) τ (wipeS ρ l) θ := by
  induction l with
  | nil => exact E
  | cons v l ih =>
    have E1 := ih (fun p hp v hv => hn p hp v (List.mem_cons_of_mem _ hv)) fun v hv => hm v (List.mem_cons_of_mem _ hv)
    refine E1.forget (fun p hp => hn p hp v (by simp)) (.inl fun c h => ?_)
    have key : ∀ (l : List Nat) (ρ : List S) (i : Nat), notM ρ i = true → notM (wipeS ρ l) i = true := fun l => by
      induction l with
      | nil => exact fun ρ i h => h
      | cons w l ih =>
        intro ρ i h
        have := ih ρ i h
        unfold wipeS
        unfold notM at this ⊢
        by_cases e : w = i
        · subst e
          by_cases hl : w < (wipeS ρ l).length
          · rw [List.getElem?_set_self hl]
          · rw [List.getElem?_eq_none (by simpa using hl)]
        · rw [List.getElem?_set_ne e]; exact this
    exact notM_ok (key l ρ v (hm v (by simp))) h
/-- the slots that were wiped come back, unknown -/
theorem Ev.unwipe {ρ' : List S} (σ0 : L2.St) : ∀ (l : List Nat), (∀ p ∈ B.pl, ∀ v ∈ l, p.1 ≠ v) → (∀ v ∈ l, ρ'[v]? = none ∨ ρ'[v]? = some .u) → Ev B F H (L2.wipe σ0 l) τ ρ' θ → Ev B F H σ0 τ ρ' θ
  | [], _, _, E => E
  | v :: l, hn, hu, E => by
    have e : (L2.wipe σ0 (v :: l)).set v ((L2.wipe σ0 l).getD v none) = L2.wipe σ0 l := by
      show ((L2.wipe σ0 l).set v none).set v _ = _
      rw [List.set_set]
      refine List.ext_getElem? fun n => ?_
      by_cases en : v = n
      · subst en
        by_cases hl : v < (L2.wipe σ0 l).length
        · rw [List.getElem?_set_self hl, List.getD_eq_getElem?_getD, List.getElem?_eq_getElem hl]; rfl
        · rw [List.getElem?_eq_none (by simpa using hl), List.getElem?_eq_none (by omega)]
      · rw [List.getElem?_set_ne en]
    have er : ρ'.set v .u = ρ' := by
      refine List.ext_getElem? fun n => ?_
      by_cases en : v = n
      · subst en
        by_cases hl : v < ρ'.length
        · rw [List.getElem?_set_self hl]
          rcases hu v (by simp) with h | h
          · rw [List.getElem?_eq_getElem hl] at h; cases h
          · exact h.symm
        · rw [List.getElem?_eq_none (by simpa using hl), List.getElem?_eq_none (by omega)]
      · rw [List.getElem?_set_ne en]
    have E1 := E.forget (o := (L2.wipe σ0 l).getD v none) (i := v) (fun p hp => hn p hp v (by simp)) (.inl fun c h => by
      rcases hu v (by simp) with g | g <;> rw [g] at h <;> cases h)
    rw [e, er] at E1
    exact Ev.unwipe σ0 l (fun p hp v hv => hn p hp v (List.mem_cons_of_mem _ hv)) (fun v hv => hu v (List.mem_cons_of_mem _ hv)) E1
end
end Dl

set_option Elab.async false
set_option linter.all false
set_option maxRecDepth 100000
set_option maxHeartbeats 4000000
/-! Comprehensions, and promises from bodies. -/
namespace Dl
open PySem PySem.Spec PyProof.Rows L2 Rl RZ RT
open Evl (Ex)
/-! ### targets that set own slots alone -/
def GIn (g : TG) (vs : List Nat) : Prop := ∀ x σ H Q, g x σ H Q → g x σ H fun σ2 H2 => L2.wipe σ2 vs = L2.wipe σ vs ∧ Q σ2 H2
def GIns (g : TGs) (vs : List Nat) : Prop := ∀ xs σ H Q, g xs σ H Q → g xs σ H fun σ2 H2 => L2.wipe σ2 vs = L2.wipe σ vs ∧ Q σ2 H2
theorem wipe_len : ∀ (σ : L2.St) (vs : List Nat), (L2.wipe σ vs).length = σ.length
  | σ, [] => rfl
  | σ, v :: vs => by
    show ((L2.wipe σ vs).set v none).length = _
    rw [List.length_set, wipe_len]
theorem wipe_set {x : Option V} {i : Nat} (σ : L2.St) : ∀ (vs : List Nat), i ∈ vs → L2.wipe (σ.set i x) vs = L2.wipe σ vs
  | [], h => by cases h
  | v :: vs, h => by
    show (L2.wipe (σ.set i x) vs).set v none = (L2.wipe σ vs).set v none
    by_cases hm : i ∈ vs
    · rw [wipe_set σ vs hm]
    · have e : i = v := by
        rcases List.mem_cons.mp h with h | h
        · exact h
        · exact absurd h hm
      subst e
      have key : ∀ (ws : List Nat), i ∉ ws → L2.wipe (σ.set i x) ws = (L2.wipe σ ws).set i x := fun ws => by
        induction ws with
        | nil => intro _; rfl
        | cons w ws ih =>
          intro hn
          show (L2.wipe (σ.set i x) ws).set w none = ((L2.wipe σ ws).set w none).set i x
          rw [ih (fun q => hn (List.mem_cons_of_mem _ q)), List.set_comm]
          intro e; subst e; exact hn (by simp)
      rw [key vs hm, List.set_set]
theorem gin_name {i : Nat} {vs : List Nat} (h : vs.contains i = true) : GIn (gName i) vs := fun x σ H Q q => ⟨wipe_set σ vs (List.contains_iff_mem.mp h), q⟩
theorem gin_nil {vs : List Nat} : GIns gNil vs := fun xs σ H Q ⟨e, q⟩ => ⟨e, rfl, q⟩
class GMono (g : TG) : Prop where
  mono : ∀ x σ H (Q Q' : L2.St → Hp → Prop), (∀ σ H, Q σ H → Q' σ H) → g x σ H Q → g x σ H Q'
class GsMono (g : TGs) : Prop where
  mono : ∀ x σ H (Q Q' : L2.St → Hp → Prop), (∀ σ H, Q σ H → Q' σ H) → g x σ H Q → g x σ H Q'
instance {i : Nat} : GMono (gName i) := ⟨fun x σ H Q Q' h q => h _ _ q⟩
instance : GsMono gNil := ⟨fun x σ H Q Q' h ⟨e, q⟩ => ⟨e, h _ _ q⟩⟩
instance {g : TG} {gs : TGs} [a : GMono g] [b : GsMono gs] : GsMono (gCons g gs) := ⟨fun x σ H Q Q' h ⟨v, r, e, q⟩ => ⟨v, r, e, a.mono _ _ _ _ _ (fun σ H q => b.mono _ _ _ _ _ h q) q⟩⟩
instance {K : Frag} {n : Nat} {gs : TGs} [b : GsMono gs] : GMono (gTup K n gs) := ⟨fun x σ H Q Q' h ⟨a, xs, e1, e2, e3, q⟩ => ⟨a, xs, e1, e2, e3, b.mono _ _ _ _ _ h q⟩⟩
theorem gin_cons {g : TG} {gs : TGs} {vs : List Nat} [GMono g] [GsMono gs] (h : GIn g vs) (hs : GIns gs vs) : GIns (gCons g gs) vs := fun xs σ H Q ⟨v, r, e, q⟩ => ⟨v, r, e, GMono.mono _ _ _ _ _ (fun σ1 H1 ⟨e1, q1⟩ => GsMono.mono _ _ _ _ _ (fun σ2 H2 ⟨e2, q2⟩ => ⟨by rw [e2, e1], q2⟩) (hs _ _ _ _ q1)) (h _ _ _ _ q)⟩
theorem gin_tup {K : Frag} {n : Nat} {gs : TGs} {vs : List Nat} (h : GIns gs vs) : GIn (gTup K n gs) vs := fun x σ H Q ⟨a, xs, e1, e2, e3, q⟩ => ⟨a, xs, e1, e2, e3, h _ _ _ _ q⟩
theorem wipe_wipe (σ : L2.St) : ∀ (vs : List Nat), L2.wipe (L2.wipe σ vs) vs = L2.wipe σ vs := fun vs => by
  have key : ∀ (ws us : List Nat), (∀ u ∈ us, u ∈ ws) → L2.wipe (L2.wipe σ us) ws = L2.wipe σ ws := fun ws us => by
    induction us with
    | nil => intro _; rfl
    | cons u us ih =>
      intro h
      show L2.wipe ((L2.wipe σ us).set u none) ws = _
      rw [wipe_set _ ws (h u (by simp)), ih fun v hv => h v (List.mem_cons_of_mem _ hv)]
  exact key vs vs fun _ h => h
section
variable {B : Fix} {F H F' H' : Hp} {σ : L2.St} {τ vs : List V} {ρ ρ' : List S} {θ ts us as : List T} {v : V} {t : T} {P : Ps} {l : List Nat} {x : D}
/-- the list on the way is changed -/
theorem Ev.chg_top {a : Addr} {o : HO} {c c' : OC} (E : Ev B F H σ (τ ++ [.ref a]) ρ (θ ++ [.m c])) (h : OCat B.K F (upd H a o) a c') : Ev B F (upd H a o) σ (τ ++ [.ref a]) ρ (θ ++ [.m c']) := by
  obtain ⟨a', ea, fa, ga, oc0⟩ := E.last
  cases ea
  have E' := E.pop
  have lt := E'.lt
  have lastT : (θ ++ [T.m c])[θ.length]? = some (.m c) := by simp
  have lastV : (τ ++ [V.ref a])[θ.length]? = some (.ref a) := by rw [← lt]; simp
  have up : ∀ {F' : Hp}, F' a = none → Ex F' H → Ex F' (upd H a o) := fun {F'} n e b u q => by
    rw [upd_ne (ne_of_none q n)]; exact e b u q
  have oc : ∀ {b : Addr} {d : OC}, b ≠ a → OCat B.K F H b d → OCat B.K F (upd H a o) b d := fun {b d} n q => q.mono (Ex.refl F) fun u z => by rw [upd_ne n]; exact z
  have E2 : Ev B F (upd H a o) σ τ ρ θ := by
    refine { g := up ga E.g, fh := up fa E.fh, ls := E'.ls, lt := E'.lt, sl := fun j s w q1 q2 => ?_, tp := fun j t w q1 q2 => ?_, ss := E'.ss, st := E'.st, tt := E'.tt, pn := E'.pn }
    · have z := E'.sl j s w q1 q2
      cases s with
      | u => trivial
      | d x => exact z
      | m d =>
        obtain ⟨b, e, z1, z2, z3⟩ := z
        subst e
        exact ⟨b, rfl, z1, z2, oc (fun eb => by subst eb; exact E.st j θ.length d c b q1 lastT q2 lastV) z3⟩
    · have z := E'.tp j t w q1 q2
      cases t with
      | d x => exact z
      | m d =>
        obtain ⟨b, e, z1, z2, z3⟩ := z
        subst e
        have hj := (List.getElem?_eq_some_iff.mp q1).1
        refine ⟨b, rfl, z1, z2, oc (fun eb => ?_) z3⟩
        subst eb
        have := E.tt j θ.length d c b (by rw [List.getElem?_append_left hj]; exact q1) lastT (by rw [List.getElem?_append_left (by omega)]; exact q2) lastV
        omega
      | «at» k => exact z
  refine E2.push (t := .m c') ⟨a, rfl, fa, ga, h⟩ (fun i c1 c2 b _ e q1 q2 => ?_) fun i c1 c2 b _ e q1 q2 => ?_
  · cases e
    exact E.st i θ.length c1 c a q1 lastT q2 lastV
  · cases e
    have hj := (List.getElem?_eq_some_iff.mp q1).1
    have := E.tt i θ.length c1 c a (by rw [List.getElem?_append_left hj]; exact q1) lastT (by rw [List.getElem?_append_left (by omega)]; exact q2) lastV
    omega
/-- nothing owned stands in the own slots; nothing at all -/
def nmOk (ρ : List S) (vs : List Nat) : Bool := vs.all fun v => notM ρ v
def uOk (ρ : List S) (vs : List Nat) : Bool := vs.all fun v => match ρ[v]? with
  | none => true
  | some .u => true
  | _ => false
def noPin (l vs : List Nat) : Bool := vs.all fun v => !l.contains v
theorem noPin_ok {us : List Nat} (hB : Pn B l) (h : noPin l us = true) : ∀ p ∈ B.pl, ∀ v ∈ us, p.1 ≠ v := fun p hp v hv => by
  have := List.all_eq_true.mp h v hv
  exact hB.no (by simpa using this) p hp
theorem nm_ok {us : List Nat} (h : nmOk ρ us = true) : ∀ v ∈ us, notM ρ v = true := fun v hv => List.all_eq_true.mp h v hv
theorem u_ok {us : List Nat} (h : uOk ρ us = true) : ∀ v ∈ us, ρ[v]? = none ∨ ρ[v]? = some .u := fun v hv => by
  have := List.all_eq_true.mp h v hv
  revert this
  cases ρ[v]? with
  | none => intro _; exact .inl rfl
  | some s => cases s <;> intro h <;> first | exact .inr rfl | (cases h)
theorem wp_lc {wi : TI} {g : TG} [GMono g] {tt : TT} {te : TE} {us : List Nat} {k : T → List S → Prop} (hB : Pn B l) (hp : noPin l us = true) (hg : GIn g us)
    (h : WpI B wi ρ fun xs ρ1 => nmOk ρ1 us = true ∧ ∃ inv : Nat → List D → List S → Prop, inv 0 [] (wipeS ρ1 us) ∧
      (∀ i x acc ρ2, xs[i]? = some x → inv i acc ρ2 → WpG B false g (.d x) ρ2 fun ρ3 => WpT B tt ρ3 fun b ρ4 => (b = true → WpD B te ρ4 fun y ρ5 => acc.length < sizeLine ∧ nmOk ρ5 us = true ∧ inv (i + 1) (acc ++ [y]) (wipeS ρ5 us)) ∧ (b = false → nmOk ρ4 us = true ∧ inv (i + 1) acc (wipeS ρ4 us))) ∧
      ∀ acc ρ2, inv xs.length acc ρ2 → uOk ρ2 us = true ∧ k (.m (.lst acc)) ρ2) : Wp B (tLc wi g tt te us) ρ k := fun F H σ τ θ E Q hq => by
  have hpp := noPin_ok hB hp
  refine h F H σ τ θ E _ fun F0 H0 J xs ρ1 hk u0 E0 it A hA => ?_
  obtain ⟨nm, inv, h0, step, last⟩ := hk
  have Ea : Ev B F0 (upd H0 A (.lst [])) σ (τ ++ [.ref A]) ρ1 (θ ++ [.m (.lst [])]) := E0.push_new hA ⟨[], upd_same, .nil⟩
  have Eb := Ea.wipe hpp (nm_ok nm)
  refine ⟨fun i m H => m = xs.length - i ∧ i ≤ xs.length ∧ ∃ F acc ρ, inv i acc ρ ∧ Up B F0 F ∧ Ev B F H (L2.wipe σ us) (τ ++ [.ref A]) ρ (θ ++ [.m (.lst acc)]), ⟨_, rfl, Nat.zero_le _, F0, [], _, h0, Up.refl, Eb⟩, fun i m H1 hW => ?_⟩
  obtain ⟨rfl, hi, F1, acc, ρ2, hinv, u1, E1⟩ := hW
  by_cases e : i = xs.length
  · subst e
    obtain ⟨l1, l2⟩ := last acc ρ2 hinv
    exact .inl ⟨it.stop _ F1 H1 (Nat.le_refl _) u1.ex E1.fh, hq F1 H1 _ _ ρ2 l2 (u0.trans u1) (Ev.unwipe σ us hpp (u_ok l1) E1)⟩
  · have hlt : i < xs.length := by omega
    refine .inr ⟨it.go i F1 H1 hlt u1.ex E1.fh, fun H => ∃ F acc ρ, inv (i + 1) acc ρ ∧ Up B F0 F ∧ Ev B F H (L2.wipe σ us) (τ ++ [.ref A]) ρ (θ ++ [.m (.lst acc)]), fun H' hN => ⟨_, by omega, rfl, hlt, hN⟩, fun v H2 hy => ?_⟩
    obtain ⟨F2, gr, is⟩ := it.yld i F1 H1 v H2 (xs[i]'hlt) (List.getElem?_eq_getElem hlt) u1.ex E1.fh hy
    have u2 := gr.up E1.g
    have E2 := (E1.grow gr).push_d is
    refine GMono.mono _ _ _ _ _ (fun σ2 H2 ⟨e1, q1⟩ => ?mm) (hg _ _ _ _ (step i _ acc ρ2 (List.getElem?_eq_getElem hlt) hinv F2 H2 (L2.wipe σ us) (τ ++ [.ref A]) (θ ++ [.m (.lst acc)]) v E2 (fun e => by cases e) (fun σ2 H2 => L2.wipe σ2 us = L2.wipe σ us → tt σ2 H2 fun b H3 =>
        if b = true then te σ2 H3 fun y H4 => ∃ acc, H4 A = some (.lst acc) ∧ acc.length < sizeLine ∧ ∃ F acc2 ρ, inv (i + 1) acc2 ρ ∧ Up B F0 F ∧ Ev B F (upd H4 A (.lst (acc ++ [y]))) (L2.wipe σ us) (τ ++ [.ref A]) ρ (θ ++ [.m (.lst acc2)]) else ∃ F acc ρ, inv (i + 1) acc ρ ∧ Up B F0 F ∧ Ev B F H3 (L2.wipe σ us) (τ ++ [.ref A]) ρ (θ ++ [.m (.lst acc)])) fun F3 H3 σ3 ρ3 hk u3 E3 ew => ?kk))
    case mm =>
      rw [wipe_wipe] at e1
      exact ⟨e1, q1 e1⟩
    case kk =>
      refine hk F3 H3 σ3 _ _ E3 _ fun F4 H4 b ρ4 hb u4 E4 => ?_
      cases b with
      | false =>
        rw [if_neg Bool.false_ne_true]
        obtain ⟨n1, n2⟩ := hb.2 rfl
        have E5 := E4.wipe hpp (nm_ok n1)
        rw [ew] at E5
        exact ⟨F4, acc, _, n2, ((u1.trans u2).trans u3).trans u4, E5⟩
      | true =>
        rw [if_pos rfl]
        refine hb.1 rfl F4 H4 σ3 _ _ E4 _ fun F5 H5 y x ρ5 hc u5 E5 => ?_
        obtain ⟨hl, n1, n2⟩ := hc
        have dy := E5.datum
        have E6 := E5.pop
        obtain ⟨a', ea, fa, ga, ws, o2, is2⟩ := E6.last
        cases ea
        have E7 := E6.chg_top (c' := .lst (acc ++ [x])) (o := .lst (ws ++ [y])) ⟨_, upd_same, is2.app (.cons dy .nil)⟩
        have E8 := E7.wipe hpp (nm_ok n1)
        rw [ew] at E8
        exact ⟨ws, o2, by rw [is2.len]; exact hl, F5, _, _, n2, (((u1.trans u2).trans u3).trans u4).trans u5, E8⟩
/-! ### promises from bodies -/
def toS : T → S
  | .d x => .d x
  | .m c => .m c
  | .at _ => .u
/-- the slots that are pinned -/
def pinIx : Nat → List T → List Nat
  | _, [] => []
  | n, .m _ :: as => n :: pinIx (n + 1) as
  | n, _ :: as => pinIx (n + 1) as
def pinL : Nat → List T → List V → List (Nat × Addr)
  | n, .m _ :: as, .ref a :: vs => (n, a) :: pinL (n + 1) as vs
  | n, _ :: as, _ :: vs => pinL (n + 1) as vs
  | _, _, _ => []
/-- the arguments behind a call -/
def argsOf (ρ : List S) : Nat → List T → List T
  | _, [] => []
  | n, .m c :: as => (match ρ[n]? with
    | some (.m c') => .m c'
    | _ => .m c) :: argsOf ρ (n + 1) as
  | n, t :: as => t :: argsOf ρ (n + 1) as
def retT (ρ : List S) : T → T
  | .at k => match ρ[k]? with
    | some (.m c) => .m c
    | _ => .d .non
  | t => t
def okRet (l : List Nat) : T → Bool
  | .at k => !l.contains k
  | _ => true
theorem pinL_mem : ∀ {as : List T} {vs : List V} {n : Nat} {p : Nat × Addr}, p ∈ pinL n as vs → ∃ j c, p.1 = n + j ∧ as[j]? = some (T.m c) ∧ vs[j]? = some (.ref p.2)
  | [], vs, n, p, h => by simp [pinL] at h
  | a :: as, [], n, p, h => by cases a <;> simp [pinL] at h
  | a :: as, v :: vs, n, p, h => by
    have go : p ∈ pinL (n + 1) as vs → ∃ j c, p.1 = n + j ∧ (a :: as)[j]? = some (T.m c) ∧ (v :: vs)[j]? = some (.ref p.2) := fun h => by
      obtain ⟨j, c, e1, e2, e3⟩ := pinL_mem h
      exact ⟨j + 1, c, by omega, by simpa using e2, by simpa using e3⟩
    cases a with
    | d x => exact go (by simpa [pinL] using h)
    | «at» k => exact go (by simpa [pinL] using h)
    | m c =>
      cases v with
      | ref a =>
        rcases List.mem_cons.mp (by simpa [pinL] using h : p ∈ (n, a) :: pinL (n + 1) as vs) with h | h
        · subst h; exact ⟨0, c, rfl, rfl, rfl⟩
        · exact go h
      | _ => exact go (by simpa [pinL] using h)
theorem pinL_of : ∀ {as : List T} {vs : List V} {n j : Nat} {c : OC} {a : Addr}, as[j]? = some (T.m c) → vs[j]? = some (.ref a) → (n + j, a) ∈ pinL n as vs
  | [], vs, n, j, c, a, h, _ => by simp at h
  | t :: as, [], n, j, c, a, _, h => by simp at h
  | t :: as, v :: vs, n, 0, c, a, h1, h2 => by
    simp at h1 h2
    subst h1 h2
    simp [pinL]
  | t :: as, v :: vs, n, j + 1, c, a, h1, h2 => by
    have z := pinL_of (as := as) (vs := vs) (n := n + 1) (j := j) (by simpa using h1) (by simpa using h2)
    rw [show n + 1 + j = n + (j + 1) by omega] at z
    cases t with
    | d x => simpa [pinL] using z
    | «at» k => simpa [pinL] using z
    | m c => cases v <;> simp [pinL] <;> first | exact .inr z | exact z
theorem pinIx_eq : ∀ {as : List T} {vs : List V} {n : Nat}, vs.length = as.length → (∀ (j : Nat) (c : OC), as[j]? = some (T.m c) → ∃ a, vs[j]? = some (V.ref a)) → (pinL n as vs).map (·.1) = pinIx n as
  | [], [], n, _, _ => rfl
  | t :: as, v :: vs, n, hl, h => by
    have z := pinIx_eq (as := as) (vs := vs) (n := n + 1) (by simpa using hl) fun j c e => by
      obtain ⟨a, e⟩ := h (j + 1) c (by simpa using e)
      exact ⟨a, by simpa using e⟩
    cases t with
    | d x => simpa [pinL, pinIx] using z
    | «at» k => simpa [pinL, pinIx] using z
    | m c =>
      obtain ⟨a, e⟩ := h 0 c rfl
      simp at e
      subst e
      simp [pinL, pinIx, z]
theorem argsOf_get {ρ : List S} : ∀ {as : List T} {n j : Nat} {t : T}, (argsOf ρ n as)[j]? = some t → ∃ s, as[j]? = some s ∧ ((∀ c, s ≠ .m c) ∧ t = s ∨ ∃ c, s = .m c ∧ ((∃ c', ρ[n + j]? = some (.m c') ∧ t = .m c') ∨ (∀ c', ρ[n + j]? ≠ some (.m c')) ∧ t = .m c))
  | [], n, j, t, h => by simp [argsOf] at h
  | s :: as, n, j + 1, t, h => by
    have h' : (argsOf ρ (n + 1) as)[j]? = some t := by cases s <;> simpa [argsOf] using h
    obtain ⟨s', e1, e2⟩ := argsOf_get h'
    rw [show n + 1 + j = n + (j + 1) by omega] at e2
    exact ⟨s', by simpa using e1, e2⟩
  | s :: as, n, 0, t, h => by
    refine ⟨s, rfl, ?_⟩
    cases s with
    | d x => simp [argsOf] at h; exact .inl ⟨(fun c e => by cases e), h.symm⟩
    | «at» k => simp [argsOf] at h; exact .inl ⟨(fun c e => by cases e), h.symm⟩
    | m c =>
      refine .inr ⟨c, rfl, ?_⟩
      simp only [argsOf, List.getElem?_cons_zero, Option.some.injEq] at h
      rw [Nat.add_zero]
      split at h
      · rename_i c' e; exact .inl ⟨c', e, h.symm⟩
      · rename_i hn; exact .inr ⟨fun c' e => hn c' e, h.symm⟩
theorem argsOf_len {ρ : List S} : ∀ {as : List T} {n : Nat}, (argsOf ρ n as).length = as.length
  | [], _ => rfl
  | s :: as, n => by cases s <;> simp [argsOf, argsOf_len]
theorem fn_of {K : Frag} {sp : Sp} {tb : TS} {n u : Nat} {N : List Str} {as : List T} {k : T → List T → Prop}
    (hsp : ∀ vs H Q (E : XK), (vs.length = n ∧ tb { nx := fun _ H' => Q .non H', rt := Q } (L2.start N vs) H) → sp vs H Q E) (hN : N.length = as.length + u) (has : as.length = n)
    (h : ∀ G pl, Pn ⟨K, G, pl⟩ (pinIx 0 as) → WpS ⟨K, G, pl⟩ tb (as.map toS ++ List.replicate u .u) { nx := fun ρ' => k (.d .non) (argsOf ρ' 0 as), rt := fun t ρ' => okRet (pinIx 0 as) t = true ∧ k (retT ρ' t) (argsOf ρ' 0 as) }) : Fn K sp as k := fun F G H vs E Q hq Ex => by
  have lt := E.lt
  have noat : ∀ j k : Nat, as[j]? ≠ some (T.at k) := fun j k e => by
    obtain ⟨v, hv⟩ : ∃ v, vs[j]? = some v := ⟨_, List.getElem?_eq_getElem (by rw [lt]; exact (List.getElem?_eq_some_iff.mp e).1)⟩
    have := (E.tp j _ v e hv).1
    simp at this
  have refs : ∀ (j : Nat) (c : OC), as[j]? = some (T.m c) → ∃ a, vs[j]? = some (V.ref a) := fun j c e => by
    obtain ⟨v, hv⟩ : ∃ v, vs[j]? = some v := ⟨_, List.getElem?_eq_getElem (by rw [lt]; exact (List.getElem?_eq_some_iff.mp e).1)⟩
    obtain ⟨a, ea, _⟩ := E.tp j _ v e hv
    exact ⟨a, by rw [hv, ea]⟩
  have hpin := pinIx_eq (n := 0) lt refs
  -- slots
  have slot : ∀ {i : Nat} {s : S}, (as.map toS ++ List.replicate u S.u)[i]? = some s → (∃ t, as[i]? = some t ∧ s = toS t) ∨ (as.length ≤ i ∧ s = .u) := fun {i s} e => by
    by_cases hi : i < as.length
    · rw [List.getElem?_append_left (by simpa using hi), List.getElem?_map] at e
      obtain ⟨t, e1, e2⟩ := Option.map_eq_some_iff.mp e
      exact .inl ⟨t, e1, e2.symm⟩
    · rw [List.getElem?_append_right (by simpa using hi)] at e
      exact .inr ⟨by omega, (List.eq_of_mem_replicate (List.mem_of_getElem? e))⟩
  have val : ∀ {i : Nat} {o : Option V}, i < as.length → (L2.start N vs)[i]? = some o → ∃ v, vs[i]? = some v ∧ o = some v := fun {i o} hi e => by
    unfold L2.start at e
    rw [List.getElem?_append_left (by simp; omega), List.getElem?_map] at e
    obtain ⟨v, e1, e2⟩ := Option.map_eq_some_iff.mp e
    exact ⟨v, e1, e2.symm⟩
  have val' : ∀ {i : Nat} {v : V}, vs[i]? = some v → (L2.start N vs)[i]? = some (some v) := fun {i v} e => by
    unfold L2.start
    rw [List.getElem?_append_left (by simp; exact (List.getElem?_eq_some_iff.mp e).1), List.getElem?_map, e]; rfl
  have asm : ∀ {i : Nat} {c : OC}, (as.map toS ++ List.replicate u S.u)[i]? = some (.m c) → as[i]? = some (.m c) := fun {i c} e => by
    rcases slot e with ⟨t, e1, e2⟩ | ⟨_, e2⟩
    · cases t with
      | m c' => cases e2; exact e1
      | d x => cases e2
      | «at» k => cases e2
    · cases e2
  have E0 : Ev ⟨K, G, pinL 0 as vs⟩ F H (L2.start N vs) [] (as.map toS ++ List.replicate u .u) [] := by
    refine { g := E.g, fh := E.fh, ls := by unfold L2.start; simp; omega, lt := rfl, sl := fun i s o h1 h2 => ?_, tp := fun i t v h1 h2 => by simp at h1, ss := fun i j c c' a h1 h2 h3 h4 => ?_, st := fun i j c c' a h1 h2 h3 h4 => by simp at h2, tt := fun i j c c' a h1 h2 h3 h4 => by simp at h1, pn := fun p hp => ?_ }
    · rcases slot h1 with ⟨t, e1, e2⟩ | ⟨_, e2⟩
      · obtain ⟨v, e3, e4⟩ := val (List.getElem?_eq_some_iff.mp e1).1 h2
        subst e2 e4
        have z := E.tp i t v e1 e3
        cases t with
        | d x => exact ⟨v, rfl, z⟩
        | m c => obtain ⟨a, ea, z⟩ := z; subst ea; exact ⟨a, rfl, z⟩
        | «at» k => trivial
      · subst e2; trivial
    · have a1 := asm h1
      have a2 := asm h2
      obtain ⟨v, e3, e4⟩ := val (List.getElem?_eq_some_iff.mp a1).1 h3
      obtain ⟨w, e5, e6⟩ := val (List.getElem?_eq_some_iff.mp a2).1 h4
      cases e4; cases e6
      exact E.tt i j c c' a a1 a2 e3 e5
    · obtain ⟨j, c, e1, e2, e3⟩ := pinL_mem hp
      rw [Nat.zero_add] at e1
      rw [e1]
      refine ⟨val' e3, c, ?_⟩
      rw [List.getElem?_append_left (by simp; exact (List.getElem?_eq_some_iff.mp e2).1), List.getElem?_map, e2]; rfl
  have H0 := h G _ (show Pn ⟨K, G, pinL 0 as vs⟩ (pinIx 0 as) from hpin)
  -- what comes back
  have back : ∀ {F' H' : Hp} {σ' : L2.St} {τ : List V} {ρ' : List S} {θ : List T}, Up ⟨K, G, pinL 0 as vs⟩ F F' → Ev ⟨K, G, pinL 0 as vs⟩ F' H' σ' τ ρ' θ → Ev ⟨K, G, []⟩ F' H' [] vs [] (argsOf ρ' 0 as) := fun {F' H' σ' τ ρ' θ} u1 E1 => by
    have pin : ∀ {j : Nat} {c : OC} {a : Addr}, as[j]? = some (T.m c) → vs[j]? = some (V.ref a) → σ'[j]? = some (some (V.ref a)) ∧ ∃ c', ρ'[j]? = some (.m c') := fun {j c a} h1 h2 => by
      have := E1.pn _ (pinL_of (n := 0) h1 h2)
      simpa using this
    have own : ∀ {j : Nat} {c : OC} {v : V}, (argsOf ρ' 0 as)[j]? = some (T.m c) → vs[j]? = some v → ∃ a c0, v = .ref a ∧ as[j]? = some (T.m c0) ∧ ρ'[j]? = some (.m c) ∧ σ'[j]? = some (some (V.ref a)) := fun {j c v} h1 h2 => by
      obtain ⟨s, e1, e2⟩ := argsOf_get h1
      rcases e2 with ⟨e2, e3⟩ | ⟨c0, rfl, e2⟩
      · exact absurd e3.symm (e2 c)
      · obtain ⟨a, ha⟩ := refs j c0 e1
        rw [h2] at ha; cases ha
        obtain ⟨p1, c1, p2⟩ := pin e1 h2
        rw [Nat.zero_add] at e2
        rcases e2 with ⟨c', e2, e3⟩ | ⟨e2, _⟩
        · cases e3; exact ⟨a, c0, rfl, e1, e2, p1⟩
        · exact absurd p2 (e2 c1)
    refine { g := E1.g, fh := E1.fh, ls := rfl, lt := by rw [argsOf_len]; exact lt, sl := fun i s o h1 h2 => by simp at h1, tp := fun i t v h1 h2 => ?_, ss := fun i j c c' a h1 h2 h3 h4 => by simp at h1, st := fun i j c c' a h1 h2 h3 h4 => by simp at h1, tt := fun i j c c' a h1 h2 h3 h4 => ?_, pn := fun p hp => by cases hp }
    · cases t with
      | m c =>
        obtain ⟨a, c0, rfl, e1, e2, e3⟩ := own h1 h2
        have z := E1.slot_there e2 e3
        exact ⟨a, rfl, z⟩
      | d x =>
        obtain ⟨s, e1, e2⟩ := argsOf_get h1
        rcases e2 with ⟨_, rfl⟩ | ⟨c0, rfl, e2⟩
        · exact Is.up (show Is K F v x from E.tp i _ v e1 h2) u1.ex
        · rcases e2 with ⟨c', _, e3⟩ | ⟨_, e3⟩ <;> cases e3
      | «at» k =>
        obtain ⟨s, e1, e2⟩ := argsOf_get h1
        rcases e2 with ⟨_, rfl⟩ | ⟨c0, rfl, e2⟩
        · exact absurd e1 (noat i k)
        · rcases e2 with ⟨c', _, e3⟩ | ⟨_, e3⟩ <;> cases e3
    · obtain ⟨a1, c0, ea1, e1, e2, e3⟩ := own h1 h3
      obtain ⟨a2, c2, ea2, f1, f2, f3⟩ := own h2 h4
      cases ea1; cases ea2
      exact E1.ss i j c c' a e2 f2 e3 f3
  have UB : ∀ {F' : Hp}, Up ⟨K, G, pinL 0 as vs⟩ F F' → Up ⟨K, G, []⟩ F F' := fun u => ⟨u.ex, u.gn⟩
  refine hsp vs H Q Ex ⟨by rw [lt, has], ?_⟩
  refine H0 F H _ E0 _ (fun F' H' σ' ρ' hk u1 E1 => ?_) (fun F' H' σ' v t ρ' hk u1 E1 => ?_) (fun F' H' σ' ρ' hk u1 E1 => hk.elim) fun F' H' σ' ρ' hk u1 E1 => hk.elim
  · exact hq F' H' .non _ _ hk (UB u1) ((back u1 E1).push_d .non)
  · obtain ⟨ok, hk⟩ := hk
    have Eb := back u1 E1
    have argown : ∀ {i : Nat} {c : OC} {a : Addr}, (argsOf ρ' 0 as)[i]? = some (T.m c) → vs[i]? = some (V.ref a) → σ'[i]? = some (some (V.ref a)) ∧ (∃ c', ρ'[i]? = some (.m c')) ∧ i ∈ pinIx 0 as := fun {i c a} h1 h2 => by
      obtain ⟨s, e1, e2⟩ := argsOf_get h1
      rcases e2 with ⟨e2, e3⟩ | ⟨c0, rfl, e2⟩
      · exact absurd e3.symm (e2 c)
      · have pm := pinL_of (n := 0) e1 h2
        have z := E1.pn _ pm
        refine ⟨by simpa using z.1, by simpa using z.2, ?_⟩
        rw [← hpin]
        exact List.mem_map.mpr ⟨_, pm, by simp⟩
    refine hq F' H' v _ _ hk (UB u1) ?_
    cases t with
    | d x => exact Eb.push_d (E1.last (τ := []) (θ := []))
    | m c =>
      obtain ⟨a, ea, z⟩ := E1.last (τ := []) (θ := [])
      subst ea
      refine Eb.push (t := .m c) ⟨a, rfl, z⟩ (fun i c1 c2 b _ e h1 h2 => by simp at h1) fun i c1 c2 b _ e h1 h2 => ?_
      cases e
      obtain ⟨q1, ⟨c', q2⟩, _⟩ := argown h1 h2
      exact E1.st i 0 c' c a q2 rfl q1 rfl
    | «at» j =>
      obtain ⟨z1, c, z2⟩ := E1.last (τ := []) (θ := [])
      obtain ⟨a, ea, z3⟩ := E1.sl j _ _ z2 z1
      cases ea
      have er : retT ρ' (.at j) = .m c := by unfold retT; simp only [z2]
      rw [er]
      refine Eb.push (t := .m c) ⟨a, rfl, z3⟩ (fun i c1 c2 b _ e h1 h2 => by simp at h1) fun i c1 c2 b _ e h1 h2 => ?_
      cases e
      obtain ⟨q1, ⟨c', q2⟩, q3⟩ := argown h1 h2
      have ei := E1.ss i j c' c a q2 z2 q1 z1
      subst ei
      have := List.contains_iff_mem.mpr q3
      simp only [okRet, this] at ok
      cases ok
end
end Dl

set_option Elab.async false
set_option linter.all false
set_option maxRecDepth 100000
set_option maxHeartbeats 4000000
/-! Calls by computed views; own special methods; lists lent to a callee. -/
namespace Dl
open PySem PySem.Spec PyProof.Rows L2 Rl RZ RT
open Evl (Ex)
def fzT : T → T
  | .m c => .d c.toD
  | t => t
theorem fz_all : ∀ ts : List T, Fz ts (ts.map fzT)
  | [] => .nil
  | .d x :: ts => .same (fz_all ts)
  | .at i :: ts => .same (fz_all ts)
  | .m c :: ts => .fz (fz_all ts)
def noAtB (i : Nat) : List T → Bool
  | [] => true
  | .at j :: ts => j != i && noAtB i ts
  | _ :: ts => noAtB i ts
theorem noAtB_ok {i : Nat} : ∀ {ts : List T}, noAtB i ts = true → ∀ j : Nat, ts[j]? ≠ some (T.at i)
  | [], _, j => by simp
  | t :: ts, h, 0 => by
    intro e
    simp at e
    subst e
    simp [noAtB] at h
  | t :: ts, h, j + 1 => by
    have h' : noAtB i ts = true := by cases t <;> simp [noAtB] at h <;> first | exact h | exact h.2
    simpa using noAtB_ok h' j
/-- the arguments as the callee sees them -/
def vw (ρ : List S) : List T → Option (List T)
  | [] => some []
  | .d x :: ts => match vw ρ ts with
    | some as => some (.d x :: as)
    | none => none
  | .m c :: ts => match vw ρ ts with
    | some as => some (.m c :: as)
    | none => none
  | .at i :: ts => match noAtB i ts with
    | true => match ρ[i]? with
      | some (.m c) => match vw ρ ts with
        | some as => some (.m c :: as)
        | none => none
      | _ => none
    | false => none
theorem vw_ok {ρ : List S} : ∀ {ts as : List T}, vw ρ ts = some as → View ρ ts as
  | [], _, h => by cases h; exact .nil
  | .d x :: ts, as, h => by
    simp only [vw] at h
    split at h <;> cases h
    exact .d (vw_ok (by assumption))
  | .m x :: ts, as, h => by
    simp only [vw] at h
    split at h <;> cases h
    exact .m (vw_ok (by assumption))
  | .at i :: ts, as, h => by
    simp only [vw] at h
    split at h <;> try (cases h)
    rename_i hn
    split at h <;> try (cases h)
    split at h <;> cases h
    exact .at (by assumption) (noAtB_ok hn) (vw_ok (by assumption))
theorem View.shp {ρ : List S} : ∀ {ts as : List T}, View ρ ts as → Dl.shp ts as = true
  | _, _, .nil => rfl
  | _, _, .d h => by simpa [Dl.shp] using h.shp
  | _, _, .m h => by simpa [Dl.shp] using h.shp
  | _, _, .at _ _ h => by simpa [Dl.shp] using h.shp
theorem View.upR {ρ : List S} : ∀ {ts as : List T}, View ρ ts as → Dl.upR ρ ts as = ρ
  | _, _, .nil => by simp [Dl.upR]
  | _, _, .d h => by simpa [Dl.upR] using h.upR
  | _, _, .m h => by simpa [Dl.upR] using h.upR
  | _, _, .at (i := i) (c := c) e _ h => by
    simp only [Dl.upR]
    have : ρ.set i (.m c) = ρ := by
      refine List.ext_getElem? fun j => ?_
      by_cases ej : i = j
      · subst ej; rw [List.getElem?_set_self (List.getElem?_eq_some_iff.mp e).1, e]
      · rw [List.getElem?_set_ne ej]
    rw [this]
    exact h.upR
section
variable {K : Frag} {sp : Sp} {ts as : List T} {ρ : List S} {k : T → List S → Prop} {k' : T → List T → Prop} {c : Str} {r : T}
theorem call_of (f : Fn K sp as k') (h : vw ρ (ts.map fzT) = some as) (hk : ∀ t as', k' t as' → shp (ts.map fzT) as' = true ∧ k t (upR ρ (ts.map fzT) as')) : CallOk K sp ts ρ k := ⟨_, as, fz_all ts, vw_ok h, f.mono hk⟩
/-- a callee that changes nothing -/
def Pure (K : Frag) (sp : Sp) (as : List T) (p : T → Prop) : Prop := Fn K sp as fun t as' => p t ∧ as' = as
theorem call_pure {p : T → Prop} (f : Pure K sp as p) (h : vw ρ (ts.map fzT) = some as) (hk : ∀ t, p t → k t ρ) : CallOk K sp ts ρ k := call_of f h fun t as' ⟨e1, e2⟩ => by
  subst e2
  have := vw_ok h
  exact ⟨this.shp, by rw [this.upR]; exact hk _ e1⟩
theorem call_eq (f : Pure K sp as fun t => t = r) (h : vw ρ (ts.map fzT) = some as) (hk : k r ρ) : CallOk K sp ts ρ k := call_pure f h fun t e => by rw [e]; exact hk
theorem new_eq {c' : OC} (f : Fn K sp (.m (.ins c [] []) :: as) fun t as' => t = .d .non ∧ as' = .m c' :: as) (h : vw ρ (ts.map fzT) = some as) (hk : k (.m c') ρ) : NewOk K sp c ts ρ k := ⟨_, as, fz_all ts, vw_ok h, f.mono fun t as' ⟨e1, e2⟩ => by
  subst e1 e2
  have := vw_ok h
  exact ⟨rfl, c', as, rfl, this.shp, by rw [this.upR]; exact hk⟩⟩
end
/-! ### own special methods -/
section
variable {B : Fix} {F H F' H' : Hp} {σ : L2.St} {τ : List V} {ρ ρ' : List S} {θ : List T} {v w : V} {t s : T} {x y z : D} {k : T → List S → Prop} {sp : Sp} {Ex : XK} {c : Str} {ns : List Str} {xs : List D}
theorem a_lenO (hx : iv ρ t = some (c, ns, xs)) (g : CallOk B.K sp [t] ρ fun z ρ' => ∃ n : Int, z = .d (.int n) ∧ (0 ≤ n ∧ n < 2 ^ 63) ∧ k (.d (.int n)) ρ') : OpA B (rLenO (He.ga B.K c) sp Ex) [t] ρ k := fun F H σ τ θ vs E hl Q hq => by
  obtain ⟨v, rfl⟩ := one_of hl
  obtain ⟨a, dx, fs, rfl, h1, _⟩ := ins_of' E.pop E.last hx
  refine ⟨a, dx, fs, rfl, h1, call_ok E hl g _ fun F' H' v t ρ' hk u E' => ?_⟩
  obtain ⟨n, rfl, ⟨h0, h1⟩, hk⟩ := hk
  have w0 := E'.datum
  cases w0
  exact ⟨n, rfl, h0, h1, hq F' H' _ _ ρ' hk u E'⟩
theorem a_strO (hx : iv ρ t = some (c, ns, xs)) (g : CallOk B.K sp [t] ρ fun z ρ' => ∃ n : Str, z = .d (.str n) ∧ k (.d (.str n)) ρ') : OpA B (rStrO (He.ga B.K c) sp Ex) [t] ρ k := fun F H σ τ θ vs E hl Q hq => by
  obtain ⟨v, rfl⟩ := one_of hl
  obtain ⟨a, dx, fs, rfl, h1, _⟩ := ins_of' E.pop E.last hx
  refine ⟨a, dx, fs, rfl, h1, call_ok E hl g _ fun F' H' v t ρ' hk u E' => ?_⟩
  obtain ⟨n, rfl, hk⟩ := hk
  have w0 := E'.datum
  cases w0
  exact ⟨n, rfl, hq F' H' _ _ ρ' hk u E'⟩
theorem o_eqO {n : String} (hx : iv ρ t = some (c, ns, xs)) (hy : (oc ρ s).bind tyD = some n) (nf : PySem.W.notFirst B.K (He.ga B.K c) (.type n) = true) (g : CallOk B.K sp [t, s] ρ fun z ρ' => ∃ b : Bool, z = .d (.bl b) ∧ k (.d (.bl b)) ρ') : Op2 B (rEqO B.K (He.ga B.K c) sp Ex) t s ρ k := fun F H σ τ θ v w E Q hq => by
  obtain ⟨a, dx, fs, rfl, h1, _⟩ := ins_of' E.pop2' E.two.pop.last hx
  have ty := ty_of E.pop2' E.two.last hy
  refine ⟨a, dx, fs, _, rfl, h1, ty, nf, call_ok E rfl g _ fun F' H' v t ρ' hk u E' => ?_⟩
  obtain ⟨b, rfl, hk⟩ := hk
  have w0 := E'.datum
  cases w0
  exact ⟨b, rfl, hq F' H' _ _ ρ' hk u E'⟩
theorem o_neO {n : String} (hx : iv ρ t = some (c, ns, xs)) (hy : (oc ρ s).bind tyD = some n) (nf : PySem.W.notFirst B.K (He.ga B.K c) (.type n) = true) (g : CallOk B.K sp [t, s] ρ fun z ρ' => ∃ b : Bool, z = .d (.bl b) ∧ k (.d (.bl (!b))) ρ') : Op2 B (rNeO B.K (He.ga B.K c) sp Ex) t s ρ k := fun F H σ τ θ v w E Q hq => by
  obtain ⟨a, dx, fs, rfl, h1, _⟩ := ins_of' E.pop2' E.two.pop.last hx
  have ty := ty_of E.pop2' E.two.last hy
  refine ⟨a, dx, fs, _, rfl, h1, ty, nf, call_ok E rfl g _ fun F' H' v t ρ' hk u E' => ?_⟩
  obtain ⟨b, rfl, hk⟩ := hk
  have w0 := E'.datum
  cases w0
  exact ⟨b, rfl, hq F' H' _ _ ρ' hk u (E'.pop.push_d (.bl _))⟩
theorem o_eqOO {c' : Str} {ns' : List Str} {xs' : List D} (hx : iv ρ t = some (c, ns, xs)) (hy : iv ρ s = some (c', ns', xs')) (ti : Tyi B.K (He.ga B.K c')) (nf : PySem.W.notFirst B.K (He.ga B.K c) (.ref (He.ga B.K c')) = true) (g : CallOk B.K sp [t, s] ρ fun z ρ' => ∃ b : Bool, z = .d (.bl b) ∧ k (.d (.bl b)) ρ') : Op2 B (rEqO B.K (He.ga B.K c) sp Ex) t s ρ k := fun F H σ τ θ v w E Q hq => by
  obtain ⟨a, dx, fs, rfl, h1, _⟩ := ins_of' E.pop2' E.two.pop.last hx
  have ty := tyi_of E.pop2' E.two.last hy ti
  refine ⟨a, dx, fs, _, rfl, h1, ty, nf, call_ok E rfl g _ fun F' H' v t ρ' hk u E' => ?_⟩
  obtain ⟨b, rfl, hk⟩ := hk
  have w0 := E'.datum
  cases w0
  exact ⟨b, rfl, hq F' H' _ _ ρ' hk u E'⟩
theorem o_neOO {c' : Str} {ns' : List Str} {xs' : List D} (hx : iv ρ t = some (c, ns, xs)) (hy : iv ρ s = some (c', ns', xs')) (ti : Tyi B.K (He.ga B.K c')) (nf : PySem.W.notFirst B.K (He.ga B.K c) (.ref (He.ga B.K c')) = true) (g : CallOk B.K sp [t, s] ρ fun z ρ' => ∃ b : Bool, z = .d (.bl b) ∧ k (.d (.bl (!b))) ρ') : Op2 B (rNeO B.K (He.ga B.K c) sp Ex) t s ρ k := fun F H σ τ θ v w E Q hq => by
  obtain ⟨a, dx, fs, rfl, h1, _⟩ := ins_of' E.pop2' E.two.pop.last hx
  have ty := tyi_of E.pop2' E.two.last hy ti
  refine ⟨a, dx, fs, _, rfl, h1, ty, nf, call_ok E rfl g _ fun F' H' v t ρ' hk u E' => ?_⟩
  obtain ⟨b, rfl, hk⟩ := hk
  have w0 := E'.datum
  cases w0
  exact ⟨b, rfl, hq F' H' _ _ ρ' hk u (E'.pop.push_d (.bl _))⟩
end
/-! ### a list lent -/
mutual
/-- no list in it -/
def nl : D → Bool
  | .lst _ => false
  | .tup xs => nls xs
  | .ins _ _ xs => nls xs
  | _ => true
def nls : List D → Bool
  | [] => true
  | x :: xs => nl x && nls xs
end
def nlC : OC → Bool
  | .lst xs => nls xs
  | .ins _ _ xs => nls xs
def nlT : T → Bool
  | .d x => nl x
  | .m c => nlC c
  | .at _ => false
noncomputable def era (F : Hp) (a : Addr) : Hp := fun x => if x = a then none else F x
theorem era_ne {F : Hp} {a x : Addr} (h : x ≠ a) : era F a x = F x := by unfold era; rw [if_neg h]
theorem era_at {F : Hp} {a : Addr} : era F a a = none := by unfold era; rw [if_pos rfl]
section
variable {K : Frag} {F H F' H' : Hp} {a : Addr} {ws : List V}
theorem SqT.era {p : Addr} {ys : List V} (ha : F a = some (.lst ws)) (h : SqT K F p ys) : SqT K (era F a) p ys := by
  rcases h with (h | ⟨o, h⟩) | h
  · exact .inl (.inl (by rw [era_ne (fun e => by subst e; rw [ha] at h; cases h)]; exact h))
  · exact .inl (.inr ⟨o, by rw [era_ne (fun e => by subst e; rw [ha] at h; cases h)]; exact h⟩)
  · exact .inr h
mutual
theorem Is.era (ha : F a = some (.lst ws)) : ∀ (x : D) (v : V), nl x = true → Is K F v x → Is K (Dl.era F a) v x
  | .non, _, _, h => by cases h; exact .non
  | .bl b, _, _, h => by cases h; exact .bl b
  | .int i, _, _, h => by cases h; exact .int i
  | .str s, _, _, h => by cases h; exact .str s
  | .ty s, _, _, h => by cases h; exact .ty s
  | .cls s, _, _, h => by cases h; exact .cls s
  | .opq u, _, _, h => by cases h; exact .opq u
  | .lst ds, _, n, _ => by simp [nl] at n
  | .tup ds, _, n, h => by
    cases h with
    | tup h1 h2 => exact .tup (SqT.era ha h1) (IsAll.era ha ds _ (by simpa [nl] using n) h2)
  | .ins c ns ds, _, n, h => by
    cases h with
    | ins h1 h2 h3 => exact .ins (by rw [era_ne (fun e => by subst e; rw [ha] at h1; cases h1)]; exact h1) h2 (IsAll.era ha ds _ (by simpa [nl] using n) h3)
theorem IsAll.era (ha : F a = some (.lst ws)) : ∀ (ds : List D) (vs : List V), nls ds = true → IsAll K F vs ds → IsAll K (Dl.era F a) vs ds
  | [], _, _, h => by cases h; exact .nil
  | d :: ds, _, n, h => by
    rw [nls, Bool.and_eq_true] at n
    cases h with
    | cons h1 h2 => exact .cons (Is.era ha d _ n.1 h1) (IsAll.era ha ds _ n.2 h2)
end
theorem OCat.era {b : Addr} {c : OC} (ha : F a = some (.lst ws)) (n : nlC c = true) (h : OCat K F H b c) : OCat K (Dl.era F a) H b c := by
  cases c with
  | lst ds => obtain ⟨vs, h1, h2⟩ := h; exact ⟨vs, h1, IsAll.era ha _ _ n h2⟩
  | ins c ns ds => obtain ⟨dx, fs, h1, h2, h3⟩ := h; exact ⟨dx, fs, h1, h2, IsAll.era ha _ _ n h3⟩
end
/-- without lists, or a datum that stays -/
inductive Lend : List T → List T → Prop
  | nil : Lend [] []
  | nl {t s : T} {ts ss : List T} : nlT s = true → Lend ts ss → Lend (t :: ts) (s :: ss)
  | same {x : D} {ts ss : List T} : Lend ts ss → Lend (.d x :: ts) (.d x :: ss)
theorem Lend.len : ∀ {ts ss : List T}, Lend ts ss → ts.length = ss.length
  | _, _, .nil => rfl
  | _, _, .nl _ h => by simp [h.len]
  | _, _, .same h => by simp [h.len]
theorem Lend.get {j : Nat} {s : T} : ∀ {ts ss : List T}, Lend ts ss → ss[j]? = some s → nlT s = true ∨ ∃ x, s = .d x ∧ ts[j]? = some (.d x)
  | _, _, .nil, h => by simp at h
  | _, _, .nl n g, h => by
    cases j with
    | zero => simp at h; subst h; exact .inl n
    | succ j => simpa using g.get (j := j) (by simpa using h)
  | _, _, .same (x := x) g, h => by
    cases j with
    | zero => simp at h; subst h; exact .inr ⟨x, rfl, rfl⟩
    | succ j => simpa using g.get (j := j) (by simpa using h)
theorem getM {α : Type} {l1 l2 : List α} {x y : α} {j : Nat} (h : (l1 ++ x :: l2)[j]? = some y) : (j = l1.length ∧ y = x) ∨ (j ≠ l1.length ∧ ∀ z, (l1 ++ z :: l2)[j]? = some y) := by
  by_cases e : j = l1.length
  · subst e; simp at h; exact .inl ⟨rfl, h.symm⟩
  · refine .inr ⟨e, fun z => ?_⟩
    by_cases hl : j < l1.length
    · rw [List.getElem?_append_left hl] at h ⊢; exact h
    · rw [List.getElem?_append_right (by omega)] at h ⊢
      obtain ⟨d, hd⟩ : ∃ d, j - l1.length = d + 1 := ⟨j - l1.length - 1, by omega⟩
      rw [hd] at h ⊢
      simpa using h
theorem Fn.lend {K : Frag} {sp : Sp} {l1 l2 : List T} {xs : List D} {k : T → List T → Prop} (f : Fn K sp (l1 ++ .d (.lst xs) :: l2) k) (hk : ∀ t as', k t as' → ∃ m1 m2, as' = m1 ++ .d (.lst xs) :: m2 ∧ Lend l1 m1 ∧ Lend l2 m2 ∧ nlT t = true) :
    Fn K sp (l1 ++ .m (.lst xs) :: l2) fun t as' => ∃ m1 m2, as' = m1 ++ .m (.lst xs) :: m2 ∧ m1.length = l1.length ∧ k t (m1 ++ .d (.lst xs) :: m2) := fun F G H vs E Q hq Ex => by
  have hp : (l1 ++ T.m (.lst xs) :: l2)[l1.length]? = some (.m (.lst xs)) := by simp
  obtain ⟨v0, hv0⟩ : ∃ v, vs[l1.length]? = some v := ⟨_, List.getElem?_eq_getElem (by rw [E.lt]; simp)⟩
  obtain ⟨a, ea, fa, ga, ws, ha, is⟩ := E.tp _ _ _ hp hv0
  subst ea
  have exF : Evl.Ex F (upd F a (.lst ws)) := Evl.Ex.new fa
  have exG : Evl.Ex G (upd G a (.lst ws)) := Evl.Ex.new ga
  have exH : ∀ {F' : Hp}, Evl.Ex F' H → Evl.Ex (upd F' a (.lst ws)) H := fun {F'} e b u q => by
    by_cases eb : b = a
    · subst eb; rw [upd_same] at q; cases q; exact ha
    · rw [upd_ne eb] at q; exact e b u q
  have E1 : Ev ⟨K, upd G a (.lst ws), []⟩ (upd F a (.lst ws)) H [] vs [] (l1 ++ .d (.lst xs) :: l2) := by
    refine { g := exH E.g, fh := exH E.fh, ls := rfl, lt := by rw [E.lt]; simp, sl := fun i s o h => by simp at h, tp := fun i t v h1 h2 => ?_, ss := fun i j c c' a h => by simp at h, st := fun i j c c' a h => by simp at h, tt := fun i j c c' b h1 h2 h3 h4 => ?_, pn := fun p hp => by cases hp }
    · rcases getM h1 with ⟨e1, e2⟩ | ⟨e1, e2⟩
      · subst e1 e2
        rw [hv0] at h2; cases h2
        exact .lst (.inl upd_same) (is.up exF)
      · have z := E.tp i t v (e2 _) h2
        cases t with
        | d x => exact Is.up z exF
        | m c =>
          obtain ⟨b, eb, z1, z2, z3⟩ := z
          have n : b ≠ a := fun e => by
            subst e; subst eb
            exact e1 (E.tt i l1.length c _ b (e2 _) hp h2 hv0)
          exact ⟨b, eb, by rw [upd_ne n]; exact z1, by show upd G a _ b = none; rw [upd_ne n]; exact z2, z3.mono exF fun _ z => z⟩
        | «at» k => exact z
    · rcases getM h1 with ⟨_, e2⟩ | ⟨e1, e2⟩
      · cases e2
      rcases getM h2 with ⟨_, f2⟩ | ⟨f1, f2⟩
      · cases f2
      exact E.tt i j c c' b (e2 _) (f2 _) h3 h4
  refine f _ _ H vs E1 Q (fun F' H' v t as' hh u E2 => ?_) Ex
  obtain ⟨m1, m2, rfl, n1, n2, n3⟩ := hk t as' hh
  have la := n1.len
  have hF' : F' a = some (.lst ws) := u.ex _ _ upd_same
  have Fup : Evl.Ex F (era F' a) := fun b o q => by
    have n : b ≠ a := ne_of_none q fa
    rw [era_ne n]
    exact u.ex _ _ (by rw [upd_ne n]; exact q)
  have UB : Up ⟨K, G, []⟩ F (era F' a) := ⟨Fup, fun b o h n => by
    have nb : b ≠ a := ne_of_none h ga
    rw [era_ne nb]
    exact u.gn b o (exG _ _ h) (by rw [upd_ne nb]; exact n)⟩
  have Gn : ∀ {b : Addr}, upd G a (.lst ws) b = none → b ≠ a ∧ G b = none := fun {b} h => by
    have n : b ≠ a := fun e => by subst e; rw [upd_same] at h; cases h
    exact ⟨n, by rw [upd_ne n] at h; exact h⟩
  have E3 : Ev ⟨K, G, []⟩ (era F' a) H' [] vs [] (m1 ++ .m (.lst xs) :: m2) := by
    have Ep := E2.pop
    have efh : Evl.Ex (era F' a) H' := fun b o q => by
      by_cases e : b = a
      · subst e; rw [era_at] at q; cases q
      · rw [era_ne e] at q; exact E2.fh b o q
    refine { g := fun b o q => E2.g b o (exG _ _ q), fh := efh, ls := rfl, lt := by rw [E.lt]; simp [la, n2.len], sl := fun i s o h => by simp at h, tp := fun i t v h1 h2 => ?_, ss := fun i j c c' a h => by simp at h, st := fun i j c c' a h => by simp at h, tt := fun i j c c' b h1 h2 h3 h4 => ?_, pn := fun p hp => by cases hp }
    · rcases getM h1 with ⟨e1, e2⟩ | ⟨e1, e2⟩
      · subst e1 e2
        rw [← la, hv0] at h2; cases h2
        exact ⟨a, rfl, era_at, ga, ws, E2.g _ _ upd_same, is.up Fup⟩
      · have z := Ep.tp i t v (e2 _) h2
        -- without lists, or the same as before
        have nn : nlT t = true ∨ ∃ x, t = .d x ∧ (l1 ++ .m (.lst xs) :: l2)[i]? = some (.d x) := by
          by_cases hl : i < m1.length
          · have := e2 (.m (.lst xs))
            rw [List.getElem?_append_left hl] at this
            rcases n1.get this with q | ⟨x, q1, q2⟩
            · exact .inl q
            · exact .inr ⟨x, q1, by rw [List.getElem?_append_left (by omega)]; exact q2⟩
          · obtain ⟨d, hd⟩ : ∃ d, i - m1.length = d + 1 := ⟨i - m1.length - 1, by omega⟩
            have := e2 (.m (.lst xs))
            rw [List.getElem?_append_right (by omega), hd] at this
            rcases n2.get (j := d) (by simpa using this) with q | ⟨x, q1, q2⟩
            · exact .inl q
            · exact .inr ⟨x, q1, by rw [List.getElem?_append_right (by omega), la, hd]; simpa using q2⟩
        rcases nn with nn | ⟨x, rfl, nn⟩
        · cases t with
          | d x => exact Is.era hF' _ _ nn z
          | m c =>
            obtain ⟨b, eb, z1, z2, z3⟩ := z
            obtain ⟨nb, gb⟩ := Gn z2
            exact ⟨b, eb, by rw [era_ne nb]; exact z1, gb, z3.era hF' nn⟩
          | «at» k => cases nn
        · exact Is.up (show Is K F v x from E.tp i _ v nn h2) Fup
    · have key : ∀ {i : Nat} {c : OC}, (m1 ++ T.m (.lst xs) :: m2)[i]? = some (.m c) → vs[i]? = some (.ref b) → (i = m1.length ∧ b = a) ∨ (i ≠ m1.length ∧ (m1 ++ T.d (.lst xs) :: m2)[i]? = some (.m c) ∧ b ≠ a) := fun {i c} q1 q2 => by
        rcases getM q1 with ⟨e1, e2⟩ | ⟨e1, e2⟩
        · subst e1
          rw [← la, hv0] at q2; cases q2
          exact .inl ⟨rfl, rfl⟩
        · obtain ⟨b', eb, _, z2, _⟩ := Ep.tp i _ _ (e2 (.d (.lst xs))) q2
          cases eb
          exact .inr ⟨e1, e2 _, (Gn z2).1⟩
      rcases key h1 h3 with ⟨e1, e2⟩ | ⟨e1, e2, e3⟩ <;> rcases key h2 h4 with ⟨f1, f2⟩ | ⟨f1, f2, f3⟩
      · omega
      · exact absurd e2 f3
      · exact absurd f2 e3
      · exact Ep.tt i j c c' b e2 f2 h3 h4
  refine hq (era F' a) H' v t _ ⟨m1, m2, rfl, la.symm, hh⟩ UB ?_
  have zt := E2.last
  cases t with
  | d x => exact E3.push_d (Is.era hF' _ _ n3 zt)
  | m c =>
    obtain ⟨b, eb, z1, z2, z3⟩ := zt
    obtain ⟨nb, gb⟩ := Gn z2
    refine E3.push (t := .m c) ⟨b, eb, by rw [era_ne nb]; exact z1, gb, z3.era hF' n3⟩ (fun i c1 c2 b' _ e h1 h2 => by simp at h1) fun i c1 c2 b' ec e h1 h2 => ?_
    subst e
    cases eb
    cases ec
    rcases getM h1 with ⟨e1, e2⟩ | ⟨e1, e2⟩
    · subst e1
      rw [← la, hv0] at h2; cases h2
      exact nb rfl
    · have lt2 := E2.pop.lt
      have hi := (List.getElem?_eq_some_iff.mp (e2 (.d (.lst xs)))).1
      have := E2.tt i (m1 ++ T.d (.lst xs) :: m2).length c1 c b (by rw [List.getElem?_append_left hi]; exact e2 _) (by simp) (by rw [List.getElem?_append_left (by omega)]; exact h2) (by rw [← lt2]; simp)
      omega
  | «at» k => cases n3
theorem Lend.refl_d : ∀ {ts : List T}, (∀ t ∈ ts, (∃ x, t = .d x) ∨ nlT t = true) → Lend ts ts
  | [], _ => .nil
  | t :: ts, h => by
    rcases h t (by simp) with ⟨x, rfl⟩ | n
    · exact .same (Lend.refl_d fun t ht => h t (List.mem_cons_of_mem _ ht))
    · exact .nl n (Lend.refl_d fun t ht => h t (List.mem_cons_of_mem _ ht))
/-! ### isinstance of built-ins -/
theorem kb_NoneType_int : kitB "NoneType" "int" = some false := by decide +kernel
theorem kb_NoneType_bool : kitB "NoneType" "bool" = some false := by decide +kernel
theorem kb_NoneType_str : kitB "NoneType" "str" = some false := by decide +kernel
theorem kb_NoneType_list : kitB "NoneType" "list" = some false := by decide +kernel
theorem kb_NoneType_tuple : kitB "NoneType" "tuple" = some false := by decide +kernel
theorem kb_NoneType_dict : kitB "NoneType" "dict" = some false := by decide +kernel
theorem kb_bool_int : kitB "bool" "int" = some true := by decide +kernel
theorem kb_bool_bool : kitB "bool" "bool" = some true := by decide +kernel
theorem kb_bool_str : kitB "bool" "str" = some false := by decide +kernel
theorem kb_bool_list : kitB "bool" "list" = some false := by decide +kernel
theorem kb_bool_tuple : kitB "bool" "tuple" = some false := by decide +kernel
theorem kb_bool_dict : kitB "bool" "dict" = some false := by decide +kernel
theorem kb_int_int : kitB "int" "int" = some true := by decide +kernel
theorem kb_int_bool : kitB "int" "bool" = some false := by decide +kernel
theorem kb_int_str : kitB "int" "str" = some false := by decide +kernel
theorem kb_int_list : kitB "int" "list" = some false := by decide +kernel
theorem kb_int_tuple : kitB "int" "tuple" = some false := by decide +kernel
theorem kb_int_dict : kitB "int" "dict" = some false := by decide +kernel
theorem kb_str_int : kitB "str" "int" = some false := by decide +kernel
theorem kb_str_bool : kitB "str" "bool" = some false := by decide +kernel
theorem kb_str_str : kitB "str" "str" = some true := by decide +kernel
theorem kb_str_list : kitB "str" "list" = some false := by decide +kernel
theorem kb_str_tuple : kitB "str" "tuple" = some false := by decide +kernel
theorem kb_str_dict : kitB "str" "dict" = some false := by decide +kernel
theorem kb_list_int : kitB "list" "int" = some false := by decide +kernel
theorem kb_list_bool : kitB "list" "bool" = some false := by decide +kernel
theorem kb_list_str : kitB "list" "str" = some false := by decide +kernel
theorem kb_list_list : kitB "list" "list" = some true := by decide +kernel
theorem kb_list_tuple : kitB "list" "tuple" = some false := by decide +kernel
theorem kb_list_dict : kitB "list" "dict" = some false := by decide +kernel
theorem kb_tuple_int : kitB "tuple" "int" = some false := by decide +kernel
theorem kb_tuple_bool : kitB "tuple" "bool" = some false := by decide +kernel
theorem kb_tuple_str : kitB "tuple" "str" = some false := by decide +kernel
theorem kb_tuple_list : kitB "tuple" "list" = some false := by decide +kernel
theorem kb_tuple_tuple : kitB "tuple" "tuple" = some true := by decide +kernel
theorem kb_tuple_dict : kitB "tuple" "dict" = some false := by decide +kernel
theorem k2_NoneType : kit2 "NoneType" "list" "tuple" = some false := by decide +kernel
theorem k2_bool : kit2 "bool" "list" "tuple" = some false := by decide +kernel
theorem k2_int : kit2 "int" "list" "tuple" = some false := by decide +kernel
theorem k2_str : kit2 "str" "list" "tuple" = some false := by decide +kernel
theorem k2_list : kit2 "list" "list" "tuple" = some true := by decide +kernel
theorem k2_tuple : kit2 "tuple" "list" "tuple" = some true := by decide +kernel
end Dl

set_option Elab.async false
set_option linter.all false
set_option maxRecDepth 100000
set_option maxHeartbeats 4000000
/-! Loops and comprehensions with their tasks wrapped. -/
namespace Dl
open PySem PySem.Spec PyProof.Rows L2 Rl RZ RT
open Evl (Ex)
theorem Li_len' (l : List Int) : (Li l).length = l.length := by simp
section
variable {B : Fix} {ρ ρ' : List S} {P : Ps} {l : List Nat} {xs : List D}
theorem wpt_yes {kt : Bool → List S → Prop} (q : kt true ρ) : WpT B tYes ρ kt := fun F H σ τ θ E Q hq => hq F H true ρ q Up.refl E
theorem wpt_tc {K : Frag} {te : TE} {kt : Bool → List S → Prop} (h : WpT B (tTru B.K te) ρ kt) : WpT B (tTru B.K te) ρ kt := h
/-- what a for loop asks -/
def ForOk (B : Fix) (g : TG) (tb : TS) (P : Ps) (xs : List D) (ρ1 : List S) : Prop := ∃ inv : Nat → List S → Prop, inv 0 ρ1 ∧ (∀ i x ρ2, xs[i]? = some x → inv i ρ2 → WpG B true g (.d x) ρ2 fun ρ3 => WpS B tb ρ3 { nx := inv (i + 1), rt := P.rt, bk := P.nx, ct := inv (i + 1) }) ∧ ∀ ρ2, inv xs.length ρ2 → P.nx ρ2
theorem wps_forW {wi : TI} {g : TG} {tb : TS} (h : WpI B wi ρ (ForOk B g tb P)) : WpS B (tFor wi g tb) ρ P := wps_for h
theorem for_ok {g : TG} {tb : TS} (inv : Nat → List S → Prop) (h0 : inv 0 ρ) (step : ∀ i x ρ2, xs[i]? = some x → inv i ρ2 → WpG B true g (.d x) ρ2 fun ρ3 => WpS B tb ρ3 { nx := inv (i + 1), rt := P.rt, bk := P.nx, ct := inv (i + 1) }) (last : ∀ ρ2, inv xs.length ρ2 → P.nx ρ2) : ForOk B g tb P xs ρ := ⟨inv, h0, step, last⟩
/-- what a comprehension asks -/
def LcOk (B : Fix) (g : TG) (tt : TT) (te : TE) (us : List Nat) (k : T → List S → Prop) (xs : List D) (ρ1 : List S) : Prop := nmOk ρ1 us = true ∧ ∃ inv : Nat → List D → List S → Prop, inv 0 [] (wipeS ρ1 us) ∧
      (∀ i x acc ρ2, xs[i]? = some x → inv i acc ρ2 → WpG B false g (.d x) ρ2 fun ρ3 => WpT B tt ρ3 fun b ρ4 => (b = true → WpD B te ρ4 fun y ρ5 => acc.length < sizeLine ∧ nmOk ρ5 us = true ∧ inv (i + 1) (acc ++ [y]) (wipeS ρ5 us)) ∧ (b = false → nmOk ρ4 us = true ∧ inv (i + 1) acc (wipeS ρ4 us))) ∧
      ∀ acc ρ2, inv xs.length acc ρ2 → uOk ρ2 us = true ∧ k (.m (.lst acc)) ρ2
theorem wp_lcW {wi : TI} {g : TG} [GMono g] {tt : TT} {te : TE} {us : List Nat} {k : T → List S → Prop} (hB : Pn B l) (hp : noPin l us = true) (hg : GIn g us) (h : WpI B wi ρ (LcOk B g tt te us k)) : Wp B (tLc wi g tt te us) ρ k := wp_lc hB hp hg h
/-- a turn: what is to reach behind it -/
def Turn (us : List Nat) (Q : D → List S → Prop) (y : D) (ρ5 : List S) : Prop := nmOk ρ5 us = true ∧ Q y (wipeS ρ5 us)
theorem turn {us : List Nat} {Q : D → List S → Prop} {y : D} (h : nmOk ρ us = true) (q : Q y (wipeS ρ us)) : Turn us Q y ρ := ⟨h, q⟩
/-- without a filter, the frame kept: a map -/
theorem lc_map {g : TG} {te : TE} {us : List Nat} {k : T → List S → Prop} (f : D → D) (hn : nmOk ρ us = true) (hu : uOk (wipeS ρ us) us = true) (hl : xs.length ≤ sizeLine)
    (step : ∀ x, x ∈ xs → WpG B false g (.d x) (wipeS ρ us) fun ρ3 => WpD B te ρ3 (Turn us fun y ρ6 => y = f x ∧ ρ6 = wipeS ρ us)) (last : k (.m (.lst (xs.map f))) (wipeS ρ us)) : LcOk B g tYes te us k xs ρ := by
  refine ⟨hn, fun i acc ρ2 => i ≤ xs.length ∧ acc = (xs.take i).map f ∧ ρ2 = wipeS ρ us, ⟨Nat.zero_le _, by simp, rfl⟩, fun i x acc ρ2 hx ⟨h1, h2, h3⟩ => ?_, fun acc ρ2 ⟨_, h2, h3⟩ => ?_⟩
  · subst h2 h3
    have hi := (List.getElem?_eq_some_iff.mp hx).1
    intro F H σ τ θ v E hz Q hq
    refine step x (List.mem_of_getElem? hx) F H σ τ θ v E hz Q fun F' H' σ' ρ3 hw u E' => hq F' H' σ' ρ3 (wpt_yes ⟨fun _ => ?_, fun e => by cases e⟩) u E'
    intro F1 H1 σ1 τ1 θ1 E1 Q1 hq1
    refine hw F1 H1 σ1 τ1 θ1 E1 Q1 fun F2 H2 v y ρ5 ⟨n1, e1, e2⟩ u2 E2 => hq1 F2 H2 v y ρ5 ⟨?_, n1, by omega, ?_, e2⟩ u2 E2
    · rw [List.length_map, List.length_take]; omega
    · rw [List.take_succ, hx, e1]; simp
  · subst h2 h3
    rw [List.take_length]
    exact ⟨hu, last⟩
/-- without a filter: the turns change the frame -/
theorem lc_run {g : TG} {te : TE} {us : List Nat} {k : T → List S → Prop} (inv : Nat → List D → List S → Prop) (hn : nmOk ρ us = true) (h0 : inv 0 [] (wipeS ρ us)) (hl : xs.length ≤ sizeLine)
    (step : ∀ i x acc ρ2, xs[i]? = some x → acc.length = i → inv i acc ρ2 → WpG B false g (.d x) ρ2 fun ρ3 => WpD B te ρ3 (Turn us fun y ρ6 => inv (i + 1) (acc ++ [y]) ρ6)) (last : ∀ acc ρ2, acc.length = xs.length → inv xs.length acc ρ2 → uOk ρ2 us = true ∧ k (.m (.lst acc)) ρ2) : LcOk B g tYes te us k xs ρ := by
  refine ⟨hn, fun i acc ρ2 => acc.length = i ∧ inv i acc ρ2, ⟨rfl, h0⟩, fun i x acc ρ2 hx ⟨h1, h2⟩ => ?_, fun acc ρ2 ⟨h1, h2⟩ => last acc ρ2 h1 h2⟩
  have hi := (List.getElem?_eq_some_iff.mp hx).1
  intro F H σ τ θ v E hz Q hq
  refine step i x acc ρ2 hx h1 h2 F H σ τ θ v E hz Q fun F' H' σ' ρ3 hw u E' => hq F' H' σ' ρ3 (wpt_yes ⟨fun _ => ?_, fun e => by cases e⟩) u E'
  intro F1 H1 σ1 τ1 θ1 E1 Q1 hq1
  refine hw F1 H1 σ1 τ1 θ1 E1 Q1 fun F2 H2 v y ρ5 ⟨n1, e1⟩ u2 E2 => hq1 F2 H2 v y ρ5 ⟨?_, n1, by simp [h1], e1⟩ u2 E2
  omega
theorem a_lenL {t : T} {m : List Int} {k : T → List S → Prop} (hx : lv ρ t = some (Li m)) (h : k (.d (.int (m.length : Int))) ρ) : OpA B (qLen B.K) [t] ρ k := a_len hx (by rw [Li_len']; exact h)
/-- x is one of -/
theorem mem_Li {l : List Int} {x : D} (h : x ∈ Li l) : ∃ i, i ∈ l ∧ x = .int i := by
  obtain ⟨i, h1, h2⟩ := List.mem_map.mp h
  exact ⟨i, h1, h2.symm⟩
theorem get_Li {l : List Int} {i : Nat} {x : D} (h : (Li l)[i]? = some x) : ∃ j, l[i]? = some j ∧ x = .int j := by
  rw [List.getElem?_map] at h
  obtain ⟨j, h1, h2⟩ := Option.map_eq_some_iff.mp h
  exact ⟨j, h1, h2.symm⟩
theorem map_Li {l : List Int} {f : D → D} {g : Int → Int} (h : ∀ i, f (.int i) = .int (g i)) : (Li l).map f = Li (l.map g) := by
  induction l with
  | nil => rfl
  | cons i l ih => simp only [Li, List.map_cons] at ih ⊢; rw [h, ih]
theorem map_Lb {l : List Int} {f : D → D} {g : Int → Bool} (h : ∀ i, f (.int i) = .bl (g i)) : (Li l).map f = Lb (l.map g) := by
  induction l with
  | nil => rfl
  | cons i l ih => simp only [Li, Lb, List.map_cons] at ih ⊢; rw [h, ih]
theorem map_Ls {l : List Int} {f : D → D} {g : Int → Str} (h : ∀ i, f (.int i) = .str (g i)) : (Li l).map f = Ls (l.map g) := by
  induction l with
  | nil => rfl
  | cons i l ih => simp only [Li, Ls, List.map_cons] at ih ⊢; rw [h, ih]
theorem Li_len (l : List Int) : (Li l).length = l.length := by simp
theorem Li_app (l m : List Int) : Li l ++ Li m = Li (l ++ m) := by simp
theorem cutD_Li (l : List Int) (lo hi : Option Int) : cutD (Li l) lo hi = Li (cutD l lo hi) := by
  unfold cutD
  rw [Li_len, ← List.map_drop, ← List.map_take]
theorem atI_Li {l : List Int} {i : Int} {x : Int} (h : atI l i = some x) : atI (Li l) i = some (.int x) := by
  unfold atI at h ⊢
  rw [Li_len]
  obtain ⟨j, e1, e2⟩ := Option.bind_eq_some_iff.mp h
  rw [e1]
  show (Li l)[j]? = _
  rw [List.getElem?_map, e2]; rfl
theorem atI_nn {α : Type} {l : List α} {i : Int} (h0 : 0 ≤ i) (h : i < l.length) : atI l i = some (l[i.toNat]'(by omega)) := by
  unfold atI ixN
  rw [if_pos h0, if_pos h]
  show l[i.toNat]? = _
  rw [List.getElem?_eq_getElem]
theorem atI_last {α : Type} {l : List α} (h : 0 < l.length) : atI l (-1) = some (l[l.length - 1]'(by omega)) := by
  unfold atI ixN
  rw [if_neg (by omega), if_pos (by omega)]
  show l[((-1 : Int) + l.length).toNat]? = _
  rw [show ((-1 : Int) + l.length).toNat = l.length - 1 by omega, List.getElem?_eq_getElem]
theorem set_Li (l : List Int) (n : Nat) (x : Int) : (Li l).set n (.int x) = Li (l.set n x) := by
  rw [← List.map_set]
end
/-! ### fields by their place -/
section
variable {B : Fix} {ρ ρ' : List S} {P : Ps} {l : List Nat} {xs : List D}
theorem fput_new {f : Str} {x : D} : ∀ {ns : List Str} {xs : List D}, ns.contains f = false → ns.length = xs.length → fput ns xs f x = (ns ++ [f], xs ++ [x])
  | [], [], _, _ => rfl
  | [], _ :: _, _, h => by simp at h
  | _ :: _, [], _, h => by simp at h
  | n :: ns, y :: ys, h, hl => by
    rw [List.contains_cons, Bool.or_eq_false_iff] at h
    have hn : n ≠ f := fun e => by subst e; simp at h
    simp only [fput, if_neg hn]
    rw [fput_new h.2 (by simpa using hl)]
    rfl
def fixB (f : Str) : List Str → Nat → Bool
  | n :: _, 0 => n == f
  | n :: ns, i + 1 => n != f && fixB f ns i
  | [], _ => false
theorem fput_set {f : Str} {x : D} : ∀ {ns : List Str} {xs : List D} {i : Nat}, fixB f ns i = true → ns.length = xs.length → fput ns xs f x = (ns, xs.set i x)
  | [], _, _, h, _ => by simp [fixB] at h
  | _ :: _, [], _, _, h => by simp at h
  | n :: ns, y :: ys, 0, h, hl => by
    have e : n = f := by simpa [fixB] using h
    simp only [fput, if_pos e, List.set_cons_zero]
  | n :: ns, y :: ys, i + 1, h, hl => by
    simp only [fixB, Bool.and_eq_true] at h
    have hn : n ≠ f := fun e => by subst e; simp at h
    simp only [fput, if_neg hn]
    rw [fput_set h.2 (by simpa using hl)]
    rfl
theorem wps_fld2 {ta tv : TE} {f : Str} (h : WpD B tv ρ fun x ρ1 => Wp B ta ρ1 fun t ρ2 => ∃ j c ns xs, t = .at j ∧ ρ2[j]? = some (.m (.ins c ns xs)) ∧ Cls B.K (He.ga B.K c) ∧ NoAttr B.K (He.ga B.K c) f ∧ ns.length < 1000 ∧ ns.length = xs.length ∧
    ((ns.contains f = false ∧ P.nx (ρ2.set j (.m (.ins c (ns ++ [f]) (xs ++ [x]))))) ∨ ∃ i, fixB f ns i = true ∧ P.nx (ρ2.set j (.m (.ins c ns (xs.set i x)))))) : WpS B (sFld B.K ta tv f) ρ P := wps_fld fun F H σ τ θ E Q hq => h F H σ τ θ E Q fun F' H' v x ρ' hk u E' => hq F' H' v x ρ' (wp_mono hk fun t ρ2 ⟨j, c, ns, xs, e1, e2, c1, c2, hl, hl2, q⟩ => ⟨j, c, ns, xs, e1, e2, c1, c2, hl, by
  rcases q with ⟨q1, q2⟩ | ⟨i, q1, q2⟩
  · rw [fput_new q1 hl2]; exact q2
  · rw [fput_set q1 hl2]; exact q2⟩) u E'
end
theorem cmul_l {i j : Int} (h : -(2 ^ 64) < i) (h2 : i < 2 ^ 64) : CMul i j := .inl ⟨h, h2⟩
theorem cmul_r {i j : Int} (h : -(2 ^ 64) < j) (h2 : j < 2 ^ 64) : CMul i j := .inr ⟨h, h2⟩
theorem cpow_ok {i j : Int} (h : 0 ≤ j) (h2 : j ≤ 1000000) (h3 : i.natAbs < 2 ^ 64) : CPow i j := ⟨h, h2, h3⟩
theorem small_log {j : Int} (h0 : 0 ≤ j) (h : j < 2 ^ 63) : j.natAbs.log2 < 9000 := by
  have : j.natAbs < 2 ^ 63 := by omega
  exact Nat.lt_of_lt_of_le (PySem.Flt.log2_lt_of (by decide) this) (by decide)
theorem str_log {j : Int} (h : j.natAbs < 10 ^ 40) : j.natAbs.log2 < 1920 := by
  have : j.natAbs < 2 ^ 200 := Nat.lt_of_lt_of_le h (by decide)
  exact Nat.lt_of_lt_of_le (PySem.Flt.log2_lt_of (by decide) this) (by decide)
theorem str_len {j : Int} (h : j.natAbs < 10 ^ 40) : (Str.ofString (toString j)).length ≤ 41 := by
  rw [PySem.ofString_length]
  exact PySem.int_text_length_le10 (by decide) h
/-- an assertion between two statements -/
theorem wps_cut {B : Fix} {ρ : List S} {P : Ps} {s u : TS} (M : List S → Prop) (h1 : WpS B s ρ { P with nx := M }) (h2 : ∀ ρ, M ρ → WpS B u ρ P) : WpS B (tSeq s u) ρ P := wps_seq (wps_mono h1 h2 (fun _ _ h => h) (fun _ h => h) fun _ h => h)
theorem wpd_opq {B : Fix} {ρ : List S} {j : Nat} {a : Addr} {k : D → List S → Prop} (hp : (j, a) ∈ B.pl) (q : k (.opq (.ref a)) ρ) : WpD B (tVar j) ρ k := wpd_of (wp_opq hp ⟨_, rfl, q⟩)
theorem pn_cons {B : Fix} {l : List Nat} {j : Nat} {a : Addr} (h : Pn B l) : Pn ⟨B.K, B.G, (j, a) :: B.pl⟩ (j :: l) := by
  show ((j, a) :: B.pl).map (·.1) = _
  rw [List.map_cons]
  exact congrArg (j :: ·) h
theorem wps_mid {B : Fix} {ρ : List S} {P : Ps} {s : TS} (M : List S → Prop) (h1 : WpS B s ρ { P with nx := M }) (h2 : ∀ ρ, M ρ → P.nx ρ) : WpS B s ρ P := wps_mono h1 h2 (fun _ _ h => h) (fun _ h => h) fun _ h => h
theorem o_catL {B : Fix} {ρ : List S} {t s : T} {k : T → List S → Prop} {l m : List Int} (hx : ll ρ t = some (Li l)) (hy : ll ρ s = some (Li m)) (hl : l.length + m.length ≤ 1000000) (h : k (.m (.lst (Li (l ++ m)))) ρ) : Op2 B (qAdd B.K) t s ρ k := by
  have hz := sizeLine_eq
  exact o_cat hx hy (by rw [Li_len, Li_len]; omega) (by rw [Li_app]; exact h)
/-! ### branches -/
theorem br_t {A B : Prop} (h : A) : (true = true → A) ∧ (true = false → B) := ⟨fun _ => h, fun e => by cases e⟩
theorem br_f {A B : Prop} (h : B) : (false = true → A) ∧ (false = false → B) := ⟨(fun e => by cases e), fun _ => h⟩
theorem br_nt {A B : Prop} (h : B) : ((!true) = true → A) ∧ ((!true) = false → B) := ⟨(fun e => by cases e), fun _ => h⟩
theorem br_nf {A B : Prop} (h : A) : ((!false) = true → A) ∧ ((!false) = false → B) := ⟨fun _ => h, (fun e => by cases e)⟩
theorem br_d {p : Prop} [Decidable p] {A B : Prop} (h1 : p → A) (h2 : ¬ p → B) : (decide p = true → A) ∧ (decide p = false → B) := ⟨fun e => h1 (of_decide_eq_true e), fun e => h2 (of_decide_eq_false e)⟩
theorem br_p {p : Prop} [Decidable p] {A B : Prop} (hp : p) (h : A) : (decide p = true → A) ∧ (decide p = false → B) := ⟨fun _ => h, fun e => absurd hp (of_decide_eq_false e)⟩
theorem br_n {p : Prop} [Decidable p] {A B : Prop} (hp : ¬ p) (h : B) : (decide p = true → A) ∧ (decide p = false → B) := ⟨fun e => absurd (of_decide_eq_true e) hp, fun _ => h⟩
theorem nbr_d {p : Prop} [Decidable p] {A B : Prop} (h1 : p → B) (h2 : ¬ p → A) : ((!decide p) = true → A) ∧ ((!decide p) = false → B) := ⟨fun e => h2 (of_decide_eq_false (by simpa using e)), fun e => h1 (of_decide_eq_true (by simpa using e))⟩
theorem nbr_p {p : Prop} [Decidable p] {A B : Prop} (hp : p) (h : B) : ((!decide p) = true → A) ∧ ((!decide p) = false → B) := nbr_d (fun _ => h) fun n => absurd hp n
theorem nbr_n {p : Prop} [Decidable p] {A B : Prop} (hp : ¬ p) (h : A) : ((!decide p) = true → A) ∧ ((!decide p) = false → B) := nbr_d (fun n => absurd n hp) fun _ => h
end Dl

set_option Elab.async false
set_option linter.all false
set_option maxRecDepth 100000
set_option maxHeartbeats 4000000
namespace Dl
open PySem PySem.Spec PyProof.Rows L2 Rl RZ RT
theorem br_nn {c : Bool} {A B : Prop} (h : (c = true → A) ∧ (c = false → B)) : ((!!c) = true → A) ∧ ((!!c) = false → B) := by rw [Bool.not_not]; exact h
theorem wps_frz {B : Fix} {ρ : List S} {P : Ps} {ts : TS} {l : List Nat} {c : OC} (j : Nat) (hB : Pn B l) (e : ρ[j]? = some (.m c)) (hj : l.contains j = false) (h : WpS B ts (ρ.set j (.d c.toD)) P) : WpS B ts ρ P := wps_freeze (j := 0) j hB e hj h
/-- what is set is a datum from then on -/
theorem wps_asgD {B : Fix} {ρ : List S} {P : Ps} {te : TE} {g : TG} (h : WpD B te ρ fun x ρ1 => WpG B true g (.d x) ρ1 P.nx) : WpS B (tAsg te g) ρ P := fun F H σ E D a b c d => h F H σ [] [] E _ fun F1 H1 v x ρ1 hk u1 E1 => hk F1 H1 σ [] [] v E1 (fun _ => rfl) _ fun F' H' σ' ρ' q u E' => a F' H' σ' ρ' q (u1.trans u) E'
/-- a slice of the script, wherever it stands -/
theorem wp_slQ {B : Fix} {ρ : List S} {te : TE} {tl th : TO} {k : T → List S → Prop} {a : Addr} {l : List Int} (hS : ∀ H, SqL B.K H a (l.map V.int)) (h : Wp B te ρ fun t ρ1 => t = .d (.opq (.ref a)) ∧ WpO B tl ρ1 fun lo ρ2 => WpO B th ρ2 fun hi ρ3 => k (.m (.lst (Li (cutD l lo hi)))) ρ3) : Wp B (tSl (qSl B.K) te tl th) ρ k := fun F H σ τ θ E Q hq =>
  h F H σ τ θ E _ fun F1 H1 v t ρ1 h1 u1 E1 => by
  obtain ⟨rfl, h1⟩ := h1
  have w0 := E1.datum
  cases w0
  exact h1 F1 H1 σ _ _ E1 _ fun F2 H2 lo ρ2 h2 u2 E2 => h2 F2 H2 σ _ _ E2 _ fun F3 H3 hi ρ3 h3 u3 E3 => .inl ⟨a, _, rfl, hS H3, fun p hp => hq F3 _ (.ref p) _ ρ3 h3 ((u1.trans u2).trans u3) (E3.pop.push_new hp ⟨_, upd_same, by
    have z := cut_is (B := B) (IsAll.of_li (K := B.K) (F := F3) l) lo hi
    rw [cutD_Li] at z
    exact z⟩)⟩
end Dl

set_option Elab.async false
set_option linter.all false
set_option maxRecDepth 100000
set_option maxHeartbeats 4000000
namespace K04
open PySem PySem.Spec PyProof.Rows L2 Rl RZ RT
def t_Row_eq (K : PySem.W.Frag) (w : World) : TS :=
  (tRet (tAndT K (tCB (qIsi K) (tCons (tVar 1) (tCons (tC (.ref (He.ga K "Row"))) tNil))) (tOp (qEq K) (tFld K (tVar 0) "gains") (tFld K (tVar 1) "gains"))))
abbrev N_Row_eq : List Str := ["self", "other"]
def sp_Row_eq (K : PySem.W.Frag) (w : World) : Sp := fun vs H Q _ => vs.length = 2 ∧ t_Row_eq K w { nx := fun _ H' => Q .non H', rt := Q } (start N_Row_eq vs) H
def t_heights_of (K : PySem.W.Frag) (w : World) : TS :=
  (tSeq (tAsg (tLst (tCons (tC (.int 0)) tNil)) (gName 1))
  (tSeq (tFor (iAny K (tVar 0)) (gName 2) (tDrop (tBM K "list" rAppend (tVar 1) (tCons (tOp (qAdd K) (tOp (rIx K) (tVar 1) (tUn (rU fun i => .int (-i)) (tC (.int 1)))) (tVar 2)) tNil))))
  (tRet (tCB (qTup K) (tCons (tVar 1) tNil)))))
abbrev N_heights_of : List Str := ["gains", "found", "gain"]
def sp_heights_of (K : PySem.W.Frag) (w : World) : Sp := fun vs H Q _ => vs.length = 1 ∧ t_heights_of K w { nx := fun _ H' => Q .non H', rt := Q } (start N_heights_of vs) H
def t_is_integer (K : PySem.W.Frag) (w : World) : TS :=
  (tRet (tAndT K (tCB (qIsi K) (tCons (tVar 0) (tCons (tC (.ty "int")) tNil))) (tNotT K (tCB (qIsi K) (tCons (tVar 0) (tCons (tC (.ty "bool")) tNil))))))
abbrev N_is_integer : List Str := ["value"]
def sp_is_integer (K : PySem.W.Frag) (w : World) : Sp := fun vs H Q _ => vs.length = 1 ∧ t_is_integer K w { nx := fun _ H' => Q .non H', rt := Q } (start N_is_integer vs) H
def t_are_integers (K : PySem.W.Frag) (w : World) : TS :=
  (tRet (tAndT K (tCB (qIsi K) (tCons (tVar 0) (tCons (tTup (tCons (tC (.ty "list")) (tCons (tC (.ty "tuple")) tNil))) tNil))) (tCB (rAll K) (tCons (tLc (iAny K (tVar 0)) (gName 1) tYes (tFn 1 0 (sp_is_integer K w) (fun vs _ => vs) E0 (tcP (tCons (tVar 1) tNil))) [1]) tNil))))
abbrev N_are_integers : List Str := ["value", "each"]
def sp_are_integers (K : PySem.W.Frag) (w : World) : Sp := fun vs H Q _ => vs.length = 1 ∧ t_are_integers K w { nx := fun _ H' => Q .non H', rt := Q } (start N_are_integers vs) H
def t_Row_init (K : PySem.W.Frag) (w : World) : TS :=
  (tSeq (tIfS (tOr (tNot (tTru K (tFn 1 0 (sp_are_integers K w) (fun vs _ => vs) E0 (tcP (tCons (tVar 1) tNil))))) (tTest (tOp (qEq K) (tCB (qLen K) (tCons (tVar 1) tNil)) (tC (.int 0))))) tNever tNext)
  (tSeq (tIfS (tTest (tOp qGt (tCB (qLen K) (tCons (tVar 1) tNil)) (tC (.int (48))))) tNever tNext)
  (tSeq (sFld K (tVar 0) (tCB (qTup K) (tCons (tVar 1) tNil)) "gains")
  (tSeq (sFld K (tVar 0) (tFn 1 0 (sp_heights_of K w) (fun vs _ => vs) E0 (tcP (tCons (tVar 1) tNil))) "heights")
  (tSeq (sFld K (tVar 0) (tCB (qLen K) (tCons (tVar 1) tNil)) "days")
  (sFld K (tVar 0) (tOp (rIx K) (tFld K (tVar 0) "heights") (tUn (rU fun i => .int (-i)) (tC (.int 1)))) "total"))))))
abbrev N_Row_init : List Str := ["self", "gains"]
def sp_Row_init (K : PySem.W.Frag) (w : World) : Sp := fun vs H Q _ => vs.length = 2 ∧ t_Row_init K w { nx := fun _ H' => Q .non H', rt := Q } (start N_Row_init vs) H
def t_is_within (K : PySem.W.Frag) (w : World) : TS :=
  (tSeq (tIfS (tNot (tTru K (tFn 1 0 (sp_is_integer K w) (fun vs _ => vs) E0 (tcP (tCons (tVar 0) tNil))))) (tRet (tC (.bl false))) tNext)
  (tRet (tAndT K (tOrT K (tOp qIs (tVar 1) (tC .non)) (tOp qLe (tVar 1) (tVar 0))) (tOrT K (tOp qIs (tVar 2) (tC .non)) (tOp qLe (tVar 0) (tVar 2))))))
abbrev N_is_within : List Str := ["value", "least", "most"]
def sp_is_within (K : PySem.W.Frag) (w : World) : Sp := fun vs H Q _ => vs.length = 3 ∧ t_is_within K w { nx := fun _ H' => Q .non H', rt := Q } (start N_is_within vs) H
def t_need_number (K : PySem.W.Frag) (w : World) : TS :=
  (tIfS (tNot (tTru K (tFn 3 0 (sp_is_within K w) (fun vs _ => vs) E0 (tcP (tCons (tVar 0) (tCons (tVar 2) (tCons (tVar 3) tNil))))))) tNever tNext)
abbrev N_need_number : List Str := ["value", "part", "least", "most"]
def sp_need_number (K : PySem.W.Frag) (w : World) : Sp := fun vs H Q _ => vs.length = 4 ∧ t_need_number K w { nx := fun _ H' => Q .non H', rt := Q } (start N_need_number vs) H
def t_need_stretch (K : PySem.W.Frag) (w : World) : TS :=
  (tSeq (tDrop (tFn 4 0 (sp_need_number K w) (fun vs _ => vs) E0 (tcP (tCons (tVar 1) (tCons (tC (.str "begin")) (tCons (tC (.int 0)) (tCons (tOp qSub (tFld K (tVar 0) "days") (tC (.int 1))) tNil)))))))
  (tDrop (tFn 4 0 (sp_need_number K w) (fun vs _ => vs) E0 (tcP (tCons (tVar 2) (tCons (tC (.str "length")) (tCons (tC (.int 1)) (tCons (tOp qSub (tFld K (tVar 0) "days") (tVar 1)) tNil))))))))
abbrev N_need_stretch : List Str := ["row", "begin", "length"]
def sp_need_stretch (K : PySem.W.Frag) (w : World) : Sp := fun vs H Q _ => vs.length = 3 ∧ t_need_stretch K w { nx := fun _ H' => Q .non H', rt := Q } (start N_need_stretch vs) H
def t_Row_part (K : PySem.W.Frag) (w : World) : TS :=
  (tSeq (tDrop (tFn 3 0 (sp_need_stretch K w) (fun vs _ => vs) E0 (tcP (tCons (tVar 0) (tCons (tVar 1) (tCons (tVar 2) tNil))))))
  (tRet (tNew (He.ga K "Row") 1 0 (sp_Row_init K w) (fun vs _ => vs) E0 (tcP (tCons (tSl (qSl K) (tFld K (tVar 0) "gains") (tPart (tVar 1)) (tPart (tOp (qAdd K) (tVar 1) (tVar 2)))) tNil)))))
abbrev N_Row_part : List Str := ["self", "begin", "length"]
def sp_Row_part (K : PySem.W.Frag) (w : World) : Sp := fun vs H Q _ => vs.length = 3 ∧ t_Row_part K w { nx := fun _ H' => Q .non H', rt := Q } (start N_Row_part vs) H
def t_Row_sum_of (K : PySem.W.Frag) (w : World) : TS :=
  (tSeq (tDrop (tFn 3 0 (sp_need_stretch K w) (fun vs _ => vs) E0 (tcP (tCons (tVar 0) (tCons (tVar 1) (tCons (tVar 2) tNil))))))
  (tRet (tOp qSub (tOp (rIx K) (tFld K (tVar 0) "heights") (tOp (qAdd K) (tVar 1) (tVar 2))) (tOp (rIx K) (tFld K (tVar 0) "heights") (tVar 1)))))
abbrev N_Row_sum_of : List Str := ["self", "begin", "length"]
def sp_Row_sum_of (K : PySem.W.Frag) (w : World) : Sp := fun vs H Q _ => vs.length = 3 ∧ t_Row_sum_of K w { nx := fun _ H' => Q .non H', rt := Q } (start N_Row_sum_of vs) H
def t_law_heights (K : PySem.W.Frag) (w : World) : TS :=
  (tSeq (tPar 1 2 (tCons (tLst (tCons (tC (.int 0)) tNil)) (tCons (tC (.int 0)) tNil)))
  (tSeq (tFor (iAny K (tVar 0)) (gName 3) (tSeq (tAsg (tOp (qAdd K) (tVar 2) (tVar 3)) (gName 2))
  (tDrop (tBM K "list" rAppend (tVar 1) (tCons (tVar 2) tNil)))))
  (tRet (tVar 1))))
abbrev N_law_heights : List Str := ["_law_gains_here", "_law_found", "_law_total", "_law_gain"]
def sp_law_heights (K : PySem.W.Frag) (w : World) : Sp := fun vs H Q _ => vs.length = 1 ∧ t_law_heights K w { nx := fun _ H' => Q .non H', rt := Q } (start N_law_heights vs) H
def t_Row_len (K : PySem.W.Frag) (w : World) : TS :=
  (tRet (tCB (qLen K) (tCons (tFld K (tVar 0) "gains") tNil)))
abbrev N_Row_len : List Str := ["self"]
def sp_Row_len (K : PySem.W.Frag) (w : World) : Sp := fun vs H Q _ => vs.length = 1 ∧ t_Row_len K w { nx := fun _ H' => Q .non H', rt := Q } (start N_Row_len vs) H
def t_law_drip (K : PySem.W.Frag) (w : World) : TS :=
  (tSeq (tIfS (tTest (tOp qGt (tOp (rIx K) (tVar 0) (tC (.int 2))) (tC (.int 0)))) (tSeq (tAsg (tOp qMd (tCB qInt (tCons (tOp (rIx K) (tVar 0) (tC (.int 2))) tNil)) (tVar 1)) (gName 2))
  (tSeq (tAsg (tOp qFd (tCB qInt (tCons (tOp (rIx K) (tVar 0) (tC (.int 2))) tNil)) (tVar 1)) (gSub (tVar 0) (tC (.int 2)) rSetL))
  (tRet (tVar 2)))) tNext)
  (tSeq (tAsg (tOp (rIx K) (tVar 0) (tC (.int 1))) (gName 3))
  (tSeq (tAsg (tOp (qAdd K) (tVar 3) (tC (.int 1))) (gSub (tVar 0) (tC (.int 1)) rSetL))
  (tSeq (tAsg (tOp (qAdd K) (tOp qMul (tC (.int 63029)) (tVar 3)) (tC (.int 8117))) (gName 4))
  (tSeq (tIfS (tTest (tOp (orR2 (qNe K) (rNeO K (He.ga K "Row") (sp_Row_eq K w) E0)) (tOp (rIx K) (tVar 0) (tC (.int 0))) (tLst tNil))) (tAsg (tOp (rIx K) (tOp (rIx K) (tVar 0) (tC (.int 0))) (tOp qMd (tCB qInt (tCons (tVar 3) tNil)) (tCB (orC (qLen K) (rLenO (He.ga K "Row") (sp_Row_len K w) E0)) (tCons (tOp (rIx K) (tVar 0) (tC (.int 0))) tNil)))) (gName 4)) tNext)
  (tSeq (tIfS (tAnd (tTest (tOp (qLt K) (tVar 3) (tCB (orC (qLen K) (rLenO (He.ga K "Row") (sp_Row_len K w) E0)) (tCons (tOp (rIx K) (tVar 0) (tC (.int 0))) tNil)))) (tTest (tOp qGe (tCB qAbs (tCons (tVar 4) tNil)) (tOp qPw (tC (.int 10)) (tC (.int 18)))))) (tSeq (tAsg (tOp (qAdd K) (tOp qMul (tC (.int 2)) (tOp qSub (tCB qAbs (tCons (tVar 4) tNil)) (tOp qPw (tC (.int 10)) (tC (.int 18))))) (tCB qInt (tCons (tOp (qLt K) (tVar 4) (tC (.int 0))) tNil))) (gName 5))
  (tSeq (tAsg (tOp qFd (tCB qInt (tCons (tVar 5) tNil)) (tVar 1)) (gSub (tVar 0) (tC (.int 2)) rSetL))
  (tRet (tOp qMd (tCB qInt (tCons (tVar 5) tNil)) (tVar 1))))) tNext)
  (tSeq (tAsg (tOp qMd (tCB qInt (tCons (tOp qPw (tOp (qAdd K) (tOp (qAdd K) (tOp qMd (tCB qInt (tCons (tVar 4) tNil)) (tC (.int 2147483563))) (tOp qMul (tC (.int 74507)) (tVar 3))) (tC (.int 8117))) (tC (.int 5))) tNil)) (tC (.int 2147483587))) (gName 6))
  (tSeq (tAsg (tOp qMd (tCB qInt (tCons (tOp qPw (tOp (qAdd K) (tOp (qAdd K) (tOp qMul (tVar 6) (tOp (qAdd K) (tOp qMul (tC (.int 2)) (tVar 3)) (tC (.int 2411)))) (tOp qMul (tOp qMul (tC (.int 63029)) (tVar 3)) (tVar 3))) (tC (.int 93601))) (tC (.int 3))) tNil)) (tC (.int 2147483549))) (gName 6))
  (tRet (tOp qMd (tCB qInt (tCons (tOp qFd (tVar 6) (tC (.int 64))) tNil)) (tVar 1)))))))))))
abbrev N_law_drip : List Str := ["_law_tap_here", "_law_many", "_law_digit", "_law_at", "_law_cell", "_law_great", "_law_mixed"]
def sp_law_drip (K : PySem.W.Frag) (w : World) : Sp := fun vs H Q _ => vs.length = 2 ∧ t_law_drip K w { nx := fun _ H' => Q .non H', rt := Q } (start N_law_drip vs) H
def t_law_stretches_right (K : PySem.W.Frag) (w : World) : TS :=
  (tSeq (tPar3 2 3 4 (tCons (tNew (He.ga K "Row") 1 0 (sp_Row_init K w) (fun vs _ => vs) E0 (tcP (tCons (tVar 1) tNil))) (tCons (tCB (orC (qLen K) (rLenO (He.ga K "Row") (sp_Row_len K w) E0)) (tCons (tVar 1) tNil)) (tCons (tLst tNil) tNil))))
  (tSeq (tFor (iRng1 (tCons (tIf (tTest (tOp (qLt K) (tVar 3) (tC (.int 10)))) (tVar 3) (tC (.int 0))) tNil)) (gName 5) (tDrop (tBM K "list" rExtR (tVar 4) (tCons (tLc (iRng2 (tCons (tC (.int 1)) (tCons (tOp (qAdd K) (tOp qSub (tVar 3) (tVar 5)) (tC (.int 1))) tNil))) (gName 6) tYes (tTup (tCons (tVar 5) (tCons (tVar 6) tNil))) [6]) tNil))))
  (tSeq (tFor (iRng1 (tCons (tIf (tTest (tOp qGt (tVar 3) (tC (.int 9)))) (tC (.int 30)) (tC (.int 0))) tNil)) (gName 7) (tSeq (tAsg (tFn 2 0 (sp_law_drip K w) (fun vs _ => vs) E0 (tcP (tCons (tVar 0) (tCons (tVar 3) tNil)))) (gName 5))
  (tDrop (tBM K "list" rAppend (tVar 4) (tCons (tTup (tCons (tVar 5) (tCons (tOp (qAdd K) (tC (.int 1)) (tFn 2 0 (sp_law_drip K w) (fun vs _ => vs) E0 (tcP (tCons (tVar 0) (tCons (tOp qSub (tVar 3) (tVar 5)) tNil))))) tNil))) tNil)))))
  (tSeq (tFor (iAny K (tVar 4)) (gTup K 2 (gCons (gName 5) (gCons (gName 6) gNil))) (tSeq (tAsg (tSl (qSl K) (tVar 1) (tPart (tVar 5)) (tPart (tOp (qAdd K) (tVar 5) (tVar 6)))) (gName 8))
  (tSeq (tIfS (tOr (tTest (tOp (orR2 (qNe K) (rNeO K (He.ga K "Row") (sp_Row_eq K w) E0)) (tMt (He.ga K "Row") "sum_of" 2 0 (sp_Row_sum_of K w) (fun vs _ => vs) E0 (tVar 2) (tcP (tCons (tVar 5) (tCons (tVar 6) tNil)))) (tCB (rSum K) (tCons (tVar 8) tNil)))) (tTest (tOp (orR2 (qNe K) (rNeO K (He.ga K "Row") (sp_Row_eq K w) E0)) (tMt (He.ga K "Row") "sum_of" 0 2 (sp_Row_sum_of K w) (pick V.non [0, 2, 1]) E0 (tVar 2) (tcK (tCons (tVar 6) (tCons (tVar 5) tNil)))) (tCB (rSum K) (tCons (tVar 8) tNil))))) (tRet (tC (.bl false))) tNext)
  (tSeq (tAsg (tMt (He.ga K "Row") "part" 0 2 (sp_Row_part K w) (pick V.non [0, 2, 1]) E0 (tVar 2) (tcK (tCons (tVar 6) (tCons (tVar 5) tNil)))) (gName 9))
  (tIfS (tOr (tTest (tOp (orR2 (qNe K) (rNeO K (He.ga K "Row") (sp_Row_eq K w) E0)) (tFld K (tVar 9) "gains") (tCB (qTup K) (tCons (tVar 8) tNil)))) (tOr (tTest (tOp (orR2 (qNe K) (rNeO K (He.ga K "Row") (sp_Row_eq K w) E0)) (tFld K (tVar 9) "heights") (tCB (qTup K) (tCons (tFn 1 0 (sp_law_heights K w) (fun vs _ => vs) E0 (tcP (tCons (tVar 8) tNil))) tNil)))) (tTest (tOp (orR2 (qNe K) (rNeO K (He.ga K "Row") (sp_Row_eq K w) E0)) (tVar 9) (tMt (He.ga K "Row") "part" 2 0 (sp_Row_part K w) (fun vs _ => vs) E0 (tVar 2) (tcP (tCons (tVar 5) (tCons (tVar 6) tNil)))))))) (tRet (tC (.bl false))) tNext)))))
  (tRet (tAndT K (tOp (orR2 (qEq K) (rEqO K (He.ga K "Row") (sp_Row_eq K w) E0)) (tMt (He.ga K "Row") "sum_of" 2 0 (sp_Row_sum_of K w) (fun vs _ => vs) E0 (tVar 2) (tcP (tCons (tC (.int 0)) (tCons (tVar 3) tNil)))) (tCB (rSum K) (tCons (tVar 1) tNil))) (tAndT K (tOp (orR2 (qEq K) (rEqO K (He.ga K "Row") (sp_Row_eq K w) E0)) (tMt (He.ga K "Row") "part" 2 0 (sp_Row_part K w) (fun vs _ => vs) E0 (tVar 2) (tcP (tCons (tC (.int 0)) (tCons (tVar 3) tNil)))) (tVar 2)) (tOp (orR2 (qEq K) (rEqO K (He.ga K "Row") (sp_Row_eq K w) E0)) (tFld K (tVar 2) "gains") (tCB (qTup K) (tCons (tVar 1) tNil))))))))))
abbrev N_law_stretches_right : List Str := ["_law_tap_here", "_law_gains_here", "_law_row", "_law_days", "_law_spots", "_law_begin", "_law_length", "_law_turn", "_law_due", "_law_part"]
def sp_law_stretches_right (K : PySem.W.Frag) (w : World) : Sp := fun vs H Q _ => vs.length = 2 ∧ t_law_stretches_right K w { nx := fun _ H' => Q .non H', rt := Q } (start N_law_stretches_right vs) H
def t_Row_str (K : PySem.W.Frag) (w : World) : TS :=
  (tRet (tBM K "str" (qJoin K) (tC (.str " ")) (tCons (tLc (iAny K (tFld K (tVar 0) "gains")) (gName 1) tYes (tCB qStr (tCons (tVar 1) tNil)) [1]) tNil)))
abbrev N_Row_str : List Str := ["self", "gain"]
def sp_Row_str (K : PySem.W.Frag) (w : World) : Sp := fun vs H Q _ => vs.length = 1 ∧ t_Row_str K w { nx := fun _ H' => Q .non H', rt := Q } (start N_Row_str vs) H
def t_law_any (K : PySem.W.Frag) (w : World) : TS :=
  (tRet (tOp (rIx K) (tVar 1) (tFn 2 0 (sp_law_drip K w) (fun vs _ => vs) E0 (tcP (tCons (tVar 0) (tCons (tCB (orC (qLen K) (rLenO (He.ga K "Row") (sp_Row_len K w) E0)) (tCons (tVar 1) tNil)) tNil))))))
abbrev N_law_any : List Str := ["_law_tap_here", "_law_some"]
def sp_law_any (K : PySem.W.Frag) (w : World) : Sp := fun vs H Q _ => vs.length = 2 ∧ t_law_any K w { nx := fun _ H' => Q .non H', rt := Q } (start N_law_any vs) H
def t_law_like_right (K : PySem.W.Frag) (w : World) : TS :=
  (tSeq (tPar 3 4 (tCons (tCB (qLst K) (tCons (tVar 1) tNil)) (tCons (tFn 2 0 (sp_law_drip K w) (fun vs _ => vs) E0 (tcP (tCons (tVar 0) (tCons (tCB (orC (qLen K) (rLenO (He.ga K "Row") (sp_Row_len K w) E0)) (tCons (tVar 1) tNil)) tNil)))) tNil)))
  (tSeq (tAsg (tOp (qAdd K) (tOp (rIx K) (tVar 3) (tVar 4)) (tFn 2 0 (sp_law_any K w) (fun vs _ => vs) E0 (tcP (tCons (tVar 0) (tCons (tLst (tCons (tC (.int 1)) (tCons (tUn (rU fun i => .int (-i)) (tC (.int 1))) (tCons (tOp qPw (tC (.int 10)) (tC (.int 20))) tNil)))) tNil))))) (gSub (tVar 3) (tVar 4) rSetL))
  (tSeq (tIfS (tOr (tTest (tOp (orR2 (qEq K) (rEqO K (He.ga K "Row") (sp_Row_eq K w) E0)) (tVar 2) (tNew (He.ga K "Row") 1 0 (sp_Row_init K w) (fun vs _ => vs) E0 (tcP (tCons (tVar 3) tNil))))) (tOr (tNot (tTest (tOp (orR2 (qNe K) (rNeO K (He.ga K "Row") (sp_Row_eq K w) E0)) (tVar 2) (tNew (He.ga K "Row") 1 0 (sp_Row_init K w) (fun vs _ => vs) E0 (tcP (tCons (tVar 3) tNil)))))) (tOr (tTest (tOp (orR2 (qEq K) (rEqO K (He.ga K "Row") (sp_Row_eq K w) E0)) (tVar 2) (tCB (qTup K) (tCons (tVar 1) tNil)))) (tOr (tTest (tOp (orR2 (qEq K) (rEqO K (He.ga K "Row") (sp_Row_eq K w) E0)) (tVar 2) (tCB (qLst K) (tCons (tVar 1) tNil)))) (tTest (tOp (orR2 (qEq K) (rEqO K (He.ga K "Row") (sp_Row_eq K w) E0)) (tVar 2) (tCB (orC qStr (rStrO (He.ga K "Row") (sp_Row_str K w) E0)) (tCons (tVar 2) tNil)))))))) (tRet (tC (.bl false))) tNext)
  (tSeq (tIfS (tAnd (tTest (tOp (qLt K) (tCB (orC (qLen K) (rLenO (He.ga K "Row") (sp_Row_len K w) E0)) (tCons (tVar 1) tNil)) (tC (.int 48)))) (tOr (tTest (tOp (orR2 (qEq K) (rEqO K (He.ga K "Row") (sp_Row_eq K w) E0)) (tVar 2) (tNew (He.ga K "Row") 1 0 (sp_Row_init K w) (fun vs _ => vs) E0 (tcP (tCons (tOp (qAdd K) (tVar 1) (tLst (tCons (tC (.int 0)) tNil))) tNil))))) (tTest (tOp (orR2 (qEq K) (rEqO K (He.ga K "Row") (sp_Row_eq K w) E0)) (tVar 2) (tNew (He.ga K "Row") 1 0 (sp_Row_init K w) (fun vs _ => vs) E0 (tcP (tCons (tOp (qAdd K) (tLst (tCons (tC (.int 0)) tNil)) (tVar 1)) tNil))))))) (tRet (tC (.bl false))) tNext)
  (tRet (tAndT K (tOp (orR2 (qEq K) (rEqO K (He.ga K "Row") (sp_Row_eq K w) E0)) (tVar 2) (tNew (He.ga K "Row") 1 0 (sp_Row_init K w) (fun vs _ => vs) E0 (tcP (tCons (tCB (qTup K) (tCons (tVar 1) tNil)) tNil)))) (tOrT K (tOp (orR2 (qEq K) (rEqO K (He.ga K "Row") (sp_Row_eq K w) E0)) (tCB (orC (qLen K) (rLenO (He.ga K "Row") (sp_Row_len K w) E0)) (tCons (tVar 1) tNil)) (tC (.int 1))) (tOp (orR2 (qNe K) (rNeO K (He.ga K "Row") (sp_Row_eq K w) E0)) (tVar 2) (tNew (He.ga K "Row") 1 0 (sp_Row_init K w) (fun vs _ => vs) E0 (tcP (tCons (tSl (qSl K) (tVar 1) tNoPart (tPart (tUn (rU fun i => .int (-i)) (tC (.int 1))))) tNil)))))))))))
abbrev N_law_like_right : List Str := ["_law_tap_here", "_law_gains_here", "_law_row", "_law_other", "_law_at"]
def sp_law_like_right (K : PySem.W.Frag) (w : World) : Sp := fun vs H Q _ => vs.length = 3 ∧ t_law_like_right K w { nx := fun _ H' => Q .non H', rt := Q } (start N_law_like_right vs) H
def t_Row_of (K : PySem.W.Frag) (w : World) : TS :=
  (tSeq (tIfS (tOr (tNot (tTru K (tFn 1 0 (sp_are_integers K w) (fun vs _ => vs) E0 (tcP (tCons (tVar 0) tNil))))) (tOr (tTest (tOp (qLt K) (tCB (qLen K) (tCons (tVar 0) tNil)) (tC (.int 2)))) (tTest (tOp (qNe K) (tOp (rIx K) (tVar 0) (tC (.int 0))) (tC (.int 0)))))) tNever tNext)
  (tRet (tNew (He.ga K "Row") 1 0 (sp_Row_init K w) (fun vs _ => vs) E0 (tcP (tCons (tLc (iZipA K (tCons (tVar 0) (tCons (tSl (qSl K) (tVar 0) (tPart (tC (.int 1))) tNoPart) tNil))) (gTup K 2 (gCons (gName 1) (gCons (gName 2) gNil))) tYes (tOp qSub (tVar 2) (tVar 1)) [1, 2]) tNil)))))
abbrev N_Row_of : List Str := ["heights", "ahead", "behind"]
def sp_Row_of (K : PySem.W.Frag) (w : World) : Sp := fun vs H Q _ => vs.length = 1 ∧ t_Row_of K w { nx := fun _ H' => Q .non H', rt := Q } (start N_Row_of vs) H
def t_law_made_right (K : PySem.W.Frag) (w : World) : TS :=
  (tSeq (tPar 2 3 (tCons (tCB (qLst K) (tCons (tVar 1) tNil)) (tCons (tFn 1 0 (sp_law_heights K w) (fun vs _ => vs) E0 (tcP (tCons (tVar 1) tNil))) tNil)))
  (tSeq (tAsg (tCB (qLst K) (tCons (tVar 3) tNil)) (gName 4))
  (tSeq (tPar 5 6 (tCons (tNew (He.ga K "Row") 0 1 (sp_Row_init K w) (pick V.non [0, 1]) E0 (tcK (tCons (tFn 2 0 (sp_law_any K w) (fun vs _ => vs) E0 (tcP (tCons (tVar 0) (tCons (tLst (tCons (tVar 2) (tCons (tCB (qTup K) (tCons (tVar 2) tNil)) tNil))) tNil)))) tNil))) (tCons (tFn 0 1 (sp_Row_of K w) (pick V.non [0]) E0 (tcK (tCons (tFn 2 0 (sp_law_any K w) (fun vs _ => vs) E0 (tcP (tCons (tVar 0) (tCons (tLst (tCons (tVar 4) (tCons (tCB (qTup K) (tCons (tVar 4) tNil)) tNil))) tNil)))) tNil))) tNil)))
  (tSeq (tAsg (tTup (tCons (tC (.int 99)) (tCons (tC (.int 99)) tNil))) (gTup K 2 (gCons (gSub (tVar 2) (tC (.int 0)) rSetL) (gCons (gSub (tVar 4) (tUn (rU fun i => .int (-i)) (tC (.int 1))) rSetL) gNil))))
  (tSeq (tDrop (tBM K "list" rAppend (tVar 2) (tCons (tC (.int 7)) tNil)))
  (tSeq (tFor (iAny K (tTup (tCons (tVar 5) (tCons (tVar 6) tNil)))) (gName 7) (tSeq (tIfS (tOr (tTest (tOp (orR2 (qNe K) (rNeO K (He.ga K "Row") (sp_Row_eq K w) E0)) (tFld K (tVar 7) "gains") (tCB (qTup K) (tCons (tVar 1) tNil)))) (tOr (tTest (tOp (orR2 (qNe K) (rNeO K (He.ga K "Row") (sp_Row_eq K w) E0)) (tFld K (tVar 7) "heights") (tCB (qTup K) (tCons (tVar 3) tNil)))) (tOr (tTest (tOp (orR2 (qNe K) (rNeO K (He.ga K "Row") (sp_Row_eq K w) E0)) (tFld K (tVar 7) "days") (tCB (orC (qLen K) (rLenO (He.ga K "Row") (sp_Row_len K w) E0)) (tCons (tVar 1) tNil)))) (tTest (tOp (orR2 (qNe K) (rNeO K (He.ga K "Row") (sp_Row_eq K w) E0)) (tCB (orC (qLen K) (rLenO (He.ga K "Row") (sp_Row_len K w) E0)) (tCons (tVar 7) tNil)) (tCB (orC (qLen K) (rLenO (He.ga K "Row") (sp_Row_len K w) E0)) (tCons (tVar 1) tNil))))))) (tRet (tC (.bl false))) tNext)
  (tIfS (tOr (tTest (tOp (orR2 (qNe K) (rNeO K (He.ga K "Row") (sp_Row_eq K w) E0)) (tFld K (tVar 7) "total") (tOp (rIx K) (tVar 3) (tUn (rU fun i => .int (-i)) (tC (.int 1)))))) (tTest (tOp (orR2 (qNe K) (rNeO K (He.ga K "Row") (sp_Row_eq K w) E0)) (tCB (orC qStr (rStrO (He.ga K "Row") (sp_Row_str K w) E0)) (tCons (tVar 7) tNil)) (tBM K "str" (qJoin K) (tC (.str " ")) (tCons (tLc (iAny K (tVar 1)) (gName 8) tYes (tCB (orC qStr (rStrO (He.ga K "Row") (sp_Row_str K w) E0)) (tCons (tVar 8) tNil)) [8]) tNil))))) (tRet (tC (.bl false))) tNext)))
  (tRet (tAndT K (tOp (orR2 (qEq K) (rEqO K (He.ga K "Row") (sp_Row_eq K w) E0)) (tVar 5) (tVar 6)) (tFn 3 0 (sp_law_like_right K w) (fun vs _ => vs) E0 (tcP (tCons (tVar 0) (tCons (tVar 1) (tCons (tVar 5) tNil)))))))))))))
abbrev N_law_made_right : List Str := ["_law_tap_here", "_law_gains_here", "_law_passed", "_law_heights_here", "_law_told", "_law_row", "_law_same", "_law_one", "_law_gain"]
def sp_law_made_right (K : PySem.W.Frag) (w : World) : Sp := fun vs H Q _ => vs.length = 2 ∧ t_law_made_right K w { nx := fun _ H' => Q .non H', rt := Q } (start N_law_made_right vs) H
def t_law_gains (K : PySem.W.Frag) (w : World) : TS :=
  (tSeq (tAsg (tFn 2 0 (sp_law_drip K w) (fun vs _ => vs) E0 (tcP (tCons (tVar 0) (tCons (tC (.int 7)) tNil)))) (gName 2))
  (tSeq (tIfS (tTest (tOp (qLt K) (tVar 2) (tC (.int 2)))) (tRet (tLc (iRng1 (tCons (tVar 1) tNil)) (gName 6) tYes (tOp qSub (tFn 2 0 (sp_law_drip K w) (fun vs _ => vs) E0 (tcP (tCons (tVar 0) (tCons (tC (.int 7)) tNil)))) (tC (.int 3))) [6])) tNext)
  (tSeq (tIfS (tTest (tOp (orR2 (qEq K) (rEqO K (He.ga K "Row") (sp_Row_eq K w) E0)) (tVar 2) (tC (.int 2)))) (tRet (tLc (iRng1 (tCons (tVar 1) tNil)) (gName 6) tYes (tFn 2 0 (sp_law_any K w) (fun vs _ => vs) E0 (tcP (tCons (tVar 0) (tCons (tLst (tCons (tC (.int 0)) (tCons (tC (.int 0)) (tCons (tC (.int 0)) (tCons (tC (.int 1)) (tCons (tUn (rU fun i => .int (-i)) (tC (.int 1))) tNil)))))) tNil)))) [6])) tNext)
  (tSeq (tIfS (tTest (tOp (orR2 (qEq K) (rEqO K (He.ga K "Row") (sp_Row_eq K w) E0)) (tVar 2) (tC (.int 3)))) (tRet (tLc (iRng1 (tCons (tVar 1) tNil)) (gName 6) tYes (tFn 2 0 (sp_law_any K w) (fun vs _ => vs) E0 (tcP (tCons (tVar 0) (tCons (tLst (tCons (tOp qPw (tC (.int 10)) (tC (.int 20))) (tCons (tOp qSub (tC (.int 1)) (tOp qPw (tC (.int 10)) (tC (.int 20)))) (tCons (tOp qPw (tC (.int 10)) (tC (.int 6))) (tCons (tC (.int 0)) (tCons (tUn (rU fun i => .int (-i)) (tC (.int 999999))) (tCons (tC (.int 7)) tNil))))))) tNil)))) [6])) tNext)
  (tSeq (tAsg (tLc (iRng1 (tCons (tOp (qAdd K) (tC (.int 1)) (tFn 2 0 (sp_law_drip K w) (fun vs _ => vs) E0 (tcP (tCons (tVar 0) (tCons (tC (.int 5)) tNil))))) tNil)) (gName 6) tYes (tOp qSub (tFn 2 0 (sp_law_drip K w) (fun vs _ => vs) E0 (tcP (tCons (tVar 0) (tCons (tC (.int 9)) tNil)))) (tC (.int 4))) [6]) (gName 3))
  (tSeq (tIfS (tTest (tOp (orR2 (qEq K) (rEqO K (He.ga K "Row") (sp_Row_eq K w) E0)) (tVar 2) (tC (.int 4)))) (tAsg (tOp qSub (tOp (rIx K) (tVar 3) (tC (.int 0))) (tCB (rSum K) (tCons (tVar 3) tNil))) (gSub (tVar 3) (tC (.int 0)) rSetL)) tNext)
  (tSeq (tAsg (tLc (iRng1 (tCons (tVar 1) tNil)) (gName 6) tYes (tOp (rIx K) (tVar 3) (tOp qMd (tCB qInt (tCons (tVar 6) tNil)) (tCB (orC (qLen K) (rLenO (He.ga K "Row") (sp_Row_len K w) E0)) (tCons (tVar 3) tNil)))) [6]) (gName 4))
  (tSeq (tIfS (tTest (tOp (orR2 (qEq K) (rEqO K (He.ga K "Row") (sp_Row_eq K w) E0)) (tVar 2) (tC (.int 6)))) (tSeq (tAsg (tFn 2 0 (sp_law_drip K w) (fun vs _ => vs) E0 (tcP (tCons (tVar 0) (tCons (tVar 1) tNil)))) (gName 5))
  (tAsg (tOp (qAdd K) (tOp (rIx K) (tVar 4) (tVar 5)) (tFn 2 0 (sp_law_any K w) (fun vs _ => vs) E0 (tcP (tCons (tVar 0) (tCons (tLst (tCons (tC (.int 1)) (tCons (tUn (rU fun i => .int (-i)) (tC (.int 1))) (tCons (tC (.int 30)) tNil)))) tNil))))) (gSub (tVar 4) (tVar 5) rSetL))) tNext)
  (tRet (tVar 4))))))))))
abbrev N_law_gains : List Str := ["_law_tap_here", "_law_days", "_law_way", "_law_few", "_law_found", "_law_at", "_law_day"]
def sp_law_gains (K : PySem.W.Frag) (w : World) : Sp := fun vs H Q _ => vs.length = 2 ∧ t_law_gains K w { nx := fun _ H' => Q .non H', rt := Q } (start N_law_gains vs) H
def t_law_tap (K : PySem.W.Frag) (w : World) : TS :=
  (tRet (tLst (tCons (tLc (iAny K (tSl (qSl K) (tVar 0) tNoPart (tPart (tC (.int 60))))) (gName 1) tYes (tCB qInt (tCons (tVar 1) tNil)) [1]) (tCons (tC (.int 0)) (tCons (tC (.int 0)) tNil)))))
abbrev N_law_tap : List Str := ["_law_script", "_law_cell"]
def sp_law_tap (K : PySem.W.Frag) (w : World) : Sp := fun vs H Q _ => vs.length = 1 ∧ t_law_tap K w { nx := fun _ H' => Q .non H', rt := Q } (start N_law_tap vs) H
def t_law (K : PySem.W.Frag) (w : World) : TS :=
  (tSeq (tAsg (tFn 1 0 (sp_law_tap K w) (fun vs _ => vs) E0 (tcP (tCons (tVar 0) tNil))) (gName 1))
  (tSeq (tFor (iRng1 (tCons (tC (.int 3)) tNil)) (gName 2) (tSeq (tAsg (tFn 2 0 (sp_law_gains K w) (fun vs _ => vs) E0 (tcP (tCons (tVar 1) (tCons (tFn 2 0 (sp_law_any K w) (fun vs _ => vs) E0 (tcP (tCons (tVar 1) (tCons (tLst (tCons (tC (.int 6)) (tCons (tC (.int 1)) (tCons (tC (.int 48)) (tCons (tC (.int 12)) (tCons (tC (.int 3)) (tCons (tC (.int 2)) (tCons (tC (.int 7)) (tCons (tC (.int 24)) (tCons (tC (.int 9)) (tCons (tC (.int 47)) tNil))))))))))) tNil)))) tNil)))) (gName 3))
  (tIfS (tOr (tNot (tTru K (tFn 2 0 (sp_law_made_right K w) (fun vs _ => vs) E0 (tcP (tCons (tVar 1) (tCons (tVar 3) tNil)))))) (tNot (tTru K (tFn 2 0 (sp_law_stretches_right K w) (fun vs _ => vs) E0 (tcP (tCons (tVar 1) (tCons (tVar 3) tNil))))))) (tRet (tC (.bl false))) tNext)))
  (tRet (tC (.bl true)))))
abbrev N_law : List Str := ["_law_script", "_law_tap_here", "_law_turn", "_law_gains_here"]
def sp_law (K : PySem.W.Frag) (w : World) : Sp := fun vs H Q _ => vs.length = 1 ∧ t_law K w { nx := fun _ H' => Q .non H', rt := Q } (start N_law vs) H
end K04

set_option Elab.async false
set_option linter.all false
set_option maxRecDepth 100000
set_option maxHeartbeats 4000000
namespace K04
open PySem PySem.Spec PyProof.Rows L2 Rl RZ RT
def top (i : Nat) : Stmt := PySem.Challenge.pw_anyseven_k04_rows_by_their_gains.main.body.getD i (.Pass ⟨0, 0, 0, 0⟩)
abbrev st_Row_eq : Stmt := inClass (top 21) 11
abbrev d_Row_eq : Df := ⟨.meth "Row" "__eq__", "__eq__", "Row.__eq__", defArgs st_Row_eq, defBody st_Row_eq, defScope st_Row_eq⟩
abbrev st_heights_of : Stmt := top 20
abbrev d_heights_of : Df := ⟨.top "heights_of", "heights_of", "heights_of", defArgs st_heights_of, defBody st_heights_of, defScope st_heights_of⟩
abbrev st_is_integer : Stmt := top 9
abbrev d_is_integer : Df := ⟨.top "is_integer", "is_integer", "is_integer", defArgs st_is_integer, defBody st_is_integer, defScope st_is_integer⟩
abbrev st_are_integers : Stmt := top 11
abbrev d_are_integers : Df := ⟨.top "are_integers", "are_integers", "are_integers", defArgs st_are_integers, defBody st_are_integers, defScope st_are_integers⟩
abbrev st_Row_init : Stmt := inClass (top 21) 0
abbrev d_Row_init : Df := ⟨.meth "Row" "__init__", "__init__", "Row.__init__", defArgs st_Row_init, defBody st_Row_init, defScope st_Row_init⟩
abbrev st_is_within : Stmt := top 10
abbrev d_is_within : Df := ⟨.top "is_within", "is_within", "is_within", defArgs st_is_within, defBody st_is_within, defScope st_is_within⟩
abbrev st_need_number : Stmt := top 12
abbrev d_need_number : Df := ⟨.top "need_number", "need_number", "need_number", defArgs st_need_number, defBody st_need_number, defScope st_need_number⟩
abbrev st_need_stretch : Stmt := top 19
abbrev d_need_stretch : Df := ⟨.top "need_stretch", "need_stretch", "need_stretch", defArgs st_need_stretch, defBody st_need_stretch, defScope st_need_stretch⟩
abbrev st_Row_part : Stmt := inClass (top 21) 4
abbrev d_Row_part : Df := ⟨.meth "Row" "part", "part", "Row.part", defArgs st_Row_part, defBody st_Row_part, defScope st_Row_part⟩
abbrev st_Row_sum_of : Stmt := inClass (top 21) 3
abbrev d_Row_sum_of : Df := ⟨.meth "Row" "sum_of", "sum_of", "Row.sum_of", defArgs st_Row_sum_of, defBody st_Row_sum_of, defScope st_Row_sum_of⟩
abbrev st_law_heights : Stmt := top 27
abbrev d_law_heights : Df := ⟨.top "_law_heights", "_law_heights", "_law_heights", defArgs st_law_heights, defBody st_law_heights, defScope st_law_heights⟩
abbrev st_Row_len : Stmt := inClass (top 21) 10
abbrev d_Row_len : Df := ⟨.meth "Row" "__len__", "__len__", "Row.__len__", defArgs st_Row_len, defBody st_Row_len, defScope st_Row_len⟩
abbrev st_law_drip : Stmt := top 24
abbrev d_law_drip : Df := ⟨.top "_law_drip", "_law_drip", "_law_drip", defArgs st_law_drip, defBody st_law_drip, defScope st_law_drip⟩
abbrev st_law_stretches_right : Stmt := top 30
abbrev d_law_stretches_right : Df := ⟨.top "_law_stretches_right", "_law_stretches_right", "_law_stretches_right", defArgs st_law_stretches_right, defBody st_law_stretches_right, defScope st_law_stretches_right⟩
abbrev st_Row_str : Stmt := inClass (top 21) 12
abbrev d_Row_str : Df := ⟨.meth "Row" "__str__", "__str__", "Row.__str__", defArgs st_Row_str, defBody st_Row_str, defScope st_Row_str⟩
abbrev st_law_any : Stmt := top 25
abbrev d_law_any : Df := ⟨.top "_law_any", "_law_any", "_law_any", defArgs st_law_any, defBody st_law_any, defScope st_law_any⟩
abbrev st_law_like_right : Stmt := top 29
abbrev d_law_like_right : Df := ⟨.top "_law_like_right", "_law_like_right", "_law_like_right", defArgs st_law_like_right, defBody st_law_like_right, defScope st_law_like_right⟩
abbrev st_Row_of : Stmt := inClass (top 21) 1
abbrev d_Row_of : Df := ⟨.stat "Row" "of", "of", "Row.of", defArgs st_Row_of, defBody st_Row_of, defScope st_Row_of⟩
abbrev st_law_made_right : Stmt := top 28
abbrev d_law_made_right : Df := ⟨.top "_law_made_right", "_law_made_right", "_law_made_right", defArgs st_law_made_right, defBody st_law_made_right, defScope st_law_made_right⟩
abbrev st_law_gains : Stmt := top 26
abbrev d_law_gains : Df := ⟨.top "_law_gains", "_law_gains", "_law_gains", defArgs st_law_gains, defBody st_law_gains, defScope st_law_gains⟩
abbrev st_law_tap : Stmt := top 23
abbrev d_law_tap : Df := ⟨.top "_law_tap", "_law_tap", "_law_tap", defArgs st_law_tap, defBody st_law_tap, defScope st_law_tap⟩
abbrev st_law : Stmt := top 31
abbrev d_law : Df := ⟨.top "law", "law", "law", defArgs st_law, defBody st_law, defScope st_law⟩
def fn : List Df := [d_Row_eq, d_heights_of, d_is_integer, d_are_integers, d_Row_init, d_is_within, d_need_number, d_need_stretch, d_Row_part, d_Row_sum_of, d_law_heights, d_Row_len, d_law_drip, d_law_stretches_right, d_Row_str, d_law_any, d_law_like_right, d_Row_of, d_law_made_right, d_law_gains, d_law_tap, d_law]
def fa : List Fb := [.he (.free "range"),
  .he (.glo "Row"),
  .he (.free "isinstance"),
  .spm "Row" "__eq__",
  .he (.free "tuple"),
  .he (.free "len"),
  .he (.glo "heights_of"),
  .he (.int "MOST_DAYS" (48)),
  .he (.free "bool"),
  .he (.free "int"),
  .he (.glo "is_integer"),
  .he (.free "all"),
  .he (.free "list"),
  .he (.glo "are_integers"),
  .he (.mkr "Row"),
  .he (.glo "is_within"),
  .he (.glo "need_number"),
  .he (.glo "need_stretch"),
  .he (.cls "Row"),
  .he (.meth "Row" "part"),
  .he (.meth "Row" "sum_of"),
  .he (.free "sum"),
  .nem "Row",
  .he (.glo "_law_heights"),
  .he (.free "abs"),
  .spm "Row" "__len__",
  .he (.glo "_law_drip"),
  .he (.glo "_law_stretches_right"),
  .he (.free "str"),
  .spm "Row" "__str__",
  .he (.glo "_law_any"),
  .he (.glo "_law_like_right"),
  .he (.free "zip"),
  .stm "Row" "of",
  .he (.glo "_law_made_right"),
  .he (.glo "_law_gains"),
  .he (.glo "_law_tap"),
  .tyi "Row",
  .he (.noat "Row" "gains"),
  .he (.noat "Row" "heights"),
  .he (.noat "Row" "days"),
  .he (.noat "Row" "total"),
  .kit "NoneType" "Row" false,
  .kit "bool" "Row" false,
  .kit "int" "Row" false,
  .kit "str" "Row" false,
  .kit "list" "Row" false,
  .kit "tuple" "Row" false,
  .kitO "Row" "Row" true,
  .nf "NoneType" "Row",
  .nf "bool" "Row",
  .nf "int" "Row",
  .nf "str" "Row",
  .nf "list" "Row",
  .nf "tuple" "Row",
  .nfO "Row" "Row"]
structure Bd (K : PySem.W.Frag) (mg : Str → Option Value) : Prop where
  ex : ∃ h : Heap, K.In h ∧ h.Ns mainGlobals mg ∧ SaysB fa fn K
section
variable {K : PySem.W.Frag} {mg : Str → Option Value}
theorem g_range (b : Bd K mg) : mg "range" = none := by
  obtain ⟨h, X, G, c⟩ := b.ex
  exact He.free_ok X G (c.fact 0 (f := .he (.free "range")) rfl)
theorem n_Row (b : Bd K mg) : mg "Row" = some (.ref (He.ga K "Row")) := by
  obtain ⟨h, X, G, c⟩ := b.ex
  exact He.glo_ok X G (c.fact 1 (f := .he (.glo "Row")) rfl)
theorem g_isinstance (b : Bd K mg) : mg "isinstance" = none := by
  obtain ⟨h, X, G, c⟩ := b.ex
  exact He.free_ok X G (c.fact 2 (f := .he (.free "isinstance")) rfl)
theorem spm_Row_eq (b : Bd K mg) : Spm K (He.ga K "Row") "__eq__" (ad K (.meth "Row" "__eq__")) := by
  obtain ⟨h, X, G, c⟩ := b.ex
  exact spm_ok (c.fact 3 (f := .spm "Row" "__eq__") rfl)
theorem g_tuple (b : Bd K mg) : mg "tuple" = none := by
  obtain ⟨h, X, G, c⟩ := b.ex
  exact He.free_ok X G (c.fact 4 (f := .he (.free "tuple")) rfl)
theorem g_len (b : Bd K mg) : mg "len" = none := by
  obtain ⟨h, X, G, c⟩ := b.ex
  exact He.free_ok X G (c.fact 5 (f := .he (.free "len")) rfl)
theorem n_heights_of (b : Bd K mg) : mg "heights_of" = some (.ref (He.ga K "heights_of")) := by
  obtain ⟨h, X, G, c⟩ := b.ex
  exact He.glo_ok X G (c.fact 6 (f := .he (.glo "heights_of")) rfl)
theorem k_MOST_DAYS (b : Bd K mg) : ∃ t, mg "MOST_DAYS" = some (.int (48) t) := by
  obtain ⟨h, X, G, c⟩ := b.ex
  exact He.int_ok X G (c.fact 7 (f := .he (.int "MOST_DAYS" (48))) rfl)
theorem g_bool (b : Bd K mg) : mg "bool" = none := by
  obtain ⟨h, X, G, c⟩ := b.ex
  exact He.free_ok X G (c.fact 8 (f := .he (.free "bool")) rfl)
theorem g_int (b : Bd K mg) : mg "int" = none := by
  obtain ⟨h, X, G, c⟩ := b.ex
  exact He.free_ok X G (c.fact 9 (f := .he (.free "int")) rfl)
theorem n_is_integer (b : Bd K mg) : mg "is_integer" = some (.ref (He.ga K "is_integer")) := by
  obtain ⟨h, X, G, c⟩ := b.ex
  exact He.glo_ok X G (c.fact 10 (f := .he (.glo "is_integer")) rfl)
theorem g_all (b : Bd K mg) : mg "all" = none := by
  obtain ⟨h, X, G, c⟩ := b.ex
  exact He.free_ok X G (c.fact 11 (f := .he (.free "all")) rfl)
theorem g_list (b : Bd K mg) : mg "list" = none := by
  obtain ⟨h, X, G, c⟩ := b.ex
  exact He.free_ok X G (c.fact 12 (f := .he (.free "list")) rfl)
theorem n_are_integers (b : Bd K mg) : mg "are_integers" = some (.ref (He.ga K "are_integers")) := by
  obtain ⟨h, X, G, c⟩ := b.ex
  exact He.glo_ok X G (c.fact 13 (f := .he (.glo "are_integers")) rfl)
theorem mk_Row (b : Bd K mg) : Mk K (He.ga K "Row") (ad K (.meth "Row" "__init__")) := by
  obtain ⟨h, X, G, c⟩ := b.ex
  exact He.mkr_ok (c.fact 14 (f := .he (.mkr "Row")) rfl)
theorem n_is_within (b : Bd K mg) : mg "is_within" = some (.ref (He.ga K "is_within")) := by
  obtain ⟨h, X, G, c⟩ := b.ex
  exact He.glo_ok X G (c.fact 15 (f := .he (.glo "is_within")) rfl)
theorem n_need_number (b : Bd K mg) : mg "need_number" = some (.ref (He.ga K "need_number")) := by
  obtain ⟨h, X, G, c⟩ := b.ex
  exact He.glo_ok X G (c.fact 16 (f := .he (.glo "need_number")) rfl)
theorem n_need_stretch (b : Bd K mg) : mg "need_stretch" = some (.ref (He.ga K "need_stretch")) := by
  obtain ⟨h, X, G, c⟩ := b.ex
  exact He.glo_ok X G (c.fact 17 (f := .he (.glo "need_stretch")) rfl)
theorem cl_Row (b : Bd K mg) : Cls K (He.ga K "Row") := by
  obtain ⟨h, X, G, c⟩ := b.ex
  exact He.cls_ok (c.fact 18 (f := .he (.cls "Row")) rfl)
theorem me_Row_part (b : Bd K mg) : Meth K (He.ga K "Row") "part" (ad K (.meth "Row" "part")) := by
  obtain ⟨h, X, G, c⟩ := b.ex
  exact He.meth_ok (c.fact 19 (f := .he (.meth "Row" "part")) rfl)
theorem me_Row_sum_of (b : Bd K mg) : Meth K (He.ga K "Row") "sum_of" (ad K (.meth "Row" "sum_of")) := by
  obtain ⟨h, X, G, c⟩ := b.ex
  exact He.meth_ok (c.fact 20 (f := .he (.meth "Row" "sum_of")) rfl)
theorem g_sum (b : Bd K mg) : mg "sum" = none := by
  obtain ⟨h, X, G, c⟩ := b.ex
  exact He.free_ok X G (c.fact 21 (f := .he (.free "sum")) rfl)
theorem nem_Row (b : Bd K mg) : Nem K (He.ga K "Row") := by
  obtain ⟨h, X, G, c⟩ := b.ex
  exact nem_ok (c.fact 22 (f := .nem "Row") rfl)
theorem n_law_heights (b : Bd K mg) : mg "_law_heights" = some (.ref (He.ga K "_law_heights")) := by
  obtain ⟨h, X, G, c⟩ := b.ex
  exact He.glo_ok X G (c.fact 23 (f := .he (.glo "_law_heights")) rfl)
theorem g_abs (b : Bd K mg) : mg "abs" = none := by
  obtain ⟨h, X, G, c⟩ := b.ex
  exact He.free_ok X G (c.fact 24 (f := .he (.free "abs")) rfl)
theorem spm_Row_len (b : Bd K mg) : Spm K (He.ga K "Row") "__len__" (ad K (.meth "Row" "__len__")) := by
  obtain ⟨h, X, G, c⟩ := b.ex
  exact spm_ok (c.fact 25 (f := .spm "Row" "__len__") rfl)
theorem n_law_drip (b : Bd K mg) : mg "_law_drip" = some (.ref (He.ga K "_law_drip")) := by
  obtain ⟨h, X, G, c⟩ := b.ex
  exact He.glo_ok X G (c.fact 26 (f := .he (.glo "_law_drip")) rfl)
theorem n_law_stretches_right (b : Bd K mg) : mg "_law_stretches_right" = some (.ref (He.ga K "_law_stretches_right")) := by
  obtain ⟨h, X, G, c⟩ := b.ex
  exact He.glo_ok X G (c.fact 27 (f := .he (.glo "_law_stretches_right")) rfl)
theorem g_str (b : Bd K mg) : mg "str" = none := by
  obtain ⟨h, X, G, c⟩ := b.ex
  exact He.free_ok X G (c.fact 28 (f := .he (.free "str")) rfl)
theorem spm_Row_str (b : Bd K mg) : Spm K (He.ga K "Row") "__str__" (ad K (.meth "Row" "__str__")) := by
  obtain ⟨h, X, G, c⟩ := b.ex
  exact spm_ok (c.fact 29 (f := .spm "Row" "__str__") rfl)
theorem n_law_any (b : Bd K mg) : mg "_law_any" = some (.ref (He.ga K "_law_any")) := by
  obtain ⟨h, X, G, c⟩ := b.ex
  exact He.glo_ok X G (c.fact 30 (f := .he (.glo "_law_any")) rfl)
theorem n_law_like_right (b : Bd K mg) : mg "_law_like_right" = some (.ref (He.ga K "_law_like_right")) := by
  obtain ⟨h, X, G, c⟩ := b.ex
  exact He.glo_ok X G (c.fact 31 (f := .he (.glo "_law_like_right")) rfl)
theorem g_zip (b : Bd K mg) : mg "zip" = none := by
  obtain ⟨h, X, G, c⟩ := b.ex
  exact He.free_ok X G (c.fact 32 (f := .he (.free "zip")) rfl)
theorem stm_Row_of (b : Bd K mg) : Stm K (He.ga K "Row") "of" (ad K (.stat "Row" "of")) := by
  obtain ⟨h, X, G, c⟩ := b.ex
  exact stm_ok (c.fact 33 (f := .stm "Row" "of") rfl)
theorem n_law_made_right (b : Bd K mg) : mg "_law_made_right" = some (.ref (He.ga K "_law_made_right")) := by
  obtain ⟨h, X, G, c⟩ := b.ex
  exact He.glo_ok X G (c.fact 34 (f := .he (.glo "_law_made_right")) rfl)
theorem n_law_gains (b : Bd K mg) : mg "_law_gains" = some (.ref (He.ga K "_law_gains")) := by
  obtain ⟨h, X, G, c⟩ := b.ex
  exact He.glo_ok X G (c.fact 35 (f := .he (.glo "_law_gains")) rfl)
theorem n_law_tap (b : Bd K mg) : mg "_law_tap" = some (.ref (He.ga K "_law_tap")) := by
  obtain ⟨h, X, G, c⟩ := b.ex
  exact He.glo_ok X G (c.fact 36 (f := .he (.glo "_law_tap")) rfl)
theorem ty_Row (b : Bd K mg) : Tyi K (He.ga K "Row") := by
  obtain ⟨h, X, G, c⟩ := b.ex
  exact tyi_ok (c.fact 18 (f := .he (.cls "Row")) rfl) (c.fact 37 (f := .tyi "Row") rfl)
theorem na_Row_gains (b : Bd K mg) : NoAttr K (He.ga K "Row") "gains" := by
  obtain ⟨h, X, G, c⟩ := b.ex
  exact He.noat_ok (c.fact 38 (f := .he (.noat "Row" "gains")) rfl)
theorem na_Row_heights (b : Bd K mg) : NoAttr K (He.ga K "Row") "heights" := by
  obtain ⟨h, X, G, c⟩ := b.ex
  exact He.noat_ok (c.fact 39 (f := .he (.noat "Row" "heights")) rfl)
theorem na_Row_days (b : Bd K mg) : NoAttr K (He.ga K "Row") "days" := by
  obtain ⟨h, X, G, c⟩ := b.ex
  exact He.noat_ok (c.fact 40 (f := .he (.noat "Row" "days")) rfl)
theorem na_Row_total (b : Bd K mg) : NoAttr K (He.ga K "Row") "total" := by
  obtain ⟨h, X, G, c⟩ := b.ex
  exact He.noat_ok (c.fact 41 (f := .he (.noat "Row" "total")) rfl)
theorem kit_NoneType_Row (b : Bd K mg) : PySem.W.kitOne K (.type "NoneType") (.ref (He.ga K "Row")) = some false := by
  obtain ⟨h, X, G, c⟩ := b.ex
  exact of_decide_eq_true (c.fact 42 (f := .kit "NoneType" "Row" false) rfl)
theorem kit_bool_Row (b : Bd K mg) : PySem.W.kitOne K (.type "bool") (.ref (He.ga K "Row")) = some false := by
  obtain ⟨h, X, G, c⟩ := b.ex
  exact of_decide_eq_true (c.fact 43 (f := .kit "bool" "Row" false) rfl)
theorem kit_int_Row (b : Bd K mg) : PySem.W.kitOne K (.type "int") (.ref (He.ga K "Row")) = some false := by
  obtain ⟨h, X, G, c⟩ := b.ex
  exact of_decide_eq_true (c.fact 44 (f := .kit "int" "Row" false) rfl)
theorem kit_str_Row (b : Bd K mg) : PySem.W.kitOne K (.type "str") (.ref (He.ga K "Row")) = some false := by
  obtain ⟨h, X, G, c⟩ := b.ex
  exact of_decide_eq_true (c.fact 45 (f := .kit "str" "Row" false) rfl)
theorem kit_list_Row (b : Bd K mg) : PySem.W.kitOne K (.type "list") (.ref (He.ga K "Row")) = some false := by
  obtain ⟨h, X, G, c⟩ := b.ex
  exact of_decide_eq_true (c.fact 46 (f := .kit "list" "Row" false) rfl)
theorem kit_tuple_Row (b : Bd K mg) : PySem.W.kitOne K (.type "tuple") (.ref (He.ga K "Row")) = some false := by
  obtain ⟨h, X, G, c⟩ := b.ex
  exact of_decide_eq_true (c.fact 47 (f := .kit "tuple" "Row" false) rfl)
theorem kitO_Row_Row (b : Bd K mg) : PySem.W.kitOne K (.ref (He.ga K "Row")) (.ref (He.ga K "Row")) = some true := by
  obtain ⟨h, X, G, c⟩ := b.ex
  exact of_decide_eq_true (c.fact 48 (f := .kitO "Row" "Row" true) rfl)
theorem nf_NoneType_Row (b : Bd K mg) : PySem.W.notFirst K (He.ga K "Row") (.type "NoneType") = true := by
  obtain ⟨h, X, G, c⟩ := b.ex
  exact c.fact 49 (f := .nf "NoneType" "Row") rfl
theorem nf_bool_Row (b : Bd K mg) : PySem.W.notFirst K (He.ga K "Row") (.type "bool") = true := by
  obtain ⟨h, X, G, c⟩ := b.ex
  exact c.fact 50 (f := .nf "bool" "Row") rfl
theorem nf_int_Row (b : Bd K mg) : PySem.W.notFirst K (He.ga K "Row") (.type "int") = true := by
  obtain ⟨h, X, G, c⟩ := b.ex
  exact c.fact 51 (f := .nf "int" "Row") rfl
theorem nf_str_Row (b : Bd K mg) : PySem.W.notFirst K (He.ga K "Row") (.type "str") = true := by
  obtain ⟨h, X, G, c⟩ := b.ex
  exact c.fact 52 (f := .nf "str" "Row") rfl
theorem nf_list_Row (b : Bd K mg) : PySem.W.notFirst K (He.ga K "Row") (.type "list") = true := by
  obtain ⟨h, X, G, c⟩ := b.ex
  exact c.fact 53 (f := .nf "list" "Row") rfl
theorem nf_tuple_Row (b : Bd K mg) : PySem.W.notFirst K (He.ga K "Row") (.type "tuple") = true := by
  obtain ⟨h, X, G, c⟩ := b.ex
  exact c.fact 54 (f := .nf "tuple" "Row") rfl
theorem nfO_Row_Row (b : Bd K mg) : PySem.W.notFirst K (He.ga K "Row") (.ref (He.ga K "Row")) = true := by
  obtain ⟨h, X, G, c⟩ := b.ex
  exact c.fact 55 (f := .nfO "Row" "Row") rfl
end
abbrev GoodF (P : Program) (w : World) (K : PySem.W.Frag) (mg : Str → Option Value) (base : Heap) (k : Nat) (d : Df) (ps : List Str) (sp : Sp) : Prop := ∃ fd, FnOk P w K mg base CX0 k (ad K d.loc) fd ps sp ∧ FunD K d.name d.qual d.params d.body d.scope [] [] (ad K d.loc) fd
section
variable {P : Program} {w : World} {K : PySem.W.Frag} {mg : Str → Option Value} {base : Heap}
theorem sc_Row_eq : FnScope N_Row_eq ["self", "other"] (defScope st_Row_eq) := ⟨rfl, rfl, rfl, by decide +kernel, rfl, by decide +kernel, by decide +kernel⟩
theorem ok_Row_eq (b : Bd K mg)  : GoodF P w K mg base 1 d_Row_eq ["self", "other"] (sp_Row_eq K w) := by
  obtain ⟨h, X, G, c⟩ := b.ex
  obtain ⟨fd, F⟩ := c.def_ 0 (d := d_Row_eq) rfl
  have nd : (N_Row_eq).Nodup := sc_Row_eq.nd
  refine ⟨fd, F.ok sc_Row_eq (fun vs H Q E h => h.1) (fun cdv A outer s H vs Q E hr h => ⟨t_Row_eq K w, PSs.nox ?_, h.2⟩), F⟩
  exact (pss_one (ps_ret (pe_andT (pe_callB cg_isi (by rfl) (g_isinstance b) (by decide +kernel) (pa_cons (pv 1) (pa_cons (pe_glob (by rfl) (n_Row b) rfl) pa_nil))) (pe_one (pe_cmpR (og_eq hr.units) (pe_fld (pv 0) rfl) (pe_fld (pv 1) rfl) (nomark _))))))
theorem sc_heights_of : FnScope N_heights_of ["gains"] (defScope st_heights_of) := ⟨rfl, rfl, rfl, by decide +kernel, rfl, by decide +kernel, by decide +kernel⟩
theorem ok_heights_of (b : Bd K mg)  : GoodF P w K mg base 1 d_heights_of ["gains"] (sp_heights_of K w) := by
  obtain ⟨h, X, G, c⟩ := b.ex
  obtain ⟨fd, F⟩ := c.def_ 1 (d := d_heights_of) rfl
  have nd : (N_heights_of).Nodup := sc_heights_of.nd
  refine ⟨fd, F.ok sc_heights_of (fun vs H Q E h => h.1) (fun cdv A outer s H vs Q E hr h => ⟨t_heights_of K w, PSs.nox ?_, h.2⟩), F⟩
  exact (pss_cons (ps_set (i := 1) nd rfl (Or.inl rfl) (pe_lst (pa_cons pe_int pa_nil)))
  (pss_cons (ps_for PassesOwn.never rfl (pi_any (pv 0)) (pg_name (i := 2) nd rfl (Or.inl rfl)) (pss_one (ps_expr (pe_bm PySem.F.plainAttrs_list PySem.F.slot_list_append PySem.F.type_list_append mt_append (pv 1) (pa_cons (pe_op og_add (pe_ix ix_seq (pv 1) (pe_un un_neg pe_int) (fun _ _ => rfl)) (pv 2)) pa_nil)))))
  (pss_one (ps_ret (pe_callTy cg_tuple (by rfl) (g_tuple b) boot_tuple (pa_cons (pv 1) pa_nil))))))
theorem sc_is_integer : FnScope N_is_integer ["value"] (defScope st_is_integer) := ⟨rfl, rfl, rfl, by decide +kernel, rfl, by decide +kernel, by decide +kernel⟩
theorem ok_is_integer (b : Bd K mg)  : GoodF P w K mg base 1 d_is_integer ["value"] (sp_is_integer K w) := by
  obtain ⟨h, X, G, c⟩ := b.ex
  obtain ⟨fd, F⟩ := c.def_ 2 (d := d_is_integer) rfl
  have nd : (N_is_integer).Nodup := sc_is_integer.nd
  refine ⟨fd, F.ok sc_is_integer (fun vs H Q E h => h.1) (fun cdv A outer s H vs Q E hr h => ⟨t_is_integer K w, PSs.nox ?_, h.2⟩), F⟩
  exact (pss_one (ps_ret (pe_andT (pe_callB cg_isi (by rfl) (g_isinstance b) (by decide +kernel) (pa_cons (pv 0) (pa_cons (pe_bltn (v := .ty "int") (by rfl) (g_int b) (by decide +kernel) rfl) pa_nil))) (pe_one (pe_notT (pe_callB cg_isi (by rfl) (g_isinstance b) (by decide +kernel) (pa_cons (pv 0) (pa_cons (pe_bltn (v := .ty "bool") (by rfl) (g_bool b) (by decide +kernel) rfl) pa_nil))))))))
theorem sc_are_integers : FnScope N_are_integers ["value"] (defScope st_are_integers) := ⟨rfl, rfl, rfl, by decide +kernel, rfl, by decide +kernel, by decide +kernel⟩
theorem ok_are_integers (b : Bd K mg) (h_is_integer : GoodF P w K mg base 1 d_is_integer ["value"] (sp_is_integer K w)) : GoodF P w K mg base 2 d_are_integers ["value"] (sp_are_integers K w) := by
  obtain ⟨_, G_is_integer, F_is_integer⟩ := h_is_integer
  obtain ⟨h, X, G, c⟩ := b.ex
  obtain ⟨fd, F⟩ := c.def_ 3 (d := d_are_integers) rfl
  have nd : (N_are_integers).Nodup := sc_are_integers.nd
  refine ⟨fd, F.ok sc_are_integers (fun vs H Q E h => h.1) (fun cdv A outer s H vs Q E hr h => ⟨t_are_integers K w, PSs.nox ?_, h.2⟩), F⟩
  exact (pss_one (ps_ret (pe_andT (pe_callB cg_isi (by rfl) (g_isinstance b) (by decide +kernel) (pa_cons (pv 0) (pa_cons (pe_tup (pa_cons (pe_bltn (v := .ty "list") (by rfl) (g_list b) (by decide +kernel) rfl) (pa_cons (pe_bltn (v := .ty "tuple") (by rfl) (g_tuple b) (by decide +kernel) rfl) pa_nil))) pa_nil))) (pe_one (pe_callB (cg_all rfl) (by rfl) (g_all b) (by decide +kernel) (pa_cons (pe_lc (own := [("each", 1)]) (g := (gName 1)) (tt := tYes) (by rfl) nd (pi_any (pv 0)) (blkOk_by (N := ["value", "each"]) (sc := defScope st_are_integers) (by decide +kernel)) (fun _ _ _ _ _ => (pg_name (i := 1) nd rfl (Or.inl rfl))) (fun _ _ _ _ _ => pts_nil) (fun _ _ _ _ _ => (pe_fn G_is_integer (hr.mono (by decide)) (by rfl) (n_is_integer b) F_is_integer.kp (bindsP F_is_integer fun _ _ _ _ _ _ us hl => match us, hl with | [_], _ => rfl) pass0 (pc_p (pa_cons (pv 1) pa_nil))))) pa_nil))))))
theorem sc_Row_init : FnScope N_Row_init ["self", "gains"] (defScope st_Row_init) := ⟨rfl, rfl, rfl, by decide +kernel, rfl, by decide +kernel, by decide +kernel⟩
theorem ok_Row_init (b : Bd K mg) (h_heights_of : GoodF P w K mg base 1 d_heights_of ["gains"] (sp_heights_of K w)) (h_are_integers : GoodF P w K mg base 2 d_are_integers ["value"] (sp_are_integers K w)) : GoodF P w K mg base 3 d_Row_init ["self", "gains"] (sp_Row_init K w) := by
  obtain ⟨_, G_heights_of, F_heights_of⟩ := h_heights_of
  obtain ⟨_, G_are_integers, F_are_integers⟩ := h_are_integers
  obtain ⟨h, X, G, c⟩ := b.ex
  obtain ⟨fd, F⟩ := c.def_ 4 (d := d_Row_init) rfl
  have nd : (N_Row_init).Nodup := sc_Row_init.nd
  refine ⟨fd, F.ok sc_Row_init (fun vs H Q E h => h.1) (fun cdv A outer s H vs Q E hr h => ⟨t_Row_init K w, PSs.nox ?_, h.2⟩), F⟩
  exact (pss_cons (ps_if (PW.pt (pw_or (pt_not (pt_truth (pe_fn G_are_integers (hr.mono (by decide)) (by rfl) (n_are_integers b) F_are_integers.kp (bindsP F_are_integers fun _ _ _ _ _ _ us hl => match us, hl with | [_], _ => rfl) pass0 (pc_p (pa_cons (pv 1) pa_nil))) (by intro _; rfl))) (pw_or1 (pt_cmpR (og_eq hr.units) (pe_callB cg_len (by rfl) (g_len b) boot_len (pa_cons (pv 1) pa_nil)) pe_int (nomark _))))) (pss_one ps_never) pss_nil)
  (pss_cons (ps_if (pt_cmpR og_gt (pe_callB cg_len (by rfl) (g_len b) boot_len (pa_cons (pv 1) pa_nil)) (pe_glob (by rfl) (k_MOST_DAYS b).choose_spec ⟨_, rfl⟩) (nomark _)) (pss_one ps_never) pss_nil)
  (pss_cons (ps_fld (pv 0) (pe_callTy cg_tuple (by rfl) (g_tuple b) boot_tuple (pa_cons (pv 1) pa_nil)) rfl)
  (pss_cons (ps_fld (pv 0) (pe_fn G_heights_of (hr.mono (by decide)) (by rfl) (n_heights_of b) F_heights_of.kp (bindsP F_heights_of fun _ _ _ _ _ _ us hl => match us, hl with | [_], _ => rfl) pass0 (pc_p (pa_cons (pv 1) pa_nil))) rfl)
  (pss_cons (ps_fld (pv 0) (pe_callB cg_len (by rfl) (g_len b) boot_len (pa_cons (pv 1) pa_nil)) rfl)
  (pss_one (ps_fld (pv 0) (pe_ix ix_seq (pe_fld (pv 0) rfl) (pe_un un_neg pe_int) (fun _ _ => rfl)) rfl)))))))
theorem sc_is_within : FnScope N_is_within ["value", "least", "most"] (defScope st_is_within) := ⟨rfl, rfl, rfl, by decide +kernel, rfl, by decide +kernel, by decide +kernel⟩
theorem ok_is_within (b : Bd K mg) (h_is_integer : GoodF P w K mg base 1 d_is_integer ["value"] (sp_is_integer K w)) : GoodF P w K mg base 2 d_is_within ["value", "least", "most"] (sp_is_within K w) := by
  obtain ⟨_, G_is_integer, F_is_integer⟩ := h_is_integer
  obtain ⟨h, X, G, c⟩ := b.ex
  obtain ⟨fd, F⟩ := c.def_ 5 (d := d_is_within) rfl
  have nd : (N_is_within).Nodup := sc_is_within.nd
  refine ⟨fd, F.ok sc_is_within (fun vs H Q E h => h.1) (fun cdv A outer s H vs Q E hr h => ⟨t_is_within K w, PSs.nox ?_, h.2⟩), F⟩
  exact (pss_cons (ps_if (pt_not (pt_truth (pe_fn G_is_integer (hr.mono (by decide)) (by rfl) (n_is_integer b) F_is_integer.kp (bindsP F_is_integer fun _ _ _ _ _ _ us hl => match us, hl with | [_], _ => rfl) pass0 (pc_p (pa_cons (pv 0) pa_nil))) (by intro _; rfl))) (pss_one (ps_ret pe_bl)) pss_nil)
  (pss_one (ps_ret (pe_andT (pe_orT (pe_cmpR og_is (pv 1) pe_non (nomark _)) (pe_one (pe_cmpR og_le (pv 1) (pv 0) (nomark _)))) (pe_one (pe_orT (pe_cmpR og_is (pv 2) pe_non (nomark _)) (pe_one (pe_cmpR og_le (pv 0) (pv 2) (nomark _)))))))))
theorem sc_need_number : FnScope N_need_number ["value", "part", "least", "most"] (defScope st_need_number) := ⟨rfl, rfl, rfl, by decide +kernel, rfl, by decide +kernel, by decide +kernel⟩
theorem ok_need_number (b : Bd K mg) (h_is_within : GoodF P w K mg base 2 d_is_within ["value", "least", "most"] (sp_is_within K w)) : GoodF P w K mg base 3 d_need_number ["value", "part", "least", "most"] (sp_need_number K w) := by
  obtain ⟨_, G_is_within, F_is_within⟩ := h_is_within
  obtain ⟨h, X, G, c⟩ := b.ex
  obtain ⟨fd, F⟩ := c.def_ 6 (d := d_need_number) rfl
  have nd : (N_need_number).Nodup := sc_need_number.nd
  refine ⟨fd, F.ok sc_need_number (fun vs H Q E h => h.1) (fun cdv A outer s H vs Q E hr h => ⟨t_need_number K w, PSs.nox ?_, h.2⟩), F⟩
  exact (pss_one (ps_if (pt_not (pt_truth (pe_fn G_is_within (hr.mono (by decide)) (by rfl) (n_is_within b) F_is_within.kp (bindsP F_is_within fun _ _ _ _ _ _ us hl => match us, hl with | [_, _, _], _ => rfl) pass0 (pc_p (pa_cons (pv 0) (pa_cons (pv 2) (pa_cons (pv 3) pa_nil))))) (by intro _; rfl))) (pss_one ps_never) pss_nil))
theorem sc_need_stretch : FnScope N_need_stretch ["row", "begin", "length"] (defScope st_need_stretch) := ⟨rfl, rfl, rfl, by decide +kernel, rfl, by decide +kernel, by decide +kernel⟩
theorem ok_need_stretch (b : Bd K mg) (h_need_number : GoodF P w K mg base 3 d_need_number ["value", "part", "least", "most"] (sp_need_number K w)) : GoodF P w K mg base 4 d_need_stretch ["row", "begin", "length"] (sp_need_stretch K w) := by
  obtain ⟨_, G_need_number, F_need_number⟩ := h_need_number
  obtain ⟨h, X, G, c⟩ := b.ex
  obtain ⟨fd, F⟩ := c.def_ 7 (d := d_need_stretch) rfl
  have nd : (N_need_stretch).Nodup := sc_need_stretch.nd
  refine ⟨fd, F.ok sc_need_stretch (fun vs H Q E h => h.1) (fun cdv A outer s H vs Q E hr h => ⟨t_need_stretch K w, PSs.nox ?_, h.2⟩), F⟩
  exact (pss_cons (ps_expr (pe_fn G_need_number (hr.mono (by decide)) (by rfl) (n_need_number b) F_need_number.kp (bindsP F_need_number fun _ _ _ _ _ _ us hl => match us, hl with | [_, _, _, _], _ => rfl) pass0 (pc_p (pa_cons (pv 1) (pa_cons pe_str (pa_cons pe_int (pa_cons (pe_op og_sub (pe_fld (pv 0) rfl) pe_int) pa_nil)))))))
  (pss_one (ps_expr (pe_fn G_need_number (hr.mono (by decide)) (by rfl) (n_need_number b) F_need_number.kp (bindsP F_need_number fun _ _ _ _ _ _ us hl => match us, hl with | [_, _, _, _], _ => rfl) pass0 (pc_p (pa_cons (pv 2) (pa_cons pe_str (pa_cons pe_int (pa_cons (pe_op og_sub (pe_fld (pv 0) rfl) (pv 1)) pa_nil)))))))))
theorem sc_Row_part : FnScope N_Row_part ["self", "begin", "length"] (defScope st_Row_part) := ⟨rfl, rfl, rfl, by decide +kernel, rfl, by decide +kernel, by decide +kernel⟩
theorem ok_Row_part (b : Bd K mg) (h_Row_init : GoodF P w K mg base 3 d_Row_init ["self", "gains"] (sp_Row_init K w)) (h_need_stretch : GoodF P w K mg base 4 d_need_stretch ["row", "begin", "length"] (sp_need_stretch K w)) : GoodF P w K mg base 5 d_Row_part ["self", "begin", "length"] (sp_Row_part K w) := by
  obtain ⟨_, G_Row_init, F_Row_init⟩ := h_Row_init
  obtain ⟨_, G_need_stretch, F_need_stretch⟩ := h_need_stretch
  obtain ⟨h, X, G, c⟩ := b.ex
  obtain ⟨fd, F⟩ := c.def_ 8 (d := d_Row_part) rfl
  have nd : (N_Row_part).Nodup := sc_Row_part.nd
  refine ⟨fd, F.ok sc_Row_part (fun vs H Q E h => h.1) (fun cdv A outer s H vs Q E hr h => ⟨t_Row_part K w, PSs.nox ?_, h.2⟩), F⟩
  exact (pss_cons (ps_expr (pe_fn G_need_stretch (hr.mono (by decide)) (by rfl) (n_need_stretch b) F_need_stretch.kp (bindsP F_need_stretch fun _ _ _ _ _ _ us hl => match us, hl with | [_, _, _], _ => rfl) pass0 (pc_p (pa_cons (pv 0) (pa_cons (pv 1) (pa_cons (pv 2) pa_nil))))))
  (pss_one (ps_ret (pe_new (mk_Row b) G_Row_init (hr.mono (by decide)) (by rfl) (n_Row b) (bindsP F_Row_init fun _ _ _ _ _ _ us hl => match us, hl with | [_, _], _ => rfl) pass0 (pc_p (pa_cons (pe_slice sg_all (pe_fld (pv 0) rfl) (po_some (pv 1)) (po_some (pe_op og_add (pv 1) (pv 2)))) pa_nil))))))
theorem sc_Row_sum_of : FnScope N_Row_sum_of ["self", "begin", "length"] (defScope st_Row_sum_of) := ⟨rfl, rfl, rfl, by decide +kernel, rfl, by decide +kernel, by decide +kernel⟩
theorem ok_Row_sum_of (b : Bd K mg) (h_need_stretch : GoodF P w K mg base 4 d_need_stretch ["row", "begin", "length"] (sp_need_stretch K w)) : GoodF P w K mg base 5 d_Row_sum_of ["self", "begin", "length"] (sp_Row_sum_of K w) := by
  obtain ⟨_, G_need_stretch, F_need_stretch⟩ := h_need_stretch
  obtain ⟨h, X, G, c⟩ := b.ex
  obtain ⟨fd, F⟩ := c.def_ 9 (d := d_Row_sum_of) rfl
  have nd : (N_Row_sum_of).Nodup := sc_Row_sum_of.nd
  refine ⟨fd, F.ok sc_Row_sum_of (fun vs H Q E h => h.1) (fun cdv A outer s H vs Q E hr h => ⟨t_Row_sum_of K w, PSs.nox ?_, h.2⟩), F⟩
  exact (pss_cons (ps_expr (pe_fn G_need_stretch (hr.mono (by decide)) (by rfl) (n_need_stretch b) F_need_stretch.kp (bindsP F_need_stretch fun _ _ _ _ _ _ us hl => match us, hl with | [_, _, _], _ => rfl) pass0 (pc_p (pa_cons (pv 0) (pa_cons (pv 1) (pa_cons (pv 2) pa_nil))))))
  (pss_one (ps_ret (pe_op og_sub (pe_ix ix_seq (pe_fld (pv 0) rfl) (pe_op og_add (pv 1) (pv 2)) (fun _ _ => rfl)) (pe_ix ix_seq (pe_fld (pv 0) rfl) (pv 1) (fun _ _ => rfl))))))
theorem sc_law_heights : FnScope N_law_heights ["_law_gains_here"] (defScope st_law_heights) := ⟨rfl, rfl, rfl, by decide +kernel, rfl, by decide +kernel, by decide +kernel⟩
theorem ok_law_heights (b : Bd K mg)  : GoodF P w K mg base 1 d_law_heights ["_law_gains_here"] (sp_law_heights K w) := by
  obtain ⟨h, X, G, c⟩ := b.ex
  obtain ⟨fd, F⟩ := c.def_ 10 (d := d_law_heights) rfl
  have nd : (N_law_heights).Nodup := sc_law_heights.nd
  refine ⟨fd, F.ok sc_law_heights (fun vs H Q E h => h.1) (fun cdv A outer s H vs Q E hr h => ⟨t_law_heights K w, PSs.nox ?_, h.2⟩), F⟩
  exact (pss_cons (ps_par (i := 1) (j := 2) (by rfl) nd rfl rfl (by decide) rfl rfl (pa_cons (pe_lst (pa_cons pe_int pa_nil)) (pa_cons pe_int pa_nil)) (by rfl))
  (pss_cons (ps_for PassesOwn.never rfl (pi_any (pv 0)) (pg_name (i := 3) nd rfl (Or.inl rfl)) (pss_cons (ps_set (i := 2) nd rfl (Or.inl rfl) (pe_op og_add (pv 2) (pv 3)))
  (pss_one (ps_expr (pe_bm PySem.F.plainAttrs_list PySem.F.slot_list_append PySem.F.type_list_append mt_append (pv 1) (pa_cons (pv 2) pa_nil))))))
  (pss_one (ps_ret (pv 1)))))
theorem sc_Row_len : FnScope N_Row_len ["self"] (defScope st_Row_len) := ⟨rfl, rfl, rfl, by decide +kernel, rfl, by decide +kernel, by decide +kernel⟩
theorem ok_Row_len (b : Bd K mg)  : GoodF P w K mg base 1 d_Row_len ["self"] (sp_Row_len K w) := by
  obtain ⟨h, X, G, c⟩ := b.ex
  obtain ⟨fd, F⟩ := c.def_ 11 (d := d_Row_len) rfl
  have nd : (N_Row_len).Nodup := sc_Row_len.nd
  refine ⟨fd, F.ok sc_Row_len (fun vs H Q E h => h.1) (fun cdv A outer s H vs Q E hr h => ⟨t_Row_len K w, PSs.nox ?_, h.2⟩), F⟩
  exact (pss_one (ps_ret (pe_callB cg_len (by rfl) (g_len b) boot_len (pa_cons (pe_fld (pv 0) rfl) pa_nil))))
theorem sc_law_drip : FnScope N_law_drip ["_law_tap_here", "_law_many"] (defScope st_law_drip) := ⟨rfl, rfl, rfl, by decide +kernel, rfl, by decide +kernel, by decide +kernel⟩
theorem ok_law_drip (b : Bd K mg) (h_Row_len : GoodF P w K mg base 1 d_Row_len ["self"] (sp_Row_len K w)) (h_Row_eq : GoodF P w K mg base 1 d_Row_eq ["self", "other"] (sp_Row_eq K w)) : GoodF P w K mg base 3 d_law_drip ["_law_tap_here", "_law_many"] (sp_law_drip K w) := by
  obtain ⟨_, G_Row_len, F_Row_len⟩ := h_Row_len
  obtain ⟨_, G_Row_eq, F_Row_eq⟩ := h_Row_eq
  obtain ⟨h, X, G, c⟩ := b.ex
  obtain ⟨fd, F⟩ := c.def_ 12 (d := d_law_drip) rfl
  have nd : (N_law_drip).Nodup := sc_law_drip.nd
  refine ⟨fd, F.ok sc_law_drip (fun vs H Q E h => h.1) (fun cdv A outer s H vs Q E hr h => ⟨t_law_drip K w, PSs.nox ?_, h.2⟩), F⟩
  exact (pss_cons (ps_if (pt_cmpR og_gt (pe_ix ix_seq (pv 0) pe_int (fun _ _ => rfl)) pe_int (nomark _)) (pss_cons (ps_set (i := 2) nd rfl (Or.inl rfl) (pe_op og_md (pe_callTy cg_int (by rfl) (g_int b) boot_int (pa_cons (pe_ix ix_seq (pv 0) pe_int (fun _ _ => rfl)) pa_nil)) (pv 1)))
  (pss_cons (ps_asg (pe_op og_fd (pe_callTy cg_int (by rfl) (g_int b) boot_int (pa_cons (pe_ix ix_seq (pv 0) pe_int (fun _ _ => rfl)) pa_nil)) (pv 1)) (pg_sub (pv 0) pe_int set_list))
  (pss_one (ps_ret (pv 2))))) pss_nil)
  (pss_cons (ps_set (i := 3) nd rfl (Or.inl rfl) (pe_ix ix_seq (pv 0) pe_int (fun _ _ => rfl)))
  (pss_cons (ps_asg (pe_op og_add (pv 3) pe_int) (pg_sub (pv 0) pe_int set_list))
  (pss_cons (ps_set (i := 4) nd rfl (Or.inl rfl) (pe_op og_add (pe_op og_mul pe_int (pv 3)) pe_int))
  (pss_cons (ps_if (pt_cmpR (OpR.or (og_ne hr.units) (op_neO (spm_Row_eq b) (nem_Row b) G_Row_eq (hr.mono (by decide)) (F_Row_eq.bindsN fun _ _ _ _ _ _ us hl => match us, hl with | [_, _], _ => rfl) pass0)) (pe_ix ix_seq (pv 0) pe_int (fun _ _ => rfl)) (pe_lst pa_nil) (nomark _)) (pss_one (ps_set (i := 4) nd rfl (Or.inl rfl) (pe_ix ix_seq (pe_ix ix_seq (pv 0) pe_int (fun _ _ => rfl)) (pe_op og_md (pe_callTy cg_int (by rfl) (g_int b) boot_int (pa_cons (pv 3) pa_nil)) (pe_callB (Rl.CallR.or cg_len (call_lenO (spm_Row_len b) G_Row_len (hr.mono (by decide)) (F_Row_len.bindsN fun _ _ _ _ _ _ us hl => match us, hl with | [_], _ => rfl) pass0)) (by rfl) (g_len b) boot_len (pa_cons (pe_ix ix_seq (pv 0) pe_int (fun _ _ => rfl)) pa_nil))) (fun _ _ => rfl)))) pss_nil)
  (pss_cons (ps_if (PW.pt (pw_and (pt_cmpR (og_lt hr.units0) (pv 3) (pe_callB (Rl.CallR.or cg_len (call_lenO (spm_Row_len b) G_Row_len (hr.mono (by decide)) (F_Row_len.bindsN fun _ _ _ _ _ _ us hl => match us, hl with | [_], _ => rfl) pass0)) (by rfl) (g_len b) boot_len (pa_cons (pe_ix ix_seq (pv 0) pe_int (fun _ _ => rfl)) pa_nil)) (nomark _)) (pw_and1 (pt_cmpR og_ge (pe_callB cg_abs (by rfl) (g_abs b) (by decide +kernel) (pa_cons (pv 4) pa_nil)) (pe_op og_pw pe_int pe_int) (nomark _))))) (pss_cons (ps_set (i := 5) nd rfl (Or.inl rfl) (pe_op og_add (pe_op og_mul pe_int (pe_op og_sub (pe_callB cg_abs (by rfl) (g_abs b) (by decide +kernel) (pa_cons (pv 4) pa_nil)) (pe_op og_pw pe_int pe_int))) (pe_callTy cg_int (by rfl) (g_int b) boot_int (pa_cons (pe_cmpR (og_lt hr.units0) (pv 4) pe_int (nomark _)) pa_nil))))
  (pss_cons (ps_asg (pe_op og_fd (pe_callTy cg_int (by rfl) (g_int b) boot_int (pa_cons (pv 5) pa_nil)) (pv 1)) (pg_sub (pv 0) pe_int set_list))
  (pss_one (ps_ret (pe_op og_md (pe_callTy cg_int (by rfl) (g_int b) boot_int (pa_cons (pv 5) pa_nil)) (pv 1)))))) pss_nil)
  (pss_cons (ps_set (i := 6) nd rfl (Or.inl rfl) (pe_op og_md (pe_callTy cg_int (by rfl) (g_int b) boot_int (pa_cons (pe_op og_pw (pe_op og_add (pe_op og_add (pe_op og_md (pe_callTy cg_int (by rfl) (g_int b) boot_int (pa_cons (pv 4) pa_nil)) pe_int) (pe_op og_mul pe_int (pv 3))) pe_int) pe_int) pa_nil)) pe_int))
  (pss_cons (ps_set (i := 6) nd rfl (Or.inl rfl) (pe_op og_md (pe_callTy cg_int (by rfl) (g_int b) boot_int (pa_cons (pe_op og_pw (pe_op og_add (pe_op og_add (pe_op og_mul (pv 6) (pe_op og_add (pe_op og_mul pe_int (pv 3)) pe_int)) (pe_op og_mul (pe_op og_mul pe_int (pv 3)) (pv 3))) pe_int) pe_int) pa_nil)) pe_int))
  (pss_one (ps_ret (pe_op og_md (pe_callTy cg_int (by rfl) (g_int b) boot_int (pa_cons (pe_op og_fd (pv 6) pe_int) pa_nil)) (pv 1))))))))))))
theorem sc_law_stretches_right : FnScope N_law_stretches_right ["_law_tap_here", "_law_gains_here"] (defScope st_law_stretches_right) := ⟨rfl, rfl, rfl, by decide +kernel, rfl, by decide +kernel, by decide +kernel⟩
theorem ok_law_stretches_right (b : Bd K mg) (h_Row_eq : GoodF P w K mg base 1 d_Row_eq ["self", "other"] (sp_Row_eq K w)) (h_Row_part : GoodF P w K mg base 5 d_Row_part ["self", "begin", "length"] (sp_Row_part K w)) (h_Row_sum_of : GoodF P w K mg base 5 d_Row_sum_of ["self", "begin", "length"] (sp_Row_sum_of K w)) (h_law_heights : GoodF P w K mg base 1 d_law_heights ["_law_gains_here"] (sp_law_heights K w)) (h_law_drip : GoodF P w K mg base 3 d_law_drip ["_law_tap_here", "_law_many"] (sp_law_drip K w)) (h_Row_len : GoodF P w K mg base 1 d_Row_len ["self"] (sp_Row_len K w)) (h_Row_init : GoodF P w K mg base 3 d_Row_init ["self", "gains"] (sp_Row_init K w)) : GoodF P w K mg base 6 d_law_stretches_right ["_law_tap_here", "_law_gains_here"] (sp_law_stretches_right K w) := by
  obtain ⟨_, G_Row_eq, F_Row_eq⟩ := h_Row_eq
  obtain ⟨_, G_Row_part, F_Row_part⟩ := h_Row_part
  obtain ⟨_, G_Row_sum_of, F_Row_sum_of⟩ := h_Row_sum_of
  obtain ⟨_, G_law_heights, F_law_heights⟩ := h_law_heights
  obtain ⟨_, G_law_drip, F_law_drip⟩ := h_law_drip
  obtain ⟨_, G_Row_len, F_Row_len⟩ := h_Row_len
  obtain ⟨_, G_Row_init, F_Row_init⟩ := h_Row_init
  obtain ⟨h, X, G, c⟩ := b.ex
  obtain ⟨fd, F⟩ := c.def_ 13 (d := d_law_stretches_right) rfl
  have nd : (N_law_stretches_right).Nodup := sc_law_stretches_right.nd
  refine ⟨fd, F.ok sc_law_stretches_right (fun vs H Q E h => h.1) (fun cdv A outer s H vs Q E hr h => ⟨t_law_stretches_right K w, PSs.nox ?_, h.2⟩), F⟩
  exact (pss_cons (ps_par3 (i := 2) (j := 3) (l := 4) (by rfl) nd rfl rfl rfl (by decide) (by decide) (by decide) rfl rfl rfl (pa_cons (pe_new (mk_Row b) G_Row_init (hr.mono (by decide)) (by rfl) (n_Row b) (bindsP F_Row_init fun _ _ _ _ _ _ us hl => match us, hl with | [_, _], _ => rfl) pass0 (pc_p (pa_cons (pv 1) pa_nil))) (pa_cons (pe_callB (Rl.CallR.or cg_len (call_lenO (spm_Row_len b) G_Row_len (hr.mono (by decide)) (F_Row_len.bindsN fun _ _ _ _ _ _ us hl => match us, hl with | [_], _ => rfl) pass0)) (by rfl) (g_len b) boot_len (pa_cons (pv 1) pa_nil)) (pa_cons (pe_lst pa_nil) pa_nil))) (by rfl))
  (pss_cons (ps_for PassesOwn.never rfl (pi_range1 (by rfl) (g_range b) (pa_cons (pe_ifExp (pt_cmpR (og_lt hr.units0) (pv 3) pe_int (nomark _)) (pv 3) pe_int) pa_nil)) (pg_name (i := 5) nd rfl (Or.inr rfl)) (pss_one (ps_expr (pe_bm PySem.F.plainAttrs_list PySem.F.slot_list_extend PySem.F.type_list_extend mt_extR (pv 4) (pa_cons (pe_lc (own := [("_law_length", 6)]) (g := (gName 6)) (tt := tYes) (by rfl) nd (pi_range2 (by rfl) (g_range b) (pa_cons pe_int (pa_cons (pe_op og_add (pe_op og_sub (pv 3) (pv 5)) pe_int) pa_nil))) (blkOk_by (N := ["_law_tap_here", "_law_gains_here", "_law_row", "_law_days", "_law_spots", "_law_begin", "_law_length", "_law_turn", "_law_due", "_law_part"]) (sc := defScope st_law_stretches_right) (by decide +kernel)) (fun _ _ _ _ _ => (pg_name (i := 6) nd rfl (Or.inl rfl))) (fun _ _ _ _ _ => pts_nil) (fun _ _ _ _ _ => (pe_tup (pa_cons (pv 5) (pa_cons (pv 6) pa_nil))))) pa_nil)))))
  (pss_cons (ps_for PassesOwn.never rfl (pi_range1 (by rfl) (g_range b) (pa_cons (pe_ifExp (pt_cmpR og_gt (pv 3) pe_int (nomark _)) pe_int pe_int) pa_nil)) (pg_name (i := 7) nd rfl (Or.inl rfl)) (pss_cons (ps_set (i := 5) nd rfl (Or.inr rfl) (pe_fn G_law_drip (hr.mono (by decide)) (by rfl) (n_law_drip b) F_law_drip.kp (bindsP F_law_drip fun _ _ _ _ _ _ us hl => match us, hl with | [_, _], _ => rfl) pass0 (pc_p (pa_cons (pv 0) (pa_cons (pv 3) pa_nil)))))
  (pss_one (ps_expr (pe_bm PySem.F.plainAttrs_list PySem.F.slot_list_append PySem.F.type_list_append mt_append (pv 4) (pa_cons (pe_tup (pa_cons (pv 5) (pa_cons (pe_op og_add pe_int (pe_fn G_law_drip (hr.mono (by decide)) (by rfl) (n_law_drip b) F_law_drip.kp (bindsP F_law_drip fun _ _ _ _ _ _ us hl => match us, hl with | [_, _], _ => rfl) pass0 (pc_p (pa_cons (pv 0) (pa_cons (pe_op og_sub (pv 3) (pv 5)) pa_nil))))) pa_nil))) pa_nil))))))
  (pss_cons (ps_for PassesOwn.never rfl (pi_any (pv 4)) (pg_tup rfl (pgs_cons (pg_name (i := 5) nd rfl (Or.inr rfl)) (pgs_cons (pg_name (i := 6) nd rfl (Or.inl rfl)) pgs_nil))) (pss_cons (ps_set (i := 8) nd rfl (Or.inl rfl) (pe_slice sg_all (pv 1) (po_some (pv 5)) (po_some (pe_op og_add (pv 5) (pv 6)))))
  (pss_cons (ps_if (PW.pt (pw_or (pt_cmpR (OpR.or (og_ne hr.units) (op_neO (spm_Row_eq b) (nem_Row b) G_Row_eq (hr.mono (by decide)) (F_Row_eq.bindsN fun _ _ _ _ _ _ us hl => match us, hl with | [_, _], _ => rfl) pass0)) (pe_mt (pv 2) (cl_Row b) (me_Row_sum_of b) G_Row_sum_of (hr.mono (by decide)) (bindsP F_Row_sum_of fun _ _ _ _ _ _ us hl => match us, hl with | [_, _, _], _ => rfl) pass0 (pc_p (pa_cons (pv 5) (pa_cons (pv 6) pa_nil)))) (pe_callB (cg_sum rfl) (by rfl) (g_sum b) (by decide +kernel) (pa_cons (pv 8) pa_nil)) (nomark _)) (pw_or1 (pt_cmpR (OpR.or (og_ne hr.units) (op_neO (spm_Row_eq b) (nem_Row b) G_Row_eq (hr.mono (by decide)) (F_Row_eq.bindsN fun _ _ _ _ _ _ us hl => match us, hl with | [_, _], _ => rfl) pass0)) (pe_mt (pv 2) (cl_Row b) (me_Row_sum_of b) G_Row_sum_of (hr.mono (by decide)) (bindsK (ks := ["length", "begin"]) (n := 1) [0, 2, 1] F_Row_sum_of fun _ _ _ _ _ _ us ws hl hk => match us, ws, hl, hk with | [_], [_, _], _, _ => rfl) pass0 (pc_k (pk_cons (pv 6) (pk_cons (pv 5) pk_nil)))) (pe_callB (cg_sum rfl) (by rfl) (g_sum b) (by decide +kernel) (pa_cons (pv 8) pa_nil)) (nomark _))))) (pss_one (ps_ret pe_bl)) pss_nil)
  (pss_cons (ps_set (i := 9) nd rfl (Or.inl rfl) (pe_mt (pv 2) (cl_Row b) (me_Row_part b) G_Row_part (hr.mono (by decide)) (bindsK (ks := ["length", "begin"]) (n := 1) [0, 2, 1] F_Row_part fun _ _ _ _ _ _ us ws hl hk => match us, ws, hl, hk with | [_], [_, _], _, _ => rfl) pass0 (pc_k (pk_cons (pv 6) (pk_cons (pv 5) pk_nil)))))
  (pss_one (ps_if (PW.pt (pw_or (pt_cmpR (OpR.or (og_ne hr.units) (op_neO (spm_Row_eq b) (nem_Row b) G_Row_eq (hr.mono (by decide)) (F_Row_eq.bindsN fun _ _ _ _ _ _ us hl => match us, hl with | [_, _], _ => rfl) pass0)) (pe_fld (pv 9) rfl) (pe_callTy cg_tuple (by rfl) (g_tuple b) boot_tuple (pa_cons (pv 8) pa_nil)) (nomark _)) (pw_or (pt_cmpR (OpR.or (og_ne hr.units) (op_neO (spm_Row_eq b) (nem_Row b) G_Row_eq (hr.mono (by decide)) (F_Row_eq.bindsN fun _ _ _ _ _ _ us hl => match us, hl with | [_, _], _ => rfl) pass0)) (pe_fld (pv 9) rfl) (pe_callTy cg_tuple (by rfl) (g_tuple b) boot_tuple (pa_cons (pe_fn G_law_heights (hr.mono (by decide)) (by rfl) (n_law_heights b) F_law_heights.kp (bindsP F_law_heights fun _ _ _ _ _ _ us hl => match us, hl with | [_], _ => rfl) pass0 (pc_p (pa_cons (pv 8) pa_nil))) pa_nil)) (nomark _)) (pw_or1 (pt_cmpR (OpR.or (og_ne hr.units) (op_neO (spm_Row_eq b) (nem_Row b) G_Row_eq (hr.mono (by decide)) (F_Row_eq.bindsN fun _ _ _ _ _ _ us hl => match us, hl with | [_, _], _ => rfl) pass0)) (pv 9) (pe_mt (pv 2) (cl_Row b) (me_Row_part b) G_Row_part (hr.mono (by decide)) (bindsP F_Row_part fun _ _ _ _ _ _ us hl => match us, hl with | [_, _, _], _ => rfl) pass0 (pc_p (pa_cons (pv 5) (pa_cons (pv 6) pa_nil)))) (nomark _)))))) (pss_one (ps_ret pe_bl)) pss_nil))))))
  (pss_one (ps_ret (pe_andT (pe_cmpR (OpR.or (og_eq hr.units) (op_eqO (spm_Row_eq b) G_Row_eq (hr.mono (by decide)) (F_Row_eq.bindsN fun _ _ _ _ _ _ us hl => match us, hl with | [_, _], _ => rfl) pass0)) (pe_mt (pv 2) (cl_Row b) (me_Row_sum_of b) G_Row_sum_of (hr.mono (by decide)) (bindsP F_Row_sum_of fun _ _ _ _ _ _ us hl => match us, hl with | [_, _, _], _ => rfl) pass0 (pc_p (pa_cons pe_int (pa_cons (pv 3) pa_nil)))) (pe_callB (cg_sum rfl) (by rfl) (g_sum b) (by decide +kernel) (pa_cons (pv 1) pa_nil)) (nomark _)) (pe_andT (pe_cmpR (OpR.or (og_eq hr.units) (op_eqO (spm_Row_eq b) G_Row_eq (hr.mono (by decide)) (F_Row_eq.bindsN fun _ _ _ _ _ _ us hl => match us, hl with | [_, _], _ => rfl) pass0)) (pe_mt (pv 2) (cl_Row b) (me_Row_part b) G_Row_part (hr.mono (by decide)) (bindsP F_Row_part fun _ _ _ _ _ _ us hl => match us, hl with | [_, _, _], _ => rfl) pass0 (pc_p (pa_cons pe_int (pa_cons (pv 3) pa_nil)))) (pv 2) (nomark _)) (pe_one (pe_cmpR (OpR.or (og_eq hr.units) (op_eqO (spm_Row_eq b) G_Row_eq (hr.mono (by decide)) (F_Row_eq.bindsN fun _ _ _ _ _ _ us hl => match us, hl with | [_, _], _ => rfl) pass0)) (pe_fld (pv 2) rfl) (pe_callTy cg_tuple (by rfl) (g_tuple b) boot_tuple (pa_cons (pv 1) pa_nil)) (nomark _)))))))))))
theorem sc_Row_str : FnScope N_Row_str ["self"] (defScope st_Row_str) := ⟨rfl, rfl, rfl, by decide +kernel, rfl, by decide +kernel, by decide +kernel⟩
theorem ok_Row_str (b : Bd K mg)  : GoodF P w K mg base 1 d_Row_str ["self"] (sp_Row_str K w) := by
  obtain ⟨h, X, G, c⟩ := b.ex
  obtain ⟨fd, F⟩ := c.def_ 14 (d := d_Row_str) rfl
  have nd : (N_Row_str).Nodup := sc_Row_str.nd
  refine ⟨fd, F.ok sc_Row_str (fun vs H Q E h => h.1) (fun cdv A outer s H vs Q E hr h => ⟨t_Row_str K w, PSs.nox ?_, h.2⟩), F⟩
  exact (pss_one (ps_ret (pe_bm PySem.F.plainAttrs_str PySem.F.slot_str_join PySem.F.type_str_join mt_join pe_str (pa_cons (pe_lc (own := [("gain", 1)]) (g := (gName 1)) (tt := tYes) (by rfl) nd (pi_any (pe_fld (pv 0) rfl)) (blkOk_by (N := ["self", "gain"]) (sc := defScope st_Row_str) (by decide +kernel)) (fun _ _ _ _ _ => (pg_name (i := 1) nd rfl (Or.inl rfl))) (fun _ _ _ _ _ => pts_nil) (fun _ _ _ _ _ => (pe_callTy cg_str (by rfl) (g_str b) boot_str (pa_cons (pv 1) pa_nil)))) pa_nil))))
theorem sc_law_any : FnScope N_law_any ["_law_tap_here", "_law_some"] (defScope st_law_any) := ⟨rfl, rfl, rfl, by decide +kernel, rfl, by decide +kernel, by decide +kernel⟩
theorem ok_law_any (b : Bd K mg) (h_law_drip : GoodF P w K mg base 3 d_law_drip ["_law_tap_here", "_law_many"] (sp_law_drip K w)) (h_Row_len : GoodF P w K mg base 1 d_Row_len ["self"] (sp_Row_len K w)) : GoodF P w K mg base 4 d_law_any ["_law_tap_here", "_law_some"] (sp_law_any K w) := by
  obtain ⟨_, G_law_drip, F_law_drip⟩ := h_law_drip
  obtain ⟨_, G_Row_len, F_Row_len⟩ := h_Row_len
  obtain ⟨h, X, G, c⟩ := b.ex
  obtain ⟨fd, F⟩ := c.def_ 15 (d := d_law_any) rfl
  have nd : (N_law_any).Nodup := sc_law_any.nd
  refine ⟨fd, F.ok sc_law_any (fun vs H Q E h => h.1) (fun cdv A outer s H vs Q E hr h => ⟨t_law_any K w, PSs.nox ?_, h.2⟩), F⟩
  exact (pss_one (ps_ret (pe_ix ix_seq (pv 1) (pe_fn G_law_drip (hr.mono (by decide)) (by rfl) (n_law_drip b) F_law_drip.kp (bindsP F_law_drip fun _ _ _ _ _ _ us hl => match us, hl with | [_, _], _ => rfl) pass0 (pc_p (pa_cons (pv 0) (pa_cons (pe_callB (Rl.CallR.or cg_len (call_lenO (spm_Row_len b) G_Row_len (hr.mono (by decide)) (F_Row_len.bindsN fun _ _ _ _ _ _ us hl => match us, hl with | [_], _ => rfl) pass0)) (by rfl) (g_len b) boot_len (pa_cons (pv 1) pa_nil)) pa_nil)))) (fun _ _ => rfl))))
theorem sc_law_like_right : FnScope N_law_like_right ["_law_tap_here", "_law_gains_here", "_law_row"] (defScope st_law_like_right) := ⟨rfl, rfl, rfl, by decide +kernel, rfl, by decide +kernel, by decide +kernel⟩
theorem ok_law_like_right (b : Bd K mg) (h_Row_eq : GoodF P w K mg base 1 d_Row_eq ["self", "other"] (sp_Row_eq K w)) (h_Row_init : GoodF P w K mg base 3 d_Row_init ["self", "gains"] (sp_Row_init K w)) (h_Row_len : GoodF P w K mg base 1 d_Row_len ["self"] (sp_Row_len K w)) (h_Row_str : GoodF P w K mg base 1 d_Row_str ["self"] (sp_Row_str K w)) (h_law_any : GoodF P w K mg base 4 d_law_any ["_law_tap_here", "_law_some"] (sp_law_any K w)) (h_law_drip : GoodF P w K mg base 3 d_law_drip ["_law_tap_here", "_law_many"] (sp_law_drip K w)) : GoodF P w K mg base 5 d_law_like_right ["_law_tap_here", "_law_gains_here", "_law_row"] (sp_law_like_right K w) := by
  obtain ⟨_, G_Row_eq, F_Row_eq⟩ := h_Row_eq
  obtain ⟨_, G_Row_init, F_Row_init⟩ := h_Row_init
  obtain ⟨_, G_Row_len, F_Row_len⟩ := h_Row_len
  obtain ⟨_, G_Row_str, F_Row_str⟩ := h_Row_str
  obtain ⟨_, G_law_any, F_law_any⟩ := h_law_any
  obtain ⟨_, G_law_drip, F_law_drip⟩ := h_law_drip
  obtain ⟨h, X, G, c⟩ := b.ex
  obtain ⟨fd, F⟩ := c.def_ 16 (d := d_law_like_right) rfl
  have nd : (N_law_like_right).Nodup := sc_law_like_right.nd
  refine ⟨fd, F.ok sc_law_like_right (fun vs H Q E h => h.1) (fun cdv A outer s H vs Q E hr h => ⟨t_law_like_right K w, PSs.nox ?_, h.2⟩), F⟩
  exact (pss_cons (ps_par (i := 3) (j := 4) (by rfl) nd rfl rfl (by decide) rfl rfl (pa_cons (pe_callTy cg_list (by rfl) (g_list b) boot_list (pa_cons (pv 1) pa_nil)) (pa_cons (pe_fn G_law_drip (hr.mono (by decide)) (by rfl) (n_law_drip b) F_law_drip.kp (bindsP F_law_drip fun _ _ _ _ _ _ us hl => match us, hl with | [_, _], _ => rfl) pass0 (pc_p (pa_cons (pv 0) (pa_cons (pe_callB (Rl.CallR.or cg_len (call_lenO (spm_Row_len b) G_Row_len (hr.mono (by decide)) (F_Row_len.bindsN fun _ _ _ _ _ _ us hl => match us, hl with | [_], _ => rfl) pass0)) (by rfl) (g_len b) boot_len (pa_cons (pv 1) pa_nil)) pa_nil)))) pa_nil)) (by rfl))
  (pss_cons (ps_asg (pe_op og_add (pe_ix ix_seq (pv 3) (pv 4) (fun _ _ => rfl)) (pe_fn G_law_any (hr.mono (by decide)) (by rfl) (n_law_any b) F_law_any.kp (bindsP F_law_any fun _ _ _ _ _ _ us hl => match us, hl with | [_, _], _ => rfl) pass0 (pc_p (pa_cons (pv 0) (pa_cons (pe_lst (pa_cons pe_int (pa_cons (pe_un un_neg pe_int) (pa_cons (pe_op og_pw pe_int pe_int) pa_nil)))) pa_nil))))) (pg_sub (pv 3) (pv 4) set_list))
  (pss_cons (ps_if (PW.pt (pw_or (pt_cmpR (OpR.or (og_eq hr.units) (op_eqO (spm_Row_eq b) G_Row_eq (hr.mono (by decide)) (F_Row_eq.bindsN fun _ _ _ _ _ _ us hl => match us, hl with | [_, _], _ => rfl) pass0)) (pv 2) (pe_new (mk_Row b) G_Row_init (hr.mono (by decide)) (by rfl) (n_Row b) (bindsP F_Row_init fun _ _ _ _ _ _ us hl => match us, hl with | [_, _], _ => rfl) pass0 (pc_p (pa_cons (pv 3) pa_nil))) (nomark _)) (pw_or (pt_not (pt_cmpR (OpR.or (og_ne hr.units) (op_neO (spm_Row_eq b) (nem_Row b) G_Row_eq (hr.mono (by decide)) (F_Row_eq.bindsN fun _ _ _ _ _ _ us hl => match us, hl with | [_, _], _ => rfl) pass0)) (pv 2) (pe_new (mk_Row b) G_Row_init (hr.mono (by decide)) (by rfl) (n_Row b) (bindsP F_Row_init fun _ _ _ _ _ _ us hl => match us, hl with | [_, _], _ => rfl) pass0 (pc_p (pa_cons (pv 3) pa_nil))) (nomark _))) (pw_or (pt_cmpR (OpR.or (og_eq hr.units) (op_eqO (spm_Row_eq b) G_Row_eq (hr.mono (by decide)) (F_Row_eq.bindsN fun _ _ _ _ _ _ us hl => match us, hl with | [_, _], _ => rfl) pass0)) (pv 2) (pe_callTy cg_tuple (by rfl) (g_tuple b) boot_tuple (pa_cons (pv 1) pa_nil)) (nomark _)) (pw_or (pt_cmpR (OpR.or (og_eq hr.units) (op_eqO (spm_Row_eq b) G_Row_eq (hr.mono (by decide)) (F_Row_eq.bindsN fun _ _ _ _ _ _ us hl => match us, hl with | [_, _], _ => rfl) pass0)) (pv 2) (pe_callTy cg_list (by rfl) (g_list b) boot_list (pa_cons (pv 1) pa_nil)) (nomark _)) (pw_or1 (pt_cmpR (OpR.or (og_eq hr.units) (op_eqO (spm_Row_eq b) G_Row_eq (hr.mono (by decide)) (F_Row_eq.bindsN fun _ _ _ _ _ _ us hl => match us, hl with | [_, _], _ => rfl) pass0)) (pv 2) (pe_callTy (Rl.CallR.or cg_str (call_strO (spm_Row_str b) G_Row_str (hr.mono (by decide)) (F_Row_str.bindsN fun _ _ _ _ _ _ us hl => match us, hl with | [_], _ => rfl) pass0)) (by rfl) (g_str b) boot_str (pa_cons (pv 2) pa_nil)) (nomark _)))))))) (pss_one (ps_ret pe_bl)) pss_nil)
  (pss_cons (ps_if (PW.pt (pw_and (pt_cmpR (og_lt hr.units0) (pe_callB (Rl.CallR.or cg_len (call_lenO (spm_Row_len b) G_Row_len (hr.mono (by decide)) (F_Row_len.bindsN fun _ _ _ _ _ _ us hl => match us, hl with | [_], _ => rfl) pass0)) (by rfl) (g_len b) boot_len (pa_cons (pv 1) pa_nil)) pe_int (nomark _)) (pw_and1 (PW.pt (pw_or (pt_cmpR (OpR.or (og_eq hr.units) (op_eqO (spm_Row_eq b) G_Row_eq (hr.mono (by decide)) (F_Row_eq.bindsN fun _ _ _ _ _ _ us hl => match us, hl with | [_, _], _ => rfl) pass0)) (pv 2) (pe_new (mk_Row b) G_Row_init (hr.mono (by decide)) (by rfl) (n_Row b) (bindsP F_Row_init fun _ _ _ _ _ _ us hl => match us, hl with | [_, _], _ => rfl) pass0 (pc_p (pa_cons (pe_op og_add (pv 1) (pe_lst (pa_cons pe_int pa_nil))) pa_nil))) (nomark _)) (pw_or1 (pt_cmpR (OpR.or (og_eq hr.units) (op_eqO (spm_Row_eq b) G_Row_eq (hr.mono (by decide)) (F_Row_eq.bindsN fun _ _ _ _ _ _ us hl => match us, hl with | [_, _], _ => rfl) pass0)) (pv 2) (pe_new (mk_Row b) G_Row_init (hr.mono (by decide)) (by rfl) (n_Row b) (bindsP F_Row_init fun _ _ _ _ _ _ us hl => match us, hl with | [_, _], _ => rfl) pass0 (pc_p (pa_cons (pe_op og_add (pe_lst (pa_cons pe_int pa_nil)) (pv 1)) pa_nil))) (nomark _)))))))) (pss_one (ps_ret pe_bl)) pss_nil)
  (pss_one (ps_ret (pe_andT (pe_cmpR (OpR.or (og_eq hr.units) (op_eqO (spm_Row_eq b) G_Row_eq (hr.mono (by decide)) (F_Row_eq.bindsN fun _ _ _ _ _ _ us hl => match us, hl with | [_, _], _ => rfl) pass0)) (pv 2) (pe_new (mk_Row b) G_Row_init (hr.mono (by decide)) (by rfl) (n_Row b) (bindsP F_Row_init fun _ _ _ _ _ _ us hl => match us, hl with | [_, _], _ => rfl) pass0 (pc_p (pa_cons (pe_callTy cg_tuple (by rfl) (g_tuple b) boot_tuple (pa_cons (pv 1) pa_nil)) pa_nil))) (nomark _)) (pe_one (pe_orT (pe_cmpR (OpR.or (og_eq hr.units) (op_eqO (spm_Row_eq b) G_Row_eq (hr.mono (by decide)) (F_Row_eq.bindsN fun _ _ _ _ _ _ us hl => match us, hl with | [_, _], _ => rfl) pass0)) (pe_callB (Rl.CallR.or cg_len (call_lenO (spm_Row_len b) G_Row_len (hr.mono (by decide)) (F_Row_len.bindsN fun _ _ _ _ _ _ us hl => match us, hl with | [_], _ => rfl) pass0)) (by rfl) (g_len b) boot_len (pa_cons (pv 1) pa_nil)) pe_int (nomark _)) (pe_one (pe_cmpR (OpR.or (og_ne hr.units) (op_neO (spm_Row_eq b) (nem_Row b) G_Row_eq (hr.mono (by decide)) (F_Row_eq.bindsN fun _ _ _ _ _ _ us hl => match us, hl with | [_, _], _ => rfl) pass0)) (pv 2) (pe_new (mk_Row b) G_Row_init (hr.mono (by decide)) (by rfl) (n_Row b) (bindsP F_Row_init fun _ _ _ _ _ _ us hl => match us, hl with | [_, _], _ => rfl) pass0 (pc_p (pa_cons (pe_slice sg_all (pv 1) po_none (po_some (pe_un un_neg pe_int))) pa_nil))) (nomark _))))))))))))
theorem sc_Row_of : FnScope N_Row_of ["heights"] (defScope st_Row_of) := ⟨rfl, rfl, rfl, by decide +kernel, rfl, by decide +kernel, by decide +kernel⟩
theorem ok_Row_of (b : Bd K mg) (h_Row_init : GoodF P w K mg base 3 d_Row_init ["self", "gains"] (sp_Row_init K w)) (h_are_integers : GoodF P w K mg base 2 d_are_integers ["value"] (sp_are_integers K w)) : GoodF P w K mg base 5 d_Row_of ["heights"] (sp_Row_of K w) := by
  obtain ⟨_, G_Row_init, F_Row_init⟩ := h_Row_init
  obtain ⟨_, G_are_integers, F_are_integers⟩ := h_are_integers
  obtain ⟨h, X, G, c⟩ := b.ex
  obtain ⟨fd, F⟩ := c.def_ 17 (d := d_Row_of) rfl
  have nd : (N_Row_of).Nodup := sc_Row_of.nd
  refine ⟨fd, F.ok sc_Row_of (fun vs H Q E h => h.1) (fun cdv A outer s H vs Q E hr h => ⟨t_Row_of K w, PSs.nox ?_, h.2⟩), F⟩
  exact (pss_cons (ps_if (PW.pt (pw_or (pt_not (pt_truth (pe_fn G_are_integers (hr.mono (by decide)) (by rfl) (n_are_integers b) F_are_integers.kp (bindsP F_are_integers fun _ _ _ _ _ _ us hl => match us, hl with | [_], _ => rfl) pass0 (pc_p (pa_cons (pv 0) pa_nil))) (by intro _; rfl))) (pw_or (pt_cmpR (og_lt hr.units0) (pe_callB cg_len (by rfl) (g_len b) boot_len (pa_cons (pv 0) pa_nil)) pe_int (nomark _)) (pw_or1 (pt_cmpR (og_ne hr.units) (pe_ix ix_seq (pv 0) pe_int (fun _ _ => rfl)) pe_int (nomark _)))))) (pss_one ps_never) pss_nil)
  (pss_one (ps_ret (pe_new (mk_Row b) G_Row_init (hr.mono (by decide)) (by rfl) (n_Row b) (bindsP F_Row_init fun _ _ _ _ _ _ us hl => match us, hl with | [_, _], _ => rfl) pass0 (pc_p (pa_cons (pe_lc (own := [("ahead", 1), ("behind", 2)]) (g := (gTup K 2 (gCons (gName 1) (gCons (gName 2) gNil)))) (tt := tYes) (by rfl) nd (pi_zipA (by rfl) (g_zip b) (pa_cons (pv 0) (pa_cons (pe_slice sg_all (pv 0) (po_some pe_int) po_none) pa_nil))) (blkOk_by (N := ["heights", "ahead", "behind"]) (sc := defScope st_Row_of) (by decide +kernel)) (fun _ _ _ _ _ => (pg_tup rfl (pgs_cons (pg_name (i := 1) nd rfl (Or.inl rfl)) (pgs_cons (pg_name (i := 2) nd rfl (Or.inl rfl)) pgs_nil)))) (fun _ _ _ _ _ => pts_nil) (fun _ _ _ _ _ => (pe_op og_sub (pv 2) (pv 1)))) pa_nil))))))
theorem sc_law_made_right : FnScope N_law_made_right ["_law_tap_here", "_law_gains_here"] (defScope st_law_made_right) := ⟨rfl, rfl, rfl, by decide +kernel, rfl, by decide +kernel, by decide +kernel⟩
theorem ok_law_made_right (b : Bd K mg) (h_law_like_right : GoodF P w K mg base 5 d_law_like_right ["_law_tap_here", "_law_gains_here", "_law_row"] (sp_law_like_right K w)) (h_Row_eq : GoodF P w K mg base 1 d_Row_eq ["self", "other"] (sp_Row_eq K w)) (h_Row_str : GoodF P w K mg base 1 d_Row_str ["self"] (sp_Row_str K w)) (h_Row_len : GoodF P w K mg base 1 d_Row_len ["self"] (sp_Row_len K w)) (h_Row_of : GoodF P w K mg base 5 d_Row_of ["heights"] (sp_Row_of K w)) (h_law_any : GoodF P w K mg base 4 d_law_any ["_law_tap_here", "_law_some"] (sp_law_any K w)) (h_Row_init : GoodF P w K mg base 3 d_Row_init ["self", "gains"] (sp_Row_init K w)) (h_law_heights : GoodF P w K mg base 1 d_law_heights ["_law_gains_here"] (sp_law_heights K w)) : GoodF P w K mg base 6 d_law_made_right ["_law_tap_here", "_law_gains_here"] (sp_law_made_right K w) := by
  obtain ⟨_, G_law_like_right, F_law_like_right⟩ := h_law_like_right
  obtain ⟨_, G_Row_eq, F_Row_eq⟩ := h_Row_eq
  obtain ⟨_, G_Row_str, F_Row_str⟩ := h_Row_str
  obtain ⟨_, G_Row_len, F_Row_len⟩ := h_Row_len
  obtain ⟨_, G_Row_of, F_Row_of⟩ := h_Row_of
  obtain ⟨_, G_law_any, F_law_any⟩ := h_law_any
  obtain ⟨_, G_Row_init, F_Row_init⟩ := h_Row_init
  obtain ⟨_, G_law_heights, F_law_heights⟩ := h_law_heights
  obtain ⟨h, X, G, c⟩ := b.ex
  obtain ⟨fd, F⟩ := c.def_ 18 (d := d_law_made_right) rfl
  have nd : (N_law_made_right).Nodup := sc_law_made_right.nd
  refine ⟨fd, F.ok sc_law_made_right (fun vs H Q E h => h.1) (fun cdv A outer s H vs Q E hr h => ⟨t_law_made_right K w, PSs.nox ?_, h.2⟩), F⟩
  exact (pss_cons (ps_par (i := 2) (j := 3) (by rfl) nd rfl rfl (by decide) rfl rfl (pa_cons (pe_callTy cg_list (by rfl) (g_list b) boot_list (pa_cons (pv 1) pa_nil)) (pa_cons (pe_fn G_law_heights (hr.mono (by decide)) (by rfl) (n_law_heights b) F_law_heights.kp (bindsP F_law_heights fun _ _ _ _ _ _ us hl => match us, hl with | [_], _ => rfl) pass0 (pc_p (pa_cons (pv 1) pa_nil))) pa_nil)) (by rfl))
  (pss_cons (ps_set (i := 4) nd rfl (Or.inl rfl) (pe_callTy cg_list (by rfl) (g_list b) boot_list (pa_cons (pv 3) pa_nil)))
  (pss_cons (ps_par (i := 5) (j := 6) (by rfl) nd rfl rfl (by decide) rfl rfl (pa_cons (pe_new (mk_Row b) G_Row_init (hr.mono (by decide)) (by rfl) (n_Row b) (bindsK (ks := ["gains"]) (n := 1) [0, 1] F_Row_init fun _ _ _ _ _ _ us ws hl hk => match us, ws, hl, hk with | [_], [_], _, _ => rfl) pass0 (pc_k (pk_cons (pe_fn G_law_any (hr.mono (by decide)) (by rfl) (n_law_any b) F_law_any.kp (bindsP F_law_any fun _ _ _ _ _ _ us hl => match us, hl with | [_, _], _ => rfl) pass0 (pc_p (pa_cons (pv 0) (pa_cons (pe_lst (pa_cons (pv 2) (pa_cons (pe_callTy cg_tuple (by rfl) (g_tuple b) boot_tuple (pa_cons (pv 2) pa_nil)) pa_nil))) pa_nil)))) pk_nil))) (pa_cons (pe_st (stm_Row_of b) (by rfl) (n_Row b) G_Row_of (hr.mono (by decide)) (bindsK (ks := ["heights"]) (n := 0) [0] F_Row_of fun _ _ _ _ _ _ us ws hl hk => match us, ws, hl, hk with | [], [_], _, _ => rfl) pass0 (pc_k (pk_cons (pe_fn G_law_any (hr.mono (by decide)) (by rfl) (n_law_any b) F_law_any.kp (bindsP F_law_any fun _ _ _ _ _ _ us hl => match us, hl with | [_, _], _ => rfl) pass0 (pc_p (pa_cons (pv 0) (pa_cons (pe_lst (pa_cons (pv 4) (pa_cons (pe_callTy cg_tuple (by rfl) (g_tuple b) boot_tuple (pa_cons (pv 4) pa_nil)) pa_nil))) pa_nil)))) pk_nil))) pa_nil)) (by rfl))
  (pss_cons (ps_asg (pe_tup (pa_cons pe_int (pa_cons pe_int pa_nil))) (pg_tup rfl (pgs_cons (pg_sub (pv 2) pe_int set_list) (pgs_cons (pg_sub (pv 4) (pe_un un_neg pe_int) set_list) pgs_nil))))
  (pss_cons (ps_expr (pe_bm PySem.F.plainAttrs_list PySem.F.slot_list_append PySem.F.type_list_append mt_append (pv 2) (pa_cons pe_int pa_nil)))
  (pss_cons (ps_for PassesOwn.never rfl (pi_any (pe_tup (pa_cons (pv 5) (pa_cons (pv 6) pa_nil)))) (pg_name (i := 7) nd rfl (Or.inl rfl)) (pss_cons (ps_if (PW.pt (pw_or (pt_cmpR (OpR.or (og_ne hr.units) (op_neO (spm_Row_eq b) (nem_Row b) G_Row_eq (hr.mono (by decide)) (F_Row_eq.bindsN fun _ _ _ _ _ _ us hl => match us, hl with | [_, _], _ => rfl) pass0)) (pe_fld (pv 7) rfl) (pe_callTy cg_tuple (by rfl) (g_tuple b) boot_tuple (pa_cons (pv 1) pa_nil)) (nomark _)) (pw_or (pt_cmpR (OpR.or (og_ne hr.units) (op_neO (spm_Row_eq b) (nem_Row b) G_Row_eq (hr.mono (by decide)) (F_Row_eq.bindsN fun _ _ _ _ _ _ us hl => match us, hl with | [_, _], _ => rfl) pass0)) (pe_fld (pv 7) rfl) (pe_callTy cg_tuple (by rfl) (g_tuple b) boot_tuple (pa_cons (pv 3) pa_nil)) (nomark _)) (pw_or (pt_cmpR (OpR.or (og_ne hr.units) (op_neO (spm_Row_eq b) (nem_Row b) G_Row_eq (hr.mono (by decide)) (F_Row_eq.bindsN fun _ _ _ _ _ _ us hl => match us, hl with | [_, _], _ => rfl) pass0)) (pe_fld (pv 7) rfl) (pe_callB (Rl.CallR.or cg_len (call_lenO (spm_Row_len b) G_Row_len (hr.mono (by decide)) (F_Row_len.bindsN fun _ _ _ _ _ _ us hl => match us, hl with | [_], _ => rfl) pass0)) (by rfl) (g_len b) boot_len (pa_cons (pv 1) pa_nil)) (nomark _)) (pw_or1 (pt_cmpR (OpR.or (og_ne hr.units) (op_neO (spm_Row_eq b) (nem_Row b) G_Row_eq (hr.mono (by decide)) (F_Row_eq.bindsN fun _ _ _ _ _ _ us hl => match us, hl with | [_, _], _ => rfl) pass0)) (pe_callB (Rl.CallR.or cg_len (call_lenO (spm_Row_len b) G_Row_len (hr.mono (by decide)) (F_Row_len.bindsN fun _ _ _ _ _ _ us hl => match us, hl with | [_], _ => rfl) pass0)) (by rfl) (g_len b) boot_len (pa_cons (pv 7) pa_nil)) (pe_callB (Rl.CallR.or cg_len (call_lenO (spm_Row_len b) G_Row_len (hr.mono (by decide)) (F_Row_len.bindsN fun _ _ _ _ _ _ us hl => match us, hl with | [_], _ => rfl) pass0)) (by rfl) (g_len b) boot_len (pa_cons (pv 1) pa_nil)) (nomark _))))))) (pss_one (ps_ret pe_bl)) pss_nil)
  (pss_one (ps_if (PW.pt (pw_or (pt_cmpR (OpR.or (og_ne hr.units) (op_neO (spm_Row_eq b) (nem_Row b) G_Row_eq (hr.mono (by decide)) (F_Row_eq.bindsN fun _ _ _ _ _ _ us hl => match us, hl with | [_, _], _ => rfl) pass0)) (pe_fld (pv 7) rfl) (pe_ix ix_seq (pv 3) (pe_un un_neg pe_int) (fun _ _ => rfl)) (nomark _)) (pw_or1 (pt_cmpR (OpR.or (og_ne hr.units) (op_neO (spm_Row_eq b) (nem_Row b) G_Row_eq (hr.mono (by decide)) (F_Row_eq.bindsN fun _ _ _ _ _ _ us hl => match us, hl with | [_, _], _ => rfl) pass0)) (pe_callTy (Rl.CallR.or cg_str (call_strO (spm_Row_str b) G_Row_str (hr.mono (by decide)) (F_Row_str.bindsN fun _ _ _ _ _ _ us hl => match us, hl with | [_], _ => rfl) pass0)) (by rfl) (g_str b) boot_str (pa_cons (pv 7) pa_nil)) (pe_bm PySem.F.plainAttrs_str PySem.F.slot_str_join PySem.F.type_str_join mt_join pe_str (pa_cons (pe_lc (own := [("_law_gain", 8)]) (g := (gName 8)) (tt := tYes) (by rfl) nd (pi_any (pv 1)) (blkOk_by (N := ["_law_tap_here", "_law_gains_here", "_law_passed", "_law_heights_here", "_law_told", "_law_row", "_law_same", "_law_one", "_law_gain"]) (sc := defScope st_law_made_right) (by decide +kernel)) (fun _ _ _ _ _ => (pg_name (i := 8) nd rfl (Or.inl rfl))) (fun _ _ _ _ _ => pts_nil) (fun _ _ _ _ _ => (pe_callTy (Rl.CallR.or cg_str (call_strO (spm_Row_str b) G_Row_str (hr.mono (by decide)) (F_Row_str.bindsN fun _ _ _ _ _ _ us hl => match us, hl with | [_], _ => rfl) pass0)) (by rfl) (g_str b) boot_str (pa_cons (pv 8) pa_nil)))) pa_nil)) (nomark _))))) (pss_one (ps_ret pe_bl)) pss_nil))))
  (pss_one (ps_ret (pe_andT (pe_cmpR (OpR.or (og_eq hr.units) (op_eqO (spm_Row_eq b) G_Row_eq (hr.mono (by decide)) (F_Row_eq.bindsN fun _ _ _ _ _ _ us hl => match us, hl with | [_, _], _ => rfl) pass0)) (pv 5) (pv 6) (nomark _)) (pe_one (pe_fn G_law_like_right (hr.mono (by decide)) (by rfl) (n_law_like_right b) F_law_like_right.kp (bindsP F_law_like_right fun _ _ _ _ _ _ us hl => match us, hl with | [_, _, _], _ => rfl) pass0 (pc_p (pa_cons (pv 0) (pa_cons (pv 1) (pa_cons (pv 5) pa_nil)))))))))))))))
theorem sc_law_gains : FnScope N_law_gains ["_law_tap_here", "_law_days"] (defScope st_law_gains) := ⟨rfl, rfl, rfl, by decide +kernel, rfl, by decide +kernel, by decide +kernel⟩
theorem ok_law_gains (b : Bd K mg) (h_Row_eq : GoodF P w K mg base 1 d_Row_eq ["self", "other"] (sp_Row_eq K w)) (h_law_any : GoodF P w K mg base 4 d_law_any ["_law_tap_here", "_law_some"] (sp_law_any K w)) (h_law_drip : GoodF P w K mg base 3 d_law_drip ["_law_tap_here", "_law_many"] (sp_law_drip K w)) (h_Row_len : GoodF P w K mg base 1 d_Row_len ["self"] (sp_Row_len K w)) : GoodF P w K mg base 5 d_law_gains ["_law_tap_here", "_law_days"] (sp_law_gains K w) := by
  obtain ⟨_, G_Row_eq, F_Row_eq⟩ := h_Row_eq
  obtain ⟨_, G_law_any, F_law_any⟩ := h_law_any
  obtain ⟨_, G_law_drip, F_law_drip⟩ := h_law_drip
  obtain ⟨_, G_Row_len, F_Row_len⟩ := h_Row_len
  obtain ⟨h, X, G, c⟩ := b.ex
  obtain ⟨fd, F⟩ := c.def_ 19 (d := d_law_gains) rfl
  have nd : (N_law_gains).Nodup := sc_law_gains.nd
  refine ⟨fd, F.ok sc_law_gains (fun vs H Q E h => h.1) (fun cdv A outer s H vs Q E hr h => ⟨t_law_gains K w, PSs.nox ?_, h.2⟩), F⟩
  exact (pss_cons (ps_set (i := 2) nd rfl (Or.inl rfl) (pe_fn G_law_drip (hr.mono (by decide)) (by rfl) (n_law_drip b) F_law_drip.kp (bindsP F_law_drip fun _ _ _ _ _ _ us hl => match us, hl with | [_, _], _ => rfl) pass0 (pc_p (pa_cons (pv 0) (pa_cons pe_int pa_nil)))))
  (pss_cons (ps_if (pt_cmpR (og_lt hr.units0) (pv 2) pe_int (nomark _)) (pss_one (ps_ret (pe_lc (own := [("_law_day", 6)]) (g := (gName 6)) (tt := tYes) (by rfl) nd (pi_range1 (by rfl) (g_range b) (pa_cons (pv 1) pa_nil)) (blkOk_by (N := ["_law_tap_here", "_law_days", "_law_way", "_law_few", "_law_found", "_law_at", "_law_day"]) (sc := defScope st_law_gains) (by decide +kernel)) (fun _ _ _ _ _ => (pg_name (i := 6) nd rfl (Or.inl rfl))) (fun _ _ _ _ _ => pts_nil) (fun _ _ _ _ _ => (pe_op og_sub (pe_fn G_law_drip (hr.mono (by decide)) (by rfl) (n_law_drip b) F_law_drip.kp (bindsP F_law_drip fun _ _ _ _ _ _ us hl => match us, hl with | [_, _], _ => rfl) pass0 (pc_p (pa_cons (pv 0) (pa_cons pe_int pa_nil)))) pe_int))))) pss_nil)
  (pss_cons (ps_if (pt_cmpR (OpR.or (og_eq hr.units) (op_eqO (spm_Row_eq b) G_Row_eq (hr.mono (by decide)) (F_Row_eq.bindsN fun _ _ _ _ _ _ us hl => match us, hl with | [_, _], _ => rfl) pass0)) (pv 2) pe_int (nomark _)) (pss_one (ps_ret (pe_lc (own := [("_law_day", 6)]) (g := (gName 6)) (tt := tYes) (by rfl) nd (pi_range1 (by rfl) (g_range b) (pa_cons (pv 1) pa_nil)) (blkOk_by (N := ["_law_tap_here", "_law_days", "_law_way", "_law_few", "_law_found", "_law_at", "_law_day"]) (sc := defScope st_law_gains) (by decide +kernel)) (fun _ _ _ _ _ => (pg_name (i := 6) nd rfl (Or.inl rfl))) (fun _ _ _ _ _ => pts_nil) (fun _ _ _ _ _ => (pe_fn G_law_any (hr.mono (by decide)) (by rfl) (n_law_any b) F_law_any.kp (bindsP F_law_any fun _ _ _ _ _ _ us hl => match us, hl with | [_, _], _ => rfl) pass0 (pc_p (pa_cons (pv 0) (pa_cons (pe_lst (pa_cons pe_int (pa_cons pe_int (pa_cons pe_int (pa_cons pe_int (pa_cons (pe_un un_neg pe_int) pa_nil)))))) pa_nil)))))))) pss_nil)
  (pss_cons (ps_if (pt_cmpR (OpR.or (og_eq hr.units) (op_eqO (spm_Row_eq b) G_Row_eq (hr.mono (by decide)) (F_Row_eq.bindsN fun _ _ _ _ _ _ us hl => match us, hl with | [_, _], _ => rfl) pass0)) (pv 2) pe_int (nomark _)) (pss_one (ps_ret (pe_lc (own := [("_law_day", 6)]) (g := (gName 6)) (tt := tYes) (by rfl) nd (pi_range1 (by rfl) (g_range b) (pa_cons (pv 1) pa_nil)) (blkOk_by (N := ["_law_tap_here", "_law_days", "_law_way", "_law_few", "_law_found", "_law_at", "_law_day"]) (sc := defScope st_law_gains) (by decide +kernel)) (fun _ _ _ _ _ => (pg_name (i := 6) nd rfl (Or.inl rfl))) (fun _ _ _ _ _ => pts_nil) (fun _ _ _ _ _ => (pe_fn G_law_any (hr.mono (by decide)) (by rfl) (n_law_any b) F_law_any.kp (bindsP F_law_any fun _ _ _ _ _ _ us hl => match us, hl with | [_, _], _ => rfl) pass0 (pc_p (pa_cons (pv 0) (pa_cons (pe_lst (pa_cons (pe_op og_pw pe_int pe_int) (pa_cons (pe_op og_sub pe_int (pe_op og_pw pe_int pe_int)) (pa_cons (pe_op og_pw pe_int pe_int) (pa_cons pe_int (pa_cons (pe_un un_neg pe_int) (pa_cons pe_int pa_nil))))))) pa_nil)))))))) pss_nil)
  (pss_cons (ps_set (i := 3) nd rfl (Or.inr rfl) (pe_lc (own := [("_law_day", 6)]) (g := (gName 6)) (tt := tYes) (by rfl) nd (pi_range1 (by rfl) (g_range b) (pa_cons (pe_op og_add pe_int (pe_fn G_law_drip (hr.mono (by decide)) (by rfl) (n_law_drip b) F_law_drip.kp (bindsP F_law_drip fun _ _ _ _ _ _ us hl => match us, hl with | [_, _], _ => rfl) pass0 (pc_p (pa_cons (pv 0) (pa_cons pe_int pa_nil))))) pa_nil)) (blkOk_by (N := ["_law_tap_here", "_law_days", "_law_way", "_law_few", "_law_found", "_law_at", "_law_day"]) (sc := defScope st_law_gains) (by decide +kernel)) (fun _ _ _ _ _ => (pg_name (i := 6) nd rfl (Or.inl rfl))) (fun _ _ _ _ _ => pts_nil) (fun _ _ _ _ _ => (pe_op og_sub (pe_fn G_law_drip (hr.mono (by decide)) (by rfl) (n_law_drip b) F_law_drip.kp (bindsP F_law_drip fun _ _ _ _ _ _ us hl => match us, hl with | [_, _], _ => rfl) pass0 (pc_p (pa_cons (pv 0) (pa_cons pe_int pa_nil)))) pe_int))))
  (pss_cons (ps_if (pt_cmpR (OpR.or (og_eq hr.units) (op_eqO (spm_Row_eq b) G_Row_eq (hr.mono (by decide)) (F_Row_eq.bindsN fun _ _ _ _ _ _ us hl => match us, hl with | [_, _], _ => rfl) pass0)) (pv 2) pe_int (nomark _)) (pss_one (ps_asg (pe_op og_sub (pe_ix ix_seq (pv 3) pe_int (fun _ _ => rfl)) (pe_callB (cg_sum rfl) (by rfl) (g_sum b) (by decide +kernel) (pa_cons (pv 3) pa_nil))) (pg_sub (pv 3) pe_int set_list))) pss_nil)
  (pss_cons (ps_setLc (i := 4) (own := [("_law_day", 6)]) (g := (gName 6)) (tt := tYes) (by rfl) nd rfl rfl (sw_true rfl rfl rfl (by decide +kernel)) (pi_range1 (by rfl) (g_range b) (pa_cons (pv 1) pa_nil)) (blkOk_by (N := ["_law_tap_here", "_law_days", "_law_way", "_law_few", "_law_found", "_law_at", "_law_day"]) (sc := defScope st_law_gains) (by decide +kernel)) (fun _ _ _ _ _ => (pg_name (i := 6) nd rfl (Or.inl rfl))) (fun _ _ _ _ _ => pts_nil) (fun _ _ _ _ _ => (pe_ix ix_seq (pv 3) (pe_op og_md (pe_callTy cg_int (by rfl) (g_int b) boot_int (pa_cons (pv 6) pa_nil)) (pe_callB (Rl.CallR.or cg_len (call_lenO (spm_Row_len b) G_Row_len (hr.mono (by decide)) (F_Row_len.bindsN fun _ _ _ _ _ _ us hl => match us, hl with | [_], _ => rfl) pass0)) (by rfl) (g_len b) boot_len (pa_cons (pv 3) pa_nil))) (fun _ _ => rfl))))
  (pss_cons (ps_if (pt_cmpR (OpR.or (og_eq hr.units) (op_eqO (spm_Row_eq b) G_Row_eq (hr.mono (by decide)) (F_Row_eq.bindsN fun _ _ _ _ _ _ us hl => match us, hl with | [_, _], _ => rfl) pass0)) (pv 2) pe_int (nomark _)) (pss_cons (ps_set (i := 5) nd rfl (Or.inl rfl) (pe_fn G_law_drip (hr.mono (by decide)) (by rfl) (n_law_drip b) F_law_drip.kp (bindsP F_law_drip fun _ _ _ _ _ _ us hl => match us, hl with | [_, _], _ => rfl) pass0 (pc_p (pa_cons (pv 0) (pa_cons (pv 1) pa_nil)))))
  (pss_one (ps_asg (pe_op og_add (pe_ix ix_seq (pv 4) (pv 5) (fun _ _ => rfl)) (pe_fn G_law_any (hr.mono (by decide)) (by rfl) (n_law_any b) F_law_any.kp (bindsP F_law_any fun _ _ _ _ _ _ us hl => match us, hl with | [_, _], _ => rfl) pass0 (pc_p (pa_cons (pv 0) (pa_cons (pe_lst (pa_cons pe_int (pa_cons (pe_un un_neg pe_int) (pa_cons pe_int pa_nil)))) pa_nil))))) (pg_sub (pv 4) (pv 5) set_list)))) pss_nil)
  (pss_one (ps_ret (pv 4)))))))))))
theorem sc_law_tap : FnScope N_law_tap ["_law_script"] (defScope st_law_tap) := ⟨rfl, rfl, rfl, by decide +kernel, rfl, by decide +kernel, by decide +kernel⟩
theorem ok_law_tap (b : Bd K mg)  : GoodF P w K mg base 1 d_law_tap ["_law_script"] (sp_law_tap K w) := by
  obtain ⟨h, X, G, c⟩ := b.ex
  obtain ⟨fd, F⟩ := c.def_ 20 (d := d_law_tap) rfl
  have nd : (N_law_tap).Nodup := sc_law_tap.nd
  refine ⟨fd, F.ok sc_law_tap (fun vs H Q E h => h.1) (fun cdv A outer s H vs Q E hr h => ⟨t_law_tap K w, PSs.nox ?_, h.2⟩), F⟩
  exact (pss_one (ps_ret (pe_lst (pa_cons (pe_lc (own := [("_law_cell", 1)]) (g := (gName 1)) (tt := tYes) (by rfl) nd (pi_any (pe_slice sg_all (pv 0) po_none (po_some pe_int))) (blkOk_by (N := ["_law_script", "_law_cell"]) (sc := defScope st_law_tap) (by decide +kernel)) (fun _ _ _ _ _ => (pg_name (i := 1) nd rfl (Or.inl rfl))) (fun _ _ _ _ _ => pts_nil) (fun _ _ _ _ _ => (pe_callTy cg_int (by rfl) (g_int b) boot_int (pa_cons (pv 1) pa_nil)))) (pa_cons pe_int (pa_cons pe_int pa_nil))))))
theorem sc_law : FnScope N_law ["_law_script"] (defScope st_law) := ⟨rfl, rfl, rfl, by decide +kernel, rfl, by decide +kernel, by decide +kernel⟩
theorem ok_law (b : Bd K mg) (h_law_stretches_right : GoodF P w K mg base 6 d_law_stretches_right ["_law_tap_here", "_law_gains_here"] (sp_law_stretches_right K w)) (h_law_made_right : GoodF P w K mg base 6 d_law_made_right ["_law_tap_here", "_law_gains_here"] (sp_law_made_right K w)) (h_law_gains : GoodF P w K mg base 5 d_law_gains ["_law_tap_here", "_law_days"] (sp_law_gains K w)) (h_law_any : GoodF P w K mg base 4 d_law_any ["_law_tap_here", "_law_some"] (sp_law_any K w)) (h_law_tap : GoodF P w K mg base 1 d_law_tap ["_law_script"] (sp_law_tap K w)) : GoodF P w K mg base 7 d_law ["_law_script"] (sp_law K w) := by
  obtain ⟨_, G_law_stretches_right, F_law_stretches_right⟩ := h_law_stretches_right
  obtain ⟨_, G_law_made_right, F_law_made_right⟩ := h_law_made_right
  obtain ⟨_, G_law_gains, F_law_gains⟩ := h_law_gains
  obtain ⟨_, G_law_any, F_law_any⟩ := h_law_any
  obtain ⟨_, G_law_tap, F_law_tap⟩ := h_law_tap
  obtain ⟨h, X, G, c⟩ := b.ex
  obtain ⟨fd, F⟩ := c.def_ 21 (d := d_law) rfl
  have nd : (N_law).Nodup := sc_law.nd
  refine ⟨fd, F.ok sc_law (fun vs H Q E h => h.1) (fun cdv A outer s H vs Q E hr h => ⟨t_law K w, PSs.nox ?_, h.2⟩), F⟩
  exact (pss_cons (ps_set (i := 1) nd rfl (Or.inl rfl) (pe_fn G_law_tap (hr.mono (by decide)) (by rfl) (n_law_tap b) F_law_tap.kp (bindsP F_law_tap fun _ _ _ _ _ _ us hl => match us, hl with | [_], _ => rfl) pass0 (pc_p (pa_cons (pv 0) pa_nil))))
  (pss_cons (ps_for PassesOwn.never rfl (pi_range1 (by rfl) (g_range b) (pa_cons pe_int pa_nil)) (pg_name (i := 2) nd rfl (Or.inl rfl)) (pss_cons (ps_set (i := 3) nd rfl (Or.inl rfl) (pe_fn G_law_gains (hr.mono (by decide)) (by rfl) (n_law_gains b) F_law_gains.kp (bindsP F_law_gains fun _ _ _ _ _ _ us hl => match us, hl with | [_, _], _ => rfl) pass0 (pc_p (pa_cons (pv 1) (pa_cons (pe_fn G_law_any (hr.mono (by decide)) (by rfl) (n_law_any b) F_law_any.kp (bindsP F_law_any fun _ _ _ _ _ _ us hl => match us, hl with | [_, _], _ => rfl) pass0 (pc_p (pa_cons (pv 1) (pa_cons (pe_lst (pa_cons pe_int (pa_cons pe_int (pa_cons pe_int (pa_cons pe_int (pa_cons pe_int (pa_cons pe_int (pa_cons pe_int (pa_cons pe_int (pa_cons pe_int (pa_cons pe_int pa_nil))))))))))) pa_nil)))) pa_nil)))))
  (pss_one (ps_if (PW.pt (pw_or (pt_not (pt_truth (pe_fn G_law_made_right (hr.mono (by decide)) (by rfl) (n_law_made_right b) F_law_made_right.kp (bindsP F_law_made_right fun _ _ _ _ _ _ us hl => match us, hl with | [_, _], _ => rfl) pass0 (pc_p (pa_cons (pv 1) (pa_cons (pv 3) pa_nil)))) (by intro _; rfl))) (pw_or1 (pt_not (pt_truth (pe_fn G_law_stretches_right (hr.mono (by decide)) (by rfl) (n_law_stretches_right b) F_law_stretches_right.kp (bindsP F_law_stretches_right fun _ _ _ _ _ _ us hl => match us, hl with | [_, _], _ => rfl) pass0 (pc_p (pa_cons (pv 1) (pa_cons (pv 3) pa_nil)))) (by intro _; rfl)))))) (pss_one (ps_ret pe_bl)) pss_nil))))
  (pss_one (ps_ret pe_bl))))
end
end K04

set_option Elab.async false
set_option linter.all false
set_option maxRecDepth 100000
set_option maxHeartbeats 4000000
namespace K04
open PySem PySem.Spec PyProof.Rows L2 Rl RZ RT Dl
local macro_rules | `(tactic| walk_at "fact") => `(tactic| fail)
local macro_rules | `(tactic| walk_at "num") => `(tactic| first | decide | omega | assumption)
local macro_rules | `(tactic| walk_at "kit") => `(tactic| fail)
local macro_rules | `(tactic| walk_at "ty") => `(tactic| fail)
local macro_rules | `(tactic| walk_at "kb") => `(tactic| first | exact kb_NoneType_int | exact kb_NoneType_bool | exact kb_NoneType_str | exact kb_NoneType_list | exact kb_NoneType_tuple | exact kb_NoneType_dict | exact kb_bool_int | exact kb_bool_bool | exact kb_bool_str | exact kb_bool_list | exact kb_bool_tuple | exact kb_bool_dict | exact kb_int_int | exact kb_int_bool | exact kb_int_str | exact kb_int_list | exact kb_int_tuple | exact kb_int_dict | exact kb_str_int | exact kb_str_bool | exact kb_str_str | exact kb_str_list | exact kb_str_tuple | exact kb_str_dict | exact kb_list_int | exact kb_list_bool | exact kb_list_str | exact kb_list_list | exact kb_list_tuple | exact kb_list_dict | exact kb_tuple_int | exact kb_tuple_bool | exact kb_tuple_str | exact kb_tuple_list | exact kb_tuple_tuple | exact kb_tuple_dict)
local macro_rules | `(tactic| walk_at "k2") => `(tactic| first | exact k2_list | exact k2_tuple | exact k2_int | exact k2_str | exact k2_bool | exact k2_NoneType)
local macro_rules | `(tactic| walk_at "call") => `(tactic| fail)
local macro_rules | `(tactic| walk_at "cl") => `(tactic| dsimp only [toD, fzT, upR, List.map, List.set, List.getD, List.getElem?_cons_zero, List.getElem?_cons_succ, Option.getD, List.append, List.cons_append, List.nil_append, wipeS, argsOf, retT, toS, OC.toD, List.replicate, Bool.not_true, Bool.not_false, Dl.isNon, Int.reduceToNat])
local macro_rules | `(tactic| walk_at "s") => `(tactic| with_reducible first
  | apply wps_seq
  | apply wps_asg
  | apply wps_drop
  | apply wps_ret
  | apply wps_retN
  | (apply wps_next; try dsimp only)
  | (apply wps_brk; try dsimp only)
  | (apply wps_cont; try dsimp only)
  | apply wps_if
  | apply wps_fld2
  | (apply wp_var; (· with_unfolding_all rfl))
  | apply wp_int
  | apply wp_str
  | apply wp_bl
  | apply wp_non
  | apply wp_ty
  | apply wp_cls
  | apply wp_op
  | apply wp_un
  | (apply wp_isi2)
  | apply wp_cb
  | apply wp_tup
  | apply wp_lst
  | apply wp_if
  | apply wp_orT
  | apply wp_andT
  | apply wp_notT
  | apply wp_fld
  | apply wp_chain
  | apply wp_sl
  | apply wpa_cons
  | apply wpa_nil
  | apply wpad_cons
  | apply wpad_nil
  | apply wpd_of
  | apply wpo_none
  | apply wpo_some
  | apply wpt_test
  | apply wpt_B
  | apply wpt_tru
  | apply wpt_and
  | apply wpt_or
  | apply wpt_not
  | apply wp_fn
  | apply wp_fnK
  | apply wp_mt
  | apply wp_mtK
  | apply wp_new
  | apply wp_newK
  | apply wpc_p
  | apply wpc_k
  | apply wpc_pk
  | (apply wpg_name; (· assumption); (· with_unfolding_all rfl); (· with_unfolding_all rfl); (· with_unfolding_all rfl))
  | (refine wpg_tup ?_ ?_; (· with_unfolding_all rfl))
  | apply wpg_sub
  | apply wpgs_cons
  | apply wpgs_nil
  | apply wpt_yes
  | (refine turn ?_ ?_; (· with_unfolding_all rfl))
  | apply wps_forW
  | (apply wp_lcW; (· assumption); (· with_unfolding_all rfl); (· walk_at "gin"))
  | apply wpi_r1
  | apply wpi_r2
  | apply wpi_zip
  | apply wpi_enum
  | apply wp_append
  | apply wp_extend
  | apply br_t
  | apply br_f
  | apply br_nt
  | apply br_nf)
local macro_rules | `(tactic| walk_at "gin") => `(tactic| first | exact gin_name rfl | exact gin_tup (gin_cons (gin_name rfl) (gin_cons (gin_name rfl) gin_nil)) | exact gin_tup (gin_cons (gin_name rfl) (gin_cons (gin_name rfl) (gin_cons (gin_name rfl) gin_nil))))
local macro_rules | `(tactic| walk_at "it") => `(tactic| first
  | (with_reducible apply wpi_lst; walk_at "w"; with_reducible first | show ForOk _ _ _ _ _ _ | show LcOk _ _ _ _ _ _ _ _)
  | (with_reducible apply wpi_tup; walk_at "w"; with_reducible first | show ForOk _ _ _ _ _ _ | show LcOk _ _ _ _ _ _ _ _))
local macro_rules | `(tactic| walk_at "o") => `(tactic| with_reducible first
  | apply o_add
  | apply o_sub
  | apply o_lt
  | apply o_le
  | apply o_gt
  | apply o_ge
  | apply o_eqi
  | apply o_nei
  | apply o_eqs
  | apply o_nes
  | apply o_neg
  | (apply op2_or1; first | apply o_eqi | apply o_nei | apply o_eqs | apply o_nes)
  | apply a_int
  | apply a_abs
  | (refine o_md ?_ ?_; (· with_unfolding_all walk_at "num"))
  | (apply o_fd; (· with_unfolding_all walk_at "num"); (· exact small_log (by omega) (by omega)))
  | (apply o_mul; (· with_unfolding_all first | exact cmul_l (by omega) (by omega) | exact cmul_r (by omega) (by omega)))
  | (apply o_pw; (· with_unfolding_all exact cpow_ok (by omega) (by omega) (by omega)))
  | (apply o_ix; (· with_unfolding_all rfl); (· with_unfolding_all rfl))
  | apply a_intb
  | (apply o_is; (· with_unfolding_all rfl))
  | (apply o_isn; (· with_unfolding_all rfl))
  | (apply a_lenL; (· with_unfolding_all rfl))
  | (apply opa_or1; apply a_lenL; (· with_unfolding_all rfl))
  | (apply a_len; (· with_unfolding_all rfl))
  | (apply opa_or1; apply a_len; (· with_unfolding_all rfl))
  | (apply a_tuple; (· with_unfolding_all rfl))
  | apply a_tupleT
  | (apply a_list; (· with_unfolding_all rfl))
  | (apply a_isi; (· with_unfolding_all rfl); (· walk_at "kb"))
  | (apply a_isiO; (· with_unfolding_all rfl); (· walk_at "kit"))
  | (apply a_isiI; (· with_unfolding_all rfl); (· walk_at "ty"); (· walk_at "kit")))
local macro_rules | `(tactic| walk_at "e") => `(tactic| first
  | (refine ⟨_, _, _, _, rfl, ?_, ?_, rfl, ?_⟩; (· walk_at "fact"); (· walk_at "fact"))
  | (refine ⟨_, _, _, _, rfl, rfl, ?_, ?_, Nat.le_of_ble_eq_true rfl, rfl, Or.inl ⟨rfl, ?_⟩⟩; (· walk_at "fact"); (· walk_at "fact"))
  | (refine ⟨_, _, _, _, rfl, rfl, ?_, ?_, Nat.le_of_ble_eq_true rfl, rfl, Or.inr ⟨0, rfl, ?_⟩⟩; (· walk_at "fact"); (· walk_at "fact"))
  | (refine ⟨_, _, _, _, rfl, rfl, ?_, ?_, Nat.le_of_ble_eq_true rfl, rfl, Or.inr ⟨1, rfl, ?_⟩⟩; (· walk_at "fact"); (· walk_at "fact"))
  | (refine ⟨_, _, _, _, rfl, rfl, ?_, ?_, Nat.le_of_ble_eq_true rfl, rfl, Or.inr ⟨2, rfl, ?_⟩⟩; (· walk_at "fact"); (· walk_at "fact"))
  | (refine ⟨_, _, _, _, rfl, rfl, ?_, ?_, Nat.le_of_ble_eq_true rfl, rfl, Or.inr ⟨3, rfl, ?_⟩⟩; (· walk_at "fact"); (· walk_at "fact"))
  | (refine ⟨_, _, _, _, rfl, rfl, ?_, ?_, Nat.le_of_ble_eq_true rfl, rfl, Or.inr ⟨4, rfl, ?_⟩⟩; (· walk_at "fact"); (· walk_at "fact"))
  | refine ⟨rfl, rfl, rfl, ?_⟩
  | (refine ⟨rfl, rfl, ⟨by decide, by decide⟩, ?_⟩)
  | (refine ⟨_, _, rfl, ?_, ?_⟩; (· walk_at "k2"))
  | refine ⟨_, _, _, rfl, rfl, rfl, ?_⟩
  | (refine ⟨_, _, rfl, rfl, ?_⟩)
  | (refine ⟨_, rfl, ⟨by omega, by omega⟩, ?_⟩)
  | (refine ⟨_, rfl, ⟨_, rfl⟩, ?_⟩)
  | (refine ⟨_, rfl, ?_⟩)
  | refine Or.inl ⟨_, _, rfl, rfl, ?_⟩
  | refine Or.inr ⟨_, _, rfl, rfl, ?_⟩
  | refine Or.inl ⟨_, rfl, ?_⟩
  | refine Or.inr (Or.inl ⟨_, rfl, ?_⟩)
  | exact ⟨rfl, rfl⟩
  | exact ⟨rfl, rfl, rfl⟩
  | (refine ⟨Nat.le_of_ble_eq_true rfl, ?_⟩))
local macro_rules | `(tactic| walk_at "b") => `(tactic| with_reducible first
  | (refine br_p ?_ ?_; (· with_unfolding_all walk_at "num"))
  | (refine br_n ?_ ?_; (· with_unfolding_all walk_at "num"))
  | (refine nbr_p ?_ ?_; (· with_unfolding_all walk_at "num"))
  | (refine nbr_n ?_ ?_; (· with_unfolding_all walk_at "num")))
local macro_rules | `(tactic| walk_at "x") => `(tactic| first | walk_at "s" | walk_at "o" | walk_at "call" | walk_at "b" | walk_at "e" | walk_at "it" | walk_at "cl")
local macro_rules | `(tactic| walk_at "w") => `(tactic| repeat walk_at "x")
/-- heights from s on -/
def hs : Int → List Int → List Int
  | s, [] => [s]
  | s, x :: xs => s :: hs (s + x) xs
def hts (l : List Int) : List Int := hs 0 l
theorem hs_len : ∀ (s : Int) (l : List Int), (hs s l).length = l.length + 1
  | _, [] => rfl
  | s, x :: xs => by simp [hs, hs_len]
theorem hs_app : ∀ (s : Int) (l : List Int) (x : Int), hs s (l ++ [x]) = hs s l ++ [s + l.sum + x]
  | s, [], x => by simp [hs]
  | s, y :: l, x => by
    have e : s + y + l.sum + x = s + (y + l.sum) + x := by omega
    simp only [List.cons_append, hs, hs_app, List.sum_cons, e]
theorem hs_get : ∀ (s : Int) (l : List Int) (i : Nat), i ≤ l.length → (hs s l)[i]? = some (s + (l.take i).sum)
  | s, [], i, h => by
    have : i = 0 := by simpa using h
    subst this; simp [hs]
  | s, x :: xs, 0, h => by simp [hs]
  | s, x :: xs, i + 1, h => by
    have z := hs_get (s + x) xs i (by simpa using h)
    simp only [hs, List.getElem?_cons_succ, z, List.take_succ_cons, List.sum_cons]
    congr 1; omega
theorem hts_len (l : List Int) : (hts l).length = l.length + 1 := hs_len 0 l
theorem hts_at (l : List Int) {i : Int} (h0 : 0 ≤ i) (h : i ≤ l.length) : atI (hts l) i = some ((l.take i.toNat).sum) := by
  unfold atI ixN
  rw [if_pos h0, if_pos (by rw [hts_len]; omega)]
  show (hs 0 l)[i.toNat]? = _
  rw [hs_get 0 l _ (by omega), Int.zero_add]
theorem hts_last (l : List Int) : atI (hts l) (-1) = some l.sum := by
  unfold atI ixN
  rw [if_neg (by omega), if_pos (by rw [hts_len]; omega)]
  show (hs 0 l)[((-1 : Int) + (hts l).length).toNat]? = _
  rw [hts_len, show ((-1 : Int) + ((l.length + 1 : Nat) : Int)).toNat = l.length by omega, hs_get 0 l _ (Nat.le_refl _), List.take_length, Int.zero_add]
theorem hts_app (l : List Int) (x : Int) : hts (l ++ [x]) = hts l ++ [l.sum + x] := by
  unfold hts; rw [hs_app, Int.zero_add]
abbrev rowN : List Str := ["gains", "heights", "days", "total"]
abbrev rowX (l : List Int) : List D := [.tup (Li l), .tup (Li (hts l)), .int (l.length : Int), .int l.sum]
abbrev rowD (l : List Int) : D := .ins "Row" rowN (rowX l)
abbrev rowC (l : List Int) : OC := .ins "Row" rowN (rowX l)
section
variable {K : PySem.W.Frag} {w : World} {mg : Str → Option Value}
theorem is_integer_ok {i : Int} : Pure K (sp_is_integer K w) [.d (.int i)] fun t => t = .d (.bl true) := by
  refine fn_of (N := N_is_integer) (u := 0) (fun vs H Q E h => h) rfl rfl fun G pl hB => ?_
  unfold t_is_integer
  walk_at "w"
local macro_rules | `(tactic| walk_at "call") => `(tactic| first
  | (apply call_eq is_integer_ok; (· rfl)))
theorem all_true (l : List Int) : (Li l).map (fun _ => D.bl true) = Lb (l.map fun _ => true) := map_Lb fun _ => rfl
theorem all_true' (l : List Int) : (l.map fun _ => true).all id = true := by induction l <;> simp_all
theorem are_integers_l {l : List Int} (hl : l.length ≤ sizeLine) : Pure K (sp_are_integers K w) [.d (.lst (Li l))] fun t => t = .d (.bl true) := by
  refine fn_of (N := N_are_integers) (u := 1) (fun vs H Q E h => h) rfl rfl fun G pl hB => ?_
  unfold t_are_integers
  walk_at "w"
  refine lc_map (fun _ => .bl true) rfl rfl (by simpa using hl) (fun x hx => ?_) ?_
  · obtain ⟨j, _, rfl⟩ := mem_Li hx
    walk_at "w"
  · rw [all_true]
    walk_at "w"
    refine a_all rfl ?_
    rw [all_true']
    walk_at "w"
theorem are_integers_t {l : List Int} (hl : l.length ≤ sizeLine) : Pure K (sp_are_integers K w) [.d (.tup (Li l))] fun t => t = .d (.bl true) := by
  refine fn_of (N := N_are_integers) (u := 1) (fun vs H Q E h => h) rfl rfl fun G pl hB => ?_
  unfold t_are_integers
  walk_at "w"
  refine lc_map (fun _ => .bl true) rfl rfl (by simpa using hl) (fun x hx => ?_) ?_
  · obtain ⟨j, _, rfl⟩ := mem_Li hx
    walk_at "w"
  · rw [all_true]
    walk_at "w"
    refine a_all rfl ?_
    rw [all_true']
    walk_at "w"
theorem heights_of_l {l : List Int} (hl : l.length + 1 < sizeLine) : Pure K (sp_heights_of K w) [.d (.lst (Li l))] fun t => t = .d (.tup (Li (hts l))) := by
  refine fn_of (N := N_heights_of) (u := 2) (fun vs H Q E h => h) rfl rfl fun G pl hB => ?_
  unfold t_heights_of
  walk_at "w"
  refine for_ok (fun i ρ => ∃ s, ρ = [.d (.lst (Li l)), .m (.lst (Li (hts (l.take i)))), s] ∧ i ≤ l.length) ⟨_, rfl, Nat.zero_le _⟩ (fun i x ρ2 hx ⟨s, e, hi⟩ => ?_) (fun ρ2 ⟨s, e, hi⟩ => ?_)
  · subst e
    obtain ⟨j, hj, rfl⟩ := get_Li hx
    have hi := (List.getElem?_eq_some_iff.mp hj).1
    walk_at "w"
    refine o_ix rfl (atI_Li (hts_last _)) ?_
    walk_at "w"
    refine ⟨?_, S.d (.int j), ?_, hi⟩
    · rw [Li_len, hts_len, List.length_take]; omega
    · rw [List.take_succ, hj]
      show _ = [_, S.m (.lst (Li (hts (_ ++ [j])))), _]
      rw [hts_app, ← Li_app]
      rfl
  · subst e
    rw [Li_len, List.take_length]
    walk_at "w"
theorem heights_of_t {l : List Int} (hl : l.length + 1 < sizeLine) : Pure K (sp_heights_of K w) [.d (.tup (Li l))] fun t => t = .d (.tup (Li (hts l))) := by
  refine fn_of (N := N_heights_of) (u := 2) (fun vs H Q E h => h) rfl rfl fun G pl hB => ?_
  unfold t_heights_of
  walk_at "w"
  refine for_ok (fun i ρ => ∃ s, ρ = [.d (.tup (Li l)), .m (.lst (Li (hts (l.take i)))), s] ∧ i ≤ l.length) ⟨_, rfl, Nat.zero_le _⟩ (fun i x ρ2 hx ⟨s, e, hi⟩ => ?_) (fun ρ2 ⟨s, e, hi⟩ => ?_)
  · subst e
    obtain ⟨j, hj, rfl⟩ := get_Li hx
    have hi := (List.getElem?_eq_some_iff.mp hj).1
    walk_at "w"
    refine o_ix rfl (atI_Li (hts_last _)) ?_
    walk_at "w"
    refine ⟨?_, S.d (.int j), ?_, hi⟩
    · rw [Li_len, hts_len, List.length_take]; omega
    · rw [List.take_succ, hj]
      show _ = [_, S.m (.lst (Li (hts (_ ++ [j])))), _]
      rw [hts_app, ← Li_app]
      rfl
  · subst e
    rw [Li_len, List.take_length]
    walk_at "w"
theorem is_within_ok {v lo hi : Int} (h1 : lo ≤ v) (h2 : v ≤ hi) : Pure K (sp_is_within K w) [.d (.int v), .d (.int lo), .d (.int hi)] fun t => t = .d (.bl true) := by
  refine fn_of (N := N_is_within) (u := 0) (fun vs H Q E h => h) rfl rfl fun G pl hB => ?_
  unfold t_is_within
  walk_at "w"
  exact ⟨rfl, by simp [h2], rfl⟩
theorem need_number_ok {v lo hi : Int} {p : Str} (h1 : lo ≤ v) (h2 : v ≤ hi) : Pure K (sp_need_number K w) [.d (.int v), .d (.str p), .d (.int lo), .d (.int hi)] fun t => t = .d .non := by
  refine fn_of (N := N_need_number) (u := 0) (fun vs H Q E h => h) rfl rfl fun G pl hB => ?_
  unfold t_need_number
  walk_at "w"
  refine call_eq (is_within_ok h1 h2) rfl ?_
  walk_at "w"
variable (b : Bd K mg)
include b
local macro_rules | `(tactic| walk_at "fact") => `(tactic| first | exact cl_Row (by assumption) | exact na_Row_gains (by assumption) | exact na_Row_heights (by assumption) | exact na_Row_days (by assumption) | exact na_Row_total (by assumption))
theorem Row_init_l {l : List Int} (h0 : 0 < l.length) (h1 : l.length ≤ 48) : Fn K (sp_Row_init K w) [.m (.ins "Row" [] []), .d (.lst (Li l))] fun t as' => t = .d .non ∧ as' = [.m (rowC l), .d (.lst (Li l))] := by
  have hz := sizeLine_eq
  refine fn_of (N := N_Row_init) (u := 0) (fun vs H Q E h => h) rfl rfl fun G pl hB => ?_
  unfold t_Row_init
  walk_at "w"
  refine call_eq (are_integers_l (l := l) (by omega)) rfl ?_
  walk_at "w"
  refine call_eq (heights_of_l (l := l) (by omega)) rfl ?_
  walk_at "w"
  refine o_ix rfl (atI_Li (hts_last _)) ?_
  walk_at "w"
theorem Row_init_t {l : List Int} (h0 : 0 < l.length) (h1 : l.length ≤ 48) : Fn K (sp_Row_init K w) [.m (.ins "Row" [] []), .d (.tup (Li l))] fun t as' => t = .d .non ∧ as' = [.m (rowC l), .d (.tup (Li l))] := by
  have hz := sizeLine_eq
  refine fn_of (N := N_Row_init) (u := 0) (fun vs H Q E h => h) rfl rfl fun G pl hB => ?_
  unfold t_Row_init
  walk_at "w"
  refine call_eq (are_integers_t (l := l) (by omega)) rfl ?_
  walk_at "w"
  refine call_eq (heights_of_t (l := l) (by omega)) rfl ?_
  walk_at "w"
  refine o_ix rfl (atI_Li (hts_last _)) ?_
  walk_at "w"
end
end K04

set_option Elab.async false
set_option linter.all false
set_option maxRecDepth 100000
set_option maxHeartbeats 4000000
namespace K04
open PySem PySem.Spec PyProof.Rows L2 Rl RZ RT Dl
local macro_rules | `(tactic| walk_at "fact") => `(tactic| fail)
local macro_rules | `(tactic| walk_at "num") => `(tactic| first | decide | omega | assumption)
local macro_rules | `(tactic| walk_at "kit") => `(tactic| fail)
local macro_rules | `(tactic| walk_at "ty") => `(tactic| fail)
local macro_rules | `(tactic| walk_at "kb") => `(tactic| first | exact kb_NoneType_int | exact kb_NoneType_bool | exact kb_NoneType_str | exact kb_NoneType_list | exact kb_NoneType_tuple | exact kb_NoneType_dict | exact kb_bool_int | exact kb_bool_bool | exact kb_bool_str | exact kb_bool_list | exact kb_bool_tuple | exact kb_bool_dict | exact kb_int_int | exact kb_int_bool | exact kb_int_str | exact kb_int_list | exact kb_int_tuple | exact kb_int_dict | exact kb_str_int | exact kb_str_bool | exact kb_str_str | exact kb_str_list | exact kb_str_tuple | exact kb_str_dict | exact kb_list_int | exact kb_list_bool | exact kb_list_str | exact kb_list_list | exact kb_list_tuple | exact kb_list_dict | exact kb_tuple_int | exact kb_tuple_bool | exact kb_tuple_str | exact kb_tuple_list | exact kb_tuple_tuple | exact kb_tuple_dict)
local macro_rules | `(tactic| walk_at "k2") => `(tactic| first | exact k2_list | exact k2_tuple | exact k2_int | exact k2_str | exact k2_bool | exact k2_NoneType)
local macro_rules | `(tactic| walk_at "call") => `(tactic| fail)
local macro_rules | `(tactic| walk_at "cl") => `(tactic| dsimp only [toD, fzT, upR, List.map, List.set, List.getD, List.getElem?_cons_zero, List.getElem?_cons_succ, Option.getD, List.append, List.cons_append, List.nil_append, wipeS, argsOf, retT, toS, OC.toD, List.replicate, Bool.not_true, Bool.not_false, Dl.isNon, Int.reduceToNat])
local macro_rules | `(tactic| walk_at "s") => `(tactic| with_reducible first
  | apply wps_seq
  | apply wps_asg
  | apply wps_drop
  | apply wps_ret
  | apply wps_retN
  | (apply wps_next; try dsimp only)
  | (apply wps_brk; try dsimp only)
  | (apply wps_cont; try dsimp only)
  | apply wps_if
  | apply wps_fld2
  | (apply wp_var; (· with_unfolding_all rfl))
  | apply wp_int
  | apply wp_str
  | apply wp_bl
  | apply wp_non
  | apply wp_ty
  | apply wp_cls
  | apply wp_op
  | apply wp_un
  | (apply wp_isi2)
  | apply wp_cb
  | apply wp_tup
  | apply wp_lst
  | apply wp_if
  | apply wp_orT
  | apply wp_andT
  | apply wp_notT
  | apply wp_fld
  | apply wp_chain
  | apply wp_sl
  | apply wpa_cons
  | apply wpa_nil
  | apply wpad_cons
  | apply wpad_nil
  | apply wpd_of
  | apply wpo_none
  | apply wpo_some
  | apply wpt_test
  | apply wpt_B
  | apply wpt_tru
  | apply wpt_and
  | apply wpt_or
  | apply wpt_not
  | apply wp_fn
  | apply wp_fnK
  | apply wp_mt
  | apply wp_mtK
  | apply wp_new
  | apply wp_newK
  | apply wpc_p
  | apply wpc_k
  | apply wpc_pk
  | (apply wpg_name; (· assumption); (· with_unfolding_all rfl); (· with_unfolding_all rfl); (· with_unfolding_all rfl))
  | (refine wpg_tup ?_ ?_; (· with_unfolding_all rfl))
  | apply wpg_sub
  | apply wpgs_cons
  | apply wpgs_nil
  | apply wpt_yes
  | (refine turn ?_ ?_; (· with_unfolding_all rfl))
  | apply wps_forW
  | (apply wp_lcW; (· assumption); (· with_unfolding_all rfl); (· walk_at "gin"))
  | apply wpi_r1
  | apply wpi_r2
  | apply wpi_zip
  | apply wpi_enum
  | apply wp_append
  | apply wp_extend
  | apply br_t
  | apply br_f
  | apply br_nt
  | apply br_nf)
local macro_rules | `(tactic| walk_at "gin") => `(tactic| first | exact gin_name rfl | exact gin_tup (gin_cons (gin_name rfl) (gin_cons (gin_name rfl) gin_nil)) | exact gin_tup (gin_cons (gin_name rfl) (gin_cons (gin_name rfl) (gin_cons (gin_name rfl) gin_nil))))
local macro_rules | `(tactic| walk_at "it") => `(tactic| first
  | (with_reducible apply wpi_lst; walk_at "w"; with_reducible first | show ForOk _ _ _ _ _ _ | show LcOk _ _ _ _ _ _ _ _)
  | (with_reducible apply wpi_tup; walk_at "w"; with_reducible first | show ForOk _ _ _ _ _ _ | show LcOk _ _ _ _ _ _ _ _))
local macro_rules | `(tactic| walk_at "o") => `(tactic| with_reducible first
  | apply o_add
  | apply o_sub
  | apply o_lt
  | apply o_le
  | apply o_gt
  | apply o_ge
  | apply o_eqi
  | apply o_nei
  | apply o_eqs
  | apply o_nes
  | apply o_neg
  | (apply op2_or1; first | apply o_eqi | apply o_nei | apply o_eqs | apply o_nes)
  | apply a_int
  | apply a_abs
  | (refine o_md ?_ ?_; (· with_unfolding_all walk_at "num"))
  | (apply o_fd; (· with_unfolding_all walk_at "num"); (· exact small_log (by omega) (by omega)))
  | (apply o_mul; (· with_unfolding_all first | exact cmul_l (by omega) (by omega) | exact cmul_r (by omega) (by omega)))
  | (apply o_pw; (· with_unfolding_all exact cpow_ok (by omega) (by omega) (by omega)))
  | (apply o_ix; (· with_unfolding_all rfl); (· with_unfolding_all rfl))
  | apply a_intb
  | (apply o_is; (· with_unfolding_all rfl))
  | (apply o_isn; (· with_unfolding_all rfl))
  | (apply a_lenL; (· with_unfolding_all rfl))
  | (apply opa_or1; apply a_lenL; (· with_unfolding_all rfl))
  | (apply a_len; (· with_unfolding_all rfl))
  | (apply opa_or1; apply a_len; (· with_unfolding_all rfl))
  | (apply a_tuple; (· with_unfolding_all rfl))
  | apply a_tupleT
  | (apply a_list; (· with_unfolding_all rfl))
  | (apply a_isi; (· with_unfolding_all rfl); (· walk_at "kb"))
  | (apply a_isiO; (· with_unfolding_all rfl); (· walk_at "kit"))
  | (apply a_isiI; (· with_unfolding_all rfl); (· walk_at "ty"); (· walk_at "kit")))
local macro_rules | `(tactic| walk_at "e") => `(tactic| first
  | (refine ⟨_, _, _, _, rfl, ?_, ?_, rfl, ?_⟩; (· walk_at "fact"); (· walk_at "fact"))
  | (refine ⟨_, _, _, _, rfl, rfl, ?_, ?_, Nat.le_of_ble_eq_true rfl, rfl, Or.inl ⟨rfl, ?_⟩⟩; (· walk_at "fact"); (· walk_at "fact"))
  | (refine ⟨_, _, _, _, rfl, rfl, ?_, ?_, Nat.le_of_ble_eq_true rfl, rfl, Or.inr ⟨0, rfl, ?_⟩⟩; (· walk_at "fact"); (· walk_at "fact"))
  | (refine ⟨_, _, _, _, rfl, rfl, ?_, ?_, Nat.le_of_ble_eq_true rfl, rfl, Or.inr ⟨1, rfl, ?_⟩⟩; (· walk_at "fact"); (· walk_at "fact"))
  | (refine ⟨_, _, _, _, rfl, rfl, ?_, ?_, Nat.le_of_ble_eq_true rfl, rfl, Or.inr ⟨2, rfl, ?_⟩⟩; (· walk_at "fact"); (· walk_at "fact"))
  | (refine ⟨_, _, _, _, rfl, rfl, ?_, ?_, Nat.le_of_ble_eq_true rfl, rfl, Or.inr ⟨3, rfl, ?_⟩⟩; (· walk_at "fact"); (· walk_at "fact"))
  | (refine ⟨_, _, _, _, rfl, rfl, ?_, ?_, Nat.le_of_ble_eq_true rfl, rfl, Or.inr ⟨4, rfl, ?_⟩⟩; (· walk_at "fact"); (· walk_at "fact"))
  | refine ⟨rfl, rfl, rfl, ?_⟩
  | (refine ⟨rfl, rfl, ⟨by decide, by decide⟩, ?_⟩)
  | (refine ⟨_, _, rfl, ?_, ?_⟩; (· walk_at "k2"))
  | refine ⟨_, _, _, rfl, rfl, rfl, ?_⟩
  | (refine ⟨_, _, rfl, rfl, ?_⟩)
  | (refine ⟨_, rfl, ⟨by omega, by omega⟩, ?_⟩)
  | (refine ⟨_, rfl, ⟨_, rfl⟩, ?_⟩)
  | (refine ⟨_, rfl, ?_⟩)
  | refine Or.inl ⟨_, _, rfl, rfl, ?_⟩
  | refine Or.inr ⟨_, _, rfl, rfl, ?_⟩
  | refine Or.inl ⟨_, rfl, ?_⟩
  | refine Or.inr (Or.inl ⟨_, rfl, ?_⟩)
  | exact ⟨rfl, rfl⟩
  | exact ⟨rfl, rfl, rfl⟩
  | (refine ⟨Nat.le_of_ble_eq_true rfl, ?_⟩))
local macro_rules | `(tactic| walk_at "b") => `(tactic| with_reducible first
  | (refine br_p ?_ ?_; (· with_unfolding_all walk_at "num"))
  | (refine br_n ?_ ?_; (· with_unfolding_all walk_at "num"))
  | (refine nbr_p ?_ ?_; (· with_unfolding_all walk_at "num"))
  | (refine nbr_n ?_ ?_; (· with_unfolding_all walk_at "num")))
local macro_rules | `(tactic| walk_at "x") => `(tactic| first | walk_at "s" | walk_at "o" | walk_at "call" | walk_at "b" | walk_at "e" | walk_at "it" | walk_at "cl")
local macro_rules | `(tactic| walk_at "w") => `(tactic| repeat walk_at "x")
/-- the stretch -/
abbrev cut (l : List Int) (b n : Int) : List Int := Dl.cutD l (some b) (some (b + n))
theorem cut_eq {l : List Int} {b n : Int} (h0 : 0 ≤ b) (h1 : 0 ≤ n) (h : b + n ≤ l.length) : cut l b n = (l.drop b.toNat).take n.toNat := by
  unfold cut Dl.cutD HT.sIx
  simp only []
  rw [if_neg (by omega), if_neg (by omega), show min b.toNat l.length = b.toNat by omega, show min (b + n).toNat l.length - b.toNat = n.toNat by omega]
theorem cut_len {l : List Int} {b n : Int} (h0 : 0 ≤ b) (h1 : 0 ≤ n) (h : b + n ≤ l.length) : (cut l b n).length = n.toNat := by
  rw [cut_eq h0 h1 h, List.length_take, List.length_drop]; omega
theorem cut_sum {l : List Int} {b n : Int} (h0 : 0 ≤ b) (h1 : 0 ≤ n) (h : b + n ≤ l.length) : (l.take (b + n).toNat).sum - (l.take b.toNat).sum = (cut l b n).sum := by
  rw [cut_eq h0 h1 h, show (b + n).toNat = b.toNat + n.toNat by omega, List.take_add, List.sum_append]
  omega
theorem cut_all (l : List Int) : cut l 0 l.length = l := by
  rw [cut_eq (by omega) (by omega) (by omega)]
  simp
section
variable {K : PySem.W.Frag} {w : World} {mg : Str → Option Value}
local macro_rules | `(tactic| walk_at "call") => `(tactic| first
  | (apply call_eq is_integer_ok; (· rfl)))
variable (b : Bd K mg)
include b
local macro_rules | `(tactic| walk_at "fact") => `(tactic| first | exact cl_Row (by assumption) | exact na_Row_gains (by assumption) | exact na_Row_heights (by assumption) | exact na_Row_days (by assumption) | exact na_Row_total (by assumption))
local macro_rules | `(tactic| walk_at "kit") => `(tactic| first | exact kit_NoneType_Row (by assumption) | exact kit_bool_Row (by assumption) | exact kit_int_Row (by assumption) | exact kit_str_Row (by assumption) | exact kit_list_Row (by assumption) | exact kit_tuple_Row (by assumption) | exact kitO_Row_Row (by assumption))
local macro_rules | `(tactic| walk_at "ty") => `(tactic| exact ty_Row (by assumption))
theorem need_stretch_ok {l : List Int} {i n : Int} (h0 : 0 ≤ i) (h1 : 1 ≤ n) (h : i + n ≤ l.length) : Pure K (sp_need_stretch K w) [.d (rowD l), .d (.int i), .d (.int n)] fun t => t = .d .non := by
  refine fn_of (N := N_need_stretch) (u := 0) (fun vs H Q E h => h) rfl rfl fun G pl hB => ?_
  unfold t_need_stretch
  walk_at "w"
  refine call_eq (need_number_ok (v := i) (lo := 0) (hi := l.length - 1) (by omega) (by omega)) rfl ?_
  walk_at "w"
  refine call_eq (need_number_ok (v := n) (lo := 1) (hi := l.length - i) (by omega) (by omega)) rfl ?_
  walk_at "w"
theorem Row_part_ok {l : List Int} {i n : Int} (h0 : 0 ≤ i) (h1 : 1 ≤ n) (h : i + n ≤ l.length) (hl : l.length ≤ 48) : Pure K (sp_Row_part K w) [.d (rowD l), .d (.int i), .d (.int n)] fun t => t = .m (rowC (cut l i n)) := by
  refine fn_of (N := N_Row_part) (u := 0) (fun vs H Q E h => h) rfl rfl fun G pl hB => ?_
  have hc := cut_len h0 (by omega) h
  unfold t_Row_part
  walk_at "w"
  refine call_eq (need_stretch_ok b h0 h1 h) rfl ?_
  walk_at "w"
  rw [cutD_Li]
  refine new_eq (Row_init_t b (l := cut l i n) (by omega) (by omega)) rfl ?_
  walk_at "w"
theorem Row_sum_of_ok {l : List Int} {i n : Int} (h0 : 0 ≤ i) (h1 : 1 ≤ n) (h : i + n ≤ l.length) : Pure K (sp_Row_sum_of K w) [.d (rowD l), .d (.int i), .d (.int n)] fun t => t = .d (.int (cut l i n).sum) := by
  refine fn_of (N := N_Row_sum_of) (u := 0) (fun vs H Q E h => h) rfl rfl fun G pl hB => ?_
  unfold t_Row_sum_of
  walk_at "w"
  refine call_eq (need_stretch_ok b h0 h1 h) rfl ?_
  walk_at "w"
  refine o_ix rfl (atI_Li (hts_at l (by omega) h)) ?_
  walk_at "w"
  refine o_ix rfl (atI_Li (hts_at l h0 (by omega))) ?_
  walk_at "w"
  exact ⟨rfl, by rw [cut_sum h0 (by omega) h], rfl⟩
theorem Row_len_ok {l : List Int} : Pure K (sp_Row_len K w) [.d (rowD l)] fun t => t = .d (.int l.length) := by
  refine fn_of (N := N_Row_len) (u := 0) (fun vs H Q E h => h) rfl rfl fun G pl hB => ?_
  unfold t_Row_len
  walk_at "w"
theorem Row_eq_ok {l m : List Int} : Pure K (sp_Row_eq K w) [.d (rowD l), .d (rowD m)] fun t => t = .d (.bl (decide (l = m))) := by
  refine fn_of (N := N_Row_eq) (u := 0) (fun vs H Q E h => h) rfl rfl fun G pl hB => ?_
  unfold t_Row_eq
  walk_at "w"
  refine o_eqT ?_
  walk_at "w"
theorem Row_eq_t {l m : List Int} : Pure K (sp_Row_eq K w) [.d (rowD l), .d (.tup (Li m))] fun t => t = .d (.bl false) := by
  refine fn_of (N := N_Row_eq) (u := 0) (fun vs H Q E h => h) rfl rfl fun G pl hB => ?_
  unfold t_Row_eq
  walk_at "w"
theorem Row_eq_l {l m : List Int} : Pure K (sp_Row_eq K w) [.d (rowD l), .d (.lst (Li m))] fun t => t = .d (.bl false) := by
  refine fn_of (N := N_Row_eq) (u := 0) (fun vs H Q E h => h) rfl rfl fun G pl hB => ?_
  unfold t_Row_eq
  walk_at "w"
theorem Row_eq_s {l : List Int} {z : Str} : Pure K (sp_Row_eq K w) [.d (rowD l), .d (.str z)] fun t => t = .d (.bl false) := by
  refine fn_of (N := N_Row_eq) (u := 0) (fun vs H Q E h => h) rfl rfl fun G pl hB => ?_
  unfold t_Row_eq
  walk_at "w"
end
end K04

set_option Elab.async false
set_option linter.all false
set_option maxRecDepth 100000
set_option maxHeartbeats 4000000
namespace K04
open PySem PySem.Spec PyProof.Rows L2 Rl RZ RT Dl
local macro_rules | `(tactic| walk_at "fact") => `(tactic| fail)
local macro_rules | `(tactic| walk_at "num") => `(tactic| first | decide | omega | assumption)
local macro_rules | `(tactic| walk_at "kit") => `(tactic| fail)
local macro_rules | `(tactic| walk_at "ty") => `(tactic| fail)
local macro_rules | `(tactic| walk_at "kb") => `(tactic| first | exact kb_NoneType_int | exact kb_NoneType_bool | exact kb_NoneType_str | exact kb_NoneType_list | exact kb_NoneType_tuple | exact kb_NoneType_dict | exact kb_bool_int | exact kb_bool_bool | exact kb_bool_str | exact kb_bool_list | exact kb_bool_tuple | exact kb_bool_dict | exact kb_int_int | exact kb_int_bool | exact kb_int_str | exact kb_int_list | exact kb_int_tuple | exact kb_int_dict | exact kb_str_int | exact kb_str_bool | exact kb_str_str | exact kb_str_list | exact kb_str_tuple | exact kb_str_dict | exact kb_list_int | exact kb_list_bool | exact kb_list_str | exact kb_list_list | exact kb_list_tuple | exact kb_list_dict | exact kb_tuple_int | exact kb_tuple_bool | exact kb_tuple_str | exact kb_tuple_list | exact kb_tuple_tuple | exact kb_tuple_dict)
local macro_rules | `(tactic| walk_at "k2") => `(tactic| first | exact k2_list | exact k2_tuple | exact k2_int | exact k2_str | exact k2_bool | exact k2_NoneType)
local macro_rules | `(tactic| walk_at "call") => `(tactic| fail)
local macro_rules | `(tactic| walk_at "cl") => `(tactic| dsimp only [toD, fzT, upR, List.map, List.set, List.getD, List.getElem?_cons_zero, List.getElem?_cons_succ, Option.getD, List.append, List.cons_append, List.nil_append, wipeS, argsOf, retT, toS, OC.toD, List.replicate, Bool.not_true, Bool.not_false, Dl.isNon, Int.reduceToNat])
local macro_rules | `(tactic| walk_at "s") => `(tactic| with_reducible first
  | apply wps_seq
  | apply wps_asg
  | apply wps_drop
  | apply wps_ret
  | apply wps_retN
  | (apply wps_next; try dsimp only)
  | (apply wps_brk; try dsimp only)
  | (apply wps_cont; try dsimp only)
  | apply wps_if
  | apply wps_fld2
  | (apply wp_var; (· with_unfolding_all rfl))
  | apply wp_int
  | apply wp_str
  | apply wp_bl
  | apply wp_non
  | apply wp_ty
  | apply wp_cls
  | apply wp_op
  | apply wp_un
  | (apply wp_isi2)
  | apply wp_cb
  | apply wp_tup
  | apply wp_lst
  | apply wp_if
  | apply wp_orT
  | apply wp_andT
  | apply wp_notT
  | apply wp_fld
  | apply wp_chain
  | apply wp_sl
  | apply wpa_cons
  | apply wpa_nil
  | apply wpad_cons
  | apply wpad_nil
  | apply wpd_of
  | apply wpo_none
  | apply wpo_some
  | apply wpt_test
  | apply wpt_B
  | apply wpt_tru
  | apply wpt_and
  | apply wpt_or
  | apply wpt_not
  | apply wp_fn
  | apply wp_fnK
  | apply wp_mt
  | apply wp_mtK
  | apply wp_new
  | apply wp_newK
  | apply wpc_p
  | apply wpc_k
  | apply wpc_pk
  | (apply wpg_name; (· assumption); (· with_unfolding_all rfl); (· with_unfolding_all rfl); (· with_unfolding_all rfl))
  | (refine wpg_tup ?_ ?_; (· with_unfolding_all rfl))
  | apply wpg_sub
  | apply wpgs_cons
  | apply wpgs_nil
  | apply wpt_yes
  | (refine turn ?_ ?_; (· with_unfolding_all rfl))
  | apply wps_forW
  | (apply wp_lcW; (· assumption); (· with_unfolding_all rfl); (· walk_at "gin"))
  | apply wpi_r1
  | apply wpi_r2
  | apply wpi_zip
  | apply wpi_enum
  | apply wp_append
  | apply wp_extend
  | apply br_t
  | apply br_f
  | apply br_nt
  | apply br_nf)
local macro_rules | `(tactic| walk_at "gin") => `(tactic| first | exact gin_name rfl | exact gin_tup (gin_cons (gin_name rfl) (gin_cons (gin_name rfl) gin_nil)) | exact gin_tup (gin_cons (gin_name rfl) (gin_cons (gin_name rfl) (gin_cons (gin_name rfl) gin_nil))))
local macro_rules | `(tactic| walk_at "it") => `(tactic| first
  | (with_reducible apply wpi_lst; walk_at "w"; with_reducible first | show ForOk _ _ _ _ _ _ | show LcOk _ _ _ _ _ _ _ _)
  | (with_reducible apply wpi_tup; walk_at "w"; with_reducible first | show ForOk _ _ _ _ _ _ | show LcOk _ _ _ _ _ _ _ _))
local macro_rules | `(tactic| walk_at "o") => `(tactic| with_reducible first
  | apply o_add
  | apply o_sub
  | apply o_lt
  | apply o_le
  | apply o_gt
  | apply o_ge
  | apply o_eqi
  | apply o_nei
  | apply o_eqs
  | apply o_nes
  | apply o_neg
  | (apply op2_or1; first | apply o_eqi | apply o_nei | apply o_eqs | apply o_nes)
  | apply a_int
  | apply a_abs
  | (refine o_md ?_ ?_; (· with_unfolding_all walk_at "num"))
  | (apply o_fd; (· with_unfolding_all walk_at "num"); (· exact small_log (by omega) (by omega)))
  | (apply o_mul; (· with_unfolding_all first | exact cmul_l (by omega) (by omega) | exact cmul_r (by omega) (by omega)))
  | (apply o_pw; (· with_unfolding_all exact cpow_ok (by omega) (by omega) (by omega)))
  | (apply o_ix; (· with_unfolding_all rfl); (· with_unfolding_all rfl))
  | apply a_intb
  | (apply o_is; (· with_unfolding_all rfl))
  | (apply o_isn; (· with_unfolding_all rfl))
  | (apply a_lenL; (· with_unfolding_all rfl))
  | (apply opa_or1; apply a_lenL; (· with_unfolding_all rfl))
  | (apply a_len; (· with_unfolding_all rfl))
  | (apply opa_or1; apply a_len; (· with_unfolding_all rfl))
  | (apply a_tuple; (· with_unfolding_all rfl))
  | apply a_tupleT
  | (apply a_list; (· with_unfolding_all rfl))
  | (apply a_isi; (· with_unfolding_all rfl); (· walk_at "kb"))
  | (apply a_isiO; (· with_unfolding_all rfl); (· walk_at "kit"))
  | (apply a_isiI; (· with_unfolding_all rfl); (· walk_at "ty"); (· walk_at "kit")))
local macro_rules | `(tactic| walk_at "e") => `(tactic| first
  | (refine ⟨_, _, _, _, rfl, ?_, ?_, rfl, ?_⟩; (· walk_at "fact"); (· walk_at "fact"))
  | (refine ⟨_, _, _, _, rfl, rfl, ?_, ?_, Nat.le_of_ble_eq_true rfl, rfl, Or.inl ⟨rfl, ?_⟩⟩; (· walk_at "fact"); (· walk_at "fact"))
  | (refine ⟨_, _, _, _, rfl, rfl, ?_, ?_, Nat.le_of_ble_eq_true rfl, rfl, Or.inr ⟨0, rfl, ?_⟩⟩; (· walk_at "fact"); (· walk_at "fact"))
  | (refine ⟨_, _, _, _, rfl, rfl, ?_, ?_, Nat.le_of_ble_eq_true rfl, rfl, Or.inr ⟨1, rfl, ?_⟩⟩; (· walk_at "fact"); (· walk_at "fact"))
  | (refine ⟨_, _, _, _, rfl, rfl, ?_, ?_, Nat.le_of_ble_eq_true rfl, rfl, Or.inr ⟨2, rfl, ?_⟩⟩; (· walk_at "fact"); (· walk_at "fact"))
  | (refine ⟨_, _, _, _, rfl, rfl, ?_, ?_, Nat.le_of_ble_eq_true rfl, rfl, Or.inr ⟨3, rfl, ?_⟩⟩; (· walk_at "fact"); (· walk_at "fact"))
  | (refine ⟨_, _, _, _, rfl, rfl, ?_, ?_, Nat.le_of_ble_eq_true rfl, rfl, Or.inr ⟨4, rfl, ?_⟩⟩; (· walk_at "fact"); (· walk_at "fact"))
  | refine ⟨rfl, rfl, rfl, ?_⟩
  | (refine ⟨rfl, rfl, ⟨by decide, by decide⟩, ?_⟩)
  | (refine ⟨_, _, rfl, ?_, ?_⟩; (· walk_at "k2"))
  | refine ⟨_, _, _, rfl, rfl, rfl, ?_⟩
  | (refine ⟨_, _, rfl, rfl, ?_⟩)
  | (refine ⟨_, rfl, ⟨by omega, by omega⟩, ?_⟩)
  | (refine ⟨_, rfl, ⟨_, rfl⟩, ?_⟩)
  | (refine ⟨_, rfl, ?_⟩)
  | refine Or.inl ⟨_, _, rfl, rfl, ?_⟩
  | refine Or.inr ⟨_, _, rfl, rfl, ?_⟩
  | refine Or.inl ⟨_, rfl, ?_⟩
  | refine Or.inr (Or.inl ⟨_, rfl, ?_⟩)
  | exact ⟨rfl, rfl⟩
  | exact ⟨rfl, rfl, rfl⟩
  | (refine ⟨Nat.le_of_ble_eq_true rfl, ?_⟩))
local macro_rules | `(tactic| walk_at "b") => `(tactic| with_reducible first
  | (refine br_p ?_ ?_; (· with_unfolding_all walk_at "num"))
  | (refine br_n ?_ ?_; (· with_unfolding_all walk_at "num"))
  | (refine nbr_p ?_ ?_; (· with_unfolding_all walk_at "num"))
  | (refine nbr_n ?_ ?_; (· with_unfolding_all walk_at "num")))
local macro_rules | `(tactic| walk_at "x") => `(tactic| first | walk_at "s" | walk_at "o" | walk_at "call" | walk_at "b" | walk_at "e" | walk_at "it" | walk_at "cl")
local macro_rules | `(tactic| walk_at "w") => `(tactic| repeat walk_at "x")
section
variable {K : PySem.W.Frag} {w : World} {mg : Str → Option Value}
local macro_rules | `(tactic| walk_at "call") => `(tactic| first
  | (apply call_eq is_integer_ok; (· rfl)))
theorem law_heights_ok {l : List Int} (hl : l.length < 1000000) : Pure K (sp_law_heights K w) [.d (.lst (Li l))] fun t => t = .m (.lst (Li (hts l))) := by
  have hz := sizeLine_eq
  refine fn_of (N := N_law_heights) (u := 3) (fun vs H Q E h => h) rfl rfl fun G pl hB => ?_
  unfold t_law_heights
  apply wps_seq
  refine wps_par hB rfl rfl (by decide) ?_
  walk_at "w"
  refine ⟨_, _, _, _, rfl, rfl, rfl, ?_⟩
  walk_at "w"
  refine for_ok (fun i ρ => ∃ s, ρ = [.d (.lst (Li l)), .m (.lst (Li (hts (l.take i)))), .d (.int (l.take i).sum), s] ∧ i ≤ l.length) ⟨_, rfl, Nat.zero_le _⟩ (fun i x ρ2 hx ⟨s, e, hi⟩ => ?_) (fun ρ2 ⟨s, e, hi⟩ => ?_)
  · subst e
    obtain ⟨j, hj, rfl⟩ := get_Li hx
    have hi := (List.getElem?_eq_some_iff.mp hj).1
    walk_at "w"
    refine ⟨?_, S.d (.int j), ?_, hi⟩
    · rw [Li_len, hts_len, List.length_take]; omega
    · rw [List.take_succ, hj]
      show _ = [_, S.m (.lst (Li (hts (_ ++ [j])))), S.d (.int (_ ++ [j]).sum), _]
      rw [hts_app, ← Li_app, List.sum_append]
      simp
  · subst e
    rw [Li_len, List.take_length]
    walk_at "w"
theorem law_tap_ok {l : List Int} : Pure K (sp_law_tap K w) [.d (.lst (Li l))] fun t => t = .m (.lst [.lst (Li (Dl.cutD l none (some 60))), .int 0, .int 0]) := by
  have hz := sizeLine_eq
  have h60 : (Dl.cutD l none (some 60)).length ≤ 60 := by
    unfold Dl.cutD HT.sIx
    simp only [List.length_take, List.length_drop]
    rw [if_neg (by omega)]
    omega
  refine fn_of (N := N_law_tap) (u := 1) (fun vs H Q E h => h) rfl rfl fun G pl hB => ?_
  unfold t_law_tap
  walk_at "w"
  rw [cutD_Li]
  walk_at "w"
  refine lc_map id rfl rfl (by rw [Li_len]; omega) (fun x hx => ?_) ?_
  · obtain ⟨j, _, rfl⟩ := mem_Li hx
    walk_at "w"
  · rw [List.map_id]
    walk_at "w"
/-- the tap -/
abbrev tapC (cells : List Int) (p dg : Int) : OC := .lst [.lst (Li cells), .int p, .int dg]
theorem pw_ok {m a : Int} (h0 : 0 ≤ m) (h1 : m < 2147483587) (h2 : 0 ≤ a) (h3 : a ≤ 1048576) : (m * (2 * a + 2411) + 63029 * a * a + 93601).natAbs < 2 ^ 64 := by
  have e1 : m * (2 * a + 2411) ≤ 2147483587 * (2 * 1048576 + 2411) := Int.mul_le_mul (by omega) (by omega) (by omega) (by omega)
  have e2 : 0 ≤ m * (2 * a + 2411) := Int.mul_nonneg h0 (by omega)
  have e3 : 63029 * a * a ≤ (63029 * 1048576) * 1048576 := Int.mul_le_mul (by omega) h3 h2 (by omega)
  have e4 : 0 ≤ 63029 * a * a := Int.mul_nonneg (by omega) h2
  omega
theorem law_drip_ok {cells : List Int} {p dg many : Int} (hm : 0 < many) (hm2 : many < 1000000) (hp : 0 ≤ p) (hp2 : p ≤ 1048576) (hc : cells.length ≤ 1000) : Fn K (sp_law_drip K w) [.m (tapC cells p dg), .d (.int many)] fun t as' => ∃ r p' dg', t = .d (.int r) ∧ 0 ≤ r ∧ r < many ∧ as' = [.m (tapC cells p' dg'), .d (.int many)] ∧ p ≤ p' ∧ p' ≤ p + 1 := by
  have hz := sizeLine_eq
  refine fn_of (N := N_law_drip) (u := 5) (fun vs H Q E h => h) rfl rfl fun G pl hB => ?_
  unfold t_law_drip
  walk_at "w"
  refine br_d (fun hd => ?_) (fun hd => ?_)
  · walk_at "w"
    exact ⟨rfl, _, _, _, rfl, Int.emod_nonneg _ (by omega), Int.emod_lt_of_pos _ hm, rfl, by omega, by omega⟩
  · walk_at "w"
    refine op2_or1 (o_neL (l := cells) (m := []) rfl rfl ?_)
    walk_at "w"
    refine nbr_d (fun hx => ?_) (fun hx => ?_)
    · walk_at "w"
      refine br_d (fun h1 => ?_) (fun h1 => ?_)
      · walk_at "w"
        refine br_d (fun h2 => ?_) (fun h2 => ?_)
        · walk_at "w"
          exact ⟨rfl, _, _, _, rfl, Int.emod_nonneg _ (by omega), Int.emod_lt_of_pos _ hm, rfl, by omega, by omega⟩
        · walk_at "w"
          refine o_pw (cpow_ok (by omega) (by omega) (pw_ok (Int.emod_nonneg _ (by decide)) (Int.emod_lt_of_pos _ (by decide)) hp hp2)) ?_
          walk_at "w"
          exact ⟨rfl, _, _, _, rfl, Int.emod_nonneg _ (by omega), Int.emod_lt_of_pos _ hm, rfl, by omega, by omega⟩
      · walk_at "w"
        refine o_pw (cpow_ok (by omega) (by omega) (pw_ok (Int.emod_nonneg _ (by decide)) (Int.emod_lt_of_pos _ (by decide)) hp hp2)) ?_
        walk_at "w"
        exact ⟨rfl, _, _, _, rfl, Int.emod_nonneg _ (by omega), Int.emod_lt_of_pos _ hm, rfl, by omega, by omega⟩
    · have hcl : 0 < cells.length := List.length_pos_iff.mpr hx
      walk_at "w"
      refine o_ix rfl (atI_Li (atI_nn (Int.emod_nonneg _ (by omega)) (Int.emod_lt_of_pos _ (by omega)))) ?_
      walk_at "w"
      refine br_d (fun h1 => ?_) (fun h1 => ?_)
      · walk_at "w"
        refine br_d (fun h2 => ?_) (fun h2 => ?_)
        · walk_at "w"
          exact ⟨rfl, _, _, _, rfl, Int.emod_nonneg _ (by omega), Int.emod_lt_of_pos _ hm, rfl, by omega, by omega⟩
        · walk_at "w"
          refine o_pw (cpow_ok (by omega) (by omega) (pw_ok (Int.emod_nonneg _ (by decide)) (Int.emod_lt_of_pos _ (by decide)) hp hp2)) ?_
          walk_at "w"
          exact ⟨rfl, _, _, _, rfl, Int.emod_nonneg _ (by omega), Int.emod_lt_of_pos _ hm, rfl, by omega, by omega⟩
      · walk_at "w"
        refine o_pw (cpow_ok (by omega) (by omega) (pw_ok (Int.emod_nonneg _ (by decide)) (Int.emod_lt_of_pos _ (by decide)) hp hp2)) ?_
        walk_at "w"
        exact ⟨rfl, _, _, _, rfl, Int.emod_nonneg _ (by omega), Int.emod_lt_of_pos _ hm, rfl, by omega, by omega⟩
theorem law_any_ok {cells : List Int} {p dg : Int} {xs : List D} (hx : 0 < xs.length) (hx2 : xs.length < 1000000) (hp : 0 ≤ p) (hp2 : p ≤ 1048576) (hc : cells.length ≤ 1000) : Fn K (sp_law_any K w) [.m (tapC cells p dg), .d (.lst xs)] fun t as' => ∃ r p' dg', r ∈ xs ∧ t = .d r ∧ as' = [.m (tapC cells p' dg'), .d (.lst xs)] ∧ p ≤ p' ∧ p' ≤ p + 1 := by
  refine fn_of (N := N_law_any) (u := 0) (fun vs H Q E h => h) rfl rfl fun G pl hB => ?_
  unfold t_law_any
  walk_at "w"
  refine call_of (law_drip_ok (cells := cells) (p := p) (dg := dg) (many := xs.length) (by omega) (by omega) hp hp2 hc) rfl fun t as' h => ?_
  obtain ⟨r, p', dg', rfl, h1, h2, rfl, h3, h4⟩ := h
  refine ⟨rfl, ?_⟩
  walk_at "w"
  refine o_ix rfl (atI_nn h1 h2) ?_
  walk_at "w"
  exact ⟨rfl, _, _, _, List.getElem_mem _, rfl, rfl, h3, h4⟩
end
end K04

set_option Elab.async false
set_option linter.all false
set_option maxRecDepth 100000
set_option maxHeartbeats 4000000
namespace K04
open PySem PySem.Spec PyProof.Rows L2 Rl RZ RT Dl
local macro_rules | `(tactic| walk_at "fact") => `(tactic| fail)
local macro_rules | `(tactic| walk_at "num") => `(tactic| first | decide | omega | assumption)
local macro_rules | `(tactic| walk_at "kit") => `(tactic| fail)
local macro_rules | `(tactic| walk_at "ty") => `(tactic| fail)
local macro_rules | `(tactic| walk_at "kb") => `(tactic| first | exact kb_NoneType_int | exact kb_NoneType_bool | exact kb_NoneType_str | exact kb_NoneType_list | exact kb_NoneType_tuple | exact kb_NoneType_dict | exact kb_bool_int | exact kb_bool_bool | exact kb_bool_str | exact kb_bool_list | exact kb_bool_tuple | exact kb_bool_dict | exact kb_int_int | exact kb_int_bool | exact kb_int_str | exact kb_int_list | exact kb_int_tuple | exact kb_int_dict | exact kb_str_int | exact kb_str_bool | exact kb_str_str | exact kb_str_list | exact kb_str_tuple | exact kb_str_dict | exact kb_list_int | exact kb_list_bool | exact kb_list_str | exact kb_list_list | exact kb_list_tuple | exact kb_list_dict | exact kb_tuple_int | exact kb_tuple_bool | exact kb_tuple_str | exact kb_tuple_list | exact kb_tuple_tuple | exact kb_tuple_dict)
local macro_rules | `(tactic| walk_at "k2") => `(tactic| first | exact k2_list | exact k2_tuple | exact k2_int | exact k2_str | exact k2_bool | exact k2_NoneType)
local macro_rules | `(tactic| walk_at "call") => `(tactic| fail)
local macro_rules | `(tactic| walk_at "cl") => `(tactic| dsimp only [toD, fzT, upR, List.map, List.set, List.getD, List.getElem?_cons_zero, List.getElem?_cons_succ, Option.getD, List.append, List.cons_append, List.nil_append, wipeS, argsOf, retT, toS, OC.toD, List.replicate, Bool.not_true, Bool.not_false, Dl.isNon, Int.reduceToNat])
local macro_rules | `(tactic| walk_at "s") => `(tactic| with_reducible first
  | apply wps_seq
  | apply wps_asg
  | apply wps_drop
  | apply wps_ret
  | apply wps_retN
  | (apply wps_next; try dsimp only)
  | (apply wps_brk; try dsimp only)
  | (apply wps_cont; try dsimp only)
  | apply wps_if
  | apply wps_fld2
  | (apply wp_var; (· with_unfolding_all rfl))
  | apply wp_int
  | apply wp_str
  | apply wp_bl
  | apply wp_non
  | apply wp_ty
  | apply wp_cls
  | apply wp_op
  | apply wp_un
  | (apply wp_isi2)
  | apply wp_cb
  | apply wp_tup
  | apply wp_lst
  | apply wp_if
  | apply wp_orT
  | apply wp_andT
  | apply wp_notT
  | apply wp_fld
  | apply wp_chain
  | apply wp_sl
  | apply wpa_cons
  | apply wpa_nil
  | apply wpad_cons
  | apply wpad_nil
  | apply wpd_of
  | apply wpo_none
  | apply wpo_some
  | apply wpt_test
  | apply wpt_B
  | apply wpt_tru
  | apply wpt_and
  | apply wpt_or
  | apply wpt_not
  | apply wp_fn
  | apply wp_fnK
  | apply wp_mt
  | apply wp_mtK
  | apply wp_new
  | apply wp_newK
  | apply wpc_p
  | apply wpc_k
  | apply wpc_pk
  | (apply wpg_name; (· assumption); (· with_unfolding_all rfl); (· with_unfolding_all rfl); (· with_unfolding_all rfl))
  | (refine wpg_tup ?_ ?_; (· with_unfolding_all rfl))
  | apply wpg_sub
  | apply wpgs_cons
  | apply wpgs_nil
  | apply wpt_yes
  | (refine turn ?_ ?_; (· with_unfolding_all rfl))
  | apply wps_forW
  | (apply wp_lcW; (· assumption); (· with_unfolding_all rfl); (· walk_at "gin"))
  | apply wpi_r1
  | apply wpi_r2
  | apply wpi_zip
  | apply wpi_enum
  | apply wp_join
  | apply wp_append
  | apply wp_extend
  | apply br_t
  | apply br_f
  | apply br_nt
  | apply br_nf)
local macro_rules | `(tactic| walk_at "gin") => `(tactic| first | exact gin_name rfl | exact gin_tup (gin_cons (gin_name rfl) (gin_cons (gin_name rfl) gin_nil)) | exact gin_tup (gin_cons (gin_name rfl) (gin_cons (gin_name rfl) (gin_cons (gin_name rfl) gin_nil))))
local macro_rules | `(tactic| walk_at "it") => `(tactic| first
  | (with_reducible apply wpi_lst; walk_at "w"; with_reducible first | show ForOk _ _ _ _ _ _ | show LcOk _ _ _ _ _ _ _ _)
  | (with_reducible apply wpi_tup; walk_at "w"; with_reducible first | show ForOk _ _ _ _ _ _ | show LcOk _ _ _ _ _ _ _ _))
local macro_rules | `(tactic| walk_at "o") => `(tactic| with_reducible first
  | apply o_add
  | apply o_sub
  | apply o_lt
  | apply o_le
  | apply o_gt
  | apply o_ge
  | apply o_eqi
  | apply o_nei
  | apply o_eqs
  | apply o_nes
  | apply o_neg
  | (apply op2_or1; first | apply o_eqi | apply o_nei | apply o_eqs | apply o_nes)
  | apply a_int
  | apply a_abs
  | (refine o_md ?_ ?_; (· with_unfolding_all walk_at "num"))
  | (apply o_fd; (· with_unfolding_all walk_at "num"); (· exact small_log (by omega) (by omega)))
  | (apply o_mul; (· with_unfolding_all first | exact cmul_l (by omega) (by omega) | exact cmul_r (by omega) (by omega)))
  | (apply o_pw; (· with_unfolding_all exact cpow_ok (by omega) (by omega) (by omega)))
  | (apply o_ix; (· with_unfolding_all rfl); (· with_unfolding_all rfl))
  | apply a_intb
  | (apply o_is; (· with_unfolding_all rfl))
  | (apply o_isn; (· with_unfolding_all rfl))
  | (apply a_lenL; (· with_unfolding_all rfl))
  | (apply opa_or1; apply a_lenL; (· with_unfolding_all rfl))
  | (apply a_len; (· with_unfolding_all rfl))
  | (apply opa_or1; apply a_len; (· with_unfolding_all rfl))
  | (apply a_tuple; (· with_unfolding_all rfl))
  | apply a_tupleT
  | (apply a_list; (· with_unfolding_all rfl))
  | (apply a_isi; (· with_unfolding_all rfl); (· walk_at "kb"))
  | (apply a_isiO; (· with_unfolding_all rfl); (· walk_at "kit"))
  | (apply a_isiI; (· with_unfolding_all rfl); (· walk_at "ty"); (· walk_at "kit")))
local macro_rules | `(tactic| walk_at "e") => `(tactic| first
  | (refine ⟨_, _, _, _, rfl, ?_, ?_, rfl, ?_⟩; (· walk_at "fact"); (· walk_at "fact"))
  | (refine ⟨_, _, _, _, rfl, rfl, ?_, ?_, Nat.le_of_ble_eq_true rfl, rfl, Or.inl ⟨rfl, ?_⟩⟩; (· walk_at "fact"); (· walk_at "fact"))
  | (refine ⟨_, _, _, _, rfl, rfl, ?_, ?_, Nat.le_of_ble_eq_true rfl, rfl, Or.inr ⟨0, rfl, ?_⟩⟩; (· walk_at "fact"); (· walk_at "fact"))
  | (refine ⟨_, _, _, _, rfl, rfl, ?_, ?_, Nat.le_of_ble_eq_true rfl, rfl, Or.inr ⟨1, rfl, ?_⟩⟩; (· walk_at "fact"); (· walk_at "fact"))
  | (refine ⟨_, _, _, _, rfl, rfl, ?_, ?_, Nat.le_of_ble_eq_true rfl, rfl, Or.inr ⟨2, rfl, ?_⟩⟩; (· walk_at "fact"); (· walk_at "fact"))
  | (refine ⟨_, _, _, _, rfl, rfl, ?_, ?_, Nat.le_of_ble_eq_true rfl, rfl, Or.inr ⟨3, rfl, ?_⟩⟩; (· walk_at "fact"); (· walk_at "fact"))
  | (refine ⟨_, _, _, _, rfl, rfl, ?_, ?_, Nat.le_of_ble_eq_true rfl, rfl, Or.inr ⟨4, rfl, ?_⟩⟩; (· walk_at "fact"); (· walk_at "fact"))
  | refine ⟨rfl, rfl, rfl, ?_⟩
  | (refine ⟨rfl, rfl, ⟨by decide, by decide⟩, ?_⟩)
  | (refine ⟨_, _, rfl, ?_, ?_⟩; (· walk_at "k2"))
  | refine ⟨_, _, _, rfl, rfl, rfl, ?_⟩
  | (refine ⟨_, _, rfl, rfl, ?_⟩)
  | (refine ⟨_, rfl, ⟨by omega, by omega⟩, ?_⟩)
  | (refine ⟨_, rfl, ⟨_, rfl⟩, ?_⟩)
  | (refine ⟨_, rfl, ?_⟩)
  | refine Or.inl ⟨_, _, rfl, rfl, ?_⟩
  | refine Or.inr ⟨_, _, rfl, rfl, ?_⟩
  | refine Or.inl ⟨_, rfl, ?_⟩
  | refine Or.inr (Or.inl ⟨_, rfl, ?_⟩)
  | exact ⟨rfl, rfl⟩
  | exact ⟨rfl, rfl, rfl⟩
  | (refine ⟨Nat.le_of_ble_eq_true rfl, ?_⟩))
local macro_rules | `(tactic| walk_at "b") => `(tactic| with_reducible first
  | (refine br_p ?_ ?_; (· with_unfolding_all walk_at "num"))
  | (refine br_n ?_ ?_; (· with_unfolding_all walk_at "num"))
  | (refine nbr_p ?_ ?_; (· with_unfolding_all walk_at "num"))
  | (refine nbr_n ?_ ?_; (· with_unfolding_all walk_at "num")))
local macro_rules | `(tactic| walk_at "x") => `(tactic| first | walk_at "s" | walk_at "o" | walk_at "call" | walk_at "b" | walk_at "e" | walk_at "it" | walk_at "cl")
local macro_rules | `(tactic| walk_at "w") => `(tactic| repeat walk_at "x")
def strF : D → D
  | .int i => .str (toString i)
  | x => x
abbrev strs_ (l : List Int) : List Str := l.map fun i => (toString i : Str)
theorem join_ok {l : List Int} (h1 : l.length ≤ 48) (hb : ∀ x ∈ l, x.natAbs < 10 ^ 40) : ((strs_ l).map (·.length)).sum + (strs_ l).length * (" " : Str).length ≤ 16777216 := by
  have e : ∀ l : List Int, (∀ x ∈ l, x.natAbs < 10 ^ 40) → ((strs_ l).map (·.length)).sum ≤ l.length * 41 := fun l => by
    induction l with
    | nil => intro _; simp
    | cons x l ih =>
      intro h
      have h1 := str_len (h x (by simp))
      have h2 := ih fun y hy => h y (by simp [hy])
      simp only [strs_, List.map_cons, List.sum_cons, List.length_cons] at h1 h2 ⊢
      omega
  have e1 := e l hb
  have e2 : (" " : Str).length = 1 := by decide
  rw [e2]
  simp only [strs_, List.length_map] at *
  omega
def subF : D → D
  | .tup [.int a, .int b] => .int (b - a)
  | x => x
theorem zip_hs : ∀ (s : Int) (l : List Int), (zipD (Li (hs s l)) ((Li (hs s l)).drop 1)).map subF = Li l
  | s, [] => rfl
  | s, x :: l => by
    have z := zip_hs (s + x) l
    have e : ∃ r, hs (s + x) l = (s + x) :: r := by cases l <;> exact ⟨_, rfl⟩
    obtain ⟨r, e⟩ := e
    rw [e] at z
    simp only [hs, e, Li, List.map_cons, List.drop_succ_cons, List.drop_zero, zipD, List.map_cons] at z ⊢
    rw [z]
    show D.int (s + x - s) :: _ = _
    rw [show s + x - s = x by omega]
theorem zip_mem {xs ys : List Int} {x : D} (h : x ∈ zipD (Li xs) (Li ys)) : ∃ a b, x = .tup [.int a, .int b] := by
  obtain ⟨i, hi⟩ := List.mem_iff_getElem?.mp h
  obtain ⟨u, v, h1, h2, rfl⟩ := zipD_get hi
  obtain ⟨a, _, rfl⟩ := get_Li h1
  obtain ⟨c, _, rfl⟩ := get_Li h2
  exact ⟨a, c, rfl⟩
theorem cut1 {α : Type} (xs : List α) : Dl.cutD xs (some 1) none = xs.drop 1 := by
  unfold Dl.cutD HT.sIx
  simp only []
  rw [if_neg (by omega), List.take_of_length_le (by rw [List.length_drop]; omega)]
  by_cases h : 1 ≤ xs.length
  · rw [show min (1 : Int).toNat xs.length = 1 by omega]
  · have : xs = [] := List.length_eq_zero_iff.mp (by omega)
    subst this; simp
section
variable {K : PySem.W.Frag} {w : World} {mg : Str → Option Value}
local macro_rules | `(tactic| walk_at "call") => `(tactic| first
  | (apply call_eq is_integer_ok; (· rfl)))
variable (b : Bd K mg)
include b
local macro_rules | `(tactic| walk_at "fact") => `(tactic| first | exact cl_Row (by assumption) | exact na_Row_gains (by assumption) | exact na_Row_heights (by assumption) | exact na_Row_days (by assumption) | exact na_Row_total (by assumption))
local macro_rules | `(tactic| walk_at "kit") => `(tactic| first | exact kit_NoneType_Row (by assumption) | exact kit_bool_Row (by assumption) | exact kit_int_Row (by assumption) | exact kit_str_Row (by assumption) | exact kit_list_Row (by assumption) | exact kit_tuple_Row (by assumption) | exact kitO_Row_Row (by assumption))
local macro_rules | `(tactic| walk_at "ty") => `(tactic| exact ty_Row (by assumption))

theorem Row_str_ok {l : List Int} (h1 : l.length ≤ 48) (hb : ∀ x ∈ l, x.natAbs < 10 ^ 40) : Pure K (sp_Row_str K w) [.d (rowD l)] fun t => t = .d (.str (Txt.join " " (strs_ l))) := by
  have hz := sizeLine_eq
  refine fn_of (N := N_Row_str) (u := 1) (fun vs H Q E h => h) rfl rfl fun G pl hB => ?_
  unfold t_Row_str
  walk_at "w"
  refine lc_map strF rfl rfl (by rw [Li_len]; omega) (fun x hx => ?_) ?_
  · obtain ⟨j, hj, rfl⟩ := mem_Li hx
    walk_at "w"
    refine a_str (str_log (hb j hj)) ?_
    walk_at "w"
  · rw [map_Ls (g := fun i => (toString i : Str)) fun i => rfl]
    walk_at "w"
    refine ⟨join_ok h1 hb, ?_⟩
    walk_at "w"
theorem Row_of_l {l : List Int} (h0 : 0 < l.length) (h1 : l.length ≤ 48) : Pure K (sp_Row_of K w) [.d (.lst (Li (hts l)))] fun t => t = .m (rowC l) := by
  have hz := sizeLine_eq
  have hh := hts_len l
  refine fn_of (N := N_Row_of) (u := 2) (fun vs H Q E h => h) rfl rfl fun G pl hB => ?_
  unfold t_Row_of
  walk_at "w"
  refine call_eq (are_integers_l (l := hts l) (by omega)) rfl ?_
  walk_at "w"
  refine o_ix rfl (atI_Li (hts_at l (i := 0) (by omega) (by omega))) ?_
  walk_at "w"
  refine nbr_p rfl ?_
  walk_at "w"
  rw [cut1]
  refine lc_map subF rfl rfl (by rw [zipD_len, Li_len]; omega) (fun x hx => ?_) ?_
  · rw [← List.map_drop] at hx
    obtain ⟨a, c, rfl⟩ := zip_mem hx
    walk_at "w"
  · rw [show hts l = hs 0 l from rfl, zip_hs]
    walk_at "w"
    refine new_eq (Row_init_l b h0 h1) rfl ?_
    walk_at "w"
theorem Row_of_t {l : List Int} (h0 : 0 < l.length) (h1 : l.length ≤ 48) : Pure K (sp_Row_of K w) [.d (.tup (Li (hts l)))] fun t => t = .m (rowC l) := by
  have hz := sizeLine_eq
  have hh := hts_len l
  refine fn_of (N := N_Row_of) (u := 2) (fun vs H Q E h => h) rfl rfl fun G pl hB => ?_
  unfold t_Row_of
  walk_at "w"
  refine call_eq (are_integers_t (l := hts l) (by omega)) rfl ?_
  walk_at "w"
  refine o_ix rfl (atI_Li (hts_at l (i := 0) (by omega) (by omega))) ?_
  walk_at "w"
  refine nbr_p rfl ?_
  walk_at "w"
  rw [cut1]
  refine lc_map subF rfl rfl (by rw [zipD_len, Li_len]; omega) (fun x hx => ?_) ?_
  · rw [← List.map_drop] at hx
    obtain ⟨a, c, rfl⟩ := zip_mem hx
    walk_at "w"
  · rw [show hts l = hs 0 l from rfl, zip_hs]
    walk_at "w"
    refine new_eq (Row_init_l b h0 h1) rfl ?_
    walk_at "w"
end
end K04

set_option Elab.async false
set_option linter.all false
set_option maxRecDepth 100000
set_option maxHeartbeats 4000000
namespace K04
open PySem PySem.Spec PyProof.Rows L2 Rl RZ RT Dl
local macro_rules | `(tactic| walk_at "fact") => `(tactic| fail)
local macro_rules | `(tactic| walk_at "num") => `(tactic| first | decide | omega | assumption)
local macro_rules | `(tactic| walk_at "kit") => `(tactic| fail)
local macro_rules | `(tactic| walk_at "ty") => `(tactic| fail)
local macro_rules | `(tactic| walk_at "kb") => `(tactic| first | exact kb_NoneType_int | exact kb_NoneType_bool | exact kb_NoneType_str | exact kb_NoneType_list | exact kb_NoneType_tuple | exact kb_NoneType_dict | exact kb_bool_int | exact kb_bool_bool | exact kb_bool_str | exact kb_bool_list | exact kb_bool_tuple | exact kb_bool_dict | exact kb_int_int | exact kb_int_bool | exact kb_int_str | exact kb_int_list | exact kb_int_tuple | exact kb_int_dict | exact kb_str_int | exact kb_str_bool | exact kb_str_str | exact kb_str_list | exact kb_str_tuple | exact kb_str_dict | exact kb_list_int | exact kb_list_bool | exact kb_list_str | exact kb_list_list | exact kb_list_tuple | exact kb_list_dict | exact kb_tuple_int | exact kb_tuple_bool | exact kb_tuple_str | exact kb_tuple_list | exact kb_tuple_tuple | exact kb_tuple_dict)
local macro_rules | `(tactic| walk_at "k2") => `(tactic| first | exact k2_list | exact k2_tuple | exact k2_int | exact k2_str | exact k2_bool | exact k2_NoneType)
local macro_rules | `(tactic| walk_at "call") => `(tactic| fail)
local macro_rules | `(tactic| walk_at "cl") => `(tactic| dsimp only [toD, fzT, upR, List.map, List.set, List.getD, List.getElem?_cons_zero, List.getElem?_cons_succ, Option.getD, List.append, List.cons_append, List.nil_append, wipeS, argsOf, retT, toS, OC.toD, List.replicate, Bool.not_true, Bool.not_false, Dl.isNon, Int.reduceToNat])
local macro_rules | `(tactic| walk_at "s") => `(tactic| with_reducible first
  | apply wps_seq
  | apply wps_asg
  | apply wps_drop
  | apply wps_ret
  | apply wps_retN
  | (apply wps_next; try dsimp only)
  | (apply wps_brk; try dsimp only)
  | (apply wps_cont; try dsimp only)
  | apply wps_if
  | apply wps_fld2
  | (apply wp_var; (· with_unfolding_all rfl))
  | apply wp_int
  | apply wp_str
  | apply wp_bl
  | apply wp_non
  | apply wp_ty
  | apply wp_cls
  | apply wp_op
  | apply wp_un
  | (apply wp_isi2)
  | apply wp_cb
  | apply wp_tup
  | apply wp_lst
  | apply wp_if
  | apply wp_orT
  | apply wp_andT
  | apply wp_notT
  | apply wp_fld
  | apply wp_chain
  | apply wp_sl
  | apply wpa_cons
  | apply wpa_nil
  | apply wpad_cons
  | apply wpad_nil
  | apply wpd_of
  | apply wpo_none
  | apply wpo_some
  | apply wpt_test
  | apply wpt_B
  | apply wpt_tru
  | apply wpt_and
  | apply wpt_or
  | apply wpt_not
  | apply wp_fn
  | apply wp_fnK
  | apply wp_mt
  | apply wp_mtK
  | apply wp_new
  | apply wp_newK
  | apply wpc_p
  | apply wpc_k
  | apply wpc_pk
  | (apply wpg_name; (· assumption); (· with_unfolding_all rfl); (· with_unfolding_all rfl); (· with_unfolding_all rfl))
  | (refine wpg_tup ?_ ?_; (· with_unfolding_all rfl))
  | apply wpg_sub
  | apply wpgs_cons
  | apply wpgs_nil
  | apply wpt_yes
  | (refine turn ?_ ?_; (· with_unfolding_all rfl))
  | apply wps_forW
  | (apply wp_lcW; (· assumption); (· with_unfolding_all rfl); (· walk_at "gin"))
  | apply wpi_r1
  | apply wpi_r2
  | apply wpi_zip
  | apply wpi_enum
  | apply wp_join
  | apply wp_append
  | apply wp_extend
  | apply br_t
  | apply br_f
  | apply br_nt
  | apply br_nf)
local macro_rules | `(tactic| walk_at "gin") => `(tactic| first | exact gin_name rfl | exact gin_tup (gin_cons (gin_name rfl) (gin_cons (gin_name rfl) gin_nil)) | exact gin_tup (gin_cons (gin_name rfl) (gin_cons (gin_name rfl) (gin_cons (gin_name rfl) gin_nil))))
local macro_rules | `(tactic| walk_at "it") => `(tactic| first
  | (with_reducible apply wpi_lst; walk_at "w"; with_reducible first | show ForOk _ _ _ _ _ _ | show LcOk _ _ _ _ _ _ _ _)
  | (with_reducible apply wpi_tup; walk_at "w"; with_reducible first | show ForOk _ _ _ _ _ _ | show LcOk _ _ _ _ _ _ _ _))
local macro_rules | `(tactic| walk_at "o") => `(tactic| with_reducible first
  | apply o_add
  | apply o_sub
  | apply o_lt
  | apply o_le
  | apply o_gt
  | apply o_ge
  | apply o_eqi
  | apply o_nei
  | apply o_eqs
  | apply o_nes
  | apply o_neg
  | (apply op2_or1; first | apply o_eqi | apply o_nei | apply o_eqs | apply o_nes)
  | apply a_int
  | apply a_abs
  | (refine o_md ?_ ?_; (· with_unfolding_all walk_at "num"))
  | (apply o_fd; (· with_unfolding_all walk_at "num"); (· exact small_log (by omega) (by omega)))
  | (apply o_mul; (· with_unfolding_all first | exact cmul_l (by omega) (by omega) | exact cmul_r (by omega) (by omega)))
  | (apply o_pw; (· with_unfolding_all exact cpow_ok (by omega) (by omega) (by omega)))
  | (apply o_ix; (· with_unfolding_all rfl); (· with_unfolding_all rfl))
  | apply a_intb
  | (apply o_is; (· with_unfolding_all rfl))
  | (apply o_isn; (· with_unfolding_all rfl))
  | (apply a_lenL; (· with_unfolding_all rfl))
  | (apply opa_or1; apply a_lenL; (· with_unfolding_all rfl))
  | (apply a_len; (· with_unfolding_all rfl))
  | (apply opa_or1; apply a_len; (· with_unfolding_all rfl))
  | (apply a_tuple; (· with_unfolding_all rfl))
  | apply a_tupleT
  | (apply a_list; (· with_unfolding_all rfl))
  | (apply a_isi; (· with_unfolding_all rfl); (· walk_at "kb"))
  | (apply a_isiO; (· with_unfolding_all rfl); (· walk_at "kit"))
  | (apply a_isiI; (· with_unfolding_all rfl); (· walk_at "ty"); (· walk_at "kit")))
local macro_rules | `(tactic| walk_at "e") => `(tactic| first
  | (refine ⟨_, _, _, _, rfl, ?_, ?_, rfl, ?_⟩; (· walk_at "fact"); (· walk_at "fact"))
  | (refine ⟨_, _, _, _, rfl, rfl, ?_, ?_, Nat.le_of_ble_eq_true rfl, rfl, Or.inl ⟨rfl, ?_⟩⟩; (· walk_at "fact"); (· walk_at "fact"))
  | (refine ⟨_, _, _, _, rfl, rfl, ?_, ?_, Nat.le_of_ble_eq_true rfl, rfl, Or.inr ⟨0, rfl, ?_⟩⟩; (· walk_at "fact"); (· walk_at "fact"))
  | (refine ⟨_, _, _, _, rfl, rfl, ?_, ?_, Nat.le_of_ble_eq_true rfl, rfl, Or.inr ⟨1, rfl, ?_⟩⟩; (· walk_at "fact"); (· walk_at "fact"))
  | (refine ⟨_, _, _, _, rfl, rfl, ?_, ?_, Nat.le_of_ble_eq_true rfl, rfl, Or.inr ⟨2, rfl, ?_⟩⟩; (· walk_at "fact"); (· walk_at "fact"))
  | (refine ⟨_, _, _, _, rfl, rfl, ?_, ?_, Nat.le_of_ble_eq_true rfl, rfl, Or.inr ⟨3, rfl, ?_⟩⟩; (· walk_at "fact"); (· walk_at "fact"))
  | (refine ⟨_, _, _, _, rfl, rfl, ?_, ?_, Nat.le_of_ble_eq_true rfl, rfl, Or.inr ⟨4, rfl, ?_⟩⟩; (· walk_at "fact"); (· walk_at "fact"))
  | refine ⟨rfl, rfl, rfl, ?_⟩
  | (refine ⟨rfl, rfl, ⟨by decide, by decide⟩, ?_⟩)
  | (refine ⟨_, _, rfl, ?_, ?_⟩; (· walk_at "k2"))
  | refine ⟨_, _, _, rfl, rfl, rfl, ?_⟩
  | (refine ⟨_, _, rfl, rfl, ?_⟩)
  | (refine ⟨_, rfl, ⟨by omega, by omega⟩, ?_⟩)
  | (refine ⟨_, rfl, ⟨_, rfl⟩, ?_⟩)
  | (refine ⟨_, rfl, ?_⟩)
  | refine Or.inl ⟨_, _, rfl, rfl, ?_⟩
  | refine Or.inr ⟨_, _, rfl, rfl, ?_⟩
  | refine Or.inl ⟨_, rfl, ?_⟩
  | refine Or.inr (Or.inl ⟨_, rfl, ?_⟩)
  | exact ⟨rfl, rfl⟩
  | exact ⟨rfl, rfl, rfl⟩
  | (refine ⟨Nat.le_of_ble_eq_true rfl, ?_⟩))
local macro_rules | `(tactic| walk_at "b") => `(tactic| with_reducible first
  | (refine br_p ?_ ?_; (· with_unfolding_all walk_at "num"))
  | (refine br_n ?_ ?_; (· with_unfolding_all walk_at "num"))
  | (refine nbr_p ?_ ?_; (· with_unfolding_all walk_at "num"))
  | (refine nbr_n ?_ ?_; (· with_unfolding_all walk_at "num")))
local macro_rules | `(tactic| walk_at "x") => `(tactic| first | walk_at "s" | walk_at "o" | walk_at "call" | walk_at "b" | walk_at "e" | walk_at "it" | walk_at "cl")
local macro_rules | `(tactic| walk_at "w") => `(tactic| repeat walk_at "x")
theorem ix_nn {n : Nat} {i : Int} (h0 : 0 ≤ i) (h : i < n) : ixN n i = some i.toNat := by
  unfold ixN; rw [if_pos h0, if_pos h]
theorem get_rng {n i : Nat} {x : D} (h : (rngD 0 n)[i]? = some x) : i < n ∧ x = .int (i : Int) := by
  unfold rngD at h
  rw [List.getElem?_map] at h
  obtain ⟨j, h1, h2⟩ := Option.map_eq_some_iff.mp h
  obtain ⟨h3, h4⟩ := List.getElem?_eq_some_iff.mp h1
  rw [List.getElem_range] at h4
  subst h4
  exact ⟨by simpa using h3, by rw [← h2, Int.zero_add]⟩
theorem rng_len (n : Nat) : (rngD 0 n).length = n := by simp [rngD]
/-- small gains -/
abbrev Sm (l : List Int) : Prop := ∀ x ∈ l, x.natAbs < 10 ^ 22
theorem sm_app {l : List Int} {x : Int} (h : Sm l) (hx : x.natAbs < 10 ^ 22) : Sm (l ++ [x]) := fun y hy => by
  rcases List.mem_append.mp hy with h' | h'
  · exact h y h'
  · rw [List.mem_singleton.mp h']; exact hx
theorem sm_set {l : List Int} {x : Int} {n : Nat} (h : Sm l) (hx : x.natAbs < 10 ^ 22) : Sm (l.set n x) := fun y hy => by
  rcases List.mem_or_eq_of_mem_set hy with h' | h'
  · exact h y h'
  · rw [h']; exact hx
/-- bounds -/
abbrev Bn (n : Nat) (l : List Int) : Prop := ∀ x ∈ l, x.natAbs ≤ n
theorem bn_app {n : Nat} {l : List Int} {x : Int} (h : Bn n l) (hx : x.natAbs ≤ n) : Bn n (l ++ [x]) := fun y hy => by
  rcases List.mem_append.mp hy with h' | h'
  · exact h y h'
  · rw [List.mem_singleton.mp h']; exact hx
theorem bn_set {m : Nat} {l : List Int} {x : Int} {n : Nat} (h : Bn m l) (hx : x.natAbs ≤ m) : Bn m (l.set n x) := fun y hy => by
  rcases List.mem_or_eq_of_mem_set hy with h' | h'
  · exact h y h'
  · rw [h']; exact hx
theorem bn_mono {m n : Nat} {l : List Int} (h : Bn m l) (hx : m ≤ n) : Bn n l := fun y hy => Nat.le_trans (h y hy) hx
theorem bn_sum {n : Nat} : ∀ {l : List Int}, Bn n l → l.sum.natAbs ≤ l.length * n
  | [], _ => by simp
  | x :: l, h => by
    have h1 := h x (by simp)
    have h2 := bn_sum (l := l) fun y hy => h y (List.mem_cons_of_mem _ hy)
    rw [List.sum_cons, List.length_cons, Nat.add_mul, Nat.one_mul]
    omega
theorem bn_get {n : Nat} {l : List Int} {i : Nat} (h : Bn n l) (hi : i < l.length) : (l[i]).natAbs ≤ n := h _ (List.getElem_mem _)
/-- what a comprehension over days has made so far -/
abbrev Made (cells : List Int) (p0 : Int) (B : Nat) (ρr : List S) (i : Nat) (acc : List D) (ρ : List S) : Prop := ∃ l p dg, acc = Li l ∧ Bn B l ∧ p0 ≤ p ∧ p ≤ p0 + i ∧ ρ = S.m (tapC cells p dg) :: ρr
theorem made_0 {cells : List Int} {p dg : Int} {B : Nat} {ρr : List S} : Made cells p B ρr 0 [] (S.m (tapC cells p dg) :: ρr) := ⟨[], p, dg, rfl, fun x h => (by cases h), by omega, by omega, rfl⟩
theorem made_s {cells : List Int} {p p0 p1 dg : Int} {B i : Nat} {x : Int} {l : List Int} {ρr : List S} (h : Bn B l) (hx : x.natAbs ≤ B) (h1 : p0 ≤ p) (h2 : p ≤ p0 + i) (h3 : p ≤ p1) (h4 : p1 ≤ p + 1) : Made cells p0 B ρr (i + 1) (Li l ++ [.int x]) (S.m (tapC cells p1 dg) :: ρr) := ⟨l ++ [x], p1, dg, by simp, bn_app h hx, by omega, by omega, rfl⟩
section
variable {K : PySem.W.Frag} {w : World} {mg : Str → Option Value}
local macro_rules | `(tactic| walk_at "call") => `(tactic| first
  | (apply call_eq is_integer_ok; (· rfl)))
variable (b : Bd K mg)
include b
local macro_rules | `(tactic| walk_at "fact") => `(tactic| first | exact cl_Row (by assumption) | exact na_Row_gains (by assumption) | exact na_Row_heights (by assumption) | exact na_Row_days (by assumption) | exact na_Row_total (by assumption))
local macro_rules | `(tactic| walk_at "kit") => `(tactic| first | exact kit_NoneType_Row (by assumption) | exact kit_bool_Row (by assumption) | exact kit_int_Row (by assumption) | exact kit_str_Row (by assumption) | exact kit_list_Row (by assumption) | exact kit_tuple_Row (by assumption) | exact kitO_Row_Row (by assumption))
local macro_rules | `(tactic| walk_at "ty") => `(tactic| exact ty_Row (by assumption))
theorem law_gains_ok {cells : List Int} {p dg days : Int} (hd : 1 ≤ days) (hd2 : days ≤ 48) (hp : 0 ≤ p) (hp2 : p ≤ 1000000) (hc : cells.length ≤ 1000) : Fn K (sp_law_gains K w) [.m (tapC cells p dg), .d (.int days)] fun t as' => ∃ l p' dg', t = .m (.lst (Li l)) ∧ (l.length : Int) = days ∧ Bn 400000000000000000000 l ∧ as' = [.m (tapC cells p' dg'), .d (.int days)] ∧ p ≤ p' ∧ p' ≤ p + 200 := by
  have hz := sizeLine_eq
  refine fn_of (N := N_law_gains) (u := 5) (fun vs H Q E h => h) rfl rfl fun G pl hB => ?_
  unfold t_law_gains
  walk_at "w"
  refine call_of (law_drip_ok (cells := cells) (p := p) (dg := dg) (many := 7) (by omega) (by omega) (by omega) (by omega) hc) rfl fun t as' h => ?_
  obtain ⟨r1, p1, dg1, rfl, hr1, hs1, rfl, hp1, hq1⟩ := h
  refine ⟨rfl, ?_⟩
  walk_at "w"
  refine br_d (fun hw => ?_) (fun hw => ?_)
  · walk_at "w"
    refine lc_run (Made cells p1 10 [.d (.int days), .d (.int r1), .u, .u, .u, .u]) rfl made_0 (by rw [rng_len]; omega) (fun i x acc ρ2 hx ha h => ?_) (fun acc ρ2 ha h => ?_)
    · obtain ⟨l, pa, dga, rfl, hb, hpa, hqa, rfl⟩ := h
      obtain ⟨hi, rfl⟩ := get_rng hx
      walk_at "w"
      refine call_of (law_drip_ok (cells := cells) (p := pa) (dg := dga) (many := 7) (by omega) (by omega) (by omega) (by omega) hc) rfl fun t as' h => ?_
      obtain ⟨r2, p2, dg2, rfl, hr2, hs2, rfl, hp2, hq2⟩ := h
      refine ⟨rfl, ?_⟩
      walk_at "w"
      exact made_s hb (by omega) hpa hqa hp2 hq2
    · obtain ⟨l, pa, dga, rfl, hb, hpa, hqa, rfl⟩ := h
      rw [rng_len] at ha hqa
      rw [Li_len] at ha
      refine ⟨rfl, ?_⟩
      walk_at "w"
      exact ⟨rfl, l, _, _, rfl, by omega, bn_mono hb (by decide), rfl, by omega, by omega⟩
  walk_at "w"
  refine br_d (fun hw2 => ?_) (fun hw2 => ?_)
  · walk_at "w"
    refine lc_run (Made cells p1 10 [.d (.int days), .d (.int r1), .u, .u, .u, .u]) rfl made_0 (by rw [rng_len]; omega) (fun i x acc ρ2 hx ha h => ?_) (fun acc ρ2 ha h => ?_)
    · obtain ⟨l, pa, dga, rfl, hb, hpa, hqa, rfl⟩ := h
      obtain ⟨hi, rfl⟩ := get_rng hx
      walk_at "w"
      refine call_of (law_any_ok (cells := cells) (p := pa) (dg := dga) (xs := [.int 0, .int 0, .int 0, .int 1, .int (-1)]) (by decide) (by decide) (by omega) (by omega) hc) rfl fun t as' h => ?_
      obtain ⟨r2, p2, dg2, hr2, rfl, rfl, hp2, hq2⟩ := h
      refine ⟨rfl, ?_⟩
      simp only [List.mem_cons, List.not_mem_nil, or_false] at hr2
      rcases hr2 with rfl | rfl | rfl | rfl | rfl <;> (walk_at "w"; exact made_s hb (by decide) hpa hqa hp2 hq2)
    · obtain ⟨l, pa, dga, rfl, hb, hpa, hqa, rfl⟩ := h
      rw [rng_len] at ha hqa
      rw [Li_len] at ha
      refine ⟨rfl, ?_⟩
      walk_at "w"
      exact ⟨rfl, l, _, _, rfl, by omega, bn_mono hb (by decide), rfl, by omega, by omega⟩
  walk_at "w"
  refine br_d (fun hw3 => ?_) (fun hw3 => ?_)
  · walk_at "w"
    refine lc_run (Made cells p1 400000000000000000000 [.d (.int days), .d (.int r1), .u, .u, .u, .u]) rfl made_0 (by rw [rng_len]; omega) (fun i x acc ρ2 hx ha h => ?_) (fun acc ρ2 ha h => ?_)
    · obtain ⟨l, pa, dga, rfl, hb, hpa, hqa, rfl⟩ := h
      obtain ⟨hi, rfl⟩ := get_rng hx
      walk_at "w"
      refine call_of (law_any_ok (cells := cells) (p := pa) (dg := dga) (xs := [.int (10 ^ 20), .int (1 - 10 ^ 20), .int (10 ^ 6), .int 0, .int (-999999), .int 7]) (by decide) (by decide) (by omega) (by omega) hc) rfl fun t as' h => ?_
      obtain ⟨r2, p2, dg2, hr2, rfl, rfl, hp2, hq2⟩ := h
      refine ⟨rfl, ?_⟩
      simp only [List.mem_cons, List.not_mem_nil, or_false] at hr2
      rcases hr2 with rfl | rfl | rfl | rfl | rfl | rfl <;> (walk_at "w"; exact made_s hb (by decide) hpa hqa hp2 hq2)
    · obtain ⟨l, pa, dga, rfl, hb, hpa, hqa, rfl⟩ := h
      rw [rng_len] at ha hqa
      rw [Li_len] at ha
      refine ⟨rfl, ?_⟩
      walk_at "w"
      exact ⟨rfl, l, _, _, rfl, by omega, bn_mono hb (by decide), rfl, by omega, by omega⟩
  walk_at "w"
  refine call_of (law_drip_ok (cells := cells) (p := p1) (dg := dg1) (many := 5) (by omega) (by omega) (by omega) (by omega) hc) rfl fun t as' h => ?_
  obtain ⟨r2, p2, dg2, rfl, hr2, hs2, rfl, hp2, hq2⟩ := h
  refine ⟨rfl, ?_⟩
  walk_at "w"
  refine lc_run (Made cells p2 4 [.d (.int days), .d (.int r1), .u, .u, .u, .u]) rfl made_0 (by rw [rng_len]; omega) (fun i x acc ρ2 hx ha h => ?_) (fun acc ρ2 ha h => ?_)
  · obtain ⟨l, pa, dga, rfl, hb, hpa, hqa, rfl⟩ := h
    obtain ⟨hi, rfl⟩ := get_rng hx
    walk_at "w"
    refine call_of (law_drip_ok (cells := cells) (p := pa) (dg := dga) (many := 9) (by omega) (by omega) (by omega) (by omega) hc) rfl fun t as' h => ?_
    obtain ⟨r3, p3, dg3, rfl, hr3, hs3, rfl, hp3, hq3⟩ := h
    refine ⟨rfl, ?_⟩
    walk_at "w"
    exact made_s hb (by omega) hpa hqa hp3 hq3
  · obtain ⟨f, pb, dgb, rfl, hb, hpa, hqa, rfl⟩ := h
    rw [rng_len] at ha hqa
    rw [Li_len] at ha
    refine ⟨rfl, ?_⟩
    walk_at "w"
    refine br_d (fun hw4 => ?_) (fun hw4 => ?_)
    · walk_at "w"
      refine o_ix rfl (atI_Li (atI_nn (i := 0) (by omega) (by omega))) ?_
      walk_at "w"
      refine a_sum rfl ?_
      walk_at "w"
      refine ⟨_, _, 0, rfl, rfl, ix_nn (by omega) (by rw [Li_len]; omega), ?_⟩
      rw [set_Li]
      have h1 := bn_sum hb
      have h2 := bn_get (i := 0) hb (by omega)
      have hf : Bn 28 (f.set 0 (f[0]'(by omega) - f.sum)) := bn_set (bn_mono hb (by decide)) (by
        have : f.length * 4 ≤ 20 := by omega
        show (f[0]'(by omega) - f.sum).natAbs ≤ 28
        omega)
      have hfl : 0 < (f.set 0 (f[0]'(by omega) - f.sum)).length := by rw [List.length_set]; omega
      have hfm : (f.set 0 (f[0]'(by omega) - f.sum)).length ≤ 48 := by rw [List.length_set]; omega
      show WpS _ _ [_, _, _, S.m (.lst (Li (f.set 0 (f[0]'(by omega) - f.sum)))), _, _, _] _
      generalize f.set 0 (f[0]'(by omega) - f.sum) = f at hf hfl hfm ⊢
      walk_at "w"
      refine lc_run (Made cells pb 28 [.d (.int days), .d (.int r1), .m (.lst (Li f)), .u, .u, .u]) rfl made_0 (by rw [rng_len]; omega) (fun i x acc ρ2 hx ha h => ?_) (fun acc ρ2 ha h => ?_)
      · obtain ⟨l, pa, dga, rfl, hb, hpa, hqa, rfl⟩ := h
        obtain ⟨hi, rfl⟩ := get_rng hx
        walk_at "w"
        refine o_ix rfl (atI_Li (atI_nn (Int.emod_nonneg _ (by omega)) (Int.emod_lt_of_pos _ (by omega)))) ?_
        walk_at "w"
        exact made_s hb (bn_get hf _) hpa hqa (by omega) (by omega)
      · obtain ⟨l, pa, dga, rfl, hb, hpa, hqa, rfl⟩ := h
        rw [rng_len] at ha hqa
        rw [Li_len] at ha
        refine ⟨rfl, ?_⟩
        walk_at "w"
        exact ⟨rfl, l, _, _, rfl, by omega, bn_mono hb (by decide), rfl, by omega, by omega⟩
    · have hf : Bn 28 f := bn_mono hb (by decide)
      have hfl : 0 < f.length := by omega
      have hfm : f.length ≤ 48 := by omega
      walk_at "w"
      refine lc_run (Made cells pb 28 [.d (.int days), .d (.int r1), .m (.lst (Li f)), .u, .u, .u]) rfl made_0 (by rw [rng_len]; omega) (fun i x acc ρ2 hx ha h => ?_) (fun acc ρ2 ha h => ?_)
      · obtain ⟨l, pa, dga, rfl, hb, hpa, hqa, rfl⟩ := h
        obtain ⟨hi, rfl⟩ := get_rng hx
        walk_at "w"
        refine o_ix rfl (atI_Li (atI_nn (Int.emod_nonneg _ (by omega)) (Int.emod_lt_of_pos _ (by omega)))) ?_
        walk_at "w"
        exact made_s hb (bn_get hf _) hpa hqa (by omega) (by omega)
      · obtain ⟨l, pa, dga, rfl, hb, hpa, hqa, rfl⟩ := h
        rw [rng_len] at ha hqa
        rw [Li_len] at ha
        refine ⟨rfl, ?_⟩
        walk_at "w"
        refine br_d (fun hw6 => ?_) (fun hw6 => ?_)
        · walk_at "w"
          refine call_of (law_drip_ok (cells := cells) (p := pa) (dg := dga) (many := days) (by omega) (by omega) (by omega) (by omega) hc) rfl fun t as' h => ?_
          obtain ⟨r5, p5, dg5, rfl, hr5, hs5, rfl, hp5, hq5⟩ := h
          refine ⟨rfl, ?_⟩
          walk_at "w"
          refine o_ix rfl (atI_Li (atI_nn hr5 (by omega))) ?_
          walk_at "w"
          refine call_of (law_any_ok (cells := cells) (p := p5) (dg := dg5) (xs := [.int 1, .int (-1), .int 30]) (by decide) (by decide) (by omega) (by omega) hc) rfl fun t as' h => ?_
          obtain ⟨r6, p6, dg6, hr6, rfl, rfl, hp6, hq6⟩ := h
          refine ⟨rfl, ?_⟩
          have hg := bn_get (i := r5.toNat) hb (by omega)
          generalize l[r5.toNat]'(by omega) = y at hg ⊢
          simp only [List.mem_cons, List.not_mem_nil, or_false] at hr6
          rcases hr6 with rfl | rfl | rfl
          all_goals
            walk_at "w"
            refine ⟨_, _, _, rfl, rfl, ix_nn hr5 (by rw [Li_len]; omega), ?_⟩
            rw [set_Li]
            walk_at "w"
            exact ⟨rfl, _, _, _, rfl, by rw [List.length_set]; omega, bn_set (bn_mono hb (by decide)) (by omega), rfl, by omega, by omega⟩
        · walk_at "w"
          exact ⟨rfl, l, _, _, rfl, by omega, bn_mono hb (by decide), rfl, by omega, by omega⟩
end
end K04

set_option Elab.async false
set_option linter.all false
set_option maxRecDepth 100000
set_option maxHeartbeats 4000000
namespace K04
open PySem PySem.Spec PyProof.Rows L2 Rl RZ RT Dl
local macro_rules | `(tactic| walk_at "fact") => `(tactic| fail)
local macro_rules | `(tactic| walk_at "num") => `(tactic| first | rfl | assumption | omega | decide)
local macro_rules | `(tactic| walk_at "kit") => `(tactic| fail)
local macro_rules | `(tactic| walk_at "ty") => `(tactic| fail)
local macro_rules | `(tactic| walk_at "kb") => `(tactic| first | exact kb_NoneType_int | exact kb_NoneType_bool | exact kb_NoneType_str | exact kb_NoneType_list | exact kb_NoneType_tuple | exact kb_NoneType_dict | exact kb_bool_int | exact kb_bool_bool | exact kb_bool_str | exact kb_bool_list | exact kb_bool_tuple | exact kb_bool_dict | exact kb_int_int | exact kb_int_bool | exact kb_int_str | exact kb_int_list | exact kb_int_tuple | exact kb_int_dict | exact kb_str_int | exact kb_str_bool | exact kb_str_str | exact kb_str_list | exact kb_str_tuple | exact kb_str_dict | exact kb_list_int | exact kb_list_bool | exact kb_list_str | exact kb_list_list | exact kb_list_tuple | exact kb_list_dict | exact kb_tuple_int | exact kb_tuple_bool | exact kb_tuple_str | exact kb_tuple_list | exact kb_tuple_tuple | exact kb_tuple_dict)
local macro_rules | `(tactic| walk_at "k2") => `(tactic| first | exact k2_list | exact k2_tuple | exact k2_int | exact k2_str | exact k2_bool | exact k2_NoneType)
local macro_rules | `(tactic| walk_at "call") => `(tactic| fail)
local macro_rules | `(tactic| walk_at "cl") => `(tactic| dsimp only [toD, fzT, upR, List.map, List.set, List.getD, List.getElem?_cons_zero, List.getElem?_cons_succ, Option.getD, List.append, List.cons_append, List.nil_append, wipeS, argsOf, retT, toS, OC.toD, List.replicate, Bool.not_true, Bool.not_false, Dl.isNon, Int.reduceToNat])
local macro_rules | `(tactic| walk_at "s") => `(tactic| with_reducible first
  | apply wps_seq
  | apply wps_asg
  | apply wps_drop
  | apply wps_ret
  | apply wps_retN
  | (apply wps_next; try dsimp only)
  | (apply wps_brk; try dsimp only)
  | (apply wps_cont; try dsimp only)
  | apply wps_if
  | apply wps_fld2
  | (apply wp_var; (· with_unfolding_all rfl))
  | apply wp_int
  | apply wp_str
  | apply wp_bl
  | apply wp_non
  | apply wp_ty
  | apply wp_cls
  | apply wp_op
  | apply wp_un
  | (apply wp_isi2)
  | apply wp_cb
  | apply wp_tup
  | apply wp_lst
  | apply wp_if
  | apply wp_orT
  | apply wp_andT
  | apply wp_notT
  | apply wp_fld
  | apply wp_chain
  | apply wp_sl
  | apply wpa_cons
  | apply wpa_nil
  | apply wpad_cons
  | apply wpad_nil
  | (apply wpd_opq; (· first | exact List.Mem.head _ | exact List.Mem.tail _ (List.Mem.head _) | exact List.Mem.tail _ (List.Mem.tail _ (List.Mem.head _))))
  | apply wpd_of
  | apply wpo_none
  | apply wpo_some
  | apply wpt_test
  | apply wpt_B
  | apply wpt_tru
  | apply wpt_and
  | apply wpt_or
  | apply wpt_not
  | apply wp_fn
  | apply wp_fnK
  | apply wp_mt
  | apply wp_mtK
  | apply wp_new
  | apply wp_newK
  | apply wpc_p
  | apply wpc_k
  | apply wpc_pk
  | (apply wpg_name; (· assumption); (· with_unfolding_all rfl); (· with_unfolding_all rfl); (· with_unfolding_all rfl))
  | (refine wpg_tup ?_ ?_; (· with_unfolding_all rfl))
  | apply wpg_sub
  | apply wpgs_cons
  | apply wpgs_nil
  | apply wpt_yes
  | (refine turn ?_ ?_; (· with_unfolding_all rfl))
  | apply wps_forW
  | (apply wp_lcW; (· assumption); (· with_unfolding_all rfl); (· walk_at "gin"))
  | apply wpi_r1
  | apply wpi_r2
  | apply wpi_zip
  | apply wpi_enum
  | apply wp_join
  | apply wp_append
  | apply wp_extend
  | apply br_t
  | apply br_f
  | apply br_nt
  | apply br_nf)
local macro_rules | `(tactic| walk_at "gin") => `(tactic| first | exact gin_name rfl | exact gin_tup (gin_cons (gin_name rfl) (gin_cons (gin_name rfl) gin_nil)) | exact gin_tup (gin_cons (gin_name rfl) (gin_cons (gin_name rfl) (gin_cons (gin_name rfl) gin_nil))))
local macro_rules | `(tactic| walk_at "it") => `(tactic| first
  | (with_reducible apply wpi_lst; walk_at "w"; with_reducible first | show ForOk _ _ _ _ _ _ | show LcOk _ _ _ _ _ _ _ _)
  | (with_reducible apply wpi_tup; walk_at "w"; with_reducible first | show ForOk _ _ _ _ _ _ | show LcOk _ _ _ _ _ _ _ _))
local macro_rules | `(tactic| walk_at "o") => `(tactic| with_reducible first
  | apply o_add
  | apply o_sub
  | apply o_lt
  | apply o_le
  | apply o_gt
  | apply o_ge
  | apply o_eqi
  | apply o_nei
  | apply o_eqs
  | apply o_nes
  | apply o_neg
  | (apply op2_or1; first | apply o_eqi | apply o_nei | apply o_eqs | apply o_nes)
  | apply o_eqT
  | apply o_neT
  | (apply op2_or1; first | apply o_eqT | apply o_neT)
  | (apply opa_or2; apply a_lenO; (· with_unfolding_all rfl))
  | (apply opa_or2; apply a_strO; (· with_unfolding_all rfl))
  | apply a_int
  | apply a_abs
  | (refine o_md ?_ ?_; (· with_unfolding_all walk_at "num"))
  | (apply o_fd; (· with_unfolding_all walk_at "num"); (· exact small_log (by omega) (by omega)))
  | (apply o_mul; (· with_unfolding_all first | exact cmul_l (by omega) (by omega) | exact cmul_r (by omega) (by omega)))
  | (apply o_pw; (· with_unfolding_all exact cpow_ok (by omega) (by omega) (by omega)))
  | (apply o_ix; (· with_unfolding_all rfl); (· with_unfolding_all rfl))
  | apply a_intb
  | (apply o_is; (· with_unfolding_all rfl))
  | (apply o_isn; (· with_unfolding_all rfl))
  | (apply a_lenL; (· with_unfolding_all rfl))
  | (apply opa_or1; apply a_lenL; (· with_unfolding_all rfl))
  | (apply a_len; (· with_unfolding_all rfl))
  | (apply opa_or1; apply a_len; (· with_unfolding_all rfl))
  | (apply a_tuple; (· with_unfolding_all rfl))
  | apply a_tupleT
  | (apply a_list; (· with_unfolding_all rfl))
  | (apply a_isi; (· with_unfolding_all rfl); (· walk_at "kb"))
  | (apply a_isiO; (· with_unfolding_all rfl); (· walk_at "kit"))
  | (apply a_isiI; (· with_unfolding_all rfl); (· walk_at "ty"); (· walk_at "kit")))
local macro_rules | `(tactic| walk_at "e") => `(tactic| first
  | (refine ⟨_, _, _, _, rfl, ?_, ?_, rfl, ?_⟩; (· walk_at "fact"); (· walk_at "fact"))
  | (refine ⟨_, _, _, _, rfl, rfl, ?_, ?_, Nat.le_of_ble_eq_true rfl, rfl, Or.inl ⟨rfl, ?_⟩⟩; (· walk_at "fact"); (· walk_at "fact"))
  | (refine ⟨_, _, _, _, rfl, rfl, ?_, ?_, Nat.le_of_ble_eq_true rfl, rfl, Or.inr ⟨0, rfl, ?_⟩⟩; (· walk_at "fact"); (· walk_at "fact"))
  | (refine ⟨_, _, _, _, rfl, rfl, ?_, ?_, Nat.le_of_ble_eq_true rfl, rfl, Or.inr ⟨1, rfl, ?_⟩⟩; (· walk_at "fact"); (· walk_at "fact"))
  | (refine ⟨_, _, _, _, rfl, rfl, ?_, ?_, Nat.le_of_ble_eq_true rfl, rfl, Or.inr ⟨2, rfl, ?_⟩⟩; (· walk_at "fact"); (· walk_at "fact"))
  | (refine ⟨_, _, _, _, rfl, rfl, ?_, ?_, Nat.le_of_ble_eq_true rfl, rfl, Or.inr ⟨3, rfl, ?_⟩⟩; (· walk_at "fact"); (· walk_at "fact"))
  | (refine ⟨_, _, _, _, rfl, rfl, ?_, ?_, Nat.le_of_ble_eq_true rfl, rfl, Or.inr ⟨4, rfl, ?_⟩⟩; (· walk_at "fact"); (· walk_at "fact"))
  | refine ⟨rfl, rfl, rfl, ?_⟩
  | (refine ⟨rfl, rfl, ⟨by decide, by decide⟩, ?_⟩)
  | (refine ⟨_, _, rfl, ?_, ?_⟩; (· walk_at "k2"))
  | refine ⟨_, _, _, rfl, rfl, rfl, ?_⟩
  | (refine ⟨_, _, rfl, rfl, ?_⟩)
  | (refine ⟨_, rfl, ⟨by omega, by omega⟩, ?_⟩)
  | (refine ⟨_, rfl, ⟨_, rfl⟩, ?_⟩)
  | (refine ⟨_, rfl, ?_⟩)
  | refine Or.inl ⟨_, _, rfl, rfl, ?_⟩
  | refine Or.inr ⟨_, _, rfl, rfl, ?_⟩
  | refine Or.inl ⟨_, rfl, ?_⟩
  | refine Or.inr (Or.inl ⟨_, rfl, ?_⟩)
  | exact ⟨rfl, rfl⟩
  | exact ⟨rfl, rfl, rfl⟩
  | (refine ⟨Nat.le_of_ble_eq_true rfl, ?_⟩))
local macro_rules | `(tactic| walk_at "b") => `(tactic| with_reducible first
  | apply br_nn
  | (refine br_p ?_ ?_; (· with_unfolding_all walk_at "num"))
  | (refine br_n ?_ ?_; (· with_unfolding_all walk_at "num"))
  | (refine nbr_p ?_ ?_; (· with_unfolding_all walk_at "num"))
  | (refine nbr_n ?_ ?_; (· with_unfolding_all walk_at "num")))
local macro_rules | `(tactic| walk_at "x") => `(tactic| first | walk_at "s" | walk_at "o" | walk_at "call" | walk_at "b" | walk_at "e" | walk_at "it" | walk_at "cl")
local macro_rules | `(tactic| walk_at "w") => `(tactic| repeat walk_at "x")
section
variable {K : PySem.W.Frag} {w : World} {mg : Str → Option Value}
variable (b : Bd K mg)
include b
theorem new_row_l {l : List Int} {ts : List T} {ρ : List S} {k : T → List S → Prop} (h : vw ρ (ts.map fzT) = some [.d (.lst (Li l))]) (h0 : 0 < l.length) (h1 : l.length ≤ 48) (hk : k (.m (rowC l)) ρ) : NewOk K (sp_Row_init K w) "Row" ts ρ k := new_eq (Row_init_l b h0 h1) h hk
theorem new_row_t {l : List Int} {ts : List T} {ρ : List S} {k : T → List S → Prop} (h : vw ρ (ts.map fzT) = some [.d (.tup (Li l))]) (h0 : 0 < l.length) (h1 : l.length ≤ 48) (hk : k (.m (rowC l)) ρ) : NewOk K (sp_Row_init K w) "Row" ts ρ k := new_eq (Row_init_t b h0 h1) h hk
theorem Row_init_m {l : List Int} (h0 : 0 < l.length) (h1 : l.length ≤ 48) : Fn K (sp_Row_init K w) [.m (.ins "Row" [] []), .m (.lst (Li l))] fun t as' => t = .d .non ∧ as' = [.m (rowC l), .m (.lst (Li l))] := by
  refine (Fn.lend (l1 := [.m (.ins "Row" [] [])]) (l2 := []) (Row_init_l (w := w) b h0 h1) fun t as' h => ?_).mono fun t as' h => ?_
  · obtain ⟨rfl, rfl⟩ := h
    exact ⟨[_], [], rfl, .nl (by
      have key : ∀ l : List Int, nls (Li l) = true := fun l => by induction l <;> simp_all [nls, nl]
      simp [nlT, nlC, nls, nl, key]) .nil, .nil, rfl⟩
  · obtain ⟨m1, m2, rfl, h1, rfl, h2⟩ := h
    rcases m1 with _ | ⟨x, _ | ⟨y, m1⟩⟩ <;> simp at h1 h2
    obtain ⟨rfl, rfl⟩ := h2
    exact ⟨rfl, rfl⟩
theorem Row_of_m {l : List Int} (h0 : 0 < l.length) (h1 : l.length ≤ 48) : Pure K (sp_Row_of K w) [.m (.lst (Li (hts l)))] fun t => t = .m (rowC l) := by
  refine (Fn.lend (l1 := []) (l2 := []) (Row_of_l (w := w) b h0 h1) fun t as' h => ?_).mono fun t as' h => ?_
  · obtain ⟨rfl, rfl⟩ := h
    exact ⟨[], [], rfl, .nil, .nil, by
      have key : ∀ l : List Int, nls (Li l) = true := fun l => by induction l <;> simp_all [nls, nl]
      simp [nlT, nlC, nls, nl, key]⟩
  · obtain ⟨m1, m2, rfl, h1, rfl, h2⟩ := h
    rcases m1 with _ | ⟨x, m1⟩ <;> simp at h1 h2
    subst h2
    exact ⟨rfl, rfl⟩
local macro_rules | `(tactic| walk_at "fact") => `(tactic| first | exact cl_Row (by assumption) | exact na_Row_gains (by assumption) | exact na_Row_heights (by assumption) | exact na_Row_days (by assumption) | exact na_Row_total (by assumption))
local macro_rules | `(tactic| walk_at "kit") => `(tactic| first | exact kit_NoneType_Row (by assumption) | exact kit_bool_Row (by assumption) | exact kit_int_Row (by assumption) | exact kit_str_Row (by assumption) | exact kit_list_Row (by assumption) | exact kit_tuple_Row (by assumption) | exact kitO_Row_Row (by assumption))
local macro_rules | `(tactic| walk_at "ty") => `(tactic| exact ty_Row (by assumption))
local macro_rules | `(tactic| walk_at "call") => `(tactic| with_reducible first
  | (apply op2_or2; apply o_eqOO; (· with_unfolding_all rfl); (· with_unfolding_all rfl); (· exact ty_Row (by assumption)); (· exact nfO_Row_Row (by assumption)))
  | (apply op2_or2; apply o_neOO; (· with_unfolding_all rfl); (· with_unfolding_all rfl); (· exact ty_Row (by assumption)); (· exact nfO_Row_Row (by assumption)))
  | (apply op2_or2; apply o_eqO; (· with_unfolding_all rfl); (· with_unfolding_all rfl); (· first | exact nf_tuple_Row (by assumption) | exact nf_list_Row (by assumption) | exact nf_str_Row (by assumption)))
  | (apply call_eq (Row_eq_ok (by assumption)); (· with_unfolding_all rfl))
  | (apply call_eq (Row_eq_t (by assumption)); (· with_unfolding_all rfl))
  | (apply call_eq (Row_eq_l (by assumption)); (· with_unfolding_all rfl))
  | (apply call_eq (Row_eq_s (by assumption)); (· with_unfolding_all rfl))
  | (apply call_eq (Row_len_ok (by assumption)); (· with_unfolding_all rfl))
  | (apply new_row_l (by assumption); (· with_unfolding_all rfl); (· with_unfolding_all omega); (· with_unfolding_all omega))
  | (apply new_row_t (by assumption); (· with_unfolding_all rfl); (· with_unfolding_all omega); (· with_unfolding_all omega)))
theorem law_like_right_ok {cells l : List Int} {p dg : Int} (h0 : 0 < l.length) (h1 : l.length ≤ 48) (hb : Bn 400000000000000000000 l) (hp : 0 ≤ p) (hp2 : p ≤ 1000000) (hc : cells.length ≤ 1000) : Fn K (sp_law_like_right K w) [.m (tapC cells p dg), .d (.lst (Li l)), .d (rowD l)] fun t as' => ∃ p' dg', t = .d (.bl true) ∧ as' = [.m (tapC cells p' dg'), .d (.lst (Li l)), .d (rowD l)] ∧ p ≤ p' ∧ p' ≤ p + 2 := by
  have hz := sizeLine_eq
  refine fn_of (N := N_law_like_right) (u := 2) (fun vs H Q E h => h) rfl rfl fun G pl hB => ?_
  unfold t_law_like_right
  apply wps_seq
  refine wps_par hB rfl rfl (by decide) ?_
  walk_at "w"
  refine call_of (law_drip_ok (cells := cells) (p := p) (dg := dg) (many := l.length) (by omega) (by omega) (by omega) (by omega) hc) rfl fun t as' h => ?_
  obtain ⟨r1, p1, dg1, rfl, hr1, hs1, rfl, hp1, hq1⟩ := h
  refine ⟨rfl, ?_⟩
  walk_at "w"
  refine ⟨_, _, _, _, rfl, rfl, rfl, ?_⟩
  walk_at "w"
  refine o_ix rfl (atI_Li (atI_nn hr1 hs1)) ?_
  walk_at "w"
  refine call_of (law_any_ok (cells := cells) (p := p1) (dg := dg1) (xs := [.int 1, .int (-1), .int (10 ^ 20)]) (by decide) (by decide) (by omega) (by omega) hc) rfl fun t as' h => ?_
  obtain ⟨r2, p2, dg2, hr2, rfl, rfl, hp2, hq2⟩ := h
  refine ⟨rfl, ?_⟩
  obtain ⟨d, hd, rfl⟩ : ∃ d : Int, d ≠ 0 ∧ r2 = .int d := by
    simp only [List.mem_cons, List.not_mem_nil, or_false] at hr2
    rcases hr2 with rfl | rfl | rfl
    · exact ⟨1, by decide, rfl⟩
    · exact ⟨-1, by decide, rfl⟩
    · exact ⟨10 ^ 20, by decide, rfl⟩
  walk_at "w"
  refine ⟨_, _, _, rfl, rfl, ix_nn hr1 (by rw [Li_len]; omega), ?_⟩
  rw [set_Li]
  have hi : r1.toNat < l.length := by omega
  have ho : ∃ o, o = l.set r1.toNat (l[r1.toNat]'hi + d) := ⟨_, rfl⟩
  obtain ⟨o, ho⟩ := ho
  have hol : o.length = l.length := by rw [ho, List.length_set]
  have hne : ¬ l = o := fun e => by
    have e2 : l[r1.toNat]? = o[r1.toNat]? := by rw [← e]
    rw [ho, List.getElem?_set_self hi, List.getElem?_eq_getElem hi] at e2
    have := Option.some.inj e2
    omega
  rw [← ho]
  refine wps_frz 3 hB rfl rfl ?_
  have hb40 : ∀ x ∈ l, x.natAbs < 10 ^ 40 := fun x hx => Nat.lt_of_le_of_lt (hb x hx) (by decide)
  walk_at "w"
  refine call_eq (Row_str_ok b h1 hb40) rfl ?_
  walk_at "w"
  refine br_d (fun h48 => ?_) (fun h48 => ?_)
  · walk_at "w"
    refine o_catL (l := l) (m := [0]) rfl rfl (by simp; omega) ?_
    have hl0 : (l ++ [0]).length = l.length + 1 := by simp
    have hn0 : ¬ l = l ++ [0] := fun e => by have := congrArg List.length e; omega
    walk_at "w"
    refine o_catL (l := [0]) (m := l) rfl rfl (by simp; omega) ?_
    have hl1 : ([0] ++ l).length = l.length + 1 := by simp
    have hn1 : ¬ l = [0] ++ l := fun e => by have := congrArg List.length e; omega
    walk_at "w"
    refine br_d (fun he => ⟨rfl, _, _, by rw [decide_eq_true he], rfl, by omega, by omega⟩) (fun he => ?_)
    walk_at "w"
    rw [cutD_Li]
    have hcl : (Dl.cutD l none (some (-1))).length = l.length - 1 := by
      unfold Dl.cutD HT.sIx
      simp only [List.length_take, List.length_drop]
      rw [if_pos (by omega)]
      omega
    have hcn : ¬ l = Dl.cutD l none (some (-1)) := fun e => by have := congrArg List.length e; omega
    walk_at "w"
    exact ⟨rfl, _, _, by rw [decide_eq_false hcn]; rfl, rfl, by omega, by omega⟩
  · walk_at "w"
    rw [cutD_Li]
    have hcl : (Dl.cutD l none (some (-1))).length = l.length - 1 := by
      unfold Dl.cutD HT.sIx
      simp only [List.length_take, List.length_drop]
      rw [if_pos (by omega)]
      omega
    have hcn : ¬ l = Dl.cutD l none (some (-1)) := fun e => by have := congrArg List.length e; omega
    walk_at "w"
    exact ⟨rfl, _, _, by rw [decide_eq_false hcn]; rfl, rfl, by omega, by omega⟩
end
end K04

set_option Elab.async false
set_option linter.all false
set_option maxRecDepth 100000
set_option maxHeartbeats 4000000
namespace K04
open PySem PySem.Spec PyProof.Rows L2 Rl RZ RT Dl
local macro_rules | `(tactic| walk_at "fact") => `(tactic| fail)
local macro_rules | `(tactic| walk_at "num") => `(tactic| first | rfl | assumption | omega | decide)
local macro_rules | `(tactic| walk_at "kit") => `(tactic| fail)
local macro_rules | `(tactic| walk_at "ty") => `(tactic| fail)
local macro_rules | `(tactic| walk_at "kb") => `(tactic| first | exact kb_NoneType_int | exact kb_NoneType_bool | exact kb_NoneType_str | exact kb_NoneType_list | exact kb_NoneType_tuple | exact kb_NoneType_dict | exact kb_bool_int | exact kb_bool_bool | exact kb_bool_str | exact kb_bool_list | exact kb_bool_tuple | exact kb_bool_dict | exact kb_int_int | exact kb_int_bool | exact kb_int_str | exact kb_int_list | exact kb_int_tuple | exact kb_int_dict | exact kb_str_int | exact kb_str_bool | exact kb_str_str | exact kb_str_list | exact kb_str_tuple | exact kb_str_dict | exact kb_list_int | exact kb_list_bool | exact kb_list_str | exact kb_list_list | exact kb_list_tuple | exact kb_list_dict | exact kb_tuple_int | exact kb_tuple_bool | exact kb_tuple_str | exact kb_tuple_list | exact kb_tuple_tuple | exact kb_tuple_dict)
local macro_rules | `(tactic| walk_at "k2") => `(tactic| first | exact k2_list | exact k2_tuple | exact k2_int | exact k2_str | exact k2_bool | exact k2_NoneType)
local macro_rules | `(tactic| walk_at "call") => `(tactic| fail)
local macro_rules | `(tactic| walk_at "cl") => `(tactic| dsimp only [toD, fzT, upR, List.map, List.set, List.getD, List.getElem?_cons_zero, List.getElem?_cons_succ, Option.getD, List.append, List.cons_append, List.nil_append, wipeS, argsOf, retT, toS, OC.toD, List.replicate, Bool.not_true, Bool.not_false, Dl.isNon, Int.reduceToNat])
local macro_rules | `(tactic| walk_at "s") => `(tactic| with_reducible first
  | apply wps_seq
  | apply wps_asg
  | apply wps_drop
  | apply wps_ret
  | apply wps_retN
  | (apply wps_next; try dsimp only)
  | (apply wps_brk; try dsimp only)
  | (apply wps_cont; try dsimp only)
  | apply wps_if
  | apply wps_fld2
  | (apply wp_var; (· with_unfolding_all rfl))
  | apply wp_int
  | apply wp_str
  | apply wp_bl
  | apply wp_non
  | apply wp_ty
  | apply wp_cls
  | apply wp_op
  | apply wp_un
  | (apply wp_isi2)
  | apply wp_cb
  | apply wp_tup
  | apply wp_lst
  | apply wp_if
  | apply wp_orT
  | apply wp_andT
  | apply wp_notT
  | apply wp_fld
  | apply wp_chain
  | apply wp_sl
  | apply wpa_cons
  | apply wpa_nil
  | apply wpad_cons
  | apply wpad_nil
  | (apply wpd_opq; (· with_unfolding_all first | exact List.Mem.head _ | exact List.Mem.tail _ (List.Mem.head _) | exact List.Mem.tail _ (List.Mem.tail _ (List.Mem.head _))))
  | apply wpd_of
  | apply wpo_none
  | apply wpo_some
  | apply wpt_test
  | apply wpt_B
  | apply wpt_tru
  | apply wpt_and
  | apply wpt_or
  | apply wpt_not
  | apply wp_fn
  | apply wp_fnK
  | apply wp_mt
  | apply wp_mtK
  | apply wp_new
  | apply wp_newK
  | apply wpc_p
  | apply wpc_k
  | apply wpc_pk
  | (apply wpg_name; (· assumption); (· with_unfolding_all rfl); (· with_unfolding_all rfl); (· with_unfolding_all rfl))
  | (refine wpg_tup ?_ ?_; (· with_unfolding_all rfl))
  | apply wpg_sub
  | apply wpgs_cons
  | apply wpgs_nil
  | apply wpt_yes
  | (refine turn ?_ ?_; (· with_unfolding_all rfl))
  | apply wps_forW
  | (apply wp_lcW; (· assumption); (· with_unfolding_all rfl); (· walk_at "gin"))
  | apply wpi_r1
  | apply wpi_r2
  | apply wpi_zip
  | apply wpi_enum
  | apply wp_join
  | apply wp_append
  | apply wp_extend
  | apply br_t
  | apply br_f
  | apply br_nt
  | apply br_nf)
local macro_rules | `(tactic| walk_at "gin") => `(tactic| first | exact gin_name rfl | exact gin_tup (gin_cons (gin_name rfl) (gin_cons (gin_name rfl) gin_nil)) | exact gin_tup (gin_cons (gin_name rfl) (gin_cons (gin_name rfl) (gin_cons (gin_name rfl) gin_nil))))
local macro_rules | `(tactic| walk_at "it") => `(tactic| first
  | (with_reducible apply wpi_lst; walk_at "w"; with_reducible first | show ForOk _ _ _ _ _ _ | show LcOk _ _ _ _ _ _ _ _)
  | (with_reducible apply wpi_tup; walk_at "w"; with_reducible first | show ForOk _ _ _ _ _ _ | show LcOk _ _ _ _ _ _ _ _))
local macro_rules | `(tactic| walk_at "o") => `(tactic| with_reducible first
  | apply o_add
  | apply o_sub
  | apply o_lt
  | apply o_le
  | apply o_gt
  | apply o_ge
  | apply o_eqi
  | apply o_nei
  | apply o_eqs
  | apply o_nes
  | apply o_neg
  | (apply op2_or1; first | apply o_eqi | apply o_nei | apply o_eqs | apply o_nes)
  | apply o_eqT
  | apply o_neT
  | (apply op2_or1; first | apply o_eqT | apply o_neT)
  | (apply opa_or2; apply a_lenO; (· with_unfolding_all rfl))
  | (apply opa_or2; apply a_strO; (· with_unfolding_all rfl))
  | apply a_int
  | apply a_abs
  | (refine o_md ?_ ?_; (· with_unfolding_all walk_at "num"))
  | (apply o_fd; (· with_unfolding_all walk_at "num"); (· exact small_log (by omega) (by omega)))
  | (apply o_mul; (· with_unfolding_all first | exact cmul_l (by omega) (by omega) | exact cmul_r (by omega) (by omega)))
  | (apply o_pw; (· with_unfolding_all exact cpow_ok (by omega) (by omega) (by omega)))
  | (apply o_ix; (· with_unfolding_all rfl); (· with_unfolding_all rfl))
  | apply a_intb
  | (apply o_is; (· with_unfolding_all rfl))
  | (apply o_isn; (· with_unfolding_all rfl))
  | (apply a_lenL; (· with_unfolding_all rfl))
  | (apply opa_or1; apply a_lenL; (· with_unfolding_all rfl))
  | (apply a_len; (· with_unfolding_all rfl))
  | (apply opa_or1; apply a_len; (· with_unfolding_all rfl))
  | (apply a_tuple; (· with_unfolding_all rfl))
  | apply a_tupleT
  | (apply a_list; (· with_unfolding_all rfl))
  | (apply a_isi; (· with_unfolding_all rfl); (· walk_at "kb"))
  | (apply a_isiO; (· with_unfolding_all rfl); (· walk_at "kit"))
  | (apply a_isiI; (· with_unfolding_all rfl); (· walk_at "ty"); (· walk_at "kit")))
local macro_rules | `(tactic| walk_at "e") => `(tactic| first
  | (refine ⟨_, _, _, _, rfl, ?_, ?_, rfl, ?_⟩; (· walk_at "fact"); (· walk_at "fact"))
  | (refine ⟨_, _, _, _, rfl, rfl, ?_, ?_, Nat.le_of_ble_eq_true rfl, rfl, Or.inl ⟨rfl, ?_⟩⟩; (· walk_at "fact"); (· walk_at "fact"))
  | (refine ⟨_, _, _, _, rfl, rfl, ?_, ?_, Nat.le_of_ble_eq_true rfl, rfl, Or.inr ⟨0, rfl, ?_⟩⟩; (· walk_at "fact"); (· walk_at "fact"))
  | (refine ⟨_, _, _, _, rfl, rfl, ?_, ?_, Nat.le_of_ble_eq_true rfl, rfl, Or.inr ⟨1, rfl, ?_⟩⟩; (· walk_at "fact"); (· walk_at "fact"))
  | (refine ⟨_, _, _, _, rfl, rfl, ?_, ?_, Nat.le_of_ble_eq_true rfl, rfl, Or.inr ⟨2, rfl, ?_⟩⟩; (· walk_at "fact"); (· walk_at "fact"))
  | (refine ⟨_, _, _, _, rfl, rfl, ?_, ?_, Nat.le_of_ble_eq_true rfl, rfl, Or.inr ⟨3, rfl, ?_⟩⟩; (· walk_at "fact"); (· walk_at "fact"))
  | (refine ⟨_, _, _, _, rfl, rfl, ?_, ?_, Nat.le_of_ble_eq_true rfl, rfl, Or.inr ⟨4, rfl, ?_⟩⟩; (· walk_at "fact"); (· walk_at "fact"))
  | refine ⟨rfl, rfl, rfl, ?_⟩
  | (refine ⟨rfl, rfl, ⟨by decide, by decide⟩, ?_⟩)
  | (refine ⟨_, _, rfl, ?_, ?_⟩; (· walk_at "k2"))
  | refine ⟨_, _, _, rfl, rfl, rfl, ?_⟩
  | (refine ⟨_, _, rfl, rfl, ?_⟩)
  | (refine ⟨_, rfl, ⟨by omega, by omega⟩, ?_⟩)
  | (refine ⟨_, rfl, ⟨_, rfl⟩, ?_⟩)
  | (refine ⟨_, rfl, ?_⟩)
  | refine Or.inl ⟨_, _, rfl, rfl, ?_⟩
  | refine Or.inr ⟨_, _, rfl, rfl, ?_⟩
  | refine Or.inl ⟨_, rfl, ?_⟩
  | refine Or.inr (Or.inl ⟨_, rfl, ?_⟩)
  | exact ⟨rfl, rfl⟩
  | exact ⟨rfl, rfl, rfl⟩
  | (refine ⟨Nat.le_of_ble_eq_true rfl, ?_⟩))
local macro_rules | `(tactic| walk_at "b") => `(tactic| with_reducible first
  | apply br_nn
  | (refine br_p ?_ ?_; (· with_unfolding_all walk_at "num"))
  | (refine br_n ?_ ?_; (· with_unfolding_all walk_at "num"))
  | (refine nbr_p ?_ ?_; (· with_unfolding_all walk_at "num"))
  | (refine nbr_n ?_ ?_; (· with_unfolding_all walk_at "num")))
local macro_rules | `(tactic| walk_at "x") => `(tactic| first | walk_at "s" | walk_at "o" | walk_at "call" | walk_at "b" | walk_at "e" | walk_at "it" | walk_at "cl")
local macro_rules | `(tactic| walk_at "w") => `(tactic| repeat walk_at "x")
theorem ix_last {n : Nat} (h : 0 < n) : ixN n (-1) = some (n - 1) := by
  unfold ixN
  rw [if_neg (by omega), if_pos (by omega)]
  congr 1; omega
section
variable {K : PySem.W.Frag} {w : World} {mg : Str → Option Value}
variable (b : Bd K mg)
include b
local macro_rules | `(tactic| walk_at "fact") => `(tactic| first | exact cl_Row (by assumption) | exact na_Row_gains (by assumption) | exact na_Row_heights (by assumption) | exact na_Row_days (by assumption) | exact na_Row_total (by assumption))
local macro_rules | `(tactic| walk_at "kit") => `(tactic| first | exact kit_NoneType_Row (by assumption) | exact kit_bool_Row (by assumption) | exact kit_int_Row (by assumption) | exact kit_str_Row (by assumption) | exact kit_list_Row (by assumption) | exact kit_tuple_Row (by assumption) | exact kitO_Row_Row (by assumption))
local macro_rules | `(tactic| walk_at "ty") => `(tactic| exact ty_Row (by assumption))
local macro_rules | `(tactic| walk_at "call") => `(tactic| with_reducible first
  | (apply op2_or2; apply o_eqOO; (· with_unfolding_all rfl); (· with_unfolding_all rfl); (· exact ty_Row (by assumption)); (· exact nfO_Row_Row (by assumption)))
  | (apply op2_or2; apply o_neOO; (· with_unfolding_all rfl); (· with_unfolding_all rfl); (· exact ty_Row (by assumption)); (· exact nfO_Row_Row (by assumption)))
  | (apply op2_or2; apply o_eqO; (· with_unfolding_all rfl); (· with_unfolding_all rfl); (· first | exact nf_tuple_Row (by assumption) | exact nf_list_Row (by assumption) | exact nf_str_Row (by assumption)))
  | (apply call_eq (Row_eq_ok (by assumption)); (· with_unfolding_all rfl))
  | (apply call_eq (Row_eq_t (by assumption)); (· with_unfolding_all rfl))
  | (apply call_eq (Row_eq_l (by assumption)); (· with_unfolding_all rfl))
  | (apply call_eq (Row_eq_s (by assumption)); (· with_unfolding_all rfl))
  | (apply call_eq (Row_len_ok (by assumption)); (· with_unfolding_all rfl))
  | (apply new_row_l (by assumption); (· with_unfolding_all rfl); (· with_unfolding_all omega); (· with_unfolding_all omega))
  | (apply new_row_t (by assumption); (· with_unfolding_all rfl); (· with_unfolding_all omega); (· with_unfolding_all omega)))
theorem law_made_right_ok {cells l : List Int} {p dg : Int} (h0 : 0 < l.length) (h1 : l.length ≤ 48) (hb : Bn 400000000000000000000 l) (hp : 0 ≤ p) (hp2 : p ≤ 900000) (hc : cells.length ≤ 1000) : Fn K (sp_law_made_right K w) [.m (tapC cells p dg), .d (.lst (Li l))] fun t as' => ∃ p' dg', t = .d (.bl true) ∧ as' = [.m (tapC cells p' dg'), .d (.lst (Li l))] ∧ p ≤ p' ∧ p' ≤ p + 4 := by
  have hz := sizeLine_eq
  have hhl := hts_len l
  refine fn_of (N := N_law_made_right) (u := 7) (fun vs H Q E h => h) rfl rfl fun G pl hB => ?_
  unfold t_law_made_right
  apply wps_seq
  refine wps_par hB rfl rfl (by decide) ?_
  walk_at "w"
  refine call_eq (law_heights_ok (l := l) (by omega)) rfl ?_
  walk_at "w"
  refine ⟨_, _, _, _, rfl, rfl, rfl, ?_⟩
  walk_at "w"
  -- the two rows
  refine wps_mid (fun ρ => ∃ p' dg', p ≤ p' ∧ p' ≤ p + 2 ∧ ρ = [.m (tapC cells p' dg'), .d (.lst (Li l)), .m (.lst (Li l)), .m (.lst (Li (hts l))), .m (.lst (Li (hts l))), .m (rowC l), .m (rowC l), .u, .u]) ?_ ?_
  · refine wps_pin 2 rfl fun a2 => ?_
    refine wps_pin 4 rfl fun a4 => ?_
    have hB2 := pn_cons (j := 4) (a := a4) (pn_cons (j := 2) (a := a2) hB)
    refine wps_par hB2 rfl rfl (by decide) ?_
    apply wpa_cons
    refine wp_newK (π := [0]) ?_
    apply wpc_k
    apply wpa_cons
    refine wp_back (j := 2) (a := a2) (.tail _ (.head _)) ?_
    walk_at "w"
    refine call_of (law_any_ok (cells := cells) (p := p) (dg := dg) (xs := [.opq (.ref a2), .tup (Li l)]) (by simp) (by simp) (by omega) (by omega) hc) rfl fun t as' h => ?_
    obtain ⟨r1, p1, dg1, hr1, rfl, rfl, hp1, hq1⟩ := h
    refine ⟨rfl, ?_⟩
    simp only [List.mem_cons, List.not_mem_nil, or_false] at hr1
    rcases hr1 with rfl | rfl
    · refine .inl ⟨rfl, ?_⟩
      walk_at "w"
      refine new_eq (Row_init_m b h0 h1) rfl ?_
      apply wpa_cons
      refine wp_fnK ?_
      apply wpc_k
      apply wpa_cons
      refine wp_back (j := 4) (a := a4) (.head _) ?_
      walk_at "w"
      refine call_of (law_any_ok (cells := cells) (p := p1) (dg := dg1) (xs := [.opq (.ref a4), .tup (Li (hts l))]) (by simp) (by simp) (by omega) (by omega) hc) rfl fun t as' h => ?_
      obtain ⟨r2, p2, dg2, hr2, rfl, rfl, hp2, hq2⟩ := h
      refine ⟨rfl, ?_⟩
      simp only [List.mem_cons, List.not_mem_nil, or_false] at hr2
      rcases hr2 with rfl | rfl
      · refine .inl ⟨rfl, ?_⟩
        walk_at "w"
        refine call_eq (Row_of_m b h0 h1) rfl ?_
        walk_at "w"
        exact ⟨_, _, _, _, rfl, rfl, rfl, _, _, by omega, by omega, rfl⟩
      · refine .inr ?_
        walk_at "w"
        refine call_eq (Row_of_t b h0 h1) rfl ?_
        walk_at "w"
        exact ⟨_, _, _, _, rfl, rfl, rfl, _, _, by omega, by omega, rfl⟩
      done
    · refine .inr ?_
      apply wpa_nil
      refine ⟨rfl, rfl, ⟨by decide, by decide⟩, ?_⟩
      refine new_row_t b (l := l) rfl h0 h1 ?_
      apply wpa_cons
      refine wp_fnK ?_
      apply wpc_k
      apply wpa_cons
      refine wp_back (j := 4) (a := a4) (.head _) ?_
      walk_at "w"
      refine call_of (law_any_ok (cells := cells) (p := p1) (dg := dg1) (xs := [.opq (.ref a4), .tup (Li (hts l))]) (by simp) (by simp) (by omega) (by omega) hc) rfl fun t as' h => ?_
      obtain ⟨r2, p2, dg2, hr2, rfl, rfl, hp2, hq2⟩ := h
      refine ⟨rfl, ?_⟩
      simp only [List.mem_cons, List.not_mem_nil, or_false] at hr2
      rcases hr2 with rfl | rfl
      · refine .inl ⟨rfl, ?_⟩
        walk_at "w"
        refine call_eq (Row_of_m b h0 h1) rfl ?_
        walk_at "w"
        exact ⟨_, _, _, _, rfl, rfl, rfl, _, _, by omega, by omega, rfl⟩
      · refine .inr ?_
        walk_at "w"
        refine call_eq (Row_of_t b h0 h1) rfl ?_
        walk_at "w"
        exact ⟨_, _, _, _, rfl, rfl, rfl, _, _, by omega, by omega, rfl⟩
      done
  · rintro ρ ⟨p1, dg1, hp1, hq1, rfl⟩
    show WpS _ _ _ _
    refine wps_frz 3 hB rfl rfl ?_
    refine wps_frz 5 hB rfl rfl ?_
    refine wps_frz 6 hB rfl rfl ?_
    walk_at "w"
    refine ⟨_, 0, _, rfl, rfl, ix_nn (by omega) (by rw [Li_len]; omega), ?_⟩
    walk_at "w"
    refine ⟨_, -1, _, rfl, rfl, ix_last (by rw [Li_len]; omega), ?_⟩
    walk_at "w"
    refine ⟨by rw [List.length_set, Li_len]; omega, ?_⟩
    walk_at "w"
    have hb40 : ∀ x ∈ l, x.natAbs < 10 ^ 40 := fun x hx => Nat.lt_of_le_of_lt (hb x hx) (by decide)
    generalize List.set (Li l) 0 (D.int 99) ++ [D.int 7] = pa
    generalize List.set (Li (hts l)) _ (D.int 99) = pb
    refine for_ok (fun i ρ => ∃ s, ρ = [.m (tapC cells p1 dg1), .d (.lst (Li l)), .m (.lst pa), .d (.lst (Li (hts l))), .m (.lst pb), .d (rowD l), .d (rowD l), s, .u]) ⟨_, rfl⟩ (fun i x ρ2 hx ⟨s, e⟩ => ?_) (fun ρ2 ⟨s, e⟩ => ?_)
    · subst e
      have hx' : x = rowD l := by
        have := List.mem_of_getElem? hx
        simpa using this
      subst hx'
      walk_at "w"
      refine o_ix rfl (atI_Li (hts_last l)) ?_
      walk_at "w"
      refine call_eq (Row_str_ok b h1 hb40) rfl ?_
      walk_at "w"
      refine lc_map strF rfl rfl (by rw [Li_len]; omega) (fun x hx => ?_) ?_
      · obtain ⟨j, hj, rfl⟩ := mem_Li hx
        walk_at "w"
        refine opa_or1 (a_str (str_log (hb40 j hj)) ?_)
        walk_at "w"
      · rw [map_Ls (g := fun i => (toString i : Str)) fun i => rfl]
        walk_at "w"
        refine ⟨join_ok h1 hb40, ?_⟩
        walk_at "w"
        exact ⟨_, rfl⟩
    · subst e
      walk_at "w"
      refine call_of (law_like_right_ok (cells := cells) (p := p1) (dg := dg1) b h0 h1 hb (by omega) (by omega) hc) rfl fun t as' h => ?_
      obtain ⟨p2, dg2, rfl, rfl, hp3, hq3⟩ := h
      refine ⟨rfl, ?_⟩
      walk_at "w"
      exact ⟨rfl, _, _, rfl, rfl, by omega, by omega⟩
end
end K04

set_option Elab.async false
set_option linter.all false
set_option maxRecDepth 100000
set_option maxHeartbeats 4000000
namespace K04
open PySem PySem.Spec PyProof.Rows L2 Rl RZ RT Dl
local macro_rules | `(tactic| walk_at "fact") => `(tactic| fail)
local macro_rules | `(tactic| walk_at "num") => `(tactic| first | rfl | assumption | omega | decide)
local macro_rules | `(tactic| walk_at "kit") => `(tactic| fail)
local macro_rules | `(tactic| walk_at "ty") => `(tactic| fail)
local macro_rules | `(tactic| walk_at "kb") => `(tactic| first | exact kb_NoneType_int | exact kb_NoneType_bool | exact kb_NoneType_str | exact kb_NoneType_list | exact kb_NoneType_tuple | exact kb_NoneType_dict | exact kb_bool_int | exact kb_bool_bool | exact kb_bool_str | exact kb_bool_list | exact kb_bool_tuple | exact kb_bool_dict | exact kb_int_int | exact kb_int_bool | exact kb_int_str | exact kb_int_list | exact kb_int_tuple | exact kb_int_dict | exact kb_str_int | exact kb_str_bool | exact kb_str_str | exact kb_str_list | exact kb_str_tuple | exact kb_str_dict | exact kb_list_int | exact kb_list_bool | exact kb_list_str | exact kb_list_list | exact kb_list_tuple | exact kb_list_dict | exact kb_tuple_int | exact kb_tuple_bool | exact kb_tuple_str | exact kb_tuple_list | exact kb_tuple_tuple | exact kb_tuple_dict)
local macro_rules | `(tactic| walk_at "k2") => `(tactic| first | exact k2_list | exact k2_tuple | exact k2_int | exact k2_str | exact k2_bool | exact k2_NoneType)
local macro_rules | `(tactic| walk_at "call") => `(tactic| fail)
local macro_rules | `(tactic| walk_at "cl") => `(tactic| dsimp only [toD, fzT, upR, List.map, List.set, List.getD, List.getElem?_cons_zero, List.getElem?_cons_succ, Option.getD, List.append, List.cons_append, List.nil_append, wipeS, argsOf, retT, toS, OC.toD, List.replicate, Bool.not_true, Bool.not_false, Dl.isNon, Int.reduceToNat])
local macro_rules | `(tactic| walk_at "s") => `(tactic| with_reducible first
  | apply wps_asg
  | apply wps_drop
  | apply wps_ret
  | apply wps_retN
  | (apply wps_next; try dsimp only)
  | (apply wps_brk; try dsimp only)
  | (apply wps_cont; try dsimp only)
  | apply wps_if
  | apply wps_fld2
  | (apply wp_var; (· with_unfolding_all rfl))
  | apply wp_int
  | apply wp_str
  | apply wp_bl
  | apply wp_non
  | apply wp_ty
  | apply wp_cls
  | apply wp_op
  | apply wp_un
  | (apply wp_isi2)
  | apply wp_cb
  | apply wp_tup
  | apply wp_lst
  | apply wp_if
  | apply wp_orT
  | apply wp_andT
  | apply wp_notT
  | apply wp_fld
  | apply wp_chain
  | apply wp_sl
  | apply wpa_cons
  | apply wpa_nil
  | apply wpad_cons
  | apply wpad_nil
  | (apply wpd_opq; (· with_unfolding_all first | exact List.Mem.head _ | exact List.Mem.tail _ (List.Mem.head _) | exact List.Mem.tail _ (List.Mem.tail _ (List.Mem.head _))))
  | apply wpd_of
  | apply wpo_none
  | apply wpo_some
  | apply wpt_test
  | apply wpt_B
  | apply wpt_tru
  | apply wpt_and
  | apply wpt_or
  | apply wpt_not
  | apply wp_fn
  | apply wp_fnK
  | apply wp_mt
  | apply wp_mtK
  | apply wp_new
  | apply wp_newK
  | apply wpc_p
  | apply wpc_k
  | apply wpc_pk
  | (apply wpg_name; (· assumption); (· with_unfolding_all rfl); (· with_unfolding_all rfl); (· with_unfolding_all rfl))
  | (refine wpg_tup ?_ ?_; (· with_unfolding_all rfl))
  | apply wpg_sub
  | apply wpgs_cons
  | apply wpgs_nil
  | apply wpt_yes
  | (refine turn ?_ ?_; (· with_unfolding_all rfl))
  | apply wps_forW
  | (apply wp_lcW; (· assumption); (· with_unfolding_all rfl); (· walk_at "gin"))
  | apply wpi_r1
  | apply wpi_r2
  | apply wpi_zip
  | apply wpi_enum
  | apply wp_join
  | apply wp_append
  | apply wp_extend
  | apply br_t
  | apply br_f
  | apply br_nt
  | apply br_nf)
local macro_rules | `(tactic| walk_at "gin") => `(tactic| first | exact gin_name rfl | exact gin_tup (gin_cons (gin_name rfl) (gin_cons (gin_name rfl) gin_nil)) | exact gin_tup (gin_cons (gin_name rfl) (gin_cons (gin_name rfl) (gin_cons (gin_name rfl) gin_nil))))
local macro_rules | `(tactic| walk_at "it") => `(tactic| first
  | (with_reducible apply wpi_lst; walk_at "w"; with_reducible first | show ForOk _ _ _ _ _ _ | show LcOk _ _ _ _ _ _ _ _)
  | (with_reducible apply wpi_tup; walk_at "w"; with_reducible first | show ForOk _ _ _ _ _ _ | show LcOk _ _ _ _ _ _ _ _))
local macro_rules | `(tactic| walk_at "o") => `(tactic| with_reducible first
  | apply o_add
  | apply o_sub
  | apply o_lt
  | apply o_le
  | apply o_gt
  | apply o_ge
  | apply o_eqi
  | apply o_nei
  | apply o_eqs
  | apply o_nes
  | apply o_neg
  | (apply op2_or1; first | apply o_eqi | apply o_nei | apply o_eqs | apply o_nes)
  | apply o_eqT
  | apply o_neT
  | (apply op2_or1; first | apply o_eqT | apply o_neT)
  | (apply opa_or2; apply a_lenO; (· with_unfolding_all rfl))
  | (apply opa_or2; apply a_strO; (· with_unfolding_all rfl))
  | (apply a_sum; (· with_unfolding_all rfl))
  | apply a_int
  | apply a_abs
  | (refine o_md ?_ ?_; (· with_unfolding_all walk_at "num"))
  | (apply o_fd; (· with_unfolding_all walk_at "num"); (· exact small_log (by omega) (by omega)))
  | (apply o_mul; (· with_unfolding_all first | exact cmul_l (by omega) (by omega) | exact cmul_r (by omega) (by omega)))
  | (apply o_pw; (· with_unfolding_all exact cpow_ok (by omega) (by omega) (by omega)))
  | (apply o_ix; (· with_unfolding_all rfl); (· with_unfolding_all rfl))
  | apply a_intb
  | (apply o_is; (· with_unfolding_all rfl))
  | (apply o_isn; (· with_unfolding_all rfl))
  | (apply a_lenL; (· with_unfolding_all rfl))
  | (apply opa_or1; apply a_lenL; (· with_unfolding_all rfl))
  | (apply a_len; (· with_unfolding_all rfl))
  | (apply opa_or1; apply a_len; (· with_unfolding_all rfl))
  | (apply a_tuple; (· with_unfolding_all rfl))
  | apply a_tupleT
  | (apply a_list; (· with_unfolding_all rfl))
  | (apply a_isi; (· with_unfolding_all rfl); (· walk_at "kb"))
  | (apply a_isiO; (· with_unfolding_all rfl); (· walk_at "kit"))
  | (apply a_isiI; (· with_unfolding_all rfl); (· walk_at "ty"); (· walk_at "kit")))
local macro_rules | `(tactic| walk_at "e") => `(tactic| first
  | (refine ⟨_, _, _, _, rfl, ?_, ?_, rfl, ?_⟩; (· walk_at "fact"); (· walk_at "fact"))
  | (refine ⟨_, _, _, _, rfl, rfl, ?_, ?_, Nat.le_of_ble_eq_true rfl, rfl, Or.inl ⟨rfl, ?_⟩⟩; (· walk_at "fact"); (· walk_at "fact"))
  | (refine ⟨_, _, _, _, rfl, rfl, ?_, ?_, Nat.le_of_ble_eq_true rfl, rfl, Or.inr ⟨0, rfl, ?_⟩⟩; (· walk_at "fact"); (· walk_at "fact"))
  | (refine ⟨_, _, _, _, rfl, rfl, ?_, ?_, Nat.le_of_ble_eq_true rfl, rfl, Or.inr ⟨1, rfl, ?_⟩⟩; (· walk_at "fact"); (· walk_at "fact"))
  | (refine ⟨_, _, _, _, rfl, rfl, ?_, ?_, Nat.le_of_ble_eq_true rfl, rfl, Or.inr ⟨2, rfl, ?_⟩⟩; (· walk_at "fact"); (· walk_at "fact"))
  | (refine ⟨_, _, _, _, rfl, rfl, ?_, ?_, Nat.le_of_ble_eq_true rfl, rfl, Or.inr ⟨3, rfl, ?_⟩⟩; (· walk_at "fact"); (· walk_at "fact"))
  | (refine ⟨_, _, _, _, rfl, rfl, ?_, ?_, Nat.le_of_ble_eq_true rfl, rfl, Or.inr ⟨4, rfl, ?_⟩⟩; (· walk_at "fact"); (· walk_at "fact"))
  | refine ⟨rfl, rfl, rfl, ?_⟩
  | (refine ⟨rfl, rfl, ⟨by decide, by decide⟩, ?_⟩)
  | (refine ⟨_, _, rfl, ?_, ?_⟩; (· walk_at "k2"))
  | refine ⟨_, _, _, rfl, rfl, rfl, ?_⟩
  | refine ⟨_, _, rfl, ⟨by omega, by omega, by omega, by omega⟩, ?_⟩
  | (refine ⟨_, _, rfl, rfl, ?_⟩)
  | (refine ⟨_, rfl, ⟨by omega, by omega⟩, ?_⟩)
  | (refine ⟨_, rfl, ⟨_, rfl⟩, ?_⟩)
  | (refine ⟨_, rfl, ?_⟩)
  | refine Or.inl ⟨_, _, rfl, rfl, ?_⟩
  | refine Or.inr ⟨_, _, rfl, rfl, ?_⟩
  | refine Or.inl ⟨_, rfl, ?_⟩
  | refine Or.inr (Or.inl ⟨_, rfl, ?_⟩)
  | exact ⟨rfl, rfl⟩
  | exact ⟨rfl, rfl, rfl⟩
  | (refine ⟨Nat.le_of_ble_eq_true rfl, ?_⟩))
local macro_rules | `(tactic| walk_at "b") => `(tactic| with_reducible first
  | apply br_nn
  | (refine br_p ?_ ?_; (· with_unfolding_all walk_at "num"))
  | (refine br_n ?_ ?_; (· with_unfolding_all walk_at "num"))
  | (refine nbr_p ?_ ?_; (· with_unfolding_all walk_at "num"))
  | (refine nbr_n ?_ ?_; (· with_unfolding_all walk_at "num")))
local macro_rules | `(tactic| walk_at "y") => `(tactic| first | walk_at "s" | walk_at "o" | walk_at "call" | walk_at "b" | walk_at "e" | walk_at "it" | walk_at "cl")
local macro_rules | `(tactic| walk_at "v") => `(tactic| repeat walk_at "y")
local macro_rules | `(tactic| walk_at "x") => `(tactic| first | (with_reducible apply wps_seq) | walk_at "s" | walk_at "o" | walk_at "call" | walk_at "b" | walk_at "e" | walk_at "it" | walk_at "cl")
local macro_rules | `(tactic| walk_at "w") => `(tactic| repeat walk_at "x")
/-- spots -/
def Sp_ (ps : List (Int × Int)) : List D := ps.map fun q => .tup [.int q.1, .int q.2]
abbrev Ok_ (n : Nat) (ps : List (Int × Int)) : Prop := ∀ q ∈ ps, 0 ≤ q.1 ∧ 1 ≤ q.2 ∧ q.1 + q.2 ≤ n
theorem ok_app {n : Nat} {ps : List (Int × Int)} {a c : Int} (h : Ok_ n ps) (h0 : 0 ≤ a) (h1 : 1 ≤ c) (h2 : a + c ≤ n) : Ok_ n (ps ++ [(a, c)]) := fun q hq => by
  rcases List.mem_append.mp hq with h' | h'
  · exact h q h'
  · rw [List.mem_singleton.mp h']; exact ⟨h0, h1, h2⟩
theorem ok_apps {n : Nat} {ps qs : List (Int × Int)} (h : Ok_ n ps) (g : Ok_ n qs) : Ok_ n (ps ++ qs) := fun q hq => by
  rcases List.mem_append.mp hq with h' | h'
  · exact h q h'
  · exact g q h'
theorem Sp_app (ps qs : List (Int × Int)) : Sp_ ps ++ Sp_ qs = Sp_ (ps ++ qs) := by simp [Sp_]
theorem Sp_get {ps : List (Int × Int)} {i : Nat} {x : D} (h : (Sp_ ps)[i]? = some x) : ∃ q, q ∈ ps ∧ x = .tup [.int q.1, .int q.2] := by
  unfold Sp_ at h
  rw [List.getElem?_map] at h
  obtain ⟨q, h1, h2⟩ := Option.map_eq_some_iff.mp h
  exact ⟨q, List.mem_of_getElem? h1, h2.symm⟩
theorem Sp_len (ps : List (Int × Int)) : (Sp_ ps).length = ps.length := by simp [Sp_]
/-- a stretch of one begin -/
def spotF (c : Int) : D → D
  | .int i => .tup [.int c, .int i]
  | x => x
def spots1 (c : Int) (n : Nat) : List (Int × Int) := (List.range n).map fun i : Nat => (c, (1 : Int) + i)
theorem spots_map (c : Int) (n : Nat) : (rngD 1 n).map (spotF c) = Sp_ (spots1 c n) := by
  simp [rngD, Sp_, spots1, spotF, Function.comp_def]
theorem spots_ok {c : Int} {n m : Nat} (h0 : 0 ≤ c) (h : c + n ≤ m) : Ok_ m (spots1 c n) := fun q hq => by
  obtain ⟨i, h1, h2⟩ := List.mem_map.mp hq
  have := List.mem_range.mp h1
  subst h2
  exact ⟨h0, by show (1 : Int) ≤ 1 + i; omega, by show c + (1 + (i : Int)) ≤ m; omega⟩
theorem mem_rng {lo : Int} {n : Nat} {x : D} (h : x ∈ rngD lo n) : ∃ i : Int, x = .int i := by
  obtain ⟨i, h1, h2⟩ := List.mem_map.mp h
  exact ⟨_, h2.symm⟩
section
variable {K : PySem.W.Frag} {w : World} {mg : Str → Option Value}
variable (b : Bd K mg)
include b
theorem call_sum {l : List Int} {i n : Int} {ts : List T} {ρ : List S} {k : T → List S → Prop} (h : vw ρ (ts.map fzT) = some [.d (rowD l), .d (.int i), .d (.int n)]) (h0 : 0 ≤ i) (h1 : 1 ≤ n) (h2 : i + n ≤ l.length) (hk : k (.d (.int (cut l i n).sum)) ρ) : CallOk K (sp_Row_sum_of K w) ts ρ k := call_eq (Row_sum_of_ok b h0 h1 h2) h hk
theorem call_part {l : List Int} {i n : Int} {ts : List T} {ρ : List S} {k : T → List S → Prop} (h : vw ρ (ts.map fzT) = some [.d (rowD l), .d (.int i), .d (.int n)]) (h0 : 0 ≤ i) (h1 : 1 ≤ n) (h2 : i + n ≤ l.length) (h3 : l.length ≤ 48) (hk : k (.m (rowC (cut l i n))) ρ) : CallOk K (sp_Row_part K w) ts ρ k := call_eq (Row_part_ok b h0 h1 h2 h3) h hk
local macro_rules | `(tactic| walk_at "fact") => `(tactic| first | exact cl_Row (by assumption) | exact na_Row_gains (by assumption) | exact na_Row_heights (by assumption) | exact na_Row_days (by assumption) | exact na_Row_total (by assumption))
local macro_rules | `(tactic| walk_at "kit") => `(tactic| first | exact kit_NoneType_Row (by assumption) | exact kit_bool_Row (by assumption) | exact kit_int_Row (by assumption) | exact kit_str_Row (by assumption) | exact kit_list_Row (by assumption) | exact kit_tuple_Row (by assumption) | exact kitO_Row_Row (by assumption))
local macro_rules | `(tactic| walk_at "ty") => `(tactic| exact ty_Row (by assumption))
local macro_rules | `(tactic| walk_at "call") => `(tactic| with_reducible first
  | (apply op2_or2; apply o_eqOO; (· with_unfolding_all rfl); (· with_unfolding_all rfl); (· exact ty_Row (by assumption)); (· exact nfO_Row_Row (by assumption)))
  | (apply op2_or2; apply o_neOO; (· with_unfolding_all rfl); (· with_unfolding_all rfl); (· exact ty_Row (by assumption)); (· exact nfO_Row_Row (by assumption)))
  | (apply op2_or2; apply o_eqO; (· with_unfolding_all rfl); (· with_unfolding_all rfl); (· first | exact nf_tuple_Row (by assumption) | exact nf_list_Row (by assumption) | exact nf_str_Row (by assumption)))
  | (apply call_eq (Row_eq_ok (by assumption)); (· with_unfolding_all rfl))
  | (apply call_eq (Row_eq_t (by assumption)); (· with_unfolding_all rfl))
  | (apply call_eq (Row_eq_l (by assumption)); (· with_unfolding_all rfl))
  | (apply call_eq (Row_eq_s (by assumption)); (· with_unfolding_all rfl))
  | (apply call_eq (Row_len_ok (by assumption)); (· with_unfolding_all rfl))
  | (apply new_row_l (by assumption); (· with_unfolding_all rfl); (· with_unfolding_all omega); (· with_unfolding_all omega))
  | (apply new_row_t (by assumption); (· with_unfolding_all rfl); (· with_unfolding_all omega); (· with_unfolding_all omega))
  | (apply call_sum (by assumption); (· with_unfolding_all rfl); (· with_unfolding_all omega); (· with_unfolding_all omega); (· with_unfolding_all omega))
  | (apply call_part (by assumption); (· with_unfolding_all rfl); (· with_unfolding_all omega); (· with_unfolding_all omega); (· with_unfolding_all omega); (· with_unfolding_all omega)))
theorem law_stretches_right_ok {cells l : List Int} {p dg : Int} (h0 : 0 < l.length) (h1 : l.length ≤ 48) (hp : 0 ≤ p) (hp2 : p ≤ 900000) (hc : cells.length ≤ 1000) : Fn K (sp_law_stretches_right K w) [.m (tapC cells p dg), .d (.lst (Li l))] fun t as' => ∃ p' dg', t = .d (.bl true) ∧ as' = [.m (tapC cells p' dg'), .d (.lst (Li l))] ∧ p ≤ p' ∧ p' ≤ p + 60 := by
  have hz := sizeLine_eq
  refine fn_of (N := N_law_stretches_right) (u := 8) (fun vs H Q E h => h) rfl rfl fun G pl hB => ?_
  unfold t_law_stretches_right
  apply wps_seq
  refine wps_par3 hB rfl rfl rfl (by decide) (by decide) (by decide) ?_
  walk_at "w"
  refine ⟨_, _, _, _, _, _, rfl, rfl, rfl, rfl, ?_⟩
  walk_at "cl"
  refine wps_frz 2 hB rfl rfl ?_
  walk_at "cl"
  show WpS _ _ [_, _, S.d (rowD l), _, _, _, _, _, _, _] _
  refine wps_cut (fun ρ => ∃ ps s5 s7, Ok_ l.length ps ∧ ps.length ≤ 480 ∧ ρ = [.m (tapC cells p dg), .d (.lst (Li l)), .d (rowD l), .d (.int l.length), .m (.lst (Sp_ ps)), s5, .u, s7, .u, .u]) ?_ ?_
  · walk_at "w"
    refine br_d (fun hd => ?_) (fun hd => ?_)
    · walk_at "w"
      refine for_ok (fun i ρ => ∃ ps s5, Ok_ l.length ps ∧ ps.length ≤ 10 * i ∧ i ≤ l.length ∧ ρ = [.m (tapC cells p dg), .d (.lst (Li l)), .d (rowD l), .d (.int l.length), .m (.lst (Sp_ ps)), s5, .u, .u, .u, .u]) ⟨[], .u, (fun q hq => by cases hq), by simp, Nat.zero_le _, rfl⟩ (fun i x ρ2 hx ⟨ps, s5, hok, hpl, hi, e⟩ => ?_) (fun ρ2 ⟨ps, s5, hok, hpl, hi, e⟩ => ?_)
      · subst e
        obtain ⟨hi, rfl⟩ := get_rng hx
        walk_at "w"
        refine lc_map (spotF i) rfl rfl (by rw [rngD, List.length_map, List.length_range]; omega) (fun x hx => ?_) ?_
        · obtain ⟨j, rfl⟩ := mem_rng hx
          walk_at "w"
        · rw [spots_map]
          walk_at "w"
          have hsl : ∀ n : Nat, (spots1 i n).length = n := fun n => by simp [spots1]
          refine ⟨by rw [Sp_len, Sp_len, hsl]; omega, ps ++ spots1 i ((l.length : Int) - i + 1 - 1).toNat, .d (.int i), ok_apps hok (spots_ok (by omega) (by omega)), by rw [List.length_append, hsl]; omega, by omega, ?_⟩
          rw [← Sp_app]
      · subst e
        rw [rng_len] at hpl
        exact ⟨ps, s5, .u, hok, by omega, rfl⟩
    · walk_at "w"
      refine for_ok (fun i ρ => ρ = [.m (tapC cells p dg), .d (.lst (Li l)), .d (rowD l), .d (.int l.length), .m (.lst (Sp_ [])), .u, .u, .u, .u, .u]) rfl (fun i x ρ2 hx e => ?_) (fun ρ2 e => ?_)
      · obtain ⟨hi, rfl⟩ := get_rng hx
        exact absurd hi (by simp)
      · subst e
        exact ⟨[], .u, .u, (fun q hq => by cases hq), by simp, rfl⟩
  · rintro ρ ⟨ps, s5, s7, hok, hpl, rfl⟩
    refine wps_cut (fun ρ => ∃ ps s5 s7 p' dg', Ok_ l.length ps ∧ ps.length ≤ 1000 ∧ p ≤ p' ∧ p' ≤ p + 60 ∧ ρ = [.m (tapC cells p' dg'), .d (.lst (Li l)), .d (rowD l), .d (.int l.length), .m (.lst (Sp_ ps)), s5, .u, s7, .u, .u]) ?_ ?_
    · walk_at "w"
      refine br_d (fun hd => ?_) (fun hd => ?_)
      · walk_at "w"
        refine for_ok (fun i ρ => ∃ ps s5 s7 p' dg', Ok_ l.length ps ∧ ps.length ≤ 480 + i ∧ i ≤ 30 ∧ p ≤ p' ∧ p' ≤ p + 2 * i ∧ ρ = [.m (tapC cells p' dg'), .d (.lst (Li l)), .d (rowD l), .d (.int l.length), .m (.lst (Sp_ ps)), s5, .u, s7, .u, .u]) ⟨ps, s5, s7, p, dg, hok, by omega, by omega, by omega, by omega, rfl⟩ (fun i x ρ2 hx ⟨ps, s5, s7, pa, dga, hok, hpl, hi, hpa, hqa, e⟩ => ?_) (fun ρ2 ⟨ps, s5, s7, pa, dga, hok, hpl, hi, hpa, hqa, e⟩ => ?_)
        · subst e
          obtain ⟨hi, rfl⟩ := get_rng hx
          have hi : i < 30 := hi
          walk_at "w"
          refine call_of (law_drip_ok (cells := cells) (p := pa) (dg := dga) (many := l.length) (by omega) (by omega) (by omega) (by omega) hc) rfl fun t as' h => ?_
          obtain ⟨r1, p1, dg1, rfl, hr1, hs1, rfl, hp1, hq1⟩ := h
          refine ⟨rfl, ?_⟩
          walk_at "w"
          refine call_of (law_drip_ok (cells := cells) (p := p1) (dg := dg1) (many := l.length - r1) (by omega) (by omega) (by omega) (by omega) hc) rfl fun t as' h => ?_
          obtain ⟨r2, p2, dg2, rfl, hr2, hs2, rfl, hp2, hq2⟩ := h
          refine ⟨rfl, ?_⟩
          walk_at "w"
          refine ⟨by rw [Sp_len]; omega, ps ++ [(r1, 1 + r2)], .d (.int r1), .d (.int i), p2, dg2, ok_app hok hr1 (by omega) (by omega), by simp; omega, by omega, by omega, by omega, ?_⟩
          rw [← Sp_app]
          rfl
        · subst e
          rw [rng_len] at hpl hqa
          exact ⟨ps, s5, s7, pa, dga, hok, by omega, hpa, by simp at hqa; omega, rfl⟩
      · walk_at "w"
        refine for_ok (fun i ρ => ρ = [.m (tapC cells p dg), .d (.lst (Li l)), .d (rowD l), .d (.int l.length), .m (.lst (Sp_ ps)), s5, .u, s7, .u, .u]) rfl (fun i x ρ2 hx e => ?_) (fun ρ2 e => ?_)
        · obtain ⟨hi, rfl⟩ := get_rng hx
          exact absurd hi (by simp)
        · subst e
          exact ⟨ps, s5, s7, p, dg, hok, by omega, by omega, by omega, rfl⟩
    · rintro ρ ⟨ps, s5, s7, pa, dga, hok, hpl, hpa, hqa, rfl⟩
      refine wps_frz 4 hB rfl rfl ?_
      walk_at "w"
      refine for_ok (fun i ρ => ∃ s5 s6 s8 s9, ρ = [.m (tapC cells pa dga), .d (.lst (Li l)), .d (rowD l), .d (.int l.length), .d (.lst (Sp_ ps)), s5, s6, s7, s8, s9]) ⟨_, _, _, _, rfl⟩ (fun i x ρ2 hx ⟨s5, s6, s8, s9, e⟩ => ?_) (fun ρ2 ⟨s5, s6, s8, s9, e⟩ => ?_)
      · subst e
        obtain ⟨⟨a, c⟩, hq, rfl⟩ := Sp_get hx
        obtain ⟨ha, hcc, hac⟩ := hok _ hq
        have ha : 0 ≤ a := ha
        have hcc : 1 ≤ c := hcc
        have hac : a + c ≤ l.length := hac
        have hcl := cut_len (l := l) (b := a) (n := c) ha (by omega) hac
        walk_at "v"
        apply wps_seq
        walk_at "v"
        rw [cutD_Li]
        refine wps_frz 8 hB rfl rfl ?_
        walk_at "cl"
        apply wps_seq
        walk_at "v"
        apply wps_seq
        refine wps_asgD ?_
        walk_at "v"
        refine call_eq (law_heights_ok (l := cut l a c) (by omega)) rfl ?_
        walk_at "v"
        exact ⟨_, _, _, _, rfl⟩
      · subst e
        have hca := cut_all l
        have hs : (cut l 0 l.length).sum = l.sum := by rw [hca]
        walk_at "w"
        exact ⟨rfl, _, _, by rw [decide_eq_true rfl], rfl, by omega, by omega⟩
end

end K04

set_option Elab.async false
set_option linter.all false
set_option maxRecDepth 100000
set_option maxHeartbeats 4000000
namespace K04
open PySem PySem.Spec PyProof.Rows L2 Rl RZ RT Dl
local macro_rules | `(tactic| walk_at "fact") => `(tactic| fail)
local macro_rules | `(tactic| walk_at "num") => `(tactic| first | rfl | assumption | omega | decide)
local macro_rules | `(tactic| walk_at "kit") => `(tactic| fail)
local macro_rules | `(tactic| walk_at "ty") => `(tactic| fail)
local macro_rules | `(tactic| walk_at "kb") => `(tactic| first | exact kb_NoneType_int | exact kb_NoneType_bool | exact kb_NoneType_str | exact kb_NoneType_list | exact kb_NoneType_tuple | exact kb_NoneType_dict | exact kb_bool_int | exact kb_bool_bool | exact kb_bool_str | exact kb_bool_list | exact kb_bool_tuple | exact kb_bool_dict | exact kb_int_int | exact kb_int_bool | exact kb_int_str | exact kb_int_list | exact kb_int_tuple | exact kb_int_dict | exact kb_str_int | exact kb_str_bool | exact kb_str_str | exact kb_str_list | exact kb_str_tuple | exact kb_str_dict | exact kb_list_int | exact kb_list_bool | exact kb_list_str | exact kb_list_list | exact kb_list_tuple | exact kb_list_dict | exact kb_tuple_int | exact kb_tuple_bool | exact kb_tuple_str | exact kb_tuple_list | exact kb_tuple_tuple | exact kb_tuple_dict)
local macro_rules | `(tactic| walk_at "k2") => `(tactic| first | exact k2_list | exact k2_tuple | exact k2_int | exact k2_str | exact k2_bool | exact k2_NoneType)
local macro_rules | `(tactic| walk_at "call") => `(tactic| fail)
local macro_rules | `(tactic| walk_at "cl") => `(tactic| dsimp only [toD, fzT, upR, List.map, List.set, List.getD, List.getElem?_cons_zero, List.getElem?_cons_succ, Option.getD, List.append, List.cons_append, List.nil_append, wipeS, argsOf, retT, toS, OC.toD, List.replicate, Bool.not_true, Bool.not_false, Dl.isNon, Int.reduceToNat])
local macro_rules | `(tactic| walk_at "s") => `(tactic| with_reducible first
  | apply wps_asg
  | apply wps_drop
  | apply wps_ret
  | apply wps_retN
  | (apply wps_next; try dsimp only)
  | (apply wps_brk; try dsimp only)
  | (apply wps_cont; try dsimp only)
  | apply wps_if
  | apply wps_fld2
  | (apply wp_var; (· with_unfolding_all rfl))
  | apply wp_int
  | apply wp_str
  | apply wp_bl
  | apply wp_non
  | apply wp_ty
  | apply wp_cls
  | apply wp_op
  | apply wp_un
  | (apply wp_isi2)
  | apply wp_cb
  | apply wp_tup
  | apply wp_lst
  | apply wp_if
  | apply wp_orT
  | apply wp_andT
  | apply wp_notT
  | apply wp_fld
  | apply wp_chain
  | (apply wp_slQ; (· assumption))
  | apply wp_sl
  | apply wpa_cons
  | apply wpa_nil
  | apply wpad_cons
  | apply wpad_nil
  | (apply wpd_opq; (· with_unfolding_all first | exact List.Mem.head _ | exact List.Mem.tail _ (List.Mem.head _) | exact List.Mem.tail _ (List.Mem.tail _ (List.Mem.head _))))
  | apply wpd_of
  | apply wpo_none
  | apply wpo_some
  | apply wpt_test
  | apply wpt_B
  | apply wpt_tru
  | apply wpt_and
  | apply wpt_or
  | apply wpt_not
  | apply wp_fn
  | apply wp_fnK
  | apply wp_mt
  | apply wp_mtK
  | apply wp_new
  | apply wp_newK
  | apply wpc_p
  | apply wpc_k
  | apply wpc_pk
  | (apply wpg_name; (· assumption); (· with_unfolding_all rfl); (· with_unfolding_all rfl); (· with_unfolding_all rfl))
  | (refine wpg_tup ?_ ?_; (· with_unfolding_all rfl))
  | apply wpg_sub
  | apply wpgs_cons
  | apply wpgs_nil
  | apply wpt_yes
  | (refine turn ?_ ?_; (· with_unfolding_all rfl))
  | apply wps_forW
  | (apply wp_lcW; (· assumption); (· with_unfolding_all rfl); (· walk_at "gin"))
  | apply wpi_r1
  | apply wpi_r2
  | apply wpi_zip
  | apply wpi_enum
  | apply wp_join
  | apply wp_append
  | apply wp_extend
  | apply br_t
  | apply br_f
  | apply br_nt
  | apply br_nf)
local macro_rules | `(tactic| walk_at "gin") => `(tactic| first | exact gin_name rfl | exact gin_tup (gin_cons (gin_name rfl) (gin_cons (gin_name rfl) gin_nil)) | exact gin_tup (gin_cons (gin_name rfl) (gin_cons (gin_name rfl) (gin_cons (gin_name rfl) gin_nil))))
local macro_rules | `(tactic| walk_at "it") => `(tactic| first
  | (with_reducible apply wpi_lst; walk_at "w"; with_reducible first | show ForOk _ _ _ _ _ _ | show LcOk _ _ _ _ _ _ _ _)
  | (with_reducible apply wpi_tup; walk_at "w"; with_reducible first | show ForOk _ _ _ _ _ _ | show LcOk _ _ _ _ _ _ _ _))
local macro_rules | `(tactic| walk_at "o") => `(tactic| with_reducible first
  | apply o_add
  | apply o_sub
  | apply o_lt
  | apply o_le
  | apply o_gt
  | apply o_ge
  | apply o_eqi
  | apply o_nei
  | apply o_eqs
  | apply o_nes
  | apply o_neg
  | (apply op2_or1; first | apply o_eqi | apply o_nei | apply o_eqs | apply o_nes)
  | apply o_eqT
  | apply o_neT
  | (apply op2_or1; first | apply o_eqT | apply o_neT)
  | (apply opa_or2; apply a_lenO; (· with_unfolding_all rfl))
  | (apply opa_or2; apply a_strO; (· with_unfolding_all rfl))
  | (apply a_sum; (· with_unfolding_all rfl))
  | apply a_int
  | apply a_abs
  | (refine o_md ?_ ?_; (· with_unfolding_all walk_at "num"))
  | (apply o_fd; (· with_unfolding_all walk_at "num"); (· exact small_log (by omega) (by omega)))
  | (apply o_mul; (· with_unfolding_all first | exact cmul_l (by omega) (by omega) | exact cmul_r (by omega) (by omega)))
  | (apply o_pw; (· with_unfolding_all exact cpow_ok (by omega) (by omega) (by omega)))
  | (apply o_ix; (· with_unfolding_all rfl); (· with_unfolding_all rfl))
  | apply a_intb
  | (apply o_is; (· with_unfolding_all rfl))
  | (apply o_isn; (· with_unfolding_all rfl))
  | (apply a_lenL; (· with_unfolding_all rfl))
  | (apply opa_or1; apply a_lenL; (· with_unfolding_all rfl))
  | (apply a_len; (· with_unfolding_all rfl))
  | (apply opa_or1; apply a_len; (· with_unfolding_all rfl))
  | (apply a_tuple; (· with_unfolding_all rfl))
  | apply a_tupleT
  | (apply a_list; (· with_unfolding_all rfl))
  | (apply a_isi; (· with_unfolding_all rfl); (· walk_at "kb"))
  | (apply a_isiO; (· with_unfolding_all rfl); (· walk_at "kit"))
  | (apply a_isiI; (· with_unfolding_all rfl); (· walk_at "ty"); (· walk_at "kit")))
local macro_rules | `(tactic| walk_at "e") => `(tactic| first
  | (refine ⟨_, _, _, _, rfl, ?_, ?_, rfl, ?_⟩; (· walk_at "fact"); (· walk_at "fact"))
  | (refine ⟨_, _, _, _, rfl, rfl, ?_, ?_, Nat.le_of_ble_eq_true rfl, rfl, Or.inl ⟨rfl, ?_⟩⟩; (· walk_at "fact"); (· walk_at "fact"))
  | (refine ⟨_, _, _, _, rfl, rfl, ?_, ?_, Nat.le_of_ble_eq_true rfl, rfl, Or.inr ⟨0, rfl, ?_⟩⟩; (· walk_at "fact"); (· walk_at "fact"))
  | (refine ⟨_, _, _, _, rfl, rfl, ?_, ?_, Nat.le_of_ble_eq_true rfl, rfl, Or.inr ⟨1, rfl, ?_⟩⟩; (· walk_at "fact"); (· walk_at "fact"))
  | (refine ⟨_, _, _, _, rfl, rfl, ?_, ?_, Nat.le_of_ble_eq_true rfl, rfl, Or.inr ⟨2, rfl, ?_⟩⟩; (· walk_at "fact"); (· walk_at "fact"))
  | (refine ⟨_, _, _, _, rfl, rfl, ?_, ?_, Nat.le_of_ble_eq_true rfl, rfl, Or.inr ⟨3, rfl, ?_⟩⟩; (· walk_at "fact"); (· walk_at "fact"))
  | (refine ⟨_, _, _, _, rfl, rfl, ?_, ?_, Nat.le_of_ble_eq_true rfl, rfl, Or.inr ⟨4, rfl, ?_⟩⟩; (· walk_at "fact"); (· walk_at "fact"))
  | refine ⟨rfl, rfl, rfl, ?_⟩
  | (refine ⟨rfl, rfl, ⟨by decide, by decide⟩, ?_⟩)
  | (refine ⟨_, _, rfl, ?_, ?_⟩; (· walk_at "k2"))
  | refine ⟨_, _, _, rfl, rfl, rfl, ?_⟩
  | refine ⟨_, _, rfl, ⟨by omega, by omega, by omega, by omega⟩, ?_⟩
  | (refine ⟨_, _, rfl, rfl, ?_⟩)
  | (refine ⟨_, rfl, ⟨by omega, by omega⟩, ?_⟩)
  | (refine ⟨_, rfl, ⟨_, rfl⟩, ?_⟩)
  | (refine ⟨_, rfl, ?_⟩)
  | refine Or.inl ⟨_, _, rfl, rfl, ?_⟩
  | refine Or.inr ⟨_, _, rfl, rfl, ?_⟩
  | refine Or.inl ⟨_, rfl, ?_⟩
  | refine Or.inr (Or.inl ⟨_, rfl, ?_⟩)
  | exact ⟨rfl, rfl⟩
  | exact ⟨rfl, rfl, rfl⟩
  | (refine ⟨Nat.le_of_ble_eq_true rfl, ?_⟩))
local macro_rules | `(tactic| walk_at "b") => `(tactic| with_reducible first
  | apply br_nn
  | (refine br_p ?_ ?_; (· with_unfolding_all walk_at "num"))
  | (refine br_n ?_ ?_; (· with_unfolding_all walk_at "num"))
  | (refine nbr_p ?_ ?_; (· with_unfolding_all walk_at "num"))
  | (refine nbr_n ?_ ?_; (· with_unfolding_all walk_at "num")))
local macro_rules | `(tactic| walk_at "y") => `(tactic| first | walk_at "s" | walk_at "o" | walk_at "call" | walk_at "b" | walk_at "e" | walk_at "it" | walk_at "cl")
local macro_rules | `(tactic| walk_at "v") => `(tactic| repeat walk_at "y")
local macro_rules | `(tactic| walk_at "x") => `(tactic| first | (with_reducible apply wps_seq) | walk_at "s" | walk_at "o" | walk_at "call" | walk_at "b" | walk_at "e" | walk_at "it" | walk_at "cl")
local macro_rules | `(tactic| walk_at "w") => `(tactic| repeat walk_at "x")
section
variable {K : PySem.W.Frag} {w : World}
theorem law_tap_q {l : List Int} {a : Addr} (hS : ∀ H, SqL K H a (l.map V.int)) : Pure K (sp_law_tap K w) [.d (.opq (.ref a))] fun t => t = .m (.lst [.lst (Li (Dl.cutD l none (some 60))), .int 0, .int 0]) := by
  have hz := sizeLine_eq
  have h60 : (Dl.cutD l none (some 60)).length ≤ 60 := by
    unfold Dl.cutD HT.sIx
    simp only [List.length_take, List.length_drop]
    rw [if_neg (by omega)]
    omega
  refine fn_of (N := N_law_tap) (u := 1) (fun vs H Q E h => h) rfl rfl fun G pl hB => ?_
  unfold t_law_tap
  walk_at "v"
  apply wpi_lst
  walk_at "v"
  refine ⟨rfl, ?_⟩
  walk_at "v"
  refine lc_map id rfl rfl (by rw [Li_len]; omega) (fun x hx => ?_) ?_
  · obtain ⟨j, _, rfl⟩ := mem_Li hx
    walk_at "w"
  · rw [List.map_id]
    walk_at "w"
end
section
variable {K : PySem.W.Frag} {w : World} {mg : Str → Option Value}
variable (b : Bd K mg)
include b
local macro_rules | `(tactic| walk_at "fact") => `(tactic| first | exact cl_Row (by assumption) | exact na_Row_gains (by assumption) | exact na_Row_heights (by assumption) | exact na_Row_days (by assumption) | exact na_Row_total (by assumption))
local macro_rules | `(tactic| walk_at "kit") => `(tactic| first | exact kit_NoneType_Row (by assumption) | exact kit_bool_Row (by assumption) | exact kit_int_Row (by assumption) | exact kit_str_Row (by assumption) | exact kit_list_Row (by assumption) | exact kit_tuple_Row (by assumption) | exact kitO_Row_Row (by assumption))
local macro_rules | `(tactic| walk_at "ty") => `(tactic| exact ty_Row (by assumption))
local macro_rules | `(tactic| walk_at "call") => `(tactic| with_reducible first
  | (apply op2_or2; apply o_eqOO; (· with_unfolding_all rfl); (· with_unfolding_all rfl); (· exact ty_Row (by assumption)); (· exact nfO_Row_Row (by assumption)))
  | (apply op2_or2; apply o_neOO; (· with_unfolding_all rfl); (· with_unfolding_all rfl); (· exact ty_Row (by assumption)); (· exact nfO_Row_Row (by assumption)))
  | (apply op2_or2; apply o_eqO; (· with_unfolding_all rfl); (· with_unfolding_all rfl); (· first | exact nf_tuple_Row (by assumption) | exact nf_list_Row (by assumption) | exact nf_str_Row (by assumption)))
  | (apply call_eq (Row_eq_ok (by assumption)); (· with_unfolding_all rfl))
  | (apply call_eq (Row_eq_t (by assumption)); (· with_unfolding_all rfl))
  | (apply call_eq (Row_eq_l (by assumption)); (· with_unfolding_all rfl))
  | (apply call_eq (Row_eq_s (by assumption)); (· with_unfolding_all rfl))
  | (apply call_eq (Row_len_ok (by assumption)); (· with_unfolding_all rfl))
  | (apply new_row_l (by assumption); (· with_unfolding_all rfl); (· with_unfolding_all omega); (· with_unfolding_all omega))
  | (apply new_row_t (by assumption); (· with_unfolding_all rfl); (· with_unfolding_all omega); (· with_unfolding_all omega))
  | (apply call_sum (by assumption); (· with_unfolding_all rfl); (· with_unfolding_all omega); (· with_unfolding_all omega); (· with_unfolding_all omega))
  | (apply call_part (by assumption); (· with_unfolding_all rfl); (· with_unfolding_all omega); (· with_unfolding_all omega); (· with_unfolding_all omega); (· with_unfolding_all omega)))
theorem law_ok {l : List Int} {x : D} (htap : Pure K (sp_law_tap K w) [.d x] fun t => t = .m (.lst [.lst (Li (Dl.cutD l none (some 60))), .int 0, .int 0])) : Fn K (sp_law K w) [.d x] fun t as' => t = .d (.bl true) := by
  have hz := sizeLine_eq
  have hc : (Dl.cutD l none (some 60)).length ≤ 1000 := by
    unfold Dl.cutD HT.sIx
    simp only [List.length_take, List.length_drop]
    rw [if_neg (by omega)]
    omega
  generalize hcells : Dl.cutD l none (some 60) = cells at hc htap
  refine fn_of (N := N_law) (u := 3) (fun vs H Q E h => h) rfl rfl fun G pl hB => ?_
  unfold t_law
  walk_at "w"
  refine call_eq htap rfl ?_
  walk_at "w"
  refine for_ok (fun i ρ => ∃ s2 s3, ∃ p dg : Int, 0 ≤ p ∧ p ≤ 1000 * i ∧ i ≤ 3 ∧ ρ = [.d x, .m (tapC cells p dg), s2, s3]) ⟨_, _, 0, 0, by omega, by omega, by omega, rfl⟩ (fun i x ρ2 hx ⟨s2, s3, p, dg, hp0, hq0, hi3, e⟩ => ?_) (fun ρ2 ⟨s2, s3, p, dg, hp0, hq0, hi3, e⟩ => ?_)
  · subst e
    obtain ⟨hi, rfl⟩ := get_rng hx
    have hi : i < 3 := hi
    walk_at "v"
    apply wps_seq
    refine wps_asgD ?_
    walk_at "v"
    refine call_of (law_any_ok (cells := cells) (p := p) (dg := dg) (xs := [.int 6, .int 1, .int 48, .int 12, .int 3, .int 2, .int 7, .int 24, .int 9, .int 47]) (by simp) (by simp) (by omega) (by omega) hc) rfl fun t as' h => ?_
    obtain ⟨r1, p1, dg1, hr1, rfl, rfl, hp1, hq1⟩ := h
    refine ⟨rfl, ?_⟩
    obtain ⟨d, hd1, hd2, rfl⟩ : ∃ d : Int, 1 ≤ d ∧ d ≤ 48 ∧ r1 = .int d := by
      simp only [List.mem_cons, List.not_mem_nil, or_false] at hr1
      rcases hr1 with rfl | rfl | rfl | rfl | rfl | rfl | rfl | rfl | rfl | rfl <;> exact ⟨_, by decide, by decide, rfl⟩
    walk_at "v"
    refine call_of (law_gains_ok (cells := cells) (p := p1) (dg := dg1) (days := d) b hd1 hd2 (by omega) (by omega) hc) rfl fun t as' h => ?_
    obtain ⟨g, p2, dg2, rfl, hgl, hgb, rfl, hp2, hq2⟩ := h
    refine ⟨rfl, ?_⟩
    walk_at "v"
    refine call_of (law_made_right_ok (cells := cells) (p := p2) (dg := dg2) b (l := g) (by omega) (by omega) hgb (by omega) (by omega) hc) rfl fun t as' h => ?_
    obtain ⟨p3, dg3, rfl, rfl, hp3, hq3⟩ := h
    refine ⟨rfl, ?_⟩
    walk_at "v"
    refine call_of (law_stretches_right_ok (cells := cells) (p := p3) (dg := dg3) b (l := g) (by omega) (by omega) (by omega) (by omega) hc) rfl fun t as' h => ?_
    obtain ⟨p4, dg4, rfl, rfl, hp4, hq4⟩ := h
    refine ⟨rfl, ?_⟩
    walk_at "v"
    exact ⟨_, _, p4, dg4, by omega, by omega, by omega, rfl⟩
  · subst e
    walk_at "w"
end

end K04

set_option Elab.async false
set_option linter.all false
set_option maxRecDepth 100000
set_option maxHeartbeats 0
namespace K04
open PySem PySem.Spec PyProof.Rows L2 Rl RZ RT Dl
section
variable {P : Program} {w : World} {K : PySem.W.Frag} {mg : Str → Option Value} {base : Heap}
theorem all_ok (b : Bd K mg) : GoodF P w K mg base 7 d_law ["_law_script"] (sp_law K w) := by
  have h_Row_eq : GoodF P w K mg base 1 d_Row_eq ["self", "other"] (sp_Row_eq K w) := ok_Row_eq b 
  have h_heights_of : GoodF P w K mg base 1 d_heights_of ["gains"] (sp_heights_of K w) := ok_heights_of b 
  have h_is_integer : GoodF P w K mg base 1 d_is_integer ["value"] (sp_is_integer K w) := ok_is_integer b 
  have h_are_integers : GoodF P w K mg base 2 d_are_integers ["value"] (sp_are_integers K w) := ok_are_integers b h_is_integer
  have h_Row_init : GoodF P w K mg base 3 d_Row_init ["self", "gains"] (sp_Row_init K w) := ok_Row_init b h_heights_of h_are_integers
  have h_is_within : GoodF P w K mg base 2 d_is_within ["value", "least", "most"] (sp_is_within K w) := ok_is_within b h_is_integer
  have h_need_number : GoodF P w K mg base 3 d_need_number ["value", "part", "least", "most"] (sp_need_number K w) := ok_need_number b h_is_within
  have h_need_stretch : GoodF P w K mg base 4 d_need_stretch ["row", "begin", "length"] (sp_need_stretch K w) := ok_need_stretch b h_need_number
  have h_Row_part : GoodF P w K mg base 5 d_Row_part ["self", "begin", "length"] (sp_Row_part K w) := ok_Row_part b h_Row_init h_need_stretch
  have h_Row_sum_of : GoodF P w K mg base 5 d_Row_sum_of ["self", "begin", "length"] (sp_Row_sum_of K w) := ok_Row_sum_of b h_need_stretch
  have h_law_heights : GoodF P w K mg base 1 d_law_heights ["_law_gains_here"] (sp_law_heights K w) := ok_law_heights b 
  have h_Row_len : GoodF P w K mg base 1 d_Row_len ["self"] (sp_Row_len K w) := ok_Row_len b 
  have h_law_drip : GoodF P w K mg base 3 d_law_drip ["_law_tap_here", "_law_many"] (sp_law_drip K w) := ok_law_drip b h_Row_len h_Row_eq
  have h_law_stretches_right : GoodF P w K mg base 6 d_law_stretches_right ["_law_tap_here", "_law_gains_here"] (sp_law_stretches_right K w) := ok_law_stretches_right b h_Row_eq h_Row_part h_Row_sum_of h_law_heights h_law_drip h_Row_len h_Row_init
  have h_Row_str : GoodF P w K mg base 1 d_Row_str ["self"] (sp_Row_str K w) := ok_Row_str b 
  have h_law_any : GoodF P w K mg base 4 d_law_any ["_law_tap_here", "_law_some"] (sp_law_any K w) := ok_law_any b h_law_drip h_Row_len
  have h_law_like_right : GoodF P w K mg base 5 d_law_like_right ["_law_tap_here", "_law_gains_here", "_law_row"] (sp_law_like_right K w) := ok_law_like_right b h_Row_eq h_Row_init h_Row_len h_Row_str h_law_any h_law_drip
  have h_Row_of : GoodF P w K mg base 5 d_Row_of ["heights"] (sp_Row_of K w) := ok_Row_of b h_Row_init h_are_integers
  have h_law_made_right : GoodF P w K mg base 6 d_law_made_right ["_law_tap_here", "_law_gains_here"] (sp_law_made_right K w) := ok_law_made_right b h_law_like_right h_Row_eq h_Row_str h_Row_len h_Row_of h_law_any h_Row_init h_law_heights
  have h_law_gains : GoodF P w K mg base 5 d_law_gains ["_law_tap_here", "_law_days"] (sp_law_gains K w) := ok_law_gains b h_Row_eq h_law_any h_law_drip h_Row_len
  have h_law_tap : GoodF P w K mg base 1 d_law_tap ["_law_script"] (sp_law_tap K w) := ok_law_tap b 
  exact ok_law b h_law_stretches_right h_law_made_right h_law_gains h_law_any h_law_tap
end
def obsBG2 (n : Nat) (fa : List Fb) (fn : List Df) (g : Addr → Option Obj) : Rl.Al := obsB fa fn (He.frG g (cStatics :: He.asD g n))
def hookB2 (n : Nat) (fa : List Fb) (fn : List Df) : PySem.W.Hook where
  α := Rl.Al
  obs := fun s => obsBG2 n fa fn s.heap.get?
  val := fun _ => valB fn
  says := fun _ h => ∃ K : PySem.W.Frag, K.In h ∧ SaysB fa fn K
  of := fun _ _ e => ⟨_, He.frG_in, e⟩
  keeps := fun _ _ _ ⟨K, hK, c⟩ k => ⟨K, PySem.W.Frag.In.keeps hK k, c⟩
theorem obsBG2_eq {n : Nat} {fa : List Fb} {fn : List Df} {g : Addr → Option Obj} {s : Shared} (h : ∀ a, g a = s.heap.get? a) : obsBG2 n fa fn g = (hookB2 n fa fn).obs s := by
  have e : g = s.heap.get? := funext h
  rw [e] <;> rfl
def fb : List Fb := fa ++ [.he (.glo "law")]
theorem fb_says {K : PySem.W.Frag} (c : SaysB fb fn K) : SaysB fa fn K ∧ (Fb.he (.glo "law")).ok K = true := by
  have c1 := (He.ba (show ((fb.all fun f => f.ok K) && fn.all fun d => d.ok K) = true from congrArg (fun z : Rl.Al => z.1) c))
  have c2 : fn.map (fun d => fnW K (ad K d.loc)) = fn.map Df.val := congrArg (fun z : Rl.Al => z.2) c
  have c3 : ((fa.all fun f => f.ok K) && ([Fb.he (.glo "law")].all fun f => f.ok K)) = true := by
    rw [← List.all_append]; exact c1.1
  obtain ⟨c4, c5⟩ := He.ba c3
  refine ⟨?_, by simpa using c5⟩
  show ((fa.all fun f => f.ok K) && fn.all fun d => d.ok K, fn.map fun d => fnW K (ad K d.loc)) = (true, fn.map Df.val)
  rw [c4, c1.2, c2]
  rfl
abbrev R : PySem.W.OpenRow := PySem.W.OpenLaw.row PySem.Challenge.rw_anyseven_k04_rows_by_their_gains
abbrev hk : PySem.W.Hook := hookB2 6 fb fn
def ob (s : PySem.W.SharedT) : Rl.Al := obsBG2 6 fb fn (HandSHeadRun.getT s)
theorem ob_eq (s : PySem.W.SharedT) : ob s = hk.obs s.abs := obsBG2_eq (HandSHeadRun.getT_eq s)
def names0 : List PySem.Str := ["_wall", "DayError", "BadRow", "BadNumber", "TooMany", "BadText", "DIGITS", "is_integer", "is_within", "are_integers", "need_number", "MOST_DIGITS", "integer_of", "Scan", "MOST_DAYS", "need_stretch", "heights_of", "Row", "_law_tap", "_law_drip", "_law_any", "_law_gains", "_law_heights", "_law_made_right", "_law_like_right", "_law_stretches_right"]
def names : List PySem.Str := names0
theorem run (w : World) : HandSHeadRun.RunEq R (PySem.W.view R.prog [31]) hk ob 4000 names w := by
  intro os
  kernel_rfl
theorem fd_uniq {K : PySem.W.Frag} {x qual : Str} {params : Arguments} {body : List Stmt} {scope : Scope} {dvs : List V} {kws : List (Str × V)} {f : Addr} {fd fd' : FuncData} (h : FunD K x qual params body scope dvs kws f fd) (h' : FunD K x qual params body scope dvs kws f fd') : fd = fd' := by
  obtain ⟨oc, od, dV, kV, doc, pm, an, cdv, ct, osl, e, lk, _⟩ := h.ex
  obtain ⟨oc', od', dV', kV', doc', pm', an', cdv', ct', osl', e', lk', _⟩ := h'.ex
  rw [lk] at lk'
  have z := congrArg Obj.data (Option.some.inj lk')
  exact Data.func.inj z
theorem start_ok {K : PySem.W.Frag} {w : World} {mg : Str → Option Value} (b : Bd K mg) (H : Hp) (a : Addr) (ns : List Int) (hS : SqL K H a (ns.map V.int)) : sp_law K w [.ref a] H (fun v _ => v = .bl true) fun _ _ _ => False := by
  have key : ∀ x : D, Is K H (.ref a) x → Fn K (sp_law K w) [.d x] (fun t as' => t = .d (.bl true)) → sp_law K w [.ref a] H (fun v _ => v = .bl true) fun _ _ _ => False := fun x hx f => by
    refine f H (fun _ => none) H [.ref a] { g := (fun _ _ h => by cases h), fh := Evl.Ex.refl H, ls := rfl, lt := rfl, sl := (fun i s o h => by simp at h), tp := (fun i t v h1 h2 => ?_), ss := (fun i j c c' a h => by simp at h), st := (fun i j c c' a h => by simp at h), tt := (fun i j c c' a h1 h2 => ?_), pn := (fun p hp => by cases hp) } _ (fun F' H' v t as' ht u E' => ?_) _
    · rcases i with _ | i <;> simp at h1 h2
      subst h1 h2
      exact hx
    · rcases i with _ | i <;> simp at h1
    · subst ht
      have z := E'.datum
      cases z
      rfl
  rcases hS with hS | ⟨o, its, n, e1, e2, e3, e4, e5, e6⟩
  · exact key (.lst (Li ns)) (.lst hS (IsAll.of_li ns)) (law_ok b (l := ns) law_tap_ok)
  · exact key (.opq (.ref a)) (.opq _) (law_ok b (l := ns) (law_tap_q fun H => .inr ⟨o, its, n, e1, e2, e3, e4, e5, e6⟩))
theorem facts {P : Program} {w : World} {K : PySem.W.Frag} {h : Heap} {mg : Str → Option Value} {f : Addr} (X : K.In h) (G : h.Ns mainGlobals mg) (hfa : mg ("law" : Str) = some (.ref f)) (c0 : SaysB fb fn K) :
    ∃ fd : FuncData, (∀ (s : Shared) (v : Value), BindsTo s fd ⟨[v], []⟩ [("_law_script", v)]) ∧ (∀ (H : Hp) (a : Addr) (ns : List Int), SqL K H a (ns.map V.int) → sp_law K w [.ref a] H (fun v _ => v = .bl true) fun _ _ _ => False) ∧ ∀ base : Heap, K.In base → base.Ns mainGlobals mg → FnOk P w K mg base CX0 7 f fd ["_law_script"] (sp_law K w) := by
  obtain ⟨c, cl⟩ := fb_says c0
  have b : Bd K mg := ⟨h, X, G, c⟩
  obtain ⟨fd, F⟩ := c.def_ 21 (d := d_law) rfl
  have e : mg ("law" : Str) = some (.ref (ad K d_law.loc)) := He.glo_ok X G cl
  have e2 : f = ad K d_law.loc := by
    have := hfa.symm.trans e
    cases this
    rfl
  subst e2
  have bd := FunD.bindsA (ps := ["_law_script"]) F fun _ _ _ _ _ _ us hl => match us, hl with | [_], _ => rfl
  refine ⟨fd, fun s v => bd s [v] rfl, fun H a ns hS => start_ok b H a ns hS, fun base _ _ => ?_⟩
  obtain ⟨fd', G', F'⟩ := all_ok (P := P) (w := w) (base := base) b
  rw [fd_uniq F F']
  exact G'
end K04
open PySem PySem.W PySem.Calls PyProof.Rows
theorem PySem.Challenge.cw_anyseven_k04_rows_by_their_gains_holds : PySem.Challenge.rw_anyseven_k04_rows_by_their_gains.Holds := by
  w_on; o_law
  refine HandSHeadRun.head_any (r := OpenLaw.row PySem.Challenge.rw_anyseven_k04_rows_by_their_gains) (q := view (OpenLaw.row PySem.Challenge.rw_anyseven_k04_rows_by_their_gains).prog [31]) (H := K04.hk) (ob := K04.ob) (M := 4000) (loose := K04.names) (d := HandSHeadRun.topDef (OpenLaw.row PySem.Challenge.rw_anyseven_k04_rows_by_their_gains).prog 31) (kwd := []) K04.ob_eq
    (by kernel_rfl) (fun s => by kernel_rfl) K04.run (by kernel_rfl) (by kernel_rfl) (by kernel_rfl) (by rfl) (by first | assumption | decide +kernel) (by decide +kernel) ⟨rfl, rfl, rfl, rfl, rfl, by decide +kernel⟩ ?hw ?hc
  case hw => w_witness2
  case hc =>
    refine L2.walk_ofE (l := PySem.Challenge.rw_anyseven_k04_rows_by_their_gains) (n := 63) (k := 7) (x := "_law_script") (CX := L2.CX0) rfl (by decide) (by kernel_rfl) ⟨rfl, by decide, by decide⟩ ?F (fun _ _ _ _ z => z)
    intro w mg fa h Y G hmg0
    obtain ⟨K, KX, c⟩ := Y
    have hmg : mg ("law" : PySem.Str) = some (.ref fa) := by
      have e : (HandSHeadRun.topDef (OpenLaw.row PySem.Challenge.rw_anyseven_k04_rows_by_their_gains).prog 31).name = ("law" : PySem.Str) := by kernel_rfl
      rw [← e]
      exact hmg0
    obtain ⟨fd, hb, hs, hF⟩ := K04.facts (P := (PySem.Challenge.rw_anyseven_k04_rows_by_their_gains).prog) (w := w) KX G hmg c
    exact ⟨K, fd, K04.sp_law K w, KX, hb, fun H a ns hl _ hS => hs H a ns hS, hF⟩

