import PyProof.Rows.All
import Wide.All
import OpenK.AllK
import Wide.FinOn
import PyProof.EqAt
import PyProof.EqKinds
import PyProof.TupleCall
import HandS.ForMost
import HandS.ForExc
import HandS.Walk
import HandS.IsInst
import HandS.Wide
import HandS.Flow
import HandS.Style
import HandS.TupAny
import HandS.TupMul
import KE.DataMinMax
import KE.SortData
import HandS.Rev
import HandS.RevRange
import KE.GoesNew
import KE.GoesEnum
import HandS.TryOnly
import KE.KStateDown
import HandS.Defaults
import HandS.Head0
import HandS.Head1
import HandS.Head2
import HandS.HeadEnd
import HandS.HeadHook1
import HandS.HeadHook2
import HandS.Deep
import HandS.Text
import HandS.StrMore
import HandS.Conv
import HandS.Set
import HandS.SetBool
import HandS.SetKeys
import KE.KRevSl
import PyProof.Rows.TupMore
import HandS.Dict
import HandS.Small
import HandS.DictComp
import HandS.More
import HandS.WordsDict
import KE.DatumOrd
import HandS.ExcSuper
import HandS.ExcInit
import HandS.ExcOwn
import KE.KSuper
import HandS.ExcField
import HandS.TryMany
import PySem.Challenge.RW_readsback_k39_whole_arches_and_what_is_m
import PyProof.StrLawsFrom
set_option Elab.async false
set_option linter.all false
set_option maxRecDepth 100000
set_option maxHeartbeats 4000000
namespace RB
open PySem PySem.Spec PyProof.Rows L2

/-! ### what a call computes: a value, an error of the program's own, or nothing that is promised -/
inductive Exn where
  | bad (k : Int) | many | text (k : Int)
inductive R (α : Type) where
  | ok (a : α) | exn (e : Exn) | stuck
namespace R
variable {α β γ : Type}
def bind (x : R α) (f : α → R β) : R β := match x with
  | .ok a => f a
  | .exn e => .exn e
  | .stuck => .stuck
instance : Monad R where
  pure := .ok
  bind := bind
@[simp] theorem ok_bind (a : α) (f : α → R β) : (R.ok a >>= f) = f a := rfl
@[simp] theorem exn_bind (e : Exn) (f : α → R β) : (R.exn e >>= f) = .exn e := rfl
@[simp] theorem stuck_bind (f : α → R β) : ((R.stuck : R α) >>= f) = .stuck := rfl
@[simp] theorem pure_ok (a : α) : (pure a : R α) = .ok a := rfl
theorem bind_assoc' (x : R α) (f : α → R β) (g : β → R γ) : ((x >>= f) >>= g) = (x >>= fun a => f a >>= g) := by cases x <;> rfl
def wp (x : R α) (P : α → Prop) (E : Exn → Prop) : Prop := match x with
  | .ok a => P a
  | .exn e => E e
  | .stuck => False
theorem wp_bind {x : R α} {f : α → R β} {P : β → Prop} {E : Exn → Prop} (h : (x >>= f).wp P E) : x.wp (fun a => (f a).wp P E) E := by
  cases x <;> exact h
theorem wp_mono {x : R α} {P Q : α → Prop} {E E' : Exn → Prop} (h : x.wp P E) (hp : ∀ a, P a → Q a) (he : ∀ e, E e → E' e) : x.wp Q E' := by
  cases x with
  | ok a => exact hp a h
  | exn e => exact he e h
  | stuck => exact h
/-- an error is not promised -/
def hard (x : R α) : R α := match x with
  | .ok a => .ok a
  | _ => .stuck
@[simp] theorem hard_ok (a : α) : (R.ok a).hard = .ok a := rfl
theorem hard_wp {x : R α} {P : α → Prop} {E E' : Exn → Prop} (h : x.hard.wp P E) : x.wp P E' := by
  cases x with
  | ok a => exact h
  | exn e => exact h.elim
  | stuck => exact h.elim
end R

/-! ### data and where it lies -/
abbrev D := PyData
def keyD : Key → D
  | .inl i => .int i
  | .inr s => .str s
/-- at a stands u and will not change: frozen, or known -/
def FA (H : Hp) (F : Addr → Prop) (a : Addr) (u : HO) : Prop := (H a = some u ∧ F a) ∨ ∃ o, H a = some (.frz o u)
def KL (K : PySem.W.Frag) (a : Addr) (xs : List V) : Prop :=
  ∃ (o : Obj) (its : Array Value) (n : Nat), K.lookup a = some o ∧ o.cls = .type "list" ∧ o.dict = none ∧ o.data = .seq its n ∧ its.size ≤ sizeLine ∧ Vals xs its.toList
def LAt (K : PySem.W.Frag) (H : Hp) (F : Addr → Prop) (a : Addr) (xs : List V) : Prop := FA H F a (.lst xs) ∨ KL K a xs
theorem LAt.sql {K : PySem.W.Frag} {H : Hp} {F : Addr → Prop} {a : Addr} {xs : List V} (h : LAt K H F a xs) : SqL K H a xs := by
  rcases h with (⟨h, _⟩ | h) | h
  · exact .inl (.inl h)
  · exact .inl (.inr h)
  · exact .inr h
/-- a text of a size and of signs that Python has -/
def okS (x : Str) : Prop := x.length ≤ sizeLine ∧ x.cps.all (· < 0x110000) = true
instance (x : Str) : Decidable (okS x) := by unfold okS; infer_instance
mutual
inductive Den (K : PySem.W.Frag) (H : Hp) (F : Addr → Prop) : V → D → Prop
  | non : Den K H F .non .none
  | bl (b : Bool) : Den K H F (.bl b) (.bool b)
  | int (i : Int) : Den K H F (.int i) (.int i)
  | str (x : Str) (h : okS x) : Den K H F (.str x) (.str x)
  | tup {a : Addr} {vs : List V} {ds : List D} : H a = some (.tup vs) → DenL K H F vs ds → vs.length ≤ sizeLine → Den K H F (.ref a) (.tuple ds)
  | lst {a : Addr} {vs : List V} {ds : List D} : LAt K H F a vs → DenL K H F vs ds → vs.length ≤ sizeLine → Den K H F (.ref a) (.list ds)
  | dK {a : Addr} {kvs : List (Key × V)} {ds : List D} : FA H F a (.dK kvs) → DenL K H F (kvs.map (·.2)) ds → Den K H F (.ref a) (.dict ((kvs.map fun p => keyD p.1).zip ds))
  | dT {a : Addr} {kvs : List (List Key × V)} {ds : List D} : FA H F a (.dT kvs) → DenL K H F (kvs.map (·.2)) ds → Den K H F (.ref a) (.dict ((.none, .none) :: (kvs.map fun p => .tuple (p.1.map keyD)).zip ds))
inductive DenL (K : PySem.W.Frag) (H : Hp) (F : Addr → Prop) : List V → List D → Prop
  | nil : DenL K H F [] []
  | cons {v : V} {vs : List V} {d : D} {ds : List D} : Den K H F v d → DenL K H F vs ds → DenL K H F (v :: vs) (d :: ds)
end

/-- what data leans on stays -/
structure Pres (H : Hp) (F : Addr → Prop) (H' : Hp) (F' : Addr → Prop) : Prop where
  tup : ∀ a xs, H a = some (.tup xs) → H' a = some (.tup xs)
  frz : ∀ a o u, H a = some (.frz o u) → H' a = some (.frz o u)
  fro : ∀ a u, F a → H a = some u → F' a ∧ H' a = some u
theorem FA.pres {H H' : Hp} {F F' : Addr → Prop} {a : Addr} {u : HO} (p : Pres H F H' F') (h : FA H F a u) : FA H' F' a u := by
  rcases h with ⟨h, f⟩ | ⟨o, h⟩
  · obtain ⟨f', h'⟩ := p.fro a u f h
    exact .inl ⟨h', f'⟩
  · exact .inr ⟨o, p.frz a o u h⟩
theorem LAt.pres {K : PySem.W.Frag} {H H' : Hp} {F F' : Addr → Prop} {a : Addr} {xs : List V} (p : Pres H F H' F') (h : LAt K H F a xs) : LAt K H' F' a xs := by
  rcases h with h | h
  · exact .inl (h.pres p)
  · exact .inr h
theorem sqt_pres {K : PySem.W.Frag} {H H' : Hp} {F F' : Addr → Prop} {a : Addr} {xs : List V} (p : Pres H F H' F') (h : SqT K H a xs) : SqT K H' a xs := by
  rcases h with (h | ⟨o, h⟩) | h
  · exact .inl (.inl (p.tup a xs h))
  · exact .inl (.inr ⟨o, p.frz a o _ h⟩)
  · exact .inr h
mutual
theorem Den.pres {K : PySem.W.Frag} {H H' : Hp} {F F' : Addr → Prop} (p : Pres H F H' F') : ∀ {v : V} {d : D}, Den K H F v d → Den K H' F' v d
  | _, _, .non => .non
  | _, _, .bl b => .bl b
  | _, _, .int i => .int i
  | _, _, .str x h => .str x h
  | _, _, .tup h hs z => .tup (p.tup _ _ h) (DenL.pres p hs) z
  | _, _, .lst h hs z => .lst (h.pres p) (DenL.pres p hs) z
  | _, _, .dK h hs => .dK (h.pres p) (DenL.pres p hs)
  | _, _, .dT h hs => .dT (h.pres p) (DenL.pres p hs)
theorem DenL.pres {K : PySem.W.Frag} {H H' : Hp} {F F' : Addr → Prop} (p : Pres H F H' F') : ∀ {vs : List V} {ds : List D}, DenL K H F vs ds → DenL K H' F' vs ds
  | _, _, .nil => .nil
  | _, _, .cons h hs => .cons (Den.pres p h) (DenL.pres p hs)
end
section
variable {K : PySem.W.Frag} {H : Hp} {F : Addr → Prop}
theorem DenL.length : ∀ {vs : List V} {ds : List D}, DenL K H F vs ds → vs.length = ds.length
  | _, _, .nil => rfl
  | _, _, .cons _ hs => by rw [List.length_cons, List.length_cons, DenL.length hs]
theorem DenL.get : ∀ {vs : List V} {ds : List D} {i : Nat} {v : V}, DenL K H F vs ds → vs[i]? = some v → ∃ d, ds[i]? = some d ∧ Den K H F v d
  | _, _, _, _, .nil, e => by simp at e
  | _, _, 0, _, .cons h _, e => by simp at e; subst e; exact ⟨_, rfl, h⟩
  | _, _, i + 1, v, .cons _ hs, e => by
    obtain ⟨d, h1, h2⟩ := DenL.get (i := i) (v := v) hs (by simpa using e)
    exact ⟨d, by simpa using h1, h2⟩
theorem DenL.getD : ∀ {vs : List V} {ds : List D} {i : Nat} {d : D}, DenL K H F vs ds → ds[i]? = some d → ∃ v, vs[i]? = some v ∧ Den K H F v d
  | _, _, _, _, .nil, e => by simp at e
  | _, _, 0, _, .cons h _, e => by simp at e; subst e; exact ⟨_, rfl, h⟩
  | _, _, i + 1, d, .cons _ hs, e => by
    obtain ⟨v, h1, h2⟩ := DenL.getD (i := i) (d := d) hs (by simpa using e)
    exact ⟨v, by simpa using h1, h2⟩
theorem DenL.append : ∀ {vs ws : List V} {ds es : List D}, DenL K H F vs ds → DenL K H F ws es → DenL K H F (vs ++ ws) (ds ++ es)
  | _, _, _, _, .nil, s => s
  | _, _, _, _, .cons h hs, s => .cons h (DenL.append hs s)
theorem DenL.take : ∀ {vs : List V} {ds : List D} (n : Nat), DenL K H F vs ds → DenL K H F (vs.take n) (ds.take n)
  | _, _, 0, _ => .nil
  | _, _, _ + 1, .nil => .nil
  | _, _, n + 1, .cons h hs => .cons h (DenL.take n hs)
theorem DenL.drop : ∀ {vs : List V} {ds : List D} (n : Nat), DenL K H F vs ds → DenL K H F (vs.drop n) (ds.drop n)
  | _, _, 0, h => h
  | _, _, _ + 1, .nil => .nil
  | _, _, n + 1, .cons _ hs => DenL.drop n hs
theorem DenL.set {v : V} {d : D} (h : Den K H F v d) : ∀ {vs : List V} {ds : List D} (i : Nat), DenL K H F vs ds → DenL K H F (vs.set i v) (ds.set i d)
  | _, _, _, .nil => .nil
  | _, _, 0, .cons _ hs => .cons h hs
  | _, _, i + 1, .cons q hs => .cons q (DenL.set h i hs)
theorem DenL.reverse : ∀ {vs : List V} {ds : List D}, DenL K H F vs ds → DenL K H F vs.reverse ds.reverse
  | _, _, .nil => .nil
  | _, _, .cons h hs => by
    rw [List.reverse_cons, List.reverse_cons]
    exact (DenL.reverse hs).append (.cons h .nil)
theorem DenL.ints : ∀ {vs : List V} {ns : List Int}, DenL K H F vs (ns.map .int) → vs = ns.map V.int
  | _, [], h => by cases h; rfl
  | _, n :: ns, h => by
    cases h with
    | cons h hs =>
      cases h
      rw [DenL.ints hs]; rfl
theorem DenL.of_ints : ∀ (ns : List Int), DenL K H F (ns.map V.int) (ns.map .int)
  | [] => .nil
  | n :: ns => .cons (.int n) (DenL.of_ints ns)
end

/-- the heap grows: all stands as it stood; what is frozen anew is new -/
structure Grow (H : Hp) (F : Addr → Prop) (H' : Hp) (F' : Addr → Prop) : Prop where
  same : ∀ a u, H a = some u → H' a = some u
  fro : ∀ a, F a → F' a
  new : ∀ a, F' a → F a ∨ H a = none
  ok : ∀ a, F' a → ∃ u, H' a = some u
def FOk (H : Hp) (F : Addr → Prop) : Prop := ∀ a, F a → ∃ u, H a = some u
section
variable {K : PySem.W.Frag} {H H1 H2 H' : Hp} {F F1 F2 F' : Addr → Prop}
theorem Grow.pres (g : Grow H F H' F') : Pres H F H' F' := ⟨fun a xs h => g.same a _ h, fun a o u h => g.same a _ h, fun a u f h => ⟨g.fro a f, g.same a u h⟩⟩
theorem Grow.refl (h : FOk H F) : Grow H F H F := ⟨fun _ _ h => h, fun _ h => h, fun _ h => .inl h, h⟩
theorem Grow.back (g : Grow H F H' F') {c : Addr} (q : H' c = none) : H c = none := by
  cases e : H c with
  | none => rfl
  | some u => rw [g.same c u e] at q; cases q
theorem Grow.trans (a : Grow H F H1 F1) (b : Grow H1 F1 H2 F2) : Grow H F H2 F2 :=
  ⟨fun c u h => b.same c u (a.same c u h), fun c h => b.fro c (a.fro c h), fun c h => by
    rcases b.new c h with q | q
    · exact a.new c q
    · exact .inr (Grow.back a q), b.ok⟩
theorem Den.grow {v : V} {d : D} (h : Den K H F v d) (g : Grow H F H' F') : Den K H' F' v d := h.pres g.pres
theorem DenL.grow {vs : List V} {ds : List D} (h : DenL K H F vs ds) (g : Grow H F H' F') : DenL K H' F' vs ds := h.pres g.pres
/-- a new object -/
theorem grow_new {p : Addr} {o : HO} (ok : FOk H F) (hp : H p = none) : Grow H F (upd H p o) F :=
  ⟨fun a u h => by rw [upd_ne (ne_of_none h hp)]; exact h, fun _ h => h, fun _ h => .inl h, fun a f => by
    obtain ⟨u, h⟩ := ok a f
    exact ⟨u, by rw [upd_ne (ne_of_none h hp)]; exact h⟩⟩
/-- a new object that is frozen at once -/
def frz1 (F : Addr → Prop) (p : Addr) : Addr → Prop := fun a => F a ∨ a = p
theorem grow_newF {p : Addr} {o : HO} (ok : FOk H F) (hp : H p = none) : Grow H F (upd H p o) (frz1 F p) :=
  ⟨fun a u h => by rw [upd_ne (ne_of_none h hp)]; exact h, fun _ h => .inl h, fun a h => by
    rcases h with h | h
    · exact .inl h
    · subst h; exact .inr hp, fun a f => by
    rcases f with f | f
    · obtain ⟨u, h⟩ := ok a f
      exact ⟨u, by rw [upd_ne (ne_of_none h hp)]; exact h⟩
    · subst f; exact ⟨o, upd_same⟩⟩
/-- p is frozen -/
theorem grow_freeze {H0 : Hp} {F0 : Addr → Prop} {p : Addr} {o : HO} (g : Grow H0 F0 H F) (hp : H0 p = none) (h : H p = some o) : Grow H0 F0 H (frz1 F p) :=
  ⟨g.same, fun a f => .inl (g.fro a f), fun a f => by
    rcases f with f | f
    · exact g.new a f
    · subst f; exact .inr hp, fun a f => by
    rcases f with f | f
    · exact g.ok a f
    · subst f; exact ⟨o, h⟩⟩
theorem pres_freeze {p : Addr} : Pres H F H (frz1 F p) := ⟨fun _ _ h => h, fun _ _ _ h => h, fun a u f h => ⟨.inl f, h⟩⟩
end

/-! ### readings by data -/
abbrev Env := List (Option D)
structure RE (K : PySem.W.Frag) (σ : L2.St) (ε : Env) (H : Hp) (F : Addr → Prop) : Prop where
  at_ : ∀ (i : Nat) (d : D), ε[i]? = some (some d) → ∃ v, σ[i]? = some (some v) ∧ Den K H F v d
  ok : FOk H F
  len : ε.length ≤ σ.length
theorem RE.grow {K : PySem.W.Frag} {σ : L2.St} {ε : Env} {H H' : Hp} {F F' : Addr → Prop} (r : RE K σ ε H F) (g : Grow H F H' F') : RE K σ ε H' F' :=
  ⟨fun i d e => by
    obtain ⟨v, h1, h2⟩ := r.at_ i d e
    exact ⟨v, h1, h2.grow g⟩, g.ok, r.len⟩
/-- which exception the program's own error is -/
def ExnOf (mg : Str → Option Value) (e : Exn) (cls : Value) (x : Option Addr) (H : Hp) : Prop := match e with
  | .bad k => ∃ C d, mg "BadValue" = some (.ref C) ∧ cls = .ref C ∧ x = some d ∧ H d = some (.xd [("at", .int k)])
  | .many => ∃ C, mg "TooMany" = some (.ref C) ∧ cls = .ref C
  | .text k => ∃ C d, mg "BadText" = some (.ref C) ∧ cls = .ref C ∧ x = some d ∧ H d = some (.xd [("at", .int k)])

section
variable (K : PySem.W.Frag) (mg : Str → Option Value) (W : WX)
def tE (f : Env → R D) : TE := fun σ H Q => ∃ ε F, RE K σ ε H F ∧ (f ε).wp (fun d => ∀ v H' F', Grow H F H' F' → Den K H' F' v d → Q v H') fun e => ∀ cls x H' F', Grow H F H' F' → ExnOf mg e cls x H' → W cls x σ H'
def tB_ (f : Env → R Bool) : TT := fun σ H Q => ∃ ε F, RE K σ ε H F ∧ (f ε).wp (fun b => ∀ H' F', Grow H F H' F' → Q b H') fun e => ∀ cls x H' F', Grow H F H' F' → ExnOf mg e cls x H' → W cls x σ H'
/-- a new list that nothing else knows -/
def tF (f : Env → R (List D)) : TE := fun σ H Q => ∃ ε F, RE K σ ε H F ∧ (f ε).wp (fun ds => ∀ p vs H' F', Grow H F H' F' → H p = none → H' p = some (.lst vs) → ¬ F' p → DenL K H' F' vs ds → vs.length ≤ sizeLine → Q (.ref p) H') fun e => ∀ cls x H' F', Grow H F H' F' → ExnOf mg e cls x H' → W cls x σ H'
def evL : List (Env → R D) → Env → R (List D)
  | [], _ => .ok []
  | f :: fs, ε => f ε >>= fun d => evL fs ε >>= fun ds => .ok (d :: ds)
def tEs (fs : List (Env → R D)) : TA := fun σ H Q => ∃ ε F, RE K σ ε H F ∧ (evL fs ε).wp (fun ds => ∀ vs H' F', Grow H F H' F' → DenL K H' F' vs ds → Q vs H') fun e => ∀ cls x H' F', Grow H F H' F' → ExnOf mg e cls x H' → W cls x σ H'
end
theorem evL_len : ∀ {fs : List (Env → R D)} {ε : Env} {P : List D → Prop} {E : Exn → Prop}, (evL fs ε).wp P E → (evL fs ε).wp (fun ds => ds.length = fs.length ∧ P ds) E
  | [], _, _, _, h => ⟨rfl, h⟩
  | f :: fs, ε, P, E, h => by
    have h1 := R.wp_bind h
    show ((f ε) >>= fun d => evL fs ε >>= fun ds => R.ok (d :: ds)).wp _ _
    cases e1 : f ε with
    | ok d =>
      rw [e1] at h1
      have h2 : (evL fs ε >>= fun ds => R.ok (d :: ds)).wp P E := h1
      have h3 := evL_len (R.wp_bind h2)
      rw [R.ok_bind]
      cases e2 : evL fs ε with
      | ok ds =>
        rw [e2] at h3
        obtain ⟨h4, h5⟩ := h3
        exact ⟨by rw [List.length_cons, List.length_cons, h4], h5⟩
      | exn e => rw [e2] at h3; exact h3
      | stuck => rw [e2] at h3; exact h3
    | exn e => rw [e1] at h1; exact h1
    | stuck => rw [e1] at h1; exact h1

theorem PE.imp {X : Cx} {e : Expr} {t t' : TE} (h : PE X e t) (q : ∀ σ H Q, t' σ H Q → t σ H Q) : PE X e t' := ⟨fun pins s σ H Q I w => h.run pins s σ H Q I (q σ H Q w)⟩
theorem PT.imp {X : Cx} {e : Expr} {t t' : TT} (h : PT X e t) (q : ∀ σ H Q, t' σ H Q → t σ H Q) : PT X e t' := ⟨fun pins s σ H Q I w => h.run pins s σ H Q I (q σ H Q w)⟩
theorem PW.imp {X : Cx} {e : Expr} {t t' : TT} (h : PW X e t) (q : ∀ σ H Q, t' σ H Q → t σ H Q) : PW X e t' := ⟨fun wh pins s σ H Q I w => h.run wh pins s σ H Q I (q σ H Q w)⟩
theorem PA.imp {X : Cx} {e : List Expr} {t t' : TA} (h : PA X e t) (q : ∀ σ H Q, t' σ H Q → t σ H Q) : PA X e t' := ⟨fun pos pins s σ H Q I w => h.run pos pins s σ H Q I (q σ H Q w)⟩
theorem PS.imp {X : Cx} {e : Stmt} {t t' : TS} (h : PS X e t) (q : ∀ D σ H, t' D σ H → t D σ H) : PS X e t' := ⟨fun pins s σ H Q I w => h.run pins s σ H Q I (q Q σ H w)⟩
theorem PSs.imp {X : Cx} {e : List Stmt} {t t' : TS} (h : PSs X e t) (q : ∀ D σ H, t' D σ H → t D σ H) : PSs X e t' := ⟨fun pins s σ H Q I w => h.run pins s σ H Q I (q Q σ H w)⟩
theorem PI.imp {X : Cx} {tg e : Expr} {t t' : TI} (h : PI X tg e t) (q : ∀ σ H Q, t' σ H Q → t σ H Q) : PI X tg e t' := ⟨fun pins s σ H Q I w => h.run pins s σ H Q I (q σ H Q w)⟩
theorem PG.imp {X : Cx} {e : Expr} {t t' : TG} (h : PG X e t) (q : ∀ v σ H Q, t' v σ H Q → t v σ H Q) : PG X e t' := ⟨fun pins s σ H v u Q I r w => h.run pins s σ H v u Q I r (q v σ H Q w)⟩
theorem PTs.imp {X : Cx} {e : List Expr} {t t' : TT} (h : PTs X e t) (q : ∀ σ H Q, t' σ H Q → t σ H Q) : PTs X e t' := ⟨fun pins s σ H Q I w => h.run pins s σ H Q I (q σ H Q w)⟩

abbrev Ex (X : Cx) (W : WX) (e : Expr) (f : Env → R D) : Prop := PE X e (tE X.K X.mg W f)
abbrev Fx (X : Cx) (W : WX) (e : Expr) (f : Env → R (List D)) : Prop := PE X e (tF X.K X.mg W f)
abbrev Tx (X : Cx) (W : WX) (e : Expr) (f : Env → R Bool) : Prop := PT X e (tB_ X.K X.mg W f)
abbrev Wx (X : Cx) (W : WX) (e : Expr) (f : Env → R Bool) : Prop := PW X e (tB_ X.K X.mg W f)
abbrev Exs (X : Cx) (W : WX) (es : List Expr) (fs : List (Env → R D)) : Prop := PA X es (tEs X.K X.mg W fs)

section
variable {X : Cx} {W : WX}
/-- a new list, as data -/
theorem Fx.ex {e : Expr} {f : Env → R (List D)} (h : Fx X W e f) : Ex X W e (fun ε => f ε >>= fun ds => .ok (.list ds)) := by
  refine PE.imp h fun σ H Q ⟨ε, F, re, q⟩ => ⟨ε, F, re, ?_⟩
  refine R.wp_mono (R.wp_bind q) (fun ds k p vs H' F' g hp hp' nf hd hz => ?_) (fun e k => k)
  exact k _ _ _ (grow_freeze g hp hp') (.lst (.inl (.inl ⟨hp', .inr rfl⟩)) (hd.pres pres_freeze) hz)
/-! ### names, constants -/
def var (i : Nat) : Env → R D := fun ε => match ε[i]? with
  | some (some d) => .ok d
  | _ => .stuck
theorem ex_var (i : Nat) {x : Str} {pos : Pos} (hN : X.N[i]? = some x := by rfl) (hv : Vis X.env.scope x := by first | exact Or.inl rfl | exact Or.inr (Or.inl rfl) | exact Or.inr (Or.inr rfl))
    (hd : (x == ("__debug__" : Str)) = false := by decide) (hcd : (x == ("__classdict__" : Str)) = false := by decide) : Ex X W (.Name x pos) (var i) := by
  refine PE.imp (pe_var hN hv hd hcd) fun σ H Q ⟨ε, F, re, q⟩ => ?_
  unfold var at q
  split at q
  · rename_i d e
    obtain ⟨v, h1, h2⟩ := re.at_ i d e
    exact ⟨v, h1, q v H F (.refl re.ok) h2⟩
  · exact q.elim
def con (d : D) : Env → R D := fun _ => .ok d
theorem ex_con {e : Expr} {v : V} {d : D} (h : PE X e (tC v)) (hd : ∀ K H F, Den K H F v d) : Ex X W e (con d) :=
  PE.imp h fun σ H Q ⟨ε, F, re, q⟩ => q v H F (.refl re.ok) (hd _ _ _)
theorem ex_int {i j pos} : Ex X W (.Constant (.int i) j pos) (con (.int i)) := ex_con pe_int fun _ _ _ => .int _
theorem ex_bl {b j pos} : Ex X W (.Constant (.bool b) j pos) (con (.bool b)) := ex_con pe_bl fun _ _ _ => .bl _
theorem ex_non {j pos} : Ex X W (.Constant .none j pos) (con .none) := ex_con pe_non fun _ _ _ => .non
theorem ex_str {x j pos} (h : okS x := by decide +kernel) : Ex X W (.Constant (.str x) j pos) (con (.str x)) := ex_con pe_str fun _ _ _ => .str _ h
theorem ex_globI {x : Str} {i : Int} {pos : Pos} (hm : ∃ t, X.mg x = some (.int i t)) (hg : Gl X x := by rfl) (hd : (x == ("__debug__" : Str)) = false := by decide) : Ex X W (.Name x pos) (con (.int i)) := by
  obtain ⟨t, hm⟩ := hm
  exact ex_con (pe_glob hg hm (v := .int i) ⟨t, rfl⟩ hd) fun _ _ _ => .int _
theorem ex_globS {x : Str} {z : Str} {pos : Pos} (hm : ∃ t, X.mg x = some (.str z t)) (hz : okS z := by decide +kernel) (hg : Gl X x := by rfl) (hd : (x == ("__debug__" : Str)) = false := by decide) : Ex X W (.Name x pos) (con (.str z)) := by
  obtain ⟨t, hm⟩ := hm
  exact ex_con (pe_glob hg hm (v := .str z) ⟨t, rfl⟩ hd) fun _ _ _ => .str _ hz

/-! ### arguments, displays -/
theorem exs_nil : Exs X W [] [] := PA.imp pa_nil fun σ H Q ⟨ε, F, re, q⟩ => q [] H F (.refl re.ok) .nil
theorem exs_cons {e : Expr} {es : List Expr} {f : Env → R D} {fs : List (Env → R D)} (ha : Ex X W e f) (hr : Exs X W es fs) (hs : starEach (e :: es) X.env = (false, eval e X.env) :: starEach es X.env := by rfl) : Exs X W (e :: es) (f :: fs) := by
  refine PA.imp (pa_cons ha hr hs) fun σ H Q ⟨ε, F, re, q⟩ => ⟨ε, F, re, ?_⟩
  refine R.wp_mono (R.wp_bind q) (fun d k v H1 F1 g1 d1 => ⟨ε, F1, re.grow g1, ?_⟩) (fun e k => k)
  refine R.wp_mono (R.wp_bind k) (fun ds k vs H2 F2 g2 d2 => k _ _ _ (g1.trans g2) (.cons (d1.grow g2) d2)) (fun e k cls x H' F' g => k cls x H' F' (g1.trans g))
def tupE (fs : List (Env → R D)) : Env → R D := fun ε => evL fs ε >>= fun ds => .ok (.tuple ds)
theorem small_fs {n m : Nat} (h : n = m) (hm : m ≤ 1000) : n ≤ sizeLine := Nat.le_of_lt (small1000 (h ▸ hm))
theorem ex_tup {es : List Expr} {fs : List (Env → R D)} {k : Nat} {pos : Pos} (h : Exs X W es fs) (hl : fs.length ≤ 1000 := by decide) : Ex X W (.Tuple es k pos) (tupE fs) := by
  refine PE.imp (pe_tup h) fun σ H Q ⟨ε, F, re, q⟩ => ⟨ε, F, re, ?_⟩
  refine R.wp_mono (evL_len (R.wp_bind q)) (fun ds ⟨hn, k⟩ vs H1 F1 g1 d1 => ?_) (fun e k => k)
  have hz : vs.length ≤ sizeLine := small_fs (d1.length.trans hn) hl
  refine ⟨hz, fun p hp => ?_⟩
  have g2 := grow_new (o := .tup vs) g1.ok hp
  exact k _ _ _ (g1.trans g2) (.tup upd_same (d1.grow g2) hz)
theorem fx_lst {es : List Expr} {fs : List (Env → R D)} {pos : Pos} (h : Exs X W es fs) (hl : fs.length ≤ 1000 := by decide) : Fx X W (.List es pos) (evL fs) := by
  refine PE.imp (pe_lst h) fun σ H Q ⟨ε, F, re, q⟩ => ⟨ε, F, re, ?_⟩
  refine R.wp_mono (evL_len q) (fun ds ⟨hn, k⟩ vs H1 F1 g1 d1 => ?_) (fun e k => k)
  have hz : vs.length ≤ sizeLine := small_fs (d1.length.trans hn) hl
  refine ⟨hz, fun p hp => ?_⟩
  have g2 := grow_new (o := .lst vs) g1.ok hp
  have h0 : H p = none := g1.back hp
  refine k p vs _ _ (g1.trans g2) h0 upd_same (fun f => ?_) (d1.grow g2) hz
  obtain ⟨u, e⟩ := g1.ok p f
  rw [e] at hp; cases hp
end
end RB

set_option Elab.async false
set_option linter.all false
set_option maxRecDepth 100000
set_option maxHeartbeats 4000000
namespace RB
open PySem PySem.Spec PyProof.Rows L2

/-! ### operations on values -/
abbrev Fin1 (K : PySem.W.Frag) (H : Hp) (F : Addr → Prop) (Q : VK) : D → Prop := fun d => ∀ v H' F', Grow H F H' F' → Den K H' F' v d → Q v H'
abbrev FinL (K : PySem.W.Frag) (H : Hp) (F : Addr → Prop) (Q : VK) : List D → Prop := fun ds => ∀ p vs H' F', Grow H F H' F' → H p = none → H' p = some (.lst vs) → ¬ F' p → DenL K H' F' vs ds → vs.length ≤ sizeLine → Q (.ref p) H'
abbrev NoE : Exn → Prop := fun _ => False
def G2 (K : PySem.W.Frag) (r : R2) (g : D → D → R D) : Prop := ∀ x y dx dy H F Q, FOk H F → Den K H F x dx → Den K H F y dy → (g dx dy).wp (Fin1 K H F Q) NoE → r x y H Q
def G1 (K : PySem.W.Frag) (r : V → Hp → VK → Prop) (g : D → R D) : Prop := ∀ x dx H F Q, FOk H F → Den K H F x dx → (g dx).wp (Fin1 K H F Q) NoE → r x H Q
def GC (K : PySem.W.Frag) (r : List V → Hp → VK → Prop) (g : List D → R D) : Prop := ∀ vs ds H F Q, FOk H F → DenL K H F vs ds → (g ds).wp (Fin1 K H F Q) NoE → r vs H Q
def GCF (K : PySem.W.Frag) (r : List V → Hp → VK → Prop) (g : List D → R (List D)) : Prop := ∀ vs ds H F Q, FOk H F → DenL K H F vs ds → (g ds).wp (FinL K H F Q) NoE → r vs H Q
def op2E (g : D → D → R D) (fa fb : Env → R D) : Env → R D := fun ε => fa ε >>= fun x => fb ε >>= fun y => (g x y).hard
def op1E (g : D → R D) (fa : Env → R D) : Env → R D := fun ε => fa ε >>= fun x => (g x).hard
def callE (g : List D → R D) (fs : List (Env → R D)) : Env → R D := fun ε => evL fs ε >>= fun ds => (g ds).hard
def callF (g : List D → R (List D)) (fs : List (Env → R D)) : Env → R (List D) := fun ε => evL fs ε >>= fun ds => (g ds).hard
theorem fin_grow {K : PySem.W.Frag} {H H1 : Hp} {F F1 : Addr → Prop} {Q : VK} {d : D} (g : Grow H F H1 F1) (k : Fin1 K H F Q d) : Fin1 K H1 F1 Q d := fun v H' F' g2 hd => k v H' F' (g.trans g2) hd
theorem finL_grow {K : PySem.W.Frag} {H H1 : Hp} {F F1 : Addr → Prop} {Q : VK} {d : List D} (g : Grow H F H1 F1) (k : FinL K H F Q d) : FinL K H1 F1 Q d := fun p vs H' F' g2 hp hp' nf hd hz => k p vs H' F' (g.trans g2) (g.back hp) hp' nf hd hz
section
variable {X : Cx} {W : WX} {a b c : Expr} {fa fb fc : Env → R D} {pos : Pos}
/-- a, then b, then what is wanted of both values -/
theorem two {ta tb : TE} (ha : ∀ σ H Q, tE X.K X.mg W fa σ H Q → ta σ H Q) (hb : ∀ σ H Q, tE X.K X.mg W fb σ H Q → tb σ H Q) {g : D → D → R D} {σ : L2.St} {H : Hp} {Q : VK} {P : V → V → Hp → Prop}
    (h : tE X.K X.mg W (op2E g fa fb) σ H Q) (hR : ∀ x y dx dy H1 F1, FOk H1 F1 → Den X.K H1 F1 x dx → Den X.K H1 F1 y dy → (g dx dy).wp (Fin1 X.K H1 F1 Q) NoE → P x y H1) :
    ta σ H fun x H1 => tb σ H1 fun y H2 => P x y H2 := by
  obtain ⟨ε, F, re, q⟩ := h
  refine ha _ _ _ ⟨ε, F, re, ?_⟩
  refine R.wp_mono (R.wp_bind q) (fun dx k v H1 F1 g1 d1 => hb _ _ _ ⟨ε, F1, re.grow g1, ?_⟩) (fun e k => k)
  refine R.wp_mono (R.wp_bind k) (fun dy k w H2 F2 g2 d2 => ?_) (fun e k cls x H' F' g => k cls x H' F' (g1.trans g))
  refine hR _ _ _ _ _ _ g2.ok (d1.grow g2) d2 ?_
  cases e : g dx dy with
  | ok d => rw [e] at k; exact fin_grow (g1.trans g2) k
  | exn _ => rw [e] at k; exact k.elim
  | stuck => rw [e] at k; exact k.elim
theorem hardN {α : Type} {x : R α} {P P' : α → Prop} {E : Exn → Prop} (h : x.hard.wp P E) (k : ∀ a, P a → P' a) : x.wp P' NoE := by
  cases x with
  | ok a => exact k a h
  | exn e => exact h.elim
  | stuck => exact h.elim
theorem ex_op {op : Operator} {r : R2} {g : D → D → R D} (ho : OpR X (binaryOp op) r) (hg : G2 X.K r g) (ha : Ex X W a fa) (hb : Ex X W b fb) : Ex X W (.BinOp a op b pos) (op2E g fa fb) :=
  PE.imp (pe_op ho ha hb) fun σ H Q h => two (fun _ _ _ h => h) (fun _ _ _ h => h) h fun x y dx dy H1 F1 ok d1 d2 k => hg x y dx dy H1 F1 Q ok d1 d2 k
theorem ex_cmp {op : CmpOp} {r : R2} {g : D → D → R D} (ho : OpR X (compareOp op) r) (hg : G2 X.K r g) (ha : Ex X W a fa) (hb : Ex X W b fb) (hm : behindInMarks op b = false := by first | exact nobehind _ (by decide) (by decide) | rfl) : Ex X W (.Compare a [op] [b] pos) (op2E g fa fb) :=
  PE.imp (pe_cmpR ho ha hb hm) fun σ H Q h => two (fun _ _ _ h => h) (fun _ _ _ h => h) h fun x y dx dy H1 F1 ok d1 d2 k => hg x y dx dy H1 F1 Q ok d1 d2 k
theorem ex_ix {r : R2} {g : D → D → R D} (hr : IxR X r) (hg : G2 X.K r g) (ha : Ex X W a fa) (hb : Ex X W b fb) (hs : PlainIx b := by exact fun _ _ => rfl) : Ex X W (.Subscript a b pos) (op2E g fa fb) :=
  PE.imp (pe_ix hr ha hb hs) fun σ H Q h => two (fun _ _ _ h => h) (fun _ _ _ h => h) h fun x y dx dy H1 F1 ok d1 d2 k => hg x y dx dy H1 F1 Q ok d1 d2 k
theorem ex_un {op : UnaryOp} {r : V → Hp → VK → Prop} {g : D → R D} (ho : UnR X (unaryOp op) r) (hg : G1 X.K r g) (ha : Ex X W a fa) : Ex X W (.UnaryOp op a pos) (op1E g fa) := by
  refine PE.imp (pe_un ho ha) fun σ H Q ⟨ε, F, re, q⟩ => ⟨ε, F, re, ?_⟩
  exact R.wp_mono (R.wp_bind q) (fun dx k v H1 F1 g1 d1 => hg _ _ _ _ _ g1.ok d1 (hardN k fun d k => fin_grow g1 k)) (fun e k => k)
/-! ### tests -/
def boolD : D → R Bool
  | .bool b => .ok b
  | _ => .stuck
def testE (f : Env → R D) : Env → R Bool := fun ε => f ε >>= boolD
def bE (f : Env → R Bool) : Env → R D := fun ε => f ε >>= fun b => .ok (.bool b)
theorem tB_of {f : Env → R D} {σ : L2.St} {H : Hp} {Q : Bool → Hp → Prop} (h : tB_ X.K X.mg W (testE f) σ H Q) : tE X.K X.mg W f σ H fun x H' => ∃ k, x = .bl k ∧ Q k H' := by
  obtain ⟨ε, F, re, q⟩ := h
  refine ⟨ε, F, re, R.wp_mono (R.wp_bind q) (fun d k v H1 F1 g1 d1 => ?_) (fun e k => k)⟩
  cases d1 with
  | bl b => exact ⟨b, rfl, k _ _ g1⟩
  | _ => exact k.elim
/-- an expression whose value is a bool, as a test -/
theorem tx_val {f : Env → R D} (h : Ex X W a f) (he : ∀ whole, isTrue a X.env whole = (do let v ← whole; standAt a.pos; holding [v] (truthy v)) := by intro _; rfl) : Tx X W a (testE f) :=
  PT.imp (pt_val h he) fun σ H Q q => tB_of q
theorem tx_cmp {op : CmpOp} {r : R2} {g : D → D → R D} (ho : OpR X (compareOp op) r) (hg : G2 X.K r g) (ha : Ex X W a fa) (hb : Ex X W b fb) (hm : behindInMarks op b = false := by first | exact nobehind _ (by decide) (by decide) | rfl) : Tx X W (.Compare a [op] [b] pos) (testE (op2E g fa fb)) :=
  PT.imp (pt_cmpR ho ha hb hm) fun σ H Q q => two (fun _ _ _ h => h) (fun _ _ _ h => h) (tB_of q) fun x y dx dy H1 F1 ok d1 d2 k => hg x y dx dy H1 F1 _ ok d1 d2 k
def isN : D → Bool
  | .none => true
  | _ => false
theorem Den.isN {K : PySem.W.Frag} {H : Hp} {F : Addr → Prop} {v : V} {d : D} (h : Den K H F v d) : decide (v = .non) = isN d := by
  cases h <;> simp [RB.isN]
def isNE (f : Env → R D) : Env → R Bool := fun ε => f ε >>= fun d => .ok (isN d)
def notNE (f : Env → R D) : Env → R Bool := fun ε => f ε >>= fun d => .ok (!isN d)
theorem ex_isN {j pos'} (ha : Ex X W a fa) : Ex X W (.Compare a [.Is] [.Constant .none j pos'] pos) (bE (isNE fa)) := by
  refine PE.imp (pe_cmp (pc_isN ha) rfl) fun σ H Q ⟨ε, F, re, q⟩ => ⟨ε, F, re, R.wp_mono (R.wp_bind (R.wp_bind q)) (fun d k v H1 F1 g1 d1 => ?_) (fun e k => k)⟩
  show Q (.bl (decide (v = .non))) H1
  rw [d1.isN]
  exact k _ _ _ g1 (.bl _)
theorem ex_notN {j pos'} (ha : Ex X W a fa) : Ex X W (.Compare a [.IsNot] [.Constant .none j pos'] pos) (bE (notNE fa)) := by
  refine PE.imp (pe_cmp (pc_notN ha) rfl) fun σ H Q ⟨ε, F, re, q⟩ => ⟨ε, F, re, R.wp_mono (R.wp_bind (R.wp_bind q)) (fun d k v H1 F1 g1 d1 => ?_) (fun e k => k)⟩
  show Q (.bl (!decide (v = .non))) H1
  rw [d1.isN]
  exact k _ _ _ g1 (.bl _)
theorem tx_isN {j pos'} (ha : Ex X W a fa) : Tx X W (.Compare a [.Is] [.Constant .none j pos'] pos) (isNE fa) := by
  refine PT.imp (pt_cmp (pc_isN ha) rfl) fun σ H Q ⟨ε, F, re, q⟩ => ⟨ε, F, re, R.wp_mono (R.wp_bind q) (fun d k v H1 F1 g1 d1 => ?_) (fun e k => k)⟩
  exact ⟨_, rfl, by rw [d1.isN]; exact k _ _ g1⟩
theorem tx_notN {j pos'} (ha : Ex X W a fa) : Tx X W (.Compare a [.IsNot] [.Constant .none j pos'] pos) (notNE fa) := by
  refine PT.imp (pt_cmp (pc_notN ha) rfl) fun σ H Q ⟨ε, F, re, q⟩ => ⟨ε, F, re, R.wp_mono (R.wp_bind q) (fun d k v H1 F1 g1 d1 => ?_) (fun e k => k)⟩
  exact ⟨_, rfl, by rw [d1.isN]; exact k _ _ g1⟩
/-! ### and, or, not -/
variable {ta tb : Env → R Bool} {rest : List Expr}
def andT (f g : Env → R Bool) : Env → R Bool := fun ε => f ε >>= fun c => if c = true then g ε else .ok false
def orT (f g : Env → R Bool) : Env → R Bool := fun ε => f ε >>= fun c => if c = true then .ok true else g ε
def notT (f : Env → R Bool) : Env → R Bool := fun ε => f ε >>= fun c => .ok (!c)
def andE (f g : Env → R D) : Env → R D := fun ε => f ε >>= boolD >>= fun c => if c = true then g ε else .ok (.bool false)
def orE (f g : Env → R D) : Env → R D := fun ε => f ε >>= boolD >>= fun c => if c = true then .ok (.bool true) else g ε
def notE (f : Env → R D) : Env → R D := fun ε => f ε >>= boolD >>= fun c => .ok (.bool (!c))
theorem exnG {K : PySem.W.Frag} {mg : Str → Option Value} {σ : L2.St} {H H1 : Hp} {F F1 : Addr → Prop} {e : Exn} (g1 : Grow H F H1 F1) (k : ∀ cls x H' F', Grow H F H' F' → ExnOf mg e cls x H' → W cls x σ H') : ∀ cls x H' F', Grow H1 F1 H' F' → ExnOf mg e cls x H' → W cls x σ H' :=
  fun cls x H' F' g => k cls x H' F' (g1.trans g)
theorem wx_and1 (ha : Tx X W a ta) : Wx X W (.BoolOp .And [a] pos) ta := pw_and1 ha
theorem wx_or1 (ha : Tx X W a ta) : Wx X W (.BoolOp .Or [a] pos) ta := pw_or1 ha
theorem wx_and (ha : Tx X W a ta) (hb : Wx X W (.BoolOp .And (b :: rest) pos) tb) : Wx X W (.BoolOp .And (a :: b :: rest) pos) (andT ta tb) := by
  refine PW.imp (pw_and ha hb) fun σ H Q ⟨ε, F, re, q⟩ => ⟨ε, F, re, R.wp_mono (R.wp_bind q) (fun c k H1 F1 g1 => ?_) (fun e k => k)⟩
  cases c with
  | true => exact ⟨ε, F1, re.grow g1, R.wp_mono k (fun b k H' F' g => k H' F' (g1.trans g)) fun e k => exnG (K := X.K) g1 k⟩
  | false => exact k H1 F1 g1
theorem wx_or (ha : Tx X W a ta) (hb : Wx X W (.BoolOp .Or (b :: rest) pos) tb) : Wx X W (.BoolOp .Or (a :: b :: rest) pos) (orT ta tb) := by
  refine PW.imp (pw_or ha hb) fun σ H Q ⟨ε, F, re, q⟩ => ⟨ε, F, re, R.wp_mono (R.wp_bind q) (fun c k H1 F1 g1 => ?_) (fun e k => k)⟩
  cases c with
  | false => exact ⟨ε, F1, re.grow g1, R.wp_mono k (fun b k H' F' g => k H' F' (g1.trans g)) fun e k => exnG (K := X.K) g1 k⟩
  | true => exact k H1 F1 g1
theorem tx_w {e : Expr} (h : Wx X W e ta) : Tx X W e ta := h.pt
theorem tx_not (ha : Tx X W a ta) : Tx X W (.UnaryOp .Not a pos) (notT ta) := by
  refine PT.imp (pt_not ha) fun σ H Q ⟨ε, F, re, q⟩ => ⟨ε, F, re, R.wp_mono (R.wp_bind q) (fun c k H1 F1 g1 => k H1 F1 g1) (fun e k => k)⟩
theorem ex_and (ha : Ex X W a fa) (hb : Ex X W (.BoolOp .And (b :: rest) pos) fb) : Ex X W (.BoolOp .And (a :: b :: rest) pos) (andE fa fb) := by
  refine PE.imp (pe_and ha hb) fun σ H Q ⟨ε, F, re, q⟩ => ⟨ε, F, re, R.wp_mono (R.wp_bind (R.wp_bind q)) (fun c k v H1 F1 g1 d1 => ?_) (fun e k => k)⟩
  cases d1 with
  | bl b =>
    refine ⟨b, rfl, ?_⟩
    cases b with
    | true => exact ⟨ε, F1, re.grow g1, R.wp_mono k (fun b k => fin_grow g1 k) fun e k => exnG (K := X.K) g1 k⟩
    | false => exact k _ _ _ g1 (.bl _)
  | _ => exact k.elim
theorem ex_or (ha : Ex X W a fa) (hb : Ex X W (.BoolOp .Or (b :: rest) pos) fb) : Ex X W (.BoolOp .Or (a :: b :: rest) pos) (orE fa fb) := by
  refine PE.imp (pe_or ha hb) fun σ H Q ⟨ε, F, re, q⟩ => ⟨ε, F, re, R.wp_mono (R.wp_bind (R.wp_bind q)) (fun c k v H1 F1 g1 d1 => ?_) (fun e k => k)⟩
  cases d1 with
  | bl b =>
    refine ⟨b, rfl, ?_⟩
    cases b with
    | false => exact ⟨ε, F1, re.grow g1, R.wp_mono k (fun b k => fin_grow g1 k) fun e k => exnG (K := X.K) g1 k⟩
    | true => exact k _ _ _ g1 (.bl _)
  | _ => exact k.elim
theorem ex_one {op} (h : Ex X W a fa) : Ex X W (.BoolOp op [a] pos) fa := pe_one h
theorem ex_not (ha : Ex X W a fa) : Ex X W (.UnaryOp .Not a pos) (notE fa) := by
  refine PE.imp (pe_not ha) fun σ H Q ⟨ε, F, re, q⟩ => ⟨ε, F, re, R.wp_mono (R.wp_bind (R.wp_bind q)) (fun c k v H1 F1 g1 d1 => ?_) (fun e k => k)⟩
  cases d1 with
  | bl b => exact ⟨b, rfl, k _ _ _ g1 (.bl _)⟩
  | _ => exact k.elim
def ifE (t : Env → R Bool) (f g : Env → R D) : Env → R D := fun ε => t ε >>= fun c => if c = true then f ε else g ε
theorem ex_if (hc : Tx X W c ta) (ha : Ex X W a fa) (hb : Ex X W b fb) : Ex X W (.IfExp c a b pos) (ifE ta fa fb) := by
  refine PE.imp (pe_ifExp hc ha hb) fun σ H Q ⟨ε, F, re, q⟩ => ⟨ε, F, re, R.wp_mono (R.wp_bind q) (fun c k H1 F1 g1 => ?_) (fun e k => k)⟩
  cases c with
  | true => exact ⟨ε, F1, re.grow g1, R.wp_mono k (fun b k => fin_grow g1 k) fun e k => exnG (K := X.K) g1 k⟩
  | false => exact ⟨ε, F1, re.grow g1, R.wp_mono k (fun b k => fin_grow g1 k) fun e k => exnG (K := X.K) g1 k⟩
/-- a < b < c -/
def chainE (g g' : D → D → R D) (fa fb fc : Env → R D) : Env → R D := fun ε => fa ε >>= fun x => fb ε >>= fun y => (g x y).hard >>= boolD >>= fun k => if k = true then fc ε >>= fun z => (g' y z).hard else .ok (.bool false)
theorem chain_core {op op' : CmpOp} {r r' : R2} {g g' : D → D → R D} {Q : VK} {σ : L2.St} {H : Hp} (hg : G2 X.K r g) (hg' : G2 X.K r' g') (h : tE X.K X.mg W (chainE g g' fa fb fc) σ H Q) :
    tChain r r' (tE X.K X.mg W fa) (tE X.K X.mg W fb) (tE X.K X.mg W fc) σ H Q := by
  obtain ⟨ε, F, re, q⟩ := h
  refine ⟨ε, F, re, R.wp_mono (R.wp_bind q) (fun dx k v H1 F1 g1 d1 => ⟨ε, F1, re.grow g1, ?_⟩) (fun e k => k)⟩
  refine R.wp_mono (R.wp_bind k) (fun dy k w H2 F2 g2 d2 => ?_) (fun e k => exnG (K := X.K) g1 k)
  refine hg _ _ _ _ _ F2 _ g2.ok (d1.grow g2) d2 ?_
  have k2 := R.wp_bind (R.wp_bind k)
  refine hardN k2 fun d k v H3 F3 g3 d3 => ?_
  cases d3 with
  | bl b =>
    refine ⟨b, rfl, ?_⟩
    cases b with
    | true =>
      refine ⟨ε, F3, re.grow (g1.trans (g2.trans g3)), R.wp_mono (R.wp_bind k) (fun dz k z H4 F4 g4 d4 => ?_) (fun e k => exnG (K := X.K) (g1.trans (g2.trans g3)) k)⟩
      refine hg' _ _ _ _ _ F4 _ g4.ok (d2.grow (g3.trans g4)) d4 (hardN k fun d k => fin_grow (g1.trans (g2.trans (g3.trans g4))) k)
    | false => exact k _ _ _ (g1.trans (g2.trans g3)) (.bl _)
  | _ => exact k.elim
theorem ex_chain {op op' : CmpOp} {r r' : R2} {g g' : D → D → R D} (ho : OpR X (compareOp op) r) (ho' : OpR X (compareOp op') r') (hg : G2 X.K r g) (hg' : G2 X.K r' g') (ha : Ex X W a fa) (hb : Ex X W b fb) (hc : Ex X W c fc) (hm : lastMarks [op, op'] [b, c] = false := by rfl) :
    Ex X W (.Compare a [op, op'] [b, c] pos) (chainE g g' fa fb fc) := PE.imp (pe_chain ho ho' ha hb hc hm) fun σ H Q h => chain_core (op := op) (op' := op') hg hg' h
/-! ### calls of built-ins -/
variable {x : Str} {p : Pos} {e : Expr} {es : List Expr} {fs : List (Env → R D)} {id T : String}
theorem ex_callB {r : List V → Hp → VK → Prop} {g : List D → R D} (hc : CallR X (.builtin id) r) (hg : GC X.K r g) (hm : X.mg x = none) (ha : Exs X W (e :: es) fs) (hv : bootBuiltins x = some (.builtin id) := by decide +kernel) (hgl : Gl X x := by rfl)
    (hn : x ≠ "__name__" := by decide) (hdb : (x == ("__debug__" : Str)) = false := by decide) (he : starEach (e :: es) X.env = (false, eval e X.env) :: starEach es X.env := by rfl) (hpl : (backTo pos (starEach es X.env)).any (·.1) = false := by rfl) :
    Ex X W (.Call (.Name x p) (e :: es) [] pos) (callE g fs) := by
  refine PE.imp (pe_callB hc hgl hm hv ha hn hdb he hpl) fun σ H Q ⟨ε, F, re, q⟩ => ⟨ε, F, re, R.wp_mono (R.wp_bind q) (fun ds k vs H1 F1 g1 d1 => ?_) (fun e k => k)⟩
  exact hg _ _ _ _ _ g1.ok d1 (hardN k fun d k => fin_grow g1 k)
theorem fx_callB {r : List V → Hp → VK → Prop} {g : List D → R (List D)} (hc : CallR X (.builtin id) r) (hg : GCF X.K r g) (hm : X.mg x = none) (ha : Exs X W (e :: es) fs) (hv : bootBuiltins x = some (.builtin id) := by decide +kernel) (hgl : Gl X x := by rfl)
    (hn : x ≠ "__name__" := by decide) (hdb : (x == ("__debug__" : Str)) = false := by decide) (he : starEach (e :: es) X.env = (false, eval e X.env) :: starEach es X.env := by rfl) (hpl : (backTo pos (starEach es X.env)).any (·.1) = false := by rfl) :
    Fx X W (.Call (.Name x p) (e :: es) [] pos) (callF g fs) := by
  refine PE.imp (pe_callB hc hgl hm hv ha hn hdb he hpl) fun σ H Q ⟨ε, F, re, q⟩ => ⟨ε, F, re, R.wp_mono (R.wp_bind q) (fun ds k vs H1 F1 g1 d1 => ?_) (fun e k => k)⟩
  exact hg _ _ _ _ _ g1.ok d1 (hardN k fun d k => finL_grow g1 k)
theorem ex_callT {r : List V → Hp → VK → Prop} {g : List D → R D} (hc : CallR X (.type T) r) (hg : GC X.K r g) (hm : X.mg x = none) (ha : Exs X W (e :: es) fs) (hv : bootBuiltins x = some (.type T) := by decide +kernel) (hgl : Gl X x := by rfl)
    (hn : x ≠ "__name__" := by decide) (hdb : (x == ("__debug__" : Str)) = false := by decide) (he : starEach (e :: es) X.env = (false, eval e X.env) :: starEach es X.env := by rfl) (hpl : (backTo pos (starEach es X.env)).any (·.1) = false := by rfl) :
    Ex X W (.Call (.Name x p) (e :: es) [] pos) (callE g fs) := by
  refine PE.imp (pe_callTy hc hgl hm hv ha hn hdb he hpl) fun σ H Q ⟨ε, F, re, q⟩ => ⟨ε, F, re, R.wp_mono (R.wp_bind q) (fun ds k vs H1 F1 g1 d1 => ?_) (fun e k => k)⟩
  exact hg _ _ _ _ _ g1.ok d1 (hardN k fun d k => fin_grow g1 k)
theorem fx_callT {r : List V → Hp → VK → Prop} {g : List D → R (List D)} (hc : CallR X (.type T) r) (hg : GCF X.K r g) (hm : X.mg x = none) (ha : Exs X W (e :: es) fs) (hv : bootBuiltins x = some (.type T) := by decide +kernel) (hgl : Gl X x := by rfl)
    (hn : x ≠ "__name__" := by decide) (hdb : (x == ("__debug__" : Str)) = false := by decide) (he : starEach (e :: es) X.env = (false, eval e X.env) :: starEach es X.env := by rfl) (hpl : (backTo pos (starEach es X.env)).any (·.1) = false := by rfl) :
    Fx X W (.Call (.Name x p) (e :: es) [] pos) (callF g fs) := by
  refine PE.imp (pe_callTy hc hgl hm hv ha hn hdb he hpl) fun σ H Q ⟨ε, F, re, q⟩ => ⟨ε, F, re, R.wp_mono (R.wp_bind q) (fun ds k vs H1 F1 g1 d1 => ?_) (fun e k => k)⟩
  exact hg _ _ _ _ _ g1.ok d1 (hardN k fun d k => finL_grow g1 k)
end
end RB

set_option Elab.async false
set_option linter.all false
set_option maxRecDepth 100000
set_option maxHeartbeats 4000000
namespace RB
open PySem PySem.Spec PyProof.Rows L2

theorem OpR.or {X : Cx} {f : Value → Value → Sem Value} {r r' : R2} (h : OpR X f r) (h' : OpR X f r') : OpR X f (fun x y H Q => r x y H Q ∨ r' x y H Q) := by
  intro pins s σ H x y v u Q I rx ry q
  rcases q with q | q
  · exact h pins s σ H x y v u Q I rx ry q
  · exact h' pins s σ H x y v u Q I rx ry q
theorem okS_append {a b : Str} (ha : okS a) (hb : okS b) (h : a.length + b.length ≤ sizeLine) : okS (a ++ b) := by
  refine ⟨?_, ?_⟩
  · show (a.cps ++ b.cps).size ≤ _
    rw [Array.size_append]; exact h
  · show (a.cps ++ b.cps).all _ = true
    have h1 := ha.2
    have h2 := hb.2
    rw [Array.all_eq_true'] at h1 h2 ⊢
    intro x hx
    rcases Array.mem_append.mp hx with q | q
    · exact h1 x q
    · exact h2 x q
theorem okS_sign {z : Str} {c i : Nat} (h : okS z) (e : z.cps[i]? = some c) : okS ⟨#[c]⟩ := by
  refine ⟨?_, ?_⟩
  · show 1 ≤ sizeLine
    decide
  · have h2 := h.2
    rw [Array.all_eq_true'] at h2
    have := h2 c (Array.mem_of_getElem? e)
    simpa using this
section
variable {K : PySem.W.Frag} {X : Cx}
theorem fin_same {H : Hp} {F : Addr → Prop} {Q : VK} {d : D} {v : V} (k : Fin1 K H F Q d) (ok : FOk H F) (h : Den K H F v d) : Q v H := k v H F (.refl ok) h
/-- a new tuple -/
theorem fin_tup {H : Hp} {F : Addr → Prop} {Q : VK} {ds : List D} {vs : List V} (k : Fin1 K H F Q (.tuple ds)) (ok : FOk H F) (h : DenL K H F vs ds) (hz : vs.length ≤ sizeLine) : ∀ p, H p = none → Q (.ref p) (upd H p (.tup vs)) := fun p hp => by
  have g := grow_new (o := .tup vs) ok hp
  exact k _ _ _ g (.tup upd_same (h.grow g) hz)
/-- a new list -/
theorem fin_lst {H : Hp} {F : Addr → Prop} {Q : VK} {ds : List D} {vs : List V} (k : Fin1 K H F Q (.list ds)) (ok : FOk H F) (h : DenL K H F vs ds) (hz : vs.length ≤ sizeLine) : ∀ p, H p = none → Q (.ref p) (upd H p (.lst vs)) := fun p hp => by
  have g := grow_newF (o := .lst vs) ok hp
  exact k _ _ _ g (.lst (.inl (.inl ⟨upd_same, .inr rfl⟩)) (h.grow g) hz)
theorem finF {H : Hp} {F : Addr → Prop} {Q : VK} {ds : List D} {vs : List V} (k : FinL K H F Q ds) (ok : FOk H F) (h : DenL K H F vs ds) (hz : vs.length ≤ sizeLine) : ∀ p, H p = none → Q (.ref p) (upd H p (.lst vs)) := fun p hp => by
  have g := grow_new (o := .lst vs) ok hp
  refine k p vs _ _ g hp upd_same (fun f => ?_) (h.grow g) hz
  obtain ⟨u, e⟩ := ok p f
  rw [e] at hp; cases hp
/-! ### + - * // % ** -/
/-- list + list, of any lists that are read -/
def rCatL (K : PySem.W.Frag) : R2 := fun x y H Q => ∃ l b xs zs, x = .ref l ∧ y = .ref b ∧ SqL K H l xs ∧ SqL K H b zs ∧ xs.length + zs.length ≤ sizeLine ∧ ∀ p, H p = none → Q (.ref p) (upd H p (.lst (xs ++ zs)))
theorem op_catL : OpR X (binaryOp .Add) (rCatL X.K) := by
  intro pins s σ H x y v u Q I rx ry ⟨l, b, xs, zs, ex, ey, hl, hb, hz, q⟩
  subst ex ey
  cases rx
  cases ry
  obtain ⟨its, r, ⟨⟨c1, d1, t1, sl1⟩, n1, g1, e1, e2, e3⟩, z1⟩ := I.list hl
  obtain ⟨its2, r2, ⟨⟨c2, d2, t2, sl2⟩, n2, g2, e4, e5, e6⟩, z2⟩ := I.list hb
  simp only at e1 e2 e3 e4 e5 e6
  subst e1 e2 e3 e4 e5 e6
  have l1 := r.length
  have l2 := r2.length
  refine concat_meets ⟨_, g1, rfl⟩ ⟨_, g2, rfl⟩ noFill_list_add seq_list_add PySem.F.slot_list_add PySem.F.entry_list_add (PySem.F.args_list_add_2 _ _)
    (list_addW l b its.toArray its2.toArray n1 n2 _ _ _ _ (by rw [List.size_toArray, List.size_toArray]; omega)) ⟨g1, g2, ?_⟩
  rw [show its.toArray ++ its2.toArray = (its ++ its2).toArray by simp]
  exact ⟨.ref _, _, I.lnew (t' := s.toks) (r.append r2) (by rw [List.length_append]; omega), rfl, q _ I.fresh⟩
def rAddA (K : PySem.W.Frag) : R2 := fun x y H Q => (rI0 (fun i j => .int (i + j)) x y H Q) ∨ (∃ i k, x = .int i ∧ y = .bl k ∧ Q (.int (i + b2i k)) H) ∨ (∃ i j, x = .str i ∧ y = .str j ∧ i.length + j.length ≤ sizeLine ∧ Q (.str (i ++ j)) H) ∨ rCatA K x y H Q ∨ rCatL K x y H Q
theorem op_addA : OpR X (binaryOp .Add) (rAddA X.K) := op_add.or (op_add_ib.or (op_add_str.or (op_catA.or op_catL)))
def addD : D → D → R D
  | .int i, .int j => .ok (.int (i + j))
  | .int i, .bool j => .ok (.int (i + b2i j))
  | .str a, .str b => if a.length + b.length ≤ sizeLine then .ok (.str (a ++ b)) else .stuck
  | .tuple a, .tuple b => if a.length + b.length ≤ sizeLine then .ok (.tuple (a ++ b)) else .stuck
  | .list a, .list b => if a.length + b.length ≤ sizeLine then .ok (.list (a ++ b)) else .stuck
  | _, _ => .stuck
theorem ite_wp {α : Type} {c : Prop} [Decidable c] {x : R α} {P : α → Prop} {E : Exn → Prop} (h : (if c then x else R.stuck).wp P E) : c ∧ x.wp P E := by
  by_cases hc : c
  · rw [if_pos hc] at h; exact ⟨hc, h⟩
  · rw [if_neg hc] at h; exact h.elim
theorem g_add : G2 K (rAddA K) addD := by
  intro x y dx dy H F Q ok hx hy k
  cases hx with
  | int i =>
    cases hy with
    | int j => exact .inl ⟨i, j, rfl, rfl, fin_same k ok (.int _)⟩
    | bl j => exact .inr (.inl ⟨i, j, rfl, rfl, fin_same k ok (.int _)⟩)
    | _ => exact k.elim
  | str a ha =>
    cases hy with
    | str b hb =>
      obtain ⟨h, k⟩ := ite_wp (x := R.ok _) k
      exact .inr (.inr (.inl ⟨a, b, rfl, rfl, h, fin_same k ok (.str _ (okS_append ha hb h))⟩))
    | _ => exact k.elim
  | @tup a vs ds h1 h2 h3 =>
    cases hy with
    | @tup b ws es h4 h5 h6 =>
      obtain ⟨h, k⟩ := ite_wp (x := R.ok _) k
      have l1 := h2.length
      have l2 := h5.length
      refine .inr (.inr (.inr (.inl ⟨a, b, vs, ws, rfl, rfl, .of h1, .of h4, by omega, fun e => ?_, fun _ e => ?_, fun _ _ => ?_⟩)))
      · subst e; cases h2
        exact fin_same k ok (.tup h4 h5 h6)
      · subst e; cases h5
        rw [List.append_nil] at k
        exact fin_same k ok (.tup h1 h2 h3)
      · exact fin_tup k ok (h2.append h5) (by rw [List.length_append]; omega)
    | _ => exact k.elim
  | @lst a vs ds h1 h2 h3 =>
    cases hy with
    | @lst b ws es h4 h5 h6 =>
      obtain ⟨h, k⟩ := ite_wp (x := R.ok _) k
      have l1 := h2.length
      have l2 := h5.length
      exact .inr (.inr (.inr (.inr ⟨a, b, vs, ws, rfl, rfl, h1.sql, h4.sql, by omega, fin_lst k ok (h2.append h5) (by rw [List.length_append]; omega)⟩)))
    | _ => exact k.elim
  | _ => exact k.elim
/-- list + list as a new list -/
def catF (f g : Env → R (List D)) : Env → R (List D) := fun ε => f ε >>= fun a => g ε >>= fun b => if a.length + b.length ≤ sizeLine then .ok (a ++ b) else .stuck
def subD : D → D → R D
  | .int i, .int j => .ok (.int (i - j))
  | _, _ => .stuck
theorem g_sub : G2 K (rI0 fun i j => .int (i - j)) subD := by
  intro x y dx dy H F Q ok hx hy k
  cases hx with
  | int i =>
    cases hy with
    | int j => exact ⟨i, j, rfl, rfl, fin_same k ok (.int _)⟩
    | _ => exact k.elim
  | _ => exact k.elim
def mulFits (i j : Int) : Bool := (decide (-(2 ^ 64) < i) && decide (i < 2 ^ 64)) || (decide (-(2 ^ 64) < j) && decide (j < 2 ^ 64)) || decide (i.natAbs.log2 + j.natAbs.log2 < 1000000)
def rMulA (K : PySem.W.Frag) : R2 := fun x y H Q => rI CMul (fun i j => .int (i * j)) x y H Q ∨ rI CMulW (fun i j => .int (i * j)) x y H Q ∨ rRepT K x y H Q
theorem op_mulA : OpR X (binaryOp .Mult) (rMulA X.K) := op_mul.or (op_mulW.or op_repT)
def mulD : D → D → R D
  | .int i, .int j => if mulFits i j = true then .ok (.int (i * j)) else .stuck
  | .tuple a, .int k => if a ≠ [] ∧ 2 ≤ k ∧ k ≤ 1000 ∧ a.length ≤ 1000 then .ok (.tuple (List.replicate k.toNat a).flatten) else .stuck
  | _, _ => .stuck
theorem denL_rep {H : Hp} {F : Addr → Prop} {vs : List V} {ds : List D} (h : DenL K H F vs ds) : ∀ n : Nat, DenL K H F (List.replicate n vs).flatten (List.replicate n ds).flatten
  | 0 => .nil
  | n + 1 => by
    rw [List.replicate_succ, List.replicate_succ, List.flatten_cons, List.flatten_cons]
    exact h.append (denL_rep h n)
theorem len_rep {α : Type} (xs : List α) (n : Nat) : (List.replicate n xs).flatten.length = n * xs.length := by
  induction n with
  | zero => simp
  | succ n ih => rw [List.replicate_succ, List.flatten_cons, List.length_append, ih, Nat.succ_mul]; omega
theorem g_mul : G2 K (rMulA K) mulD := by
  intro x y dx dy H F Q ok hx hy k
  cases hx with
  | int i =>
    cases hy with
    | int j =>
      obtain ⟨h, k⟩ := ite_wp (x := R.ok _) k
      unfold mulFits at h
      simp only [Bool.or_eq_true, Bool.and_eq_true, decide_eq_true_eq] at h
      have q := fin_same k ok (.int _)
      rcases h with (h | h) | h
      · exact .inl ⟨i, j, rfl, rfl, .inl h, q⟩
      · exact .inl ⟨i, j, rfl, rfl, .inr h, q⟩
      · exact .inr (.inl ⟨i, j, rfl, rfl, h, q⟩)
    | _ => exact k.elim
  | @tup a vs ds h1 h2 h3 =>
    cases hy with
    | int j =>
      obtain ⟨⟨e1, e2, e3, e4⟩, k⟩ := ite_wp (x := R.ok _) k
      have l1 := h2.length
      refine .inr (.inr ⟨a, j, vs, rfl, rfl, (.of h1), fun e => e1 ?_, e2, e3, by omega, fin_tup k ok (denL_rep h2 _) ?_⟩)
      · subst e; cases h2; rfl
      · rw [len_rep, sizeLine_eq]
        have : j.toNat ≤ 1000 := by omega
        have : j.toNat * vs.length ≤ 1000 * 1000 := Nat.mul_le_mul this (by omega)
        omega
    | _ => exact k.elim
  | _ => exact k.elim
def rDivA : R2 := fun x y H Q => rI CDivN (fun i j => .int (i.fdiv j)) x y H Q ∨ rI CDivW (fun i j => .int (i / j)) x y H Q
theorem op_divA : OpR X (binaryOp .FloorDiv) rDivA := op_fdivN.or op_fdivW
def divD : D → D → R D
  | .int i, .int j => if 0 < j ∧ (j.natAbs < 1073741824 ∨ j.natAbs.log2 < 9000) then .ok (.int (i / j)) else .stuck
  | _, _ => .stuck
theorem g_div : G2 K rDivA divD := by
  intro x y dx dy H F Q ok hx hy k
  cases hx with
  | int i =>
    cases hy with
    | int j =>
      obtain ⟨⟨h1, h2⟩, k⟩ := ite_wp (x := R.ok _) k
      rcases h2 with h2 | h2
      · exact .inl ⟨i, j, rfl, rfl, ⟨by omega, h2⟩, by
          show Q (.int (i.fdiv j)) H
          rw [Int.fdiv_eq_ediv_of_nonneg i (by omega)]
          exact fin_same k ok (.int _)⟩
      · exact .inr ⟨i, j, rfl, rfl, ⟨h1, h2⟩, fin_same k ok (.int _)⟩
    | _ => exact k.elim
  | _ => exact k.elim
def modD : D → D → R D
  | .int i, .int j => if 0 < j then .ok (.int (i % j)) else .stuck
  | _, _ => .stuck
theorem g_mod : G2 K (rI (fun _ j => 0 < j) fun i j => .int (i % j)) modD := by
  intro x y dx dy H F Q ok hx hy k
  cases hx with
  | int i =>
    cases hy with
    | int j =>
      obtain ⟨h1, k⟩ := ite_wp (x := R.ok _) k
      exact ⟨i, j, rfl, rfl, h1, fin_same k ok (.int _)⟩
    | _ => exact k.elim
  | _ => exact k.elim
def powD : D → D → R D
  | .int i, .int j => if 0 ≤ j ∧ j ≤ 1000000 ∧ i.natAbs < 2 ^ 64 then .ok (.int (i ^ j.toNat)) else .stuck
  | _, _ => .stuck
theorem g_pow : G2 K (rI CPow fun i j => .int (i ^ j.toNat)) powD := by
  intro x y dx dy H F Q ok hx hy k
  cases hx with
  | int i =>
    cases hy with
    | int j =>
      obtain ⟨h1, k⟩ := ite_wp (x := R.ok _) k
      exact ⟨i, j, rfl, rfl, h1, fin_same k ok (.int _)⟩
    | _ => exact k.elim
  | _ => exact k.elim
def negD : D → R D
  | .int i => .ok (.int (-i))
  | _ => .stuck
theorem g_neg : G1 K (rU fun i => .int (-i)) negD := by
  intro x dx H F Q ok hx k
  cases hx with
  | int i => exact ⟨i, rfl, fin_same k ok (.int _)⟩
  | _ => exact k.elim
/-! ### comparisons -/
mutual
theorem Den.dp {H : Hp} {F : Addr → Prop} : ∀ {v : V} {d : D}, Den K H F v d → (∀ kvs, d ≠ .dict kvs) → d.canLay0 = true → Dp K H v d
  | _, _, .non, _, _ => .non
  | _, _, .bl b, _, _ => .bl b
  | _, _, .int i, _, _ => .int i
  | _, _, .str x _, _, _ => .str x
  | _, _, .tup h hs _, _, c => .tup (.of h) (DenL.dp hs (by unfold PyData.canLay0 at c; exact c))
  | _, _, .lst h hs _, _, c => .lst h.sql (DenL.dp hs (by unfold PyData.canLay0 at c; exact c))
  | _, _, .dK _ _, n, _ => absurd rfl (n _)
  | _, _, .dT _ _, n, _ => absurd rfl (n _)
theorem DenL.dp {H : Hp} {F : Addr → Prop} : ∀ {vs : List V} {ds : List D}, DenL K H F vs ds → PyData.canLayAll0 ds = true → DpAll K H vs ds
  | _, _, .nil, _ => .nil
  | _, _, .cons h hs, c => by
    unfold PyData.canLayAll0 at c
    rw [Bool.and_eq_true] at c
    exact .cons (Den.dp h (fun kvs e => by rw [e] at c; unfold PyData.canLay0 at c; exact absurd c.1 Bool.false_ne_true) c.1) (DenL.dp hs c.2)
end
mutual
/-- no dict within -/
def plain : D → Bool
  | .none | .bool _ | .int _ | .str _ => true
  | .list xs | .tuple xs => plainL xs
  | .dict _ => false
def plainL : List D → Bool
  | [] => true
  | x :: xs => plain x && plainL xs
end
mutual
theorem Den.lay {H : Hp} {F : Addr → Prop} : ∀ {v : V} {d : D}, Den K H F v d → plain d = true → d.canLay0 = true
  | _, _, .non, _ => by unfold PyData.canLay0; rfl
  | _, _, .bl b, _ => by unfold PyData.canLay0; rfl
  | _, _, .int i, _ => by unfold PyData.canLay0; rfl
  | _, _, .str x h, _ => by unfold PyData.canLay0; exact h.2
  | _, _, .tup h hs _, c => by unfold PyData.canLay0; exact DenL.lay hs (by unfold plain at c; exact c)
  | _, _, .lst h hs _, c => by unfold PyData.canLay0; exact DenL.lay hs (by unfold plain at c; exact c)
  | _, _, .dK _ _, n => by unfold plain at n; cases n
  | _, _, .dT _ _, n => by unfold plain at n; cases n
theorem DenL.lay {H : Hp} {F : Addr → Prop} : ∀ {vs : List V} {ds : List D}, DenL K H F vs ds → plainL ds = true → PyData.canLayAll0 ds = true
  | _, _, .nil, _ => by unfold PyData.canLayAll0; rfl
  | _, _, .cons h hs, c => by
    unfold plainL at c
    rw [Bool.and_eq_true] at c
    unfold PyData.canLayAll0
    rw [Den.lay h c.1, DenL.lay hs c.2]
    rfl
end
def cmpOk (d : D) : Bool := plain d && decide (d.depth ≤ 64)
theorem cmp_of {H : Hp} {F : Addr → Prop} {v : V} {d : D} (h : Den K H F v d) (c : cmpOk d = true) : Dp K H v d ∧ SeqAt.shaped d = true := by
  unfold cmpOk at c
  rw [Bool.and_eq_true] at c
  have l := h.lay c.1
  refine ⟨h.dp (fun kvs e => ?_) l, ?_⟩
  · rw [e] at c; unfold plain at c; exact absurd c.1 Bool.false_ne_true
  · unfold SeqAt.shaped
    rw [l, c.2]; rfl
def eqD (a b : D) : R D := if cmpOk a = true ∧ cmpOk b = true then .ok (.bool (PyData.eqv a b)) else .stuck
def neD (a b : D) : R D := if cmpOk a = true ∧ cmpOk b = true then .ok (.bool (!PyData.eqv a b)) else .stuck
theorem g_eq : G2 K (rEqD K) eqD := by
  intro x y dx dy H F Q ok hx hy k
  obtain ⟨⟨h1, h2⟩, k⟩ := ite_wp (x := R.ok _) k
  obtain ⟨p1, s1⟩ := cmp_of hx h1
  obtain ⟨p2, s2⟩ := cmp_of hy h2
  exact ⟨dx, dy, p1, p2, s1, s2, fin_same k ok (.bl _)⟩
theorem g_ne : G2 K (rNeD K) neD := by
  intro x y dx dy H F Q ok hx hy k
  obtain ⟨⟨h1, h2⟩, k⟩ := ite_wp (x := R.ok _) k
  obtain ⟨p1, s1⟩ := cmp_of hx h1
  obtain ⟨p2, s2⟩ := cmp_of hy h2
  exact ⟨dx, dy, p1, p2, s1, s2, fin_same k ok (.bl _)⟩
/-! is, of bools -/
def isBD : D → D → R D
  | .bool a, .bool b => .ok (.bool (a == b))
  | _, _ => .stuck
def notBD : D → D → R D
  | .bool a, .bool b => .ok (.bool (!(a == b)))
  | _, _ => .stuck
theorem dec_b (a b : Bool) : decide (a = b) = (a == b) := by cases a <;> cases b <;> rfl
theorem g_isB : G2 K rIsB isBD := by
  intro x y dx dy H F Q ok hx hy k
  cases hx with
  | bl a =>
    cases hy with
    | bl b => exact ⟨a, b, rfl, rfl, by rw [dec_b]; exact fin_same k ok (.bl _)⟩
    | _ => exact k.elim
  | _ => exact k.elim
theorem g_notB : G2 K rNotB notBD := by
  intro x y dx dy H F Q ok hx hy k
  cases hx with
  | bl a =>
    cases hy with
    | bl b => exact ⟨a, b, rfl, rfl, by rw [dec_b]; exact fin_same k ok (.bl _)⟩
    | _ => exact k.elim
  | _ => exact k.elim
/-! order of ints and of texts -/
def ltS (a b : Str) : Bool := decide (a.cps.toList < b.cps.toList)
def cmpD (p : Int → Int → Bool) (q : Str → Str → Bool) : D → D → R D
  | .int i, .int j => .ok (.bool (p i j))
  | .str a, .str b => .ok (.bool (q a b))
  | _, _ => .stuck
def rCmpA (p : Int → Int → Bool) (q : Str → Str → Bool) : R2 := fun x y H Q => rI0 (fun i j => .bl (p i j)) x y H Q ∨ (∃ i j, x = .str i ∧ y = .str j ∧ Q (.bl (q i j)) H)
theorem g_cmp {p : Int → Int → Bool} {q : Str → Str → Bool} : G2 K (rCmpA p q) (cmpD p q) := by
  intro x y dx dy H F Q ok hx hy k
  cases hx with
  | int i =>
    cases hy with
    | int j => exact .inl ⟨i, j, rfl, rfl, fin_same k ok (.bl _)⟩
    | _ => exact k.elim
  | str i =>
    cases hy with
    | str j => exact .inr ⟨i, j, rfl, rfl, fin_same k ok (.bl _)⟩
    | _ => exact k.elim
  | _ => exact k.elim
abbrev ltD := cmpD (fun i j => decide (i < j)) ltS
abbrev leD := cmpD (fun i j => decide (i ≤ j)) fun a b => !ltS b a
abbrev gtD := cmpD (fun i j => decide (j < i)) fun a b => ltS b a
abbrev geD := cmpD (fun i j => decide (j ≤ i)) fun a b => !ltS a b
theorem op_ltA : OpR X (compareOp .Lt) (rCmpA (fun i j => decide (i < j)) ltS) := op_lt.or op_lt_str
theorem op_leA : OpR X (compareOp .LtE) (rCmpA (fun i j => decide (i ≤ j)) fun a b => !ltS b a) := op_le.or op_le_str
theorem op_gtA : OpR X (compareOp .Gt) (rCmpA (fun i j => decide (j < i)) fun a b => ltS b a) := op_gt.or op_gt_str
theorem op_geA : OpR X (compareOp .GtE) (rCmpA (fun i j => decide (j ≤ i)) fun a b => !ltS a b) := op_ge.or op_ge_str
/-! ### places -/
def ixD : D → D → R D
  | .list xs, .int i => match atI xs i with
    | some d => .ok d
    | none => .stuck
  | .tuple xs, .int i => match atI xs i with
    | some d => .ok d
    | none => .stuck
  | .str z, .int i => match atI z.cps.toList i with
    | some c => .ok (.str ⟨#[c]⟩)
    | none => .stuck
  | _, _ => .stuck
theorem DenL.atI {H : Hp} {F : Addr → Prop} {vs : List V} {ds : List D} {i : Int} {d : D} (h : DenL K H F vs ds) (e : L2.atI ds i = some d) : ∃ v, L2.atI vs i = some v ∧ Den K H F v d := by
  unfold L2.atI at e ⊢
  rw [← h.length] at e
  cases q : ixN vs.length i with
  | none => rw [q] at e; cases e
  | some j =>
    rw [q] at e
    exact h.getD e
theorem atI_sign {z : Str} {i : Int} {c : Nat} (e : atI z.cps.toList i = some c) : ∃ j : Nat, z.cps[j]? = some c := by
  unfold atI at e
  cases q : ixN z.cps.toList.length i with
  | none => rw [q] at e; cases e
  | some j =>
    rw [q] at e
    exact ⟨j, by rw [← Array.getElem?_toList]; exact e⟩
theorem g_ix : G2 K (rIx K) ixD := by
  intro x y dx dy H F Q ok hx hy k
  cases hx with
  | @lst a vs ds h1 h2 h3 =>
    cases hy with
    | int i =>
      unfold ixD at k
      simp only at k
      split at k
      · rename_i d e
        obtain ⟨v, e1, h⟩ := h2.atI e
        exact .inl ⟨a, vs, i, v, rfl, rfl, h1.sql, e1, fin_same k ok h⟩
      · exact k.elim
    | _ => exact k.elim
  | @tup a vs ds h1 h2 h3 =>
    cases hy with
    | int i =>
      unfold ixD at k
      simp only at k
      split at k
      · rename_i d e
        obtain ⟨v, e1, h⟩ := h2.atI e
        exact .inr (.inl ⟨a, vs, i, v, rfl, rfl, (.of h1), e1, fin_same k ok h⟩)
      · exact k.elim
    | _ => exact k.elim
  | @str z hz =>
    cases hy with
    | int i =>
      unfold ixD at k
      simp only at k
      split at k
      · rename_i c e
        obtain ⟨j, ej⟩ := atI_sign e
        exact .inr (.inr ⟨z, i, c, rfl, rfl, hz.1, e, fin_same k ok (.str _ (okS_sign hz ej))⟩)
      · exact k.elim
    | _ => exact k.elim
  | _ => cases hy <;> exact k.elim
end
end RB

set_option Elab.async false
set_option linter.all false
set_option maxRecDepth 100000
set_option maxHeartbeats 4000000
namespace RB
open PySem PySem.Spec PyProof.Rows L2
open Classical in
/-- x where P holds -/
noncomputable def given_ {α : Type} (P : Prop) (x : R α) : R α := if P then x else .stuck
theorem given_pos {α : Type} {P : Prop} {x : R α} (h : P) : given_ P x = x := by unfold given_; rw [if_pos h]
theorem given_wp {α : Type} {c : Prop} {x : R α} {P : α → Prop} {E : Exn → Prop} (h : (given_ c x).wp P E) : c ∧ x.wp P E := by
  unfold given_ at h
  by_cases hc : c
  · rw [if_pos hc] at h; exact ⟨hc, h⟩
  · rw [if_neg hc] at h; exact h.elim
def intsOf : List D → R (List Int)
  | [] => .ok []
  | .int i :: r => intsOf r >>= fun is => .ok (i :: is)
  | _ => .stuck
def boolsOf : List D → R (List Bool)
  | [] => .ok []
  | .bool i :: r => boolsOf r >>= fun is => .ok (i :: is)
  | _ => .stuck
@[simp] theorem intsOf_map : ∀ ns : List Int, intsOf (ns.map .int) = .ok ns
  | [] => rfl
  | n :: ns => by rw [List.map_cons, intsOf, intsOf_map ns]; rfl
@[simp] theorem boolsOf_map : ∀ ns : List Bool, boolsOf (ns.map .bool) = .ok ns
  | [] => rfl
  | n :: ns => by rw [List.map_cons, boolsOf, boolsOf_map ns]; rfl
section
variable {K : PySem.W.Frag} {X : Cx} {H : Hp} {F : Addr → Prop}
theorem ints_of : ∀ {ds : List D} {vs : List V} {ns : List Int}, DenL K H F vs ds → intsOf ds = .ok ns → vs = ns.map V.int
  | [], _, ns, h, e => by cases h; cases e; rfl
  | d :: r, _, ns, h, e => by
    cases h with
    | cons h hs =>
      cases h with
      | int i =>
        rw [intsOf] at e
        cases q : intsOf r with
        | ok is =>
          rw [q] at e
          cases e
          rw [ints_of hs q]; rfl
        | exn _ => rw [q] at e; cases e
        | stuck => rw [q] at e; cases e
      | _ => cases e
theorem bools_of : ∀ {ds : List D} {vs : List V} {ns : List Bool}, DenL K H F vs ds → boolsOf ds = .ok ns → vs = ns.map V.bl
  | [], _, ns, h, e => by cases h; cases e; rfl
  | d :: r, _, ns, h, e => by
    cases h with
    | cons h hs =>
      cases h with
      | bl i =>
        rw [boolsOf] at e
        cases q : boolsOf r with
        | ok is =>
          rw [q] at e
          cases e
          rw [bools_of hs q]; rfl
        | exn _ => rw [q] at e; cases e
        | stuck => rw [q] at e; cases e
      | _ => cases e
/-- one argument -/
theorem denL1 {vs : List V} {d : D} (h : DenL K H F vs [d]) : ∃ v, vs = [v] ∧ Den K H F v d := by
  cases h with
  | cons h hs => cases hs; exact ⟨_, rfl, h⟩
theorem denL2 {vs : List V} {d e : D} (h : DenL K H F vs [d, e]) : ∃ v w, vs = [v, w] ∧ Den K H F v d ∧ Den K H F w e := by
  cases h with
  | cons h hs =>
    obtain ⟨w, rfl, h2⟩ := denL1 hs
    exact ⟨_, _, rfl, h, h2⟩
end
section
variable {K : PySem.W.Frag} {X : Cx}
/-! ### len, int, tuple, list, sum, all, any -/
def lenG : List D → R D
  | [.str z] => .ok (.int z.length)
  | [.list xs] => .ok (.int xs.length)
  | [.tuple xs] => .ok (.int xs.length)
  | _ => .stuck
theorem g_len : GC K (fun xs H Q => ∃ x n, xs = [x] ∧ LenV K x H n ∧ Q (.int n) H) lenG := by
  intro vs ds H F Q ok h k
  match ds, h, k with
  | [d], h, k =>
    obtain ⟨v, rfl, hd⟩ := denL1 h
    cases hd with
    | str z hz => exact ⟨_, _, rfl, ⟨hz.1, rfl⟩, fin_same k ok (.int _)⟩
    | @lst a vs ds h1 h2 h3 => exact ⟨_, vs.length, rfl, .inl ⟨vs, h1.sql, rfl⟩, by rw [h2.length]; exact fin_same k ok (.int _)⟩
    | @tup a vs ds h1 h2 h3 => exact ⟨_, vs.length, rfl, .inr ⟨vs, (.of h1), rfl⟩, by rw [h2.length]; exact fin_same k ok (.int _)⟩
    | _ => exact k.elim
  | [], _, k => exact k.elim
  | .none :: _ :: _, _, k => exact k.elim
  | .bool _ :: _ :: _, _, k => exact k.elim
  | .int _ :: _ :: _, _, k => exact k.elim
  | .str _ :: _ :: _, _, k => exact k.elim
  | .list _ :: _ :: _, _, k => exact k.elim
  | .tuple _ :: _ :: _, _, k => exact k.elim
  | .dict _ :: _ :: _, _, k => exact k.elim
def on1 (g : D → R D) : List D → R D
  | [d] => g d
  | _ => .stuck
def on1L (g : D → R (List D)) : List D → R (List D)
  | [d] => g d
  | _ => .stuck
theorem g_on1 {r : List V → Hp → VK → Prop} {g : D → R D} (h : ∀ v d H F Q, FOk H F → Den K H F v d → (g d).wp (Fin1 K H F Q) NoE → r [v] H Q) : GC K r (on1 g) := by
  intro vs ds H F Q ok hd k
  match ds, hd, k with
  | [d], hd, k =>
    obtain ⟨v, e, hd'⟩ := denL1 hd
    subst e
    exact h v d H F Q ok hd' k
  | [], _, k => exact k.elim
  | _ :: _ :: _, _, k => exact k.elim
theorem g_on1L {r : List V → Hp → VK → Prop} {g : D → R (List D)} (h : ∀ v d H F Q, FOk H F → Den K H F v d → (g d).wp (FinL K H F Q) NoE → r [v] H Q) : GCF K r (on1L g) := by
  intro vs ds H F Q ok hd k
  match ds, hd, k with
  | [d], hd, k =>
    obtain ⟨v, e, hd'⟩ := denL1 hd
    subst e
    exact h v d H F Q ok hd' k
  | [], _, k => exact k.elim
  | _ :: _ :: _, _, k => exact k.elim
def intG : D → R D
  | .int i => .ok (.int i)
  | .bool k => .ok (.int (if k then 1 else 0))
  | _ => .stuck
theorem g_int : GC K (fun xs H Q => (∃ i, xs = [.int i] ∧ Q (.int i) H) ∨ ∃ k, xs = [.bl k] ∧ Q (.int (if k then 1 else 0)) H) (on1 intG) := g_on1 fun v d H F Q ok hd k => by
  cases hd with
  | int i => exact .inl ⟨i, rfl, fin_same k ok (.int _)⟩
  | bl b => exact .inr ⟨b, rfl, fin_same k ok (.int _)⟩
  | _ => exact k.elim
def tupG : D → R D
  | .list xs => .ok (.tuple xs)
  | .tuple xs => .ok (.tuple xs)
  | _ => .stuck
theorem g_tuple : GC K (fun xs H Q => ∃ p ys, xs = [.ref p] ∧ ((SqL K H p ys ∧ ∀ l, H l = none → Q (.ref l) (upd H l (.tup ys))) ∨ (SqT K H p ys ∧ Q (.ref p) H))) (on1 tupG) := g_on1 fun v d H F Q ok hd k => by
  cases hd with
  | @lst a vs ds h1 h2 h3 => exact ⟨a, vs, rfl, .inl ⟨h1.sql, fin_tup k ok h2 h3⟩⟩
  | @tup a vs ds h1 h2 h3 => exact ⟨a, vs, rfl, .inr ⟨(.of h1), fin_same k ok (.tup h1 h2 h3)⟩⟩
  | _ => exact k.elim
def itemsG : D → R (List D)
  | .list xs => .ok xs
  | .tuple xs => .ok xs
  | _ => .stuck
theorem g_list : GCF K (fun xs H Q => ∃ p ys, xs = [.ref p] ∧ (SqL K H p ys ∨ SqT K H p ys) ∧ ∀ l, H l = none → Q (.ref l) (upd H l (.lst ys))) (on1L itemsG) := g_on1L fun v d H F Q ok hd k => by
  cases hd with
  | @lst a vs ds h1 h2 h3 => exact ⟨a, vs, rfl, .inl h1.sql, finF k ok h2 h3⟩
  | @tup a vs ds h1 h2 h3 => exact ⟨a, vs, rfl, .inr (.of h1), finF k ok h2 h3⟩
  | _ => exact k.elim
def listOfD : D → R (List D)
  | .list xs => .ok xs
  | _ => .stuck
def sumG : D → R D := fun d => listOfD d >>= fun xs => intsOf xs >>= fun ns => .ok (.int ns.sum)
theorem wp_ok {α β : Type} {x : R α} {f : α → R β} {P : β → Prop} {E : Exn → Prop} (h : (x >>= f).wp P E) (hE : ∀ e, ¬ E e) : ∃ a, x = .ok a ∧ (f a).wp P E := by
  cases x with
  | ok a => exact ⟨a, rfl, h⟩
  | exn e => exact absurd h (hE e)
  | stuck => exact h.elim
theorem g_sum : GC K (rSum K) (on1 sumG) := g_on1 fun v d H F Q ok hd k => by
  cases hd with
  | @lst a vs ds h1 h2 h3 =>
    obtain ⟨ns, e, k⟩ := wp_ok (x := intsOf ds) k (fun _ h => h)
    have := ints_of h2 e
    subst this
    exact ⟨a, ns, rfl, h1.sql, fin_same k ok (.int _)⟩
  | _ => exact k.elim
def allG : D → R D := fun d => listOfD d >>= fun xs => boolsOf xs >>= fun ns => .ok (.bool (ns.all id))
def anyG : D → R D := fun d => listOfD d >>= fun xs => boolsOf xs >>= fun ns => .ok (.bool (ns.any id))
theorem g_all : GC K (rAll K) (on1 allG) := g_on1 fun v d H F Q ok hd k => by
  cases hd with
  | @lst a vs ds h1 h2 h3 =>
    obtain ⟨ns, e, k⟩ := wp_ok (x := boolsOf ds) k (fun _ h => h)
    have := bools_of h2 e
    subst this
    exact ⟨a, ns, rfl, h1.sql, fin_same k ok (.bl _)⟩
  | _ => exact k.elim
theorem g_any : GC K (rAny K) (on1 anyG) := g_on1 fun v d H F Q ok hd k => by
  cases hd with
  | @lst a vs ds h1 h2 h3 =>
    obtain ⟨ns, e, k⟩ := wp_ok (x := boolsOf ds) k (fun _ h => h)
    have := bools_of h2 e
    subst this
    exact ⟨a, ns, rfl, h1.sql, fin_same k ok (.bl _)⟩
  | _ => exact k.elim
/-! ### min, max, sorted over data that is alike -/
def OrdOk (xs : List D) : Prop := PySem.W.AlikeAll xs ∧ plainL xs = true ∧ PyData.depthAll xs ≤ 64
noncomputable def minG : D → R D
  | .list (x :: xs) => given_ (OrdOk (x :: xs)) (.ok (PySem.W.minD x xs))
  | .tuple (x :: xs) => given_ (OrdOk (x :: xs)) (.ok (PySem.W.minD x xs))
  | _ => .stuck
noncomputable def maxG : D → R D
  | .list (x :: xs) => given_ (OrdOk (x :: xs)) (.ok (PySem.W.maxD x xs))
  | .tuple (x :: xs) => given_ (OrdOk (x :: xs)) (.ok (PySem.W.maxD x xs))
  | _ => .stuck
/-- one of the items, told by its data -/
def rPick (K : PySem.W.Frag) (f : D → List D → D) : List V → Hp → VK → Prop := fun xs H Q => ∃ a vs d ds F, xs = [V.ref a] ∧ (SqL K H a vs ∨ SqT K H a vs) ∧ DenL K H F vs (d :: ds) ∧ OrdOk (d :: ds) ∧ ∀ v, Den K H F v (f d ds) → Q v H
theorem plainL_lay {H : Hp} {F : Addr → Prop} {vs : List V} {ds : List D} (h : DenL K H F vs ds) (c : plainL ds = true) : DpAll K H vs ds := h.dp (h.lay c)
theorem pick_den {pins : List (Addr × Obj)} {σ : L2.St} {H : Hp} {F : Addr → Prop} {s : Shared} {h' : Heap} {vs : List V} {ds : List D} {its : List Value} {i : Nat} {v : Value} {d : D} {bs : List Addr} (I : Inv X pins σ H s) (hk : ∀ b o, s.heap.get? b = some o → h'.get? b = some o)
    (hd : DenL X.K H F vs ds) (c : plainL ds = true) (rv : Vals vs its) (e : its.toArray[i]? = some v) (r : Reads h' v d bs) : ∃ x, RelV x v ∧ Den X.K H F x d := by
  have e' : its[i]? = some v := by simpa using e
  have hi : i < vs.length := by
    rw [rv.length]
    exact (List.getElem?_eq_some_iff.mp e').1
  obtain ⟨u, e2, ru⟩ := rv.get (List.getElem?_eq_getElem hi)
  rw [e'] at e2; cases e2
  obtain ⟨d', e3, hd'⟩ := hd.get (List.getElem?_eq_getElem hi)
  have pl : plain d' = true := by
    have : ∀ {l : List D} {i : Nat} {x : D}, plainL l = true → l[i]? = some x → plain x = true := by
      intro l
      induction l with
      | nil => intro i x _ e; simp at e
      | cons y l ih =>
        intro i x c e
        unfold plainL at c
        rw [Bool.and_eq_true] at c
        cases i with
        | zero => simp at e; subst e; exact c.1
        | succ i => exact ih c.2 (by simpa using e)
    exact this c e3
  have lay := hd'.lay pl
  obtain ⟨as, r'⟩ := Dp.reads I d' _ _ (hd'.dp (fun kvs q => by subst q; unfold plain at pl; cases pl) lay) ru
  have := PySem.SeqAt.Reads.unique d' d v as bs lay (PySem.W.reads_keeps hk r') r
  subst this
  exact ⟨_, ru, hd'⟩
theorem cr_minD (hc : X.calm = true) (hu : X.A.units + 66 < cLine) : CallR X (.builtin "min") (rPick X.K PySem.W.minD) := by
  intro pins s σ H vs us Q I r ⟨a, ws, d, ds, F, e, hs, hd, ⟨o1, o2, o3⟩, q⟩
  subst e
  rw [Vals.ref1 r]
  have hz : X.A.units + 1 + PyData.depthAll (d :: ds) < cLine := by omega
  rcases hs with hs | hs
  · obtain ⟨its, rv, hl, _⟩ := I.list hs
    obtain ⟨as, ra⟩ := Dp.readsAll I _ _ its (plainL_lay hd o2) rv
    refine PySem.W.min_list_data (I.ok.hd hc) hl.isList ra o1 hz fun i v h' tk bs e r1 hk => ?_
    obtain ⟨x, rx, dx⟩ := pick_den I hk hd o2 rv e r1
    exact ⟨x, H, I.kept hk, rx, q x dx⟩
  · obtain ⟨its, rv, hl, _⟩ := I.tuple hs
    obtain ⟨as, ra⟩ := Dp.readsAll I _ _ its (plainL_lay hd o2) rv
    refine PySem.W.min_tuple_data (I.ok.hd hc) hl ra o1 hz fun i v h' tk bs e r1 hk => ?_
    obtain ⟨x, rx, dx⟩ := pick_den I hk hd o2 rv e r1
    exact ⟨x, H, I.kept hk, rx, q x dx⟩
theorem cr_maxD (hc : X.calm = true) (hu : X.A.units + 66 < cLine) : CallR X (.builtin "max") (rPick X.K PySem.W.maxD) := by
  intro pins s σ H vs us Q I r ⟨a, ws, d, ds, F, e, hs, hd, ⟨o1, o2, o3⟩, q⟩
  subst e
  rw [Vals.ref1 r]
  have hz : X.A.units + 1 + PyData.depthAll (d :: ds) < cLine := by omega
  rcases hs with hs | hs
  · obtain ⟨its, rv, hl, _⟩ := I.list hs
    obtain ⟨as, ra⟩ := Dp.readsAll I _ _ its (plainL_lay hd o2) rv
    refine PySem.W.max_list_data (I.ok.hd hc) hl.isList ra o1 hz fun i v h' tk bs e r1 hk => ?_
    obtain ⟨x, rx, dx⟩ := pick_den I hk hd o2 rv e r1
    exact ⟨x, H, I.kept hk, rx, q x dx⟩
  · obtain ⟨its, rv, hl, _⟩ := I.tuple hs
    obtain ⟨as, ra⟩ := Dp.readsAll I _ _ its (plainL_lay hd o2) rv
    refine PySem.W.max_tuple_data (I.ok.hd hc) hl ra o1 hz fun i v h' tk bs e r1 hk => ?_
    obtain ⟨x, rx, dx⟩ := pick_den I hk hd o2 rv e r1
    exact ⟨x, H, I.kept hk, rx, q x dx⟩
theorem g_min : GC K (rPick K PySem.W.minD) (on1 minG) := g_on1 fun v d H F Q ok hd k => by
  cases hd with
  | @lst a vs ds h1 h2 h3 =>
    cases ds with
    | nil => exact k.elim
    | cons d ds =>
      obtain ⟨o, k⟩ := given_wp (x := R.ok _) k
      exact ⟨a, vs, d, ds, F, rfl, .inl h1.sql, h2, o, fun v hv => fin_same k ok hv⟩
  | @tup a vs ds h1 h2 h3 =>
    cases ds with
    | nil => exact k.elim
    | cons d ds =>
      obtain ⟨o, k⟩ := given_wp (x := R.ok _) k
      exact ⟨a, vs, d, ds, F, rfl, .inr (.of h1), h2, o, fun v hv => fin_same k ok hv⟩
  | _ => exact k.elim
theorem g_max : GC K (rPick K PySem.W.maxD) (on1 maxG) := g_on1 fun v d H F Q ok hd k => by
  cases hd with
  | @lst a vs ds h1 h2 h3 =>
    cases ds with
    | nil => exact k.elim
    | cons d ds =>
      obtain ⟨o, k⟩ := given_wp (x := R.ok _) k
      exact ⟨a, vs, d, ds, F, rfl, .inl h1.sql, h2, o, fun v hv => fin_same k ok hv⟩
  | @tup a vs ds h1 h2 h3 =>
    cases ds with
    | nil => exact k.elim
    | cons d ds =>
      obtain ⟨o, k⟩ := given_wp (x := R.ok _) k
      exact ⟨a, vs, d, ds, F, rfl, .inr (.of h1), h2, o, fun v hv => fin_same k ok hv⟩
  | _ => exact k.elim
/-! ### isinstance -/
def tyN : D → Option String
  | .none => some "NoneType"
  | .bool _ => some "bool"
  | .int _ => some "int"
  | .str _ => some "str"
  | .list _ => some "list"
  | .tuple _ => some "tuple"
  | .dict _ => none
theorem Den.tyx {H : Hp} {F : Addr → Prop} {v : V} {d : D} {t : String} (h : Den K H F v d) (e : tyN d = some t) : TyX K H v (.type t) := by
  cases h with
  | non => cases e; exact .base .non
  | bl b => cases e; exact .base (.bl _)
  | int i => cases e; exact .base (.int _)
  | str x _ => cases e; exact .base (.str _)
  | lst h1 h2 h3 =>
    cases e
    rcases h1 with (⟨h, _⟩ | ⟨o, h⟩) | ⟨o, its, n, h, c, _⟩
    · exact .base (.lst h)
    · exact .base (.frz h)
    · exact .kList h c
  | tup h1 h2 h3 =>
    cases e
    exact .base (.tup h1)
  | dK _ _ => cases e
  | dT _ _ => cases e
/-- what isinstance answers of a type's name T -/
def IsiOk (T : String) (p : D → Bool) : Prop := ∀ t d, tyN d = some t → kitB t T = some (p d)
def isInt : D → Bool
  | .int _ => true
  | .bool _ => true
  | _ => false
def isBool : D → Bool
  | .bool _ => true
  | _ => false
def isStr : D → Bool
  | .str _ => true
  | _ => false
def isTup : D → Bool
  | .tuple _ => true
  | _ => false
def isLst : D → Bool
  | .list _ => true
  | _ => false
theorem isi_int : IsiOk "int" isInt := fun t d e => by cases d <;> cases e <;> first | exact (show kitB _ _ = some true by decide +kernel) | exact (show kitB _ _ = some false by decide +kernel)
theorem isi_bool : IsiOk "bool" isBool := fun t d e => by cases d <;> cases e <;> first | exact (show kitB _ _ = some true by decide +kernel) | exact (show kitB _ _ = some false by decide +kernel)
theorem isi_str : IsiOk "str" isStr := fun t d e => by cases d <;> cases e <;> first | exact (show kitB _ _ = some true by decide +kernel) | exact (show kitB _ _ = some false by decide +kernel)
theorem isi_tup : IsiOk "tuple" isTup := fun t d e => by cases d <;> cases e <;> first | exact (show kitB _ _ = some true by decide +kernel) | exact (show kitB _ _ = some false by decide +kernel)
theorem isi_lst : IsiOk "list" isLst := fun t d e => by cases d <;> cases e <;> first | exact (show kitB _ _ = some true by decide +kernel) | exact (show kitB _ _ = some false by decide +kernel)
def noDct : D → R D
  | .dict _ => .stuck
  | d => .ok d
theorem noDct_ok {d d' : D} (h : noDct d = .ok d') : d' = d ∧ ∃ t, tyN d = some t := by
  cases d <;> cases h <;> exact ⟨rfl, _, rfl⟩
def isiE (p : D → Bool) (f : Env → R D) : Env → R Bool := fun ε => f ε >>= fun d => (noDct d).hard >>= fun d => .ok (p d)
section
variable {W : WX} {a : Expr} {fa : Env → R D} {pos p1 p2 p3 p4 pT : Pos} {k : Nat} {T T' : Str} {S S' : String}
theorem wp_hard {α β : Type} {x : R α} {f : α → R β} {P : β → Prop} {E : Exn → Prop} (h : (x.hard >>= f).wp P E) : ∃ a, x = .ok a ∧ (f a).wp P E := by
  cases x with
  | ok a => exact ⟨a, rfl, h⟩
  | exn e => exact h.elim
  | stuck => exact h.elim
theorem ex_isi {p : D → Bool} (hm : X.mg "isinstance" = none) (hT : X.mg T = none) (hp : IsiOk S p) (ha : Ex X W a fa) (hv : bootBuiltins T = some (.type S) := by decide +kernel) (hg : Gl X "isinstance" := by rfl) (hgT : Gl X T := by rfl) (hn : T ≠ "__name__" := by decide) (hd : (T == ("__debug__" : Str)) = false := by decide)
    (he : starEach (a :: [.Name T p2]) X.env = (false, eval a X.env) :: starEach [.Name T p2] X.env := by rfl) (hpl : (backTo pos (starEach [.Name T p2] X.env)).any (·.1) = false := by rfl) (he2 : starEach [.Name T p2] X.env = (false, eval (.Name T p2) X.env) :: starEach [] X.env := by rfl) :
    Ex X W (.Call (.Name "isinstance" p1) [a, .Name T p2] [] pos) (bE (isiE p fa)) := by
  refine PE.imp (pe_callB call_isi hg hm (by decide +kernel) (pa_cons ha (pa_cons (pe_bltn (v := .ty S) hgT hT hv rfl hn hd) pa_nil he2) he) (by decide) (by decide) he hpl) fun σ H Q ⟨ε, F, re, q⟩ => ⟨ε, F, re, ?_⟩
  refine R.wp_mono (R.wp_bind (R.wp_bind q)) (fun d k v H1 F1 g1 d1 => ?_) (fun e k => k)
  obtain ⟨d', e, k2⟩ := wp_hard k
  obtain ⟨e2, t, e3⟩ := noDct_ok e
  subst e2
  exact ⟨v, .ty S, _, _, _, rfl, .ty S, d1.tyx e3, kit_ty (hp t d' e3), k2 _ _ _ g1 (.bl _)⟩
theorem ex_isi2 {p p' : D → Bool} (hm : X.mg "isinstance" = none) (hT : X.mg T = none) (hT' : X.mg T' = none) (hp : IsiOk S p) (hp' : IsiOk S' p') (ha : Ex X W a fa) (hv : bootBuiltins T = some (.type S) := by decide +kernel) (hv' : bootBuiltins T' = some (.type S') := by decide +kernel) (hg : Gl X "isinstance" := by rfl) (hgT : Gl X T := by rfl) (hgT' : Gl X T' := by rfl)
    (hn : T ≠ "__name__" := by decide) (hd : (T == ("__debug__" : Str)) = false := by decide) (hn' : T' ≠ "__name__" := by decide) (hd' : (T' == ("__debug__" : Str)) = false := by decide)
    (he : starEach (a :: [.Tuple [.Name T p2, .Name T' p3] k p4]) X.env = (false, eval a X.env) :: starEach [.Tuple [.Name T p2, .Name T' p3] k p4] X.env := by rfl) (hpl : (backTo pos (starEach [.Tuple [.Name T p2, .Name T' p3] k p4] X.env)).any (·.1) = false := by rfl)
    (he2 : starEach [.Tuple [.Name T p2, .Name T' p3] k p4] X.env = (false, eval (.Tuple [.Name T p2, .Name T' p3] k p4) X.env) :: starEach [] X.env := by rfl)
    (he3 : starEach [.Name T p2, .Name T' p3] X.env = (false, eval (.Name T p2) X.env) :: starEach [.Name T' p3] X.env := by rfl) (he4 : starEach [.Name T' p3] X.env = (false, eval (.Name T' p3) X.env) :: starEach [] X.env := by rfl) :
    Ex X W (.Call (.Name "isinstance" p1) [a, .Tuple [.Name T p2, .Name T' p3] k p4] [] pos) (bE (isiE (fun d => p d || p' d) fa)) := by
  refine PE.imp (pe_callB call_isiT hg hm (by decide +kernel) (pa_cons ha (pa_cons (pe_tup (pa_cons (pe_bltn (v := .ty S) hgT hT hv rfl hn hd) (pa_cons (pe_bltn (v := .ty S') hgT' hT' hv' rfl hn' hd') pa_nil he4) he3)) pa_nil he2) he) (by decide) (by decide) he hpl) fun σ H Q ⟨ε, F, re, q⟩ => ⟨ε, F, re, ?_⟩
  refine R.wp_mono (R.wp_bind (R.wp_bind q)) (fun d k v H1 F1 g1 d1 => ?_) (fun e k => k)
  obtain ⟨d', e, k2⟩ := wp_hard k
  obtain ⟨e2, t, e3⟩ := noDct_ok e
  subst e2
  refine ⟨by show 2 ≤ sizeLine; decide, fun q hq => ?_⟩
  have g2 := grow_new (o := .tup [.ty S, .ty S']) g1.ok hq
  refine ⟨v, q, _, _, _, (p d' || p' d'), rfl, upd_same, .cons (.ty S) (.cons (.ty S') .nil), (d1.grow g2).tyx e3, ?_, k2 _ _ _ (g1.trans g2) (.bl _)⟩
  refine kitAny_cons (kit_ty (hp t d' e3)) (fun e => kitAny_cons (kit_ty (hp' t d' e3)) (fun e' => ?_) fun e' => ?_) fun e => ?_
  · rw [e, e']; exact kitAny_nil
  · rw [e']; simp
  · rw [e]; rfl
end
end
end RB

set_option Elab.async false
set_option linter.all false
set_option maxRecDepth 100000
set_option maxHeartbeats 4000000
namespace RB
open PySem PySem.Spec PyProof.Rows L2

/-! ### pairs: enumerate and zip over lists, tuples, texts -/
def Itp (n : Nat) (Ext : Hp → Prop) (f g : Nat → Option V) : It :=
  ⟨fun i H => i < n ∧ Ext H, fun i H v H' => ∃ T x y, v = .ref T ∧ H T = none ∧ H' = upd H T (.tup [x, y]) ∧ f i = some x ∧ g i = some y, fun i H => i = n ∧ Ext H⟩
theorem walk_p {n : Nat} {Ext : Hp → Prop} {f g : Nat → Option V} : Walk (Itp n Ext f g) n Ext (YPair f g) :=
  ⟨fun _ _ hi q => ⟨hi, q⟩, fun _ q => ⟨rfl, q⟩, fun _ _ _ _ _ _ y => y⟩
def YV (P1 P2 : Nat → Value → Prop) (i : Nat) (h₀ : Heap) (v : Value) (h : Heap) : Prop := ∃ T x y, v = .ref T ∧ h₀.objs.size ≤ T ∧ P1 i x ∧ P2 i y ∧ h.IsTuple T #[x, y]
theorem turn_pair {P : Program} {w : World} {K : PySem.W.Frag} {tg : Expr} {n : Nat} {Ext : Hp → Prop} {f g : Nat → Option V} {fp : List Addr} {it : Addr} {tn : Nat → Heap → Prop} (mem : it ∈ fp)
    (obj : ∀ i h, tn i h → ∀ b ∈ fp, ∃ o, h.get? b = some o ∧ ∀ v, o.data ≠ .cell v) (keep : ∀ i h h', tn i h → (∀ b ∈ fp, ∀ o, h.get? b = some o → h'.get? b = some o) → tn i h')
    (self : ∀ (A : Around) (i : Nat) (s : Shared) (Q : Value → Shared → Prop) (E : Value → Shared → Prop), tn i s.heap → Q (.ref it) s → wpAny (model P w) A (pyIter (.ref it)) Q E s)
    (hG : ∀ (X : Cx) (pins : List (Addr × Obj)) (s : Shared) (σ : L2.St) (H : Hp), X.prog = P → X.w = w → X.K = K → X.calm = true → Inv X pins σ H s → (∀ b ∈ fp, FpOk X pins H b) → Ext H → ∃ (fpA wr : List Addr) (P1 P2 : Nat → Value → Prop) (ex : Heap → Prop),
      ex s.heap ∧ (∀ b ∈ wr, b ∈ fp) ∧ GoesN P w X.A tg it fpA wr n (YV P1 P2) (fun i h => tn i h ∧ ex h) ∧ (∀ i u, P1 i u → ∃ x, f i = some x ∧ RelV x u) ∧ (∀ i u, P2 i u → ∃ x, g i = some x ∧ RelV x u)) :
    Turn P w K tg (Itp n Ext f g) fp it tn where
  mem := mem
  obj := obj
  keep := keep
  self := self
  item := by
    intro X hP hw hK hc i pins s σ H E I hf st hg
    obtain ⟨hi, he⟩ := hg
    obtain ⟨fpA, wr, P1, P2, ex, hex, hwr, G, k1, k2⟩ := hG X pins s σ H hP hw hK hc I hf he
    refine G.goes i s (fun u s2 => ∃ x H', L2.Inv X pins σ H' s2 ∧ RelV x u ∧ (Itp n Ext f g).yld i H x H' ∧ tn (i + 1) s2.heap ∧ ∀ b ∈ fp, H' b = none) E hi ⟨st, hex⟩ fun v h' tk ⟨T, x, y, ev, hT, p1, p2, hI⟩ st' hk _ => ?_
    obtain ⟨a, ea, ra⟩ := k1 i x p1
    obtain ⟨b, eb, rb⟩ := k2 i y p2
    have new : ObjOk X.prog X.w (upd H T (.tup [a, b])) h' T (.tup [a, b]) := ⟨by show 2 ≤ sizeLine; decide, [x, y], .cons ra (.cons rb .nil), hI⟩
    have J := I.turnedNew (t' := tk) (ch := fp) (fun c o hb e => hk c o (fun z => hb (hwr c z)) e) hf hT new
    refine ⟨.ref T, _, J, ev, ⟨T, a, b, rfl, I.hok.fresh hT, rfl, ea, eb⟩, st'.1, fun c hc => ?_⟩
    obtain ⟨o, ho, _⟩ := obj i s.heap st c hc
    rw [upd_ne (Nat.ne_of_lt (Nat.lt_of_lt_of_le (Heap.lt_size ho) hT))]
    exact (hf c hc).1
  done := by
    intro X hP hw hK hc i pins s σ H E I hf st hg
    obtain ⟨hi, he⟩ := hg
    subst hi
    obtain ⟨fpA, wr, P1, P2, ex, hex, hwr, G, k1, k2⟩ := hG X pins s σ H hP hw hK hc I hf he
    refine G.stops s (fun s1 => L2.Inv X pins σ H s1) E ⟨st, hex⟩ fun h' tk hk _ => ?_
    exact I.turnedL (ch := fp) (fun c o hb e => hk c o (fun z => hb (hwr c z)) e) hf

/-- what an iterator at it draws: n values, told by xs, while Ext holds of the heap -/
structure Drw (P : Program) (w : World) (K : PySem.W.Frag) (Ext : Hp → Prop) (it : Addr) (n : Nat) (xs : Nat → Option V) (ds : Nat → Heap → Prop) : Prop where
  obj : ∀ i h, ds i h → ∃ o, h.get? it = some o ∧ ∀ v, o.data ≠ .cell v
  keep : ∀ i h h', ds i h → (∀ o, h.get? it = some o → h'.get? it = some o) → ds i h'
  draw : ∀ (X : Cx) (pins : List (Addr × Obj)) (s : Shared) (σ : L2.St) (H : Hp), X.prog = P → X.w = w → X.K = K → X.calm = true → L2.Inv X pins σ H s → FpOk X pins H it → Ext H → ∃ (fp : List Addr) (Pt : Nat → Value → Prop) (ex : Heap → Prop),
    ex s.heap ∧ (∀ b ∈ fp, ∀ c, FpOk X pins H c → b ≠ c) ∧ (∀ A : Around, A.handled = none → Draws P w A it (it :: fp) n Pt (fun i h => ds i h ∧ ex h)) ∧ ∀ i u, Pt i u → ∃ x, xs i = some x ∧ RelV x u
section
variable {P : Program} {w : World} {K : PySem.W.Frag}
theorem fp_ne {X : Cx} {pins : List (Addr × Obj)} {s : Shared} {σ : L2.St} {H : Hp} {a c : Addr} {u : HO} (e : H a = some u) (f : FpOk X pins H c) : a ≠ c := fun z => by
  subst z
  rw [f.1] at e; cases e
theorem fp_neK {X : Cx} {pins : List (Addr × Obj)} {s : Shared} {σ : L2.St} {H : Hp} {a c : Addr} {o : Obj} (I : L2.Inv X pins σ H s) (e : X.K.lookup a = some o) (f : FpOk X pins H c) : a ≠ c := fun z => by
  subst z
  have hb := I.ok.mod.kin _ _ e
  rcases f.2.2.2.1 with q | q
  · exact I.ok.noex _ _ hb q
  · exact absurd (Nat.lt_of_lt_of_le (Heap.lt_size (I.ok.bs _ _ hb).1) q) (Nat.lt_irrefl _)
theorem sql_ne {X : Cx} {pins : List (Addr × Obj)} {s : Shared} {σ : L2.St} {H : Hp} {a c : Addr} {xs : List V} (I : L2.Inv X pins σ H s) (h : SqL X.K H a xs) (f : FpOk X pins H c) : a ≠ c := by
  rcases h with (h | ⟨o, h⟩) | ⟨o, its, n, h, _⟩
  · exact fp_ne (s := s) (σ := σ) h f
  · exact fp_ne (s := s) (σ := σ) h f
  · exact fp_neK I h f
theorem sqt_ne {X : Cx} {pins : List (Addr × Obj)} {s : Shared} {σ : L2.St} {H : Hp} {a c : Addr} {xs : List V} (I : L2.Inv X pins σ H s) (h : SqT X.K H a xs) (f : FpOk X pins H c) : a ≠ c := by
  rcases h with (h | ⟨o, h⟩) | ⟨o, its, n, h, _⟩
  · exact fp_ne (s := s) (σ := σ) h f
  · exact fp_ne (s := s) (σ := σ) h f
  · exact fp_neK I h f
theorem vals_get {vs : List V} {its : List Value} {i : Nat} {u : Value} (r : Vals vs its) (e : its.toArray[i]? = some u) : ∃ x, vs[i]? = some x ∧ RelV x u := by
  have e' : its[i]? = some u := by simpa using e
  have hi : i < vs.length := by
    rw [r.length]
    exact (List.getElem?_eq_some_iff.mp e').1
  obtain ⟨u', e2, ru⟩ := r.get (List.getElem?_eq_getElem hi)
  rw [e'] at e2; cases e2
  exact ⟨_, List.getElem?_eq_getElem hi, ru⟩
theorem drw_list {it a : Addr} {vs : List V} : Drw P w K (fun H => SqL K H a vs) it vs.length (fun i => vs[i]?) (fun i h => h.IsListIter it a i) where
  obj := fun i h ⟨o, ho, hc, hd⟩ => ⟨o, ho, fun v q => by rw [hd] at q; cases q⟩
  keep := fun i h h' st k => st.at fun o q => k o q
  draw := fun X pins s σ H hP hw hK hc I hf he => by
    subst hP hw hK
    obtain ⟨its, rv, p, hz⟩ := I.list he
    have hne := sql_ne I he hf
    refine ⟨[a], _, fun h => h.IsList a its.toArray, p.isList, fun b hb c fc => ?_, fun A hA => ?_, fun i u e => vals_get rv e⟩
    · rw [List.mem_singleton.mp hb]; exact sql_ne I he fc
    · have D := Draws.list (prog := X.prog) (w := X.w) hA it a hne its.toArray
      have e : its.toArray.size = vs.length := by rw [List.size_toArray]; exact rv.length.symm
      rw [← e]
      exact D
theorem drw_tup {it a : Addr} {vs : List V} : Drw P w K (fun H => SqT K H a vs) it vs.length (fun i => vs[i]?) (fun i h => h.IsTupleIter it a i) where
  obj := fun i h ⟨o, ho, hc, hd⟩ => ⟨o, ho, fun v q => by rw [hd] at q; cases q⟩
  keep := fun i h h' st k => st.at fun o q => k o q
  draw := fun X pins s σ H hP hw hK hc I hf he => by
    subst hP hw hK
    obtain ⟨its, rv, p, hz⟩ := I.tuple he
    have hne := sqt_ne I he hf
    refine ⟨[a], _, fun h => h.IsTuple a its.toArray, p, fun b hb c fc => ?_, fun A hA => ?_, fun i u e => vals_get rv e⟩
    · rw [List.mem_singleton.mp hb]; exact sqt_ne I he fc
    · have D := Draws.tuple (prog := X.prog) (w := X.w) hA it a hne its.toArray
      have e : its.toArray.size = vs.length := by rw [List.size_toArray]; exact rv.length.symm
      rw [← e]
      exact D
def signV (x : Str) (i : Nat) : Option V := x.cps[i]?.map fun c => V.str ⟨#[c]⟩
theorem drw_str {it : Addr} {x : Str} {t : Tok} : Drw P w K (fun _ => True) it x.cps.size (signV x) (fun i h => h.IsStrIter it (strIterType x) x t i) where
  obj := fun i h ⟨o, ho, hc, hd⟩ => ⟨o, ho, fun v q => by rw [hd] at q; cases q⟩
  keep := fun i h h' ⟨o, ho, r⟩ k => ⟨o, k o ho, r⟩
  draw := fun X pins s σ H hP hw hK hc I hf he => by
    subst hP hw hK
    refine ⟨[], (fun i v => ∃ c u, x.cps[i]? = some c ∧ v = .str ⟨#[c]⟩ u), fun _ => True, trivial, fun b hb => (nomatch hb), fun A hA => ?_, fun i u ⟨c, u', e, e2⟩ => ?_⟩
    · have D := Draws.text (prog := X.prog) (w := X.w) hA it x t
      exact ⟨fun i h st => D.live i h st.1, fun i h h' st k => ⟨D.frame i h h' st.1 k, trivial⟩, fun i s Q E hi st hQ => D.item i s Q E hi st.1 fun x h' tk p st' sb => hQ x h' tk p ⟨st', trivial⟩ sb, fun s Q E st hE => D.done s Q E st.1 hE⟩
    · exact ⟨.str ⟨#[c]⟩, by unfold signV; rw [e]; rfl, ⟨u', e2⟩⟩
def tnE (e it : Addr) (ds : Nat → Heap → Prop) (i : Nat) (h : Heap) : Prop := (∃ old, IsEnum h e it (0 + (i : Int)) old) ∧ ds i h
theorem turn_enumD {elts : List Expr} {kk : Nat} {tpos : Pos} {Ext : Hp → Prop} {e it : Addr} {n : Nat} {xs : Nat → Option V} {ds : Nat → Heap → Prop} (D : Drw P w K Ext it n xs ds) (hne : e ≠ it) :
    Turn P w K (.Tuple elts kk tpos) (Itp n Ext (fun i => some (.int i)) xs) [e, it] e (tnE e it ds) := by
  refine turn_pair (by simp) (fun i h st b hb => ?_) (fun i h h' st k => ?_) (fun A i s Q E st h => ?_) (fun X pins s σ H hP hw hK hc I hf he => ?_)
  · obtain ⟨⟨old, he⟩, hd⟩ := st
    have e' : b = e ∨ b = it := by simpa using hb
    rcases e' with z | z
    · rw [z]; exact ⟨_, he, fun v q => nomatch q⟩
    · rw [z]; exact D.obj i h hd
  · obtain ⟨⟨old, he⟩, hd⟩ := st
    exact ⟨⟨old, k e (by simp) _ he⟩, D.keep i h h' hd fun o q => k it (by simp) o q⟩
  · obtain ⟨⟨_, he⟩, _⟩ := st
    exact wpAny_pyIter_enum he h
  · subst hP hw hK
    obtain ⟨fp, Pt, ex, hex, hsep, hD, hp⟩ := D.draw X pins s σ H rfl rfl rfl hc I (hf it (by simp)) he
    have hef : e ∉ it :: fp := fun z => by
      rcases List.mem_cons.mp z with q | q
      · exact hne q
      · exact hsep e q e (hf e (by simp)) rfl
    have G := GoesN.enumFrom (elts := elts) (x1 := kk) (pos := tpos) 0 (hD X.A.in1 (I.ok.hd hc)) e hne hef (List.mem_cons_self)
    refine ⟨e :: it :: fp, [e, it], (fun i u => ∃ t, u = .int (0 + (i : Int)) t), Pt, ex, hex, fun b hb => hb, ?_, fun i u ⟨t, q⟩ => ⟨.int i, rfl, ⟨t, by rw [q]; congr 1; omega⟩⟩, hp⟩
    have G2 := G.mono (Y' := YV (fun i u => ∃ t, u = .int (0 + (i : Int)) t) Pt) fun i h₀ v h _ ⟨T, t, x, a, b, c, d⟩ => ⟨T, _, x, a, b, ⟨t, rfl⟩, c, d⟩
    exact ⟨G2.sub, fun i h h' st k => by
        have := G2.frame i h h' ⟨st.1.1, st.1.2, st.2⟩ k
        exact ⟨⟨this.1, this.2.1⟩, this.2.2⟩, fun i s Q E hi st hQ => G2.goes i s Q E hi ⟨st.1.1, st.1.2, st.2⟩ fun v h' tk y st' k l => hQ v h' tk y ⟨⟨st'.1, st'.2.1⟩, st'.2.2⟩ k l,
      fun s Q E st hQ => G2.stops s Q E ⟨st.1.1, st.1.2, st.2⟩ hQ, fun i s Q E st hQ => G2.self i s Q E ⟨st.1.1, st.1.2, st.2⟩ hQ⟩
theorem notIn_fp {N j i : Nat} {fp : List Addr} (h : (N + j : Nat) ∉ (fp : List Nat)) (hji : j ≠ i) : (N + j : Nat) ∉ ((N + i : Nat) :: fp : List Nat) := fun hm => by
  rcases List.mem_cons.mp hm with q | q
  · omega
  · exact h q
def tnZ (z TI TO i1 i2 : Addr) (ds1 ds2 : Nat → Heap → Prop) (i : Nat) (h : Heap) : Prop := IsZip h z TI TO .none ∧ IsTupOf2 h TI (.ref i1) (.ref i2) ∧ (∃ a1 a2, IsTupOf2 h TO a1 a2) ∧ ds1 i h ∧ ds2 i h
theorem turn_zipD {elts : List Expr} {kk : Nat} {tpos : Pos} {Ext1 Ext2 : Hp → Prop} {N : Nat} {n1 n2 : Nat} {xs ys : Nat → Option V} {ds1 ds2 : Nat → Heap → Prop} (D1 : Drw P w K Ext1 N n1 xs ds1) (D2 : Drw P w K Ext2 (N + 1) n2 ys ds2) :
    Turn P w K (.Tuple elts kk tpos) (Itp (min n1 n2) (fun H => Ext1 H ∧ Ext2 H) xs ys) [N + 4, N + 2, N + 3, N, N + 1] (N + 4) (tnZ (N + 4) (N + 2) (N + 3) N (N + 1) ds1 ds2) := by
  refine turn_pair (by simp) (fun i h st b hb => ?_) (fun i h h' st k => ?_) (fun A i s Q E st h => ?_) (fun X pins s σ H hP hw hK hc I hf he => ?_)
  · obtain ⟨hz, hTI, ⟨a1, a2, hTO⟩, h1, h2⟩ := st
    have e' : b = N + 4 ∨ b = N + 2 ∨ b = N + 3 ∨ b = N ∨ b = N + 1 := by simpa using hb
    rcases e' with q | q | q | q | q
    · rw [q]; exact ⟨_, hz, fun v q => nomatch q⟩
    · rw [q]; exact ⟨_, hTI, fun v q => nomatch q⟩
    · rw [q]; exact ⟨_, hTO, fun v q => nomatch q⟩
    · rw [q]; exact D1.obj i h h1
    · rw [q]; exact D2.obj i h h2
  · obtain ⟨hz, hTI, ⟨a1, a2, hTO⟩, h1, h2⟩ := st
    exact ⟨k _ (by simp) _ hz, k _ (by simp) _ hTI, ⟨a1, a2, k _ (by simp) _ hTO⟩, D1.keep i h h' h1 fun o q => k _ (by simp) o q, D2.keep i h h' h2 fun o q => k _ (by simp) o q⟩
  · exact wpAny_pyIter_zip st.1 h
  · subst hP hw hK
    obtain ⟨fp1, Pt1, ex1, hex1, hsep1, hD1, hp1⟩ := D1.draw X pins s σ H rfl rfl rfl hc I (hf _ (by simp)) he.1
    obtain ⟨fp2, Pt2, ex2, hex2, hsep2, hD2, hp2⟩ := D2.draw X pins s σ H rfl rfl rfl hc I (hf _ (by simp)) he.2
    have q1 : ∀ j : Nat, FpOk X pins H (N + j : Nat) → (N + j : Nat) ∉ (fp1 : List Nat) := fun j h z => hsep1 _ z _ h rfl
    have q2 : ∀ j : Nat, FpOk X pins H (N + j : Nat) → (N + j : Nat) ∉ (fp2 : List Nat) := fun j h z => hsep2 _ z _ h rfl
    have S : ZipSep2 (N + 4) (N + 2) (N + 3) N (N + 1) (N :: fp1) ((N + 1) :: fp2) :=
      { TIz := show (N + 2 : Nat) ≠ N + 4 by omega, TOz := show (N + 3 : Nat) ≠ N + 4 by omega, TITO := show (N + 2 : Nat) ≠ N + 3 by omega, TIi1 := show (N + 2 : Nat) ≠ N by omega, TIi2 := show (N + 2 : Nat) ≠ N + 1 by omega,
        mem1 := List.mem_cons_self, mem2 := List.mem_cons_self, zf1 := notIn_fp (j := 4) (i := 0) (q1 4 (hf _ (by simp))) (by decide), Tf1 := notIn_fp (j := 3) (i := 0) (q1 3 (hf _ (by simp))) (by decide),
        zf2 := notIn_fp (j := 4) (i := 1) (q2 4 (hf _ (by simp))) (by decide), Tf2 := notIn_fp (j := 3) (i := 1) (q2 3 (hf _ (by simp))) (by decide), sep1_2 := notIn_fp (j := 0) (i := 1) (q2 0 (hf _ (by simp))) (by decide), sep2_1 := notIn_fp (j := 1) (i := 0) (q1 1 (hf _ (by simp))) (by decide) }
    have G := GoesN.zip2 (elts := elts) (x1 := kk) (pos := tpos) S (hD1 X.A.in1 (I.ok.hd hc)) (hD2 X.A.in1 (I.ok.hd hc))
    refine ⟨(N + 4) :: (N + 2) :: (N + 3) :: ((N :: fp1) ++ ((N + 1) :: fp2)), [N + 4, N + 3, N, N + 1], Pt1, Pt2, (fun h => ex1 h ∧ ex2 h), ⟨hex1, hex2⟩, fun b hb => ?_, ?_, hp1, hp2⟩
    · have e' : b = N + 4 ∨ b = N + 3 ∨ b = N ∨ b = N + 1 := by simpa using hb
      rcases e' with q | q | q | q <;> rw [q] <;> simp
    · exact ⟨G.sub, fun i h h' st k => by
        have := G.frame i h h' ⟨st.1.1, st.1.2.1, st.1.2.2.1, ⟨st.1.2.2.2.1, st.2.1⟩, ⟨st.1.2.2.2.2, st.2.2⟩⟩ k
        exact ⟨⟨this.1, this.2.1, this.2.2.1, this.2.2.2.1.1, this.2.2.2.2.1⟩, this.2.2.2.1.2, this.2.2.2.2.2⟩,
        fun i s Q E hi st hQ => G.goes i s Q E hi ⟨st.1.1, st.1.2.1, st.1.2.2.1, ⟨st.1.2.2.2.1, st.2.1⟩, ⟨st.1.2.2.2.2, st.2.2⟩⟩ fun v h' tk y this k l => hQ v h' tk y ⟨⟨this.1, this.2.1, this.2.2.1, this.2.2.2.1.1, this.2.2.2.2.1⟩, this.2.2.2.1.2, this.2.2.2.2.2⟩ k l,
        fun s Q E st hQ => G.stops s Q E ⟨st.1.1, st.1.2.1, st.1.2.2.1, ⟨st.1.2.2.2.1, st.2.1⟩, ⟨st.1.2.2.2.2, st.2.2⟩⟩ hQ, fun i s Q E st hQ => G.self i s Q E ⟨st.1.1, st.1.2.1, st.1.2.2.1, ⟨st.1.2.2.2.1, st.2.1⟩, ⟨st.1.2.2.2.2, st.2.2⟩⟩ hQ⟩
end
end RB

set_option Elab.async false
set_option linter.all false
set_option maxRecDepth 100000
set_option maxHeartbeats 4000000
namespace RB
open PySem PySem.Spec PyProof.Rows L2

/-! ### what is walked, as data -/
theorem Pres.trans {H H1 H2 : Hp} {F F1 F2 : Addr → Prop} (a : Pres H F H1 F1) (b : Pres H1 F1 H2 F2) : Pres H F H2 F2 :=
  ⟨fun c xs h => b.tup c xs (a.tup c xs h), fun c o u h => b.frz c o u (a.frz c o u h), fun c u f h => let ⟨f1, h1⟩ := a.fro c u f h; b.fro c u f1 h1⟩
theorem Pres.refl {H : Hp} {F : Addr → Prop} : Pres H F H F := ⟨fun _ _ h => h, fun _ _ _ h => h, fun _ _ f h => ⟨f, h⟩⟩
def WalkD (K : PySem.W.Frag) (J : It) (H : Hp) (F : Addr → Prop) (ds : List D) : Prop := ∃ (G : Hp → Prop) (Y : Nat → Hp → V → Hp → Prop), Walk J ds.length G Y ∧ (∀ H1 F1, Pres H F H1 F1 → G H1) ∧
  ∀ (i : Nat) H1 F1 x H2, i < ds.length → Pres H F H1 F1 → FOk H1 F1 → Y i H1 x H2 → ∃ d, ds[i]? = some d ∧ Grow H1 F1 H2 F1 ∧ Den K H2 F1 x d
section
variable {K : PySem.W.Frag} {H : Hp} {F : Addr → Prop}
theorem walkD_at {J : It} {vs : List V} {ds : List D} {G : Hp → Prop} (w : Walk J vs.length G (YAt vs)) (hG : ∀ H1 F1, Pres H F H1 F1 → G H1) (h : DenL K H F vs ds) : WalkD K J H F ds := by
  refine ⟨G, YAt vs, by rw [← h.length]; exact w, hG, fun i H1 F1 x H2 hi p ok ⟨e, y⟩ => ?_⟩
  subst e
  obtain ⟨d, h1, h2⟩ := h.get y
  exact ⟨d, h1, .refl ok, h2.pres p⟩
theorem walkD_fn {J : It} {f : Nat → V} {ds : List D} {n : Nat} (hn : n = ds.length) (w : Walk J n (fun _ => True) (YFn f)) (h : ∀ i : Nat, i < n → ∃ d, ds[i]? = some d ∧ ∀ K H F, Den K H F (f i) d) : WalkD K J H F ds := by
  subst hn
  refine ⟨_, _, w, fun _ _ _ => trivial, fun i H1 F1 x H2 hi p ok ⟨e, y⟩ => ?_⟩
  subst e y
  obtain ⟨d, h1, h2⟩ := h i hi
  exact ⟨d, h1, .refl ok, h2 _ _ _⟩
/-- the numbers lo, lo + 1, .. -/
def rng (lo : Int) (n : Nat) : List D := (List.range n).map fun i => .int (lo + (i : Nat))
theorem rng_len (lo : Int) (n : Nat) : (rng lo n).length = n := by unfold rng; simp
theorem rng_get {lo : Int} {n i : Nat} (h : i < n) : (rng lo n)[i]? = some (.int (lo + (i : Nat))) := by
  unfold rng
  rw [List.getElem?_map, List.getElem?_range h]; rfl
/-- lo, lo + c, .. -/
def rngC (lo c : Int) (n : Nat) : List D := (List.range n).map fun i => .int (lo + (i : Nat) * c)
theorem rngC_len (lo c : Int) (n : Nat) : (rngC lo c n).length = n := by unfold rngC; simp
theorem rngC_get {lo c : Int} {n i : Nat} (h : i < n) : (rngC lo c n)[i]? = some (.int (lo + (i : Nat) * c)) := by
  unfold rngC
  rw [List.getElem?_map, List.getElem?_range h]; rfl
/-- the signs of a text -/
def signs (z : Str) : List D := z.cps.toList.map fun c => .str ⟨#[c]⟩
theorem signs_len (z : Str) : (signs z).length = z.cps.size := by unfold signs; simp
theorem signs_get {z : Str} {i c : Nat} (h : z.cps[i]? = some c) : (signs z)[i]? = some (.str ⟨#[c]⟩) := by
  unfold signs
  rw [List.getElem?_map, Array.getElem?_toList, h]; rfl
theorem walkD_str {z : Str} (hz : okS z) : WalkD K (Its z) H F (signs z) := by
  refine ⟨(fun _ => True), _, by rw [signs_len]; exact walk_str, fun _ _ _ => trivial, fun i H1 F1 x H2 hi p ok y => ?_⟩
  obtain ⟨e, c, y, ex⟩ := y
  subst e ex
  exact ⟨_, signs_get y, .refl ok, .str _ (okS_sign hz y)⟩
def seqD : D → R (List D)
  | .list xs => .ok xs
  | .tuple xs => .ok xs
  | .str z => .ok (signs z)
  | _ => .stuck
/-- what a source is at the values' level, for enumerate and zip -/
def Src (K : PySem.W.Frag) (H : Hp) (F : Addr → Prop) (v : V) (ds : List D) : Prop := ∃ (xs : Nat → Option V) (Ext : Hp → Prop), (∀ H1 F1, Pres H F H1 F1 → Ext H1) ∧
  (∀ (i : Nat) x H1 F1, Pres H F H1 F1 → xs i = some x → ∃ d, ds[i]? = some d ∧ Den K H1 F1 x d) ∧
  ∀ (X : Cx) (pins : List (Addr × Obj)) (s : Shared) (σ : L2.St) (u : Value), X.K = K → L2.Inv X pins σ H s → RelV v u → ∃ (o : Obj) (Hb : Heap → Prop), Begins u o Hb ∧ Hb s.heap ∧
    ∀ it : Addr, ∃ dsx : Nat → Heap → Prop, Drw X.prog X.w X.K Ext it ds.length xs dsx ∧ ∀ h : Heap, h.get? it = some o → dsx 0 h
theorem src_of {v : V} {d : D} {ds : List D} (h : Den K H F v d) (e : seqD d = .ok ds) : Src K H F v ds ∧ ds.length ≤ sizeLine := by
  cases h with
  | @lst a vs es h1 h2 h3 =>
    cases e
    refine ⟨⟨fun i => vs[i]?, fun H => SqL K H a vs, fun H1 F1 p => (h1.pres p).sql, fun i x H1 F1 p e => ?_, fun X pins s σ u hK I r => ?_⟩, by rw [← h2.length]; exact h3⟩
    · obtain ⟨d, e1, e2⟩ := h2.get e
      exact ⟨d, e1, e2.pres p⟩
    · subst hK
      cases r
      obtain ⟨its, rv, p, hz⟩ := I.list h1.sql
      refine ⟨_, _, begins_list a its.toArray, p.isList, fun it => ⟨fun i h => h.IsListIter it a i, by rw [← h2.length]; exact drw_list, fun h e => ⟨_, e, rfl, rfl⟩⟩⟩
  | @tup a vs es h1 h2 h3 =>
    cases e
    refine ⟨⟨fun i => vs[i]?, fun H => SqT K H a vs, fun H1 F1 p => sqt_pres p (.of h1), fun i x H1 F1 p e => ?_, fun X pins s σ u hK I r => ?_⟩, by rw [← h2.length]; exact h3⟩
    · obtain ⟨d, e1, e2⟩ := h2.get e
      exact ⟨d, e1, e2.pres p⟩
    · subst hK
      cases r
      obtain ⟨its, rv, p, hz⟩ := I.tuple (.of h1)
      refine ⟨_, _, begins_tuple a its.toArray, p, fun it => ⟨fun i h => h.IsTupleIter it a i, by rw [← h2.length]; exact drw_tup, fun h e => ⟨_, e, rfl, rfl⟩⟩⟩
  | str z hz =>
    cases e
    refine ⟨⟨signV z, fun _ => True, fun _ _ _ => trivial, fun i x H1 F1 p e => ?_, fun X pins s σ u hK I r => ?_⟩, by rw [signs_len]; exact hz.1⟩
    · unfold signV at e
      cases q : z.cps[i]? with
      | none => rw [q] at e; cases e
      | some c =>
        rw [q] at e; cases e
        exact ⟨_, signs_get q, .str _ (okS_sign hz q)⟩
    · obtain ⟨t, rfl⟩ := r
      exact ⟨_, _, begins_text z t, trivial, fun it => ⟨fun i h => h.IsStrIter it (strIterType z) z t i, by rw [signs_len]; exact drw_str, fun h e => ⟨_, e, rfl, rfl⟩⟩⟩
  | _ => cases e
theorem walkD_pair {n : Nat} {Ext : Hp → Prop} {f g : Nat → Option V} {ds : List D} (hn : n = ds.length) (hE : ∀ H1 F1, Pres H F H1 F1 → Ext H1)
    (hd : ∀ (i : Nat) x y H1 F1, i < n → Pres H F H1 F1 → f i = some x → g i = some y → ∃ a b, ds[i]? = some (.tuple [a, b]) ∧ Den K H1 F1 x a ∧ Den K H1 F1 y b) : WalkD K (Itp n Ext f g) H F ds := by
  subst hn
  refine ⟨Ext, _, walk_p, hE, fun i H1 F1 v H2 hi p ok y => ?_⟩
  obtain ⟨T, x, z, ev, hT, eH, e1, e2⟩ := y
  subst ev eH
  obtain ⟨a, b, e3, d1, d2⟩ := hd i x z H1 F1 hi p e1 e2
  have g2 := grow_new (o := .tup [x, z]) ok hT
  exact ⟨_, e3, g2, .tup upd_same (.cons (d1.grow g2) (.cons (d2.grow g2) .nil)) (by show 2 ≤ sizeLine; decide)⟩
end
section
variable (K : PySem.W.Frag) (mg : Str → Option Value) (W : WX)
def tI (f : Env → R (List D)) : TI := fun σ H Q => ∃ ε F, RE K σ ε H F ∧ (f ε).wp (fun ds => ∀ J H' F', Grow H F H' F' → WalkD K J H' F' ds → ds.length ≤ sizeLine → Q J H') fun e => ∀ cls x H' F', Grow H F H' F' → ExnOf mg e cls x H' → W cls x σ H'
end
abbrev Ix (X : Cx) (W : WX) (tg e : Expr) (f : Env → R (List D)) : Prop := PI X tg e (tI X.K X.mg W f)
theorem PI.or {X : Cx} {tg e : Expr} {t t' : TI} (h : PI X tg e t) (h' : PI X tg e t') : PI X tg e (fun σ H Q => t σ H Q ∨ t' σ H Q) :=
  ⟨fun pins s σ H Q I q => q.elim (h.run pins s σ H Q I) (h'.run pins s σ H Q I)⟩
section
variable {X : Cx} {W : WX} {tg a b c : Expr} {fa fb fc : Env → R D} {p pos tpos : Pos} {elts : List Expr} {kk : Nat}
def seqE (f : Env → R D) : Env → R (List D) := fun ε => f ε >>= seqD
/-- a list, a tuple, a text -/
theorem ix_seq (ha : Ex X W a fa) : Ix X W tg a (seqE fa) := by
  refine PI.imp (PI.or (pi_list ha) (PI.or (pi_tup ha) (pi_str ha))) fun σ H Q ⟨ε, F, re, q⟩ => ?_
  have q := R.wp_bind q
  cases e : fa ε with
  | ok d =>
    rw [e] at q
    have q : (seqD d).wp _ _ := q
    cases d with
    | list ds =>
      refine .inl ⟨ε, F, re, ?_⟩
      rw [e]
      intro v H1 F1 g1 d1
      cases d1 with
      | @lst a vs _ h1 h2 h3 => exact ⟨a, rfl, ⟨vs, h1.sql⟩, q _ H1 F1 g1 (walkD_at walk_list (fun H2 F2 p => (h1.pres p).sql) h2) (by rw [← h2.length]; exact h3)⟩
    | tuple ds =>
      refine .inr (.inl ⟨ε, F, re, ?_⟩)
      rw [e]
      intro v H1 F1 g1 d1
      cases d1 with
      | @tup a vs _ h1 h2 h3 => exact ⟨a, rfl, ⟨vs, (.of h1)⟩, q _ H1 F1 g1 (walkD_at walk_tup (fun H2 F2 p => sqt_pres p (.of h1)) h2) (by rw [← h2.length]; exact h3)⟩
    | str z =>
      refine .inr (.inr ⟨ε, F, re, ?_⟩)
      rw [e]
      intro v H1 F1 g1 d1
      cases d1 with
      | str _ hz => exact ⟨z, rfl, q _ H1 F1 g1 (walkD_str hz) (by rw [signs_len]; exact hz.1)⟩
    | _ => exact q.elim
  | exn x => rw [e] at q; exact .inl ⟨ε, F, re, by rw [e]; exact q⟩
  | stuck => rw [e] at q; exact q.elim
def rangeD : List D → R (List D)
  | [.int j] => if -(2 ^ 62) ≤ j ∧ j.toNat ≤ 16777216 then .ok (rng 0 j.toNat) else .stuck
  | [.int i, .int j] => if -(2 ^ 61) ≤ i ∧ i ≤ 2 ^ 61 ∧ -(2 ^ 61) ≤ j ∧ (j - i).toNat ≤ 16777216 then .ok (rng i (j - i).toNat) else .stuck
  | [.int i, .int j, .int c] => if c = -1 ∧ -(2 ^ 61) ≤ i ∧ i ≤ 2 ^ 61 ∧ -(2 ^ 61) ≤ j ∧ j ≤ 2 ^ 61 ∧ (i - j).toNat ≤ 16777216 then .ok (rngC i (-1) (i - j).toNat) else .stuck
  | _ => .stuck
def rangeE (fs : List (Env → R D)) : Env → R (List D) := fun ε => evL fs ε >>= fun ds => (rangeD ds).hard
theorem le_line {n : Nat} (h : n ≤ 16777216) : n ≤ sizeLine := by rw [sizeLine_eq]; exact h
theorem hard_ok' {α : Type} {x : R α} {P : α → Prop} {E : Exn → Prop} (h : x.hard.wp P E) : ∃ a, x = .ok a ∧ P a := by
  cases x with
  | ok a => exact ⟨a, rfl, h⟩
  | exn e => exact h.elim
  | stuck => exact h.elim
theorem range_1 {d : D} {xs : List D} (e : rangeD [d] = .ok xs) : ∃ j, d = .int j ∧ -(2 ^ 62) ≤ j ∧ j.toNat ≤ 16777216 ∧ xs = rng 0 j.toNat := by
  cases d with
  | int j =>
    unfold rangeD at e
    by_cases h : -(2 ^ 62) ≤ j ∧ j.toNat ≤ 16777216
    · simp only [if_pos h] at e
      cases e
      exact ⟨j, rfl, h.1, h.2, rfl⟩
    · simp only [if_neg h] at e
      cases e
  | _ => cases e
theorem range_2 {d d' : D} {xs : List D} (e : rangeD [d, d'] = .ok xs) : ∃ i j, d = .int i ∧ d' = .int j ∧ (-(2 ^ 61) ≤ i ∧ i ≤ 2 ^ 61 ∧ -(2 ^ 61) ≤ j ∧ (j - i).toNat ≤ 16777216) ∧ xs = rng i (j - i).toNat := by
  cases d with
  | int i =>
    cases d' with
    | int j =>
      unfold rangeD at e
      by_cases h : -(2 ^ 61) ≤ i ∧ i ≤ 2 ^ 61 ∧ -(2 ^ 61) ≤ j ∧ (j - i).toNat ≤ 16777216
      · simp only [if_pos h] at e
        cases e
        exact ⟨i, j, rfl, rfl, h, rfl⟩
      · simp only [if_neg h] at e
        cases e
    | _ => cases e
  | _ => cases e
theorem range_3 {d d' d'' : D} {xs : List D} (e : rangeD [d, d', d''] = .ok xs) : ∃ i j, d = .int i ∧ d' = .int j ∧ d'' = .int (-1) ∧ (-(2 ^ 61) ≤ i ∧ i ≤ 2 ^ 61 ∧ -(2 ^ 61) ≤ j ∧ j ≤ 2 ^ 61 ∧ (i - j).toNat ≤ 16777216) ∧ xs = rngC i (-1) (i - j).toNat := by
  cases d with
  | int i =>
    cases d' with
    | int j =>
      cases d'' with
      | int c =>
        unfold rangeD at e
        by_cases h : c = -1 ∧ -(2 ^ 61) ≤ i ∧ i ≤ 2 ^ 61 ∧ -(2 ^ 61) ≤ j ∧ j ≤ 2 ^ 61 ∧ (i - j).toNat ≤ 16777216
        · simp only [if_pos h] at e
          cases e
          exact ⟨i, j, rfl, rfl, by rw [h.1], h.2, rfl⟩
        · simp only [if_neg h] at e
          cases e
      | _ => cases e
    | _ => cases e
  | _ => cases e
theorem ix_range1 (hm : X.mg "range" = none) (ha : Exs X W [a] [fa]) (hg : Gl X "range" := by rfl) (hs : starEach [a] X.env = [(false, eval a X.env)] := by rfl) : Ix X W tg (.Call (.Name "range" p) [a] [] pos) (rangeE [fa]) := by
  refine PI.imp (pi_range1 hg hm ha hs) fun σ H Q ⟨ε, F, re, q⟩ => ⟨ε, F, re, R.wp_mono (evL_len (R.wp_bind q)) (fun ds ⟨hl, k⟩ vs H1 F1 g1 d1 => ?_) (fun e k => k)⟩
  obtain ⟨xs, e, k⟩ := hard_ok' k
  match ds, hl, d1, e with
  | [d], _, d1, e =>
    obtain ⟨v, ev, d2⟩ := denL1 d1
    obtain ⟨j, e1, h1, h2, e2⟩ := range_1 e
    subst ev e1 e2
    cases d2
    refine ⟨j, rfl, h1, by omega, k _ H1 F1 g1 (walkD_fn (rng_len _ _).symm walk_range fun i hi => ⟨_, rng_get hi, fun _ _ _ => .int _⟩) ?_⟩
    rw [rng_len]; exact le_line h2
theorem ix_range2 (hm : X.mg "range" = none) (ha : Exs X W [a, b] [fa, fb]) (hg : Gl X "range" := by rfl) (hs : starEach [a, b] X.env = [(false, eval a X.env), (false, eval b X.env)] := by rfl) (hs2 : starEach [b] X.env = [(false, eval b X.env)] := by rfl) : Ix X W tg (.Call (.Name "range" p) [a, b] [] pos) (rangeE [fa, fb]) := by
  refine PI.imp (pi_range2 hg hm ha hs hs2) fun σ H Q ⟨ε, F, re, q⟩ => ⟨ε, F, re, R.wp_mono (evL_len (R.wp_bind q)) (fun ds ⟨hl, k⟩ vs H1 F1 g1 d1 => ?_) (fun e k => k)⟩
  obtain ⟨xs, e, k⟩ := hard_ok' k
  match ds, hl, d1, e with
  | [d, d'], _, d1, e =>
    obtain ⟨v, w, ev, d2, d3⟩ := denL2 d1
    obtain ⟨i, j, e1, e2, h, e3⟩ := range_2 e
    subst ev e1 e2 e3
    cases d2
    cases d3
    refine ⟨i, j, rfl, by omega, k _ H1 F1 g1 (walkD_fn (rng_len _ _).symm walk_range fun i hi => ⟨_, rng_get hi, fun _ _ _ => .int _⟩) ?_⟩
    rw [rng_len]; exact le_line h.2.2.2
theorem ix_range3 (hm : X.mg "range" = none) (ha : Exs X W [a, b, c] [fa, fb, fc]) (hg : Gl X "range" := by rfl) (hs : starEach [a, b, c] X.env = (false, eval a X.env) :: starEach [b, c] X.env := by rfl) (hpl : (backTo pos (starEach [b, c] X.env)).any (·.1) = false := by rfl) : Ix X W tg (.Call (.Name "range" p) [a, b, c] [] pos) (rangeE [fa, fb, fc]) := by
  refine PI.imp (pi_range3 hg hm ha hs hpl) fun σ H Q ⟨ε, F, re, q⟩ => ⟨ε, F, re, R.wp_mono (evL_len (R.wp_bind q)) (fun ds ⟨hl, k⟩ vs H1 F1 g1 d1 => ?_) (fun e k => k)⟩
  obtain ⟨xs, e, k⟩ := hard_ok' k
  match ds, hl, d1, e with
  | [d, d', d''], _, .cons d1 d2, e =>
    obtain ⟨v, w, ev, d3, d4⟩ := denL2 d2
    obtain ⟨i, j, e1, e2, e3, h, e4⟩ := range_3 e
    subst ev e1 e2 e3 e4
    cases d1
    cases d3
    cases d4
    refine ⟨i, j, -1, (i - j).toNat, rfl, RgC.neg (by omega) (by omega) (by omega) (by omega), k _ H1 F1 g1 (walkD_fn (rngC_len _ _ _).symm walk_rangeC fun i hi => ⟨_, rngC_get hi, fun _ _ _ => .int _⟩) ?_⟩
    rw [rngC_len]; exact le_line h.2.2.2.2
/-! ### enumerate, zip -/
def enumD (ds : List D) : List D := (List.range ds.length).map fun i => .tuple [.int (i : Nat), ds.getD i .none]
theorem enumD_len (ds : List D) : (enumD ds).length = ds.length := by unfold enumD; simp
theorem enumD_get {ds : List D} {i : Nat} {d : D} (h : ds[i]? = some d) : (enumD ds)[i]? = some (.tuple [.int (i : Nat), d]) := by
  have hi : i < ds.length := (List.getElem?_eq_some_iff.mp h).1
  unfold enumD
  rw [List.getElem?_map, List.getElem?_range hi, Option.map_some, List.getD_eq_getElem?_getD, h]; rfl
def zipD (ds es : List D) : List D := (ds.zip es).map fun q => .tuple [q.1, q.2]
theorem zipD_len (ds es : List D) : (zipD ds es).length = min ds.length es.length := by unfold zipD; simp
theorem zipD_get {ds es : List D} {i : Nat} {d e : D} (h : ds[i]? = some d) (h' : es[i]? = some e) : (zipD ds es)[i]? = some (.tuple [d, e]) := by
  have q : (ds.zip es)[i]? = some (d, e) := List.getElem?_zip_eq_some.mpr ⟨h, h'⟩
  unfold zipD
  rw [List.getElem?_map, q]; rfl
theorem meets_enum1 {v : Value} {o : Obj} {Hb : Heap → Prop} (B : Begins v o Hb) : Meets (Builtin.«enumerate.__new__» ⟨[.type "enumerate", v], []⟩) (fun _ Rr s => Hb s.heap ∧
      Rr (.ok (.ret (.ref (s.heap.push o).objs.size))) { s with heap := (s.heap.push o).push { cls := .type "enumerate", data := .fields #[.none, .bool false, .ref s.heap.objs.size, rawInt 0, .none, .none] } }) :=
  .of_wp fun prog w A Rr s h => by
    obtain ⟨hp, g, d, tk, os⟩ := s; obtain ⟨h1, h⟩ := h
    have hsub := sub_enumerate
    have q1 : ∀ {A' : Around} {E : Value → Shared → Prop} {Q : Value → Shared → Prop}, Q (.ref hp.objs.size) ⟨hp.push o, g, d, tk, os⟩ → wpAny (model prog w) A' (pyIter v) Q E ⟨hp, g, d, tk, os⟩ := fun q => B.iter prog w _ _ ⟨hp, g, d, tk, os⟩ _ h1 q
    wp_walk using q1
    refine wpAny_stack_any fun st => wpAny_pure ?_
    split
    · rename_i c _ _ _ _ _
      cases (c == Value.type "enumerate") <;> (wp_walk using q1; exact ⟨_, rfl, h⟩)
    · (wp_walk using q1; exact ⟨_, rfl, h⟩)
theorem enum1_begins {prog : Program} {w : World} {A : Around} {E : Value → Shared → Prop} {s : Shared} {v : Value} {o : Obj} {Hb : Heap → Prop} {Q : Value → Shared → Prop} (B : Begins v o Hb) (h1 : Hb s.heap)
    (h : ∀ h', IsEnum h' (s.heap.objs.size + 1) s.heap.objs.size 0 .none → h'.get? s.heap.objs.size = some o → (∀ b o, s.heap.get? b = some o → h'.get? b = some o) → Q (.ref (s.heap.objs.size + 1)) { s with heap := h' }) :
    wpAny (model prog w) A (call (.type "enumerate") [v]) Q E s := by
  refine callType_new F.called_enumerate (by decide) (F.typeCall_enumerate_1 _) (F.newCall_enumerate_1 _) (fun obj => F.args_object_init_2 obj _) F.entry_enumerate_new (meets_enum1 B) ⟨h1, ?_⟩
  have hz : (s.heap.push o).objs.size = s.heap.objs.size + 1 := Heap.size_push ..
  show _ ∧ _
  rw [hz]
  have he := Heap.get?_push_size (s.heap.push o) (o := { cls := .type "enumerate", data := .fields #[.none, .bool false, .ref s.heap.objs.size, rawInt 0, .none, .none] }) rfl
  rw [hz] at he
  exact ⟨⟨_, he, rfl⟩, h _ he (Heap.get?_push_of_some _ (Heap.get?_push_size _ B.free)) fun b o x => Heap.get?_push_of_some _ (Heap.get?_push_of_some _ x)⟩
def enumE (f : Env → R D) : Env → R (List D) := fun ε => f ε >>= seqD >>= fun ds => .ok (enumD ds)
theorem boot_enum : bootBuiltins "enumerate" = some (.type "enumerate") := by decide +kernel
theorem ix_enum (hm : X.mg "enumerate" = none) (ha : Exs X W [a] [fa]) (hg : Gl X "enumerate" := by rfl) (hs : starEach [a] X.env = [(false, eval a X.env)] := by rfl) : Ix X W (.Tuple elts kk tpos) (.Call (.Name "enumerate" p) [a] [] pos) (enumE fa) := by
  refine ⟨fun pins s σ H Q I ⟨ε, F, re, q⟩ => ?_⟩
  have h : tEs X.K X.mg W [fa] σ H fun vs H1 => ∃ v ds F1, vs = [v] ∧ FOk H1 F1 ∧ Src X.K H1 F1 v ds ∧ ds.length ≤ sizeLine ∧ ∀ J H' F', Grow H1 F1 H' F' → WalkD X.K J H' F' (enumD ds) → Q J H' := by
    refine ⟨ε, F, re, ?_⟩
    show (fa ε >>= fun d => R.ok [d]).wp _ _
    have q := R.wp_bind (R.wp_bind q)
    cases e : fa ε with
    | ok d =>
      rw [e] at q
      intro vs H1 F1 g1 dv
      obtain ⟨v, ev, d1⟩ := denL1 dv
      cases e2 : seqD d with
      | ok ds =>
        have q : (seqD d).wp _ _ := q
        rw [e2] at q
        obtain ⟨sr, hz⟩ := src_of d1 e2
        exact ⟨v, ds, F1, ev, g1.ok, sr, hz, fun J H' F' g w => q J H' F' (g1.trans g) w (by rw [enumD_len]; exact hz)⟩
      | exn x => have q : (seqD d).wp _ _ := q; rw [e2] at q; cases d <;> cases e2
      | stuck => have q : (seqD d).wp _ _ := q; rw [e2] at q; exact q.elim
    | exn x => rw [e] at q; exact q
    | stuck => rw [e] at q; exact q.elim
  refine Call_ (ld_blt I hg hm boot_enum (PyProof.Rows.callWith_type1 (thn (ha.run pos pins s σ H _ I h) fun us s1 ⟨vs, H1, I1, r1, v, ds, F1, ev, ok, ⟨xs, Ext, k1, k2, k3⟩, hz, q⟩ => ?_) hs rfl))
  subst ev
  obtain ⟨u, rfl, ru⟩ := Vals.one r1
  obtain ⟨o, Hb, B, hb, hD⟩ := k3 X pins s1 σ u rfl I1 ru
  refine enum1_begins B hb fun h' he ho hk => wpAny_pyIter_enum he ?_
  obtain ⟨dsx, Dw, d0⟩ := hD s1.heap.objs.size
  have I2 : L2.Inv X pins σ H1 { s1 with heap := h' } := I1.kept (t' := s1.toks) hk
  refine ⟨s1.heap.objs.size + 1, [s1.heap.objs.size + 1, s1.heap.objs.size], _, _, H1, rfl, I2, turn_enumD Dw (Nat.succ_ne_self _), ⟨⟨.none, he⟩, d0 _ ho⟩, fun b hb => ?_, q _ H1 F1 (.refl ok) (walkD_pair (enumD_len ds).symm k1 fun i x y H2 F2 hi p ex ey => ?_)⟩
  · have e' : b = s1.heap.objs.size + 1 ∨ b = s1.heap.objs.size := by simpa using hb
    have hle : s1.heap.objs.size ≤ b := by
      rcases e' with z | z
      · rw [z]; exact Nat.le_add_right _ _
      · rw [z]; exact Nat.le_refl _
    exact I1.fpOk hle (I1.hok.fresh hle)
  · obtain ⟨d, e1, e2⟩ := k2 i y H2 F2 p ey
    cases ex
    exact ⟨_, d, enumD_get e1, .int _, e2⟩
def zipE (f g : Env → R D) : Env → R (List D) := fun ε => f ε >>= fun x => g ε >>= fun y => (seqD x).hard >>= fun ds => (seqD y).hard >>= fun es => .ok (zipD ds es)
theorem ix_zip (hm : X.mg "zip" = none) (ha : Exs X W [a, b] [fa, fb]) (hg : Gl X "zip" := by rfl) (hs : starEach [a, b] X.env = (false, eval a X.env) :: starEach [b] X.env := by rfl) (hpl : (backTo pos (starEach [b] X.env)).any (·.1) = false := by rfl) :
    Ix X W (.Tuple elts kk tpos) (.Call (.Name "zip" p) [a, b] [] pos) (zipE fa fb) := by
  refine ⟨fun pins s σ H Q I ⟨ε, F, re, q⟩ => ?_⟩
  have h : tEs X.K X.mg W [fa, fb] σ H fun vs H1 => ∃ v w ds es F1, vs = [v, w] ∧ FOk H1 F1 ∧ Src X.K H1 F1 v ds ∧ Src X.K H1 F1 w es ∧ ds.length ≤ sizeLine ∧ ∀ J H' F', Grow H1 F1 H' F' → WalkD X.K J H' F' (zipD ds es) → Q J H' := by
    refine ⟨ε, F, re, ?_⟩
    show (fa ε >>= fun d => evL [fb] ε >>= fun ds => R.ok (d :: ds)).wp _ _
    have q := R.wp_bind q
    cases e : fa ε with
    | ok d =>
      rw [e] at q
      have q : (fb ε >>= _).wp _ _ := q
      show (evL [fb] ε >>= fun ds => R.ok (d :: ds)).wp _ _
      have q := R.wp_bind q
      cases e' : fb ε with
      | ok d' =>
        have e2 : evL [fb] ε = .ok [d'] := by
          show (fb ε >>= _) = _
          rw [e']; rfl
        rw [e2]
        rw [e'] at q
        have q : ((seqD d).hard >>= _).wp _ _ := q
        obtain ⟨ds, e1, q⟩ := wp_hard q
        obtain ⟨es, e2, q⟩ := wp_hard q
        intro vs H1 F1 g1 dv
        obtain ⟨v, w, ev, d1, d2⟩ := denL2 dv
        obtain ⟨s1, z1⟩ := src_of d1 e1
        obtain ⟨s2, z2⟩ := src_of d2 e2
        exact ⟨v, w, ds, es, F1, ev, g1.ok, s1, s2, z1, fun J H' F' g wk => q J H' F' (g1.trans g) wk (by rw [zipD_len]; exact Nat.le_trans (Nat.min_le_left _ _) z1)⟩
      | exn x =>
        have e2 : evL [fb] ε = .exn x := by
          show (fb ε >>= _) = _
          rw [e']; rfl
        rw [e2]; rw [e'] at q; exact q
      | stuck => rw [e'] at q; exact q.elim
    | exn x => rw [e] at q; exact q
    | stuck => rw [e] at q; exact q.elim
  refine Call_ (ld_blt I hg hm PyProof.Rows.boot_zip (PyProof.Rows.callWith_type1 (thn (ha.run pos pins s σ H _ I h) fun us s1 ⟨vs, H1, I1, r1, v, w, ds, es, F1, ev, ok, ⟨xs, Ext, k1, k2, k3⟩, ⟨ys, Ext', l1, l2, l3⟩, hz, q⟩ => ?_) hs hpl))
  subst ev
  obtain ⟨u, u', rfl, ru, ru'⟩ := Vals.two r1
  obtain ⟨o, Hb, B, hb, hD⟩ := k3 X pins s1 σ u rfl I1 ru
  obtain ⟨o', Hb', B', hb', hD'⟩ := l3 X pins s1 σ u' rfl I1 ru'
  refine zip_begins2 B B' hb hb' fun h' z1 z2 z3 ho ho' hsz hk => wpAny_pyIter_zip z1 ?_
  obtain ⟨dsx, Dw, d0⟩ := hD s1.heap.objs.size
  obtain ⟨dsy, Dw', d0'⟩ := hD' (s1.heap.objs.size + 1)
  have I2 : L2.Inv X pins σ H1 { s1 with heap := h' } := I1.kept (t' := s1.toks) hk
  have T := turn_zipD (elts := elts) (kk := kk) (tpos := tpos) (N := s1.heap.objs.size) Dw Dw'
  refine ⟨s1.heap.objs.size + 4, [s1.heap.objs.size + 4, s1.heap.objs.size + 2, s1.heap.objs.size + 3, s1.heap.objs.size, s1.heap.objs.size + 1], _, _, H1, rfl, I2, T, ⟨z1, z2, ⟨_, _, z3⟩, d0 _ ho, d0' _ ho'⟩, fun b hb => ?_,
    q _ H1 F1 (.refl ok) (walkD_pair (zipD_len ds es).symm (fun H2 F2 p => ⟨k1 H2 F2 p, l1 H2 F2 p⟩) fun i x y H2 F2 hi p ex ey => ?_)⟩
  · have e' : b = s1.heap.objs.size + 4 ∨ b = s1.heap.objs.size + 2 ∨ b = s1.heap.objs.size + 3 ∨ b = s1.heap.objs.size ∨ b = s1.heap.objs.size + 1 := by simpa using hb
    have hle : s1.heap.objs.size ≤ b := by
      rcases e' with z | z | z | z | z
      · rw [z]; exact Nat.le_add_right _ _
      · rw [z]; exact Nat.le_add_right _ _
      · rw [z]; exact Nat.le_add_right _ _
      · rw [z]; exact Nat.le_refl _
      · rw [z]; exact Nat.le_add_right _ _
    exact I1.fpOk hle (I1.hok.fresh hle)
  · obtain ⟨d, e1, e2⟩ := k2 i x H2 F2 p ex
    obtain ⟨d', e3, e4⟩ := l2 i y H2 F2 p ey
    exact ⟨d, d', zipD_get e1 e3, e2, e4⟩
end
end RB

set_option Elab.async false
set_option linter.all false
set_option maxRecDepth 100000
set_option maxHeartbeats 4000000
namespace RB
open PySem PySem.Spec PyProof.Rows L2

/-! ### targets -/
inductive Tg where
  | nm (i : Nat)
  | tup (ts : List Tg)
/-- a, b, .. = a tuple or a list of that length -/
def gSq (K : PySem.W.Frag) (n : Nat) (t : TGs) : TG := fun v σ H Q => gTup K n t v σ H Q ∨ gLst K n t v σ H Q
theorem pg_sq {X : Cx} {pos : Pos} {es : List Expr} {k : Nat} {t : TGs} {n : Nat} (hc : X.calm = true) (h : PGs X es t)
    (hn : (assignEach es X.env).length = n := by rfl) (hst : (assignEach es X.env).findIdx? (·.1) = none := by rfl) : PG X (.Tuple es k pos) (gSq X.K n t) :=
  ⟨fun pins s σ H v u Q I r hw => hw.elim (fun hw => (pg_tup hc h hn hst).run pins s σ H v u Q I r hw) fun hw => (pg_lst hc h hn hst).run pins s σ H v u Q I r hw⟩
mutual
def tgR (K : PySem.W.Frag) : Tg → TG
  | .nm i => gName i
  | .tup ts => gSq K (tgLen ts) (tgsR K ts)
def tgsR (K : PySem.W.Frag) : List Tg → TGs
  | [] => gNil
  | t :: ts => gCons (tgR K t) (tgsR K ts)
def tgLen : List Tg → Nat
  | [] => 0
  | _ :: ts => tgLen ts + 1
end
mutual
/-- which name gets which part -/
def flatT : Tg → D → R (List (Nat × D))
  | .nm i, d => .ok [(i, d)]
  | .tup ts, .tuple ds => flatTs ts ds
  | .tup ts, .list ds => flatTs ts ds
  | .tup _, _ => .stuck
def flatTs : List Tg → List D → R (List (Nat × D))
  | [], [] => .ok []
  | t :: ts, d :: ds => flatT t d >>= fun a => flatTs ts ds >>= fun b => .ok (a ++ b)
  | _, _ => .stuck
end
mutual
def slotsT : Tg → List Nat
  | .nm i => [i]
  | .tup ts => slotsTs ts
def slotsTs : List Tg → List Nat
  | [] => []
  | t :: ts => slotsT t ++ slotsTs ts
end
def setV (σ : L2.St) : List (Nat × V) → L2.St
  | [] => σ
  | p :: ps => setV (σ.set p.1 (some p.2)) ps
def setE (ε : Env) : List (Nat × D) → Env
  | [] => ε
  | p :: ps => setE (ε.set p.1 (some p.2)) ps
theorem setV_append (σ : L2.St) : ∀ (a b : List (Nat × V)), setV σ (a ++ b) = setV (setV σ a) b
  | [], _ => rfl
  | p :: ps, b => setV_append (σ.set p.1 (some p.2)) ps b
/-- the parts at their values -/
inductive PairD (K : PySem.W.Frag) (H : Hp) (F : Addr → Prop) : List (Nat × V) → List (Nat × D) → Prop
  | nil : PairD K H F [] []
  | cons {i : Nat} {v : V} {d : D} {vs : List (Nat × V)} {ds : List (Nat × D)} : Den K H F v d → PairD K H F vs ds → PairD K H F ((i, v) :: vs) ((i, d) :: ds)
theorem PairD.append {K : PySem.W.Frag} {H : Hp} {F : Addr → Prop} : ∀ {a b : List (Nat × V)} {c d : List (Nat × D)}, PairD K H F a c → PairD K H F b d → PairD K H F (a ++ b) (c ++ d)
  | _, _, _, _, .nil, h => h
  | _, _, _, _, .cons h hs, h' => .cons h (hs.append h')
theorem tgLen_eq : ∀ {ts : List Tg} {ds : List D} {as : List (Nat × D)}, flatTs ts ds = .ok as → ds.length = tgLen ts
  | [], [], _, _ => rfl
  | [], _ :: _, _, e => by unfold flatTs at e; cases e
  | _ :: _, [], _, e => by unfold flatTs at e; cases e
  | t :: ts, d :: ds, as, e => by
    unfold flatTs at e
    cases h1 : flatT t d with
    | ok a =>
      rw [h1] at e
      cases h2 : flatTs ts ds with
      | ok b =>
        have := tgLen_eq h2
        unfold tgLen
        rw [List.length_cons, this]
      | exn _ => rw [h2] at e; cases e
      | stuck => rw [h2] at e; cases e
    | exn _ => rw [h1] at e; cases e
    | stuck => rw [h1] at e; cases e
mutual
theorem tg_run {K : PySem.W.Frag} {H : Hp} {F : Addr → Prop} : ∀ (t : Tg) (v : V) (d : D) (as : List (Nat × D)) (σ : L2.St) (Q : L2.St → Hp → Prop), Den K H F v d → flatT t d = .ok as → (∀ vs, PairD K H F vs as → Q (setV σ vs) H) → tgR K t v σ H Q
  | .nm i, v, d, as, σ, Q, h, e, k => by
    unfold flatT at e
    cases e
    exact k [(i, v)] (.cons h .nil)
  | .tup ts, v, d, as, σ, Q, h, e, k => by
    cases h with
    | @tup a vs ds h1 h2 h3 =>
      unfold flatT at e
      unfold tgR
      have hl := tgLen_eq e
      exact .inl ⟨a, vs, rfl, (.of h1), by rw [h2.length]; exact hl, tgs_run ts vs ds as σ Q h2 e k⟩
    | @lst a vs ds h1 h2 h3 =>
      unfold flatT at e
      unfold tgR
      have hl := tgLen_eq e
      exact .inr ⟨a, vs, rfl, h1.sql, by rw [h2.length]; exact hl, tgs_run ts vs ds as σ Q h2 e k⟩
    | _ => unfold flatT at e; cases e
theorem tgs_run {K : PySem.W.Frag} {H : Hp} {F : Addr → Prop} : ∀ (ts : List Tg) (vs : List V) (ds : List D) (as : List (Nat × D)) (σ : L2.St) (Q : L2.St → Hp → Prop), DenL K H F vs ds → flatTs ts ds = .ok as → (∀ vs, PairD K H F vs as → Q (setV σ vs) H) → tgsR K ts vs σ H Q
  | [], vs, ds, as, σ, Q, h, e, k => by
    cases h with
    | nil => unfold flatTs at e; cases e; unfold tgsR; exact ⟨rfl, k [] .nil⟩
    | cons _ _ => unfold flatTs at e; cases e
  | t :: ts, vs, ds, as, σ, Q, h, e, k => by
    cases h with
    | nil => unfold flatTs at e; cases e
    | @cons v vs d ds h hs =>
      unfold flatTs at e
      cases h1 : flatT t d with
      | ok a =>
        rw [h1] at e
        cases h2 : flatTs ts ds with
        | ok b =>
          rw [h2] at e
          cases e
          unfold tgsR
          refine ⟨v, vs, rfl, tg_run t v d a σ _ h h1 fun ws p => tgs_run ts vs ds b (setV σ ws) Q hs h2 fun us p' => ?_⟩
          rw [← setV_append]
          exact k _ (p.append p')
        | exn _ => rw [h2] at e; cases e
        | stuck => rw [h2] at e; cases e
      | exn _ => rw [h1] at e; cases e
      | stuck => rw [h1] at e; cases e
end
section
variable {K : PySem.W.Frag} {H : Hp} {F : Addr → Prop}
theorem RE.set {σ : L2.St} {ε : Env} (r : RE K σ ε H F) {i : Nat} {v : V} {d : D} (h : Den K H F v d) : RE K (σ.set i (some v)) (ε.set i (some d)) H F := ⟨fun j d' e => by
  by_cases hj : i = j
  · subst hj
    by_cases hi : i < ε.length
    · rw [List.getElem?_set_self hi] at e
      cases e
      have := r.len
      exact ⟨v, List.getElem?_set_self (by omega), h⟩
    · rw [List.getElem?_eq_none (by rw [List.length_set]; omega)] at e; cases e
  · rw [List.getElem?_set_ne hj] at e
    obtain ⟨w, h1, h2⟩ := r.at_ j d' e
    exact ⟨w, by rw [List.getElem?_set_ne hj]; exact h1, h2⟩, r.ok, by rw [List.length_set, List.length_set]; exact r.len⟩
theorem RE.setAll {vs : List (Nat × V)} {as : List (Nat × D)} (p : PairD K H F vs as) : ∀ {σ : L2.St} {ε : Env}, RE K σ ε H F → RE K (setV σ vs) (setE ε as) H F := by
  induction p with
  | nil => intro σ ε r; exact r
  | cons h hs ih =>
    intro σ ε r
    exact ih (r.set h)
theorem wipe_set {x : Option V} {i : Nat} : ∀ {vs : List Nat} {σ : L2.St}, i ∈ vs → wipe (σ.set i x) vs = wipe σ vs
  | [], _, h => nomatch h
  | w :: ws, σ, h => by
    unfold wipe
    by_cases e : i ∈ ws
    · rw [wipe_set e]
    · have hw : i = w := by
        rcases List.mem_cons.mp h with q | q
        · exact q
        · exact absurd q e
      subst hw
      have : ∀ (l : List Nat) (σ : L2.St), i ∉ l → wipe (σ.set i x) l = (wipe σ l).set i x := by
        intro l
        induction l with
        | nil => intro σ _; rfl
        | cons a l ih =>
          intro σ hn
          unfold wipe
          have h1 : i ≠ a := fun z => hn (by rw [z]; exact List.mem_cons_self)
          rw [ih σ (fun z => hn (List.mem_cons_of_mem _ z)), List.set_comm _ _ h1]
      rw [this ws σ e, List.set_set]
theorem wipe_setV {vs : List Nat} : ∀ {ws : List (Nat × V)} {σ : L2.St}, (∀ p ∈ ws, p.1 ∈ vs) → wipe (setV σ ws) vs = wipe σ vs
  | [], _, _ => rfl
  | p :: ws, σ, h => by
    show wipe (setV (σ.set p.1 (some p.2)) ws) vs = _
    rw [wipe_setV (fun q hq => h q (List.mem_cons_of_mem _ hq)), wipe_set (h p List.mem_cons_self)]
theorem setV_len : ∀ {ws : List (Nat × V)} {σ : L2.St}, (setV σ ws).length = σ.length
  | [], _ => rfl
  | p :: ws, σ => by
    show (setV (σ.set p.1 (some p.2)) ws).length = _
    rw [setV_len, List.length_set]
theorem setE_len : ∀ {ws : List (Nat × D)} {σ : Env}, (setE σ ws).length = σ.length
  | [], _ => rfl
  | p :: ws, σ => by
    show (setE (σ.set p.1 (some p.2)) ws).length = _
    rw [setE_len, List.length_set]
/-- the block's own names are unset -/
def wipeE (ε : Env) : List Nat → Env
  | [] => ε
  | v :: vs => (wipeE ε vs).set v none
theorem wipeE_len (ε : Env) : ∀ vs : List Nat, (wipeE ε vs).length = ε.length
  | [] => rfl
  | v :: vs => by unfold wipeE; rw [List.length_set, wipeE_len ε vs]
theorem wipeE_some {ε : Env} {i : Nat} {d : D} : ∀ {vs : List Nat}, (wipeE ε vs)[i]? = some (some d) → ε[i]? = some (some d) ∧ i ∉ vs
  | [], h => ⟨h, by simp⟩
  | v :: vs, h => by
    unfold wipeE at h
    by_cases hi : v = i
    · subst hi
      by_cases hv : v < (wipeE ε vs).length
      · rw [List.getElem?_set_self hv] at h; cases h
      · rw [List.getElem?_eq_none (by simpa using hv)] at h; cases h
    · rw [List.getElem?_set_ne hi] at h
      obtain ⟨h1, h2⟩ := wipeE_some h
      exact ⟨h1, by simp only [List.mem_cons, not_or]; exact ⟨fun e => hi e.symm, h2⟩⟩
theorem RE.wipe {σ : L2.St} {ε : Env} (r : RE K σ ε H F) (vs : List Nat) : RE K (L2.wipe σ vs) (wipeE ε vs) H F := ⟨fun i d e => by
  obtain ⟨e1, hn⟩ := wipeE_some e
  obtain ⟨v, h1, h2⟩ := r.at_ i d e1
  exact ⟨v, by rw [wipe_out hn]; exact h1, h2⟩, r.ok, by rw [wipe_length, wipeE_len]; exact r.len⟩
mutual
theorem flat_slots : ∀ (t : Tg) (d : D) (as : List (Nat × D)), flatT t d = .ok as → ∀ p ∈ as, p.1 ∈ slotsT t
  | .nm i, d, as, e, p, hp => by
    unfold flatT at e
    cases e
    rw [List.mem_singleton.mp hp]
    unfold slotsT
    exact List.mem_cons_self
  | .tup ts, d, as, e, p, hp => by
    cases d with
    | tuple ds => unfold flatT at e; unfold slotsT; exact flats_slots ts ds as e p hp
    | list ds => unfold flatT at e; unfold slotsT; exact flats_slots ts ds as e p hp
    | _ => unfold flatT at e; cases e
theorem flats_slots : ∀ (ts : List Tg) (ds : List D) (as : List (Nat × D)), flatTs ts ds = .ok as → ∀ p ∈ as, p.1 ∈ slotsTs ts
  | [], [], as, e, p, hp => by unfold flatTs at e; cases e; cases hp
  | [], _ :: _, as, e, p, hp => by unfold flatTs at e; cases e
  | _ :: _, [], as, e, p, hp => by unfold flatTs at e; cases e
  | t :: ts, d :: ds, as, e, p, hp => by
    unfold flatTs at e
    cases h1 : flatT t d with
    | ok a =>
      rw [h1] at e
      cases h2 : flatTs ts ds with
      | ok b =>
        rw [h2] at e
        cases e
        unfold slotsTs
        rcases List.mem_append.mp hp with q | q
        · exact List.mem_append_left _ (flat_slots t d a h1 p q)
        · exact List.mem_append_right _ (flats_slots ts ds b h2 p q)
      | exn _ => rw [h2] at e; cases e
      | stuck => rw [h2] at e; cases e
    | exn _ => rw [h1] at e; cases e
    | stuck => rw [h1] at e; cases e
end
theorem PairD.slots {vs : List (Nat × V)} {as : List (Nat × D)} (p : PairD K H F vs as) : ∀ q ∈ vs, ∃ r ∈ as, r.1 = q.1 := by
  induction p with
  | nil => intro q hq; cases hq
  | cons h hs ih =>
    intro q hq
    rcases List.mem_cons.mp hq with z | z
    · exact ⟨_, List.mem_cons_self, by rw [z]⟩
    · obtain ⟨r, h1, h2⟩ := ih q z
      exact ⟨r, List.mem_cons_of_mem _ h1, h2⟩
end
abbrev Gx (X : Cx) (e : Expr) (t : Tg) : Prop := PG X e (tgR X.K t)
abbrev Txs (X : Cx) (W : WX) (es : List Expr) (f : Env → R Bool) : Prop := PTs X es (tB_ X.K X.mg W f)
abbrev W0 : WX := fun _ _ _ _ => False
section
variable {X : Cx} {W : WX}
theorem gx_nm (i : Nat) {x : Str} {pos : Pos} (hN : X.N.Nodup) (hi : X.N[i]? = some x := by rfl) (hx : Loc X.env.scope x := by first | exact Or.inl rfl | exact Or.inr rfl) (hf : X.fn x = true ∨ X.env.scope.names.lookup x = some .local := by first | exact .inl rfl | exact .inr rfl) : Gx X (.Name x pos) (.nm i) :=
  pg_name hN hi hx hf
abbrev Gxs (X : Cx) (es : List Expr) (ts : List Tg) : Prop := PGs X es (tgsR X.K ts)
theorem gxs_nil : Gxs X [] [] := pgs_nil
theorem gxs_cons {e : Expr} {es : List Expr} {t : Tg} {ts : List Tg} (h1 : Gx X e t) (h2 : Gxs X es ts) (hs : (assignEach (e :: es) X.env).map (·.2) = assign e X.env :: (assignEach es X.env).map (·.2) := by rfl) : Gxs X (e :: es) (t :: ts) := pgs_cons h1 h2 hs
theorem gx_tup {es : List Expr} {k : Nat} {ts : List Tg} {pos : Pos} (h : Gxs X es ts) (hc : X.calm = true := by rfl) (hn : (assignEach es X.env).length = tgLen ts := by rfl) (hst : (assignEach es X.env).findIdx? (·.1) = none := by rfl) : Gx X (.Tuple es k pos) (.tup ts) := by
  unfold Gx tgR
  exact pg_sq hc h hn hst
theorem txs_nil : Txs X W [] (fun _ => .ok true) := PTs.imp pts_nil fun σ H Q ⟨ε, F, re, q⟩ => q H F (.refl re.ok)
theorem txs_one {c : Expr} {f : Env → R Bool} (h : Tx X W c f) : Txs X W [c] f := pts_one h
/-! ### comprehensions -/
def compL (t : Tg) (ifs : Env → R Bool) (elt : Env → R D) (ε : Env) : List D → R (List D)
  | [] => .ok []
  | d :: ds => (flatT t d).hard >>= fun as => (ifs (setE ε as)).hard >>= fun b =>
    if b = true then (elt (setE ε as)).hard >>= fun y => compL t ifs elt ε ds >>= fun ys => .ok (y :: ys) else compL t ifs elt ε ds
/-- [elt for t in it if ifs]; vs: the block's own names -/
def compE (vs : List Nat) (it : Env → R (List D)) (t : Tg) (ifs : Env → R Bool) (elt : Env → R D) : Env → R (List D) := fun ε => it ε >>= fun ds => compL t ifs elt (wipeE ε vs) ds
theorem compL_noexn {t : Tg} {ifs : Env → R Bool} {elt : Env → R D} {ε : Env} : ∀ {ds : List D} {e : Exn}, compL t ifs elt ε ds ≠ .exn e
  | [], e, h => by unfold compL at h; cases h
  | d :: ds, e, h => by
    unfold compL at h
    cases h1 : flatT t d with
    | ok as =>
      rw [h1] at h
      have h : ((ifs (setE ε as)).hard >>= _) = R.exn e := h
      cases h2 : ifs (setE ε as) with
      | ok b =>
        rw [h2] at h
        cases b with
        | true =>
          have h : ((elt (setE ε as)).hard >>= _) = R.exn e := h
          cases h3 : elt (setE ε as) with
          | ok y =>
            rw [h3] at h
            have h : (compL t ifs elt ε ds >>= _) = R.exn e := h
            cases h4 : compL t ifs elt ε ds with
            | ok ys => rw [h4] at h; cases h
            | exn x => exact compL_noexn h4
            | stuck => rw [h4] at h; cases h
          | exn x => rw [h3] at h; cases h
          | stuck => rw [h3] at h; cases h
        | false => exact compL_noexn (ds := ds) h
      | exn x => rw [h2] at h; cases h
      | stuck => rw [h2] at h; cases h
    | exn x => rw [h1] at h; cases h
    | stuck => rw [h1] at h; cases h
theorem tE_of {K : PySem.W.Frag} {mg : Str → Option Value} {W : WX} {f : Env → R D} {σ : L2.St} {H : Hp} {F : Addr → Prop} {ε : Env} {d : D} {Q : VK} (re : RE K σ ε H F) (e : f ε = .ok d) (q : Fin1 K H F Q d) : tE K mg W f σ H Q :=
  ⟨ε, F, re, by rw [e]; exact q⟩
theorem compL_ok {t : Tg} {ifs : Env → R Bool} {elt : Env → R D} {ε : Env} {ds : List D} {P : List D → Prop} {E : Exn → Prop} (h : (compL t ifs elt ε ds).wp P E) : ∃ tot, compL t ifs elt ε ds = .ok tot ∧ P tot := by
  cases e : compL t ifs elt ε ds with
  | ok a => rw [e] at h; exact ⟨a, rfl, h⟩
  | exn x => exact absurd e compL_noexn
  | stuck => rw [e] at h; exact h.elim
theorem hard_bind {α β : Type} {x : R α} {f : α → R β} {b : β} (h : (x.hard >>= f) = .ok b) : ∃ a, x = .ok a ∧ f a = .ok b := by
  cases x with
  | ok a => exact ⟨a, rfl, h⟩
  | exn e => cases h
  | stuck => cases h
theorem ok_bind' {α β : Type} {x : R α} {f : α → R β} {b : β} (h : (x >>= f) = .ok b) : ∃ a, x = .ok a ∧ f a = .ok b := by
  cases x with
  | ok a => exact ⟨a, rfl, h⟩
  | exn e => cases h
  | stuck => cases h
theorem wipe_wipe (σ : L2.St) (vs : List Nat) : wipe (wipe σ vs) vs = wipe σ vs := by
  have : ∀ l : List Nat, (∀ i ∈ l, i ∈ vs) → wipe (wipe σ l) vs = wipe σ vs := by
    intro l
    induction l with
    | nil => intro _; rfl
    | cons a l ih =>
      intro h
      show wipe ((wipe σ l).set a none) vs = _
      rw [wipe_set (h a List.mem_cons_self), ih fun i hi => h i (List.mem_cons_of_mem _ hi)]
  exact this vs fun _ h => h
theorem Grow.notF {H H' : Hp} {F F' : Addr → Prop} {a : Addr} {u : HO} (g : Grow H F H' F') (h : H a = some u) (nf : ¬ F a) : ¬ F' a := fun f => by
  rcases g.new a f with q | q
  · exact nf q
  · rw [h] at q; cases q
theorem pres_upd {H : Hp} {F : Addr → Prop} {p : Addr} {vs : List V} {o : HO} (h : H p = some (.lst vs)) (nf : ¬ F p) : Pres H F (upd H p o) F :=
  ⟨fun a xs e => by rw [upd_ne (fun z => by rw [z, h] at e; cases e)]; exact e, fun a o' u e => by rw [upd_ne (fun z => by rw [z, h] at e; cases e)]; exact e,
    fun a u f e => ⟨f, by rw [upd_ne (fun (z : a = p) => nf (z ▸ f))]; exact e⟩⟩
theorem grow_upd {H1 H : Hp} {F1 F : Addr → Prop} {p : Addr} {o : HO} (g : Grow H1 F1 H F) (hp : H1 p = none) : Grow H1 F1 (upd H p o) F :=
  ⟨fun a u e => by rw [upd_ne (ne_of_none e hp)]; exact g.same a u e, g.fro, g.new, fun a f => by
    by_cases z : a = p
    · subst z; exact ⟨o, upd_same⟩
    · obtain ⟨u, e⟩ := g.ok a f
      exact ⟨u, by rw [upd_ne z]; exact e⟩⟩
/-- one turn of a comprehension's block: the target, the tests, the element -/
theorem comp_turn {K : PySem.W.Frag} {mg : Str → Option Value} {σ : L2.St} {H : Hp} {F : Addr → Prop} {ε : Env} {t : Tg} {fi : Env → R Bool} {fe : Env → R D} {vs : List Nat} {x : V} {d : D} {ds : List D} {rest : List D} {P : V → Hp → Prop} {P' : Hp → Prop}
    (re : RE K (wipe σ vs) ε H F) (dx : Den K H F x d) (hsl : ∀ i ∈ slotsT t, i ∈ vs) (e : compL t fi fe ε (d :: ds) = .ok rest)
    (h1 : ∀ y ys, rest = y :: ys → compL t fi fe ε ds = .ok ys → ∀ v H' F', Grow H F H' F' → Den K H' F' v y → P v H') (h2 : compL t fi fe ε ds = .ok rest → ∀ H' F', Grow H F H' F' → P' H') :
    tgR K t x (wipe σ vs) H fun σ2 H2 => wipe σ2 vs = wipe σ vs ∧ tB_ K mg W0 fi σ2 H2 fun b H3 => if b = true then tE K mg W0 fe σ2 H3 P else P' H3 := by
  unfold compL at e
  obtain ⟨as, e1, e⟩ := hard_bind e
  obtain ⟨b, e2, e⟩ := hard_bind e
  refine tg_run t x d as _ _ dx e1 fun ws p => ⟨?_, setE ε as, F, re.setAll p, ?_⟩
  · rw [wipe_setV, wipe_wipe]
    intro q hq
    obtain ⟨r, hr, e⟩ := p.slots q hq
    rw [← e]
    exact hsl _ (flat_slots t d as e1 r hr)
  · rw [e2]
    intro H3 F3 g3
    cases b with
    | true =>
      rw [if_pos rfl] at e ⊢
      obtain ⟨y, e3, e⟩ := hard_bind e
      obtain ⟨ys, e4, e⟩ := ok_bind' e
      cases e
      exact tE_of ((re.setAll p).grow g3) e3 fun v H4 F4 g4 d4 => h1 y ys rfl e4 v H4 F4 (g3.trans g4) d4
    | false =>
      rw [if_neg (by decide)] at e ⊢
      exact h2 e H3 F3 g3
theorem drop_get {α : Type} {ds : List α} {i : Nat} {d : α} (h : ds[i]? = some d) : ds.drop i = d :: ds.drop (i + 1) := by
  obtain ⟨h1, h2⟩ := List.getElem?_eq_some_iff.mp h
  rw [List.drop_eq_getElem_cons h1, h2]
theorem lc_read {K : PySem.W.Frag} {mg : Str → Option Value} {it : Env → R (List D)} {t : Tg} {fi : Env → R Bool} {fe : Env → R D} {vs : List Nat} {σ : L2.St} {H : Hp} {F : Addr → Prop} {ε : Env} {Q : VK} {E : Exn → Prop} (re : RE K σ ε H F) (hsl : ∀ i ∈ slotsT t, i ∈ vs)
    (q : (compE vs it t fi fe ε).wp (FinL K H F Q) E) :
    (it ε).wp (fun ds => ∀ J H1 F1, Grow H F H1 F1 → WalkD K J H1 F1 ds → ds.length ≤ sizeLine → ∀ Dd, H1 Dd = none → ∃ W : Nat → Nat → Hp → Prop, (∃ m, W 0 m (upd H1 Dd (.lst []))) ∧ ∀ i m H, W i m H →
      (J.stop i H ∧ Q (.ref Dd) H) ∨ (J.go i H ∧ ∃ Nx : Hp → Prop, (∀ H', Nx H' → ∃ m', m' < m ∧ W (i + 1) m' H') ∧ ∀ x H', J.yld i H x H' → tgR K t x (wipe σ vs) H' fun σ2 H2 => wipe σ2 vs = wipe σ vs ∧ tB_ K mg W0 fi σ2 H2 fun b H3 =>
        if b = true then tE K mg W0 fe σ2 H3 fun y H4 => ∃ acc, H4 Dd = some (.lst acc) ∧ acc.length < sizeLine ∧ Nx (upd H4 Dd (.lst (acc ++ [y]))) else Nx H3)) E := by
  refine R.wp_mono (R.wp_bind q) (fun ds k J H1 F1 g1 ⟨G, Y, wk, wG, wY⟩ hz Dd hD => ?_) (fun e k => k)
  obtain ⟨tot, etot, k⟩ := compL_ok k
  have reb := (re.grow g1).wipe vs
  have nD : ¬ F1 Dd := fun f => by
    obtain ⟨u, e⟩ := g1.ok Dd f
    rw [hD] at e; cases e
  refine lc_it wk (fun i H2 => ∃ F2 ws done rest, Grow H1 F1 H2 F2 ∧ H2 Dd = some (.lst ws) ∧ ¬ F2 Dd ∧ DenL K H2 F2 ws done ∧ compL t fi fe (wipeE ε vs) (ds.drop i) = .ok rest ∧ done ++ rest = tot ∧ ws.length ≤ i)
    ⟨F1, [], [], tot, grow_new g1.ok hD, upd_same, nD, .nil, by rw [List.drop_zero]; exact etot, rfl, Nat.le_refl _⟩ (fun i H2 hi ⟨F2, ws, done, rest, g2, _⟩ => wG H2 F2 g2.pres) (fun i x H2 H3 hi ⟨F2, ws, done, rest, g2, e1, e2, e3, e4, e5, e6⟩ y => ?_) fun H2 ⟨F2, ws, done, rest, g2, e1, e2, e3, e4, e5, e6⟩ => ?_
  · obtain ⟨d, ed, g3, dx⟩ := wY i H2 F2 x H3 hi g2.pres g2.ok y
    rw [drop_get ed] at e4
    have e1' := g3.same _ _ e1
    refine comp_turn (ds := ds.drop (i + 1)) (reb.grow (g2.trans g3)) dx hsl e4 (fun yd ys er ec v H4 F4 g4 dv => ?_) fun ec H4 F4 g4 => ?_
    · have e1'' := g4.same _ _ e1'
      have nf := g4.notF e1' e2
      have p4 := pres_upd (o := .lst (ws ++ [v])) e1'' nf
      refine ⟨ws, e1'', by omega, F4, ws ++ [v], done ++ [yd], ys, grow_upd (g2.trans (g3.trans g4)) hD, upd_same, nf, ((e3.grow (g3.trans g4)).append (.cons dv .nil)).pres p4, ec, ?_, by rw [List.length_append, List.length_singleton]; omega⟩
      rw [← e5, er, List.append_assoc]; rfl
    · exact ⟨F4, ws, done, rest, g2.trans (g3.trans g4), g4.same _ _ e1', g4.notF e1' e2, e3.grow (g3.trans g4), ec, e5, by omega⟩
  · rw [List.drop_length] at e4
    unfold compL at e4
    cases e4
    rw [List.append_nil] at e5
    subst e5
    exact k Dd ws H2 F2 (g1.trans g2) (g1.back hD) e1 e2 e3 (by omega)
theorem fx_lc {elt tg iter : Expr} {ifs : List Expr} {scope : Scope} {own : List (Str × Nat)} {pos : Pos} {it : Env → R (List D)} {t : Tg} {fi : Env → R Bool} {fe : Env → R D} (hN : X.N.Nodup) (hi : Ix X W tg iter it) (ok : BlkOk X.N X.env.scope scope own)
    (hsl : ∀ i ∈ slotsT t, i ∈ own.map (·.2))
    (hg : ∀ (s : Shared) (H : Hp) (C : Addr) (cl : List (Str × Addr)) (fp : List Addr), Gx (X.blk s H scope (compEnvC scope cl C X.env) fp) tg t) (ht : ∀ (s : Shared) (H : Hp) (C : Addr) (cl : List (Str × Addr)) (fp : List Addr), Txs (X.blk s H scope (compEnvC scope cl C X.env) fp) W0 ifs fi)
    (he : ∀ (s : Shared) (H : Hp) (C : Addr) (cl : List (Str × Addr)) (fp : List Addr), Ex (X.blk s H scope (compEnvC scope cl C X.env) fp) W0 elt fe) (hc : X.calm = true := by rfl) (hs : ∀ x, foldedSetIterable iter X.env x = pure x := by intro _; rfl) :
    Fx X W (.ListComp elt [⟨tg, iter, ifs, 0⟩] scope pos) (compE (own.map (·.2)) it t fi fe) := by
  refine PE.imp (pe_lc (g := tgR X.K t) (tt := tB_ X.K X.mg W0 fi) (te := tE X.K X.mg W0 fe) hc hN hi ok hg ht he hs) fun σ H Q ⟨ε, F, re, q⟩ => ⟨ε, F, re, ?_⟩
  exact lc_read re hsl q
/-! two for -/
def comp2L (t : Tg) (fi : Env → R Bool) (it1 : Env → R (List D)) (vs1 : List Nat) (t1 : Tg) (fi1 : Env → R Bool) (fe : Env → R D) (ε : Env) : List D → R (List D)
  | [] => .ok []
  | d :: ds => (flatT t d).hard >>= fun as => (fi (setE ε as)).hard >>= fun b =>
    if b = true then (it1 (setE ε as)).hard >>= fun es => compL t1 fi1 fe (wipeE (setE ε as) vs1) es >>= fun ys => comp2L t fi it1 vs1 t1 fi1 fe ε ds >>= fun zs => .ok (ys ++ zs) else comp2L t fi it1 vs1 t1 fi1 fe ε ds
/-- [elt for t in it if fi for t1 in it1 if fi1] -/
def comp2E (vs vs1 : List Nat) (it : Env → R (List D)) (t : Tg) (fi : Env → R Bool) (it1 : Env → R (List D)) (t1 : Tg) (fi1 : Env → R Bool) (fe : Env → R D) : Env → R (List D) := fun ε => it ε >>= fun ds =>
  (comp2L t fi it1 vs1 t1 fi1 fe (wipeE ε vs) ds).hard >>= fun tot => if tot.length ≤ 16777216 then .ok tot else .stuck
/-- an inner loop of a comprehension -/
theorem lc_in {J : It} {n : Nat} {G : Hp → Prop} {Y : Nat → Hp → V → Hp → Prop} (w : Walk J n G Y) {g : TG} {tt : TT} {te : TE} {vs : List Nat} {σ : L2.St} {H1 : Hp} {Dd : Addr} {Qd : Hp → Prop} (Pv : Nat → Hp → Prop) (h0 : Pv 0 H1) (hG : ∀ i H, i ≤ n → Pv i H → G H)
    (hs : ∀ i x H H', i < n → Pv i H → Y i H x H' → g x (wipe σ vs) H' fun σ2 H2 => wipe σ2 vs = wipe σ vs ∧ tt σ2 H2 fun b H3 => if b = true then te σ2 H3 fun y H4 => ∃ acc, H4 Dd = some (.lst acc) ∧ acc.length < sizeLine ∧ Pv (i + 1) (upd H4 Dd (.lst (acc ++ [y]))) else Pv (i + 1) H3)
    (hd : ∀ H, Pv n H → Qd H) :
    ∃ W : Nat → Nat → Hp → Prop, (∃ m, W 0 m H1) ∧ ∀ i m H, W i m H → (J.stop i H ∧ Qd H) ∨ (J.go i H ∧ ∃ Nx : Hp → Prop, (∀ H', Nx H' → ∃ m', m' < m ∧ W (i + 1) m' H') ∧ ∀ x H', J.yld i H x H' → g x (wipe σ vs) H' fun σ2 H2 => wipe σ2 vs = wipe σ vs ∧ tt σ2 H2 fun b H3 =>
        if b = true then te σ2 H3 fun y H4 => ∃ acc, H4 Dd = some (.lst acc) ∧ acc.length < sizeLine ∧ Nx (upd H4 Dd (.lst (acc ++ [y]))) else Nx H3) := by
  refine ⟨fun i m H => m = n - i ∧ i ≤ n ∧ Pv i H, ⟨n, by simp, Nat.zero_le _, h0⟩, ?_⟩
  intro i m H ⟨hm, hi, p⟩
  subst hm
  have q := hG i H hi p
  by_cases hlt : i < n
  · exact .inr ⟨w.goes i H hlt q, Pv (i + 1), fun H' p' => ⟨n - (i + 1), by omega, rfl, hlt, p'⟩, fun x H' y => hs i x H H' hlt p (w.yields i H x H' hlt q y)⟩
  · have e : i = n := by omega
    subst e
    exact .inl ⟨w.stops H q, hd H p⟩
theorem RE.of_set {K : PySem.W.Frag} {σ : L2.St} {ε : Env} {H : Hp} {F : Addr → Prop} (re : RE K σ ε H F) : RE K σ ε H F := re
theorem lc2_read {K : PySem.W.Frag} {mg : Str → Option Value} {it it1 : Env → R (List D)} {t t1 : Tg} {fi fi1 : Env → R Bool} {fe : Env → R D} {vs vs1 : List Nat} {σ : L2.St} {H : Hp} {F : Addr → Prop} {ε : Env} {Q : VK} {E : Exn → Prop} (re : RE K σ ε H F) (hsl : ∀ i ∈ slotsT t, i ∈ vs) (hsl1 : ∀ i ∈ slotsT t1, i ∈ vs1)
    (q : (comp2E vs vs1 it t fi it1 t1 fi1 fe ε).wp (FinL K H F Q) E) :
    (it ε).wp (fun ds => ∀ J H1 F1, Grow H F H1 F1 → WalkD K J H1 F1 ds → ds.length ≤ sizeLine → ∀ Dd, H1 Dd = none → ∃ W : Nat → Nat → Hp → Prop, (∃ m, W 0 m (upd H1 Dd (.lst []))) ∧ ∀ i m H, W i m H →
      (J.stop i H ∧ Q (.ref Dd) H) ∨ (J.go i H ∧ ∃ Nx : Hp → Prop, (∀ H', Nx H' → ∃ m', m' < m ∧ W (i + 1) m' H') ∧ ∀ x H', J.yld i H x H' → tgR K t x (wipe σ vs) H' fun σ2 H2 => wipe σ2 vs = wipe σ vs ∧ tB_ K mg W0 fi σ2 H2 fun b H3 =>
        if b = true then tI K mg W0 it1 σ2 H3 fun J1 H4 => ∃ W1 : Nat → Nat → Hp → Prop, (∃ m, W1 0 m H4) ∧ ∀ j k H, W1 j k H →
          (J1.stop j H ∧ Nx H) ∨ (J1.go j H ∧ ∃ Nx1 : Hp → Prop, (∀ H', Nx1 H' → ∃ k', k' < k ∧ W1 (j + 1) k' H') ∧ ∀ x H', J1.yld j H x H' → tgR K t1 x (wipe σ2 vs1) H' fun σ3 H5 => wipe σ3 vs1 = wipe σ2 vs1 ∧ tB_ K mg W0 fi1 σ3 H5 fun b H6 =>
            if b = true then tE K mg W0 fe σ3 H6 fun y H7 => ∃ acc, H7 Dd = some (.lst acc) ∧ acc.length < sizeLine ∧ Nx1 (upd H7 Dd (.lst (acc ++ [y]))) else Nx1 H6)
        else Nx H3)) E := by
  refine R.wp_mono (R.wp_bind q) (fun ds k J H1 F1 g1 ⟨G, Y, wk, wG, wY⟩ hz Dd hD => ?_) (fun e k => k)
  obtain ⟨tot, etot, k⟩ := wp_hard k
  obtain ⟨htot, k⟩ := ite_wp (x := R.ok _) k
  have htot' : tot.length ≤ sizeLine := le_line htot
  have reb := (re.grow g1).wipe vs
  have nD : ¬ F1 Dd := fun f => by
    obtain ⟨u, e⟩ := g1.ok Dd f
    rw [hD] at e; cases e
  refine ⟨fun i m H2 => m = ds.length - i ∧ i ≤ ds.length ∧ ∃ F2 ws done rest, Grow H1 F1 H2 F2 ∧ H2 Dd = some (.lst ws) ∧ ¬ F2 Dd ∧ DenL K H2 F2 ws done ∧ comp2L t fi it1 vs1 t1 fi1 fe (wipeE ε vs) (ds.drop i) = .ok rest ∧ done ++ rest = tot,
    ⟨ds.length, by simp, Nat.zero_le _, F1, [], [], tot, grow_new g1.ok hD, upd_same, nD, .nil, by rw [List.drop_zero]; exact etot, rfl⟩, ?_⟩
  intro i m H2 ⟨hm, hi, F2, ws, done, rest, g2, e1, e2, e3, e4, e5⟩
  subst hm
  by_cases hlt : i < ds.length
  case neg =>
    have : i = ds.length := by omega
    subst this
    refine .inl ⟨wk.stops H2 (wG H2 F2 g2.pres), ?_⟩
    rw [List.drop_length] at e4
    unfold comp2L at e4
    cases e4
    rw [List.append_nil] at e5
    subst e5
    exact k Dd ws H2 F2 (g1.trans g2) (g1.back hD) e1 e2 e3 (by rw [e3.length]; exact htot')
  refine .inr ⟨wk.goes i H2 hlt (wG H2 F2 g2.pres), fun H3 => ∃ F3 ws done rest, Grow H1 F1 H3 F3 ∧ H3 Dd = some (.lst ws) ∧ ¬ F3 Dd ∧ DenL K H3 F3 ws done ∧ comp2L t fi it1 vs1 t1 fi1 fe (wipeE ε vs) (ds.drop (i + 1)) = .ok rest ∧ done ++ rest = tot,
    fun H' h => ⟨ds.length - (i + 1), by omega, rfl, hlt, h⟩, fun x H3 yx => ?_⟩
  obtain ⟨d, ed, g3, dx⟩ := wY i H2 F2 x H3 hlt g2.pres g2.ok (wk.yields i H2 x H3 hlt (wG H2 F2 g2.pres) yx)
  rw [drop_get ed] at e4
  unfold comp2L at e4
  obtain ⟨as, a1, e4⟩ := hard_bind e4
  obtain ⟨b, a2, e4⟩ := hard_bind e4
  have e1' := g3.same _ _ e1
  have re2 := fun {us : List (Nat × V)} (p : PairD K H3 F2 us as) => (reb.grow (g2.trans g3)).setAll p
  refine tg_run t x d as _ _ dx a1 fun us p => ⟨?_, setE (wipeE ε vs) as, F2, re2 p, ?_⟩
  · rw [wipe_setV, wipe_wipe]
    intro q hq
    obtain ⟨r, hr, e⟩ := p.slots q hq
    rw [← e]
    exact hsl _ (flat_slots t d as a1 r hr)
  rw [a2]
  intro H4 F4 g4
  cases b with
  | false =>
    rw [if_neg (by decide)] at e4 ⊢
    exact ⟨F4, ws, done, rest, g2.trans (g3.trans g4), g4.same _ _ e1', g4.notF e1' e2, e3.grow (g3.trans g4), e4, e5⟩
  | true =>
    rw [if_pos rfl] at e4 ⊢
    obtain ⟨es, a3, e4⟩ := hard_bind e4
    obtain ⟨ys, a4, e4⟩ := ok_bind' e4
    obtain ⟨zs, a5, e4⟩ := ok_bind' e4
    cases e4
    refine ⟨_, F4, (re2 p).grow g4, ?_⟩
    rw [a3]
    intro J1 H5 F5 g5 ⟨G1, Y1, wk1, wG1, wY1⟩ hz1
    have g05 := g2.trans (g3.trans (g4.trans g5))
    have e15 := (g4.trans g5).same _ _ e1'
    have n5 := (g4.trans g5).notF e1' e2
    have re5 := (((re2 p).grow g4).grow g5).wipe vs1
    refine lc_in wk1 (fun j H6 => ∃ F6 ws' done' rest', Grow H1 F1 H6 F6 ∧ Pres H5 F5 H6 F6 ∧ H6 Dd = some (.lst ws') ∧ ¬ F6 Dd ∧ DenL K H6 F6 ws' done' ∧ compL t1 fi1 fe (wipeE (setE (wipeE ε vs) as) vs1) (es.drop j) = .ok rest' ∧ done' ++ (rest' ++ zs) = tot) ?_ ?_ ?_ ?_
    · exact ⟨F5, ws, done, ys, g05, .refl, e15, n5, e3.grow (g3.trans (g4.trans g5)), by rw [List.drop_zero]; exact a4, e5⟩
    · intro j H6 hj ⟨F6, ws', done', rest', _, p6, _⟩
      exact wG1 H6 F6 p6
    · intro j x1 H6 H7 hj ⟨F6, ws', done', rest', g6, p6, b1, b2, b3, b4, b5⟩ yy
      obtain ⟨d1, ed1, g7, dx1⟩ := wY1 j H6 F6 x1 H7 hj p6 g6.ok yy
      rw [drop_get ed1] at b4
      have b1' := g7.same _ _ b1
      have re7 : RE K (wipe (setV (wipe σ vs) us) vs1) (wipeE (setE (wipeE ε vs) as) vs1) H7 F6 := ⟨fun i d e => by
        obtain ⟨v, h1, h2⟩ := re5.at_ i d e
        exact ⟨v, h1, (h2.pres p6).grow g7⟩, g7.ok, re5.len⟩
      refine comp_turn (ds := es.drop (j + 1)) re7 dx1 hsl1 b4 (fun yd ys' er ec v H8 F8 g8 dv => ?_) fun ec H8 F8 g8 => ?_
      · have b1'' := g8.same _ _ b1'
        have nf := g8.notF b1' b2
        have p8 := pres_upd (o := .lst (ws' ++ [v])) b1'' nf
        have lb : ws'.length < sizeLine := by
          rw [b3.length]
          have : tot.length = done'.length + (rest'.length + zs.length) := by rw [← b5]; simp
          rw [er, List.length_cons] at this
          omega
        refine ⟨ws', b1'', lb, F8, ws' ++ [v], done' ++ [yd], ys', grow_upd (g6.trans (g7.trans g8)) hD, p6.trans ((g7.trans g8).pres.trans p8), upd_same, nf, ((b3.grow (g7.trans g8)).append (.cons dv .nil)).pres p8, ec, ?_⟩
        rw [← b5, er, List.append_assoc]; rfl
      · exact ⟨F8, ws', done', rest', g6.trans (g7.trans g8), p6.trans (g7.trans g8).pres, g8.same _ _ b1', g8.notF b1' b2, b3.grow (g7.trans g8), ec, b5⟩
    · intro H6 ⟨F6, ws', done', rest', g6, p6, b1, b2, b3, b4, b5⟩
      rw [List.drop_length] at b4
      unfold compL at b4
      cases b4
      exact ⟨F6, ws', done', zs, g6, b1, b2, b3, a5, b5⟩
theorem fx_lc2 {elt tg iter tg1 iter1 : Expr} {ifs ifs1 : List Expr} {scope : Scope} {own : List (Str × Nat)} {vs1 : List Nat} {pos : Pos} {it it1 : Env → R (List D)} {t t1 : Tg} {fi fi1 : Env → R Bool} {fe : Env → R D} (hN : X.N.Nodup) (hi : Ix X W tg iter it) (ok : BlkOk X.N X.env.scope scope own) (hv : ∀ i ∈ vs1, i ∈ own.map (·.2))
    (hsl : ∀ i ∈ slotsT t, i ∈ own.map (·.2)) (hsl1 : ∀ i ∈ slotsT t1, i ∈ vs1)
    (hg : ∀ (s : Shared) (H : Hp) (C : Addr) (cl : List (Str × Addr)) (fp : List Addr), Gx (X.blk s H scope (compEnvC scope cl C X.env) fp) tg t) (ht : ∀ (s : Shared) (H : Hp) (C : Addr) (cl : List (Str × Addr)) (fp : List Addr), Txs (X.blk s H scope (compEnvC scope cl C X.env) fp) W0 ifs fi)
    (hi1 : ∀ (s : Shared) (H : Hp) (C : Addr) (cl : List (Str × Addr)) (fp : List Addr), Ix (X.blk s H scope (compEnvC scope cl C X.env) fp) W0 tg1 iter1 it1)
    (hg1 : ∀ (s : Shared) (H : Hp) (C : Addr) (cl : List (Str × Addr)) (fp : List Addr), Gx (X.blk s H scope (compEnvC scope cl C X.env) fp) tg1 t1) (ht1 : ∀ (s : Shared) (H : Hp) (C : Addr) (cl : List (Str × Addr)) (fp : List Addr), Txs (X.blk s H scope (compEnvC scope cl C X.env) fp) W0 ifs1 fi1)
    (he : ∀ (s : Shared) (H : Hp) (C : Addr) (cl : List (Str × Addr)) (fp : List Addr), Ex (X.blk s H scope (compEnvC scope cl C X.env) fp) W0 elt fe) (hc : X.calm = true := by rfl) (hs : ∀ x, foldedSetIterable iter X.env x = pure x := by intro _; rfl) (hs1 : ∀ env x, foldedSetIterable iter1 env x = pure x := by intro _ _; rfl) :
    Fx X W (.ListComp elt [⟨tg, iter, ifs, 0⟩, ⟨tg1, iter1, ifs1, 0⟩] scope pos) (comp2E (own.map (·.2)) vs1 it t fi it1 t1 fi1 fe) := by
  refine PE.imp (pe_lc2 (g := tgR X.K t) (tt := tB_ X.K X.mg W0 fi) (g1 := tgR X.K t1) (tt1 := tB_ X.K X.mg W0 fi1) (wi1 := tI X.K X.mg W0 it1) (te := tE X.K X.mg W0 fe) hc hN hi ok hv hg ht hi1 hg1 ht1 he hs hs1) fun σ H Q ⟨ε, F, re, q⟩ => ⟨ε, F, re, ?_⟩
  exact lc2_read re hsl hsl1 q
/-! ### calls of the program's own defs -/
def spD (K : PySem.W.Frag) (mg : Str → Option Value) (n : Nat) (S : List D → R D) : Sp := fun vs H Q E => vs.length = n ∧ ∃ ds F, FOk H F ∧ DenL K H F vs ds ∧
  (S ds).wp (Fin1 K H F Q) fun e => ∀ cls x H' F', Grow H F H' F' → ExnOf mg e cls x H' → E cls x H'
/-- the def that the module's name x holds computes S of n arguments -/
def Cal (P : Program) (w : World) (K : PySem.W.Frag) (mg : Str → Option Value) (base : Heap) (k : Nat) (x : Str) (n : Nat) (S : List D → R D) : Prop :=
  ∃ f fd ps, mg x = some (.ref f) ∧ PySem.W.keepIn K (.ref f) = true ∧ Binds K fd ps [] ∧ ps.length = n ∧ FnOk P w K mg base (L2.CX P w) k f fd ps (spD K mg n S)
def usrE (S : List D → R D) (fs : List (Env → R D)) : Env → R D := fun ε => evL fs ε >>= S
theorem ex_usr {x : Str} {p pos : Pos} {e : Expr} {es : List Expr} {fs : List (Env → R D)} {S : List D → R D} {j k n : Nat} (C : Cal X.prog X.w X.K X.mg X.base k x n S) (hr : Room j X.A) (hk : k ≤ j) (tk : Takes X W) (ha : Exs X W (e :: es) fs) (hn : fs.length = n := by rfl) (hg : Gl X x := by rfl)
    (hdb : (x == ("__debug__" : Str)) = false := by decide) (he : starEach (e :: es) X.env = (false, eval e X.env) :: starEach es X.env := by rfl) (hpl : (backTo pos (starEach es X.env)).any (·.1) = false := by rfl) : Ex X W (.Call (.Name x p) (e :: es) [] pos) (usrE S fs) := by
  obtain ⟨f, fd, ps, h1, h2, h3, h4, F⟩ := C
  refine PE.imp (pe_callS F (hr.mono hk) hg h1 h2 h3 (passAt tk) ha hdb he hpl) fun σ H Q ⟨ε, F, re, q⟩ => ⟨ε, F, re, ?_⟩
  refine R.wp_mono (evL_len (R.wp_bind q)) (fun ds ⟨hl, k⟩ vs H1 F1 g1 d1 => ?_) (fun e k => k)
  refine ⟨by rw [d1.length, hl, hn], ds, F1, g1.ok, d1, R.wp_mono k (fun d k => fin_grow g1 k) fun e k cls x H' F' g => k cls x H' F' (g1.trans g)⟩
/-- a def that answers a new list -/
def spL (K : PySem.W.Frag) (mg : Str → Option Value) (n : Nat) (S : List D → R (List D)) : Sp := fun vs H Q E => vs.length = n ∧ ∃ ds F, FOk H F ∧ DenL K H F vs ds ∧
  (S ds).wp (FinL K H F Q) fun e => ∀ cls x H' F', Grow H F H' F' → ExnOf mg e cls x H' → E cls x H'
def CalL (P : Program) (w : World) (K : PySem.W.Frag) (mg : Str → Option Value) (base : Heap) (k : Nat) (x : Str) (n : Nat) (S : List D → R (List D)) : Prop :=
  ∃ f fd ps, mg x = some (.ref f) ∧ PySem.W.keepIn K (.ref f) = true ∧ Binds K fd ps [] ∧ ps.length = n ∧ FnOk P w K mg base (L2.CX P w) k f fd ps (spL K mg n S)
def usrF (S : List D → R (List D)) (fs : List (Env → R D)) : Env → R (List D) := fun ε => evL fs ε >>= S
theorem fx_usr {x : Str} {p pos : Pos} {e : Expr} {es : List Expr} {fs : List (Env → R D)} {S : List D → R (List D)} {j k n : Nat} (C : CalL X.prog X.w X.K X.mg X.base k x n S) (hr : Room j X.A) (hk : k ≤ j) (tk : Takes X W) (ha : Exs X W (e :: es) fs) (hn : fs.length = n := by rfl) (hg : Gl X x := by rfl)
    (hdb : (x == ("__debug__" : Str)) = false := by decide) (he : starEach (e :: es) X.env = (false, eval e X.env) :: starEach es X.env := by rfl) (hpl : (backTo pos (starEach es X.env)).any (·.1) = false := by rfl) : Fx X W (.Call (.Name x p) (e :: es) [] pos) (usrF S fs) := by
  obtain ⟨f, fd, ps, h1, h2, h3, h4, F⟩ := C
  refine PE.imp (pe_callS F (hr.mono hk) hg h1 h2 h3 (passAt tk) ha hdb he hpl) fun σ H Q ⟨ε, F, re, q⟩ => ⟨ε, F, re, ?_⟩
  refine R.wp_mono (evL_len (R.wp_bind q)) (fun ds ⟨hl, k⟩ vs H1 F1 g1 d1 => ?_) (fun e k => k)
  refine ⟨by rw [d1.length, hl, hn], ds, F1, g1.ok, d1, R.wp_mono k (fun d k => finL_grow g1 k) fun e k cls x H' F' g => k cls x H' F' (g1.trans g)⟩
def usr0 (S : List D → R D) : Env → R D := fun _ => (S []).hard
theorem ex_usr0 {x : Str} {p pos : Pos} {S : List D → R D} {j k : Nat} (C : Cal X.prog X.w X.K X.mg X.base k x 0 S) (hr : Room j X.A) (hk : k ≤ j) (hg : Gl X x := by rfl) (hdb : (x == ("__debug__" : Str)) = false := by decide) (hx : Passes (L2.CX X.prog X.w) X E0 := by exact passL) : Ex X W (.Call (.Name x p) [] [] pos) (usr0 S) := by
  obtain ⟨f, fd, ps, h1, h2, h3, h4, F⟩ := C
  refine PE.imp (pe_call0 F (hr.mono hk) hg h1 h2 h3 .nil hx hdb) fun σ H Q ⟨ε, F, re, q⟩ => ?_
  exact ⟨rfl, [], F, re.ok, .nil, by
    unfold usr0 at q
    cases e : S [] with
    | ok d => rw [e] at q; exact q
    | exn _ => rw [e] at q; exact q.elim
    | stuck => rw [e] at q; exact q.elim⟩
end
end RB

set_option Elab.async false
set_option linter.all false
set_option maxRecDepth 100000
set_option maxHeartbeats 4000000
namespace RB
open PySem PySem.Spec PyProof.Rows L2

/-! ### the slots of a def: data, or a list of its own that it changes -/
inductive Sl where
  | un
  | da (d : D)
  | ol (ds : List D)
  | od (t : Bool) (kvs : List (D × D))
def markT (t : Bool) (kvs : List (D × D)) : List (D × D) := if t = true then (.none, .none) :: kvs else kvs
abbrev Gam := List Sl
inductive Fl where
  | nx (Γ : Gam)
  | rt (d : D)
  | rl (ds : List D)
  | bk (Γ : Gam)
  | ct (Γ : Gam)
  | xn (e : Exn) (Γ : Gam)
def viewF (L : List Nat) : Nat → Gam → Env
  | _, [] => []
  | k, .un :: r => none :: viewF L (k + 1) r
  | k, .da d :: r => some d :: viewF L (k + 1) r
  | k, .ol ds :: r => (if k ∈ L then some (.list ds) else none) :: viewF L (k + 1) r
  | k, .od t kvs :: r => (if k ∈ L then some (.dict (markT t kvs)) else none) :: viewF L (k + 1) r
/-- what an expression sees: the data, and the own lists at L -/
abbrev view (L : List Nat) (Γ : Gam) : Env := viewF L 0 Γ
def frzF (L : List Nat) : Nat → Gam → Gam
  | _, [] => []
  | k, .un :: r => .un :: frzF L (k + 1) r
  | k, .da d :: r => .da d :: frzF L (k + 1) r
  | k, .ol ds :: r => (if k ∈ L then .da (.list ds) else .ol ds) :: frzF L (k + 1) r
  | k, .od t kvs :: r => (if k ∈ L then .da (.dict (markT t kvs)) else .od t kvs) :: frzF L (k + 1) r
/-- the own lists at L are data from now on -/
abbrev freeze (L : List Nat) (Γ : Gam) : Gam := frzF L 0 Γ
mutual
/-- no list within: nothing that may be changed -/
def noLst : D → Bool
  | .none | .bool _ | .int _ | .str _ => true
  | .tuple xs => noLsts xs
  | .list _ | .dict _ => false
def noLsts : List D → Bool
  | [] => true
  | x :: xs => noLst x && noLsts xs
end
mutual
theorem Den.free {K : PySem.W.Frag} {H : Hp} {F F' : Addr → Prop} : ∀ {v : V} {d : D}, Den K H F v d → noLst d = true → Den K H F' v d
  | _, _, .non, _ => .non
  | _, _, .bl b, _ => .bl b
  | _, _, .int i, _ => .int i
  | _, _, .str x h, _ => .str x h
  | _, _, .tup h hs z, n => .tup h (DenL.free hs (by unfold noLst at n; exact n)) z
  | _, _, .lst _ _ _, n => by unfold noLst at n; cases n
  | _, _, .dK _ _, n => by unfold noLst at n; cases n
  | _, _, .dT _ _, n => by unfold noLst at n; cases n
theorem DenL.free {K : PySem.W.Frag} {H : Hp} {F F' : Addr → Prop} : ∀ {vs : List V} {ds : List D}, DenL K H F vs ds → noLsts ds = true → DenL K H F' vs ds
  | _, _, .nil, _ => .nil
  | _, _, .cons h hs, n => by
    unfold noLsts at n
    rw [Bool.and_eq_true] at n
    exact .cons (Den.free h n.1) (DenL.free hs n.2)
end
theorem viewF_get {L : List Nat} : ∀ {Γ : Gam} {k i : Nat}, (viewF L k Γ)[i]? = (Γ[i]?).map fun s => match s with
    | .un => none
    | .da d => some d
    | .ol ds => if k + i ∈ L then some (.list ds) else none
    | .od t kvs => if k + i ∈ L then some (.dict (markT t kvs)) else none
  | [], k, i => rfl
  | s :: r, k, 0 => by cases s <;> rfl
  | s :: r, k, i + 1 => by
    have h := viewF_get (L := L) (Γ := r) (k := k + 1) (i := i)
    have e : k + 1 + i = k + (i + 1) := by omega
    rw [e] at h
    cases s <;> exact h
theorem frzF_get {L : List Nat} : ∀ {Γ : Gam} {k i : Nat}, (frzF L k Γ)[i]? = (Γ[i]?).map fun s => match s with
    | .un => Sl.un
    | .da d => .da d
    | .ol ds => if k + i ∈ L then .da (.list ds) else .ol ds
    | .od t kvs => if k + i ∈ L then .da (.dict (markT t kvs)) else .od t kvs
  | [], k, i => rfl
  | s :: r, k, 0 => by cases s <;> rfl
  | s :: r, k, i + 1 => by
    have h := frzF_get (L := L) (Γ := r) (k := k + 1) (i := i)
    have e : k + 1 + i = k + (i + 1) := by omega
    rw [e] at h
    cases s <;> exact h
theorem viewF_len {L : List Nat} : ∀ {Γ : Gam} {k : Nat}, (viewF L k Γ).length = Γ.length
  | [], _ => rfl
  | s :: r, k => by cases s <;> (unfold viewF; rw [List.length_cons, List.length_cons, viewF_len])
theorem frzF_len {L : List Nat} : ∀ {Γ : Gam} {k : Nat}, (frzF L k Γ).length = Γ.length
  | [], _ => rfl
  | s :: r, k => by cases s <;> (unfold frzF; rw [List.length_cons, List.length_cons, frzF_len])

/-- the object of an own thing -/
def DctO : Bool → HO → List (D × D) → List V → Prop
  | false, u, kvs, vs => ∃ ks : List (Key × V), u = .dK ks ∧ vs = ks.map (·.2) ∧ kvs.map (·.1) = ks.map fun p => keyD p.1
  | true, u, kvs, vs => ∃ ks : List (List Key × V), u = .dT ks ∧ vs = ks.map (·.2) ∧ kvs.map (·.1) = ks.map fun p => .tuple (p.1.map keyD)
def OwO : Sl → HO → List V → Prop
  | .ol _, u, vs => u = .lst vs ∧ vs.length ≤ sizeLine
  | .od t kvs, u, vs => DctO t u kvs vs
  | _, _, _ => False
def owL : Sl → List D
  | .ol ds => ds
  | .od _ kvs => kvs.map (·.2)
  | _ => []
def isOw : Sl → Bool
  | .ol _ => true
  | .od _ _ => true
  | _ => false
def OwR (K : PySem.W.Frag) (H : Hp) (F : Addr → Prop) (o : Option V) (s : Sl) : Prop := ∃ a u vs, o = some (.ref a) ∧ H a = some u ∧ ¬ F a ∧ OwO s u vs ∧ DenL K H F vs (owL s)
def SlR (K : PySem.W.Frag) (H : Hp) (F : Addr → Prop) (o : Option V) : Sl → Prop
  | .un => True
  | .da d => ∃ v, o = some v ∧ Den K H F v d
  | .ol ds => OwR K H F o (.ol ds)
  | .od t kvs => OwR K H F o (.od t kvs)
theorem SlR.ow {K : PySem.W.Frag} {H : Hp} {F : Addr → Prop} {o : Option V} {s : Sl} (h : SlR K H F o s) (i : isOw s = true) : OwR K H F o s := by
  cases s with
  | un => cases i
  | da d => cases i
  | ol ds => exact h
  | od t kvs => exact h
theorem OwR.sl {K : PySem.W.Frag} {H : Hp} {F : Addr → Prop} {o : Option V} {s : Sl} (h : OwR K H F o s) : SlR K H F o s := by
  cases s with
  | un => trivial
  | da d => obtain ⟨_, _, _, _, _, _, z, _⟩ := h; exact z.elim
  | ol ds => exact h
  | od t kvs => exact h
theorem zip_fst {ks : List D} {kvs : List (D × D)} (h : kvs.map (·.1) = ks) : ks.zip (kvs.map (·.2)) = kvs := by
  subst h
  induction kvs with
  | nil => rfl
  | cons p kvs ih => rw [List.map_cons, List.map_cons, List.zip_cons_cons, ih]
/-- what an own thing is as data -/
def owD : Sl → D
  | .ol ds => .list ds
  | .od t kvs => .dict (markT t kvs)
  | _ => .none
theorem OwO.den {K : PySem.W.Frag} {H : Hp} {F : Addr → Prop} {s : Sl} {u : HO} {vs : List V} {a : Addr} (h : OwO s u vs) (hd : DenL K H F vs (owL s)) (ha : H a = some u) (hf : F a) : Den K H F (.ref a) (owD s) := by
  cases s with
  | un => exact h.elim
  | da d => exact h.elim
  | ol ds =>
    obtain ⟨rfl, hz⟩ := h
    exact .lst (.inl (.inl ⟨ha, hf⟩)) hd hz
  | od t kvs =>
    cases t with
    | false =>
      obtain ⟨ks, rfl, rfl, e⟩ := h
      have q := Den.dK (K := K) (.inl ⟨ha, hf⟩) hd
      have e2 : (ks.map fun p => keyD p.1).zip (owL (.od false kvs)) = markT false kvs := zip_fst e
      rw [e2] at q
      exact q
    | true =>
      obtain ⟨ks, rfl, rfl, e⟩ := h
      have q := Den.dT (K := K) (.inl ⟨ha, hf⟩) hd
      have e2 : (ks.map fun p => PyData.tuple (p.1.map keyD)).zip (owL (.od true kvs)) = kvs := zip_fst e
      rw [e2] at q
      exact q
theorem pres_updG {H : Hp} {F : Addr → Prop} {p : Addr} {u o : HO} (h : H p = some u) (n1 : ∀ xs, u ≠ .tup xs) (n2 : ∀ q v, u ≠ .frz q v) (nf : ¬ F p) : Pres H F (L2.upd H p o) F :=
  ⟨fun a xs e => by rw [upd_ne (fun z => by rw [z, h] at e; cases e; exact n1 _ rfl)]; exact e, fun a o' u e => by rw [upd_ne (fun z => by rw [z, h] at e; cases e; exact n2 _ _ rfl)]; exact e,
    fun a u f e => ⟨f, by rw [upd_ne (fun (z : a = p) => nf (z ▸ f))]; exact e⟩⟩
theorem OwO.upd {H : Hp} {F : Addr → Prop} {p : Addr} {s : Sl} {u o : HO} {vs : List V} (k : OwO s u vs) (h : H p = some u) (nf : ¬ F p) : Pres H F (L2.upd H p o) F := by
  refine pres_updG h (fun xs z => ?_) (fun q v z => ?_) nf
  · cases s with
    | un => exact k.elim
    | da d => exact k.elim
    | ol ds => rw [k.1] at z; cases z
    | od t kvs => cases t <;> (obtain ⟨ks, e, _⟩ := k; rw [e] at z; cases z)
  · cases s with
    | un => exact k.elim
    | da d => exact k.elim
    | ol ds => rw [k.1] at z; cases z
    | od t kvs => cases t <;> (obtain ⟨ks, e, _⟩ := k; rw [e] at z; cases z)
def OwnAt (σ : L2.St) (Γ : Gam) (i : Nat) (a : Addr) : Prop := σ[i]? = some (some (.ref a)) ∧ ∃ s, Γ[i]? = some s ∧ isOw s = true
structure Rel (K : PySem.W.Frag) (H0 : Hp) (F0 : Addr → Prop) (σ : L2.St) (Γ : Gam) (H : Hp) (F : Addr → Prop) : Prop where
  len : σ.length = Γ.length
  at_ : ∀ (i : Nat) (s : Sl), Γ[i]? = some s → ∃ o, σ[i]? = some o ∧ SlR K H F o s
  dist : ∀ i j a, OwnAt σ Γ i a → OwnAt σ Γ j a → i = j
  new : ∀ i a, OwnAt σ Γ i a → H0 a = none
  gr : Grow H0 F0 H F
/-- F and the own lists at L -/
def FL (F : Addr → Prop) (σ : L2.St) (Γ : Gam) (L : List Nat) : Addr → Prop := fun a => F a ∨ ∃ i, i ∈ L ∧ OwnAt σ Γ i a
/-- F without them -/
def FM (F : Addr → Prop) (σ : L2.St) (Γ : Gam) (L : List Nat) : Addr → Prop := fun a => F a ∧ ¬ ∃ i, i ∈ L ∧ OwnAt σ Γ i a
section
variable {K : PySem.W.Frag} {H0 H H' : Hp} {F0 F F' : Addr → Prop} {σ : L2.St} {Γ : Gam} {L : List Nat}
theorem Rel.own (r : Rel K H0 F0 σ Γ H F) {i : Nat} {a : Addr} (o : OwnAt σ Γ i a) : ∃ s u vs, Γ[i]? = some s ∧ isOw s = true ∧ H a = some u ∧ ¬ F a ∧ OwO s u vs ∧ DenL K H F vs (owL s) := by
  obtain ⟨o1, s, o2, o3⟩ := o
  obtain ⟨o, e, hs⟩ := r.at_ i _ o2
  obtain ⟨b, u, vs, e1, e2, e3, e4, e5⟩ := hs.ow o3
  rw [o1] at e; cases e
  cases e1
  exact ⟨s, u, vs, o2, o3, e2, e3, e4, e5⟩
theorem Rel.view (r : Rel K H0 F0 σ Γ H F) (L : List Nat) : RE K σ (view L Γ) H (FL F σ Γ L) ∧ Grow H0 F0 H (FL F σ Γ L) := by
  have ok : FOk H (FL F σ Γ L) := fun a f => by
    rcases f with f | ⟨i, _, o⟩
    · exact r.gr.ok a f
    · obtain ⟨_, u, _, _, _, e, _⟩ := r.own o
      exact ⟨_, e⟩
  have pr : Pres H F H (FL F σ Γ L) := ⟨fun _ _ h => h, fun _ _ _ h => h, fun a u f h => ⟨.inl f, h⟩⟩
  refine ⟨⟨fun i d e => ?_, ok, by rw [viewF_len, r.len]; exact Nat.le_refl _⟩, r.gr.same, fun a f => .inl (r.gr.fro a f), fun a f => ?_, ok⟩
  · rw [viewF_get] at e
    cases q : Γ[i]? with
    | none => rw [q] at e; cases e
    | some s =>
      rw [q] at e
      obtain ⟨o, e1, hs⟩ := r.at_ i s q
      cases s with
      | un => cases e
      | da d' =>
        cases e
        obtain ⟨v, e2, hd⟩ := hs
        subst e2
        exact ⟨v, e1, hd.pres pr⟩
      | ol ds =>
        by_cases hL : 0 + i ∈ L
        · simp only [Option.map_some, if_pos hL] at e
          cases e
          obtain ⟨a, u, vs, e2, e3, e4, e6, e5⟩ := hs
          subst e2
          exact ⟨.ref a, e1, e6.den (e5.pres pr) e3 (.inr ⟨i, by simpa using hL, e1, _, q, rfl⟩)⟩
        · simp only [Option.map_some, if_neg hL] at e
          cases e
      | od t kvs =>
        by_cases hL : 0 + i ∈ L
        · simp only [Option.map_some, if_pos hL] at e
          cases e
          obtain ⟨a, u, vs, e2, e3, e4, e6, e5⟩ := hs
          subst e2
          exact ⟨.ref a, e1, e6.den (e5.pres pr) e3 (.inr ⟨i, by simpa using hL, e1, _, q, rfl⟩)⟩
        · simp only [Option.map_some, if_neg hL] at e
          cases e
  · rcases f with f | ⟨i, _, o⟩
    · exact r.gr.new a f
    · exact .inr (r.new i a o)
theorem pres_FM (r : Rel K H0 F0 σ Γ H F) (g : Grow H (FL F σ Γ L) H' F') : Pres H F H' (FM F' σ Γ L) :=
  ⟨fun a xs h => g.same a _ h, fun a o u h => g.same a _ h, fun a u f h => ⟨⟨g.fro a (.inl f), fun ⟨i, _, o⟩ => by
    obtain ⟨_, _, _, _, _, _, n, _⟩ := r.own o
    exact n f⟩, g.same a u h⟩⟩
theorem pres_F (g : Grow H (FL F σ Γ L) H' F') : Pres H F H' F' := ⟨fun a xs h => g.same a _ h, fun a o u h => g.same a _ h, fun a u f h => ⟨g.fro a (.inl f), g.same a u h⟩⟩
/-- behind an expression that saw the own lists at L: they are own still -/
theorem Rel.back (r : Rel K H0 F0 σ Γ H F) (g : Grow H (FL F σ Γ L) H' F') : Rel K H0 F0 σ Γ H' (FM F' σ Γ L) := by
  have pr := pres_FM r g
  refine ⟨r.len, fun i s e => ?_, r.dist, r.new, fun a u h => g.same a u (r.gr.same a u h), fun a f => (⟨g.fro a (.inl (r.gr.fro a f)), fun ⟨i, _, o⟩ => ?_⟩ : FM F' σ Γ L a), fun a f => ?_, fun a f => g.ok a f.1⟩
  · obtain ⟨o, e1, hs⟩ := r.at_ i s e
    refine ⟨o, e1, ?_⟩
    cases s with
    | un => trivial
    | da d => obtain ⟨v, e2, hd⟩ := hs; exact ⟨v, e2, hd.pres pr⟩
    | ol ds =>
      obtain ⟨a, u, vs, e2, e3, e4, e6, e5⟩ := hs
      refine ⟨a, u, vs, e2, g.same a _ e3, fun f => ?_, e6, e5.pres pr⟩
      have ow : OwnAt σ Γ i a := ⟨by rw [e1, e2], _, e, rfl⟩
      rcases g.new a f.1 with q | q
      · rcases q with q | ⟨j, hj, o⟩
        · exact e4 q
        · exact f.2 ⟨j, hj, o⟩
      · rw [e3] at q; cases q
    | od t kvs =>
      obtain ⟨a, u, vs, e2, e3, e4, e6, e5⟩ := hs
      refine ⟨a, u, vs, e2, g.same a _ e3, fun f => ?_, e6, e5.pres pr⟩
      have ow : OwnAt σ Γ i a := ⟨by rw [e1, e2], _, e, rfl⟩
      rcases g.new a f.1 with q | q
      · rcases q with q | ⟨j, hj, o⟩
        · exact e4 q
        · exact f.2 ⟨j, hj, o⟩
      · rw [e3] at q; cases q
  · obtain ⟨_, _, _, _, _, _, n, _⟩ := r.own o
    exact n (r.gr.fro a f)
  · rcases g.new a f.1 with q | q
    · rcases q with q | ⟨j, hj, o⟩
      · exact r.gr.new a q
      · exact absurd ⟨j, hj, o⟩ f.2
    · exact .inr (r.gr.back q)
/-- .. they are data from now on -/
theorem Rel.frz (r : Rel K H0 F0 σ Γ H F) (g : Grow H (FL F σ Γ L) H' F') : Rel K H0 F0 σ (freeze L Γ) H' F' := by
  have pr : Pres H F H' F' := ⟨fun a xs h => g.same a _ h, fun a o u h => g.same a _ h, fun a u f h => ⟨g.fro a (.inl f), g.same a u h⟩⟩
  have ow : ∀ {i a}, OwnAt σ (freeze L Γ) i a → OwnAt σ Γ i a ∧ i ∉ L := fun {i a} ⟨o1, s0, o2, o3⟩ => by
    rw [frzF_get] at o2
    cases q : Γ[i]? with
    | none => rw [q] at o2; cases o2
    | some s =>
      rw [q] at o2
      cases s with
      | un => cases o2; cases o3
      | da d => cases o2; cases o3
      | ol es =>
        by_cases hL : 0 + i ∈ L
        · simp only [Option.map_some, if_pos hL] at o2; cases o2; cases o3
        · exact ⟨⟨o1, _, q, rfl⟩, by simpa using hL⟩
      | od t kvs =>
        by_cases hL : 0 + i ∈ L
        · simp only [Option.map_some, if_pos hL] at o2; cases o2; cases o3
        · exact ⟨⟨o1, _, q, rfl⟩, by simpa using hL⟩
  refine ⟨by rw [frzF_len]; exact r.len, fun i s e => ?_, fun i j a o1 o2 => r.dist i j a (ow o1).1 (ow o2).1, fun i a o => r.new i a (ow o).1, fun a u h => g.same a u (r.gr.same a u h), fun a f => g.fro a (.inl (r.gr.fro a f)), fun a f => ?_, g.ok⟩
  · rw [frzF_get] at e
    cases q : Γ[i]? with
    | none => rw [q] at e; cases e
    | some s' =>
      rw [q] at e
      obtain ⟨o, e1, hs⟩ := r.at_ i s' q
      refine ⟨o, e1, ?_⟩
      cases s' with
      | un => cases e; trivial
      | da d => cases e; obtain ⟨v, e2, hd⟩ := hs; exact ⟨v, e2, hd.pres pr⟩
      | ol ds =>
        obtain ⟨a, u, vs, e2, e3, e4, e6, e5⟩ := hs
        have ow' : OwnAt σ Γ i a := ⟨by rw [e1, e2], _, q, rfl⟩
        by_cases hL : 0 + i ∈ L
        · simp only [Option.map_some, if_pos hL] at e
          cases e
          exact ⟨.ref a, e2, e6.den (e5.pres pr) (g.same a _ e3) (g.fro a (.inr ⟨i, by simpa using hL, ow'⟩))⟩
        · simp only [Option.map_some, if_neg hL] at e
          cases e
          refine ⟨a, u, vs, e2, g.same a _ e3, fun f => ?_, e6, e5.pres pr⟩
          rcases g.new a f with z | z
          · rcases z with z | ⟨j, hj, o⟩
            · exact e4 z
            · have := r.dist i j a ow' o
              subst this
              exact hL (by simpa using hj)
          · rw [e3] at z; cases z
      | od t kvs =>
        obtain ⟨a, u, vs, e2, e3, e4, e6, e5⟩ := hs
        have ow' : OwnAt σ Γ i a := ⟨by rw [e1, e2], _, q, rfl⟩
        by_cases hL : 0 + i ∈ L
        · simp only [Option.map_some, if_pos hL] at e
          cases e
          exact ⟨.ref a, e2, e6.den (e5.pres pr) (g.same a _ e3) (g.fro a (.inr ⟨i, by simpa using hL, ow'⟩))⟩
        · simp only [Option.map_some, if_neg hL] at e
          cases e
          refine ⟨a, u, vs, e2, g.same a _ e3, fun f => ?_, e6, e5.pres pr⟩
          rcases g.new a f with z | z
          · rcases z with z | ⟨j, hj, o⟩
            · exact e4 z
            · have := r.dist i j a ow' o
              subst this
              exact hL (by simpa using hj)
          · rw [e3] at z; cases z
  · rcases g.new a f with q | q
    · rcases q with q | ⟨j, hj, o⟩
      · exact r.gr.new a q
      · exact .inr (r.new j a o)
    · exact .inr (r.gr.back q)
theorem own_frz {j : Nat} {a : Addr} (o : OwnAt σ (freeze L Γ) j a) : OwnAt σ Γ j a := by
  obtain ⟨o1, ds', o2, o3⟩ := o
  rw [frzF_get] at o2
  cases q : Γ[j]? with
  | none => rw [q] at o2; cases o2
  | some s =>
    rw [q] at o2
    cases s with
    | un => cases o2; cases o3
    | da d => cases o2; cases o3
    | ol es => exact ⟨o1, _, q, rfl⟩
    | od t es => exact ⟨o1, _, q, rfl⟩
theorem own_set {i j : Nat} {x : Option V} {s : Sl} {a : Addr} (o : OwnAt (σ.set i x) (Γ.set i s) j a) (hj : i ≠ j) : OwnAt σ Γ j a := by
  obtain ⟨o1, ds, o2, o3⟩ := o
  rw [List.getElem?_set_ne hj] at o1 o2
  exact ⟨o1, ds, o2, o3⟩
theorem Rel.setda (r : Rel K H0 F0 σ Γ H F) {i : Nat} {v : V} {d : D} (h : Den K H F v d) : Rel K H0 F0 (σ.set i (some v)) (Γ.set i (.da d)) H F := by
  have ow : ∀ {j a}, OwnAt (σ.set i (some v)) (Γ.set i (.da d)) j a → OwnAt σ Γ j a := fun {j a} o => by
    by_cases hj : i = j
    · subst hj
      obtain ⟨_, ds, o2, o3⟩ := o
      by_cases hi : i < Γ.length
      · rw [List.getElem?_set_self hi] at o2; cases o2; cases o3
      · rw [List.getElem?_eq_none (by rw [List.length_set]; omega)] at o2; cases o2
    · exact own_set o hj
  refine ⟨by rw [List.length_set, List.length_set]; exact r.len, fun j s e => ?_, fun j l a o1 o2 => r.dist j l a (ow o1) (ow o2), fun j a o => r.new j a (ow o), r.gr⟩
  by_cases hj : i = j
  · subst hj
    by_cases hi : i < Γ.length
    · rw [List.getElem?_set_self hi] at e
      cases e
      exact ⟨some v, List.getElem?_set_self (by rw [r.len]; exact hi), v, rfl, h⟩
    · rw [List.getElem?_eq_none (by rw [List.length_set]; omega)] at e; cases e
  · rw [List.getElem?_set_ne hj] at e ⊢
    exact r.at_ j s e
theorem Rel.setow (r : Rel K H0 F0 σ Γ H F) {i : Nat} {p : Addr} {u : HO} {vs : List V} {s : Sl} (h1 : H p = some u) (h2 : ¬ F p) (h3 : H0 p = none) (h4 : ∀ j, ¬ OwnAt σ Γ j p) (h : DenL K H F vs (owL s)) (hz : OwO s u vs) : Rel K H0 F0 (σ.set i (some (.ref p))) (Γ.set i s) H F := by
  have ow : ∀ {j a}, OwnAt (σ.set i (some (.ref p))) (Γ.set i s) j a → (j = i ∧ a = p) ∨ OwnAt σ Γ j a := fun {j a} o => by
    by_cases hj : i = j
    · subst hj
      obtain ⟨o1, _, o2, _⟩ := o
      by_cases hi : i < σ.length
      · rw [List.getElem?_set_self hi] at o1
        cases o1
        exact .inl ⟨rfl, rfl⟩
      · rw [List.getElem?_eq_none (by rw [List.length_set]; omega)] at o1; cases o1
    · exact .inr (own_set o hj)
  refine ⟨by rw [List.length_set, List.length_set]; exact r.len, fun j s' e => ?_, fun j l a o1 o2 => ?_, fun j a o => ?_, r.gr⟩
  · by_cases hj : i = j
    · subst hj
      by_cases hi : i < Γ.length
      · rw [List.getElem?_set_self hi] at e
        cases e
        exact ⟨some (.ref p), List.getElem?_set_self (by rw [r.len]; exact hi), OwR.sl ⟨p, u, vs, rfl, h1, h2, hz, h⟩⟩
      · rw [List.getElem?_eq_none (by rw [List.length_set]; omega)] at e; cases e
    · rw [List.getElem?_set_ne hj] at e ⊢
      exact r.at_ j s' e
  · rcases ow o1 with ⟨q1, q2⟩ | q1
    · rcases ow o2 with ⟨q3, q4⟩ | q3
      · rw [q1, q3]
      · rw [q2] at q3; exact absurd q3 (h4 _)
    · rcases ow o2 with ⟨q3, q4⟩ | q3
      · rw [q4] at q1; exact absurd q1 (h4 _)
      · exact r.dist j l a q1 q3
  · rcases ow o with ⟨_, q⟩ | q
    · rw [q]; exact h3
    · exact r.new j a q
theorem Rel.setol (r : Rel K H0 F0 σ Γ H F) {i : Nat} {p : Addr} {vs : List V} {ds : List D} (h1 : H p = some (.lst vs)) (h2 : ¬ F p) (h3 : H0 p = none) (h4 : ∀ j, ¬ OwnAt σ Γ j p) (h : DenL K H F vs ds) (hz : vs.length ≤ sizeLine) : Rel K H0 F0 (σ.set i (some (.ref p))) (Γ.set i (.ol ds)) H F := r.setow (s := .ol ds) h1 h2 h3 h4 h ⟨rfl, hz⟩
theorem Rel.grow (r : Rel K H0 F0 σ Γ H F) (g : Grow H F H' F') : Rel K H0 F0 σ Γ H' F' := by
  refine ⟨r.len, fun i s e => ?_, r.dist, r.new, r.gr.trans g⟩
  obtain ⟨o, e1, hs⟩ := r.at_ i s e
  refine ⟨o, e1, ?_⟩
  cases s with
  | un => trivial
  | da d => obtain ⟨v, e2, hd⟩ := hs; exact ⟨v, e2, hd.grow g⟩
  | ol ds =>
    obtain ⟨a, u, vs, e2, e3, e4, e6, e5⟩ := hs
    exact ⟨a, u, vs, e2, g.same a _ e3, g.notF e3 e4, e6, e5.grow g⟩
  | od t kvs =>
    obtain ⟨a, u, vs, e2, e3, e4, e6, e5⟩ := hs
    exact ⟨a, u, vs, e2, g.same a _ e3, g.notF e3 e4, e6, e5.grow g⟩
/-- an own list is changed -/
theorem Rel.updow (r : Rel K H0 F0 σ Γ H F) {i : Nat} {p : Addr} {u : HO} {vs : List V} {s : Sl} (o : OwnAt σ Γ i p) (h : DenL K H F vs (owL s)) (hz : OwO s u vs) : Rel K H0 F0 σ (Γ.set i s) (L2.upd H p u) F := by
  obtain ⟨es, w, ws, q1, q6, q2, q3, q4, q5⟩ := r.own o
  have pr : Pres H F (L2.upd H p u) F := q4.upd q2 q3
  have ow : ∀ {j a}, OwnAt σ (Γ.set i s) j a → OwnAt σ Γ j a := fun {j a} o' => by
    obtain ⟨o1, es', o2, o3⟩ := o'
    by_cases hj : i = j
    · subst hj
      exact ⟨o1, es, q1, q6⟩
    · rw [List.getElem?_set_ne hj] at o2
      exact ⟨o1, es', o2, o3⟩
  refine ⟨by rw [List.length_set]; exact r.len, fun j s' e => ?_, fun j l a o1 o2 => r.dist j l a (ow o1) (ow o2), fun j a o => r.new j a (ow o), grow_upd r.gr (r.new i p o)⟩
  by_cases hj : i = j
  · subst hj
    have hi : i < Γ.length := (List.getElem?_eq_some_iff.mp q1).1
    rw [List.getElem?_set_self hi] at e
    cases e
    exact ⟨_, o.1, OwR.sl ⟨p, u, vs, rfl, upd_same, q3, hz, h.pres pr⟩⟩
  · rw [List.getElem?_set_ne hj] at e
    obtain ⟨x, e1, hs⟩ := r.at_ j s' e
    refine ⟨x, e1, ?_⟩
    cases hw : isOw s' with
    | true =>
      obtain ⟨a, v, us, e2, e3, e4, e6, e5⟩ := hs.ow hw
      have ne : a ≠ p := fun z => hj (r.dist i j p o (by rw [← z]; exact ⟨by rw [e1, e2], s', e, hw⟩))
      exact OwR.sl ⟨a, v, us, e2, by rw [upd_ne ne]; exact e3, e4, e6, e5.pres pr⟩
    | false =>
      cases s' with
      | un => trivial
      | da d => obtain ⟨v, e2, hd⟩ := hs; exact ⟨v, e2, hd.pres pr⟩
      | ol ds => cases hw
      | od t kvs => cases hw
theorem Rel.upd (r : Rel K H0 F0 σ Γ H F) {i : Nat} {p : Addr} {vs : List V} {ds : List D} (o : OwnAt σ Γ i p) (h : DenL K H F vs ds) (hz : vs.length ≤ sizeLine) : Rel K H0 F0 σ (Γ.set i (.ol ds)) (L2.upd H p (.lst vs)) F := r.updow (s := .ol ds) o h ⟨rfl, hz⟩
end
def setG (Γ : Gam) : List (Nat × D) → Gam
  | [] => Γ
  | p :: ps => setG (Γ.set p.1 (.da p.2)) ps
theorem Rel.setAll {K : PySem.W.Frag} {H0 H : Hp} {F0 F : Addr → Prop} {vs : List (Nat × V)} {as : List (Nat × D)} (p : PairD K H F vs as) : ∀ {σ : L2.St} {Γ : Gam}, Rel K H0 F0 σ Γ H F → Rel K H0 F0 (setV σ vs) (setG Γ as) H F := by
  induction p with
  | nil => intro σ Γ r; exact r
  | cons h hs ih => intro σ Γ r; exact ih (r.setda h)

/-! ### statements -/
section
variable (K : PySem.W.Frag) (mg : Str → Option Value) (W : WX) (H0 : Hp) (F0 : Addr → Prop)
def FlOk (H : Hp) (F : Addr → Prop) (E : Ends) : Fl → Prop
  | .nx Γ => ∀ σ H' F', Rel K H0 F0 σ Γ H' F' → Pres H F H' F' → E.nx σ H'
  | .rt d => ∀ v H' F', Grow H0 F0 H' F' → Den K H' F' v d → E.rt v H'
  | .rl ds => ∀ p vs H' F', Grow H0 F0 H' F' → H0 p = none → H' p = some (.lst vs) → ¬ F' p → DenL K H' F' vs ds → vs.length ≤ sizeLine → E.rt (.ref p) H'
  | .bk Γ => ∀ σ H' F', Rel K H0 F0 σ Γ H' F' → Pres H F H' F' → E.bk σ H'
  | .ct Γ => ∀ σ H' F', Rel K H0 F0 σ Γ H' F' → Pres H F H' F' → E.ct σ H'
  | .xn e Γ => ∀ cls x σ H' F', Rel K H0 F0 σ Γ H' F' → Pres H F H' F' → ExnOf mg e cls x H' → W cls x σ H'
def tS (g : Gam → R Fl) : TS := fun E σ H => ∃ Γ F, Rel K H0 F0 σ Γ H F ∧ ∃ fl, g Γ = .ok fl ∧ FlOk K mg W H0 F0 H F E fl
end
abbrev Sx (X : Cx) (W : WX) (H0 : Hp) (F0 : Addr → Prop) (st : Stmt) (g : Gam → R Fl) : Prop := PS X st (tS X.K X.mg W H0 F0 g)
abbrev Ssx (X : Cx) (W : WX) (H0 : Hp) (F0 : Addr → Prop) (st : List Stmt) (g : Gam → R Fl) : Prop := PSs X st (tS X.K X.mg W H0 F0 g)
def lift {α : Type} (r : R α) (Γ : Gam) (k : α → R Fl) : R Fl := match r with
  | .ok a => k a
  | .exn e => .ok (.xn e Γ)
  | .stuck => .stuck
@[simp] theorem lift_ok {α : Type} (a : α) (Γ : Gam) (k : α → R Fl) : lift (.ok a) Γ k = k a := rfl
theorem lift_cases {α : Type} {r : R α} {Γ : Gam} {k : α → R Fl} {fl : Fl} (h : lift r Γ k = .ok fl) : (∃ a, r = .ok a ∧ k a = .ok fl) ∨ ∃ e, r = .exn e ∧ fl = .xn e Γ := by
  cases r with
  | ok a => exact .inl ⟨a, rfl, h⟩
  | exn e => cases h; exact .inr ⟨e, rfl, rfl⟩
  | stuck => cases h
def nilS : Gam → R Fl := fun Γ => .ok (.nx Γ)
def seqS (g h : Gam → R Fl) : Gam → R Fl := fun Γ => g Γ >>= fun fl => match fl with
  | .nx Γ' => h Γ'
  | fl => .ok fl
def retS (L : List Nat) (f : Env → R D) : Gam → R Fl := fun Γ => lift (f (view L Γ)) Γ fun d => .ok (.rt d)
def retN : Gam → R Fl := fun _ => .ok (.rt .none)
def ifS (L : List Nat) (t : Env → R Bool) (g h : Gam → R Fl) : Gam → R Fl := fun Γ => lift (t (view L Γ)) Γ fun b => if b = true then g Γ else h Γ
/-- behind a value d that was told by an expression that saw L: kept, or frozen -/
def keepG (L : List Nat) (d : D) (Γ : Gam) : Gam := if L = [] ∨ noLst d = true then Γ else freeze L Γ
def keepGs (L : List Nat) (d : List D) (Γ : Gam) : Gam := if L = [] ∨ noLsts d = true then Γ else freeze L Γ
def setS (L : List Nat) (i : Nat) (f : Env → R D) : Gam → R Fl := fun Γ => lift (f (view L Γ)) Γ fun d => .ok (.nx ((keepG L d Γ).set i (.da d)))
/-- x = a new list, own -/
def ownS (L : List Nat) (i : Nat) (f : Env → R (List D)) : Gam → R Fl := fun Γ => lift (f (view L Γ)) Γ fun ds => .ok (.nx ((keepGs L ds Γ).set i (.ol ds)))
def unpS (L : List Nat) (t : Tg) (f : Env → R D) : Gam → R Fl := fun Γ => lift (f (view L Γ)) Γ fun d => (flatT t d).hard >>= fun as => .ok (.nx (setG (keepG L d Γ) as))
def dropS (L : List Nat) (f : Env → R D) : Gam → R Fl := fun Γ => lift (f (view L Γ)) Γ fun _ => .ok (.nx Γ)
def forL (t : Tg) (body : Gam → R Fl) : List D → Gam → R Fl
  | [], Γ => .ok (.nx Γ)
  | d :: ds, Γ => (flatT t d).hard >>= fun as => body (setG Γ as) >>= fun fl => match fl with
    | .nx Γ' => forL t body ds Γ'
    | .ct Γ' => forL t body ds Γ'
    | .bk Γ' => .ok (.nx Γ')
    | fl => .ok fl
def forS (L : List Nat) (it : Env → R (List D)) (t : Tg) (body : Gam → R Fl) : Gam → R Fl := fun Γ => lift (it (view L Γ)) Γ fun ds => forL t body ds (freeze L Γ)
def whileN (L : List Nat) (t : Env → R Bool) (body : Gam → R Fl) : Nat → Gam → R Fl
  | 0, _ => .stuck
  | n + 1, Γ => lift (t (view L Γ)) Γ fun b => if b = true then body Γ >>= fun fl => match fl with
      | .nx Γ' => whileN L t body n Γ'
      | .ct Γ' => whileN L t body n Γ'
      | .bk Γ' => .ok (.nx Γ')
      | fl => .ok fl
    else .ok (.nx Γ)
open Classical in
noncomputable def whileS (L : List Nat) (t : Env → R Bool) (body : Gam → R Fl) : Gam → R Fl := fun Γ => if h : ∃ n fl, whileN L t body n Γ = .ok fl then .ok (Classical.choose (Classical.choose_spec h)) else .stuck
def bkS : Gam → R Fl := fun Γ => .ok (.bk Γ)
def ctS : Gam → R Fl := fun Γ => .ok (.ct Γ)
def listAt (i : Nat) (Γ : Gam) : R (List D) := match Γ[i]? with
  | some (.ol ds) => .ok ds
  | _ => .stuck
/-- xs.append(e), xs the own list at i -/
def appS (L : List Nat) (i : Nat) (f : Env → R D) : Gam → R Fl := fun Γ => listAt i Γ >>= fun ys => lift (f (view L Γ)) Γ fun d => if ys.length < 16777216 ∧ (i ∈ L → noLst d = true) then .ok (.nx ((keepG L d Γ).set i (.ol (ys ++ [d])))) else .stuck
def putAt (ys : List D) (k d : D) : R (List D) := match k with
  | .int k => match ixN ys.length k with
    | some j => if noLst d = true then .ok (ys.set j d) else .stuck
    | none => .stuck
  | _ => .stuck
/-- xs[k] = e -/
def putS (L : List Nat) (i : Nat) (fe fk : Env → R D) : Gam → R Fl := fun Γ => listAt i Γ >>= fun ys => lift (fe (view L Γ)) Γ fun d => lift (fk (view L Γ)) Γ fun k => putAt ys k d >>= fun zs => .ok (.nx (Γ.set i (.ol zs)))
/-- x op= e -/
def augS (L : List Nat) (i : Nat) (g : D → D → R D) (f : Env → R D) : Gam → R Fl := fun Γ => match Γ[i]? with
  | some (.da x) => lift (f (view L Γ)) Γ fun y => (g x y).hard >>= fun z => if noLst z = true then .ok (.nx (Γ.set i (.da z))) else .stuck
  | _ => .stuck
theorem FlOk.from {K : PySem.W.Frag} {mg : Str → Option Value} {W : WX} {H0 H H1 : Hp} {F0 F F1 : Addr → Prop} {E : Ends} {fl : Fl} (k : FlOk K mg W H0 F0 H F E fl) (p : Pres H F H1 F1) : FlOk K mg W H0 F0 H1 F1 E fl := by
  cases fl with
  | nx Γ => exact fun σ H' F' r q => k σ H' F' r (p.trans q)
  | rt d => exact k
  | rl d => exact k
  | bk Γ => exact fun σ H' F' r q => k σ H' F' r (p.trans q)
  | ct Γ => exact fun σ H' F' r q => k σ H' F' r (p.trans q)
  | xn e Γ => exact fun c x σ H' F' r q => k c x σ H' F' r (p.trans q)
section
variable {X : Cx} {W : WX} {H0 : Hp} {F0 : Addr → Prop} {pos : Pos}
/-- an expression at the statements' level -/
theorem tE_lift {K : PySem.W.Frag} {mg : Str → Option Value} {σ : L2.St} {Γ : Gam} {H : Hp} {F : Addr → Prop} {L : List Nat} {f : Env → R D} {k : D → R Fl} {fl : Fl} {E : Ends} {Q : VK} (r : Rel K H0 F0 σ Γ H F) (e : lift (f (view L Γ)) Γ k = .ok fl) (h : FlOk K mg W H0 F0 H F E fl)
    (q : ∀ d, k d = .ok fl → ∀ v H' F', Grow H (FL F σ Γ L) H' F' → Den K H' F' v d → Q v H') : tE K mg W f σ H Q := by
  obtain ⟨re, g0⟩ := r.view L
  refine ⟨_, _, re, ?_⟩
  rcases lift_cases e with ⟨a, e1, e2⟩ | ⟨x, e1, e2⟩
  · rw [e1]; exact fun v H' F' g hd => q a e2 v H' F' g hd
  · rw [e1]; subst e2; exact fun cls y H' F' g ho => h cls y σ H' _ (r.back g) (pres_FM r g) ho
theorem tB_lift {K : PySem.W.Frag} {mg : Str → Option Value} {σ : L2.St} {Γ : Gam} {H : Hp} {F : Addr → Prop} {L : List Nat} {f : Env → R Bool} {k : Bool → R Fl} {fl : Fl} {E : Ends} {Q : Bool → Hp → Prop} (r : Rel K H0 F0 σ Γ H F) (e : lift (f (view L Γ)) Γ k = .ok fl) (h : FlOk K mg W H0 F0 H F E fl)
    (q : ∀ d, k d = .ok fl → ∀ H' F', Rel K H0 F0 σ Γ H' F' → Pres H F H' F' → Q d H') : tB_ K mg W f σ H Q := by
  obtain ⟨re, g0⟩ := r.view L
  refine ⟨_, _, re, ?_⟩
  rcases lift_cases e with ⟨a, e1, e2⟩ | ⟨x, e1, e2⟩
  · rw [e1]; exact fun H' F' g => q a e2 H' _ (r.back g) (pres_FM r g)
  · rw [e1]; subst e2; exact fun cls y H' F' g ho => h cls y σ H' _ (r.back g) (pres_FM r g) ho
/-- .. its value kept in a slot -/
theorem Rel.keep {K : PySem.W.Frag} {σ : L2.St} {Γ : Gam} {H H' : Hp} {F F' : Addr → Prop} {L : List Nat} {v : V} {d : D} (r : Rel K H0 F0 σ Γ H F) (g : Grow H (FL F σ Γ L) H' F') (hd : Den K H' F' v d) : ∃ F2, Rel K H0 F0 σ (keepG L d Γ) H' F2 ∧ Den K H' F2 v d ∧ Pres H F H' F2 := by
  unfold keepG
  by_cases c : L = [] ∨ noLst d = true
  · rw [if_pos c]
    rcases c with c | c
    · refine ⟨_, r.back g, ?_, pres_FM r g⟩
      subst c
      exact hd.pres ⟨fun _ _ h => h, fun _ _ _ h => h, fun a u f h => ⟨⟨f, fun ⟨i, hi, _⟩ => nomatch hi⟩, h⟩⟩
    · exact ⟨_, r.back g, hd.free c, pres_FM r g⟩
  · rw [if_neg c]
    exact ⟨_, r.frz g, hd, pres_F g⟩
theorem ss_nil : Ssx X W H0 F0 [] nilS := PSs.imp pss_nil fun E σ H ⟨Γ, F, r, fl, e, h⟩ => by
  cases e
  exact h σ H F r .refl
theorem seq_read {K : PySem.W.Frag} {mg : Str → Option Value} {g h : Gam → R Fl} {E : Ends} {σ : L2.St} {H : Hp} (q : tS K mg W H0 F0 (seqS g h) E σ H) : tS K mg W H0 F0 g { E with nx := tS K mg W H0 F0 h E } σ H := by
  obtain ⟨Γ, F, r, fl, e, k⟩ := q
  obtain ⟨f1, e1, e2⟩ := ok_bind' e
  refine ⟨Γ, F, r, f1, e1, ?_⟩
  cases f1 with
  | nx Γ' => exact fun σ' H' F' r' p => ⟨Γ', F', r', fl, e2, k.from p⟩
  | rt d => cases e2; exact k
  | rl d => cases e2; exact k
  | bk Γ' => cases e2; exact k
  | ct Γ' => cases e2; exact k
  | xn e Γ' => cases e2; exact k
theorem ss_cons {st : Stmt} {sts : List Stmt} {g h : Gam → R Fl} (h1 : Sx X W H0 F0 st g) (h2 : Ssx X W H0 F0 sts h) : Ssx X W H0 F0 (st :: sts) (seqS g h) := PSs.imp (pss_cons h1 h2) fun E σ H q => seq_read q
theorem ss_one {st : Stmt} {g : Gam → R Fl} (h1 : Sx X W H0 F0 st g) : Ssx X W H0 F0 [st] g := pss_one h1
theorem st_ret (L : List Nat) {e : Expr} {f : Env → R D} (he : Ex X W e f) : Sx X W H0 F0 (.Return (some e) pos) (retS L f) := PS.imp (ps_ret he) fun E σ H ⟨Γ, F, r, fl, e, k⟩ =>
  tE_lift r e k fun d e2 v H' F' g hd => by
    cases e2
    exact k v H' F' ((r.view L).2.trans g) hd
theorem st_retN : Sx X W H0 F0 (.Return none pos) retN := PS.imp ps_retN fun E σ H ⟨Γ, F, r, fl, e, k⟩ => by
  cases e
  exact k .non H F r.gr .non
theorem st_if (L : List Nat) {c : Expr} {a b : List Stmt} {t : Env → R Bool} {g h : Gam → R Fl} (hc : Tx X W c t) (ha : Ssx X W H0 F0 a g) (hb : Ssx X W H0 F0 b h) : Sx X W H0 F0 (.If c a b pos) (ifS L t g h) := PS.imp (ps_if hc ha hb) fun E σ H ⟨Γ, F, r, fl, e, k⟩ =>
  tB_lift r e k fun d e2 H' F' r' p => by
    cases d with
    | true => exact ⟨Γ, F', r', fl, e2, k.from p⟩
    | false => exact ⟨Γ, F', r', fl, e2, k.from p⟩
theorem st_asg (L : List Nat) (i : Nat) {st : Stmt} {f : Env → R D} (h : PS X st (tAsg (tE X.K X.mg W f) (gName i))) : Sx X W H0 F0 st (setS L i f) := PS.imp h fun E σ H ⟨Γ, F, r, fl, e, k⟩ =>
  tE_lift r e k fun d e2 v H' F' g hd => by
    cases e2
    obtain ⟨F2, r2, d2, p2⟩ := r.keep g hd
    exact k _ H' F2 (r2.setda d2) p2
theorem st_set (L : List Nat) (i : Nat) {x : Str} {e : Expr} {f : Env → R D} {pos' : Pos} (he : Ex X W e f) (hN : X.N.Nodup) (hi : X.N[i]? = some x := by rfl) (hx : Loc X.env.scope x := by first | exact Or.inl rfl | exact Or.inr rfl) (hs : swapsWith e (some (.Name x pos')) pos.line X.env = pure false := by rfl)
    (hf : X.fn x = true ∨ X.env.scope.names.lookup x = some .local := by first | exact .inl rfl | exact .inr rfl) : Sx X W H0 F0 (.Assign [.Name x pos'] e pos) (setS L i f) := st_asg L i (ps_set hN hi hx he hs hf)
theorem st_asgF (L : List Nat) (i : Nat) {st : Stmt} {f : Env → R (List D)} (h : PS X st (tAsg (tF X.K X.mg W f) (gName i))) : Sx X W H0 F0 st (ownS L i f) := PS.imp h fun E σ H ⟨Γ, F, r, fl, e, k⟩ => by
  obtain ⟨re, g0⟩ := r.view L
  refine ⟨_, _, re, ?_⟩
  rcases lift_cases e with ⟨ds, e1, e2⟩ | ⟨x, e1, e2⟩
  · rw [e1]
    cases e2
    intro p vs H' F' g hp hp' nf hd hz
    have no : ∀ {Γ' : Gam}, (∀ j a, OwnAt σ Γ' j a → OwnAt σ Γ j a) → ∀ j, ¬ OwnAt σ Γ' j p := fun hh j o => by
      obtain ⟨_, _, _, _, _, z, _⟩ := r.own (hh j p o)
      rw [hp] at z; cases z
    have n0 : H0 p = none := r.gr.back hp
    have fin : ∀ {Γ' F2}, Rel X.K H0 F0 σ Γ' H' F2 → (∀ j, ¬ OwnAt σ Γ' j p) → ¬ F2 p → DenL X.K H' F2 vs ds → Pres H F H' F2 → FlOk X.K X.mg W H0 F0 H F E (.nx (Γ'.set i (.ol ds))) → E.nx (σ.set i (some (.ref p))) H' := fun {Γ' F2} r2 n2 nf2 d2 p2 k => k _ H' F2 (r2.setol hp' nf2 n0 n2 d2 hz) p2
    unfold keepGs at k
    by_cases c : L = [] ∨ noLsts ds = true
    · rw [if_pos c] at k
      refine fin (r.back g) (no fun _ _ o => o) (fun f => nf f.1) ?_ (pres_FM r g) k
      rcases c with c | c
      · subst c
        exact hd.pres ⟨fun _ _ h => h, fun _ _ _ h => h, fun a u f h => ⟨⟨f, fun ⟨i, hi, _⟩ => nomatch hi⟩, h⟩⟩
      · exact hd.free c
    · rw [if_neg c] at k
      exact fin (r.frz g) (no fun j a o => own_frz o) nf hd (pres_F g) k
  · rw [e1]; subst e2; exact fun cls y H' F' g ho => k cls y σ H' _ (r.back g) (pres_FM r g) ho
theorem st_own (L : List Nat) (i : Nat) {x : Str} {e : Expr} {f : Env → R (List D)} {pos' : Pos} (he : Fx X W e f) (hN : X.N.Nodup) (hi : X.N[i]? = some x := by rfl) (hx : Loc X.env.scope x := by first | exact Or.inl rfl | exact Or.inr rfl) (hs : swapsWith e (some (.Name x pos')) pos.line X.env = pure false := by rfl)
    (hf : X.fn x = true ∨ X.env.scope.names.lookup x = some .local := by first | exact .inl rfl | exact .inr rfl) : Sx X W H0 F0 (.Assign [.Name x pos'] e pos) (ownS L i f) := st_asgF L i (ps_set hN hi hx he hs hf)
theorem st_drop (L : List Nat) {e : Expr} {f : Env → R D} (he : Ex X W e f) (hs : swapsWith e none pos.line X.env = pure false := by rfl) : Sx X W H0 F0 (.Expr e pos) (dropS L f) := PS.imp (ps_expr he hs) fun E σ H ⟨Γ, F, r, fl, e, k⟩ =>
  tE_lift r e k fun d e2 v H' F' g hd => by
    cases e2
    exact k _ H' _ (r.back g) (pres_FM r g)
theorem st_doc {x j pos'} : Sx X W H0 F0 (.Expr (.Constant (.str x) j pos) pos') nilS := PS.imp ps_doc fun E σ H ⟨Γ, F, r, fl, e, k⟩ => by
  cases e
  exact k σ H F r .refl
theorem st_pass : Sx X W H0 F0 (.Pass pos) nilS := PS.imp ps_pass fun E σ H ⟨Γ, F, r, fl, e, k⟩ => by
  cases e
  exact k σ H F r .refl
theorem st_break : Sx X W H0 F0 (.Break pos) bkS := PS.imp ps_break fun E σ H ⟨Γ, F, r, fl, e, k⟩ => by
  cases e
  exact k σ H F r .refl
theorem st_continue : Sx X W H0 F0 (.Continue pos) ctS := PS.imp ps_continue fun E σ H ⟨Γ, F, r, fl, e, k⟩ => by
  cases e
  exact k σ H F r .refl
theorem st_unp (L : List Nat) {tg e : Expr} {t : Tg} {f : Env → R D} (he : Ex X W e f) (hg : Gx X tg t) (hs : swapsWithSole [tg] e pos.line X.env = pure false := by rfl) (hw : swappedStores [tg] e X.env = pure none := by rfl) (h1 : (assignEach [tg] X.env).map (·.2) = [assign tg X.env] := by rfl) : Sx X W H0 F0 (.Assign [tg] e pos) (unpS L t f) :=
  PS.imp (ps_asg he hg hs hw h1) fun E σ H ⟨Γ, F, r, fl, e, k⟩ => tE_lift r e k fun d e2 v H' F' g hd => by
    obtain ⟨as, e3, e4⟩ := hard_bind e2
    cases e4
    obtain ⟨F2, r2, d2, p2⟩ := r.keep g hd
    exact tg_run t v d as σ _ d2 e3 fun vs p => k _ H' F2 (r2.setAll p) p2
theorem forL_step {t : Tg} {body : Gam → R Fl} {d : D} {ds : List D} {Γ : Gam} {fl : Fl} (e : forL t body (d :: ds) Γ = .ok fl) : ∃ as f1, flatT t d = .ok as ∧ body (setG Γ as) = .ok f1 ∧ (match f1 with
    | .nx Γ' => forL t body ds Γ'
    | .ct Γ' => forL t body ds Γ'
    | .bk Γ' => .ok (.nx Γ')
    | fl => .ok fl) = .ok fl := by
  unfold forL at e
  obtain ⟨as, e1, e⟩ := hard_bind e
  obtain ⟨f1, e2, e⟩ := ok_bind' e
  exact ⟨as, f1, e1, e2, e⟩
theorem st_for (L : List Nat) {tg iter : Expr} {body : List Stmt} {it : Env → R (List D)} {t : Tg} {gb : Gam → R Fl} (hp : PassesOwn (model X.prog X.w) X.A X.env X.xe) (hi : Ix X W tg iter it) (hg : Gx X tg t) (hb : Ssx X W H0 F0 body gb) (hc : X.calm = true := by rfl)
    (hs : ∀ x, foldedSetIterable iter X.env x = pure x := by intro _; rfl) : Sx X W H0 F0 (.For tg iter body [] pos) (forS L it t gb) := by
  refine PS.imp (ps_for hp hc hi hg hb hs) fun E σ H ⟨Γ, F, r, fl, e, k⟩ => ?_
  obtain ⟨re, g0⟩ := r.view L
  refine ⟨_, _, re, ?_⟩
  rcases lift_cases e with ⟨ds, e1, e2⟩ | ⟨x, e1, e2⟩
  · rw [e1]
    intro J H1 F1 g1 ⟨G, Y, wk, wG, wY⟩ hz
    have r1 := r.frz g1
    have p1 := pres_F g1
    refine for_it wk (fun i σ2 H2 => ∃ Γ2 F2, Rel X.K H0 F0 σ2 Γ2 H2 F2 ∧ Pres H1 F1 H2 F2 ∧ forL t gb (ds.drop i) Γ2 = .ok fl) ⟨_, F1, r1, .refl, by rw [List.drop_zero]; exact e2⟩ (fun i σ2 H2 hi ⟨Γ2, F2, _, p2, _⟩ => wG H2 F2 p2) (fun i x σ2 H2 H3 hi ⟨Γ2, F2, r2, p2, e3⟩ y => ?_) fun σ2 H2 ⟨Γ2, F2, r2, p2, e3⟩ => ?_
    · obtain ⟨d, ed, g3, dx⟩ := wY i H2 F2 x H3 hi p2 r2.gr.ok y
      rw [drop_get ed] at e3
      obtain ⟨as, f1, e4, e5, e6⟩ := forL_step e3
      have r3 := r2.grow g3
      refine tg_run t x d as σ2 _ dx e4 fun us p => ⟨_, F2, r3.setAll p, f1, e5, ?_⟩
      have p3 := p2.trans g3.pres
      cases f1 with
      | nx Γ' => exact fun σ' H' F' r' q => ⟨Γ', F', r', p3.trans q, e6⟩
      | ct Γ' => exact fun σ' H' F' r' q => ⟨Γ', F', r', p3.trans q, e6⟩
      | bk Γ' => cases e6; exact fun σ' H' F' r' q => k σ' H' F' r' (p1.trans (p3.trans q))
      | rt d => cases e6; exact k
      | rl d => cases e6; exact k
      | xn e Γ' => cases e6; exact fun c x σ' H' F' r' q => k c x σ' H' F' r' (p1.trans (p3.trans q))
    · rw [List.drop_length] at e3
      cases e3
      exact k σ2 H2 F2 r2 (p1.trans p2)
  · rw [e1]; subst e2; exact fun cls y H' F' g ho => k cls y σ H' _ (r.back g) (pres_FM r g) ho
end
end RB

set_option Elab.async false
set_option linter.all false
set_option maxRecDepth 100000
set_option maxHeartbeats 4000000
namespace RB
open PySem PySem.Spec PyProof.Rows L2
section
variable {K : PySem.W.Frag} {H0 H H' : Hp} {F0 F F' : Addr → Prop} {σ : L2.St} {Γ : Gam} {L : List Nat}
theorem own_keep {i : Nat} {a : Addr} {d : D} (o : OwnAt σ Γ i a) (h : i ∈ L → noLst d = true) : OwnAt σ (keepG L d Γ) i a := by
  unfold keepG
  by_cases c : L = [] ∨ noLst d = true
  · rw [if_pos c]; exact o
  · rw [if_neg c]
    obtain ⟨o1, ds, o2, o3⟩ := o
    have hn : ¬ (0 + i ∈ L) := fun z => c (.inr (h (by simpa using z)))
    refine ⟨o1, ds, ?_, o3⟩
    rw [frzF_get, o2, Option.map_some]
    cases ds with
    | un => cases o3
    | da d => cases o3
    | ol es => simp only [if_neg hn]
    | od t es => simp only [if_neg hn]
theorem listAt_ok {i : Nat} {ys : List D} (e : listAt i Γ = .ok ys) : Γ[i]? = some (.ol ys) := by
  unfold listAt at e
  split at e
  · rename_i ds h; cases e; exact h
  · cases e
theorem Rel.ownOf (r : Rel K H0 F0 σ Γ H F) {i : Nat} {ys : List D} (e : Γ[i]? = some (.ol ys)) : ∃ a vs, OwnAt σ Γ i a ∧ H a = some (.lst vs) ∧ ¬ F a ∧ DenL K H F vs ys ∧ vs.length ≤ sizeLine := by
  obtain ⟨o, e1, a, u, vs, e2, e3, e4, ⟨e6, e7⟩, e5⟩ := r.at_ i _ e
  subst e6
  exact ⟨a, vs, ⟨by rw [e1, e2], _, e, rfl⟩, e3, e4, e5, e7⟩
end
section
variable {X : Cx} {W : WX} {H0 : Hp} {F0 : Addr → Prop} {pos apos cpos : Pos}
theorem Rel.ownOfG {K : PySem.W.Frag} {H0 H : Hp} {F0 F : Addr → Prop} {σ : L2.St} {Γ : Gam} (r : Rel K H0 F0 σ Γ H F) {i : Nat} {s : Sl} (e : Γ[i]? = some s) (hw : isOw s = true) : ∃ a u vs, OwnAt σ Γ i a ∧ H a = some u ∧ ¬ F a ∧ OwO s u vs ∧ DenL K H F vs (owL s) := by
  obtain ⟨o, e1, hs⟩ := r.at_ i _ e
  obtain ⟨a, u, vs, e2, e3, e4, e6, e5⟩ := hs.ow hw
  exact ⟨a, u, vs, ⟨by rw [e1, e2], _, e, hw⟩, e3, e4, e6, e5⟩
theorem r_ownG {K : PySem.W.Frag} {H0 H : Hp} {F0 F : Addr → Prop} {σ : L2.St} {Γ : Gam} {i : Nat} {a : Addr} (r : Rel K H0 F0 σ Γ H F) (o : OwnAt σ Γ i a) {s : Sl} (e : Γ[i]? = some s) : ∃ u vs, H a = some u ∧ ¬ F a ∧ OwO s u vs ∧ DenL K H F vs (owL s) := by
  obtain ⟨ds, u, vs, h1, _, h2, h3, h4, h5⟩ := r.own o
  rw [e] at h1; cases h1
  exact ⟨u, vs, h2, h3, h4, h5⟩
theorem r_own {K : PySem.W.Frag} {H0 H : Hp} {F0 F : Addr → Prop} {σ : L2.St} {Γ : Gam} {i : Nat} {a : Addr} (r : Rel K H0 F0 σ Γ H F) (o : OwnAt σ Γ i a) {es : List D} (e : Γ[i]? = some (.ol es)) : ∃ vs, H a = some (.lst vs) ∧ ¬ F a ∧ DenL K H F vs es ∧ vs.length ≤ sizeLine := by
  obtain ⟨ds, u, vs, h1, _, h2, h3, h4, h5⟩ := r.own o
  rw [e] at h1; cases h1
  obtain ⟨rfl, h6⟩ := h4
  exact ⟨vs, h2, h3, h5, h6⟩
theorem keepG_at {L : List Nat} {Γ : Gam} {i : Nat} {d : D} {ys : List D} (e : Γ[i]? = some (.ol ys)) (h : i ∈ L → noLst d = true) : (keepG L d Γ)[i]? = some (.ol ys) := by
  unfold keepG
  by_cases c : L = [] ∨ noLst d = true
  · rw [if_pos c]; exact e
  · rw [if_neg c]
    have hn : ¬ (0 + i ∈ L) := fun z => c (.inr (h (by simpa using z)))
    rw [frzF_get, e, Option.map_some]
    simp only [if_neg hn]
theorem st_app (L : List Nat) (i : Nat) {x : Str} {px : Pos} {e : Expr} {f : Env → R D} (he : Exs X W [e] [f]) (hN : X.N[i]? = some x := by rfl) (hv : Vis X.env.scope x := by first | exact Or.inl rfl | exact Or.inr (Or.inl rfl) | exact Or.inr (Or.inr rfl))
    (hd : (x == ("__debug__" : Str)) = false := by decide) (hcd : (x == ("__classdict__" : Str)) = false := by decide)
    (hbase : attributeBase (.Name x px) "append" X.env (eval (.Name x px) X.env) = eval (.Name x px) X.env := by rfl)
    (hfew : ((backTo cpos (starEach [e] X.env)).all (fun x => !x.1) && (backToKw cpos (keywordEach [] X.env)).all (fun x => x.1.isSome)
      && decide ([e].length + ([] : List Keyword).length + (if ([] : List Keyword).isEmpty then 0 else 1) < 30)) = true := by rfl)
    (hline : (apos.endLine == cpos.line) = true := by rfl) (hse : starEach [e] X.env = (false, eval e X.env) :: starEach [] X.env := by rfl)
    (hs : swapsWith (.Call (.Attribute (.Name x px) "append" apos) [e] [] cpos) none pos.line X.env = pure false := by rfl) : Sx X W H0 F0 (.Expr (.Call (.Attribute (.Name x px) "append" apos) [e] [] cpos) pos) (appS L i f) := by
  have h : PE X (.Call (.Attribute (.Name x px) "append" apos) [e] [] cpos) (tBM X.K "list" rAppend (tVar i) (tEs X.K X.mg W [f])) := pe_bm PySem.F.plainAttrs_list PySem.F.slot_list_append PySem.F.type_list_append mt_append (pe_var hN hv hd hcd) he hbase hfew hline hse rfl
  refine PS.imp (ps_expr h hs) fun E σ H ⟨Γ, F, r, fl, e, k⟩ => ?_
  obtain ⟨ys, e1, e⟩ := ok_bind' e
  have e1 := listAt_ok e1
  obtain ⟨a, vs, ow, ha, hn, hden, hz⟩ := r.ownOf e1
  obtain ⟨re, g0⟩ := r.view L
  refine ⟨.ref a, ow.1, .inl ⟨rfl, vs, SqL.of ha⟩, _, _, re, ?_⟩
  rcases lift_cases e with ⟨d, e2, e3⟩ | ⟨x, e2, e3⟩
  · by_cases c : ys.length < 16777216 ∧ (i ∈ L → noLst d = true)
    · rw [if_pos c] at e3
      cases e3
      show R.wp (f (view L Γ) >>= fun d => R.ok [] >>= fun ds => R.ok (d :: ds)) _ _
      rw [e2]
      intro vs' H' F' g hd
      cases hd with
      | cons hd hnil =>
      cases hnil
      obtain ⟨F2, r2, d2, p2⟩ := r.keep g hd
      have o2 := own_keep ow c.2
      obtain ⟨ws, h2, n2, hden2, hz2⟩ := r_own r2 o2 (keepG_at e1 c.2)
      have hl : ws.length < sizeLine := by rw [hden2.length]; exact c.1
      refine ⟨a, ws, _, rfl, rfl, h2, hl, ?_⟩
      exact k _ _ F2 (r2.upd o2 (hden2.append (.cons d2 .nil)) (by rw [List.length_append, List.length_singleton]; exact hl)) (p2.trans (pres_upd h2 n2))
    · rw [if_neg c] at e3; cases e3
  · show R.wp (f (view L Γ) >>= fun d => R.ok [] >>= fun ds => R.ok (d :: ds)) _ _
    rw [e2]
    subst e3
    exact fun cls y H' F' g ho => k cls y σ H' _ (r.back g) (pres_FM r g) ho
theorem putAt_ok {ys zs : List D} {k d : D} (e : putAt ys k d = .ok zs) : ∃ (m : Int) (j : Nat), k = .int m ∧ ixN ys.length m = some j ∧ noLst d = true ∧ zs = ys.set j d := by
  unfold putAt at e
  cases k with
  | int m =>
    cases q : ixN ys.length m with
    | none => simp only [q] at e; cases e
    | some j =>
      simp only [q] at e
      by_cases c : noLst d = true
      · simp only [if_pos c] at e; cases e; exact ⟨m, j, rfl, q, c, rfl⟩
      · simp only [if_neg c] at e; cases e
  | _ => cases e
theorem lift_bind {α : Type} {r : R α} {Γ : Gam} {k : α → R Fl} {fl : Fl} (h : lift r Γ k = .ok fl) : True := trivial
theorem st_put (L : List Nat) (i : Nat) {x : Str} {px : Pos} {ei e : Expr} {fe fi : Env → R D} {tpos : Pos} (he : Ex X W e fe) (hi : Ex X W ei fi) (hN : X.N[i]? = some x := by rfl) (hv : Vis X.env.scope x := by first | exact Or.inl rfl | exact Or.inr (Or.inl rfl) | exact Or.inr (Or.inr rfl))
    (hd : (x == ("__debug__" : Str)) = false := by decide) (hcd : (x == ("__classdict__" : Str)) = false := by decide)
    (ha : ∀ v, assign (.Subscript (.Name x px) ei tpos) X.env v = (do
      let ov ← holding [v] (eval (.Name x px) X.env)
      let iv ← holding [v, ov] (eval ei X.env)
      standAt tpos
      holding [v, ov, iv] (setItem ov iv v)
      release [v, ov, iv] []) := by intro _; rfl)
    (hs : swapsWithSole [.Subscript (.Name x px) ei tpos] e pos.line X.env = pure false := by rfl) (hw : swappedStores [.Subscript (.Name x px) ei tpos] e X.env = pure none := by rfl)
    (h1 : (assignEach [.Subscript (.Name x px) ei tpos] X.env).map (·.2) = [assign (.Subscript (.Name x px) ei tpos) X.env] := by rfl) : Sx X W H0 F0 (.Assign [.Subscript (.Name x px) ei tpos] e pos) (putS L i fe fi) := by
  refine PS.imp (ps_asg he (pg_sub (pe_var hN hv hd hcd) hi set_list ha) hs hw h1) fun E σ H ⟨Γ, F, r, fl, e, k⟩ => ?_
  obtain ⟨ys, e1, e⟩ := ok_bind' e
  have e1 := listAt_ok e1
  obtain ⟨re, g0⟩ := r.view L
  refine ⟨_, _, re, ?_⟩
  rcases lift_cases e with ⟨d, e2, e3⟩ | ⟨y, e2, e3⟩
  · rw [e2]
    intro v H1 F1 g1 hd1
    have r1 := r.back g1
    have p1 := pres_FM r g1
    obtain ⟨a, vs, ow, ha, hn, hden, hz⟩ := r1.ownOf e1
    refine ⟨.ref a, ow.1, ?_⟩
    obtain ⟨re1, _⟩ := r1.view L
    refine ⟨_, _, re1, ?_⟩
    rcases lift_cases e3 with ⟨m, e4, e5⟩ | ⟨y, e4, e5⟩
    · rw [e4]
      obtain ⟨zs, e6, e7⟩ := ok_bind' e5
      cases e7
      obtain ⟨mi, j, rfl, hj, nl, rfl⟩ := putAt_ok e6
      intro w H2 F2 g2 hw2
      cases hw2
      have r2 := r1.back g2
      have p2 := pres_FM r1 g2
      obtain ⟨ws, h2, n2, hden2, hz2⟩ := r_own r2 ow e1
      refine ⟨a, ws, mi, j, rfl, rfl, h2, by rw [hden2.length]; exact hj, ?_⟩
      have dv : Den X.K H2 (FM F2 σ Γ L) v d := ((hd1.pres (F' := F2) ⟨fun a xs h => g2.same a _ h, fun a o u h => g2.same a _ h, fun a u f h => by
        refine ⟨?_, g2.same a u h⟩
        by_cases hq : ∃ i, i ∈ L ∧ OwnAt σ Γ i a
        · exact g2.fro a (.inr hq)
        · exact g2.fro a (.inl ⟨f, hq⟩)⟩).free nl)
      exact k _ _ _ (r2.upd ow (DenL.set dv j hden2) (by rw [List.length_set]; exact hz2)) (p1.trans (p2.trans (pres_upd h2 n2)))
    · rw [e4]
      subst e5
      exact fun cls y H' F' g ho => k cls y σ H' _ (r1.back g) (p1.trans (pres_FM r1 g)) ho
  · rw [e2]
    subst e3
    exact fun cls y H' F' g ho => k cls y σ H' _ (r.back g) (pres_FM r g) ho
theorem st_never {st : Stmt} : Sx X W H0 F0 st (fun _ => .stuck) := ⟨fun pins s σ H E I ⟨Γ, F, r, fl, e, k⟩ => nomatch e⟩
theorem sts_never {st : List Stmt} : Ssx X W H0 F0 st (fun _ => .stuck) := ⟨fun pins s σ H E I ⟨Γ, F, r, fl, e, k⟩ => nomatch e⟩
end
section
variable {X : Cx} {W : WX} {H0 : Hp} {F0 : Addr → Prop} {pos apos cpos : Pos}
def addI : D → D → R D
  | .int i, .int j => .ok (.int (i + j))
  | _, _ => .stuck
def subI : D → D → R D
  | .int i, .int j => .ok (.int (i - j))
  | _, _ => .stuck
def IpI (X : Cx) (op : Operator) (g : D → D → R D) : Prop := ∃ f : Int → Int → Int, OpR X (inplaceOp op) (rI0 fun i j => .int (f i j)) ∧ ∀ x y z, g x y = .ok z → ∃ i j, x = .int i ∧ y = .int j ∧ z = .int (f i j)
theorem ip_addI : IpI X .Add addI := ⟨_, iop_add, fun x y z e => by
  unfold addI at e
  split at e
  · cases e; exact ⟨_, _, rfl, rfl, rfl⟩
  · cases e⟩
theorem ip_subI : IpI X .Sub subI := ⟨_, iop_sub, fun x y z e => by
  unfold subI at e
  split at e
  · cases e; exact ⟨_, _, rfl, rfl, rfl⟩
  · cases e⟩
theorem st_aug (L : List Nat) (i : Nat) {x : Str} {e : Expr} {op : Operator} {f : Env → R D} {g : D → D → R D} {pos' : Pos} (ho : IpI X op g) (he : Ex X W e f) (hN : X.N.Nodup) (hi : X.N[i]? = some x := by rfl) (hx : Loc X.env.scope x := by first | exact Or.inl rfl | exact Or.inr rfl)
    (hf : X.fn x = true ∨ X.env.scope.names.lookup x = some .local := by first | exact .inl rfl | exact .inr rfl) : Sx X W H0 F0 (.AugAssign (.Name x pos') op e pos) (augS L i g f) := by
  obtain ⟨fo, ho, hg⟩ := ho
  refine PS.imp (ps_aug hN hi hx he ho hf) fun E σ H ⟨Γ, F, r, fl, e, k⟩ => ?_
  unfold augS at e
  split at e
  · rename_i d q
    obtain ⟨o, e1, v, e2, hd⟩ := r.at_ i _ q
    subst e2
    refine ⟨v, e1, tE_lift r e k fun y e3 w H' F' g1 hw => ?_⟩
    obtain ⟨z, e4, e5⟩ := hard_bind e3
    by_cases c : noLst z = true
    · rw [if_pos c] at e5
      cases e5
      obtain ⟨a, b, rfl, rfl, rfl⟩ := hg _ _ _ e4
      cases hd
      cases hw
      refine ⟨a, b, rfl, rfl, ?_⟩
      exact k _ _ _ ((r.back g1).setda (.int _)) (pres_FM r g1)
    · rw [if_neg c] at e5; cases e5
  · cases e
theorem whileN_le {L : List Nat} {t : Env → R Bool} {body : Gam → R Fl} {fl : Fl} : ∀ {n m : Nat} {Γ : Gam}, n ≤ m → whileN L t body n Γ = .ok fl → whileN L t body m Γ = .ok fl
  | 0, _, _, _, e => by cases e
  | n + 1, 0, _, h, _ => absurd h (Nat.not_succ_le_zero n)
  | n + 1, m + 1, Γ, h, e => by
    unfold whileN at e ⊢
    cases q : t (view L Γ) with
    | exn x => rw [q] at e; exact e
    | stuck => rw [q] at e; cases e
    | ok b =>
      rw [q] at e
      rw [lift_ok] at e ⊢
      cases b with
      | false => exact e
      | true =>
        rw [if_pos rfl] at e ⊢
        obtain ⟨f1, e1, e2⟩ := ok_bind' e
        rw [e1]
        have h' := Nat.le_of_succ_le_succ h
        cases f1 with
        | nx Γ' => exact whileN_le h' e2
        | ct Γ' => exact whileN_le h' e2
        | bk Γ' => exact e2
        | rt d => exact e2
        | rl d => exact e2
        | xn x Γ' => exact e2
theorem whileS_ok {L : List Nat} {t : Env → R Bool} {body : Gam → R Fl} {fl : Fl} {Γ : Gam} (e : whileS L t body Γ = .ok fl) : ∃ n, whileN L t body n Γ = .ok fl := by
  unfold whileS at e
  by_cases h : ∃ n fl, whileN L t body n Γ = .ok fl
  · rw [dif_pos h] at e
    cases e
    exact ⟨_, Classical.choose_spec (Classical.choose_spec h)⟩
  · rw [dif_neg h] at e; cases e
theorem whileS_of {L : List Nat} {t : Env → R Bool} {body : Gam → R Fl} {fl : Fl} {Γ : Gam} {n : Nat} (e : whileN L t body n Γ = .ok fl) : whileS L t body Γ = .ok fl := by
  have h : ∃ n fl, whileN L t body n Γ = .ok fl := ⟨n, fl, e⟩
  have q : whileS L t body Γ = .ok (Classical.choose (Classical.choose_spec h)) := by unfold whileS; rw [dif_pos h]
  obtain ⟨m, e2⟩ := whileS_ok q
  rw [q]
  have a := whileN_le (Nat.le_max_left n m) e
  have b := whileN_le (Nat.le_max_right n m) e2
  rw [a] at b
  exact b.symm
theorem st_while (L : List Nat) {c : Expr} {body : List Stmt} {t : Env → R Bool} {gb : Gam → R Fl} (hp : PassesOwn (model X.prog X.w) X.A X.env X.xe) (hc : Tx X W c t) (hb : Ssx X W H0 F0 body gb) : Sx X W H0 F0 (.While c body [] pos) (whileS L t gb) := by
  refine PS.imp (ps_while hp hc hb) fun E σ H ⟨Γ, F, r, fl, e, k⟩ => ?_
  obtain ⟨n, e⟩ := whileS_ok e
  refine ⟨fun m σ2 H2 => ∃ Γ2 F2, Rel X.K H0 F0 σ2 Γ2 H2 F2 ∧ whileN L t gb m Γ2 = .ok fl ∧ FlOk X.K X.mg W H0 F0 H2 F2 E fl, ⟨n, Γ, F, r, e, k⟩, fun m σ2 H2 ⟨Γ2, F2, r2, e2, k2⟩ => ?_⟩
  cases m with
  | zero => cases e2
  | succ m =>
    unfold whileN at e2
    refine tB_lift r2 e2 k2 fun b e3 H3 F3 r3 p3 => ?_
    have k3 := k2.from p3
    cases b with
    | false =>
      rw [if_neg (by decide)] at e3 ⊢
      cases e3
      exact k3 σ2 H3 F3 r3 .refl
    | true =>
      rw [if_pos rfl] at e3 ⊢
      obtain ⟨f1, e4, e5⟩ := ok_bind' e3
      refine ⟨fun σ' H' => ∃ Γ' F', Rel X.K H0 F0 σ' Γ' H' F' ∧ whileN L t gb m Γ' = .ok fl ∧ FlOk X.K X.mg W H0 F0 H' F' E fl, fun σ' H' q => ⟨m, Nat.lt_succ_self m, q⟩, Γ2, F3, r3, f1, e4, ?_⟩
      cases f1 with
      | nx Γ' => exact fun σ' H' F' r' p => ⟨Γ', F', r', e5, k3.from p⟩
      | ct Γ' => exact fun σ' H' F' r' p => ⟨Γ', F', r', e5, k3.from p⟩
      | bk Γ' => cases e5; exact k3
      | rt d => cases e5; exact k3
      | rl d => cases e5; exact k3
      | xn x Γ' => cases e5; exact k3
/-- y = [..] -/
theorem sw_t {elt : Expr} {gs : List Comprehension} {scope : Scope} {pos py : Pos} {y : Str} {l : Nat} {env : Env} : True := trivial
theorem st_lc (L : List Nat) (i : Nat) {y : Str} {py : Pos} {elt tg iter : Expr} {ifs : List Expr} {scope : Scope} {own : List (Str × Nat)} {spos : Pos} {it : Env → R (List D)} {t : Tg} {fi : Env → R Bool} {fe : Env → R D} (hN : X.N.Nodup) (hi : Ix X W tg iter it) (ok : BlkOk X.N X.env.scope scope own)
    (hsl : ∀ i ∈ slotsT t, i ∈ own.map (·.2))
    (hg : ∀ (s : Shared) (H : Hp) (C : Addr) (cl : List (Str × Addr)) (fp : List Addr), Gx (X.blk s H scope (compEnvC scope cl C X.env) fp) tg t) (ht : ∀ (s : Shared) (H : Hp) (C : Addr) (cl : List (Str × Addr)) (fp : List Addr), Txs (X.blk s H scope (compEnvC scope cl C X.env) fp) W0 ifs fi)
    (he : ∀ (s : Shared) (H : Hp) (C : Addr) (cl : List (Str × Addr)) (fp : List Addr), Ex (X.blk s H scope (compEnvC scope cl C X.env) fp) W0 elt fe)
    (hsw : swapsWith (.ListComp elt [⟨tg, iter, ifs, 0⟩] scope pos) (some (.Name y py)) spos.line X.env = pure true) (hy : X.N[i]? = some y := by rfl) (hyl : X.env.scope.names.lookup y = some .local := by rfl) (hc : X.calm = true := by rfl) (hs : ∀ x, foldedSetIterable iter X.env x = pure x := by intro _; rfl) :
    Sx X W H0 F0 (.Assign [.Name y py] (.ListComp elt [⟨tg, iter, ifs, 0⟩] scope pos) spos) (ownS L i (compE (own.map (·.2)) it t fi fe)) := by
  refine st_asgF L i (PS.imp (ps_setLc (g := tgR X.K t) (tt := tB_ X.K X.mg W0 fi) (te := tE X.K X.mg W0 fe) hc hN hy hyl hsw hi ok hg ht he hs) fun E σ H ⟨ε, F, re, q⟩ => ⟨ε, F, re, ?_⟩)
  exact lc_read (Q := fun x H1 => gName i x σ H1 E.nx) re hsl q
theorem st_lc2 (L : List Nat) (i : Nat) {y : Str} {py : Pos} {elt tg iter tg1 iter1 : Expr} {ifs ifs1 : List Expr} {scope : Scope} {own : List (Str × Nat)} {vs1 : List Nat} {spos : Pos} {it it1 : Env → R (List D)} {t t1 : Tg} {fi fi1 : Env → R Bool} {fe : Env → R D} (hN : X.N.Nodup) (hi : Ix X W tg iter it) (ok : BlkOk X.N X.env.scope scope own) (hv : ∀ i ∈ vs1, i ∈ own.map (·.2))
    (hsl : ∀ i ∈ slotsT t, i ∈ own.map (·.2)) (hsl1 : ∀ i ∈ slotsT t1, i ∈ vs1)
    (hg : ∀ (s : Shared) (H : Hp) (C : Addr) (cl : List (Str × Addr)) (fp : List Addr), Gx (X.blk s H scope (compEnvC scope cl C X.env) fp) tg t) (ht : ∀ (s : Shared) (H : Hp) (C : Addr) (cl : List (Str × Addr)) (fp : List Addr), Txs (X.blk s H scope (compEnvC scope cl C X.env) fp) W0 ifs fi)
    (hi1 : ∀ (s : Shared) (H : Hp) (C : Addr) (cl : List (Str × Addr)) (fp : List Addr), Ix (X.blk s H scope (compEnvC scope cl C X.env) fp) W0 tg1 iter1 it1)
    (hg1 : ∀ (s : Shared) (H : Hp) (C : Addr) (cl : List (Str × Addr)) (fp : List Addr), Gx (X.blk s H scope (compEnvC scope cl C X.env) fp) tg1 t1) (ht1 : ∀ (s : Shared) (H : Hp) (C : Addr) (cl : List (Str × Addr)) (fp : List Addr), Txs (X.blk s H scope (compEnvC scope cl C X.env) fp) W0 ifs1 fi1)
    (he : ∀ (s : Shared) (H : Hp) (C : Addr) (cl : List (Str × Addr)) (fp : List Addr), Ex (X.blk s H scope (compEnvC scope cl C X.env) fp) W0 elt fe)
    (hsw : swapsWith (.ListComp elt [⟨tg, iter, ifs, 0⟩, ⟨tg1, iter1, ifs1, 0⟩] scope pos) (some (.Name y py)) spos.line X.env = pure true) (hy : X.N[i]? = some y := by rfl) (hyl : X.env.scope.names.lookup y = some .local := by rfl) (hc : X.calm = true := by rfl) (hs : ∀ x, foldedSetIterable iter X.env x = pure x := by intro _; rfl) (hs1 : ∀ env x, foldedSetIterable iter1 env x = pure x := by intro _ _; rfl) :
    Sx X W H0 F0 (.Assign [.Name y py] (.ListComp elt [⟨tg, iter, ifs, 0⟩, ⟨tg1, iter1, ifs1, 0⟩] scope pos) spos) (ownS L i (comp2E (own.map (·.2)) vs1 it t fi it1 t1 fi1 fe)) := by
  refine st_asgF L i (PS.imp (ps_setLc2 (g := tgR X.K t) (tt := tB_ X.K X.mg W0 fi) (g1 := tgR X.K t1) (tt1 := tB_ X.K X.mg W0 fi1) (wi1 := tI X.K X.mg W0 it1) (te := tE X.K X.mg W0 fe) hc hN hy hyl hsw hi ok hv hg ht hi1 hg1 ht1 he hs hs1) fun E σ H ⟨ε, F, re, q⟩ => ⟨ε, F, re, ?_⟩)
  exact lc2_read (Q := fun x H1 => gName i x σ H1 E.nx) re hsl hsl1 q
end
end RB

set_option Elab.async false
set_option linter.all false
set_option maxRecDepth 100000
set_option maxHeartbeats 4000000
namespace RB
open PySem PySem.Spec PyProof.Rows L2
/-! ### defs -/
def gam0 (n : Nat) (ds : List D) : Gam := ds.map Sl.da ++ List.replicate (n - ds.length) Sl.un
def endR : R Fl → R D
  | .ok (.nx _) => .ok .none
  | .ok (.rt d) => .ok d
  | .ok (.rl ds) => .ok (.list ds)
  | .ok (.xn e _) => .exn e
  | _ => .stuck
def endF : R Fl → R (List D)
  | .ok (.rl ds) => .ok ds
  | .ok (.xn e _) => .exn e
  | _ => .stuck
/-- a body over n slots, as a function -/
def runS (n : Nat) (g : Gam → R Fl) : List D → R D := fun ds => endR (g (gam0 n ds))
def runF (n : Nat) (g : Gam → R Fl) : List D → R (List D) := fun ds => endF (g (gam0 n ds))
abbrev WD (E : XK) : WX := fun cls d _ H => E cls d H
theorem rel_start {K : PySem.W.Frag} {H : Hp} {F : Addr → Prop} {N : List Str} {vs : List V} {ds : List D} (ok : FOk H F) (h : DenL K H F vs ds) : Rel K H F (start N vs) (gam0 N.length ds) H F := by
  have hl := h.length
  have ow : ∀ {i a}, ¬ OwnAt (start N vs) (gam0 N.length ds) i a := fun {i a} ⟨_, es, o2, o3⟩ => by
    unfold gam0 at o2
    by_cases hi : i < ds.length
    · rw [List.getElem?_append_left (by rw [List.length_map]; exact hi), List.getElem?_map] at o2
      cases q : ds[i]? with
      | none => rw [q] at o2; cases o2
      | some d => rw [q] at o2; cases o2; cases o3
    · rw [List.getElem?_append_right (by rw [List.length_map]; omega)] at o2
      rw [List.getElem?_replicate] at o2
      split at o2
      · cases o2; cases o3
      · cases o2
  refine ⟨by simp only [L2.start, gam0, List.length_append, List.length_map, List.length_replicate, hl], fun i s e => ?_, fun i j a o => absurd o ow, fun i a o => absurd o ow, .refl ok⟩
  unfold gam0 at e
  by_cases hi : i < ds.length
  · rw [List.getElem?_append_left (by rw [List.length_map]; exact hi), List.getElem?_map] at e
    cases q : ds[i]? with
    | none => rw [q] at e; cases e
    | some d =>
      rw [q] at e
      cases e
      obtain ⟨v, e1, hd⟩ := h.getD q
      refine ⟨some v, ?_, v, rfl, hd⟩
      unfold L2.start
      rw [List.getElem?_append_left (by rw [List.length_map, hl]; exact hi), List.getElem?_map, e1]
      rfl
  · rw [List.getElem?_append_right (by rw [List.length_map]; omega), List.getElem?_replicate] at e
    split at e
    · cases e
      rename_i hq
      rw [List.length_map] at hq
      refine ⟨none, ?_, trivial⟩
      unfold L2.start
      rw [List.getElem?_append_right (by rw [List.length_map]; omega), List.getElem?_replicate, List.length_map, hl, if_pos hq]
    · cases e
section
variable {P : Program} {w : World} {K : PySem.W.Frag} {mg : Str → Option Value} {base : Heap}
theorem cal_mk {x qual : Str} {st : Stmt} {f : Addr} {fd : FuncData} {N ps : List Str} {k : Nat} {g : Gam → R Fl} (n : Nat) (F : Fun K x qual st f fd) (S : FnScope N ps (defScope st)) (hm : mg x = some (.ref f))
    (hb : ∀ (kV doc pm : Value) (an : Option Addr) (cdv ct : Value) (us : List Value), us.length = ps.length → bindArgs (PySem.W.fnOf x qual (defArgs st) (defBody st) (defScope st) .none kV doc pm an cdv ct) ⟨us, []⟩ = pure (ps.zip us))
    (hbody : ∀ (cdv : Value) (A : Around) (outer : List PySem.Env) (s : Shared) (H : Hp) (E : XK) (F0 : Addr → Prop), Room k (A.deeper (envOfC qual (defScope st) s.heap.objs.size f cdv)) →
      Ssx (cxOf (L2.CX P w) P w K mg base N qual (defScope st) f cdv A outer s H E) (WD E) H F0 (defBody st) g) (hn : ps.length = n := by rfl) : Cal P w K mg base (k + 1) x n (runS N.length g) := by
  subst hn
  refine ⟨f, fd, ps, hm, F.kp, F.binds hb, rfl, F.okX S (fun vs H Q E h => h.1) fun cdv A outer s H vs Q E hr ⟨hl, ds, F1, ok, hd, q⟩ => ⟨_, hbody cdv A outer s H E F1 hr, ?_⟩⟩
  unfold runS at q
  refine ⟨_, F1, rel_start ok hd, ?_⟩
  show ∃ fl, g (gam0 N.length ds) = .ok fl ∧ _
  cases e : g (gam0 N.length ds) with
  | exn x => rw [e] at q; exact q.elim
  | stuck => rw [e] at q; exact q.elim
  | ok fl =>
    refine ⟨fl, rfl, ?_⟩
    rw [e] at q
    cases fl with
    | nx Γ => exact fun σ H' F' r p => q .non H' F' r.gr .non
    | rt d => exact fun v H' F' g hd => q v H' F' g hd
    | rl ds => exact fun p vs H' F' g hp hp' nf hd hz => q (.ref p) H' _ (grow_freeze g hp hp') (.lst (.inl (.inl ⟨hp', .inr rfl⟩)) (hd.pres pres_freeze) hz)
    | bk Γ => exact q.elim
    | ct Γ => exact q.elim
    | xn e Γ => exact fun cls y σ H' F' r p ho => q cls y H' F' r.gr ho
theorem Cal.le {k j n : Nat} {x : Str} {S : List D → R D} (C : Cal P w K mg base k x n S) (h : k ≤ j) : Cal P w K mg base j x n S := by
  obtain ⟨f, fd, ps, h1, h3, h4, h5, F⟩ := C
  exact ⟨f, fd, ps, h1, h3, h4, h5, F.mono h⟩
/-- what the def answers, when its answer is wanted only there -/
theorem Cal.imp {k n : Nat} {x : Str} {S S' : List D → R D} (C : Cal P w K mg base k x n S) (h : ∀ ds d, S' ds = .ok d → S ds = .ok d) (h2 : ∀ ds e, S' ds = .exn e → S ds = .exn e) : Cal P w K mg base k x n S' := by
  obtain ⟨f, fd, ps, h1, h3, h4, h5, F⟩ := C
  refine ⟨f, fd, ps, h1, h3, h4, h5, ?_⟩
  exact F.imp fun vs H Q E ⟨hl, ds, F1, ok, hd, q⟩ => ⟨hl, ds, F1, ok, hd, by
    cases e : S' ds with
    | ok d => rw [h ds d e]; rw [e] at q; exact q
    | exn x => rw [h2 ds x e]; rw [e] at q; exact q
    | stuck => rw [e] at q; exact q.elim⟩
end
section
variable {X : Cx} {W : WX}
theorem fx_data {f : Env → R (List D)} {e : Expr} (h : Fx X W e f) : Ex X W e (fun ε => f ε >>= fun ds => .ok (.list ds)) := h.ex
end
def dataF (f : Env → R (List D)) : Env → R D := fun ε => f ε >>= fun ds => .ok (.list ds)
theorem tF_data {K : PySem.W.Frag} {mg : Str → Option Value} {W : WX} {f : Env → R (List D)} {σ : L2.St} {H : Hp} {Q : VK} (h : tE K mg W (dataF f) σ H Q) : tF K mg W f σ H Q := by
  obtain ⟨ε, F, re, q⟩ := h
  refine ⟨ε, F, re, ?_⟩
  refine R.wp_mono (R.wp_bind q) (fun ds k p vs H' F' g hp hp' nf hd hz => ?_) (fun e k => k)
  exact k _ _ _ (grow_freeze g hp hp') (.lst (.inl (.inl ⟨hp', .inr rfl⟩)) (hd.pres pres_freeze) hz)
section
variable {X : Cx} {W : WX} {H0 : Hp} {F0 : Addr → Prop} {pos : Pos}
/-- y = [..], y data -/
theorem st_lcD (L : List Nat) (i : Nat) {y : Str} {py : Pos} {elt tg iter : Expr} {ifs : List Expr} {scope : Scope} {own : List (Str × Nat)} {spos : Pos} {it : Env → R (List D)} {t : Tg} {fi : Env → R Bool} {fe : Env → R D} (hN : X.N.Nodup) (hi : Ix X W tg iter it) (ok : BlkOk X.N X.env.scope scope own)
    (hsl : ∀ i ∈ slotsT t, i ∈ own.map (·.2))
    (hg : ∀ (s : Shared) (H : Hp) (C : Addr) (cl : List (Str × Addr)) (fp : List Addr), Gx (X.blk s H scope (compEnvC scope cl C X.env) fp) tg t) (ht : ∀ (s : Shared) (H : Hp) (C : Addr) (cl : List (Str × Addr)) (fp : List Addr), Txs (X.blk s H scope (compEnvC scope cl C X.env) fp) W0 ifs fi)
    (he : ∀ (s : Shared) (H : Hp) (C : Addr) (cl : List (Str × Addr)) (fp : List Addr), Ex (X.blk s H scope (compEnvC scope cl C X.env) fp) W0 elt fe)
    (hsw : swapsWith (.ListComp elt [⟨tg, iter, ifs, 0⟩] scope pos) (some (.Name y py)) spos.line X.env = pure true) (hy : X.N[i]? = some y := by rfl) (hyl : X.env.scope.names.lookup y = some .local := by rfl) (hc : X.calm = true := by rfl) (hs : ∀ x, foldedSetIterable iter X.env x = pure x := by intro _; rfl) :
    Sx X W H0 F0 (.Assign [.Name y py] (.ListComp elt [⟨tg, iter, ifs, 0⟩] scope pos) spos) (setS L i (dataF (compE (own.map (·.2)) it t fi fe))) := by
  refine st_asg L i (PS.imp (ps_setLc (g := tgR X.K t) (tt := tB_ X.K X.mg W0 fi) (te := tE X.K X.mg W0 fe) hc hN hy hyl hsw hi ok hg ht he hs) fun E σ H h => ?_)
  obtain ⟨ε, F, re, q⟩ := tF_data h
  exact ⟨ε, F, re, lc_read (Q := fun x H1 => gName i x σ H1 E.nx) re hsl q⟩
theorem st_lc2D (L : List Nat) (i : Nat) {y : Str} {py : Pos} {elt tg iter tg1 iter1 : Expr} {ifs ifs1 : List Expr} {scope : Scope} {own : List (Str × Nat)} {vs1 : List Nat} {spos : Pos} {it it1 : Env → R (List D)} {t t1 : Tg} {fi fi1 : Env → R Bool} {fe : Env → R D} (hN : X.N.Nodup) (hi : Ix X W tg iter it) (ok : BlkOk X.N X.env.scope scope own) (hv : ∀ i ∈ vs1, i ∈ own.map (·.2))
    (hsl : ∀ i ∈ slotsT t, i ∈ own.map (·.2)) (hsl1 : ∀ i ∈ slotsT t1, i ∈ vs1)
    (hg : ∀ (s : Shared) (H : Hp) (C : Addr) (cl : List (Str × Addr)) (fp : List Addr), Gx (X.blk s H scope (compEnvC scope cl C X.env) fp) tg t) (ht : ∀ (s : Shared) (H : Hp) (C : Addr) (cl : List (Str × Addr)) (fp : List Addr), Txs (X.blk s H scope (compEnvC scope cl C X.env) fp) W0 ifs fi)
    (hi1 : ∀ (s : Shared) (H : Hp) (C : Addr) (cl : List (Str × Addr)) (fp : List Addr), Ix (X.blk s H scope (compEnvC scope cl C X.env) fp) W0 tg1 iter1 it1)
    (hg1 : ∀ (s : Shared) (H : Hp) (C : Addr) (cl : List (Str × Addr)) (fp : List Addr), Gx (X.blk s H scope (compEnvC scope cl C X.env) fp) tg1 t1) (ht1 : ∀ (s : Shared) (H : Hp) (C : Addr) (cl : List (Str × Addr)) (fp : List Addr), Txs (X.blk s H scope (compEnvC scope cl C X.env) fp) W0 ifs1 fi1)
    (he : ∀ (s : Shared) (H : Hp) (C : Addr) (cl : List (Str × Addr)) (fp : List Addr), Ex (X.blk s H scope (compEnvC scope cl C X.env) fp) W0 elt fe)
    (hsw : swapsWith (.ListComp elt [⟨tg, iter, ifs, 0⟩, ⟨tg1, iter1, ifs1, 0⟩] scope pos) (some (.Name y py)) spos.line X.env = pure true) (hy : X.N[i]? = some y := by rfl) (hyl : X.env.scope.names.lookup y = some .local := by rfl) (hc : X.calm = true := by rfl) (hs : ∀ x, foldedSetIterable iter X.env x = pure x := by intro _; rfl) (hs1 : ∀ env x, foldedSetIterable iter1 env x = pure x := by intro _ _; rfl) :
    Sx X W H0 F0 (.Assign [.Name y py] (.ListComp elt [⟨tg, iter, ifs, 0⟩, ⟨tg1, iter1, ifs1, 0⟩] scope pos) spos) (setS L i (dataF (comp2E (own.map (·.2)) vs1 it t fi it1 t1 fi1 fe))) := by
  refine st_asg L i (PS.imp (ps_setLc2 (g := tgR X.K t) (tt := tB_ X.K X.mg W0 fi) (g1 := tgR X.K t1) (tt1 := tB_ X.K X.mg W0 fi1) (wi1 := tI X.K X.mg W0 it1) (te := tE X.K X.mg W0 fe) hc hN hy hyl hsw hi ok hv hg ht hi1 hg1 ht1 he hs hs1) fun E σ H h => ?_)
  obtain ⟨ε, F, re, q⟩ := tF_data h
  exact ⟨ε, F, re, lc2_read (Q := fun x H1 => gName i x σ H1 E.nx) re hsl hsl1 q⟩
end
end RB

set_option Elab.async false
set_option linter.all false
set_option maxRecDepth 100000
set_option maxHeartbeats 4000000
namespace RB
open PySem PySem.Spec PyProof.Rows L2
/-! ### slices -/
def cutD {α : Type} (xs : List α) (lo hi : Option Int) : List α := (xs.drop (HT.sIx xs.length 0 lo)).take (HT.sIx xs.length xs.length hi - HT.sIx xs.length 0 lo)
def sliceD (d : D) (lo hi : Option Int) : R D := match d with
  | .list xs => .ok (.list (cutD xs lo hi))
  | .tuple xs => .ok (.tuple (cutD xs lo hi))
  | .str z => .ok (.str (cutS z lo hi))
  | _ => .stuck
theorem okS_cut {z : Str} (h : okS z) (lo hi : Option Int) : okS (cutS z lo hi) := by
  refine ⟨Nat.le_trans (cutS_length z lo hi) h.1, ?_⟩
  have h2 := h.2
  rw [← Array.all_toList, List.all_eq_true] at h2
  show (((z.cps.toList.drop (HT.sIx z.length 0 lo)).take (HT.sIx z.length z.length hi - HT.sIx z.length 0 lo)).toArray).all _ = true
  rw [← Array.all_toList, List.all_eq_true]
  intro c hc
  exact h2 c (List.mem_of_mem_drop (List.mem_of_mem_take (by simpa using hc)))
def rSlAll (K : PySem.W.Frag) : V → Option Int → Option Int → Hp → VK → Prop := fun x lo hi H Q => rSlL K x lo hi H Q ∨ rSlA K x lo hi H Q ∨ rSlS x lo hi H Q
theorem sl_all' {X : Cx} : L2.SlR X (rSlAll X.K) := (sl_list (X := X)).or ((sl_tupA (X := X)).or (sl_str (X := X)))
theorem cut_len {α : Type} (xs : List α) (lo hi : Option Int) : (cutD xs lo hi).length ≤ xs.length := by
  unfold cutD
  rw [List.length_take, List.length_drop]
  omega
theorem cut_whole {α : Type} {xs : List α} {lo hi : Option Int} (h : HT.sIx xs.length 0 lo = 0 ∧ HT.sIx xs.length xs.length hi = xs.length) : cutD xs lo hi = xs := by
  unfold cutD
  rw [h.1, h.2, List.drop_zero, Nat.sub_zero, List.take_length]
theorem g_slice {K : PySem.W.Frag} {x : V} {d : D} {lo hi : Option Int} {H : Hp} {F : Addr → Prop} {Q : VK} (ok : FOk H F) (h : Den K H F x d) (k : (sliceD d lo hi).wp (Fin1 K H F Q) NoE) : rSlAll K x lo hi H Q := by
  cases h with
  | str z hz => exact .inr (.inr ⟨z, rfl, hz.1, fin_same k ok (.str _ (okS_cut hz _ _))⟩)
  | @lst a vs ds h1 h2 h3 =>
    refine .inl ⟨a, vs, rfl, h1.sql, ?_⟩
    have e : DenL K H F (cutV vs lo hi) (cutD ds lo hi) := by
      unfold cutV cutD
      rw [h2.length]
      exact (h2.drop _).take _
    exact fin_lst k ok e (Nat.le_trans (cutV_length vs lo hi) h3)
  | @tup a vs ds h1 h2 h3 =>
    refine .inr (.inl ⟨a, vs, rfl, (.of h1), fun hw => ?_, fun hw => ?_⟩)
    · rw [h2.length] at hw
      have k' : Fin1 K H F Q (.tuple (cutD ds lo hi)) := k
      rw [cut_whole hw] at k'
      exact fin_same k' ok (.tup h1 h2 h3)
    · have e : DenL K H F (cutV vs lo hi) (cutD ds lo hi) := by
        unfold cutV cutD
        rw [h2.length]
        exact (h2.drop _).take _
      exact fin_tup k ok e (Nat.le_trans (cutV_length vs lo hi) h3)
  | _ => exact k.elim
/-- a part of a slice -/
def partE : Option (Env → R D) → Env → R (Option Int)
  | none, _ => .ok none
  | some f, ε => f ε >>= fun d => match d with
    | .int i => .ok (some i)
    | _ => .stuck
def tP (K : PySem.W.Frag) (mg : Str → Option Value) (W : WX) (o : Option (Env → R D)) : TO := fun σ H Q => ∃ ε F, RE K σ ε H F ∧ (partE o ε).wp (fun d => ∀ H' F', Grow H F H' F' → Q d H') fun e => ∀ cls x H' F', Grow H F H' F' → ExnOf mg e cls x H' → W cls x σ H'
abbrev Px (X : Cx) (W : WX) (e : Option Expr) (o : Option (Env → R D)) : Prop := PO X e (tP X.K X.mg W o)
theorem PO.imp {X : Cx} {e : Option Expr} {t t' : TO} (h : PO X e t) (i : ∀ σ H Q, t' σ H Q → t σ H Q) : PO X e t' := ⟨fun pins s σ H Q I hw => h.run pins s σ H Q I (i _ _ _ hw)⟩
section
variable {X : Cx} {W : WX} {e : Expr} {f : Env → R D} {pos p2 : Pos}
theorem px_none : Px X W none none := PO.imp po_none fun σ H Q ⟨ε, F, re, q⟩ => q H F (.refl re.ok)
theorem px_some (h : Ex X W e f) : Px X W (some e) (some f) := PO.imp (po_some h) fun σ H Q ⟨ε, F, re, q⟩ => by
  refine ⟨ε, F, re, R.wp_mono (R.wp_bind q) (fun d k v H1 F1 g1 d1 => ?_) (fun e k => k)⟩
  cases d1 with
  | int i => exact ⟨i, rfl, k H1 F1 g1⟩
  | _ => exact k.elim
def sliceE (f : Env → R D) (lo hi : Option (Env → R D)) : Env → R D := fun ε => f ε >>= fun d => partE lo ε >>= fun l => partE hi ε >>= fun u => (sliceD d l u).hard
theorem ex_slice {lo hi : Option Expr} {fl fh : Option (Env → R D)} (he : Ex X W e f) (hl : Px X W lo fl) (hu : Px X W hi fh) : Ex X W (.Subscript e (.Slice lo hi none p2) pos) (sliceE f fl fh) := by
  refine PE.imp (pe_slice sl_all' he hl hu) fun σ H Q ⟨ε, F, re, q⟩ => ?_
  refine ⟨ε, F, re, R.wp_mono (R.wp_bind q) (fun d k v H1 F1 g1 d1 => ?_) (fun e k => k)⟩
  refine ⟨ε, F1, re.grow g1, R.wp_mono (R.wp_bind k) (fun l k H2 F2 g2 => ?_) (fun e k => exnG (K := X.K) g1 k)⟩
  refine ⟨ε, F2, re.grow (g1.trans g2), R.wp_mono (R.wp_bind k) (fun u k H3 F3 g3 => ?_) (fun e k => exnG (K := X.K) (g1.trans g2) k)⟩
  exact g_slice g3.ok (d1.grow (g2.trans g3)) (hardN k fun d k => fin_grow (g1.trans (g2.trans g3)) k)
def revD : D → R D
  | .list xs => .ok (.list xs.reverse)
  | _ => .stuck
def revE (f : Env → R D) : Env → R D := fun ε => f ε >>= fun d => (revD d).hard
theorem ex_revL {k : Nat} {p1 p3 p4 : Pos} (he : Ex X W e f) : Ex X W (.Subscript e (.Slice none none (some (.UnaryOp .USub (.Constant (.int 1) k p1) p2)) p3) pos) (revE f) := by
  refine PE.imp (pe_revL he) fun σ H Q ⟨ε, F, re, q⟩ => ?_
  refine ⟨ε, F, re, R.wp_mono (R.wp_bind q) (fun d k v H1 F1 g1 d1 => ?_) (fun e k => k)⟩
  cases d1 with
  | @lst a vs ds h1 h2 h3 =>
    have k' : Fin1 X.K H F Q (.list ds.reverse) := k
    exact ⟨a, vs, rfl, h1.sql, fin_lst (fin_grow g1 k') g1.ok h2.reverse (by rw [List.length_reverse]; exact h3)⟩
  | _ => exact k.elim
end
end RB

set_option Elab.async false
set_option linter.all false
set_option maxRecDepth 100000
set_option maxHeartbeats 4000000
namespace RB
open PySem PySem.Spec PyProof.Rows L2
section
variable {P : Program} {w : World} {K : PySem.W.Frag} {mg : Str → Option Value} {base : Heap}
theorem fn_mkD {x qual : Str} {pr : Arguments} {bd : List Stmt} {sc : Scope} {dvs : List V} {kws : List (Str × V)} {f : Addr} {fd : FuncData} {N ps : List Str} {k : Nat} {g : Gam → R Fl} (F : FunD K x qual pr bd sc dvs kws f fd) (S : FnScope N ps sc)
    (hbody : ∀ (cdv : Value) (A : Around) (outer : List PySem.Env) (s : Shared) (H : Hp) (E : XK) (F0 : Addr → Prop), Room k (A.deeper (envOfC qual sc s.heap.objs.size f cdv)) →
      Ssx (cxOf (L2.CX P w) P w K mg base N qual sc f cdv A outer s H E) (WD E) H F0 bd g) : FnOk P w K mg base (L2.CX P w) (k + 1) f fd ps (spD K mg ps.length (runS N.length g)) := by
  refine F.ok S (fun vs H Q E h => h.1) fun cdv A outer s H vs Q E hr ⟨hl, ds, F1, ok, hd, q⟩ => ⟨_, hbody cdv A outer s H E F1 hr, ?_⟩
  unfold runS at q
  refine ⟨_, F1, rel_start ok hd, ?_⟩
  show ∃ fl, g (gam0 N.length ds) = .ok fl ∧ _
  cases e : g (gam0 N.length ds) with
  | exn x => rw [e] at q; exact q.elim
  | stuck => rw [e] at q; exact q.elim
  | ok fl =>
    refine ⟨fl, rfl, ?_⟩
    rw [e] at q
    cases fl with
    | nx Γ => exact fun σ H' F' r p => q .non H' F' r.gr .non
    | rt d => exact fun v H' F' g hd => q v H' F' g hd
    | rl ds => exact fun p vs H' F' g hp hp' nf hd hz => q (.ref p) H' _ (grow_freeze g hp hp') (.lst (.inl (.inl ⟨hp', .inr rfl⟩)) (hd.pres pres_freeze) hz)
    | bk Γ => exact q.elim
    | ct Γ => exact q.elim
    | xn e Γ => exact fun cls y σ H' F' r p ho => q cls y H' F' r.gr ho
theorem cal_mkD {x qual : Str} {pr : Arguments} {bd : List Stmt} {sc : Scope} {f : Addr} {fd : FuncData} {N ps : List Str} {k : Nat} {g : Gam → R Fl} (n : Nat) (F : FunD K x qual pr bd sc [] [] f fd) (S : FnScope N ps sc) (hm : mg x = some (.ref f))
    (hb : ∀ (kV doc pm : Value) (an : Option Addr) (cdv ct : Value) (us : List Value), us.length = ps.length → bindArgs (PySem.W.fnOf x qual pr bd sc .none kV doc pm an cdv ct) ⟨us, []⟩ = pure (ps.zip us))
    (hbody : ∀ (cdv : Value) (A : Around) (outer : List PySem.Env) (s : Shared) (H : Hp) (E : XK) (F0 : Addr → Prop), Room k (A.deeper (envOfC qual sc s.heap.objs.size f cdv)) →
      Ssx (cxOf (L2.CX P w) P w K mg base N qual sc f cdv A outer s H E) (WD E) H F0 bd g) (hn : ps.length = n := by rfl) : Cal P w K mg base (k + 1) x n (runS N.length g) := by
  subst hn
  exact ⟨f, fd, ps, hm, F.kp, F.bindsN hb, rfl, fn_mkD F S hbody⟩
/-- the def answers a new list that nothing else knows -/
theorem fn_mkL {x qual : Str} {pr : Arguments} {bd : List Stmt} {sc : Scope} {dvs : List V} {kws : List (Str × V)} {f : Addr} {fd : FuncData} {N ps : List Str} {k : Nat} {g : Gam → R Fl} (F : FunD K x qual pr bd sc dvs kws f fd) (S : FnScope N ps sc)
    (hbody : ∀ (cdv : Value) (A : Around) (outer : List PySem.Env) (s : Shared) (H : Hp) (E : XK) (F0 : Addr → Prop), Room k (A.deeper (envOfC qual sc s.heap.objs.size f cdv)) →
      Ssx (cxOf (L2.CX P w) P w K mg base N qual sc f cdv A outer s H E) (WD E) H F0 bd g) : FnOk P w K mg base (L2.CX P w) (k + 1) f fd ps (spL K mg ps.length (runF N.length g)) := by
  refine F.ok S (fun vs H Q E h => h.1) fun cdv A outer s H vs Q E hr ⟨hl, ds, F1, ok, hd, q⟩ => ⟨_, hbody cdv A outer s H E F1 hr, ?_⟩
  unfold runF at q
  refine ⟨_, F1, rel_start ok hd, ?_⟩
  show ∃ fl, g (gam0 N.length ds) = .ok fl ∧ _
  cases e : g (gam0 N.length ds) with
  | exn x => rw [e] at q; exact q.elim
  | stuck => rw [e] at q; exact q.elim
  | ok fl =>
    refine ⟨fl, rfl, ?_⟩
    rw [e] at q
    cases fl with
    | nx Γ => exact q.elim
    | rt d => exact q.elim
    | rl ds => exact fun p vs H' F' g hp hp' nf hd hz => q p vs H' F' g hp hp' nf hd hz
    | bk Γ => exact q.elim
    | ct Γ => exact q.elim
    | xn e Γ => exact fun cls y σ H' F' r p ho => q cls y H' F' r.gr ho
theorem cal_mkL {x qual : Str} {pr : Arguments} {bd : List Stmt} {sc : Scope} {f : Addr} {fd : FuncData} {N ps : List Str} {k : Nat} {g : Gam → R Fl} (n : Nat) (F : FunD K x qual pr bd sc [] [] f fd) (S : FnScope N ps sc) (hm : mg x = some (.ref f))
    (hb : ∀ (kV doc pm : Value) (an : Option Addr) (cdv ct : Value) (us : List Value), us.length = ps.length → bindArgs (PySem.W.fnOf x qual pr bd sc .none kV doc pm an cdv ct) ⟨us, []⟩ = pure (ps.zip us))
    (hbody : ∀ (cdv : Value) (A : Around) (outer : List PySem.Env) (s : Shared) (H : Hp) (E : XK) (F0 : Addr → Prop), Room k (A.deeper (envOfC qual sc s.heap.objs.size f cdv)) →
      Ssx (cxOf (L2.CX P w) P w K mg base N qual sc f cdv A outer s H E) (WD E) H F0 bd g) (hn : ps.length = n := by rfl) : CalL P w K mg base (k + 1) x n (runF N.length g) := by
  subst hn
  exact ⟨f, fd, ps, hm, F.kp, F.bindsN hb, rfl, fn_mkL F S hbody⟩
theorem law_den {H : Hp} {a : Addr} {ns : List Int} (h : SqL K H a (ns.map V.int)) (hz : ns.length ≤ 63) : ∃ F, FOk H F ∧ Den K H F (.ref a) (.list (ns.map .int)) := by
  have hz' : (ns.map V.int).length ≤ sizeLine := by rw [List.length_map]; exact Nat.le_trans hz (by decide)
  refine ⟨fun b => b = a ∧ ∃ u, H b = some u, fun b f => f.2, .lst ?_ (DenL.of_ints ns) hz'⟩
  rcases h with (h | ⟨o, h⟩) | h
  · exact .inl (.inl ⟨h, rfl, _, h⟩)
  · exact .inl (.inr ⟨o, h⟩)
  · exact .inr h
theorem law_sp {H : Hp} {a : Addr} {ns : List Int} {S : List D → R D} (h : SqL K H a (ns.map V.int)) (hz : ns.length ≤ 63) (hS : S [.list (ns.map .int)] = .ok (.bool true)) : spD K mg 1 S [.ref a] H (fun v _ => v = .bl true) fun _ _ _ => False := by
  obtain ⟨F, ok, hd⟩ := law_den h hz
  refine ⟨rfl, _, F, ok, .cons hd .nil, ?_⟩
  rw [hS]
  intro v H' F' g hv
  cases hv
  rfl
theorem walk_ofR {l : PySem.W.OpenLaw} {n k : Nat} {q : Program} {loose : List Str} {XP : (Str → Option Value) → Heap → Prop} {YP : World → Heap → Prop} {d : DefRec} {x : Str} {S : List D → R D}
    (hn : l.most = some n) (hn2 : n ≤ 63) (hdf : d.params.defaults = []) (hr : Room k callerA)
    (F : ∀ (w : World) (mg : Str → Option Value) (fa : Addr) (h : Heap), YP w h → h.Ns mainGlobals mg → mg d.name = some (.ref fa) → ∃ (K : PySem.W.Frag) (fd : FuncData), K.In h ∧ (∀ (s : Shared) (u : Value), BindsTo s fd ⟨[u], []⟩ [(x, u)]) ∧
      ∀ base : Heap, K.In base → base.Ns mainGlobals mg → FnOk l.prog w K mg base (L2.CX l.prog w) k fa fd [x] (spD K mg 1 S))
    (hS : ∀ ns : List Int, ns.length ≤ n → S [.list (ns.map .int)] = .ok (.bool true)) :
    PySem.W.WalkO q loose XP YP l.row.toRowW d [] (fun f vs => PySem.call f vs) := by
  refine Att.attach_call hn hdf fun w s0 s1 mg mb fa o pm cd doc a vs ns G Y ho hd hcd hmg hobj hints hlen hg => ?_
  obtain ⟨K, fd, KX, hb, hF⟩ := F w mg fa _ Y G.T.g hmg
  refine law_call KX G.T.g G.T.b G.T.builtins G.T.nolimit hg hobj hints (Nat.le_trans hlen (Nat.le_trans hn2 (by decide))) hr hF hb (fun H _ hs => law_sp hs (Nat.le_trans hlen hn2) (hS ns hlen)) fun H e s' c => ?_
  obtain ⟨_, _, _, _, _, _, _, _, _, _, _, _, z⟩ := c
  exact z
end
end RB

set_option Elab.async false
set_option linter.all false
set_option maxRecDepth 100000
set_option maxHeartbeats 4000000
namespace RB
open PySem PySem.Spec PyProof.Rows L2
theorem hu64 {k : Nat} {A : Around} (r : Room k A) : A.units + 64 < cLine := by have := r.un; omega
theorem hu66 {k : Nat} {A : Around} (r : Room k A) : A.units + 66 < cLine := by have := r.un; omega
end RB

set_option Elab.async false
set_option linter.all false
set_option maxRecDepth 100000
set_option maxHeartbeats 4000000
namespace RB
open PySem PySem.Spec PyProof.Rows L2
/-! ### text * int -/
def repS (z : Str) (k : Nat) : Str := ⟨((List.replicate k z.cps.toList).flatten).toArray⟩
theorem fold_app (a : Array Nat) : ∀ (k : Nat) (acc : Array Nat), (List.replicate k a).foldl (· ++ ·) acc = acc ++ ((List.replicate k a.toList).flatten).toArray
  | 0, acc => by simp
  | k + 1, acc => by
    rw [List.replicate_succ, List.foldl_cons, fold_app a k, List.replicate_succ, List.flatten_cons]
    apply Array.toList_inj.mp
    simp
theorem repS_len (z : Str) (k : Nat) : (repS z k).length = k * z.length := by
  show ((List.replicate k z.cps.toList).flatten).toArray.size = _
  rw [List.size_toArray, len_rep]
  simp [Str.length]
def rRepS : R2 := fun x y H Q => ∃ z k, x = .str z ∧ y = .int k ∧ -(2 ^ 62) ≤ k ∧ k ≤ 1000000 ∧ z.length * k.toNat ≤ 1000000 ∧ Q (.str (repS z k.toNat)) H
section
variable {X : Cx} {K : PySem.W.Frag}
theorem op_repS : OpR X (binaryOp .Mult) rRepS := by
  intro pins s σ H x y v u Q I rx ry h
  obtain ⟨z, k, rfl, rfl, h1, h2, h3, q⟩ := h
  obtain ⟨t, rfl⟩ := rx
  obtain ⟨t', rfl⟩ := ry
  have hr : (decide (k < -(2 ^ 63 : Int)) || decide (k ≥ 2 ^ 63)) = false := by
    rw [decide_eq_false (by omega), decide_eq_false (by omega)]; rfl
  refine PySem.P.mul_str hr (fun hn hq => ?_) (fun hn hq => ?_) ?_
  · rw [Bool.or_eq_false_iff] at hq
    have hk : (1 : Int) ≤ k := by omega
    have hz : z.length ≤ 1000000 := by
      have : z.length * 1 ≤ z.length * k.toNat := Nat.mul_le_mul_left _ (by omega)
      omega
    have : (1000000 : Int) ≤ (2 ^ 63 - 1) / k := by
      rw [Int.le_ediv_iff_mul_le (by omega)]
      have : (1000000 : Int) * k ≤ 1000000 * 1000000 := Int.mul_le_mul_of_nonneg_left h2 (by omega)
      omega
    omega
  · unfold Builtin.Str.tooLong
    exact decide_eq_false (by
      have : (1000000 : Nat) ≤ sizeLine := by decide
      omega)
  · by_cases hn : k < 1
    · rw [if_pos hn]
      have e : repS z k.toNat = Str.empty := by
        have : k.toNat = 0 := by omega
        rw [this]; rfl
      rw [e] at q
      exact ⟨by decide, .str _, H, I.tok _, ⟨_, rfl⟩, q⟩
    · rw [if_neg hn]
      by_cases hq : (k == 1 || z.length == 0) = true
      · rw [if_pos hq]
        have e : repS z k.toNat = z := by
          rw [Bool.or_eq_true] at hq
          rcases hq with hq | hq
          · have : k = 1 := by simpa using hq
            subst this
            show (⟨((List.replicate 1 z.cps.toList).flatten).toArray⟩ : Str) = z
            cases z; simp
          · have : z.cps.toList = [] := by
              have : z.cps.size = 0 := by simpa [Str.length] using hq
              simpa using this
            unfold repS
            rw [this]
            cases z with
            | mk c =>
              have : c = #[] := by simpa using this
              subst this
              simp
        rw [e] at q
        exact ⟨.str _, H, I, ⟨_, rfl⟩, q⟩
      · rw [if_neg hq]
        have e : (⟨(List.replicate k.toNat z.cps).foldl (· ++ ·) #[]⟩ : Str) = repS z k.toNat := by
          rw [fold_app]
          unfold repS
          simp
        rw [e]
        exact ⟨by rw [repS_len, Nat.mul_comm]; exact Nat.le_trans h3 (by decide), .str _, H, I.tok _, ⟨_, rfl⟩, q⟩
/-! ### in -/
/-- the first text within the second -/
def strIn (a b : Str) : Bool := !(Builtin.Str.occurrences b a 0 b.length 1).isEmpty
theorem strIn_sign (c : Nat) (z : Str) : strIn ⟨#[c]⟩ z = decide (c ∈ z.cps.toList) := by
  unfold strIn
  exact PySem.StrLaws.found_one z c
def flatB : D → Bool
  | .none | .bool _ | .int _ | .str _ => true
  | _ => false
def inD (x y : D) : R D := match y with
  | .str b => match x with
    | .str a => .ok (.bool (strIn a b))
    | _ => .stuck
  | .list ys => if cmpOk x = true ∧ cmpOk (.list ys) = true then .ok (.bool (ys.any fun z => PyData.eqv z x)) else .stuck
  | .tuple ys => if flatB x = true ∧ ys.all flatB = true then .ok (.bool (ys.any fun z => PyData.eqv z x)) else .stuck
  | _ => .stuck
def ninD (x y : D) : R D := match y with
  | .str b => match x with
    | .str a => .ok (.bool (!strIn a b))
    | _ => .stuck
  | .list ys => if cmpOk x = true ∧ cmpOk (.list ys) = true then .ok (.bool (!ys.any fun z => PyData.eqv z x)) else .stuck
  | .tuple ys => if flatB x = true ∧ ys.all flatB = true then .ok (.bool (!ys.any fun z => PyData.eqv z x)) else .stuck
  | _ => .stuck
def rInS : R2 := fun x y H Q => ∃ i j, x = .str i ∧ y = .str j ∧ Q (.bl (!(Builtin.Str.occurrences j i 0 j.length 1).isEmpty)) H
def rNinS : R2 := fun x y H Q => ∃ i j, x = .str i ∧ y = .str j ∧ Q (.bl (!(!(Builtin.Str.occurrences j i 0 j.length 1).isEmpty))) H
def rInA (K : PySem.W.Frag) : R2 := fun x y H Q => rInS x y H Q ∨ rInD K x y H Q ∨ rIn K false x y H Q
def rNinA (K : PySem.W.Frag) : R2 := fun x y H Q => rNinS x y H Q ∨ rNotInD K x y H Q ∨ rIn K true x y H Q
theorem op_inA (hu : X.A.units + 66 < cLine) : OpR X (compareOp .In) (rInA X.K) := (show OpR X (compareOp .In) rInS from op_in_str).or ((op_inD (by omega)).or op_in_seq)
theorem op_ninA (hu : X.A.units + 66 < cLine) : OpR X (compareOp .NotIn) (rNinA X.K) := (show OpR X (compareOp .NotIn) rNinS from op_notin_str).or ((op_notInD (by omega)).or op_notIn_seq)
theorem flat_den {H : Hp} {F : Addr → Prop} {v : V} {d : D} (h : Den K H F v d) (f : flatB d = true) : flatV v = true := by
  cases h <;> first | rfl | cases f
theorem flat_denL {H : Hp} {F : Addr → Prop} : ∀ {vs : List V} {ds : List D}, DenL K H F vs ds → ds.all flatB = true → vs.all flatV = true
  | _, _, .nil, _ => rfl
  | _, _, .cons h hs, f => by
    rw [List.all_cons, Bool.and_eq_true] at f
    rw [List.all_cons, flat_den h f.1, flat_denL hs f.2]; rfl
theorem eqV_den {H : Hp} {F : Addr → Prop} {v w : V} {d e : D} (h : Den K H F v d) (h' : Den K H F w e) (f : flatB d = true) (f' : flatB e = true) : eqV v w = PyData.eqv d e := by
  cases h <;> first | (cases f; done) | (cases h' <;> first | (cases f'; done) | rfl | (unfold eqV PyData.eqv; first | rfl | (simp; done) | (rename_i a b; cases a <;> cases b <;> rfl) | (rename_i a b; cases a <;> rfl) | (rename_i a b; cases b <;> rfl)))
theorem any_den {H : Hp} {F : Addr → Prop} {w : V} {e : D} (h' : Den K H F w e) (f' : flatB e = true) : ∀ {vs : List V} {ds : List D}, DenL K H F vs ds → ds.all flatB = true → (vs.any fun y => eqV y w) = ds.any fun z => PyData.eqv z e
  | _, _, .nil, _ => rfl
  | _, _, .cons h hs, f => by
    rw [List.all_cons, Bool.and_eq_true] at f
    rw [List.any_cons, List.any_cons, eqV_den h h' f.1 f', any_den h' f' hs f.2]
theorem g_in : G2 K (rInA K) inD := by
  intro x y dx dy H F Q ok hx hy k
  unfold inD at k
  cases hy with
  | str b hb =>
    cases hx with
    | str a ha => exact .inl ⟨a, b, rfl, rfl, fin_same k ok (.bl _)⟩
    | _ => exact k.elim
  | @lst a vs ds h1 h2 h3 =>
    obtain ⟨⟨c1, c2⟩, k⟩ := ite_wp (x := R.ok _) k
    obtain ⟨e1, e2⟩ := cmp_of hx c1
    obtain ⟨e3, e4⟩ := cmp_of (.lst h1 h2 h3) c2
    exact .inr (.inl ⟨_, _, e1, e3, e2, e4, fin_same k ok (.bl _)⟩)
  | @tup a vs ds h1 h2 h3 =>
    obtain ⟨⟨c1, c2⟩, k⟩ := ite_wp (x := R.ok _) k
    refine .inr (.inr ⟨a, vs, rfl, .inr (.of h1), flat_den hx c1, flat_denL h2 c2, ?_⟩)
    show Q (.bl (inV x vs)) H
    unfold inV
    rw [any_den hx c1 h2 c2]
    exact fin_same k ok (.bl _)
  | _ => exact k.elim
theorem g_nin : G2 K (rNinA K) ninD := by
  intro x y dx dy H F Q ok hx hy k
  unfold ninD at k
  cases hy with
  | str b hb =>
    cases hx with
    | str a ha => exact .inl ⟨a, b, rfl, rfl, fin_same k ok (.bl _)⟩
    | _ => exact k.elim
  | @lst a vs ds h1 h2 h3 =>
    obtain ⟨⟨c1, c2⟩, k⟩ := ite_wp (x := R.ok _) k
    obtain ⟨e1, e2⟩ := cmp_of hx c1
    obtain ⟨e3, e4⟩ := cmp_of (.lst h1 h2 h3) c2
    exact .inr (.inl ⟨_, _, e1, e3, e2, e4, fin_same k ok (.bl _)⟩)
  | @tup a vs ds h1 h2 h3 =>
    obtain ⟨⟨c1, c2⟩, k⟩ := ite_wp (x := R.ok _) k
    refine .inr (.inr ⟨a, vs, rfl, .inr (.of h1), flat_den hx c1, flat_denL h2 c2, ?_⟩)
    show Q (.bl (!inV x vs)) H
    unfold inV
    rw [any_den hx c1 h2 c2]
    exact fin_same k ok (.bl _)
  | _ => exact k.elim
end
/-! ### the truth of a value -/
section
variable {X : Cx} {W : WX} {a : Expr} {pos : Pos}
def truD : D → R Bool
  | .none => .ok false
  | .bool b => .ok b
  | .int i => .ok (i != 0)
  | .str y => .ok ((y.length : Int) != 0)
  | .list xs => .ok (!xs.isEmpty)
  | .tuple xs => .ok (!xs.isEmpty)
  | .dict _ => .stuck
def truE (f : Env → R D) : Env → R Bool := fun ε => f ε >>= truD
theorem tx_tru {f : Env → R D} (h : Ex X W a f) (he : ∀ whole, isTrue a X.env whole = (do let v ← whole; standAt a.pos; holding [v] (truthy v)) := by intro _; rfl) : Tx X W a (truE f) := by
  refine PT.imp (pt_truth h he) fun σ H Q ⟨ε, F, re, q⟩ => ⟨ε, F, re, R.wp_mono (R.wp_bind q) (fun d k v H1 F1 g1 d1 => ?_) (fun e k => k)⟩
  cases d1 with
  | non => exact ⟨_, rfl, k H1 F1 g1⟩
  | bl b => exact ⟨_, rfl, k H1 F1 g1⟩
  | int i => exact ⟨_, rfl, k H1 F1 g1⟩
  | str y hy => exact ⟨_, ⟨hy.1, rfl⟩, k H1 F1 g1⟩
  | @lst p vs ds h1 h2 h3 =>
    refine ⟨!ds.isEmpty, .inl ⟨vs, h1.sql, ?_⟩, k H1 F1 g1⟩
    cases h2 <;> rfl
  | @tup p vs ds h1 h2 h3 =>
    refine ⟨!ds.isEmpty, .inr (.inl ⟨vs, (.of h1), ?_⟩), k H1 F1 g1⟩
    cases h2 <;> rfl
  | _ => exact k.elim
end
/-! ### a, b = x, y -/
section
variable {X : Cx} {W : WX} {H0 : Hp} {F0 : Addr → Prop} {pos : Pos}
def parS (L : List Nat) (i j : Nat) (fs : List (Env → R D)) : Gam → R Fl := fun Γ => lift (evL fs (view L Γ)) Γ fun ds => match ds with
  | [d, e] => .ok (.nx (((keepGs L [d, e] Γ).set i (.da d)).set j (.da e)))
  | _ => .stuck
def parS3 (L : List Nat) (i j l : Nat) (fs : List (Env → R D)) : Gam → R Fl := fun Γ => lift (evL fs (view L Γ)) Γ fun ds => match ds with
  | [d, e, f] => .ok (.nx ((((keepGs L [d, e, f] Γ).set i (.da d)).set j (.da e)).set l (.da f)))
  | _ => .stuck
theorem Rel.keeps {K : PySem.W.Frag} {σ : L2.St} {Γ : Gam} {H H' : Hp} {F F' : Addr → Prop} {L : List Nat} {vs : List V} {ds : List D} (r : Rel K H0 F0 σ Γ H F) (g : Grow H (FL F σ Γ L) H' F') (hd : DenL K H' F' vs ds) : ∃ F2, Rel K H0 F0 σ (keepGs L ds Γ) H' F2 ∧ DenL K H' F2 vs ds ∧ Pres H F H' F2 := by
  unfold keepGs
  by_cases c : L = [] ∨ noLsts ds = true
  · rw [if_pos c]
    rcases c with c | c
    · refine ⟨_, r.back g, ?_, pres_FM r g⟩
      subst c
      exact hd.pres ⟨fun _ _ h => h, fun _ _ _ h => h, fun a u f h => ⟨⟨f, fun ⟨i, hi, _⟩ => nomatch hi⟩, h⟩⟩
    · exact ⟨_, r.back g, hd.free c, pres_FM r g⟩
  · rw [if_neg c]
    exact ⟨_, r.frz g, hd, pres_F g⟩
theorem st_par (L : List Nat) (i j : Nat) {x y : Str} {a b : Expr} {fs : List (Env → R D)} {px py pt pt2 : Pos} {kt k2} (ha : Exs X W [a, b] fs) (hN : X.N.Nodup) (hij : i ≠ j := by decide) (hi : X.N[i]? = some x := by rfl) (hj : X.N[j]? = some y := by rfl)
    (hx : X.env.scope.names.lookup x = some .local := by rfl) (hy : X.env.scope.names.lookup y = some .local := by rfl) (hc : X.calm = true := by rfl)
    (hw : swappedStores [.Tuple [.Name x px, .Name y py] kt pt] (.Tuple [a, b] k2 pt2) X.env = pure (some [x, y]) := by rfl)
    (hs : swapsWithSole [.Tuple [.Name x px, .Name y py] kt pt] (.Tuple [a, b] k2 pt2) pos.line X.env = pure false := by rfl) : Sx X W H0 F0 (.Assign [.Tuple [.Name x px, .Name y py] kt pt] (.Tuple [a, b] k2 pt2) pos) (parS L i j fs) := by
  refine PS.imp (ps_par hc hN hi hj hij hx hy ha hw hs) fun E σ H ⟨Γ, F, r, fl, e, k⟩ => ?_
  obtain ⟨re, g0⟩ := r.view L
  refine ⟨_, _, re, ?_⟩
  rcases lift_cases e with ⟨ds, e1, e2⟩ | ⟨x, e1, e2⟩
  · rw [e1]
    intro vs H' F' g hd
    split at e2
    · rename_i d e'
      cases e2
      obtain ⟨F2, r2, d2, p2⟩ := r.keeps g hd
      obtain ⟨v, w, rfl, dv, dw⟩ := denL2 d2
      exact ⟨v, w, rfl, k _ H' F2 ((r2.setda dv).setda dw) p2⟩
    · cases e2
  · rw [e1]; subst e2; exact fun cls y H' F' g ho => k cls y σ H' _ (r.back g) (pres_FM r g) ho
theorem st_par3 (L : List Nat) (i j l : Nat) {x y z : Str} {a b c : Expr} {fs : List (Env → R D)} {px py pz pt pt2 : Pos} {kt k2} (ha : Exs X W [a, b, c] fs) (hN : X.N.Nodup) (hij : i ≠ j := by decide) (hil : i ≠ l := by decide) (hjl : j ≠ l := by decide) (hi : X.N[i]? = some x := by rfl) (hj : X.N[j]? = some y := by rfl) (hl : X.N[l]? = some z := by rfl)
    (hx : X.env.scope.names.lookup x = some .local := by rfl) (hy : X.env.scope.names.lookup y = some .local := by rfl) (hz : X.env.scope.names.lookup z = some .local := by rfl) (hc : X.calm = true := by rfl)
    (hw : swappedStores [.Tuple [.Name x px, .Name y py, .Name z pz] kt pt] (.Tuple [a, b, c] k2 pt2) X.env = pure (some [x, y, z]) := by rfl)
    (hs : swapsWithSole [.Tuple [.Name x px, .Name y py, .Name z pz] kt pt] (.Tuple [a, b, c] k2 pt2) pos.line X.env = pure false := by rfl) : Sx X W H0 F0 (.Assign [.Tuple [.Name x px, .Name y py, .Name z pz] kt pt] (.Tuple [a, b, c] k2 pt2) pos) (parS3 L i j l fs) := by
  refine PS.imp (ps_par3 hc hN hi hj hl hij hil hjl hx hy hz ha hw hs) fun E σ H ⟨Γ, F, r, fl, e, k⟩ => ?_
  obtain ⟨re, g0⟩ := r.view L
  refine ⟨_, _, re, ?_⟩
  rcases lift_cases e with ⟨ds, e1, e2⟩ | ⟨x, e1, e2⟩
  · rw [e1]
    intro vs H' F' g hd
    split at e2
    · rename_i d e' f'
      cases e2
      obtain ⟨F2, r2, d2, p2⟩ := r.keeps g hd
      cases d2 with
      | cons dv d2 =>
        obtain ⟨v, w, rfl, dw, dz⟩ := denL2 d2
        exact ⟨_, v, w, rfl, k _ H' F2 (((r2.setda dv).setda dw).setda dz) p2⟩
    · cases e2
  · rw [e1]; subst e2; exact fun cls y H' F' g ho => k cls y σ H' _ (r.back g) (pres_FM r g) ho
end
end RB

set_option Elab.async false
set_option linter.all false
set_option maxRecDepth 100000
set_option maxHeartbeats 4000000
namespace RB
open PySem PySem.Spec PyProof.Rows L2
/-! ### times, texts too -/
def mulB (x y : D) : R D := match x with
  | .str a => match y with
    | .int k => if -(2 ^ 62) ≤ k ∧ k ≤ 1000000 ∧ a.length * k.toNat ≤ 1000000 then .ok (.str (repS a k.toNat)) else .stuck
    | _ => .stuck
  | x => mulD x y
def rMulB (K : PySem.W.Frag) : R2 := fun x y H Q => rMulA K x y H Q ∨ rRepS x y H Q
section
variable {X : Cx} {K : PySem.W.Frag}
theorem op_mulB : OpR X (binaryOp .Mult) (rMulB X.K) := op_mulA.or op_repS
theorem okS_rep {z : Str} (h : okS z) {k : Nat} (hk : (repS z k).length ≤ sizeLine) : okS (repS z k) := by
  refine ⟨hk, ?_⟩
  have h2 := h.2
  rw [← Array.all_toList, List.all_eq_true] at h2
  show (((List.replicate k z.cps.toList).flatten).toArray).all _ = true
  rw [← Array.all_toList, List.all_eq_true]
  intro c hc
  obtain ⟨l, hl, hc⟩ := List.mem_flatten.mp (show c ∈ (List.replicate k z.cps.toList).flatten by simpa using hc)
  rw [(List.mem_replicate.mp hl).2] at hc
  exact h2 c hc
theorem g_mulB : G2 K (rMulB K) mulB := by
  intro x y dx dy H F Q ok hx hy k
  cases hx with
  | str a ha =>
    cases hy with
    | int i =>
      obtain ⟨⟨h1, h2, h3⟩, k⟩ := ite_wp (x := R.ok _) k
      refine .inr ⟨a, i, rfl, rfl, h1, h2, h3, fin_same k ok (.str _ (okS_rep ha ?_))⟩
      rw [repS_len, Nat.mul_comm]
      exact Nat.le_trans h3 (by decide)
    | _ => exact k.elim
  | non => exact .inl (g_mul _ _ _ _ H F Q ok .non hy k)
  | bl b => exact .inl (g_mul _ _ _ _ H F Q ok (.bl b) hy k)
  | int i => exact .inl (g_mul _ _ _ _ H F Q ok (.int i) hy k)
  | tup h1 h2 h3 => exact .inl (g_mul _ _ _ _ H F Q ok (.tup h1 h2 h3) hy k)
  | lst h1 h2 h3 => exact .inl (g_mul _ _ _ _ H F Q ok (.lst h1 h2 h3) hy k)
  | dK h1 h2 => exact .inl (g_mul _ _ _ _ H F Q ok (.dK h1 h2) hy k)
  | dT h1 h2 => exact .inl (g_mul _ _ _ _ H F Q ok (.dT h1 h2) hy k)
end
/-! ### a new list times an int -/
section
variable {X : Cx} {W : WX} {a b : Expr} {pos : Pos}
def repF (f : Env → R (List D)) (g : Env → R D) : Env → R (List D) := fun ε => f ε >>= fun xs => g ε >>= fun k => match k with
  | .int k => if -(2 ^ 62) ≤ k ∧ k ≤ 2 ^ 62 ∧ xs.length * k.toNat ≤ 1000000 then .ok (List.replicate k.toNat xs).flatten else .stuck
  | _ => .stuck
theorem fx_rep {f : Env → R (List D)} {g : Env → R D} (ha : Fx X W a f) (hb : Ex X W b g) : Fx X W (.BinOp a .Mult b pos) (repF f g) := by
  refine PE.imp (pe_op op_rep ha hb) fun σ H Q ⟨ε, F, re, q⟩ => ⟨ε, F, re, R.wp_mono (R.wp_bind q) (fun xs k p vs H1 F1 g1 hp hp' nf hd hz => ?_) (fun e k => k)⟩
  refine ⟨ε, F1, re.grow g1, R.wp_mono (R.wp_bind k) (fun dk k v H2 F2 g2 d2 => ?_) (fun e k => exnG (K := X.K) g1 k)⟩
  cases d2 with
  | int i =>
    obtain ⟨⟨h1, h2, h3⟩, k⟩ := ite_wp (x := R.ok _) k
    have hl := hd.length
    have hsz : vs.length * i.toNat ≤ sizeLine := by rw [hl]; exact Nat.le_trans h3 (by decide)
    refine ⟨p, i, vs, rfl, rfl, g2.same _ _ hp', by omega, by omega, hsz, fun p' hp2 => ?_⟩
    have g3 := grow_new (o := .lst (List.replicate i.toNat vs).flatten) g2.ok hp2
    have nf2 : ¬ F2 p' := fun f => by
      obtain ⟨u, e⟩ := g2.ok _ f
      rw [hp2] at e; cases e
    refine k p' _ _ F2 (g1.trans (g2.trans g3)) ((g1.trans g2).back hp2) upd_same nf2 ?_ ?_
    · exact denL_rep ((hd.grow g2).grow g3) _
    · rw [len_rep, Nat.mul_comm]; exact hsz
  | _ => exact k.elim
end
end RB

set_option Elab.async false
set_option linter.all false
set_option maxRecDepth 100000
set_option maxHeartbeats 4000000
set_option pp.maxSteps 600
namespace RB
open PySem PySem.Spec PyProof.Rows L2
/-! ### methods of texts -/
def sStr : D → R D
  | .str z => .ok (.str z)
  | _ => .stuck
def m1E (g : D → D → R D) (fo fe : Env → R D) : Env → R D := fun ε => fo ε >>= fun x => (sStr x).hard >>= fun x => fe ε >>= fun y => (g x y).hard
def G1M (K : PySem.W.Frag) (r : V → List V → Hp → VK → Prop) (g : D → D → R D) : Prop := ∀ (z : Str) y dy H F Q, okS z → FOk H F → Den K H F y dy → (g (.str z) dy).wp (Fin1 K H F Q) NoE → r (.str z) [y] H Q
section
variable {X : Cx} {W : WX} {o e : Expr} {fo fe : Env → R D}
theorem ex_m1 {id : String} {name : Str} {apos pos : Pos} {r : V → List V → Hp → VK → Prop} {g : D → D → R D} (slot : Slot "str" name id) (ty : typeOf (.builtin id) = pure (.type "method_descriptor")) (rule : MtR X id r) (hg : G1M X.K r g) (ho : Ex X W o fo) (he : Ex X W e fe)
    (hs : starEach [e] X.env = [(false, eval e X.env)] := by rfl) (hbase : attributeBase o name X.env (eval o X.env) = eval o X.env := by rfl) (hline : (apos.endLine == pos.line) = true := by rfl) :
    Ex X W (.Call (.Attribute o name apos) [e] [] pos) (m1E g fo fe) := by
  refine PE.imp (pe_m1 slot ty rule ho he hs hbase hline) fun σ H Q ⟨ε, F, re, q⟩ => ⟨ε, F, re, ?_⟩
  refine R.wp_mono (R.wp_bind q) (fun dx k v H1 F1 g1 d1 => ?_) (fun e k => k)
  cases d1 with
  | str z hz =>
    refine ⟨⟨z, rfl⟩, ε, F1, re.grow g1, ?_⟩
    have k : (fe ε >>= fun y => (g (.str z) y).hard).wp _ _ := k
    refine R.wp_mono (R.wp_bind k) (fun dy k w H2 F2 g2 d2 => ?_) (fun e k cls x H' F' g => k cls x H' F' (g1.trans g))
    exact hg z _ _ _ _ _ hz g2.ok d2 (hardN k fun d k => fin_grow (g1.trans g2) k)
  | _ => exact k.elim
end
section
variable {K : PySem.W.Frag}
def strsOf : List D → R (List Str)
  | [] => .ok []
  | .str z :: r => strsOf r >>= fun zs => .ok (z :: zs)
  | _ :: _ => .stuck
theorem strs_of {H : Hp} {F : Addr → Prop} : ∀ {ds : List D} {vs : List V} {ns : List Str}, DenL K H F vs ds → strsOf ds = .ok ns → vs = ns.map V.str
  | [], _, _, .nil, e => by cases e; rfl
  | d :: ds, _, ns, .cons h hr, e => by
    cases h with
    | str z hz =>
      have e : (strsOf ds >>= fun zs => R.ok (z :: zs)) = R.ok ns := e
      cases q : strsOf ds with
      | ok zs =>
        rw [q] at e
        cases e
        rw [strs_of hr q]
        rfl
      | exn _ => rw [q] at e; cases e
      | stuck => rw [q] at e; cases e
    | _ => cases e
def startD : D → D → R D
  | .str a, .str b => .ok (.bool (Txt.startswith a b))
  | _, _ => .stuck
def endD : D → D → R D
  | .str a, .str b => .ok (.bool (Txt.endswith a b))
  | _, _ => .stuck
def findD : D → D → R D
  | .str a, .str b => .ok (.int (Txt.find a b))
  | _, _ => .stuck
def countD : D → D → R D
  | .str a, .str b => .ok (.int (Txt.count a b))
  | _, _ => .stuck
def itemsOf : D → R (List D)
  | .list xs => .ok xs
  | .tuple xs => .ok xs
  | _ => .stuck
def joinK (a : Str) (ys : List Str) : R D := if (ys.map (·.length)).sum + ys.length * a.length ≤ 16777216 ∧ okS (Txt.join a ys) then .ok (.str (Txt.join a ys)) else .stuck
def joinD : D → D → R D
  | .str a, d => itemsOf d >>= fun ds => strsOf ds >>= fun ys => joinK a ys
  | _, _ => .stuck
theorem g_start : G1M K (fun x xs H Q => ∃ a b, x = .str a ∧ xs = [.str b] ∧ Q (.bl (Txt.startswith a b)) H) startD := fun z y dy H F Q hz ok hd k => by
  cases hd with
  | str b hb => exact ⟨z, b, rfl, rfl, fin_same k ok (.bl _)⟩
  | _ => exact k.elim
theorem g_ends : G1M K (fun x xs H Q => ∃ a b, x = .str a ∧ xs = [.str b] ∧ Q (.bl (Txt.endswith a b)) H) endD := fun z y dy H F Q hz ok hd k => by
  cases hd with
  | str b hb => exact ⟨z, b, rfl, rfl, fin_same k ok (.bl _)⟩
  | _ => exact k.elim
theorem g_find : G1M K (fun x xs H Q => ∃ a b, x = .str a ∧ xs = [.str b] ∧ Q (.int (Txt.find a b)) H) findD := fun z y dy H F Q hz ok hd k => by
  cases hd with
  | str b hb => exact ⟨z, b, rfl, rfl, fin_same k ok (.int _)⟩
  | _ => exact k.elim
theorem g_count : G1M K (fun x xs H Q => ∃ a b, x = .str a ∧ xs = [.str b] ∧ Q (.int (Txt.count a b)) H) countD := fun z y dy H F Q hz ok hd k => by
  cases hd with
  | str b hb => exact ⟨z, b, rfl, rfl, fin_same k ok (.int _)⟩
  | _ => exact k.elim
theorem join_read {z : Str} {H : Hp} {F : Addr → Prop} {Q : VK} {a : Addr} {vs : List V} {ds : List D} (ok : FOk H F) (h : DenL K H F vs ds) (hp : SqL K H a vs ∨ SqT K H a vs) (k : (strsOf ds >>= fun ys => joinK z ys).wp (Fin1 K H F Q) NoE) :
    ∃ x p, ∃ ys : List Str, V.str z = .str x ∧ [V.ref a] = [.ref p] ∧ (SqL K H p (ys.map V.str) ∨ SqT K H p (ys.map V.str)) ∧ (ys.map (·.length)).sum + ys.length * x.length ≤ 16777216 ∧ Q (.str (Txt.join x ys)) H := by
  obtain ⟨ys, e, k⟩ := wp_ok (x := strsOf ds) k (fun _ h => h)
  have := strs_of h e
  subst this
  unfold joinK at k
  split at k
  · rename_i c
    exact ⟨z, a, ys, rfl, rfl, hp, c.1, fin_same k ok (.str _ c.2)⟩
  · exact k.elim
theorem g_join : G1M K (fun x xs H Q => ∃ a p, ∃ ys : List Str, x = .str a ∧ xs = [.ref p] ∧ (SqL K H p (ys.map V.str) ∨ SqT K H p (ys.map V.str)) ∧ (ys.map (·.length)).sum + ys.length * a.length ≤ 16777216 ∧ Q (.str (Txt.join a ys)) H) joinD := fun z y dy H F Q hz ok hd k => by
  cases hd with
  | @lst a vs ds h1 h2 h3 => exact join_read ok h2 (.inl h1.sql) k
  | @tup a vs ds h1 h2 h3 => exact join_read ok h2 (.inr (.of h1)) k
  | _ => exact k.elim
end
section
variable {X : Cx} {W : WX} {o e : Expr} {fo fe : Env → R D} {apos pos : Pos}
theorem ex_start (ho : Ex X W o fo) (he : Ex X W e fe) (hs : starEach [e] X.env = [(false, eval e X.env)] := by rfl) (hbase : attributeBase o "startswith" X.env (eval o X.env) = eval o X.env := by rfl) (hline : (apos.endLine == pos.line) = true := by rfl) :
    Ex X W (.Call (.Attribute o "startswith" apos) [e] [] pos) (m1E startD fo fe) := ex_m1 F.slot_str_startswith F.type_str_startswith mt_startswith g_start ho he hs hbase hline
theorem ex_ends (ho : Ex X W o fo) (he : Ex X W e fe) (hs : starEach [e] X.env = [(false, eval e X.env)] := by rfl) (hbase : attributeBase o "endswith" X.env (eval o X.env) = eval o X.env := by rfl) (hline : (apos.endLine == pos.line) = true := by rfl) :
    Ex X W (.Call (.Attribute o "endswith" apos) [e] [] pos) (m1E endD fo fe) := ex_m1 F.slot_str_endswith F.type_str_endswith mt_endswith g_ends ho he hs hbase hline
theorem ex_find (ho : Ex X W o fo) (he : Ex X W e fe) (hs : starEach [e] X.env = [(false, eval e X.env)] := by rfl) (hbase : attributeBase o "find" X.env (eval o X.env) = eval o X.env := by rfl) (hline : (apos.endLine == pos.line) = true := by rfl) :
    Ex X W (.Call (.Attribute o "find" apos) [e] [] pos) (m1E findD fo fe) := ex_m1 F.slot_str_find F.type_str_find mt_find g_find ho he hs hbase hline
theorem ex_count (ho : Ex X W o fo) (he : Ex X W e fe) (hs : starEach [e] X.env = [(false, eval e X.env)] := by rfl) (hbase : attributeBase o "count" X.env (eval o X.env) = eval o X.env := by rfl) (hline : (apos.endLine == pos.line) = true := by rfl) :
    Ex X W (.Call (.Attribute o "count" apos) [e] [] pos) (m1E countD fo fe) := ex_m1 F.slot_str_count F.type_str_count mt_count g_count ho he hs hbase hline
theorem ex_join (ho : Ex X W o fo) (he : Ex X W e fe) (hs : starEach [e] X.env = [(false, eval e X.env)] := by rfl) (hbase : attributeBase o "join" X.env (eval o X.env) = eval o X.env := by rfl) (hline : (apos.endLine == pos.line) = true := by rfl) :
    Ex X W (.Call (.Attribute o "join" apos) [e] [] pos) (m1E joinD fo fe) := ex_m1 F.slot_str_join F.type_str_join mt_join g_join ho he hs hbase hline
end
end RB

set_option Elab.async false
set_option linter.all false
set_option maxRecDepth 100000
set_option maxHeartbeats 4000000
set_option pp.maxSteps 600
namespace RB
open PySem PySem.Spec PyProof.Rows L2
section
variable {K : PySem.W.Frag}
def minG2 : List D → R D
  | [.int i, .int j] => .ok (.int (if j < i then j else i))
  | _ => .stuck
def maxG2 : List D → R D
  | [.int i, .int j] => .ok (.int (if j > i then j else i))
  | _ => .stuck
def absG : List D → R D
  | [.int i] => .ok (.int (if i < 0 then -i else i))
  | _ => .stuck
theorem g_min2 : GC K (fun xs H Q => ∃ i j, xs = [.int i, .int j] ∧ Q (.int (if j < i then j else i)) H) minG2 := by
  intro vs ds H F Q ok hd k
  unfold minG2 at k
  split at k
  · rename_i i j
    obtain ⟨v, w, rfl, h1, h2⟩ := denL2 hd
    cases h1
    cases h2
    exact ⟨i, j, rfl, fin_same k ok (.int _)⟩
  · exact k.elim
theorem g_max2 : GC K (fun xs H Q => ∃ i j, xs = [.int i, .int j] ∧ Q (.int (if j > i then j else i)) H) maxG2 := by
  intro vs ds H F Q ok hd k
  unfold maxG2 at k
  split at k
  · rename_i i j
    obtain ⟨v, w, rfl, h1, h2⟩ := denL2 hd
    cases h1
    cases h2
    exact ⟨i, j, rfl, fin_same k ok (.int _)⟩
  · exact k.elim
theorem g_abs : GC K (fun xs H Q => ∃ i, xs = [.int i] ∧ Q (.int (if i < 0 then -i else i)) H) absG := by
  intro vs ds H F Q ok hd k
  unfold absG at k
  split at k
  · rename_i i
    obtain ⟨v, rfl, h1⟩ := denL1 hd
    cases h1
    exact ⟨i, rfl, fin_same k ok (.int _)⟩
  · exact k.elim
end
end RB

set_option Elab.async false
set_option linter.all false
set_option maxRecDepth 100000
set_option maxHeartbeats 4000000
set_option pp.maxSteps 600
namespace RB
open PySem PySem.Spec PyProof.Rows L2
/-! ### sorted(xs) over data that is alike -/
def SortOk (ds : List D) : Prop := PySem.W.AllAlike ds ∧ PySem.W.Sortable ds ∧ plainL ds = true ∧ (∀ d ∈ ds, d.depth ≤ 60) ∧ ds.length ≤ 16777216
def sortD (ds : List D) : List D := ds.mergeSort (PySem.W.dataLe false id)
noncomputable def sortG : D → R (List D)
  | .list ds => given_ (SortOk ds) (.ok (sortD ds))
  | _ => .stuck
def DenU (K : PySem.W.Frag) (H : Hp) (F : Addr → Prop) (u : Value) (d : D) : Prop := ∃ x, RelV x u ∧ Den K H F x d
section
variable {K : PySem.W.Frag} {H : Hp} {F : Addr → Prop}
theorem each_den : ∀ {vs : List V} {us : List Value} {ds : List D}, Vals vs us → DenL K H F vs ds → PySem.W.EachIs (DenU K H F) us ds
  | _, _, _, .nil, .nil => .nil
  | _, _, _, .cons r rs, .cons d dr => .cons ⟨_, r, d⟩ (each_den rs dr)
theorem den_each : ∀ {us : List Value} {ds : List D}, PySem.W.EachIs (DenU K H F) us ds → ∃ vs, Vals vs us ∧ DenL K H F vs ds
  | _, _, .nil => ⟨[], .nil, .nil⟩
  | _, _, .cons ⟨x, r, d⟩ t => by
    obtain ⟨vs, a, b⟩ := den_each t
    exact ⟨x :: vs, .cons r a, .cons d b⟩
theorem each_reads : ∀ {us : List Value} {ds : List D} {h : Heap} {as : List Addr}, ReadsAll h us ds as → PySem.W.EachIs (fun v b => ∃ as, Reads h v (id b) as) us ds
  | _, _, _, _, .nil => .nil
  | _, _, _, _, .cons r rs => .cons ⟨_, r⟩ (each_reads rs)
end
def rSortD (K : PySem.W.Frag) : List V → Hp → VK → Prop := fun xs H Q => ∃ a vs ds F, xs = [V.ref a] ∧ SqL K H a vs ∧ DenL K H F vs ds ∧ SortOk ds ∧ ∀ ws p, DenL K H F ws (sortD ds) → H p = none → Q (.ref p) (upd H p (.lst ws))
section
variable {X : Cx}
theorem cr_sorted (hu : X.A.units + 66 < cLine) : CallR X (.builtin "sorted") (rSortD X.K) := by
  intro pins s σ H vs us Q I r ⟨a, ws, ds, F, e, hs, hd, ⟨o1, o2, o3, o4, o5⟩, q⟩
  subst e
  rw [Vals.ref1 r]
  have hz : ∀ b, b ∈ ds → X.A.units + 2 + (id b : D).depth < cLine := fun b hb => by
    have := o4 b hb
    show X.A.units + 2 + b.depth < cLine
    omega
  obtain ⟨its, rv, hl, _⟩ := I.list hs
  obtain ⟨as, ra⟩ := Dp.readsAll I _ _ its (plainL_lay hd o3) rv
  refine PySem.W.sorted_data (R := DenU X.K H F) (enc := id) (bs := ds) (vs := its) hl.isList (each_den rv hd) (each_reads ra) (by rw [List.map_id]; exact o1) (by rw [List.map_id]; exact o2) (by rw [sizeLine_eq]; exact o5) hz fun out h1 h2 => ?_
  obtain ⟨zs, za, zb⟩ := den_each h2
  obtain ⟨ep, he'⟩ := PyProof.Rows.sortedAll_at s.heap its out.toArray
  refine ⟨.ref _, upd H (s.heap.objs.size + 1) (.lst zs), I.laid (t' := s.toks) (fun _ _ => PyProof.Rows.sortedAll_old) (Nat.le_succ _) ⟨?_, out, ep, za, he'⟩, rfl, q zs _ zb (I.hok.fresh (Nat.le_succ _))⟩
  rw [za.length, h1, sizeLine_eq]
  exact o5
theorem g_sorted {K : PySem.W.Frag} : GCF K (rSortD K) (on1L sortG) := g_on1L fun v d H F Q ok hd k => by
  cases hd with
  | @lst a vs ds h1 h2 h3 =>
    have k : (given_ (SortOk ds) (R.ok (sortD ds))).wp (FinL K H F Q) NoE := k
    obtain ⟨c, k⟩ := given_wp k
    refine ⟨a, vs, ds, F, rfl, h1.sql, h2, c, fun ws p hw hp => ?_⟩
    have g := grow_new (o := .lst ws) ok hp
    have hl : ws.length ≤ sizeLine := by
      rw [hw.length]
      unfold sortD
      rw [List.length_mergeSort, sizeLine_eq]
      exact c.2.2.2.2
    exact k p ws _ F g hp upd_same (fun f => by
      obtain ⟨u, e⟩ := ok p f
      rw [hp] at e; cases e) (hw.grow g) hl
  | _ => exact k.elim
end
end RB

set_option Elab.async false
set_option linter.all false
set_option maxRecDepth 100000
set_option maxHeartbeats 4000000
set_option pp.maxSteps 600
namespace RB
open PySem PySem.Spec PyProof.Rows L2
/-! ### o.index(e), o a text or a list -/
def recvD : D → R D
  | .str z => .ok (.str z)
  | .list ds => .ok (.list ds)
  | _ => .stuck
def idxD : D → D → R D
  | .str z, .str y => match Txt.index0 z y with
    | some k => .ok (.int (k : Nat))
    | none => .stuck
  | .list ds, d => if cmpOk (.list ds) = true ∧ cmpOk d = true then (match ds.findIdx? fun z => PyData.eqv z d with
    | some j => .ok (.int (j : Nat))
    | none => .stuck) else .stuck
  | _, _ => .stuck
def idxE (fo fe : Env → R D) : Env → R D := fun ε => fo ε >>= fun x => (recvD x).hard >>= fun x => fe ε >>= fun y => (idxD x y).hard
section
variable {X : Cx} {W : WX} {o e : Expr} {fo fe : Env → R D} {apos cpos : Pos}
theorem ex_index (hu : X.A.units + 66 < cLine) (tk : Takes X W) (ho : Ex X W o fo) (he : Ex X W e fe) (hc : X.calm = true := by rfl)
    (hbase : attributeBase o "index" X.env (eval o X.env) = eval o X.env := by rfl)
    (hfew : ((backTo cpos (starEach [e] X.env)).all (fun x => !x.1) && (backToKw cpos (keywordEach [] X.env)).all (fun x => x.1.isSome)
      && decide ([e].length + ([] : List Keyword).length + (if ([] : List Keyword).isEmpty then 0 else 1) < 30)) = true := by rfl)
    (hline : (apos.endLine == cpos.line) = true := by rfl) (hs : starEach [e] X.env = (false, eval e X.env) :: starEach [] X.env := by rfl) (hplain : (backTo cpos (starEach [] X.env)).any (·.1) = false := by rfl) :
    Ex X W (.Call (.Attribute o "index" apos) [e] [] cpos) (idxE fo fe) := by
  refine ⟨fun pins s σ H Q I ⟨ε, F, re, q⟩ => ?_⟩
  have ho' := ho.run pins s σ H (fun x H1 => ∃ dx F1, Grow H F H1 F1 ∧ Den X.K H1 F1 x dx ∧ ((recvD dx).hard >>= fun x => fe ε >>= fun y => (idxD x y).hard).wp (fun d => ∀ v H' F', Grow H F H' F' → Den X.K H' F' v d → Q v H')
      fun e => ∀ cls x H' F', Grow H F H' F' → ExnOf X.mg e cls x H' → W cls x σ H') I
    ⟨ε, F, re, R.wp_mono (R.wp_bind q) (fun dx k v H1 F1 g1 d1 => ⟨dx, F1, g1, d1, k⟩) fun e k => k⟩
  refine wpAny_Call_method_late hbase hfew hline rfl (thn ho' fun v s1 ⟨x, H1, I1, r1, dx, F1, g1, d1, k⟩ => ?_)
  have he' : ∀ {Q' : VK}, (fe ε).wp (fun d => ∀ v H' F', Grow H1 F1 H' F' → Den X.K H' F' v d → Q' v H') (fun e => ∀ cls x H' F', Grow H1 F1 H' F' → ExnOf X.mg e cls x H' → W cls x σ H') → _ := fun {Q'} z => (pa_cons he pa_nil hs : PA X [e] (tCons (tE X.K X.mg W fe) tNil)).run cpos pins s1 σ H1 (fun vs H2 => ∃ y, vs = [y] ∧ Q' y H2) I1 (show tE X.K X.mg W fe σ H1 (fun y H2 => ∃ y', [y] = [y'] ∧ Q' y' H2) from ⟨ε, F1, re.grow g1, R.wp_mono z (fun d k v H' F' g hd => ⟨v, rfl, k v H' F' g hd⟩) fun e k => k⟩)
  cases d1 with
  | str z hz =>
    have k : (fe ε >>= fun y => (idxD (.str z) y).hard).wp _ _ := k
    obtain ⟨h1, h2⟩ := tyV_is I1 r1 (show tyV X.K "str" (.str z) H1 from rfl)
    refine ⟨"str", "str.index", PySem.F.plainAttrs_str, PySem.F.slot_str_index, PySem.F.type_str_index, h1, h2, ?_⟩
    have hA := he' (Q' := fun y H2 => ∃ dy F2, Grow H1 F1 H2 F2 ∧ Den X.K H2 F2 y dy ∧ (idxD (.str z) dy).hard.wp (fun d => ∀ v H' F', Grow H F H' F' → Den X.K H' F' v d → Q v H') (fun _ => False))
      (R.wp_mono (R.wp_bind k) (fun dy k w H2 F2 g2 d2 => ⟨dy, F2, g2, d2, by
        cases q : idxD (.str z) dy with
        | ok d => rw [q] at k; exact k
        | exn _ => rw [q] at k; exact k.elim
        | stuck => rw [q] at k; exact k.elim⟩) (fun e k cls x H' F' g => k cls x H' F' (g1.trans g)))
    rw [hs] at hA ⊢
    refine Calls.callWith_builtin (by show (false || (backTo cpos (starEach [] X.env)).any (·.1)) = false; rw [hplain] <;> rfl) (Calls.evalArgs_plain ?_)
    refine thn hA fun us s2 ⟨vs, H2, I2, r2, y, ev, dy, F2, g2, d2, k2⟩ => ?_
    subst ev
    refine mt_indexX hc tk pins s2 σ H2 (.str z) [y] v us Q I2 r1 r2 ?_
    cases d2 with
    | str b hb =>
      have k2 : (match Txt.index0 z b with
        | some k => R.ok (PyData.int (k : Nat))
        | none => .stuck).hard.wp (fun d => ∀ v H' F', Grow H F H' F' → Den X.K H' F' v d → Q v H') (fun _ => False) := k2
      refine ⟨z, b, rfl, rfl, fun j hj => ?_, fun hn => ?_⟩
      · rw [hj] at k2
        exact k2 _ H2 F2 (g1.trans g2) (.int _)
      · rw [hn] at k2
        exact k2.elim
    | _ => exact k2.elim
  | @lst a vs ds l1 l2 l3 =>
    have k : (fe ε >>= fun y => (idxD (.list ds) y).hard).wp _ _ := k
    obtain ⟨h1, h2⟩ := tyV_is I1 r1 (show tyV X.K "list" (.ref a) H1 from .inl ⟨rfl, vs, l1.sql⟩)
    refine ⟨"list", "list.index", PySem.F.plainAttrs_list, PySem.F.slot_list_index, PySem.F.type_list_index, h1, h2, ?_⟩
    have hA := he' (Q' := fun y H2 => ∃ dy F2, Grow H1 F1 H2 F2 ∧ Den X.K H2 F2 y dy ∧ (idxD (.list ds) dy).hard.wp (fun d => ∀ v H' F', Grow H F H' F' → Den X.K H' F' v d → Q v H') (fun _ => False))
      (R.wp_mono (R.wp_bind k) (fun dy k w H2 F2 g2 d2 => ⟨dy, F2, g2, d2, by
        cases q : idxD (.list ds) dy with
        | ok d => rw [q] at k; exact k
        | exn _ => rw [q] at k; exact k.elim
        | stuck => rw [q] at k; exact k.elim⟩) (fun e k cls x H' F' g => k cls x H' F' (g1.trans g)))
    rw [hs] at hA ⊢
    refine Calls.callWith_builtin (by show (false || (backTo cpos (starEach [] X.env)).any (·.1)) = false; rw [hplain] <;> rfl) (Calls.evalArgs_plain ?_)
    refine thn hA fun us s2 ⟨vs2, H2, I2, r2, y, ev, dy, F2, g2, d2, k2⟩ => ?_
    subst ev
    refine mt_indexD (by omega) pins s2 σ H2 (.ref a) [y] v us Q I2 r1 r2 ?_
    have k2 : (if cmpOk (.list ds) = true ∧ cmpOk dy = true then (match ds.findIdx? fun z => PyData.eqv z dy with
      | some j => R.ok (PyData.int (j : Nat))
      | none => .stuck) else .stuck).hard.wp (fun d => ∀ v H' F', Grow H F H' F' → Den X.K H' F' v d → Q v H') (fun _ => False) := k2
    by_cases c : cmpOk (.list ds) = true ∧ cmpOk dy = true
    · rw [if_pos c] at k2
      have dl := (Den.lst l1 l2 l3 : Den X.K H1 F1 (.ref a) (.list ds)).grow g2
      obtain ⟨p1, p2⟩ := cmp_of dl c.1
      obtain ⟨p3, p4⟩ := cmp_of d2 c.2
      cases q : ds.findIdx? fun z => PyData.eqv z dy with
      | none => rw [q] at k2; exact k2.elim
      | some j =>
        rw [q] at k2
        obtain ⟨hj, hz, hno⟩ := List.findIdx?_eq_some_iff_getElem.mp q
        refine ⟨a, y, dy, ds, j, ds[j], rfl, rfl, p1, p3, p2, p4, List.getElem?_eq_getElem hj, hz, fun m z' hm hm' => ?_, k2 _ H2 F2 (g1.trans g2) (.int _)⟩
        have hm2 : m < ds.length := by omega
        have := hno m hm
        rw [List.getElem?_eq_getElem hm2] at hm'
        cases hm'
        simpa using this
    · rw [if_neg c] at k2
      exact k2.elim
  | _ => exact k.elim
end
end RB

set_option Elab.async false
set_option linter.all false
set_option maxRecDepth 100000
set_option maxHeartbeats 4000000
set_option pp.maxSteps 600
namespace RB
open PySem PySem.Spec PyProof.Rows L2
/-! ### list(range(..)), tuple(range(..)) -/
def rgD (a b : Int) : List D := (List.range (b - a).toNat).map fun i => .int (a + (i : Nat))
instance {a b : Int} : Decidable (RgOk a b) := by unfold RgOk; infer_instance
def rgLK : D → D → R (List D)
  | .int a, .int b => if RgOk a b then .ok (rgD a b) else .stuck
  | _, _ => .stuck
def rg1E (fa : Env → R D) : Env → R (List D) := fun ε => fa ε >>= fun x => (rgLK (.int 0) x).hard
def rg2E (fa fb : Env → R D) : Env → R (List D) := fun ε => fa ε >>= fun x => fb ε >>= fun y => (rgLK x y).hard
def tupL (f : Env → R (List D)) : Env → R D := fun ε => f ε >>= fun ds => .ok (.tuple ds)
theorem den_rg {K : PySem.W.Frag} {H : Hp} {F : Addr → Prop} (a b : Int) : DenL K H F (rgV a b) (rgD a b) := by
  unfold rgV rgD
  generalize List.range (b - a).toNat = l
  induction l with
  | nil => exact .nil
  | cons i l ih => exact .cons (.int _) ih
theorem rg_len {a b : Int} (h : RgOk a b) : (rgV a b).length ≤ sizeLine := by
  rw [rgV_length, sizeLine_eq]
  exact h.2.2.2.2
section
variable {X : Cx} {W : WX} {a b : Expr} {fa fb : Env → R D} {p p2 pos pos2 : Pos}
theorem rg_fin {H H1 : Hp} {F F1 : Addr → Prop} {Q : VK} {i j : Int} (g : Grow H F H1 F1) (c : RgOk i j) (k : FinL X.K H F Q (rgD i j)) : ∀ q, H1 q = none → Q (.ref q) (upd H1 q (.lst (rgV i j))) := fun q hq => by
  have g2 := grow_new (o := .lst (rgV i j)) g.ok hq
  exact k q _ _ F1 (g.trans g2) (g.back hq) upd_same (fun f => by
    obtain ⟨u, e⟩ := g.ok q f
    rw [hq] at e; cases e) (den_rg i j) (rg_len c)
theorem rg_finT {H H1 : Hp} {F F1 : Addr → Prop} {Q : VK} {i j : Int} (g : Grow H F H1 F1) (c : RgOk i j) (k : Fin1 X.K H F Q (.tuple (rgD i j))) : ∀ q, H1 q = none → Q (.ref q) (upd H1 q (.tup (rgV i j))) := fun q hq => by
  have g2 := grow_new (o := .tup (rgV i j)) g.ok hq
  exact k _ _ F1 (g.trans g2) (.tup upd_same (den_rg i j) (rg_len c))
theorem rgLK_ok {x y : D} {P : List D → Prop} {E : Exn → Prop} (h : (rgLK x y).hard.wp P E) : ∃ i j, x = .int i ∧ y = .int j ∧ RgOk i j ∧ P (rgD i j) := by
  cases x with
  | int i =>
    cases y with
    | int j =>
      have h : (if RgOk i j then R.ok (rgD i j) else .stuck).hard.wp P E := h
      by_cases c : RgOk i j
      · rw [if_pos c] at h; exact ⟨i, j, rfl, rfl, c, h⟩
      · rw [if_neg c] at h; exact h.elim
    | _ => exact h.elim
  | _ => exact h.elim
theorem fx_listRg1 (hl : X.mg "list" = none) (hr : X.mg "range" = none) (ha : Ex X W a fa) (hc : X.calm = true := by rfl) (g1 : Gl X "list" := by rfl) (g2 : Gl X "range" := by rfl)
    (na : starEach [a] X.env = (false, eval a X.env) :: starEach [] X.env := by rfl) (nb : starEach [.Call (.Name "range" p2) [a] [] pos2] X.env = (false, eval (.Call (.Name "range" p2) [a] [] pos2) X.env) :: starEach [] X.env := by rfl) :
    Fx X W (.Call (.Name "list" p) [.Call (.Name "range" p2) [a] [] pos2] [] pos) (rg1E fa) := by
  refine PE.imp (pe_listRg hc g1 hl (prg_1 g2 hr ha na) nb) fun σ H Q ⟨ε, F, re, q⟩ => ⟨ε, F, re, ?_⟩
  refine R.wp_mono (R.wp_bind q) (fun d k v H1 F1 g hd => ?_) (fun e k => k)
  obtain ⟨i, j, e1, rfl, c, k⟩ := rgLK_ok k
  cases e1
  cases hd
  exact ⟨j, rfl, c, rg_fin g c k⟩
theorem fx_listRg2 (hl : X.mg "list" = none) (hr : X.mg "range" = none) (ha : Ex X W a fa) (hb : Ex X W b fb) (hc : X.calm = true := by rfl) (g1 : Gl X "list" := by rfl) (g2 : Gl X "range" := by rfl)
    (na : starEach [a, b] X.env = (false, eval a X.env) :: starEach [b] X.env := by rfl) (nb : (backTo pos2 (starEach [b] X.env)).any (·.1) = false := by rfl) (nd : starEach [b] X.env = (false, eval b X.env) :: starEach [] X.env := by rfl) (nc : starEach [.Call (.Name "range" p2) [a, b] [] pos2] X.env = (false, eval (.Call (.Name "range" p2) [a, b] [] pos2) X.env) :: starEach [] X.env := by rfl) :
    Fx X W (.Call (.Name "list" p) [.Call (.Name "range" p2) [a, b] [] pos2] [] pos) (rg2E fa fb) := by
  refine PE.imp (pe_listRg hc g1 hl (prg_2 g2 hr ha hb na nd nb) nc) fun σ H Q ⟨ε, F, re, q⟩ => ⟨ε, F, re, ?_⟩
  refine R.wp_mono (R.wp_bind q) (fun d k v H1 F1 g hd => ⟨ε, F1, re.grow g, ?_⟩) (fun e k => k)
  refine R.wp_mono (R.wp_bind k) (fun d2 k w H2 F2 g2 hd2 => ?_) (fun e k cls x H' F' g' => k cls x H' F' (g.trans g'))
  obtain ⟨i, j, rfl, rfl, c, k⟩ := rgLK_ok k
  cases hd
  cases hd2
  exact ⟨i, j, rfl, rfl, c, rg_fin (g.trans g2) c k⟩
theorem ex_tupRg1 (hl : X.mg "tuple" = none) (hr : X.mg "range" = none) (ha : Ex X W a fa) (hc : X.calm = true := by rfl) (g1 : Gl X "tuple" := by rfl) (g2 : Gl X "range" := by rfl)
    (na : starEach [a] X.env = (false, eval a X.env) :: starEach [] X.env := by rfl) (nb : starEach [.Call (.Name "range" p2) [a] [] pos2] X.env = (false, eval (.Call (.Name "range" p2) [a] [] pos2) X.env) :: starEach [] X.env := by rfl) :
    Ex X W (.Call (.Name "tuple" p) [.Call (.Name "range" p2) [a] [] pos2] [] pos) (tupL (rg1E fa)) := by
  refine PE.imp (pe_tupRg hc g1 hl (prg_1 g2 hr ha na) nb) fun σ H Q ⟨ε, F, re, q⟩ => ⟨ε, F, re, ?_⟩
  have q : ((fa ε >>= fun x => (rgLK (.int 0) x).hard) >>= fun ds => R.ok (PyData.tuple ds)).wp _ _ := q
  rw [R.bind_assoc'] at q
  refine R.wp_mono (R.wp_bind q) (fun d k v H1 F1 g hd => ?_) (fun e k => k)
  obtain ⟨i, j, e1, rfl, c, k⟩ := rgLK_ok (E := fun _ => False) (P := fun ds => ∀ v H' F', Grow H F H' F' → Den X.K H' F' v (.tuple ds) → Q v H') (x := .int 0) (y := d) (by
    cases z : rgLK (.int 0) d with
    | ok ds => rw [z] at k; exact k
    | exn _ => rw [z] at k; exact k.elim
    | stuck => rw [z] at k; exact k.elim)
  cases e1
  cases hd
  exact ⟨j, rfl, c, rg_finT g c k⟩
end
end RB

set_option Elab.async false
set_option linter.all false
set_option maxRecDepth 100000
set_option maxHeartbeats 4000000
set_option pp.maxSteps 600
namespace RB
open PySem PySem.Spec PyProof.Rows L2
/-! ### a + b of lists: a new list that nothing else knows -/
def catLD : D → D → R (List D)
  | .list a, .list b => if a.length + b.length ≤ 16777216 then .ok (a ++ b) else .stuck
  | _, _ => .stuck
def catE (fa fb : Env → R D) : Env → R (List D) := fun ε => fa ε >>= fun x => fb ε >>= fun y => (catLD x y).hard
section
variable {X : Cx} {W : WX} {a b : Expr} {fa fb : Env → R D} {pos : Pos}
theorem fx_cat (ha : Ex X W a fa) (hb : Ex X W b fb) : Fx X W (.BinOp a .Add b pos) (catE fa fb) := by
  refine PE.imp (pe_op op_catL ha hb) fun σ H Q ⟨ε, F, re, q⟩ => ⟨ε, F, re, ?_⟩
  refine R.wp_mono (R.wp_bind q) (fun dx k v H1 F1 g1 d1 => ⟨ε, F1, re.grow g1, ?_⟩) (fun e k => k)
  refine R.wp_mono (R.wp_bind k) (fun dy k w H2 F2 g2 d2 => ?_) (fun e k cls x H' F' g => k cls x H' F' (g1.trans g))
  have d1 := d1.grow g2
  cases d1 with
  | @lst l vs ds l1 l2 l3 =>
    cases d2 with
    | @lst m ws es m1 m2 m3 =>
      have k : (if ds.length + es.length ≤ 16777216 then R.ok (ds ++ es) else .stuck).hard.wp (FinL X.K H F Q) _ := k
      by_cases c : ds.length + es.length ≤ 16777216
      · rw [if_pos c] at k
        have hz : vs.length + ws.length ≤ sizeLine := by rw [l2.length, m2.length, sizeLine_eq]; exact c
        refine ⟨l, m, vs, ws, rfl, rfl, l1.sql, m1.sql, hz, fun p hp => ?_⟩
        have g := g1.trans g2
        have g3 := grow_new (o := .lst (vs ++ ws)) g.ok hp
        exact k p _ _ F2 (g.trans g3) (g.back hp) upd_same (fun f => by
          obtain ⟨u, e⟩ := g.ok p f
          rw [hp] at e; cases e) ((l2.append m2).grow g3) (by rw [List.length_append]; exact hz)
      · rw [if_neg c] at k; exact k.elim
    | _ => exact k.elim
  | _ => exact k.elim
end
end RB

set_option Elab.async false
set_option linter.all false
set_option maxRecDepth 100000
set_option maxHeartbeats 4000000
set_option pp.maxSteps 600
namespace RB
open PySem PySem.Spec PyProof.Rows L2
/-- y = xs.pop(), xs the own list at i, y's slot j -/
def popS (i j : Nat) : Gam → R Fl := fun Γ => listAt i Γ >>= fun ys => match ys[ys.length - 1]? with
  | some d => .ok (.nx ((Γ.set i (.ol ys.dropLast)).set j (.da d)))
  | none => .stuck
section
variable {X : Cx} {W : WX} {H0 : Hp} {F0 : Addr → Prop} {pos apos cpos : Pos}
theorem st_pop (i j : Nat) {x y : Str} {px py : Pos} (hNd : X.N.Nodup) (hN : X.N[i]? = some x := by rfl) (hj : X.N[j]? = some y := by rfl) (hv : Vis X.env.scope x := by first | exact Or.inl rfl | exact Or.inr (Or.inl rfl) | exact Or.inr (Or.inr rfl))
    (hx : Loc X.env.scope y := by first | exact Or.inl rfl | exact Or.inr rfl)
    (hd : (x == ("__debug__" : Str)) = false := by decide) (hcd : (x == ("__classdict__" : Str)) = false := by decide)
    (hbase : attributeBase (.Name x px) "pop" X.env (eval (.Name x px) X.env) = eval (.Name x px) X.env := by rfl) (hline : (apos.endLine == cpos.line) = true := by rfl)
    (hs : swapsWith (.Call (.Attribute (.Name x px) "pop" apos) [] [] cpos) (some (.Name y py)) pos.line X.env = pure false := by rfl) (hf : X.fn y = true ∨ X.env.scope.names.lookup y = some .local := by first | exact .inl rfl | exact .inr rfl) :
    Sx X W H0 F0 (.Assign [.Name y py] (.Call (.Attribute (.Name x px) "pop" apos) [] [] cpos) pos) (popS i j) := by
  have h : PE X (.Call (.Attribute (.Name x px) "pop" apos) [] [] cpos) (tBM0 X.K "list" rPop (tVar i)) := pe_bm0 PySem.F.plainAttrs_list PySem.F.slot_list_pop PySem.F.type_list_pop mt_pop (pe_var hN hv hd hcd) hbase hline
  refine PS.imp (ps_set hNd hj hx h hs hf) fun E σ H ⟨Γ, F, r, fl, e, k⟩ => ?_
  obtain ⟨ys, e1, e⟩ := ok_bind' e
  have e1 := listAt_ok e1
  obtain ⟨a, vs, ow, ha, hn, hden, hz⟩ := r.ownOf e1
  cases q : ys[ys.length - 1]? with
  | none => rw [q] at e; cases e
  | some d =>
    rw [q] at e
    cases e
    obtain ⟨v, hv1, dv⟩ := hden.getD q
    rw [← hden.length] at hv1
    refine ⟨.ref a, ow.1, .inl ⟨rfl, vs, SqL.of ha⟩, a, vs, v, rfl, rfl, ha, hv1, ?_⟩
    have p := pres_upd (o := .lst vs.dropLast) ha hn
    have r2 := r.upd ow (ds := ys.dropLast) (vs := vs.dropLast) (by rw [List.dropLast_eq_take, List.dropLast_eq_take, hden.length]; exact hden.take _) (by rw [List.length_dropLast]; omega)
    exact k _ _ F (r2.setda (dv.pres p)) p
end
end RB

set_option Elab.async false
set_option linter.all false
set_option maxRecDepth 100000
set_option maxHeartbeats 4000000
set_option pp.maxSteps 600
namespace RB
open PySem PySem.Spec PyProof.Rows L2
/-- xs.extend(e), xs the own list at i, e a new list -/
def extS (L : List Nat) (i : Nat) (f : Env → R (List D)) : Gam → R Fl := fun Γ => listAt i Γ >>= fun ys => lift (f (view L Γ)) Γ fun ds => if ys.length + ds.length ≤ 16777216 ∧ (L = [] ∨ noLsts ds = true) then .ok (.nx (Γ.set i (.ol (ys ++ ds)))) else .stuck
section
variable {X : Cx} {W : WX} {H0 : Hp} {F0 : Addr → Prop} {pos apos cpos : Pos}
theorem st_ext (L : List Nat) (i : Nat) {x : Str} {px : Pos} {e : Expr} {f : Env → R (List D)} (he : Fx X W e f) (hN : X.N[i]? = some x := by rfl) (hv : Vis X.env.scope x := by first | exact Or.inl rfl | exact Or.inr (Or.inl rfl) | exact Or.inr (Or.inr rfl))
    (hd : (x == ("__debug__" : Str)) = false := by decide) (hcd : (x == ("__classdict__" : Str)) = false := by decide)
    (hbase : attributeBase (.Name x px) "extend" X.env (eval (.Name x px) X.env) = eval (.Name x px) X.env := by rfl)
    (hfew : ((backTo cpos (starEach [e] X.env)).all (fun x => !x.1) && (backToKw cpos (keywordEach [] X.env)).all (fun x => x.1.isSome)
      && decide ([e].length + ([] : List Keyword).length + (if ([] : List Keyword).isEmpty then 0 else 1) < 30)) = true := by rfl)
    (hline : (apos.endLine == cpos.line) = true := by rfl) (hse : starEach [e] X.env = (false, eval e X.env) :: starEach [] X.env := by rfl) (hpl : (backTo cpos (starEach [] X.env)).any (·.1) = false := by rfl)
    (hs : swapsWith (.Call (.Attribute (.Name x px) "extend" apos) [e] [] cpos) none pos.line X.env = pure false := by rfl) : Sx X W H0 F0 (.Expr (.Call (.Attribute (.Name x px) "extend" apos) [e] [] cpos) pos) (extS L i f) := by
  have h : PE X (.Call (.Attribute (.Name x px) "extend" apos) [e] [] cpos) (tBM X.K "list" rExtend (tVar i) (tCons (tF X.K X.mg W f) tNil)) := pe_bm PySem.F.plainAttrs_list PySem.F.slot_list_extend PySem.F.type_list_extend mt_extend (pe_var hN hv hd hcd) (pa_cons he pa_nil hse) hbase hfew hline hse hpl
  refine PS.imp (ps_expr h hs) fun E σ H ⟨Γ, F, r, fl, e, k⟩ => ?_
  obtain ⟨ys, e1, e⟩ := ok_bind' e
  have e1 := listAt_ok e1
  obtain ⟨a, vs, ow, ha, hn, hden, hz⟩ := r.ownOf e1
  obtain ⟨re, g0⟩ := r.view L
  refine ⟨.ref a, ow.1, .inl ⟨rfl, vs, SqL.of ha⟩, _, _, re, ?_⟩
  rcases lift_cases e with ⟨ds, e2, e3⟩ | ⟨y, e2, e3⟩
  · rw [e2]
    by_cases c : ys.length + ds.length ≤ 16777216 ∧ (L = [] ∨ noLsts ds = true)
    · rw [if_pos c] at e3
      cases e3
      intro p zs H' F' g hp hp' nf hdz hzz
      have r1 := r.back g
      have p1 := pres_FM r g
      obtain ⟨ws, h2, n2, hden2, hz2⟩ := r_own r1 ow e1
      have dz : DenL X.K H' (FM F' σ Γ L) zs ds := by
        rcases c.2 with c | c
        · subst c
          exact hdz.pres ⟨fun _ _ h => h, fun _ _ _ h => h, fun a u f h => ⟨⟨f, fun ⟨i, hi, _⟩ => nomatch hi⟩, h⟩⟩
        · exact hdz.free c
      have hl : ws.length + zs.length ≤ sizeLine := by rw [hden2.length, dz.length, sizeLine_eq]; exact c.1
      refine ⟨a, p, ws, zs, rfl, rfl, h2, hp', hl, ?_⟩
      exact k _ _ _ (r1.upd ow (hden2.append dz) (by rw [List.length_append]; exact hl)) (p1.trans (pres_upd h2 n2))
    · rw [if_neg c] at e3; cases e3
  · rw [e2]
    subst e3
    exact fun cls y H' F' g ho => k cls y σ H' _ (r.back g) (pres_FM r g) ho
end
end RB

set_option Elab.async false
set_option linter.all false
set_option maxRecDepth 100000
set_option maxHeartbeats 4000000
set_option pp.maxSteps 600
namespace RB
open PySem PySem.Spec PyProof.Rows L2
/-! ### sets of keys of any kind, with what a walk over them needs -/
section
variable {P : Program} {w : World} {T : Type} [DecidableEq T] (knd : PySem.KeyKind P w T)
open Classical in
noncomputable def kf (v : Value) : Option T := if h : ∃ k, knd.is k v = true then some (Classical.choose h) else none
theorem kf_of {k : T} {v : Value} (h : knd.is k v = true) : kf knd v = some k := by
  have e : ∃ k, knd.is k v = true := ⟨k, h⟩
  unfold kf
  rw [dif_pos e, knd.inj v _ k (Classical.choose_spec e) h]
theorem kf_some {k : T} {v : Value} (h : kf knd v = some k) : knd.is k v = true := by
  unfold kf at h
  split at h
  · rename_i e
    cases h
    exact Classical.choose_spec e
  · cases h
/-- what an add makes of the keys -/
def addK (ks : List T) (k : T) : List T := if k ∈ ks then ks else ks ++ [k]
def SetG (h : Heap) (a : Addr) (ks : List T) : Prop :=
  ∃ o es ep t, h.get? a = some o ∧ o.ExactSet ∧ o.data = .set es ep t ∧ ElemsOf knd es.toList ∧ (es.toList.map fun e => kf knd e.2).Perm (ks.map some) ∧ ks.Nodup ∧
    es.size < scanBound ∧ t.fits es.size = true ∧ Ris t.place.toList ∧ (w.params.followText "set-order" = true ∨ t.led = true)
variable {knd}
theorem SetG.at {h h' : Heap} {a : Addr} {ks : List T} (R : SetG knd h a ks) (k : ∀ o, h.get? a = some o → h'.get? a = some o) : SetG knd h' a ks := by
  obtain ⟨o, es, ep, t, ho, r⟩ := R
  exact ⟨o, es, ep, t, k o ho, r⟩
theorem mem_kf {es : List (Int × Value)} {ks : List T} (pm : (es.map fun e => kf knd e.2).Perm (ks.map some)) (k : T) : k ∈ ks ↔ ∃ e ∈ es, knd.is k e.2 = true := by
  have a : some k ∈ ks.map some ↔ k ∈ ks := by simp
  rw [← a, ← pm.mem_iff, List.mem_map]
  constructor
  · rintro ⟨e, he, q⟩
    exact ⟨e, he, kf_some knd q⟩
  · rintro ⟨e, he, q⟩
    exact ⟨e, he, kf_of knd q⟩
theorem len_kf {es : Array (Int × Value)} {ks : List T} (pm : (es.toList.map fun e => kf knd e.2).Perm (ks.map some)) : es.size = ks.length := by
  have := pm.length_eq
  rw [List.length_map, List.length_map, Array.length_toList] at this
  exact this
theorem SetG.setOf {h : Heap} {a : Addr} {ks : List T} (R : SetG knd h a ks) : h.SetOf knd a (fun k => decide (k ∈ ks)) ks.length := by
  obtain ⟨o, es, ep, t, ho, hx, hd, g, pm, nd, hb, hf, _⟩ := R
  exact ⟨o, es, ep, t, ho, hx, hd, g, fun k => by rw [decide_eq_true_eq]; exact mem_kf pm k, hb, hf, len_kf pm⟩
end
section
variable {P : Program} {w : World} {T : Type} [DecidableEq T] {knd : PySem.KeyKind P w T} {A : Around} {E : Value → Shared → Prop} {s : Shared} {a : Addr} {ks : List T}
theorem setG_tail {g : Bool → Sem Unit} (hg : ∀ (b : Bool) (s₁ : Shared) (Q' : Unit → Shared → Prop), Q' () s₁ → wpAny (model P w) A (g b) Q' E s₁)
    {o : Obj} {es : Array (Int × Value)} {ep : Nat} {t : SetTable} (ho : s.heap.get? a = some o) (hex : o.ExactSet) (hd : o.data = .set es ep t)
    {es1 : Array (Int × Value)} {t2 : SetTable} {ks' : List T} (g1 : ElemsOf knd es1.toList) (pm1 : (es1.toList.map fun e => kf knd e.2).Perm (ks'.map some)) (nd1 : ks'.Nodup)
    (hb1 : es1.size < scanBound) (hf2 : t2.fits es1.size = true) (hr : Ris t2.place.toList) (hl : w.params.followText "set-order" = true ∨ t2.led = true) {wasDummy : Bool} {R : Option Bool → Shared → Prop}
    (hR : ∀ h', Heap.SameBut a s.heap h' → SetG knd h' a ks' → R (some true) { s with heap := h' }) :
    wpAny (model P w) A (do
        storeSet a es1 t2
        if (!wasDummy && t2.tooFull) = true then do
            g (relayAll t2 es1 (SetTable.grown es1.size)).2.2
            storeSet a (relayAll t2 es1 (SetTable.grown es1.size)).1 (relayAll t2 es1 (SetTable.grown es1.size)).2.1
            pure (some true)
          else pure (some true)) R E s := by
  refine wpAny_bind (wpAny_storeSet_of ho hd ?_ (fits_of_scanBound hb1))
  have ho1 := L2.store_at (es' := es1) (t' := t2) ho hd
  have sb1 := Heap.SameBut.update s.heap a (Obj.putSet es1 t2)
  split
  · have pm := relayAll_perm t2 es1 (SetTable.grown es1.size)
    have hf3 := relayAll_fits t2 es1 (SetTable.grown es1.size)
    have hr3 := relayAll_ris t2 es1 (SetTable.grown es1.size)
    have hl3 := relayAll_led t2 es1 (SetTable.grown es1.size)
    generalize relayAll t2 es1 (SetTable.grown es1.size) = Z at pm hf3 hr3 hl3 ⊢
    obtain ⟨es2, t3, gave⟩ := Z
    dsimp only at pm hf3 hr3 hl3 ⊢
    have hsz : es2.size = es1.size := by rw [← Array.length_toList, pm.length_eq, Array.length_toList]
    have hb2 : es2.size < scanBound := by rw [hsz]; exact hb1
    refine wpAny_bind (hg _ _ _ ?_)
    refine wpAny_bind (wpAny_storeSet_of ho1 rfl ?_ (fits_of_scanBound hb2))
    have ho2 := L2.store_at (es' := es2) (t' := t3) ho1 rfl
    exact wpAny_pure (hR _ (sb1.trans (Heap.SameBut.update _ a _)) ⟨_, es2, _, t3, ho2, hex, rfl, g1.perm pm, (pm.map _).trans pm1, nd1, hb2, hf3, hr3, hl.imp id fun z => by rw [hl3]; exact z⟩)
  · exact wpAny_pure (hR _ sb1 ⟨_, es1, _, t2, ho1, hex, rfl, g1, pm1, nd1, hb1, hf2, hr, hl⟩)
theorem setG_hashed {k : T} {x : Value} {Q : Bool → Shared → Prop} (hkey : knd.is k x = true) (hsc : x.scannable = true) (R : SetG knd s.heap a ks) (room : ks.length + 1 < scanBound)
    (hQ : ∀ b h', Heap.SameBut a s.heap h' → SetG knd h' a (addK ks k) → Q b { s with heap := h' }) :
    wpAny (model P w) A (setAddHashed a x (knd.hash k)) Q E s := by
  obtain ⟨o, es, ep, t, ho, hex, hd, g, pm0, nd, hb, hf, hr, hl⟩ := R
  unfold setAddHashed setAddHashedIn
  refine wpAny_holding (wpAny_bind (wpAny_setState_of ho hd hf ?_))
  dsimp only
  rw [byScan_of hsc hb g]
  simp only [↓reduceIte]
  unfold setAddByScan
  refine wpAny_bind ?_
  refine wpAny_bind (wpAny_rule ?_)
  refine wpAny_bind (wpAny_setScan_of hkey ho hd hf g ?_)
  cases hfi : List.findIdx? (fun e => knd.is k e.2) es.toList with
  | some j =>
    dsimp only
    obtain ⟨hj, pj, _⟩ := List.findIdx?_eq_some_iff_getElem.mp hfi
    have hk : k ∈ ks := (mem_kf pm0 k).2 ⟨es.toList[j], List.getElem_mem hj, pj⟩
    refine wpAny_pure (wpAny_pure ?_)
    exact hQ _ s.heap (Heap.SameBut.refl a s.heap) (by
      unfold addK
      rw [if_pos hk]
      exact ⟨o, es, ep, t, ho, hex, hd, g, pm0, nd, hb, hf, hr, hl⟩)
  | none =>
    dsimp only
    have hnk : k ∉ ks := fun z => by
      obtain ⟨e, he, q⟩ := (mem_kf pm0 k).1 z
      have c := List.findIdx?_eq_none_iff.mp hfi e he
      rw [q] at c
      cases c
    have hgw : ∀ (b : Bool) {s₁ : Shared} {Q' : Unit → Shared → Prop}, Q' () s₁ → wpAny (model P w) A (match b with | true => rule "set.scan.the-table-gave-way" | false => pure ()) Q' E s₁ :=
      fun b s₁ Q' q => by cases b <;> first | exact wpAny_pure q | exact wpAny_rule q
    have pm := layNew_perm t es (knd.hash k) x
    have hf1 := layNew_fits t es (knd.hash k) x
    have hr1 := layNew_ris t es (knd.hash k) x hr
    have hl1 := layNew_led t es (knd.hash k) x
    generalize layNew t es (knd.hash k) x = Z at pm hf1 hr1 hl1 ⊢
    obtain ⟨es1, t1, wasDummy, gave⟩ := Z
    dsimp only at pm hf1 hr1 hl1 ⊢
    rw [Array.toList_push] at pm
    have g1 : ElemsOf knd es1.toList := (g.push hkey hsc).perm pm
    have pm1 : (es1.toList.map fun e => kf knd e.2).Perm ((ks ++ [k]).map some) := by
      refine (pm.map _).trans ?_
      rw [List.map_append, List.map_append]
      refine List.Perm.append pm0 ?_
      show [kf knd x].Perm [some k]
      rw [kf_of knd hkey]
    have nd1 : (ks ++ [k]).Nodup := (List.perm_append_singleton k ks).nodup_iff.mpr (List.nodup_cons.mpr ⟨hnk, nd⟩)
    have hsz : es1.size = ks.length + 1 := by
      have := len_kf pm1
      rw [List.length_append] at this
      exact this
    have hb1 : es1.size < scanBound := by rw [hsz]; exact room
    have hled : w.params.followText "set-order" = true ∨ t1.led = true := hl.imp id fun z => by rw [hl1]; exact z
    have fin : ∀ h', Heap.SameBut a s.heap h' → SetG knd h' a (ks ++ [k]) → Q true { s with heap := h' } := fun h' sb r => hQ _ h' sb (by
      unfold addK
      rw [if_neg hnk]
      exact r)
    refine wpAny_bind (hgw _ ?_)
    split
    · refine wpAny_bind ?_
      rw [hashByValue_scannable 8 hsc]
      refine wpAny_pure ?_
      refine setG_tail ?_ ho hex hd g1 pm1 nd1 hb1 ?_ ?_ ?_ ?_
      · intro b s₁ Q' q; cases b <;> first | exact wpAny_pure q | exact wpAny_rule q
      · first | (split <;> first | exact hf1 | exact SetTable.fits_plain_off hf1) | exact hf1
      · first | (split <;> exact hr1) | exact hr1
      · first | (split <;> exact hled) | exact hled
      · intro h' sb r; dsimp only; exact wpAny_pure (fin h' sb r)
    · refine wpAny_bind (wpAny_pure ?_)
      simp only [↓reduceIte]
      refine setG_tail ?_ ho hex hd g1 pm1 nd1 hb1 hf1 hr1 hled ?_
      · intro b s₁ Q' q; cases b <;> first | exact wpAny_pure q | exact wpAny_rule q
      · intro h' sb r; dsimp only; exact wpAny_pure (fin h' sb r)
/-- s.add(k) -/
theorem setG_add {k : T} {x : Value} {Q : Value → Shared → Prop} (hkey : knd.is k x = true) (hsc : x.scannable = true) (R : SetG knd s.heap a ks) (room : ks.length + 1 < scanBound)
    (hQ : ∀ h', Heap.SameBut a s.heap h' → SetG knd h' a (addK ks k) → Q .none { s with heap := h', toks := s.toks + 1 }) :
    wpAny (model P w) A (call (.builtin "set.add") [.ref a, x]) Q E s := by
  have hS := R.setOf
  refine wpAny_call_entry F.slot_set_add hS.typeIs F.entry_set_add ?_ (F.args_set_add_2 _ _)
  unfold Builtin.«set.add» Builtin.Frozenset.oneOther
  simp only [List.isEmpty_nil, bind_assoc]
  unfold Builtin.Frozenset.addrOf setAdd
  refine wpAny_bind (wpAny_pure ?_)
  try dsimp only
  refine wpAny_bind (wpAny_pure ?_)
  try dsimp only
  refine wpAny_bind ?_
  refine wpAny_holding ?_
  refine wpAny_bind (knd.pyHash hkey ?_)
  refine setG_hashed (s := { s with toks := s.toks + 1 }) hkey hsc R room fun b h' sb r => ?_
  show wpAny _ _ (ret Value.none) _ _ _
  exact wpAny_pure ⟨_, rfl, hQ h' sb r⟩
theorem setG_fresh {h : Heap} (knd : PySem.KeyKind P w T) : SetG knd (h.push { cls := .type "set", dict := none, data := .set #[] 0 (.fresh 0 0 (!w.params.followText "set-order")) }) h.objs.size [] :=
  ⟨_, #[], 0, _, Heap.get?_push_size _ rfl, ⟨rfl, rfl, rfl⟩, rfl, (fun e he => by simp at he), (by simp), (by simp), (by decide), (by rfl), List.Pairwise.nil, by
    show _ ∨ (!w.params.followText "set-order") = true
    cases w.params.followText "set-order"
    · exact .inr rfl
    · exact .inl rfl⟩
end
end RB

set_option Elab.async false
set_option linter.all false
set_option maxRecDepth 100000
set_option maxHeartbeats 4000000
set_option pp.maxSteps 600
namespace RB
open PySem PySem.Spec PyProof.Rows L2 PpSet
/-! ### a set of ints and texts, tracked -/
def SetGO (P : Program) (w : World) (a : Addr) (ks : List Key) : HO := .ext fun h => SetG (mixKind P w) h a ks
theorem setGO_new {w : World} {P : Program} {H : Hp} {h : Heap} {a : Addr} {ks : List Key} (R : SetG (mixKind P w) h a ks) : ObjOk P w H h a (SetGO P w a ks) := by
  have ⟨o, _, _, _, ho, _⟩ := R
  exact ⟨R, ⟨o, ho⟩, fun h1 h2 p k => SetG.at p k⟩
section
variable {X : Cx}
theorem setGO_get {pins : List (Addr × Obj)} {σ : L2.St} {H : Hp} {s : Shared} {a : Addr} {ks : List Key} (I : Inv X pins σ H s) (ha : H a = some (SetGO X.prog X.w a ks)) : SetG (mixKind X.prog X.w) s.heap a ks := (I.hok a _ ha).1
theorem setGO_add {pins : List (Addr × Obj)} {σ : L2.St} {H : Hp} {s : Shared} {E : Value → Shared → Prop} {D : Addr} {ks : List Key} {k : Key} {u : Value} {Q : Value → Shared → Prop} (I : Inv X pins σ H s) (hD : H D = some (SetGO X.prog X.w D ks)) (ru : RelV (kV k) u) (room : ks.length + 1 < scanBound)
    (h : ∀ s', Inv X pins σ (upd H D (SetGO X.prog X.w D (addK ks k))) s' → Q .none s') : wpAny (model X.prog X.w) X.A (call (.builtin "set.add") [.ref D, u]) Q E s := by
  refine setG_add (kV_is ru) (key_scan ru) (setGO_get I hD) room fun h' sb new => ?_
  have he : ∃ u, h'.get? D = some u := by
    have ⟨o, _, _, _, ho, _⟩ := new
    exact ⟨o, ho⟩
  exact h _ (I.write (e := D) (t' := s.toks + 1) (by rw [hD]; trivial) (.inl rfl) (fun b u hb hu => (sb.2 b hb).trans hu) he (setGO_new new))
/-- {elt for target in iter if ..}: D the new set -/
def tSG (P : Program) (w : World) (wi : TI) (g : TG) (tt : TT) (te : TE) (vs : List Nat) : TE := fun σ H Q => wi σ H fun J H1 => ∀ D, H1 D = none → ∃ W : Nat → Nat → Hp → Prop, (∃ m, W 0 m (upd H1 D (SetGO P w D []))) ∧ ∀ i m H, W i m H →
  (J.stop i H ∧ Q (.ref D) H) ∨ (J.go i H ∧ ∃ Nx : Hp → Prop, (∀ H', Nx H' → ∃ m', m' < m ∧ W (i + 1) m' H') ∧ ∀ x H', J.yld i H x H' → g x (wipe σ vs) H' fun σ2 H2 => wipe σ2 vs = wipe σ vs ∧ tt σ2 H2 fun b H3 =>
    if b = true then te σ2 H3 fun y H4 => ∃ (k : Key) (ks : List Key), y = kV k ∧ H4 D = some (SetGO P w D ks) ∧ ks.length + 1 < scanBound ∧ Nx (upd H4 D (SetGO P w D (addK ks k))) else Nx H3)
theorem pe_setC {elt tg iter : Expr} {ifs : List Expr} {scope : Scope} {own : List (Str × Nat)} {pos : Pos} {wi : TI} {g : TG} {tt : TT} {te : TE} (hc : X.calm = true) (hN : X.N.Nodup) (hi : PI X tg iter wi) (ok : BlkOk X.N X.env.scope scope own)
    (hg : ∀ (s : Shared) (H : Hp) (C : Addr) (cl : List (Str × Addr)) (fp : List Addr), PG (X.blk s H scope (compEnvC scope cl C X.env) fp) tg g) (ht : ∀ (s : Shared) (H : Hp) (C : Addr) (cl : List (Str × Addr)) (fp : List Addr), PTs (X.blk s H scope (compEnvC scope cl C X.env) fp) ifs tt)
    (he : ∀ (s : Shared) (H : Hp) (C : Addr) (cl : List (Str × Addr)) (fp : List Addr), PE (X.blk s H scope (compEnvC scope cl C X.env) fp) elt te) (hs : ∀ x, foldedSetIterable iter X.env x = pure x := by intro _; rfl) :
    PE X (.SetComp elt [⟨tg, iter, ifs, 0⟩] scope pos) (tSG X.prog X.w wi g tt te (own.map (·.2))) := by
  refine ⟨fun pins s σ H Q I h => ?_⟩
  rw [eval_SetComp]
  have hfree : ∀ y ∈ scope.names, y.2 = .free → ∃ c, X.env.cells.lookup y.1 = some c := fun y hy e => by
    rcases ok.free y hy e with k | k
    · exact I.ok.has _ (.inl k)
    · exact I.ok.has _ (.inr k)
  refine wpAny_comprehension_free (use := none) rfl hs (closure_ok hfree) ok.kind (fun y hy e => by rw [ok.uniq y hy, e])
    (thn (hi.run pins s σ H _ I h) fun xv s1 hx => thn hx fun itv s2 h2 => ?_)
  obtain ⟨it, fp, tn, J, H2, e, I2, T, st2, f2, q⟩ := h2
  subst e
  refine PpSet.newSet_ok (newEnv_comp ?_)
  generalize hD : s2.heap.objs.size = D
  have hDn : H2 D = none := I2.hok.fresh (Nat.le_of_eq hD)
  obtain ⟨W, ⟨m0, w0⟩, turn⟩ := q D hDn
  generalize hs3 : ({ s2 with heap := s2.heap.push { cls := .type "set", dict := none, data := .set #[] 0 (.fresh 0 0 (!X.w.params.followText "set-order")) } } : Shared) = s3
  have h3 : s3.heap = s2.heap.push { cls := .type "set", dict := none, data := .set #[] 0 (.fresh 0 0 (!X.w.params.followText "set-order")) } := by rw [← hs3]
  generalize hH3 : upd H2 D (SetGO X.prog X.w D []) = H3 at w0
  have I3 : Inv X pins σ H3 s3 := by
    rw [← hs3, ← hH3]
    refine I2.laid (t' := s2.toks) (fun b o e => Heap.get?_push_of_some _ e) (Nat.le_of_eq hD) ?_
    rw [← hD]
    exact setGO_new (setG_fresh _)
  have f3 : ∀ b ∈ fp, FpOk X pins H3 b ∧ b < s3.heap.objs.size := fun b hb => by
    obtain ⟨o, e, _⟩ := T.obj _ _ st2 b hb
    have hlt := Heap.lt_size e
    refine ⟨⟨?_, (f2 b hb).2⟩, by rw [h3, Heap.size_push]; exact Nat.lt_succ_of_lt hlt⟩
    rw [← hH3, upd_ne (by rw [← hD]; exact Nat.ne_of_lt hlt)]
    exact (f2 b hb).1
  have st3 : tn 0 s3.heap := T.keep _ _ _ st2 fun b _ o e => by rw [h3]; exact Heap.get?_push_of_some _ e
  have I4 := block_start I3 ok hN f3
  have pg := hg s3 H3 s3.heap.objs.size (cellsFrom (s3.heap.objs.size + 1) scope.names (cloFrom X.env.cells scope.names [])) fp
  have pt := ht s3 H3 s3.heap.objs.size (cellsFrom (s3.heap.objs.size + 1) scope.names (cloFrom X.env.cells scope.names [])) fp
  have pe := he s3 H3 s3.heap.objs.size (cellsFrom (s3.heap.objs.size + 1) scope.names (cloFrom X.env.cells scope.names [])) fp
  show codeAny _ _ (.compStart (.SetComp elt [⟨tg, iter, ifs, 0⟩] scope pos) 0 (.ref it) (.ref D) (compEnvC scope (cellsFrom (s3.heap.objs.size + 1) scope.names (cloFrom X.env.cells scope.names [])) s3.heap.objs.size X.env)) (compPost (model X.prog X.w) X.A X.xe none _ (.ref D) s3.heap.objs.size) { s3 with heap := pushCells (s3.heap.push { cls := .type "dict", data := .dict #[] }) scope.names }
  generalize hce : compEnvC scope (cellsFrom (s3.heap.objs.size + 1) scope.names (cloFrom X.env.cells scope.names [])) s3.heap.objs.size X.env = ce at I4 pg pt pe ⊢
  have cL : ce.locals = s3.heap.objs.size := by subst hce; rfl
  generalize hs4 : ({ s3 with heap := pushCells (s3.heap.push { cls := .type "dict", data := .dict #[] }) scope.names } : Shared) = s4 at I4 ⊢
  have st4 : tn 0 s4.heap := T.keep _ _ _ st3 fun b _ o e => by rw [← hs4]; exact pushCells_keeps _ _ _ _ (Heap.get?_push_of_some _ e)
  have stat : ∀ {σ' : L2.St} {H' : Hp} {s' : Shared}, Inv (X.blk s3 H3 scope ce fp) [] σ' H' s' → (∀ b ∈ fp, H' b = none) → ∀ b ∈ fp, FpOk (X.blk s3 H3 scope ce fp) [] H' b := fun {σ' H' s'} I' hn b hb =>
    ⟨hn b hb, (I'.ok.exf b hb).1, I'.ok.exfs b hb, .inl hb, fun x c e => (I'.ok.exf b hb).2 x c e, fun p hp => absurd (show p ∈ ([] : List (Addr × Obj)) ++ [] from hp) (by simp)⟩
  refine (fun loop => codeAny_compStart_set loop (T.self X.A 0 _ _ _ st4 loop)) ?_
  refine compLoopS_any (fun n s' => ∃ i H', Inv (X.blk s3 H3 scope ce fp) [] (wipe σ (own.map (·.2))) H' s' ∧ tn i s'.heap ∧ (∀ b ∈ fp, H' b = none) ∧ W i n H') ?_ m0 ⟨0, H3, I4, st4, fun b hb => (f3 b hb).1.1, w0⟩
  rintro n s5 ⟨i, H5, I5, st5, n5, w5⟩
  rcases turn i n H5 w5 with ⟨stop, qq⟩ | ⟨go, Nx, hNx, step⟩
  · refine thnF (T.done (X.blk s3 H3 scope ce fp) rfl rfl rfl hc i [] s5 _ H5 (fun _ _ => False) I5 (stat I5 n5) st5 stop) fun r s6 ⟨hr, I6⟩ => ?_
    subst hr
    have I7 : Inv X pins σ H5 s6 := I3.call' (ch := fp) I6.os I6.base I6.hok I6.bare fun b hb => ⟨(f3 b hb).1.2.2.2.1, (f3 b hb).1.2.1, (f3 b hb).1.2.2.2.2.1, (f3 b hb).1.2.2.2.2.2⟩
    have nC : H5 s3.heap.objs.size = none := by
      have z : H5 ce.locals = none := I6.free
      rw [cL] at z
      exact z
    obtain ⟨m, hn, _⟩ := I6.loc
    have hn : s6.heap.Ns ce.locals m := hn
    rw [cL] at hn
    obtain ⟨f0, f1, f2', f3', f4, f5⟩ := I3.fpOk (Nat.le_refl _) nC
    exact ⟨m, hn, fun h'' sb => ⟨.ref D, H5, I7.turned (t' := s6.toks) (fun b o hb e => (sb.2 b hb).trans e) nC f1 f3' f4 f5, rfl, qq⟩⟩
  · refine thnF (T.item (X.blk s3 H3 scope ce fp) rfl rfl rfl hc i [] s5 _ H5 (fun _ _ => False) I5 (stat I5 n5) st5 go) fun r s6 ⟨u, hr, h6⟩ => ?_
    subst hr
    refine thnF h6 fun _ s7 ⟨x, H7, I7, r7, y7, st7, n7⟩ => ?_
    have I7' := I7.pinned (stat I7 n7) (T.obj _ _ st7)
    refine thnF (pg.run _ s7 _ H7 x u _ I7' r7 (step x H7 y7)) fun _ s8 ⟨σ8, H8, I8, hw8, q8⟩ => ?_
    refine thnF (pt.run _ s8 σ8 H8 _ I8 q8) fun b s9 ⟨H9, I9, q9⟩ => ?_
    have fin : ∀ {s' : Shared} {H' : Hp}, Inv (X.blk s3 H3 scope ce fp) ([] ++ pinsAt fp s7.heap) σ8 H' s' → Nx H' → ∃ m, m < n ∧ ∃ i H', Inv (X.blk s3 H3 scope ce fp) [] (wipe σ (own.map (·.2))) H' s' ∧ tn i s'.heap ∧ (∀ b ∈ fp, H' b = none) ∧ W i m H' := fun {s' H'} I' nx => by
      obtain ⟨m', hm, w'⟩ := hNx H' nx
      have pin' : ∀ b ∈ fp, ∀ o, s7.heap.get? b = some o → s'.heap.get? b = some o ∧ H' b = none := fun b hb o e =>
        let z := I'.pin (b, o) (List.mem_append_right _ (List.mem_append_right _ (mem_pinsAt hb e)))
        ⟨z.1, z.2.1⟩
      refine ⟨m', hm, i + 1, H', (I'.unpinned (pins := [])).weak (by rw [← hw8, wipe_length]) (fun j v e => ?_), T.keep _ _ _ st7 fun b hb o e => (pin' b hb o e).1, fun b hb => ?_, w'⟩
      · rw [← hw8] at e
        exact (wipe_some e).1
      · obtain ⟨o, e, _⟩ := T.obj _ _ st7 b hb
        exact (pin' b hb o e).2
    cases b with
    | false =>
      simp only [Bool.false_eq_true, if_false] at q9 ⊢
      exact fin I9 q9
    | true =>
      simp only [if_true] at q9 ⊢
      refine thnF (pe.run _ s9 σ8 H9 _ I9 q9) fun z s10 ⟨yv, H10, I10, r10, k, ks, ey, hD10, hz10, nx⟩ => ?_
      subst ey
      exact setGO_add (X := X.blk s3 H3 scope ce fp) I10 hD10 r10 hz10 fun s11 I11 => fin I11 nx
end
end RB

set_option Elab.async false
set_option linter.all false
set_option maxRecDepth 100000
set_option maxHeartbeats 4000000
set_option pp.maxSteps 600
namespace RB
open PySem PySem.Spec PyProof.Rows L2
def keyOfD : D → R Key
  | .int i => .ok (.inl i)
  | .str z => .ok (.inr z)
  | _ => .stuck
def keysOfD : List D → R (List Key)
  | [] => .ok []
  | d :: ds => keyOfD d >>= fun k => keysOfD ds >>= fun ks => .ok (k :: ks)
def setKs (ks : List Key) : List Key := ks.foldl addK []
def keysS (ds : List D) : R (List Key) := (keysOfD ds).hard >>= fun ks => if ks.length ≤ 4000 then .ok (setKs ks) else .stuck
theorem keyOf_den {K : PySem.W.Frag} {H : Hp} {F : Addr → Prop} {v : V} {d : D} {k : Key} (h : Den K H F v d) (e : keyOfD d = .ok k) : v = kV k := by
  cases h <;> cases e <;> rfl
theorem keys_append : ∀ {a b : List D} {ks : List Key}, keysOfD (a ++ b) = .ok ks → ∃ ka kb, keysOfD a = .ok ka ∧ keysOfD b = .ok kb ∧ ks = ka ++ kb
  | [], b, ks, e => ⟨[], ks, rfl, e, rfl⟩
  | d :: a, b, ks, e => by
    obtain ⟨k, e1, e⟩ := ok_bind' (show (keyOfD d >>= fun k => keysOfD (a ++ b) >>= fun ks => R.ok (k :: ks)) = R.ok ks from e)
    obtain ⟨ks', e2, e⟩ := ok_bind' e
    cases e
    obtain ⟨ka, kb, h1, h2, rfl⟩ := keys_append e2
    refine ⟨k :: ka, kb, ?_, h2, rfl⟩
    show (keyOfD d >>= fun k => keysOfD a >>= fun ks => R.ok (k :: ks)) = _
    rw [e1]
    show (keysOfD a >>= fun ks => R.ok (k :: ks)) = _
    rw [h1]; rfl
theorem keys_len : ∀ {a : List D} {ks : List Key}, keysOfD a = .ok ks → ks.length = a.length
  | [], ks, e => by cases e; rfl
  | d :: a, ks, e => by
    obtain ⟨k, e1, e⟩ := ok_bind' (show (keyOfD d >>= fun k => keysOfD a >>= fun ks => R.ok (k :: ks)) = R.ok ks from e)
    obtain ⟨ks', e2, e⟩ := ok_bind' e
    cases e
    rw [List.length_cons, List.length_cons, keys_len e2]
theorem addK_len (ks : List Key) (k : Key) : (addK ks k).length ≤ ks.length + 1 := by
  unfold addK
  split
  · omega
  · rw [List.length_append]; exact Nat.le_refl _
theorem setKs_snoc (ks : List Key) (k : Key) : setKs (ks ++ [k]) = addK (setKs ks) k := by
  unfold setKs
  rw [List.foldl_append]; rfl
theorem setKs_len (ks : List Key) : (setKs ks).length ≤ ks.length := by
  have : ∀ (l acc : List Key), (l.foldl addK acc).length ≤ acc.length + l.length := by
    intro l
    induction l with
    | nil => intro acc; exact Nat.le_refl _
    | cons k l ih =>
      intro acc
      have := ih (addK acc k)
      have := addK_len acc k
      rw [List.foldl_cons, List.length_cons]
      omega
  have := this ks []
  simpa [setKs] using this
/-- a new set that nothing else knows, of the keys that f tells -/
def tST (P : Program) (w : World) (K : PySem.W.Frag) (mg : Str → Option Value) (W : WX) (f : Env → R (List Key)) : TE := fun σ H Q => ∃ ε F, RE K σ ε H F ∧ (f ε).wp (fun ks => ∀ p H' F', Grow H F H' F' → H p = none → H' p = some (SetGO P w p ks) → ¬ F' p → Q (.ref p) H') fun e => ∀ cls x H' F', Grow H F H' F' → ExnOf mg e cls x H' → W cls x σ H'
abbrev Kx (X : Cx) (W : WX) (e : Expr) (f : Env → R (List Key)) : Prop := PE X e (tST X.prog X.w X.K X.mg W f)
def setE_ (f : Env → R (List D)) : Env → R (List Key) := fun ε => f ε >>= keysS
theorem pres_own {H : Hp} {F : Addr → Prop} {p : Addr} {P : Program} {w : World} {ks : List Key} {o : HO} (h : H p = some (SetGO P w p ks)) (nf : ¬ F p) : Pres H F (upd H p o) F :=
  ⟨fun a xs e => by rw [upd_ne (fun z => by rw [z, h] at e; cases e)]; exact e, fun a o' u e => by rw [upd_ne (fun z => by rw [z, h] at e; cases e)]; exact e,
    fun a u f e => ⟨f, by rw [upd_ne (fun (z : a = p) => nf (z ▸ f))]; exact e⟩⟩
theorem sc_read {P : Program} {w : World} {K : PySem.W.Frag} {mg : Str → Option Value} {it : Env → R (List D)} {t : Tg} {fi : Env → R Bool} {fe : Env → R D} {vs : List Nat} {σ : L2.St} {H : Hp} {F : Addr → Prop} {ε : Env} {Q : VK} {E : Exn → Prop} (re : RE K σ ε H F) (hsl : ∀ i ∈ slotsT t, i ∈ vs)
    (q : (setE_ (compE vs it t fi fe) ε).wp (fun ks => ∀ p H' F', Grow H F H' F' → H p = none → H' p = some (SetGO P w p ks) → ¬ F' p → Q (.ref p) H') E) :
    (it ε).wp (fun ds => ∀ J H1 F1, Grow H F H1 F1 → WalkD K J H1 F1 ds → ds.length ≤ sizeLine → ∀ Dd, H1 Dd = none → ∃ W : Nat → Nat → Hp → Prop, (∃ m, W 0 m (upd H1 Dd (SetGO P w Dd []))) ∧ ∀ i m H, W i m H →
      (J.stop i H ∧ Q (.ref Dd) H) ∨ (J.go i H ∧ ∃ Nx : Hp → Prop, (∀ H', Nx H' → ∃ m', m' < m ∧ W (i + 1) m' H') ∧ ∀ x H', J.yld i H x H' → tgR K t x (wipe σ vs) H' fun σ2 H2 => wipe σ2 vs = wipe σ vs ∧ tB_ K mg W0 fi σ2 H2 fun b H3 =>
        if b = true then tE K mg W0 fe σ2 H3 fun y H4 => ∃ (k : Key) (ks : List Key), y = kV k ∧ H4 Dd = some (SetGO P w Dd ks) ∧ ks.length + 1 < scanBound ∧ Nx (upd H4 Dd (SetGO P w Dd (addK ks k))) else Nx H3)) E := by
  have q : ((it ε >>= fun ds => compL t fi fe (wipeE ε vs) ds) >>= keysS).wp _ E := q
  rw [R.bind_assoc'] at q
  refine R.wp_mono (R.wp_bind q) (fun ds k J H1 F1 g1 ⟨G, Y, wk, wG, wY⟩ hz Dd hD => ?_) (fun e k => k)
  obtain ⟨tot, etot, k⟩ := compL_ok (R.wp_bind k)
  have k : ((keysOfD tot).hard >>= fun ks => if ks.length ≤ 4000 then R.ok (setKs ks) else .stuck).wp _ _ := k
  obtain ⟨kt, ekt, k2⟩ := wp_hard k
  obtain ⟨hkt, kfin⟩ := ite_wp (x := R.ok _) k2
  have reb := (re.grow g1).wipe vs
  have nD : ¬ F1 Dd := fun f => by
    obtain ⟨u, e⟩ := g1.ok Dd f
    rw [hD] at e; cases e
  refine ⟨fun i m H2 => m = ds.length - i ∧ i ≤ ds.length ∧ ∃ F2 kd done rest, Grow H1 F1 H2 F2 ∧ H2 Dd = some (SetGO P w Dd (setKs kd)) ∧ ¬ F2 Dd ∧ keysOfD done = .ok kd ∧ compL t fi fe (wipeE ε vs) (ds.drop i) = .ok rest ∧ done ++ rest = tot,
    ⟨ds.length, by simp, Nat.zero_le _, F1, [], [], tot, grow_new g1.ok hD, upd_same, nD, rfl, by rw [List.drop_zero]; exact etot, rfl⟩, ?_⟩
  intro i m H2 ⟨hm, hi, F2, kd, done, rest, g2, e1, e2, e3, e4, e5⟩
  subst hm
  by_cases hlt : i < ds.length
  case neg =>
    have : i = ds.length := by omega
    subst this
    refine .inl ⟨wk.stops H2 (wG H2 F2 g2.pres), ?_⟩
    rw [List.drop_length] at e4
    unfold compL at e4
    cases e4
    rw [List.append_nil] at e5
    subst e5
    rw [e3] at ekt
    cases ekt
    exact kfin Dd H2 F2 (g1.trans g2) (g1.back hD) e1 e2
  refine .inr ⟨wk.goes i H2 hlt (wG H2 F2 g2.pres), fun H3 => ∃ F3 kd done rest, Grow H1 F1 H3 F3 ∧ H3 Dd = some (SetGO P w Dd (setKs kd)) ∧ ¬ F3 Dd ∧ keysOfD done = .ok kd ∧ compL t fi fe (wipeE ε vs) (ds.drop (i + 1)) = .ok rest ∧ done ++ rest = tot,
    fun H' h => ⟨ds.length - (i + 1), by omega, rfl, hlt, h⟩, fun x H3 yx => ?_⟩
  obtain ⟨d, ed, g3, dx⟩ := wY i H2 F2 x H3 hlt g2.pres g2.ok (wk.yields i H2 x H3 hlt (wG H2 F2 g2.pres) yx)
  rw [drop_get ed] at e4
  have e1' := g3.same _ _ e1
  refine comp_turn (ds := ds.drop (i + 1)) (reb.grow (g2.trans g3)) dx hsl e4 (fun yd ys er ec v H4 F4 g4 dv => ?_) fun ec H4 F4 g4 => ?_
  · have e1'' := g4.same _ _ e1'
    have nf := g4.notF e1' e2
    rw [← e5, er] at ekt
    obtain ⟨ka, kb, h1, h2, h3⟩ := keys_append ekt
    rw [e3] at h1
    cases h1
    obtain ⟨ky, h4, h5⟩ := ok_bind' (show (keyOfD yd >>= fun k => keysOfD ys >>= fun ks => R.ok (k :: ks)) = R.ok kb from h2)
    have hl : kd.length < kt.length := by
      obtain ⟨ks', h6, h7⟩ := ok_bind' h5
      cases h7
      rw [h3, List.length_append, List.length_cons]
      omega
    have hs := setKs_len kd
    have hsb : (setKs kd).length + 1 < scanBound := by
      have : scanBound = 4096 := rfl
      omega
    refine ⟨ky, setKs kd, keyOf_den dv h4, e1'', hsb, F4, kd ++ [ky], done ++ [yd], ys, grow_upd (g2.trans (g3.trans g4)) hD, by rw [upd_same, setKs_snoc], nf, ?_, ec, by rw [← e5, er, List.append_assoc]; rfl⟩
    have : ∀ {a : List D} {ka : List Key}, keysOfD a = .ok ka → keysOfD (a ++ [yd]) = .ok (ka ++ [ky]) := by
      intro a
      induction a with
      | nil => intro ka e; cases e; show (keyOfD yd >>= fun k => keysOfD [] >>= fun ks => R.ok (k :: ks)) = _; rw [h4]; rfl
      | cons a l ih =>
        intro ka e
        obtain ⟨k1, f1, f2⟩ := ok_bind' (show (keyOfD a >>= fun k => keysOfD l >>= fun ks => R.ok (k :: ks)) = R.ok ka from e)
        obtain ⟨ks', f3, f4⟩ := ok_bind' f2
        cases f4
        show (keyOfD a >>= fun k => keysOfD (l ++ [yd]) >>= fun ks => R.ok (k :: ks)) = _
        rw [f1]
        show (keysOfD (l ++ [yd]) >>= fun ks => R.ok (k1 :: ks)) = _
        rw [ih f3]; rfl
    exact this e3
  · exact ⟨F4, kd, done, rest, g2.trans (g3.trans g4), g4.same _ _ e1', g4.notF e1' e2, e3, ec, e5⟩
section
variable {X : Cx} {W : WX}
theorem kx_sc {elt tg iter : Expr} {ifs : List Expr} {scope : Scope} {own : List (Str × Nat)} {pos : Pos} {it : Env → R (List D)} {t : Tg} {fi : Env → R Bool} {fe : Env → R D} (hN : X.N.Nodup) (hi : Ix X W tg iter it) (ok : BlkOk X.N X.env.scope scope own)
    (hsl : ∀ i ∈ slotsT t, i ∈ own.map (·.2))
    (hg : ∀ (s : Shared) (H : Hp) (C : Addr) (cl : List (Str × Addr)) (fp : List Addr), Gx (X.blk s H scope (compEnvC scope cl C X.env) fp) tg t) (ht : ∀ (s : Shared) (H : Hp) (C : Addr) (cl : List (Str × Addr)) (fp : List Addr), Txs (X.blk s H scope (compEnvC scope cl C X.env) fp) W0 ifs fi)
    (he : ∀ (s : Shared) (H : Hp) (C : Addr) (cl : List (Str × Addr)) (fp : List Addr), Ex (X.blk s H scope (compEnvC scope cl C X.env) fp) W0 elt fe) (hc : X.calm = true := by rfl) (hs : ∀ x, foldedSetIterable iter X.env x = pure x := by intro _; rfl) :
    Kx X W (.SetComp elt [⟨tg, iter, ifs, 0⟩] scope pos) (setE_ (compE (own.map (·.2)) it t fi fe)) := by
  refine PE.imp (pe_setC (g := tgR X.K t) (tt := tB_ X.K X.mg W0 fi) (te := tE X.K X.mg W0 fe) hc hN hi ok hg ht he hs) fun σ H Q ⟨ε, F, re, q⟩ => ⟨ε, F, re, ?_⟩
  exact sc_read re hsl q
/-- len of a set -/
def rLenK (P : Program) (w : World) : List V → Hp → VK → Prop := fun xs H Q => ∃ a ks, xs = [V.ref a] ∧ H a = some (SetGO P w a ks) ∧ ks.length ≤ 4000 ∧ Q (.int ks.length) H
theorem cr_lenK : CallR X (.builtin "len") (rLenK X.prog X.w) := by
  intro pins s σ H xs us Q I r ⟨a, ks, e, ha, hz, q⟩
  subst e
  rw [Vals.ref1 r]
  obtain ⟨o, es, ep, t, ho, hex, hd, g, pm, nd, hb, hf, _⟩ := setGO_get I ha
  have hl := len_kf pm
  exact call_len_set ho hex hd hf (by rw [hl]; omega) ⟨.int ks.length, H, I.tok _, ⟨_, by rw [hl]⟩, q⟩
def lenKE (f : Env → R (List Key)) : Env → R D := fun ε => f ε >>= fun ks => if ks.length ≤ 4000 then .ok (.int ks.length) else .stuck
theorem ex_lenK {e : Expr} {f : Env → R (List Key)} {p pos : Pos} (hm : X.mg "len" = none) (he : Kx X W e f) (hst : starEach [e] X.env = (false, eval e X.env) :: starEach [] X.env := by rfl) (hpl : (backTo pos (starEach [] X.env)).any (·.1) = false := by rfl) (hgl : Gl X "len" := by rfl) :
    Ex X W (.Call (.Name "len" p) [e] [] pos) (lenKE f) := by
  refine PE.imp (pe_callB (id := "len") cr_lenK hgl hm (by decide +kernel) (pa_cons he pa_nil hst) (by decide) (by decide) hst hpl) fun σ H Q ⟨ε, F, re, q⟩ => ⟨ε, F, re, ?_⟩
  refine R.wp_mono (R.wp_bind q) (fun ks k p H' F' g hp hp' nf => ?_) (fun e k => k)
  obtain ⟨c, k⟩ := ite_wp (x := R.ok _) k
  exact ⟨p, ks, rfl, hp', c, k _ _ _ g (.int _)⟩
end
end RB

set_option Elab.async false
set_option linter.all false
set_option maxRecDepth 100000
set_option maxHeartbeats 4000000
set_option pp.maxSteps 600
namespace RB
open PySem PySem.Spec PyProof.Rows L2
/-! ### sorted of a set -/
theorem sorted_unique {α : Type} {le : α → α → Prop} : ∀ {l1 l2 : List α}, (∀ a b, a ∈ l1 → b ∈ l1 → le a b → le b a → a = b) → l1.Perm l2 → l1.Pairwise le → l2.Pairwise le → l1 = l2
  | [], l2, _, p, _, _ => p.nil_eq
  | a :: t, [], _, p, _, _ => absurd p.symm.nil_eq (by simp)
  | a :: t, b :: u, anti, p, h1, h2 => by
    obtain ⟨a1, a2⟩ := List.pairwise_cons.mp h1
    obtain ⟨b1, b2⟩ := List.pairwise_cons.mp h2
    have e : a = b := by
      have ha : a ∈ b :: u := p.mem_iff.mp (List.mem_cons_self ..)
      have hb : b ∈ a :: t := p.mem_iff.mpr (List.mem_cons_self ..)
      rcases List.mem_cons.mp ha with z | z
      · exact z
      rcases List.mem_cons.mp hb with y | y
      · exact y.symm
      exact anti a b (List.mem_cons_self ..) hb (a1 b y) (b1 a z)
    subst e
    rw [sorted_unique (fun x y hx hy => anti x y (List.mem_cons_of_mem _ hx) (List.mem_cons_of_mem _ hy)) (p.cons_inv) a2 b2]
theorem le_trans (a b c : D) (h1 : PySem.W.dataLe false id a b = true) (h2 : PySem.W.dataLe false id b c = true) : PySem.W.dataLe false id a c = true := by
  have h1 : (!PySem.W.dataLt b a) = true := h1
  have h2 : (!PySem.W.dataLt c b) = true := h2
  show (!PySem.W.dataLt c a) = true
  cases q : PySem.W.dataLt c a with
  | false => rfl
  | true =>
    rcases PyProof.Rows.lex_negTrans (O := itemOrd) _ (PySem.W.keyToks b) _ q with z | z
    · have z : PySem.W.dataLt c b = true := z
      rw [z] at h2; cases h2
    · have z : PySem.W.dataLt b a = true := z
      rw [z] at h1; cases h1
theorem le_total (a b : D) : (PySem.W.dataLe false id a b || PySem.W.dataLe false id b a) = true := by
  show ((!PySem.W.dataLt b a) || !PySem.W.dataLt a b) = true
  cases q : PySem.W.dataLt b a with
  | false => rfl
  | true =>
    cases z : PySem.W.dataLt a b with
    | false => rfl
    | true =>
      have y := PyProof.Rows.lex_trans (O := itemOrd) _ _ _ q z
      rw [PyProof.Rows.lex_irrefl] at y
      cases y
theorem keyToks_inj {a b : Key} (h : PySem.W.keyToks (keyD a) = PySem.W.keyToks (keyD b)) : keyD a = keyD b := by
  cases a with
  | inl i =>
    cases b with
    | inl j =>
      have h : ([.inl i] : List (Int ⊕ List Nat)) = [.inl j] := by simpa [keyD, PySem.W.keyToks] using h
      cases h; rfl
    | inr y => simp [keyD, PySem.W.keyToks] at h
  | inr x =>
    cases b with
    | inl j => simp [keyD, PySem.W.keyToks] at h
    | inr y =>
      have h : x.cps.toList = y.cps.toList := by simpa [keyD, PySem.W.keyToks] using h
      obtain ⟨⟨x⟩⟩ := x
      obtain ⟨⟨y⟩⟩ := y
      have : x = y := h
      rw [this]
theorem le_anti {a b : Key} (h1 : PySem.W.dataLe false id (keyD a) (keyD b) = true) (h2 : PySem.W.dataLe false id (keyD b) (keyD a) = true) : keyD a = keyD b := by
  have h1 : (!PySem.W.dataLt (keyD b) (keyD a)) = true := h1
  have h2 : (!PySem.W.dataLt (keyD a) (keyD b)) = true := h2
  refine keyToks_inj (PyProof.Rows.lex_total (O := itemOrd) _ _ ?_ ?_)
  · exact Bool.not_eq_true' _ ▸ h2
  · exact Bool.not_eq_true' _ ▸ h1
theorem sortD_perm {k1 k2 : List Key} (p : k1.Perm k2) : sortD (k1.map keyD) = sortD (k2.map keyD) := by
  have m1 := List.mergeSort_perm (k1.map keyD) (PySem.W.dataLe false id)
  have m2 := List.mergeSort_perm (k2.map keyD) (PySem.W.dataLe false id)
  refine sorted_unique (le := fun a b => PySem.W.dataLe false id a b = true) (fun a b ha hb h1 h2 => ?_) (m1.trans ((p.map keyD).trans m2.symm)) (List.pairwise_mergeSort le_trans le_total _) (List.pairwise_mergeSort le_trans le_total _)
  have ha := m1.mem_iff.mp ha
  have hb := m1.mem_iff.mp hb
  obtain ⟨ka, _, rfl⟩ := List.mem_map.mp ha
  obtain ⟨kb, _, rfl⟩ := List.mem_map.mp hb
  exact le_anti h1 h2
end RB

set_option Elab.async false
set_option linter.all false
set_option maxRecDepth 100000
set_option maxHeartbeats 4000000
set_option pp.maxSteps 600
namespace RB
open PySem PySem.Spec PyProof.Rows L2
/-- the value stands for a key's data -/
def KeyU (P : Program) (w : World) (u : Value) (d : D) : Prop := ∃ k : Key, d = keyD k ∧ (mixKind P w).is k u = true
section
variable {P : Program} {w : World}
theorem keyU_reads {h : Heap} {u : Value} {d : D} (x : KeyU P w u d) : ∃ as, Reads h u d as ∧ as = [] := by
  obtain ⟨k, rfl, e⟩ := x
  rcases keyIs_shape (show keyIs k u = true from e) with ⟨i, t, rfl, rfl⟩ | ⟨z, t, rfl, rfl⟩
  · exact ⟨[], .int _ _, rfl⟩
  · exact ⟨[], .str _ _, rfl⟩
theorem keyU_rel {u : Value} {d : D} (x : KeyU P w u d) : ∃ k : Key, d = keyD k ∧ RelV (kV k) u := by
  obtain ⟨k, rfl, e⟩ := x
  refine ⟨k, rfl, ?_⟩
  rcases keyIs_shape (show keyIs k u = true from e) with ⟨i, t, rfl, rfl⟩ | ⟨z, t, rfl, rfl⟩
  · exact ⟨t, rfl⟩
  · exact ⟨t, rfl⟩
theorem each_keys : ∀ (us : List Value) (ks : List Key), (us.map fun u => kf (mixKind P w) u) = ks.map some → PySem.W.EachIs (KeyU P w) us (ks.map keyD)
  | [], [], _ => .nil
  | [], _ :: _, e => by cases e
  | _ :: _, [], e => by cases e
  | u :: us, k :: ks, e => by
    rw [List.map_cons, List.map_cons] at e
    injection e with e1 e2
    exact .cons ⟨k, rfl, kf_some _ e1⟩ (each_keys us ks e2)
theorem perm_some {α : Type} {l : List (Option α)} {ks : List α} (p : l.Perm (ks.map some)) : ∃ ko : List α, l = ko.map some ∧ ko.Perm ks := by
  refine ⟨l.filterMap id, ?_, ?_⟩
  · have h : ∀ x ∈ l, ∃ k, x = some k := fun x hx => by
      obtain ⟨k, _, e⟩ := List.mem_map.mp (p.mem_iff.mp hx)
      exact ⟨k, e.symm⟩
    clear p
    induction l with
    | nil => rfl
    | cons x l ih =>
      obtain ⟨k, rfl⟩ := h x (List.mem_cons_self ..)
      rw [List.filterMap_cons]
      show _ = (k :: l.filterMap id).map some
      rw [List.map_cons, ← ih fun y hy => h y (List.mem_cons_of_mem _ hy)]
  · have := p.filterMap id
    have e : (ks.map some).filterMap id = ks := by
      induction ks with
      | nil => rfl
      | cons k ks ih =>
        rw [List.map_cons, List.filterMap_cons]
        show k :: (ks.map some).filterMap id = _
        rw [show (ks.map some).filterMap id = ks by
          clear ih p this
          induction ks with
          | nil => rfl
          | cons k ks ih => rw [List.map_cons, List.filterMap_cons]; show k :: (ks.map some).filterMap id = _; rw [ih]]
    rw [e] at this
    exact this
variable {A : Around} {E : Value → Shared → Prop} {s : Shared} {a : Addr} {ks : List Key}
theorem sorted_setG {Q : Value → Shared → Prop} (R : SetG (mixKind P w) s.heap a ks) (hh : A.handled = none) (ok : PySem.W.AllAlike (ks.map keyD)) (hu : A.units + 66 < cLine)
    (hQ : ∀ s' p (out : List Value) (c : Nat), (∀ b o, s.heap.get? b = some o → s'.heap.get? b = some o) → s'.gens = s.gens → s'.os = s.os → s.heap.objs.size ≤ p →
      s'.heap.get? p = some (seqObj "list" out.toArray c) → PySem.W.EachIs (KeyU P w) out (sortD (ks.map keyD)) → Q (.ref p) s') :
    wpAny (model P w) A (call (.builtin "sorted") [.ref a]) Q E s := by
  obtain ⟨o, es, ep, t, ho, hex, hd, g, pm, nd, hb, hf, hr, hl⟩ := R
  have hn := len_kf pm
  refine Calls.call_function_entry kind_sorted plain_sorted entry_sorted (args_sorted1 _) ?_
  unfold Builtin.«sorted»
  refine wpAny_bind (m := checkCount "sorted" 1 1 _) (wpAny_pure ?_)
  refine wpAny_bind (collect_set (A := A.in1) hh ⟨o, ho, hex.1, hd⟩ hf hb hr hl fun s1 vs k1 hz g1 o1 pv => ?_)
  have pk : (vs.map fun u => kf (mixKind P w) u).Perm (ks.map some) := by
    have q := pv.map fun u => kf (mixKind P w) u
    rw [List.map_map] at q
    exact q.trans pm
  obtain ⟨ko, ek, pko⟩ := perm_some pk
  have ev := each_keys vs ko ek
  have hvl : vs.length ≤ sizeLine := by rw [pv.length_eq, List.length_map, Array.length_toList]; exact fits_of_scanBound hb
  have al : PySem.W.AllAlike (ko.map keyD) := fun d hd d' hd' => ok d ((pko.map keyD).mem_iff.mp hd) d' ((pko.map keyD).mem_iff.mp hd')
  have so : PySem.W.Sortable (ko.map keyD) := .inr fun d hd => by
    obtain ⟨k, _, rfl⟩ := List.mem_map.mp hd
    cases k <;> exact ⟨(by intro z; cases z), (by intro xs z; cases z)⟩
  refine wpAny_bind (wpAny_newList ?_ hvl)
  have hoL : (s1.heap.push (seqObj "list" vs.toArray 0)).get? s1.heap.objs.size = some (seqObj "list" vs.toArray 0) := Heap.get?_push_size _ rfl
  refine wpAny_bind (wpAny_holding (PySem.W.list_sort_data (s := { s1 with heap := s1.heap.push (seqObj "list" vs.toArray 0) }) (R := KeyU P w) (enc := id) (bs := ko.map keyD) hoL ev
    (ev.mono fun v b x => by
      obtain ⟨as, r, e⟩ := keyU_reads (h := s1.heap.push (seqObj "list" vs.toArray 0)) x
      exact ⟨as, r, by rw [e]; simp⟩) (by rw [List.map_id]; exact al) (by rw [List.map_id]; exact so) (by rw [← ev.length]; exact hvl) (fun b hb => ?_) fun out h1 h2 => ?_))
  · obtain ⟨k, _, rfl⟩ := List.mem_map.mp hb
    have h0 : (id (keyD k) : D).depth = 0 := by cases k <;> simp [keyD, PyData.depth]
    rw [h0]
    show A.in1.units + 1 + 0 < cLine
    have : A.in1.units ≤ A.units + 1 := by
      show A.units + 1 ≤ _
      omega
    omega
  · obtain ⟨c, hc⟩ := sortedHeap_at (vs := vs) (out := out.toArray) hoL
    have h2 : PySem.W.EachIs (KeyU P w) out (sortD (ko.map keyD)) := h2
    rw [sortD_perm pko] at h2
    refine wpAny_pure ⟨_, rfl, hQ _ s1.heap.objs.size out c (fun b u e => ?_) g1 o1 hz hc h2⟩
    have q := k1 b u e
    have hlt := Heap.lt_size q
    show (sortedHeap (s1.heap.push (seqObj "list" vs.toArray 0)) s1.heap.objs.size vs out.toArray).get? b = some u
    rw [sortedHeap_old (Nat.ne_of_lt hlt) (by rw [size_push']; exact Nat.lt_succ_of_lt hlt)]
    exact Heap.get?_push_of_some _ q
end
end RB

set_option Elab.async false
set_option linter.all false
set_option maxRecDepth 100000
set_option maxHeartbeats 4000000
set_option pp.maxSteps 600
namespace RB
open PySem PySem.Spec PyProof.Rows L2
def rSortedK (P : Program) (w : World) : List V → Hp → VK → Prop := fun xs H Q => ∃ a ks, xs = [V.ref a] ∧ H a = some (SetGO P w a ks) ∧ PySem.W.AllAlike (ks.map keyD) ∧
  ∀ (ws : List Key) p, ws.map keyD = sortD (ks.map keyD) → ws.length = ks.length → ws.length ≤ sizeLine → H p = none → Q (.ref p) (upd H p (.lst (ws.map kV)))
theorem keys_of_each {P : Program} {w : World} : ∀ {us : List Value} {ds : List D}, PySem.W.EachIs (KeyU P w) us ds → ∃ ws : List Key, ws.map keyD = ds ∧ Vals (ws.map kV) us
  | _, _, .nil => ⟨[], rfl, .nil⟩
  | _, _, .cons x t => by
    obtain ⟨k, rfl, r⟩ := keyU_rel x
    obtain ⟨ws, rfl, v⟩ := keys_of_each t
    exact ⟨k :: ws, rfl, .cons r v⟩
def okK : Key → Prop
  | .inl _ => True
  | .inr z => okS z
noncomputable def sortKS (ks : List Key) : R (List D) := given_ (PySem.W.AllAlike (ks.map keyD) ∧ ∀ k ∈ ks, okK k) (.ok (sortD (ks.map keyD)))
noncomputable def sortKE (f : Env → R (List Key)) : Env → R (List D) := fun ε => f ε >>= sortKS
theorem den_keys {K : PySem.W.Frag} {H : Hp} {F : Addr → Prop} : ∀ {ws : List Key}, (∀ k ∈ ws, okK k) → DenL K H F (ws.map kV) (ws.map keyD)
  | [], _ => .nil
  | .inl i :: ws, h => .cons (.int i) (den_keys fun k hk => h k (List.mem_cons_of_mem _ hk))
  | .inr z :: ws, h => .cons (.str z (h _ (List.mem_cons_self ..))) (den_keys fun k hk => h k (List.mem_cons_of_mem _ hk))
theorem keyD_inj {a b : Key} (h : keyD a = keyD b) : a = b := by
  cases a <;> cases b <;> cases h <;> rfl
section
variable {X : Cx} {W : WX}
theorem cr_sortedK (hc : X.calm = true) (hu : X.A.units + 66 < cLine) : CallR X (.builtin "sorted") (rSortedK X.prog X.w) := by
  intro pins s σ H xs us Q I r ⟨a, ks, e, ha, al, q⟩
  subst e
  rw [Vals.ref1 r]
  have R := setGO_get I ha
  refine sorted_setG R (I.ok.hd hc) al hu fun s' p out c k hg ho hp hget hev => ?_
  obtain ⟨ws, e1, v⟩ := keys_of_each hev
  have hlw : ws.length = ks.length := by
    have := congrArg List.length e1
    unfold sortD at this
    rw [List.length_map, List.length_mergeSort, List.length_map] at this
    exact this
  have hz : ws.length ≤ sizeLine := by
    obtain ⟨o, es, ep, t, _, _, _, _, pm, _, hb, _⟩ := R
    rw [hlw, ← len_kf pm]
    exact fits_of_scanBound hb
  have hn : H p = none := I.hok.fresh hp
  have J : Inv X pins σ (upd H p (.lst (ws.map kV))) { s with heap := s'.heap, gens := s'.gens, drawn := s'.drawn, toks := s'.toks } :=
    I.call (ch := []) (Un.laid k hp hn) (I.hok.laid k hp ⟨by rw [List.length_map]; exact hz, out, c, v, hget⟩) (by rw [hg]; exact I.bare) (fun _ z => nomatch z)
  have e : s' = { s with heap := s'.heap, gens := s'.gens, drawn := s'.drawn, toks := s'.toks } := by
    cases s'
    cases s
    cases ho
    rfl
  rw [e]
  exact ⟨.ref p, _, J, rfl, q ws p e1 hlw hz hn⟩
/-- sorted of a set -/
theorem fx_sortedK {e : Expr} {f : Env → R (List Key)} {p pos : Pos} (hm : X.mg "sorted" = none) (he : Kx X W e f) (hu : X.A.units + 66 < cLine) (hc : X.calm = true := by rfl) (hst : starEach [e] X.env = (false, eval e X.env) :: starEach [] X.env := by rfl) (hpl : (backTo pos (starEach [] X.env)).any (·.1) = false := by rfl) (hgl : Gl X "sorted" := by rfl) :
    Fx X W (.Call (.Name "sorted" p) [e] [] pos) (sortKE f) := by
  refine PE.imp (pe_callB (id := "sorted") (cr_sortedK hc hu) hgl hm (by decide +kernel) (pa_cons he pa_nil hst) (by decide) (by decide) hst hpl) fun σ H Q ⟨ε, F, re, q⟩ => ⟨ε, F, re, ?_⟩
  refine R.wp_mono (R.wp_bind q) (fun ks k a H' F' g hp hp' nf => ?_) (fun e k => k)
  have k : (given_ (PySem.W.AllAlike (ks.map keyD) ∧ ∀ k ∈ ks, okK k) (R.ok (sortD (ks.map keyD)))).wp _ _ := k
  obtain ⟨⟨al, ok⟩, k⟩ := given_wp k
  refine ⟨a, ks, rfl, hp', al, fun ws p2 e1 e2 hz hn => ?_⟩
  have g2 := grow_new (o := .lst (ws.map kV)) g.ok hn
  have okw : ∀ k ∈ ws, okK k := fun k hk => by
    have m : keyD k ∈ sortD (ks.map keyD) := by rw [← e1]; exact List.mem_map_of_mem hk
    unfold sortD at m
    obtain ⟨k2, h2, e⟩ := List.mem_map.mp ((List.mergeSort_perm _ _).mem_iff.mp m)
    rw [← keyD_inj e]
    exact ok k2 h2
  refine k p2 _ _ F' (g.trans g2) (g.back hn) upd_same (fun f => ?_) ?_ (by rw [List.length_map]; exact hz)
  · obtain ⟨u, e⟩ := g.ok p2 f
    rw [hn] at e; cases e
  · rw [← e1]
    exact den_keys okw
end
end RB

set_option Elab.async false
set_option linter.all false
set_option maxRecDepth 100000
set_option maxHeartbeats 4000000
set_option pp.maxSteps 600
namespace RB
open PySem PySem.Spec PyProof.Rows L2 PpSet
/-! ### {elt for tg in it if .. for tg1 in it1 if ..} -/
section
variable {prog : Program} {w : World} {A : Around} {R : Result → Shared → Prop} {s : Shared} {elt t0 i0 t1 i1 : Expr} {ifs0 ifs1 : List Expr} {scope : Scope} {pos : Pos} {it acc : Value} {env : PySem.Env}
abbrev sc2 (elt t0 i0 t1 i1 : Expr) (ifs0 ifs1 : List Expr) (scope : Scope) (pos : Pos) : Expr := .SetComp elt [⟨t0, i0, ifs0, 0⟩, ⟨t1, i1, ifs1, 0⟩] scope pos
/-- a turn of either loop that has met no end: its item put in place, its tests asked -/
abbrev met2 (M : Model) (A : Around) (env : PySem.Env) (N : Value → Shared → Prop) (t : Expr) (ifs : List Expr) (it : Value) (v : Value) (Q : Bool → Shared → Prop) (s₁ : Shared) : Prop :=
  wpAny M A (letOwnedTupleGo t it v) (fun _ s₁' => wpAny M A (assign t env v) (fun _ s₂ =>
    wpAny M A (forIn ifs true fun c r => if r = true then do let ok ← isTrue c env (eval c env); pure (ForInStep.yield ok) else pure (ForInStep.yield r)) Q N s₂) N s₁') N s₁
theorem set2_out (hs : ∀ x, foldedSetIterable i1 env x = pure x) (I : Nat → Shared → Prop)
    (turn : ∀ n s, I n s → wpAny (model prog w) A (pyNext it) (fun r s₁ => match r with
      | none => R (.ok .next) s₁
      | some v => met2 (model prog w) A env (notedBy (model prog w) A env fun e s' => R (.error e) s') t0 ifs0 it v (fun ok s₃ =>
            if ok = true then wpAny (model prog w) A (eval i1 env) (fun x s₄ => wpAny (model prog w) A (pyIter x) (fun it1 s₅ =>
              codeAny (model prog w) A (.compStart (sc2 elt t0 i0 t1 i1 ifs0 ifs1 scope pos) 1 it1 acc env) (fun r s' => match r with
                | .ok _ => ∃ m, m < n ∧ I m s'
                | .error _ => False) s₅) (notedBy (model prog w) A env fun e s' => R (.error e) s') s₄) (notedBy (model prog w) A env fun e s' => R (.error e) s') s₃
            else ∃ m, m < n ∧ I m s₃) s₁) (notedBy (model prog w) A env fun e s' => R (.error e) s') s)
    (n : Nat) (h : I n s) : codeAny (model prog w) A (.compLoop (sc2 elt t0 i0 t1 i1 ifs0 ifs1 scope pos) 0 it acc env) R s := by
  refine codeAny_loop rfl I (fun n s hI => ?_) n h
  show wpAny _ A ((compTurn (sc2 elt t0 i0 t1 i1 ifs0 ifs1 scope pos) 0 it acc env).onRaise (fun x => do noteFrame x env; theTreesLotGoes x)) _ _ s
  refine wpAny_noted ?_
  rw [show compTurn (sc2 elt t0 i0 t1 i1 ifs0 ifs1 scope pos) 0 it acc env = (do
      standAt i0.pos
      match ← pyNext it with
      | none => pure (.done .next)
      | some v =>
        letOwnedTupleGo t0 it v
        assign t0 env v
        let mut ok := true
        for c in ifs0 do
          if ok then ok ← isTrue c env (eval c env)
        if ok then
          let x ← eval i1 env
          standAt i1.pos
          let x ← foldedSetIterable i1 env x
          let _ ← runOwn (.compStart (sc2 elt t0 i0 t1 i1 ifs0 ifs1 scope pos) 1 (← holding [x] (pyIter x)) acc env) env
        again (.compLoop (sc2 elt t0 i0 t1 i1 ifs0 ifs1 scope pos) 0 it acc env)) from rfl]
  refine wpAny_bind (wpAny_standAt (wpAny_bind (wpAny_mono (turn n s hI) (fun r s₁ h₁ => ?_) fun _ _ h' => h')))
  cases r with
  | none => exact wpAny_pure h₁
  | some v =>
    refine wpAny_bind (wpAny_mono h₁ (fun _ s₁' h₁' => ?_) fun _ _ h' => h')
    refine wpAny_bind (wpAny_mono h₁' (fun _ s₂ h₂ => wpAny_bind (wpAny_mono h₂ (fun ok s₃ h₃ => ?_) fun _ _ h' => h')) fun _ _ h' => h')
    cases ok with
    | false => exact wpAny_pure ⟨rfl, h₃⟩
    | true =>
      refine wpAny_bind (wpAny_mono h₃ (fun x s₄ h₄ => ?_) fun _ _ h' => h')
      refine wpAny_bind (wpAny_standAt (wpAny_bind (wpAny_of_eq (hs x) (wpAny_bind (wpAny_holding (wpAny_mono h₄ (fun it1 s₅ h₅ => ?_) fun _ _ h' => h'))))))
      refine wpAny_bind (wpAny_runOwn ?_)
      rw [Around.mark_none]
      refine codeAny_mono h₅ fun r s' hr => ?_
      cases r with
      | ok f =>
        first
          | exact wpAny_pure ⟨rfl, hr⟩
          | exact wpAny_bind (wpAny_pure (wpAny_pure ⟨rfl, hr⟩))
      | error e => exact hr.elim
theorem set2_in (I : Nat → Shared → Prop)
    (turn : ∀ n s, I n s → wpAny (model prog w) A (pyNext it) (fun r s₁ => match r with
      | none => R (.ok .next) s₁
      | some v => met2 (model prog w) A env (notedBy (model prog w) A env fun e s' => R (.error e) s') t1 ifs1 it v (fun ok s₃ =>
            if ok = true then wpAny (model prog w) A (eval elt env) (fun x s₄ =>
              wpAny (model prog w) A (call (.builtin "set.add") [acc, x]) (fun _ s₅ => ∃ m, m < n ∧ I m s₅) (notedBy (model prog w) A env fun e s' => R (.error e) s') s₄) (notedBy (model prog w) A env fun e s' => R (.error e) s') s₃
            else ∃ m, m < n ∧ I m s₃) s₁) (notedBy (model prog w) A env fun e s' => R (.error e) s') s)
    (n : Nat) (h : I n s) : codeAny (model prog w) A (.compLoop (sc2 elt t0 i0 t1 i1 ifs0 ifs1 scope pos) 1 it acc env) R s := by
  refine codeAny_loop rfl I (fun n s hI => ?_) n h
  show wpAny _ A ((compTurn (sc2 elt t0 i0 t1 i1 ifs0 ifs1 scope pos) 1 it acc env).onRaise (fun x => do noteFrame x env; theTreesLotGoes x)) _ _ s
  refine wpAny_noted ?_
  rw [show compTurn (sc2 elt t0 i0 t1 i1 ifs0 ifs1 scope pos) 1 it acc env = (do
      standAt i1.pos
      match ← pyNext it with
      | none => pure (.done .next)
      | some v =>
        letOwnedTupleGo t1 it v
        assign t1 env v
        let mut ok := true
        for c in ifs1 do
          if ok then ok ← isTrue c env (eval c env)
        if ok then
          (do let v ← eval elt env; standAt elt.pos; let _ ← call (.builtin "set.add") [acc, v])
        again (.compLoop (sc2 elt t0 i0 t1 i1 ifs0 ifs1 scope pos) 1 it acc env)) from rfl]
  refine wpAny_bind (wpAny_standAt (wpAny_bind (wpAny_mono (turn n s hI) (fun r s₁ h₁ => ?_) fun _ _ h' => h')))
  cases r with
  | none => exact wpAny_pure h₁
  | some v =>
    refine wpAny_bind (wpAny_mono h₁ (fun _ s₁' h₁' => ?_) fun _ _ h' => h')
    refine wpAny_bind (wpAny_mono h₁' (fun _ s₂ h₂ => wpAny_bind (wpAny_mono h₂ (fun ok s₃ h₃ => ?_) fun _ _ h' => h')) fun _ _ h' => h')
    cases ok with
    | false => exact wpAny_pure ⟨rfl, h₃⟩
    | true =>
      exact wpAny_bind (wpAny_bind (wpAny_mono h₃ (fun x s₄ h₄ => wpAny_bind (wpAny_standAt (wpAny_bind (wpAny_mono h₄ (fun _ s₅ h₅ => wpAny_pure (wpAny_pure ⟨rfl, h₅⟩)) fun _ _ h' => h')))) fun _ _ h' => h'))
theorem set2_start (h0 : codeAny (model prog w) A (.compLoop (sc2 elt t0 i0 t1 i1 ifs0 ifs1 scope pos) 1 it acc env) R s)
    (h : wpAny (model prog w) A (pyIter it) (fun it' s' => codeAny (model prog w) A (.compLoop (sc2 elt t0 i0 t1 i1 ifs0 ifs1 scope pos) 1 it' acc env) R s')
      (notedBy (model prog w) A env fun x s' => R (.error x) s') s) :
    codeAny (model prog w) A (.compStart (sc2 elt t0 i0 t1 i1 ifs0 ifs1 scope pos) 1 it acc env) R s := by
  refine codeAny_of_tree ?_
  show wpAny _ _ ((compStart (sc2 elt t0 i0 t1 i1 ifs0 ifs1 scope pos) 1 it acc env).onRaise (fun x => do noteFrame x env; standAt theWindowsPlace)) _ _ s
  refine wpAny_notedAt ?_
  unfold compStart
  show wpAny _ _ (ask >>= _) _ _ s
  refine wpAny_bind (wpAny_askSetting (wpAny_ite ?_))
  split
  · first
      | exact wpAny_bind (wpAny_pure (wpAny_pure (And.intro rfl h0)))
      | exact wpAny_pure (And.intro rfl h0)
  · first
      | exact wpAny_bind (wpAny_rule (wpAny_bind (wpAny_standAt (wpAny_bind (wpAny_mono h (fun it' s' h' => wpAny_pure (And.intro rfl h')) fun _ _ x => x)))))
      | (refine wpAny_bind (wpAny_rule ?_); show wpAny _ _ (standAt i1.pos >>= _) _ _ s; exact wpAny_bind (wpAny_standAt (wpAny_bind (wpAny_mono h (fun it' s' h' => wpAny_pure (And.intro rfl h')) fun _ _ x => x))))
end
end RB

set_option Elab.async false
set_option linter.all false
set_option maxRecDepth 100000
set_option maxHeartbeats 4000000
set_option pp.maxSteps 600
namespace RB
open PySem PySem.Spec PyProof.Rows L2 PpSet
section
variable {X : Cx}
def tSG2 (P : Program) (w : World) (wi : TI) (g : TG) (tt : TT) (wi1 : TI) (g1 : TG) (tt1 : TT) (te : TE) (vs vs1 : List Nat) : TE := fun σ H Q => wi σ H fun J H1 => ∀ D, H1 D = none → ∃ W : Nat → Nat → Hp → Prop, (∃ m, W 0 m (upd H1 D (SetGO P w D []))) ∧ ∀ i m H, W i m H →
  (J.stop i H ∧ Q (.ref D) H) ∨ (J.go i H ∧ ∃ Nx : Hp → Prop, (∀ H', Nx H' → ∃ m', m' < m ∧ W (i + 1) m' H') ∧ ∀ x H', J.yld i H x H' → g x (wipe σ vs) H' fun σ2 H2 => wipe σ2 vs = wipe σ vs ∧ tt σ2 H2 fun b H3 =>
    if b = true then wi1 σ2 H3 fun J1 H4 => ∃ W1 : Nat → Nat → Hp → Prop, (∃ m, W1 0 m H4) ∧ ∀ j k H, W1 j k H →
      (J1.stop j H ∧ Nx H) ∨ (J1.go j H ∧ ∃ Nx1 : Hp → Prop, (∀ H', Nx1 H' → ∃ k', k' < k ∧ W1 (j + 1) k' H') ∧ ∀ x H', J1.yld j H x H' → g1 x (wipe σ2 vs1) H' fun σ3 H5 => wipe σ3 vs1 = wipe σ2 vs1 ∧ tt1 σ3 H5 fun b H6 =>
        if b = true then te σ3 H6 fun y H7 => ∃ (k : Key) (ks : List Key), y = kV k ∧ H7 D = some (SetGO P w D ks) ∧ ks.length + 1 < scanBound ∧ Nx1 (upd H7 D (SetGO P w D (addK ks k))) else Nx1 H6)
    else Nx H3)
theorem pe_setC2 {elt tg iter tg1 iter1 : Expr} {ifs ifs1 : List Expr} {scope : Scope} {own : List (Str × Nat)} {vs1 : List Nat} {pos : Pos} {wi wi1 : TI} {g g1 : TG} {tt tt1 : TT} {te : TE} (hc : X.calm = true) (hN : X.N.Nodup) (hi : PI X tg iter wi) (ok : BlkOk X.N X.env.scope scope own) (hv : ∀ i ∈ vs1, i ∈ own.map (·.2))
    (hg : ∀ (s : Shared) (H : Hp) (C : Addr) (cl : List (Str × Addr)) (fp : List Addr), PG (X.blk s H scope (compEnvC scope cl C X.env) fp) tg g) (ht : ∀ (s : Shared) (H : Hp) (C : Addr) (cl : List (Str × Addr)) (fp : List Addr), PTs (X.blk s H scope (compEnvC scope cl C X.env) fp) ifs tt)
    (hi1 : ∀ (s : Shared) (H : Hp) (C : Addr) (cl : List (Str × Addr)) (fp : List Addr), PI (X.blk s H scope (compEnvC scope cl C X.env) fp) tg1 iter1 wi1)
    (hg1 : ∀ (s : Shared) (H : Hp) (C : Addr) (cl : List (Str × Addr)) (fp : List Addr), PG (X.blk s H scope (compEnvC scope cl C X.env) fp) tg1 g1) (ht1 : ∀ (s : Shared) (H : Hp) (C : Addr) (cl : List (Str × Addr)) (fp : List Addr), PTs (X.blk s H scope (compEnvC scope cl C X.env) fp) ifs1 tt1)
    (he : ∀ (s : Shared) (H : Hp) (C : Addr) (cl : List (Str × Addr)) (fp : List Addr), PE (X.blk s H scope (compEnvC scope cl C X.env) fp) elt te) (hs : ∀ x, foldedSetIterable iter X.env x = pure x := by intro _; rfl) (hs1 : ∀ env x, foldedSetIterable iter1 env x = pure x := by intro _ _; rfl) :
    PE X (.SetComp elt [⟨tg, iter, ifs, 0⟩, ⟨tg1, iter1, ifs1, 0⟩] scope pos) (tSG2 X.prog X.w wi g tt wi1 g1 tt1 te (own.map (·.2)) vs1) := by
  refine ⟨fun pins s σ H Q I h => ?_⟩
  rw [eval_SetComp]
  have hfree : ∀ y ∈ scope.names, y.2 = .free → ∃ c, X.env.cells.lookup y.1 = some c := fun y hy e => by
    rcases ok.free y hy e with k | k
    · exact I.ok.has _ (.inl k)
    · exact I.ok.has _ (.inr k)
  refine wpAny_comprehension_free (use := none) rfl hs (closure_ok hfree) ok.kind (fun y hy e => by rw [ok.uniq y hy, e])
    (thn (hi.run pins s σ H _ I h) fun xv s1 hx => thn hx fun itv s2 h2 => ?_)
  obtain ⟨it, fp, tn, J, H2, e, I2, T, st2, f2, q⟩ := h2
  subst e
  refine PpSet.newSet_ok (newEnv_comp ?_)
  generalize hD : s2.heap.objs.size = D
  have hDn : H2 D = none := I2.hok.fresh (Nat.le_of_eq hD)
  obtain ⟨W, ⟨m0, w0⟩, turn⟩ := q D hDn
  generalize hs3 : ({ s2 with heap := s2.heap.push { cls := .type "set", dict := none, data := .set #[] 0 (.fresh 0 0 (!X.w.params.followText "set-order")) } } : Shared) = s3
  have h3 : s3.heap = s2.heap.push { cls := .type "set", dict := none, data := .set #[] 0 (.fresh 0 0 (!X.w.params.followText "set-order")) } := by rw [← hs3]
  generalize hH3 : upd H2 D (SetGO X.prog X.w D []) = H3 at w0
  have I3 : Inv X pins σ H3 s3 := by
    rw [← hs3, ← hH3]
    refine I2.laid (t' := s2.toks) (fun b o e => Heap.get?_push_of_some _ e) (Nat.le_of_eq hD) ?_
    rw [← hD]
    exact setGO_new (setG_fresh _)
  have f3 : ∀ b ∈ fp, FpOk X pins H3 b ∧ b < s3.heap.objs.size := fun b hb => by
    obtain ⟨o, e, _⟩ := T.obj _ _ st2 b hb
    have hlt := Heap.lt_size e
    refine ⟨⟨?_, (f2 b hb).2⟩, by rw [h3, Heap.size_push]; exact Nat.lt_succ_of_lt hlt⟩
    rw [← hH3, upd_ne (by rw [← hD]; exact Nat.ne_of_lt hlt)]
    exact (f2 b hb).1
  have st3 : tn 0 s3.heap := T.keep _ _ _ st2 fun b _ o e => by rw [h3]; exact Heap.get?_push_of_some _ e
  have I4 := block_start I3 ok hN f3
  have pg := hg s3 H3 s3.heap.objs.size (cellsFrom (s3.heap.objs.size + 1) scope.names (cloFrom X.env.cells scope.names [])) fp
  have pt := ht s3 H3 s3.heap.objs.size (cellsFrom (s3.heap.objs.size + 1) scope.names (cloFrom X.env.cells scope.names [])) fp
  have pe := he s3 H3 s3.heap.objs.size (cellsFrom (s3.heap.objs.size + 1) scope.names (cloFrom X.env.cells scope.names [])) fp
  have pi1 := hi1 s3 H3 s3.heap.objs.size (cellsFrom (s3.heap.objs.size + 1) scope.names (cloFrom X.env.cells scope.names [])) fp
  have pg1 := hg1 s3 H3 s3.heap.objs.size (cellsFrom (s3.heap.objs.size + 1) scope.names (cloFrom X.env.cells scope.names [])) fp
  have pt1 := ht1 s3 H3 s3.heap.objs.size (cellsFrom (s3.heap.objs.size + 1) scope.names (cloFrom X.env.cells scope.names [])) fp
  show codeAny _ _ (.compStart (sc2 elt tg iter tg1 iter1 ifs ifs1 scope pos) 0 (.ref it) (.ref D) (compEnvC scope (cellsFrom (s3.heap.objs.size + 1) scope.names (cloFrom X.env.cells scope.names [])) s3.heap.objs.size X.env)) (compPost (model X.prog X.w) X.A X.xe none _ (.ref D) s3.heap.objs.size) { s3 with heap := pushCells (s3.heap.push { cls := .type "dict", data := .dict #[] }) scope.names }
  generalize hce : compEnvC scope (cellsFrom (s3.heap.objs.size + 1) scope.names (cloFrom X.env.cells scope.names [])) s3.heap.objs.size X.env = ce at I4 pg pt pe pi1 pg1 pt1 ⊢
  have cL : ce.locals = s3.heap.objs.size := by subst hce; rfl
  generalize hs4 : ({ s3 with heap := pushCells (s3.heap.push { cls := .type "dict", data := .dict #[] }) scope.names } : Shared) = s4 at I4 ⊢
  have st4 : tn 0 s4.heap := T.keep _ _ _ st3 fun b _ o e => by rw [← hs4]; exact pushCells_keeps _ _ _ _ (Heap.get?_push_of_some _ e)
  have stat : ∀ {σ' : L2.St} {H' : Hp} {s' : Shared}, Inv (X.blk s3 H3 scope ce fp) [] σ' H' s' → (∀ b ∈ fp, H' b = none) → ∀ b ∈ fp, FpOk (X.blk s3 H3 scope ce fp) [] H' b := fun {σ' H' s'} I' hn b hb =>
    ⟨hn b hb, (I'.ok.exf b hb).1, I'.ok.exfs b hb, .inl hb, fun x c e => (I'.ok.exf b hb).2 x c e, fun p hp => absurd (show p ∈ ([] : List (Addr × Obj)) ++ [] from hp) (by simp)⟩
  refine (fun loop => codeAny_compStart_set loop (T.self X.A 0 _ _ _ st4 loop)) ?_
  refine set2_out (hs1 ce) (fun n s' => ∃ i H', Inv (X.blk s3 H3 scope ce fp) [] (wipe σ (own.map (·.2))) H' s' ∧ tn i s'.heap ∧ (∀ b ∈ fp, H' b = none) ∧ W i n H') ?_ m0 ⟨0, H3, I4, st4, fun b hb => (f3 b hb).1.1, w0⟩
  rintro n s5 ⟨i, H5, I5, st5, n5, w5⟩
  rcases turn i n H5 w5 with ⟨stop, qq⟩ | ⟨go, Nx, hNx, step⟩
  · refine thnF (T.done (X.blk s3 H3 scope ce fp) rfl rfl rfl hc i [] s5 _ H5 (fun _ _ => False) I5 (stat I5 n5) st5 stop) fun r s6 ⟨hr, I6⟩ => ?_
    subst hr
    have I7 : Inv X pins σ H5 s6 := I3.call' (ch := fp) I6.os I6.base I6.hok I6.bare fun b hb => ⟨(f3 b hb).1.2.2.2.1, (f3 b hb).1.2.1, (f3 b hb).1.2.2.2.2.1, (f3 b hb).1.2.2.2.2.2⟩
    have nC : H5 s3.heap.objs.size = none := by
      have z : H5 ce.locals = none := I6.free
      rw [cL] at z
      exact z
    obtain ⟨m, hn, _⟩ := I6.loc
    have hn : s6.heap.Ns ce.locals m := hn
    rw [cL] at hn
    obtain ⟨f0, f1, f2', f3', f4, f5⟩ := I3.fpOk (Nat.le_refl _) nC
    exact ⟨m, hn, fun h'' sb => ⟨.ref D, H5, I7.turned (t' := s6.toks) (fun b o hb e => (sb.2 b hb).trans e) nC f1 f3' f4 f5, rfl, qq⟩⟩
  · refine thnF (T.item (X.blk s3 H3 scope ce fp) rfl rfl rfl hc i [] s5 _ H5 (fun _ _ => False) I5 (stat I5 n5) st5 go) fun r s6 ⟨u, hr, h6⟩ => ?_
    subst hr
    refine thnF h6 fun _ s7 ⟨x, H7, I7, r7, y7, st7, n7⟩ => ?_
    have I7' := I7.pinned (stat I7 n7) (T.obj _ _ st7)
    refine thnF (pg.run _ s7 _ H7 x u _ I7' r7 (step x H7 y7)) fun _ s8 ⟨σ8, H8, I8, hw8, q8⟩ => ?_
    refine thnF (pt.run _ s8 σ8 H8 _ I8 q8) fun b s9 ⟨H9, I9, q9⟩ => ?_
    have fin : ∀ {σ9 : L2.St} {s' : Shared} {H' : Hp}, Inv (X.blk s3 H3 scope ce fp) ([] ++ pinsAt fp s7.heap) σ9 H' s' → (wipe σ (own.map (·.2))).length = σ9.length → (∀ (j : Nat) v, (wipe σ (own.map (·.2)))[j]? = some (some v) → σ9[j]? = some (some v)) → Nx H' →
        ∃ m, m < n ∧ ∃ i H', Inv (X.blk s3 H3 scope ce fp) [] (wipe σ (own.map (·.2))) H' s' ∧ tn i s'.heap ∧ (∀ b ∈ fp, H' b = none) ∧ W i m H' := fun {σ9 s' H'} I' hl hk nx => by
      obtain ⟨m', hm, w'⟩ := hNx H' nx
      have pin' : ∀ b ∈ fp, ∀ o, s7.heap.get? b = some o → s'.heap.get? b = some o ∧ H' b = none := fun b hb o e =>
        let z := I'.pin (b, o) (List.mem_append_right _ (List.mem_append_right _ (mem_pinsAt hb e)))
        ⟨z.1, z.2.1⟩
      refine ⟨m', hm, i + 1, H', (I'.unpinned (pins := [])).weak hl hk, T.keep _ _ _ st7 fun b hb o e => (pin' b hb o e).1, fun b hb => ?_, w'⟩
      obtain ⟨o, e, _⟩ := T.obj _ _ st7 b hb
      exact (pin' b hb o e).2
    have hl8 : (wipe σ (own.map (·.2))).length = σ8.length := by rw [← hw8, wipe_length]
    have hk8 : ∀ (j : Nat) v, (wipe σ (own.map (·.2)))[j]? = some (some v) → σ8[j]? = some (some v) := fun j v e => by
      rw [← hw8] at e
      exact (wipe_some e).1
    have hk9 : ∀ (j : Nat) v, (wipe σ (own.map (·.2)))[j]? = some (some v) → (wipe σ8 vs1)[j]? = some (some v) := fun j v e => by
      rw [← hw8] at e
      obtain ⟨e1, e2⟩ := wipe_some e
      rw [wipe_out fun z => e2 (hv j z)]
      exact e1
    cases b with
    | false =>
      simp only [Bool.false_eq_true, if_false] at q9 ⊢
      exact fin I9 hl8 hk8 q9
    | true =>
      simp only [if_true] at q9 ⊢
      refine thnF (pi1.run _ s9 σ8 H9 _ I9 q9) fun xv s10 hx => thnF hx fun itv s11 h11 => ?_
      obtain ⟨it1, fp1, tn1, J1, H11, e1, I11, T1, st11, f11, W1, ⟨m1, w1⟩, turn1⟩ := h11
      subst e1
      have stat1 : ∀ {H' : Hp}, (∀ b ∈ fp1, H' b = none) → ∀ b ∈ fp1, FpOk (X.blk s3 H3 scope ce fp) ([] ++ pinsAt fp s7.heap) H' b := fun hn b hb => ⟨hn b hb, (f11 b hb).2⟩
      refine (fun loop1 => set2_start loop1 (T1.self X.A 0 _ _ _ st11 loop1)) ?_
      refine set2_in (fun k s' => ∃ j H', Inv (X.blk s3 H3 scope ce fp) ([] ++ pinsAt fp s7.heap) (wipe σ8 vs1) H' s' ∧ tn1 j s'.heap ∧ (∀ b ∈ fp1, H' b = none) ∧ W1 j k H') ?_ m1 ⟨0, H11, I11.weak (wipe_length _ _) (fun j v e => (wipe_some e).1), st11, fun b hb => (f11 b hb).1, w1⟩
      rintro k s12 ⟨j, H12, I12, st12, n12, w12⟩
      rcases turn1 j k H12 w12 with ⟨stop1, nx1⟩ | ⟨go1, Nx1, hNx1, step1⟩
      · refine thnF (T1.done (X.blk s3 H3 scope ce fp) rfl rfl rfl hc j _ s12 (wipe σ8 vs1) H12 (fun _ _ => False) I12 (stat1 n12) st12 stop1) fun r s13 ⟨hr, I13⟩ => ?_
        subst hr
        exact fin I13 (hl8.trans (wipe_length σ8 vs1).symm) hk9 nx1
      · refine thnF (T1.item (X.blk s3 H3 scope ce fp) rfl rfl rfl hc j _ s12 (wipe σ8 vs1) H12 (fun _ _ => False) I12 (stat1 n12) st12 go1) fun r s13 ⟨u1, hr, h13⟩ => ?_
        subst hr
        refine thnF h13 fun _ s14 ⟨x1, H14, I14, r14, y14, st14, n14⟩ => ?_
        have I14' := I14.pinned (stat1 n14) (T1.obj _ _ st14)
        refine thnF (pg1.run _ s14 (wipe σ8 vs1) H14 x1 u1 _ I14' r14 (step1 x1 H14 y14)) fun _ s15 ⟨σ15, H15, I15, hw15, q15⟩ => ?_
        refine thnF (pt1.run _ s15 σ15 H15 _ I15 q15) fun b1 s16 ⟨H16, I16, q16⟩ => ?_
        have fin1 : ∀ {s' : Shared} {H' : Hp}, Inv (X.blk s3 H3 scope ce fp) (([] ++ pinsAt fp s7.heap) ++ pinsAt fp1 s14.heap) σ15 H' s' → Nx1 H' → ∃ m, m < k ∧ ∃ j H', Inv (X.blk s3 H3 scope ce fp) ([] ++ pinsAt fp s7.heap) (wipe σ8 vs1) H' s' ∧ tn1 j s'.heap ∧ (∀ b ∈ fp1, H' b = none) ∧ W1 j m H' := fun {s' H'} I' nx => by
          obtain ⟨m', hm, w'⟩ := hNx1 H' nx
          have pin' : ∀ b ∈ fp1, ∀ o, s14.heap.get? b = some o → s'.heap.get? b = some o ∧ H' b = none := fun b hb o e =>
            let z := I'.pin (b, o) (List.mem_append_right _ (List.mem_append_right _ (mem_pinsAt hb e)))
            ⟨z.1, z.2.1⟩
          refine ⟨m', hm, j + 1, H', I'.unpinned.weak (by rw [← hw15, wipe_length]) (fun j v e => by rw [← hw15] at e; exact (wipe_some e).1), T1.keep _ _ _ st14 fun b hb o e => (pin' b hb o e).1, fun b hb => ?_, w'⟩
          obtain ⟨o, e, _⟩ := T1.obj _ _ st14 b hb
          exact (pin' b hb o e).2
        cases b1 with
        | false =>
          simp only [Bool.false_eq_true, if_false] at q16 ⊢
          exact fin1 I16 q16
        | true =>
          simp only [if_true] at q16 ⊢
          refine thnF (pe.run _ s16 σ15 H16 _ I16 q16) fun z s17 ⟨yv, H17, I17, r17, kk, ks, ey, hD17, hz17, nx⟩ => ?_
          subst ey
          exact setGO_add (X := X.blk s3 H3 scope ce fp) I17 hD17 r17 hz17 fun s18 I18 => fin1 I18 nx
end
end RB

set_option Elab.async false
set_option linter.all false
set_option maxRecDepth 100000
set_option maxHeartbeats 4000000
set_option pp.maxSteps 600
namespace RB
open PySem PySem.Spec PyProof.Rows L2
theorem keys_snoc {yd : D} {ky : Key} (h4 : keyOfD yd = .ok ky) : ∀ {a : List D} {ka : List Key}, keysOfD a = .ok ka → keysOfD (a ++ [yd]) = .ok (ka ++ [ky])
  | [], ka, e => by cases e; show (keyOfD yd >>= fun k => keysOfD [] >>= fun ks => R.ok (k :: ks)) = _; rw [h4]; rfl
  | a :: l, ka, e => by
    obtain ⟨k1, f1, f2⟩ := ok_bind' (show (keyOfD a >>= fun k => keysOfD l >>= fun ks => R.ok (k :: ks)) = R.ok ka from e)
    obtain ⟨ks', f3, f4⟩ := ok_bind' f2
    cases f4
    show (keyOfD a >>= fun k => keysOfD (l ++ [yd]) >>= fun ks => R.ok (k :: ks)) = _
    rw [f1]
    show (keysOfD (l ++ [yd]) >>= fun ks => R.ok (k1 :: ks)) = _
    rw [keys_snoc h4 f3]; rfl
/-- the next key of a row whose keys are known -/
theorem key_next {done ys : List D} {yd : D} {kd kt : List Key} (e3 : keysOfD done = .ok kd) (ekt : keysOfD (done ++ yd :: ys) = .ok kt) : ∃ ky, keyOfD yd = .ok ky ∧ kd.length < kt.length := by
  obtain ⟨ka, kb, h1, h2, h3⟩ := keys_append ekt
  rw [e3] at h1
  cases h1
  obtain ⟨ky, h4, h5⟩ := ok_bind' (show (keyOfD yd >>= fun k => keysOfD ys >>= fun ks => R.ok (k :: ks)) = R.ok kb from h2)
  obtain ⟨ks', h6, h7⟩ := ok_bind' h5
  cases h7
  exact ⟨ky, h4, by rw [h3, List.length_append, List.length_cons]; omega⟩
theorem sc_in {P : Program} {w : World} {J : It} {n : Nat} {G : Hp → Prop} {Y : Nat → Hp → V → Hp → Prop} (wk : Walk J n G Y) {g : TG} {tt : TT} {te : TE} {vs : List Nat} {σ : L2.St} {H1 : Hp} {Dd : Addr} {Qd : Hp → Prop} (Pv : Nat → Hp → Prop) (h0 : Pv 0 H1) (hG : ∀ i H, i ≤ n → Pv i H → G H)
    (hs : ∀ i x H H', i < n → Pv i H → Y i H x H' → g x (wipe σ vs) H' fun σ2 H2 => wipe σ2 vs = wipe σ vs ∧ tt σ2 H2 fun b H3 => if b = true then te σ2 H3 fun y H4 => ∃ (k : Key) (ks : List Key), y = kV k ∧ H4 Dd = some (SetGO P w Dd ks) ∧ ks.length + 1 < scanBound ∧ Pv (i + 1) (upd H4 Dd (SetGO P w Dd (addK ks k))) else Pv (i + 1) H3)
    (hd : ∀ H, Pv n H → Qd H) :
    ∃ W : Nat → Nat → Hp → Prop, (∃ m, W 0 m H1) ∧ ∀ i m H, W i m H → (J.stop i H ∧ Qd H) ∨ (J.go i H ∧ ∃ Nx : Hp → Prop, (∀ H', Nx H' → ∃ m', m' < m ∧ W (i + 1) m' H') ∧ ∀ x H', J.yld i H x H' → g x (wipe σ vs) H' fun σ2 H2 => wipe σ2 vs = wipe σ vs ∧ tt σ2 H2 fun b H3 =>
        if b = true then te σ2 H3 fun y H4 => ∃ (k : Key) (ks : List Key), y = kV k ∧ H4 Dd = some (SetGO P w Dd ks) ∧ ks.length + 1 < scanBound ∧ Nx (upd H4 Dd (SetGO P w Dd (addK ks k))) else Nx H3) := by
  refine ⟨fun i m H => m = n - i ∧ i ≤ n ∧ Pv i H, ⟨n, by simp, Nat.zero_le _, h0⟩, ?_⟩
  intro i m H ⟨hm, hi, p⟩
  subst hm
  have q := hG i H hi p
  by_cases hlt : i < n
  · exact .inr ⟨wk.goes i H hlt q, Pv (i + 1), fun H' p' => ⟨n - (i + 1), by omega, rfl, hlt, p'⟩, fun x H' y => hs i x H H' hlt p (wk.yields i H x H' hlt q y)⟩
  · have e : i = n := by omega
    subst e
    exact .inl ⟨wk.stops H q, hd H p⟩
theorem sc2_read {P : Program} {w : World} {K : PySem.W.Frag} {mg : Str → Option Value} {it it1 : Env → R (List D)} {t t1 : Tg} {fi fi1 : Env → R Bool} {fe : Env → R D} {vs vs1 : List Nat} {σ : L2.St} {H : Hp} {F : Addr → Prop} {ε : Env} {Q : VK} {E : Exn → Prop} (re : RE K σ ε H F) (hsl : ∀ i ∈ slotsT t, i ∈ vs) (hsl1 : ∀ i ∈ slotsT t1, i ∈ vs1)
    (q : (setE_ (comp2E vs vs1 it t fi it1 t1 fi1 fe) ε).wp (fun ks => ∀ p H' F', Grow H F H' F' → H p = none → H' p = some (SetGO P w p ks) → ¬ F' p → Q (.ref p) H') E) :
    (it ε).wp (fun ds => ∀ J H1 F1, Grow H F H1 F1 → WalkD K J H1 F1 ds → ds.length ≤ sizeLine → ∀ Dd, H1 Dd = none → ∃ W : Nat → Nat → Hp → Prop, (∃ m, W 0 m (upd H1 Dd (SetGO P w Dd []))) ∧ ∀ i m H, W i m H →
      (J.stop i H ∧ Q (.ref Dd) H) ∨ (J.go i H ∧ ∃ Nx : Hp → Prop, (∀ H', Nx H' → ∃ m', m' < m ∧ W (i + 1) m' H') ∧ ∀ x H', J.yld i H x H' → tgR K t x (wipe σ vs) H' fun σ2 H2 => wipe σ2 vs = wipe σ vs ∧ tB_ K mg W0 fi σ2 H2 fun b H3 =>
        if b = true then tI K mg W0 it1 σ2 H3 fun J1 H4 => ∃ W1 : Nat → Nat → Hp → Prop, (∃ m, W1 0 m H4) ∧ ∀ j k H, W1 j k H →
          (J1.stop j H ∧ Nx H) ∨ (J1.go j H ∧ ∃ Nx1 : Hp → Prop, (∀ H', Nx1 H' → ∃ k', k' < k ∧ W1 (j + 1) k' H') ∧ ∀ x H', J1.yld j H x H' → tgR K t1 x (wipe σ2 vs1) H' fun σ3 H5 => wipe σ3 vs1 = wipe σ2 vs1 ∧ tB_ K mg W0 fi1 σ3 H5 fun b H6 =>
            if b = true then tE K mg W0 fe σ3 H6 fun y H7 => ∃ (k : Key) (ks : List Key), y = kV k ∧ H7 Dd = some (SetGO P w Dd ks) ∧ ks.length + 1 < scanBound ∧ Nx1 (upd H7 Dd (SetGO P w Dd (addK ks k))) else Nx1 H6)
        else Nx H3)) E := by
  have q : ((it ε >>= fun ds => (comp2L t fi it1 vs1 t1 fi1 fe (wipeE ε vs) ds).hard >>= fun tot => if tot.length ≤ 16777216 then R.ok tot else .stuck) >>= keysS).wp _ E := q
  rw [R.bind_assoc'] at q
  refine R.wp_mono (R.wp_bind q) (fun ds k J H1 F1 g1 ⟨G, Y, wk, wG, wY⟩ hz Dd hD => ?_) (fun e k => k)
  rw [R.bind_assoc'] at k
  obtain ⟨tot, etot, k⟩ := wp_hard k
  have htot : tot.length ≤ 16777216 ∧ (keysS tot).wp (fun ks => ∀ p H' F', Grow H F H' F' → H p = none → H' p = some (SetGO P w p ks) → ¬ F' p → Q (.ref p) H') E := by
    by_cases c : tot.length ≤ 16777216
    · rw [if_pos c] at k; exact ⟨c, k⟩
    · rw [if_neg c] at k; exact k.elim
  obtain ⟨htot, kk⟩ := htot
  have kk : ((keysOfD tot).hard >>= fun ks => if ks.length ≤ 4000 then R.ok (setKs ks) else .stuck).wp _ _ := kk
  obtain ⟨kt, ekt, k2⟩ := wp_hard kk
  obtain ⟨hkt, kfin⟩ := ite_wp (x := R.ok _) k2
  have reb := (re.grow g1).wipe vs
  have nD : ¬ F1 Dd := fun f => by
    obtain ⟨u, e⟩ := g1.ok Dd f
    rw [hD] at e; cases e
  refine ⟨fun i m H2 => m = ds.length - i ∧ i ≤ ds.length ∧ ∃ F2 kd done rest, Grow H1 F1 H2 F2 ∧ H2 Dd = some (SetGO P w Dd (setKs kd)) ∧ ¬ F2 Dd ∧ keysOfD done = .ok kd ∧ comp2L t fi it1 vs1 t1 fi1 fe (wipeE ε vs) (ds.drop i) = .ok rest ∧ done ++ rest = tot,
    ⟨ds.length, by simp, Nat.zero_le _, F1, [], [], tot, grow_new g1.ok hD, upd_same, nD, rfl, by rw [List.drop_zero]; exact etot, rfl⟩, ?_⟩
  intro i m H2 ⟨hm, hi, F2, kd, done, rest, g2, e1, e2, e3, e4, e5⟩
  subst hm
  by_cases hlt : i < ds.length
  case neg =>
    have : i = ds.length := by omega
    subst this
    refine .inl ⟨wk.stops H2 (wG H2 F2 g2.pres), ?_⟩
    rw [List.drop_length] at e4
    unfold comp2L at e4
    cases e4
    rw [List.append_nil] at e5
    subst e5
    rw [e3] at ekt
    cases ekt
    exact kfin Dd H2 F2 (g1.trans g2) (g1.back hD) e1 e2
  refine .inr ⟨wk.goes i H2 hlt (wG H2 F2 g2.pres), fun H3 => ∃ F3 kd done rest, Grow H1 F1 H3 F3 ∧ H3 Dd = some (SetGO P w Dd (setKs kd)) ∧ ¬ F3 Dd ∧ keysOfD done = .ok kd ∧ comp2L t fi it1 vs1 t1 fi1 fe (wipeE ε vs) (ds.drop (i + 1)) = .ok rest ∧ done ++ rest = tot,
    fun H' h => ⟨ds.length - (i + 1), by omega, rfl, hlt, h⟩, fun x H3 yx => ?_⟩
  obtain ⟨d, ed, g3, dx⟩ := wY i H2 F2 x H3 hlt g2.pres g2.ok (wk.yields i H2 x H3 hlt (wG H2 F2 g2.pres) yx)
  rw [drop_get ed] at e4
  unfold comp2L at e4
  obtain ⟨as, a1, e4⟩ := hard_bind e4
  obtain ⟨b, a2, e4⟩ := hard_bind e4
  have e1' := g3.same _ _ e1
  have re2 := fun {us : List (Nat × V)} (p : PairD K H3 F2 us as) => (reb.grow (g2.trans g3)).setAll p
  refine tg_run t x d as _ _ dx a1 fun us p => ⟨?_, setE (wipeE ε vs) as, F2, re2 p, ?_⟩
  · rw [wipe_setV, wipe_wipe]
    intro q hq
    obtain ⟨r, hr, e⟩ := p.slots q hq
    rw [← e]
    exact hsl _ (flat_slots t d as a1 r hr)
  rw [a2]
  intro H4 F4 g4
  cases b with
  | false =>
    rw [if_neg (by decide)] at e4 ⊢
    exact ⟨F4, kd, done, rest, g2.trans (g3.trans g4), g4.same _ _ e1', g4.notF e1' e2, e3, e4, e5⟩
  | true =>
    rw [if_pos rfl] at e4 ⊢
    obtain ⟨es, a3, e4⟩ := hard_bind e4
    obtain ⟨ys, a4, e4⟩ := ok_bind' e4
    obtain ⟨zs, a5, e4⟩ := ok_bind' e4
    cases e4
    refine ⟨_, F4, (re2 p).grow g4, ?_⟩
    rw [a3]
    intro J1 H5 F5 g5 ⟨G1, Y1, wk1, wG1, wY1⟩ hz1
    have g05 := g2.trans (g3.trans (g4.trans g5))
    have e15 := (g4.trans g5).same _ _ e1'
    have n5 := (g4.trans g5).notF e1' e2
    have re5 := (((re2 p).grow g4).grow g5).wipe vs1
    refine sc_in wk1 (fun j H6 => ∃ F6 kd' done' rest', Grow H1 F1 H6 F6 ∧ Pres H5 F5 H6 F6 ∧ H6 Dd = some (SetGO P w Dd (setKs kd')) ∧ ¬ F6 Dd ∧ keysOfD done' = .ok kd' ∧ compL t1 fi1 fe (wipeE (setE (wipeE ε vs) as) vs1) (es.drop j) = .ok rest' ∧ done' ++ (rest' ++ zs) = tot) ?_ ?_ ?_ ?_
    · exact ⟨F5, kd, done, ys, g05, .refl, e15, n5, e3, by rw [List.drop_zero]; exact a4, e5⟩
    · intro j H6 hj ⟨F6, kd', done', rest', _, p6, _⟩
      exact wG1 H6 F6 p6
    · intro j x1 H6 H7 hj ⟨F6, kd', done', rest', g6, p6, b1, b2, b3, b4, b5⟩ yy
      obtain ⟨d1, ed1, g7, dx1⟩ := wY1 j H6 F6 x1 H7 hj p6 g6.ok yy
      rw [drop_get ed1] at b4
      have b1' := g7.same _ _ b1
      have re7 : RE K (wipe (setV (wipe σ vs) us) vs1) (wipeE (setE (wipeE ε vs) as) vs1) H7 F6 := ⟨fun i d e => by
        obtain ⟨v, h1, h2⟩ := re5.at_ i d e
        exact ⟨v, h1, (h2.pres p6).grow g7⟩, g7.ok, re5.len⟩
      refine comp_turn (ds := es.drop (j + 1)) re7 dx1 hsl1 b4 (fun yd ys' er ec v H8 F8 g8 dv => ?_) fun ec H8 F8 g8 => ?_
      · have b1'' := g8.same _ _ b1'
        have nf := g8.notF b1' b2
        have p8 := pres_own (o := SetGO P w Dd (setKs (kd' ++ [Classical.choice ⟨Sum.inl 0⟩]))) b1'' nf
        have b5' : done' ++ yd :: (ys' ++ zs) = tot := by rw [← b5, er]; rfl
        obtain ⟨ky, h4, hl⟩ := key_next b3 (by rw [b5']; exact ekt)
        have hs := setKs_len kd'
        have hsb : (setKs kd').length + 1 < scanBound := by
          have : scanBound = 4096 := rfl
          omega
        have p9 := pres_own (o := SetGO P w Dd (addK (setKs kd') ky)) b1'' nf
        refine ⟨ky, setKs kd', keyOf_den dv h4, b1'', hsb, F8, kd' ++ [ky], done' ++ [yd], ys', grow_upd (g6.trans (g7.trans g8)) hD, p6.trans ((g7.trans g8).pres.trans p9), by rw [upd_same, setKs_snoc], nf, keys_snoc h4 b3, ec, ?_⟩
        rw [← b5', List.append_assoc]; rfl
      · exact ⟨F8, kd', done', rest', g6.trans (g7.trans g8), p6.trans (g7.trans g8).pres, g8.same _ _ b1', g8.notF b1' b2, b3, ec, b5⟩
    · intro H6 ⟨F6, kd', done', rest', g6, p6, b1, b2, b3, b4, b5⟩
      rw [List.drop_length] at b4
      unfold compL at b4
      cases b4
      exact ⟨F6, kd', done', zs, g6, b1, b2, b3, a5, b5⟩
section
variable {X : Cx} {W : WX}
theorem kx_sc2 {elt tg iter tg1 iter1 : Expr} {ifs ifs1 : List Expr} {scope : Scope} {own : List (Str × Nat)} {vs1 : List Nat} {pos : Pos} {it it1 : Env → R (List D)} {t t1 : Tg} {fi fi1 : Env → R Bool} {fe : Env → R D} (hN : X.N.Nodup) (hi : Ix X W tg iter it) (ok : BlkOk X.N X.env.scope scope own) (hv : ∀ i ∈ vs1, i ∈ own.map (·.2))
    (hsl : ∀ i ∈ slotsT t, i ∈ own.map (·.2)) (hsl1 : ∀ i ∈ slotsT t1, i ∈ vs1)
    (hg : ∀ (s : Shared) (H : Hp) (C : Addr) (cl : List (Str × Addr)) (fp : List Addr), Gx (X.blk s H scope (compEnvC scope cl C X.env) fp) tg t) (ht : ∀ (s : Shared) (H : Hp) (C : Addr) (cl : List (Str × Addr)) (fp : List Addr), Txs (X.blk s H scope (compEnvC scope cl C X.env) fp) W0 ifs fi)
    (hi1 : ∀ (s : Shared) (H : Hp) (C : Addr) (cl : List (Str × Addr)) (fp : List Addr), Ix (X.blk s H scope (compEnvC scope cl C X.env) fp) W0 tg1 iter1 it1)
    (hg1 : ∀ (s : Shared) (H : Hp) (C : Addr) (cl : List (Str × Addr)) (fp : List Addr), Gx (X.blk s H scope (compEnvC scope cl C X.env) fp) tg1 t1) (ht1 : ∀ (s : Shared) (H : Hp) (C : Addr) (cl : List (Str × Addr)) (fp : List Addr), Txs (X.blk s H scope (compEnvC scope cl C X.env) fp) W0 ifs1 fi1)
    (he : ∀ (s : Shared) (H : Hp) (C : Addr) (cl : List (Str × Addr)) (fp : List Addr), Ex (X.blk s H scope (compEnvC scope cl C X.env) fp) W0 elt fe) (hc : X.calm = true := by rfl) (hs : ∀ x, foldedSetIterable iter X.env x = pure x := by intro _; rfl) (hs1 : ∀ env x, foldedSetIterable iter1 env x = pure x := by intro _ _; rfl) :
    Kx X W (.SetComp elt [⟨tg, iter, ifs, 0⟩, ⟨tg1, iter1, ifs1, 0⟩] scope pos) (setE_ (comp2E (own.map (·.2)) vs1 it t fi it1 t1 fi1 fe)) := by
  refine PE.imp (pe_setC2 (g := tgR X.K t) (tt := tB_ X.K X.mg W0 fi) (g1 := tgR X.K t1) (tt1 := tB_ X.K X.mg W0 fi1) (wi1 := tI X.K X.mg W0 it1) (te := tE X.K X.mg W0 fe) hc hN hi ok hv hg ht hi1 hg1 ht1 he hs hs1) fun σ H Q ⟨ε, F, re, q⟩ => ⟨ε, F, re, ?_⟩
  exact sc2_read re hsl hsl1 q
end
end RB

set_option Elab.async false
set_option linter.all false
set_option maxRecDepth 100000
set_option maxHeartbeats 4000000
/-! ### t[::-1], t a tuple -/
namespace PyProof.Rows
open PySem PySem.Calls
section
variable {prog : Program} {w : World} {A : Around} {E : Value → Shared → Prop} {s : Shared}
theorem adjust_rev (n : Nat) : Builtin.Slice.sliceAdjust none none (-1) (n : Int) = ((n : Int) - 1, -1) := by
  unfold Builtin.Slice.sliceAdjust
  simp
theorem places_rev (n : Nat) : Builtin.Slice.slicePlaces ((n : Int) - 1) (-1) (-1) = n := by
  unfold Builtin.Slice.slicePlaces
  simp
  split <;> omega
theorem sliceApplied_rev {sl : Addr} {n : Nat} {u : Tok} {Q : Int × Int × Nat → Shared → Prop} (hs : s.heap.IsSliceOf sl .none .none (.int (-1) u)) (h : Q ((n : Int) - 1, -1, n) s) :
    wpAny (model prog w) A (Builtin.Slice.sliceApplied (.ref sl) (pure (n : Int))) Q E s := by
  obtain ⟨os, hos, hcs, hds⟩ := id hs
  unfold Builtin.Slice.sliceApplied Builtin.Slice.sliceFields
  refine wpAny_bind (wpAny_bind (wpAny_field hos hds (x := .none) rfl (wpAny_bind (wpAny_field hos hds (x := .none) rfl (wpAny_bind (wpAny_field hos hds (x := .int (-1) u) rfl (wpAny_pure ?_)))))))
  refine wpAny_bind (slicePart_int ?_)
  show wpAny _ _ (if ((-1 : Int) == 0) = true then _ else _) _ _ s
  rw [if_neg (by decide)]
  refine wpAny_bind (slicePart_none (wpAny_bind (slicePart_none (wpAny_bind (wpAny_pure ?_)))))
  show wpAny _ _ (match Builtin.Slice.sliceAdjust none none (-1) (n : Int) with | (lo, hi) => pure (lo, (-1 : Int), Builtin.Slice.slicePlaces lo hi (-1))) _ _ s
  rw [adjust_rev n]
  show wpAny _ _ (pure ((n : Int) - 1, (-1 : Int), Builtin.Slice.slicePlaces ((n : Int) - 1) (-1) (-1))) _ _ s
  rw [places_rev n]
  exact wpAny_pure h
theorem pick_rev (xs : Array Value) : ((List.range xs.size).filterMap fun (k : Nat) => xs[(((xs.size : Int) - 1) + (k : Int) * (-1)).toNat]?).toArray = xs.toList.reverse.toArray := by
  have e1 : (List.range xs.size).map (fun (k : Nat) => (((xs.size : Int) - 1) + (k : Int) * (-1)).toNat) = (List.range xs.size).reverse := by
    apply List.ext_getElem
    · simp
    · intro i h1 h2
      have hi : i < xs.size := by simpa using h1
      simp
      omega
  have e2 : ((List.range xs.size).filterMap fun (k : Nat) => xs[(((xs.size : Int) - 1) + (k : Int) * (-1)).toNat]?) = ((List.range xs.size).map fun (k : Nat) => (((xs.size : Int) - 1) + (k : Int) * (-1)).toNat).filterMap (xs[·]?) := by
    rw [List.filterMap_map]; rfl
  rw [e2, e1, List.filterMap_reverse, PySem.W.krv_all]
theorem getItem_tuple_rev {t sl : Addr} {items : Array Value} {u : Tok} {Q : Value → Shared → Prop} (ht : IsTup s.heap t items) (hs : s.heap.IsSliceOf sl .none .none (.int (-1) u))
    (h : Q (.ref s.heap.objs.size) { s with heap := s.heap.push { cls := .type "tuple", data := .seq items.toList.reverse.toArray } })
    (hsz : items.size ≤ sizeLine) : wpAny (model prog w) A (getItem (.ref t) (.ref sl)) Q E s := by
  have hdrop : sizeOk (.seq items.toList.reverse.toArray) := by
    show items.toList.reverse.toArray.size ≤ sizeLine
    rw [List.size_toArray, List.length_reverse, Array.length_toList]
    omega
  obtain ⟨os, hos, hcs, hds⟩ := id hs
  have hTs : s.TypeIs (.ref sl) "slice" := ⟨os, hos, hcs⟩
  unfold getItem
  try with_reducible refine wpAny_holding ?_
  first | refine wpAny_bind (wpAny_pure ?_) | skip
  refine wpAny_bind (wpAny_sequenceKey ht.typeIs (by decide) ?_)
  refine wpAny_bind (wpAny_callSpecial?_slot (name := Str.ofString "__getitem__") ht.typeIs slot_tuple_getitem
    (wpAny_call_entry slot_tuple_getitem ht.typeIs entry_tuple_getitem ?_ (args_tuple_getitem _ _)))
  show wpAny _ _ (Builtin.Tuple.tupleItemsOf (.ref t) >>= _) _ _ s
  refine wpAny_bind (tupleItemsOf_ ht ?_)
  refine wpAny_bind (wpAny_typeOf hTs ?_)
  rw [if_pos (by decide)]
  refine wpAny_bind (sliceApplied_rev (n := items.size) hs ?_)
  have hno : ¬ (((items.size : Int) - 1 == 0 && (-1 : Int) == 1 && items.size == items.size) = true) := by
    have : ((-1 : Int) == 1) = false := by decide
    rw [this]; simp
  show wpAny _ _ (if ((items.size : Int) - 1 == 0 && (-1 : Int) == 1 && items.size == items.size) = true then _ else _) _ _ s
  rw [if_neg hno, pick_rev items]
  first
    | exact wpAny_bind (m := Builtin.Tuple.tupleExact _) (wpAny_newObj_type (wpAny_pure ⟨_, rfl, wpAny_pure h⟩) hdrop)
    | exact wpAny_bind (m := Builtin.Tuple.tupleExact _) (wpAny_newObj_type (wpAny_bind (wpAny_pure (wpAny_pure ⟨_, rfl, wpAny_pure h⟩))) hdrop)
    | exact wpAny_bind (wpAny_bind (m := Builtin.Tuple.tupleExact _) (wpAny_newObj_type (wpAny_pure (wpAny_pure ⟨_, rfl, wpAny_pure h⟩)) hdrop))
    | exact wpAny_bind (wpAny_bind (m := Builtin.Tuple.tupleExact _) (wpAny_newObj_type (wpAny_pure ⟨_, rfl, wpAny_pure h⟩) hdrop))
end
end PyProof.Rows

set_option Elab.async false
set_option linter.all false
set_option maxRecDepth 100000
set_option maxHeartbeats 4000000
set_option pp.maxSteps 600
namespace RB
open PySem PySem.Spec PyProof.Rows L2
/-! ### o[::-1], o a list or a text -/
def revT : D → R D
  | .list xs => .ok (.list xs.reverse)
  | .str z => .ok (.str ⟨z.cps.reverse⟩)
  | .tuple xs => .ok (.tuple xs.reverse)
  | _ => .stuck
def rev2E (f : Env → R D) : Env → R D := fun ε => f ε >>= fun d => (revT d).hard
theorem range_rev (n : Nat) : sliceRange ((n : Int) - 1) (-1) (-1) = (List.range n).reverse := by
  have hc : ((if (-1 : Int) > 0 then if (n : Int) - 1 < -1 then (-1 - ((n : Int) - 1) + -1 - 1) / -1 else 0
    else if (n : Int) - 1 > -1 then ((n : Int) - 1 - -1 - -1 - 1) / - -1 else 0) : Int).toNat = n := by
    rw [if_neg (by decide)]
    by_cases h : (n : Int) - 1 > -1
    · rw [if_pos h]
      have : ((n : Int) - 1 - -1 - -1 - 1) / - -1 = (n : Int) := by
        have : (n : Int) - 1 - -1 - -1 - 1 = n := by omega
        rw [this]
        exact Int.ediv_one _
      rw [this]; rfl
    · rw [if_neg h]
      have : n = 0 := by omega
      subst this; rfl
  unfold sliceRange
  show List.map (fun k : Nat => (((n : Int) - 1) + -1 * (k : Int)).toNat) (List.range _) = _
  rw [hc]
  apply List.ext_getElem
  · simp
  · intro i h1 h2
    have hi : i < n := by simpa using h1
    simp
    omega
theorem made_rev (z : Str) (t t' : Tok) (Q : Value → Shared → Prop) (s : Shared) (hz : z.length ≤ sizeLine) (h : Q (Value.str ⟨z.cps.reverse⟩ s.toks) { heap := s.heap, gens := s.gens, drawn := s.drawn, toks := s.toks + 1, os := s.os }) : (sliceMade z t none none (some (-1, t'))).post Q s := by
  have hp : slicePicked z none none (some (-1, t')) = (List.range z.length).reverse := range_rev z.length
  unfold sliceMade
  rw [if_neg (by simp), hp]
  have e : (List.filterMap (fun i => z.cps[i]?) (List.range z.length).reverse) = z.cps.toList.reverse := by
    rw [List.filterMap_reverse]
    congr 1
    have : ∀ l : List Nat, List.filterMap (fun i => l[i]?) (List.range l.length) = l := by
      intro l
      apply List.ext_getElem?
      intro i
      have : (List.range l.length).filterMap (fun i => l[i]?) = (List.finRange l.length).map fun k => l[k] := by
        have e2 : List.range l.length = (List.finRange l.length).map fun k => k.val := by
          apply List.ext_getElem <;> simp
        rw [e2, List.filterMap_map]
        have e3 : ((fun i => l[i]?) ∘ fun (k : Fin l.length) => k.val) = fun k => some l[k] := by
          funext k
          exact List.getElem?_eq_getElem k.isLt
        rw [e3]
        exact congrFun List.filterMap_eq_map' _
      rw [this]
      congr 1
      apply List.ext_getElem <;> simp
    have q := this z.cps.toList
    simpa [Str.length] using q
  rw [e]
  have e4 : (⟨z.cps.toList.reverse.toArray⟩ : Str) = ⟨z.cps.reverse⟩ := by
    congr 1
    apply Array.ext'
    simp
  rw [e4]
  refine ⟨?_, h⟩
  show (z.cps.reverse).size ≤ sizeLine
  rw [Array.size_reverse]
  exact hz
section
variable {X : Cx} {W : WX} {e : Expr} {f : Env → R D} {pos p2 : Pos}
theorem ex_rev {kk : Nat} {p1 p3 : Pos} (he : Ex X W e f) : Ex X W (.Subscript e (.Slice none none (some (.UnaryOp .USub (.Constant (.int 1) kk p1) p2)) p3) pos) (rev2E f) := by
  refine ⟨fun pins s σ H Q I ⟨ε, F, re, q⟩ => ?_⟩
  have he' := he.run pins s σ H (fun x H1 => ∃ dx F1, Grow H F H1 F1 ∧ Den X.K H1 F1 x dx ∧ (revT dx).hard.wp (fun d => ∀ v H' F', Grow H F H' F' → Den X.K H' F' v d → Q v H') (fun _ => False)) I
    ⟨ε, F, re, R.wp_mono (R.wp_bind q) (fun d k v H1 F1 g1 d1 => ⟨d, F1, g1, d1, by
      cases q : revT d with
      | ok d => rw [q] at k; exact k
      | exn _ => rw [q] at k; exact k.elim
      | stuck => rw [q] at k; exact k.elim⟩) fun e k => k⟩
  refine Subscript_ (thn he' fun v s1 ⟨x, H1, I1, r1, dx, F1, g1, d1, k⟩ => ?_)
  have hst : PO X (some (.UnaryOp .USub (.Constant (.int 1) kk p1) p2)) (tPart (tUn (rU fun i => V.int (-i)) (tC (V.int 1)))) := po_some (pe_un un_neg pe_int)
  refine wpAny_Slice (thn (po_none.run pins s1 σ H1 (fun o H2 => o = none ∧ H2 = H1) I1 ⟨rfl, rfl⟩) fun vl s2 ⟨l, H2, I2, pl, el, e2⟩ => ?_)
  subst el; subst e2
  refine thn (po_none.run pins s2 σ H2 (fun o H3 => o = none ∧ H3 = H2) I2 ⟨rfl, rfl⟩) fun vu s3 ⟨u, H3, I3, pu, eu, e3⟩ => ?_
  subst eu; subst e3
  refine thn (hst.run pins s3 σ H3 (fun o H4 => o = some (-1) ∧ H4 = H3) I3 ⟨1, rfl, ⟨-1, rfl, ⟨rfl, rfl⟩⟩⟩) fun vs s4 ⟨st, H4, I4, ps, es, e4⟩ => ?_
  subst es; subst e4
  have hold : ∀ (b : Addr) (u : Obj), s4.heap.get? b = some u → (s4.heap.push { cls := Value.type "slice", data := Data.fields #[vl, vu, vs] }).get? b = some u := fun b u h => Heap.get?_push_of_some _ h
  have hnew : (s4.heap.push { cls := Value.type "slice", data := Data.fields #[vl, vu, vs] }).get? s4.heap.objs.size = some { cls := Value.type "slice", data := Data.fields #[vl, vu, vs] } := Heap.get?_push_size _ rfl
  have I5 := I4.kept (t' := s4.toks) hold
  have hsl : (s4.heap.push { cls := Value.type "slice", data := Data.fields #[vl, vu, vs] }).IsSliceOf s4.heap.objs.size vl vu vs := ⟨_, hnew, rfl, rfl⟩
  cases pl
  cases pu
  cases ps with
  | int _ tk => ?_
  cases d1 with
  | str z hz =>
    obtain ⟨t, rfl⟩ := r1
    obtain ⟨h1, h2⟩ := tyV_is I5 (x := V.str z) (v := Value.str z t) ⟨t, rfl⟩ (show tyV X.K "str" (.str z) H4 from rfl)
    refine tail_any (ops := _) h1 PySem.F.slot_str_getitem.lookup ?_ rfl
    have hs' : (s4.heap.push { cls := Value.type "slice", data := Data.fields #[Value.none, Value.none, Value.int (-1) tk] }).IsSlice s4.heap.objs.size none none (some (-1, tk)) := ⟨_, hnew, rfl, rfl⟩
    refine wpAny_getItem_str_slice hs' rfl (made_rev z t tk _ _ hz.1 ?_)
    refine ⟨.str ⟨z.cps.reverse⟩, H4, I4.kept hold, ⟨_, rfl⟩, ?_⟩
    have k : ∀ v H' F', Grow H F H' F' → Den X.K H' F' v (.str ⟨z.cps.reverse⟩) → Q v H' := k
    refine k _ H4 F1 g1 (.str _ ⟨?_, ?_⟩)
    · show (z.cps.reverse).size ≤ sizeLine
      rw [Array.size_reverse]; exact hz.1
    · have h2 := hz.2
      rw [← Array.all_toList, List.all_eq_true] at h2 ⊢
      intro c hc
      exact h2 c (by simpa using hc)
  | @lst a vs2 ds l1 l2 l3 =>
    have k : ∀ v H' F', Grow H F H' F' → Den X.K H' F' v (.list ds.reverse) → Q v H' := k
    cases r1
    obtain ⟨its, rv, hl, hsz⟩ := I5.list l1.sql
    obtain ⟨h1, h2⟩ := tyV_is I5 (x := V.ref a) (v := Value.ref a) rfl (show tyV X.K "list" (.ref a) H4 from .inl ⟨rfl, vs2, l1.sql⟩)
    refine tail_any (ops := _) h1 PySem.F.slot_list_getitem.lookup ?_ rfl
    have hz : its.toArray.size ≤ sizeLine := by rw [List.size_toArray, ← rv.length]; exact hsz
    refine wpAny_getItem_list_slice hl.isList hsl .none .none (.int _ _) (by decide) ?_ hz
    rw [PySem.W.krv_pick, List.toList_toArray]
    have rr : Vals vs2.reverse its.reverse := rv.reverse
    refine ⟨.ref _, _, I5.lnew (t' := s4.toks) rr (by rw [List.length_reverse]; exact hsz), rfl, ?_⟩
    exact fin_lst (fin_grow g1 k) g1.ok l2.reverse (by rw [List.length_reverse]; exact l3) _ I5.fresh
  | @tup a vs2 ds l1 l2 l3 =>
    have k : ∀ v H' F', Grow H F H' F' → Den X.K H' F' v (.tuple ds.reverse) → Q v H' := k
    cases r1
    have hsq : SqT X.K H4 a vs2 := .of l1
    obtain ⟨its, rv, hT, hsz⟩ := I5.tuple hsq
    refine tail_any (ops := _) hT.typeIs PySem.F.slot_tuple_getitem.lookup ?_ rfl
    have hz : its.toArray.size ≤ sizeLine := by rw [List.size_toArray, ← rv.length]; exact hsz
    refine PyProof.Rows.getItem_tuple_rev hT hsl ?_ hz
    rw [List.toList_toArray]
    have rr : Vals vs2.reverse its.reverse := rv.reverse
    refine ⟨.ref _, _, I5.laid (t' := s4.toks) (o := .tup vs2.reverse) (fun _ _ q => Heap.get?_push_of_some _ q) (Nat.le_refl _) ⟨by rw [List.length_reverse]; exact hsz, its.reverse, rr, ⟨_, Heap.get?_push_size _ rfl, rfl, _, rfl⟩⟩, rfl, ?_⟩
    exact fin_tup (fin_grow g1 k) g1.ok l2.reverse (by rw [List.length_reverse]; exact l3) _ I5.fresh
  | _ => exact k.elim
end
end RB

set_option Elab.async false
set_option linter.all false
set_option maxRecDepth 100000
set_option maxHeartbeats 4000000
set_option pp.maxSteps 900
namespace RB
open PySem PySem.Spec PyProof.Rows L2
/-! ### dicts: what is read -/
def atomB : D → Bool
  | .int _ => true
  | .str _ => true
  | _ => false
def keyFit : Bool → D → Bool
  | false, d => atomB d
  | true, .tuple ks => ks.all atomB
  | true, _ => false
def dKind : List (D × D) → Bool × List (D × D)
  | (.none, _) :: r => (true, r)
  | r => (false, r)
def dLook (kvs : List (D × D)) (k : D) : Option D := (kvs.find? fun p => PyData.eqv p.1 k).map (·.2)
def dGetD (d k : D) : R (Option D) := match d with
  | .dict kv => if keyFit (dKind kv).1 k = true then .ok (dLook (dKind kv).2 k) else .stuck
  | _ => .stuck
def ixDD (d k : D) : R D := dGetD d k >>= fun o => match o with
  | some v => .ok v
  | none => .stuck
def inDD (k d : D) : R D := dGetD d k >>= fun o => .ok (.bool o.isSome)
def ninDD (k d : D) : R D := dGetD d k >>= fun o => .ok (.bool (!o.isSome))
def isDct : D → R D
  | .dict kv => .ok (.dict kv)
  | _ => .stuck
def get1E (fo fk : Env → R D) : Env → R D := fun ε => fo ε >>= fun d => (isDct d).hard >>= fun d => fk ε >>= fun k => (dGetD d k >>= fun o => .ok (o.getD .none)).hard
def get2E (fo fk fd : Env → R D) : Env → R D := fun ε => fo ε >>= fun d => (isDct d).hard >>= fun d => fk ε >>= fun k => fd ε >>= fun z => (dGetD d k >>= fun o => .ok (o.getD z)).hard
section
variable {K : PySem.W.Frag} {H : Hp} {F : Addr → Prop}
theorem den_atom {v : V} {d : D} (h : Den K H F v d) (a : atomB d = true) : ∃ k : Key, v = kV k ∧ d = keyD k := by
  cases h with
  | int i => exact ⟨.inl i, rfl, rfl⟩
  | str x _ => exact ⟨.inr x, rfl, rfl⟩
  | _ => cases a
theorem den_atoms : ∀ {vs : List V} {ds : List D}, DenL K H F vs ds → ds.all atomB = true → ∃ ks : List Key, vs = ks.map kV ∧ ds = ks.map keyD
  | _, _, .nil, _ => ⟨[], rfl, rfl⟩
  | _, _, .cons h hs, a => by
    rw [List.all_cons, Bool.and_eq_true] at a
    obtain ⟨k, e1, e2⟩ := den_atom h a.1
    obtain ⟨ks, e3, e4⟩ := den_atoms hs a.2
    exact ⟨k :: ks, by rw [e1, e3]; rfl, by rw [e2, e4]; rfl⟩
end
theorem eqv_keyD (a b : Key) : PyData.eqv (keyD a) (keyD b) = decide (a = b) := by
  cases a with
  | inl i =>
    cases b with
    | inl j =>
      show PyData.eqv (.int i) (.int j) = _
      unfold PyData.eqv
      by_cases h : i = j
      · subst h; simp
      · have : ¬ (Sum.inl i : Key) = Sum.inl j := fun z => h (by injection z)
        rw [decide_eq_false this]; simpa using h
    | inr y => exact (decide_eq_false (fun z => nomatch z)).symm
  | inr x =>
    cases b with
    | inl j => exact (decide_eq_false (fun z => nomatch z)).symm
    | inr y =>
      show PyData.eqv (.str x) (.str y) = _
      unfold PyData.eqv
      by_cases h : x = y
      · subst h; simp
      · have : ¬ (Sum.inr x : Key) = Sum.inr y := fun z => h (by injection z)
        rw [decide_eq_false this]; simpa using h
theorem eqv_keyLs : ∀ (as bs : List Key), PyData.eqvAll (as.map keyD) (bs.map keyD) = decide (as = bs)
  | [], [] => rfl
  | [], b :: bs => (decide_eq_false (fun z => nomatch z)).symm
  | a :: as, [] => (decide_eq_false (fun z => nomatch z)).symm
  | a :: as, b :: bs => by
    rw [List.map_cons, List.map_cons]
    unfold PyData.eqvAll
    rw [eqv_keyD, eqv_keyLs as bs]
    by_cases h : a = b
    · by_cases h2 : as = bs
      · subst h; subst h2; simp
      · have n : ¬ a :: as = b :: bs := fun z => h2 (List.cons.inj z).2
        rw [decide_eq_false h2, decide_eq_false n, Bool.and_false]
    · have n : ¬ a :: as = b :: bs := fun z => h (List.cons.inj z).1
      rw [decide_eq_false h, decide_eq_false n, Bool.false_and]
theorem eqv_keyT (as bs : List Key) : PyData.eqv (.tuple (as.map keyD)) (.tuple (bs.map keyD)) = decide (as = bs) := by
  unfold PyData.eqv
  exact eqv_keyLs as bs
/-- an answer, or none -/
def DenO (K : PySem.W.Frag) (H : Hp) (F : Addr → Prop) : Option V → Option D → Prop
  | some v, some d => Den K H F v d
  | none, none => True
  | _, _ => False
theorem look_den {K : PySem.W.Frag} {H : Hp} {F : Addr → Prop} {κ : Type} [DecidableEq κ] (kd : κ → D) (he : ∀ a b, PyData.eqv (kd a) (kd b) = decide (a = b)) (k : κ) : ∀ {kvs : List (κ × V)} {ds : List D}, DenL K H F (kvs.map (·.2)) ds → DenO K H F (valV kvs k) (dLook ((kvs.map fun p => kd p.1).zip ds) (kd k))
  | [], _, .nil => trivial
  | p :: kvs, d :: ds, .cons h hs => by
    have ih := look_den kd he k hs
    unfold valV dLook at ih ⊢
    rw [List.map_cons, List.zip_cons_cons, List.find?_cons, List.find?_cons]
    show DenO K H F (Option.map (·.2) (match decide (p.1 = k) with
      | true => some p
      | false => _)) (Option.map (·.2) (match PyData.eqv (kd p.1) (kd k) with
      | true => some (kd p.1, d)
      | false => _))
    rw [he]
    by_cases c : p.1 = k
    · rw [decide_eq_true c]; exact h
    · rw [decide_eq_false c]; exact ih
theorem dKind_K {ks : List Key} {ds : List D} : dKind ((ks.map keyD).zip ds) = (false, (ks.map keyD).zip ds) := by
  cases ks with
  | nil => rfl
  | cons k ks =>
    cases ds with
    | nil => rfl
    | cons d ds => cases k <;> rfl
section
variable {K : PySem.W.Frag} {H : Hp} {F : Addr → Prop}
theorem FA.rd {a : Addr} {u : HO} (h : FA H F a u) : Rd H a u := by
  rcases h with ⟨h, _⟩ | ⟨o, h⟩
  · exact .inl h
  · exact .inr ⟨o, h⟩
theorem den_isD {x : V} {kv : List (D × D)} (h : Den K H F x (.dict kv)) : ∃ a, x = .ref a ∧ IsD H a := by
  cases h with
  | dK h _ => exact ⟨_, rfl, .inl ⟨_, h.rd⟩⟩
  | dT h _ => exact ⟨_, rfl, .inr ⟨_, h.rd⟩⟩
theorem den_get {x y : V} {d k : D} {o : Option D} (hx : Den K H F x d) (hy : Den K H F y k) (e : dGetD d k = .ok o) : ∃ a ov, x = .ref a ∧ DGet H a y ov ∧ DenO K H F ov o := by
  cases hx with
  | @dK a kvs ds h1 h2 =>
    have e : (if keyFit (dKind ((kvs.map fun p => keyD p.1).zip ds)).1 k = true then R.ok (dLook (dKind ((kvs.map fun p => keyD p.1).zip ds)).2 k) else .stuck) = .ok o := e
    have ek : (kvs.map fun p => keyD p.1) = (kvs.map (·.1)).map keyD := by rw [List.map_map]; rfl
    have dk : dKind ((kvs.map fun p => keyD p.1).zip ds) = (false, (kvs.map fun p => keyD p.1).zip ds) := by rw [ek]; exact dKind_K
    rw [dk] at e
    by_cases c : keyFit false k = true
    · rw [if_pos c] at e
      cases e
      obtain ⟨q, e1, e2⟩ := den_atom hy c
      subst e1; subst e2
      exact ⟨a, _, rfl, .inl ⟨kvs, q, h1.rd, rfl, rfl⟩, look_den keyD eqv_keyD q h2⟩
    · rw [if_neg c] at e; cases e
  | @dT a kvs ds h1 h2 =>
    have e : (if keyFit true k = true then R.ok (dLook ((kvs.map fun p => PyData.tuple (p.1.map keyD)).zip ds) k) else .stuck) = .ok o := e
    by_cases c : keyFit true k = true
    · rw [if_pos c] at e
      cases e
      cases hy with
      | @tup b vs es t1 t2 t3 =>
        obtain ⟨qs, e1, e2⟩ := den_atoms t2 c
        subst e1; subst e2
        exact ⟨a, _, rfl, .inr ⟨kvs, qs, b, h1.rd, rfl, t1, rfl⟩, look_den (fun q : List Key => PyData.tuple (q.map keyD)) eqv_keyT qs h2⟩
      | _ => cases c
    · rw [if_neg c] at e; cases e
  | _ => cases e
end
theorem dGet_ok {d k : D} {α : Type} {f : Option D → R α} {P : α → Prop} (h : (dGetD d k >>= f).wp P NoE) : ∃ o, dGetD d k = .ok o ∧ (f o).wp P NoE := by
  cases e : dGetD d k with
  | ok o => rw [e] at h; exact ⟨o, rfl, h⟩
  | exn _ => rw [e] at h; exact h.elim
  | stuck => rw [e] at h; exact h.elim
section
variable {X : Cx} {W : WX} {o i e f : Expr} {fo fi fe ff : Env → R D} {pos apos cpos : Pos}
theorem ex_dget (hu : X.A.units + 66 < cLine) (ho : Ex X W o fo) (hi : Ex X W i fi) (hs : NoSl i := by exact fun _ _ => rfl) : Ex X W (.Subscript o i pos) (op2E ixDD fo fi) :=
  PE.imp (pe_dget (by omega) ho hi hs) fun σ H Q h => two (fun _ _ _ h => h) (fun _ _ _ h => h) h fun x y dx dy H1 F1 ok d1 d2 k => by
    obtain ⟨r, e, k⟩ := dGet_ok k
    obtain ⟨a, ov, e1, e2, e3⟩ := den_get d1 d2 e
    cases r with
    | none => exact k.elim
    | some z =>
      cases ov with
      | none => exact e3.elim
      | some v => exact ⟨a, v, e1, e2, k _ H1 F1 (.refl ok) e3⟩
theorem isSome_den {K : PySem.W.Frag} {H : Hp} {F : Addr → Prop} {ov : Option V} {r : Option D} (h : DenO K H F ov r) : ov.isSome = r.isSome := by
  cases ov <;> cases r <;> first | rfl | exact h.elim
theorem ex_din (hu : X.A.units + 66 < cLine) (hi : Ex X W i fi) (ho : Ex X W o fo) (hm : behindInMarks .In o = false := by first | exact nobehind _ (by decide) (by decide) | rfl) : Ex X W (.Compare i [.In] [o] pos) (op2E inDD fi fo) :=
  PE.imp (pe_cmp (pc_din (by omega) hi ho) hm) fun σ H Q h => two (fun _ _ _ h => h) (fun _ _ _ h => h) h fun x y dx dy H1 F1 ok d1 d2 k => by
    obtain ⟨r, e, k⟩ := dGet_ok k
    obtain ⟨a, ov, e1, e2, e3⟩ := den_get d2 d1 e
    exact ⟨a, ov, e1, e2, by rw [isSome_den e3]; exact k _ H1 F1 (.refl ok) (.bl _)⟩
theorem ex_dnin (hu : X.A.units + 66 < cLine) (hi : Ex X W i fi) (ho : Ex X W o fo) (hm : behindInMarks .NotIn o = false := by first | exact nobehind _ (by decide) (by decide) | rfl) : Ex X W (.Compare i [.NotIn] [o] pos) (op2E ninDD fi fo) :=
  PE.imp (pe_cmp (pc_dnotin (by omega) hi ho) hm) fun σ H Q h => two (fun _ _ _ h => h) (fun _ _ _ h => h) h fun x y dx dy H1 F1 ok d1 d2 k => by
    obtain ⟨r, e, k⟩ := dGet_ok k
    obtain ⟨a, ov, e1, e2, e3⟩ := den_get d2 d1 e
    exact ⟨a, ov, e1, e2, by rw [isSome_den e3]; exact k _ H1 F1 (.refl ok) (.bl _)⟩
theorem tx_din (hu : X.A.units + 66 < cLine) (hi : Ex X W i fi) (ho : Ex X W o fo) (hm : behindInMarks .In o = false := by first | exact nobehind _ (by decide) (by decide) | rfl) : Tx X W (.Compare i [.In] [o] pos) (testE (op2E inDD fi fo)) :=
  PT.imp (pt_cmp (pc_din (by omega) hi ho) hm) fun σ H Q q => two (fun _ _ _ h => h) (fun _ _ _ h => h) (tB_of q) fun x y dx dy H1 F1 ok d1 d2 k => by
    obtain ⟨r, e, k⟩ := dGet_ok k
    obtain ⟨a, ov, e1, e2, e3⟩ := den_get d2 d1 e
    exact ⟨a, ov, e1, e2, by rw [isSome_den e3]; exact k _ H1 F1 (.refl ok) (.bl _)⟩
theorem tx_dnin (hu : X.A.units + 66 < cLine) (hi : Ex X W i fi) (ho : Ex X W o fo) (hm : behindInMarks .NotIn o = false := by first | exact nobehind _ (by decide) (by decide) | rfl) : Tx X W (.Compare i [.NotIn] [o] pos) (testE (op2E ninDD fi fo)) :=
  PT.imp (pt_cmp (pc_dnotin (by omega) hi ho) hm) fun σ H Q q => two (fun _ _ _ h => h) (fun _ _ _ h => h) (tB_of q) fun x y dx dy H1 F1 ok d1 d2 k => by
    obtain ⟨r, e, k⟩ := dGet_ok k
    obtain ⟨a, ov, e1, e2, e3⟩ := den_get d2 d1 e
    exact ⟨a, ov, e1, e2, by rw [isSome_den e3]; exact k _ H1 F1 (.refl ok) (.bl _)⟩
theorem ex_dget1 (hu : X.A.units + 66 < cLine) (ho : Ex X W o fo) (he : Ex X W e fe) (m : M1 X o "get" apos e cpos := by exact ⟨rfl, rfl, rfl, rfl⟩) : Ex X W (.Call (.Attribute o "get" apos) [e] [] cpos) (get1E fo fe) := by
  refine PE.imp (pe_dget1 (by omega) ho he m) fun σ H Q ⟨ε, F, re, q⟩ => ⟨ε, F, re, ?_⟩
  refine R.wp_mono (R.wp_bind q) (fun dx k v H1 F1 g1 d1 => ?_) (fun e k => k)
  cases dx with
  | dict kv =>
    obtain ⟨a, ea, hD⟩ := den_isD d1
    refine ⟨a, ea, hD, ε, F1, re.grow g1, ?_⟩
    have k : (fe ε >>= fun y => (dGetD (.dict kv) y >>= fun o => .ok (o.getD .none)).hard).wp _ _ := k
    refine R.wp_mono (R.wp_bind k) (fun dy k w H2 F2 g2 d2 => ?_) (fun e k cls x H' F' g => k cls x H' F' (g1.trans g))
    obtain ⟨r, e, k⟩ := dGet_ok (hardN k fun d k => k)
    obtain ⟨b, ov, e1, e2, e3⟩ := den_get (d1.grow g2) d2 e
    rw [ea] at e1; cases e1
    refine ⟨ov, e2, ?_⟩
    cases ov with
    | none =>
      cases r with
      | none => exact k _ H2 F2 (g1.trans g2) .non
      | some z => exact e3.elim
    | some u =>
      cases r with
      | none => exact e3.elim
      | some z => exact k _ H2 F2 (g1.trans g2) e3
  | _ => exact k.elim
theorem ex_dget2 (hu : X.A.units + 66 < cLine) (ho : Ex X W o fo) (he : Ex X W e fe) (hf : Ex X W f ff) (m : M2 X o "get" apos e f cpos := by exact ⟨rfl, rfl, rfl, rfl⟩) : Ex X W (.Call (.Attribute o "get" apos) [e, f] [] cpos) (get2E fo fe ff) := by
  refine PE.imp (pe_dget2 (by omega) ho he hf m) fun σ H Q ⟨ε, F, re, q⟩ => ⟨ε, F, re, ?_⟩
  refine R.wp_mono (R.wp_bind q) (fun dx k v H1 F1 g1 d1 => ?_) (fun e k => k)
  cases dx with
  | dict kv =>
    obtain ⟨a, ea, hD⟩ := den_isD d1
    refine ⟨a, ea, hD, ε, F1, re.grow g1, ?_⟩
    have k : (fe ε >>= fun y => ff ε >>= fun z => (dGetD (.dict kv) y >>= fun o => .ok (o.getD z)).hard).wp _ _ := k
    refine R.wp_mono (R.wp_bind k) (fun dy k w H2 F2 g2 d2 => ⟨ε, F2, re.grow (g1.trans g2), ?_⟩) (fun e k cls x H' F' g => k cls x H' F' (g1.trans g))
    refine R.wp_mono (R.wp_bind k) (fun dz k u H3 F3 g3 d3 => ?_) (fun e k cls x H' F' g => k cls x H' F' (g1.trans (g2.trans g)))
    obtain ⟨r, e, k⟩ := dGet_ok (hardN k fun d k => k)
    obtain ⟨b, ov, e1, e2, e3⟩ := den_get (d1.grow (g2.trans g3)) (d2.grow g3) e
    rw [ea] at e1; cases e1
    refine ⟨ov, e2, ?_⟩
    cases ov with
    | none =>
      cases r with
      | none => exact k _ H3 F3 (g1.trans (g2.trans g3)) d3
      | some z => exact e3.elim
    | some q =>
      cases r with
      | none => exact e3.elim
      | some z => exact k _ H3 F3 (g1.trans (g2.trans g3)) e3
  | _ => exact k.elim
end
end RB

set_option Elab.async false
set_option linter.all false
set_option maxRecDepth 100000
set_option maxHeartbeats 4000000
set_option pp.maxSteps 900
namespace RB
open PySem PySem.Spec PyProof.Rows L2
/-! ### own dicts: made, written -/
def dPut (kvs : List (D × D)) (k v : D) : List (D × D) := if (kvs.any fun p => PyData.eqv p.1 k) = true then kvs.map (fun p => if PyData.eqv p.1 k = true then (p.1, v) else p) else kvs ++ [(k, v)]
section
variable {K : PySem.W.Frag} {H : Hp} {F : Addr → Prop} {κ : Type} [DecidableEq κ]
theorem any_kd (kd : κ → D) (he : ∀ a b, PyData.eqv (kd a) (kd b) = decide (a = b)) (q : κ) : ∀ {ks : List (κ × V)} {kvs : List (D × D)}, kvs.map (·.1) = ks.map (fun p => kd p.1) → (kvs.any fun p => PyData.eqv p.1 (kd q)) = ks.any fun p => decide (p.1 = q)
  | [], [], _ => rfl
  | [], _ :: _, h => by cases h
  | _ :: _, [], h => by cases h
  | p :: ks, r :: kvs, h => by
    rw [List.map_cons, List.map_cons] at h
    have h1 : r.1 = kd p.1 := (List.cons.inj h).1
    rw [List.any_cons, List.any_cons, any_kd kd he q (List.cons.inj h).2, h1, he]
theorem map_kd (kd : κ → D) (he : ∀ a b, PyData.eqv (kd a) (kd b) = decide (a = b)) (q : κ) {v : V} {d : D} (dv : Den K H F v d) : ∀ {ks : List (κ × V)} {kvs : List (D × D)}, kvs.map (·.1) = ks.map (fun p => kd p.1) → DenL K H F (ks.map (·.2)) (kvs.map (·.2)) →
    (kvs.map (fun p => if PyData.eqv p.1 (kd q) = true then (p.1, d) else p)).map (·.1) = (ks.map (fun p => if p.1 = q then (p.1, v) else p)).map (fun p => kd p.1) ∧ DenL K H F ((ks.map (fun p => if p.1 = q then (p.1, v) else p)).map (·.2)) ((kvs.map (fun p => if PyData.eqv p.1 (kd q) = true then (p.1, d) else p)).map (·.2))
  | [], [], _, _ => ⟨rfl, .nil⟩
  | [], _ :: _, h, _ => by cases h
  | _ :: _, [], h, _ => by cases h
  | p :: ks, r :: kvs, h, hd => by
    rw [List.map_cons, List.map_cons] at h
    have h1 : r.1 = kd p.1 := (List.cons.inj h).1
    cases hd with
    | cons hd hds =>
      obtain ⟨i1, i2⟩ := map_kd kd he q dv (List.cons.inj h).2 hds
      have e : PyData.eqv r.1 (kd q) = decide (p.1 = q) := by rw [h1, he]
      by_cases c : p.1 = q
      · have ce : PyData.eqv r.1 (kd q) = true := by rw [e, decide_eq_true c]
        simp only [List.map_cons, if_pos c, if_pos ce]
        exact ⟨by rw [h1, i1], .cons dv i2⟩
      · have ce : ¬ PyData.eqv r.1 (kd q) = true := by rw [e, decide_eq_false c]; decide
        simp only [List.map_cons, if_neg c, if_neg ce]
        exact ⟨by rw [h1, i1], .cons hd i2⟩
theorem put_gen (kd : κ → D) (he : ∀ a b, PyData.eqv (kd a) (kd b) = decide (a = b)) (q : κ) {v : V} {d : D} (dv : Den K H F v d) {ks : List (κ × V)} {kvs : List (D × D)} (hk : kvs.map (·.1) = ks.map (fun p => kd p.1)) (hd : DenL K H F (ks.map (·.2)) (kvs.map (·.2))) :
    (dPut kvs (kd q) d).map (·.1) = (L2.putK ks q v).map (fun p => kd p.1) ∧ DenL K H F ((L2.putK ks q v).map (·.2)) ((dPut kvs (kd q) d).map (·.2)) := by
  unfold dPut L2.putK
  rw [any_kd kd he q hk]
  by_cases c : (ks.any fun p => decide (p.1 = q)) = true
  · rw [if_pos c, if_pos c]
    exact map_kd kd he q dv hk hd
  · rw [if_neg c, if_neg c, List.map_append, List.map_append, List.map_append, List.map_append]
    exact ⟨by rw [hk]; rfl, hd.append (.cons dv .nil)⟩
end
theorem put_den {K : PySem.W.Frag} {H : Hp} {F : Addr → Prop} {t : Bool} {u : HO} {kvs : List (D × D)} {vs : List V} {a : Addr} {y v : V} {k d : D} (h : DctO t u kvs vs) (hd : DenL K H F vs (kvs.map (·.2))) (ha : H a = some u) (hz : kvs.length < 16777216) (hf : keyFit t k = true) (hy : Den K H F y k) (dv : Den K H F v d) :
    ∃ u' vs', DPut H a y v (L2.upd H a u') ∧ DctO t u' (dPut kvs k d) vs' ∧ DenL K H F vs' ((dPut kvs k d).map (·.2)) := by
  have hz' : kvs.length < sizeLine := by rw [sizeLine_eq]; exact hz
  cases t with
  | false =>
    obtain ⟨ks, rfl, rfl, e⟩ := h
    obtain ⟨q, rfl, rfl⟩ := den_atom hy hf
    obtain ⟨i1, i2⟩ := put_gen keyD eqv_keyD q dv e hd
    have hl : ks.length = kvs.length := by have := congrArg List.length e; simpa using this.symm
    exact ⟨_, _, .inl ⟨ks, q, ha, rfl, by rw [hl]; exact hz', rfl⟩, ⟨_, rfl, rfl, i1⟩, i2⟩
  | true =>
    obtain ⟨ks, rfl, rfl, e⟩ := h
    cases hy with
    | @tup b vs es t1 t2 t3 =>
      obtain ⟨qs, e1, e2⟩ := den_atoms t2 hf
      subst e1; subst e2
      obtain ⟨i1, i2⟩ := put_gen (fun q : List Key => PyData.tuple (q.map keyD)) eqv_keyT qs dv e hd
      have hl : ks.length = kvs.length := by have := congrArg List.length e; simpa using this.symm
      exact ⟨_, _, .inr ⟨ks, qs, b, ha, rfl, t1, by rw [hl]; exact hz', rfl⟩, ⟨_, rfl, rfl, i1⟩, i2⟩
    | _ => cases hf
/-! a new dict -/
def tD (t : Bool) (K : PySem.W.Frag) (mg : Str → Option Value) (W : WX) (f : Env → R (List (D × D))) : TE := fun σ H Q => ∃ ε F, RE K σ ε H F ∧ (f ε).wp (fun kvs => ∀ p u vs H' F', Grow H F H' F' → H p = none → H' p = some u → ¬ F' p → DctO t u kvs vs → DenL K H' F' vs (kvs.map (·.2)) → Q (.ref p) H') fun e => ∀ cls x H' F', Grow H F H' F' → ExnOf mg e cls x H' → W cls x σ H'
abbrev Dx (X : Cx) (W : WX) (t : Bool) (e : Expr) (f : Env → R (List (D × D))) : Prop := PE X e (tD t X.K X.mg W f)
/-- as data: never written again -/
def dataDF (t : Bool) (f : Env → R (List (D × D))) : Env → R D := fun ε => f ε >>= fun kvs => .ok (.dict (markT t kvs))
theorem Dx.ex {X : Cx} {W : WX} {t : Bool} {e : Expr} {f : Env → R (List (D × D))} (h : Dx X W t e f) : Ex X W e (dataDF t f) := by
  refine PE.imp h fun σ H Q ⟨ε, F, re, q⟩ => ⟨ε, F, re, ?_⟩
  refine R.wp_mono (R.wp_bind q) (fun kvs k p u vs H' F' g hp hp' nf ho hd => ?_) (fun e k => k)
  have q : OwO (.od t kvs) u vs := ho
  exact k _ _ _ (grow_freeze g hp hp') (q.den (hd.pres pres_freeze) hp' (.inr rfl))
def ownDS (L : List Nat) (i : Nat) (t : Bool) (f : Env → R (List (D × D))) : Gam → R Fl := fun Γ => lift (f (view L Γ)) Γ fun kvs => .ok (.nx ((keepGs L (kvs.map (·.2)) Γ).set i (.od t kvs)))
section
variable {X : Cx} {W : WX} {H0 : Hp} {F0 : Addr → Prop} {pos : Pos}
theorem st_ownD (L : List Nat) (i : Nat) {x : Str} {t : Bool} {e : Expr} {f : Env → R (List (D × D))} {pos' : Pos} (he : Dx X W t e f) (hN : X.N.Nodup) (hi : X.N[i]? = some x := by rfl) (hx : Loc X.env.scope x := by first | exact Or.inl rfl | exact Or.inr rfl) (hs : swapsWith e (some (.Name x pos')) pos.line X.env = pure false := by rfl)
    (hf : X.fn x = true ∨ X.env.scope.names.lookup x = some .local := by first | exact .inl rfl | exact .inr rfl) : Sx X W H0 F0 (.Assign [.Name x pos'] e pos) (ownDS L i t f) := PS.imp (ps_set hN hi hx he hs hf) fun E σ H ⟨Γ, F, r, fl, e, k⟩ => by
  obtain ⟨re, g0⟩ := r.view L
  refine ⟨_, _, re, ?_⟩
  rcases lift_cases e with ⟨ds, e1, e2⟩ | ⟨x, e1, e2⟩
  · rw [e1]
    cases e2
    intro p u vs H' F' g hp hp' nf ho hd
    have no : ∀ {Γ' : Gam}, (∀ j a, OwnAt σ Γ' j a → OwnAt σ Γ j a) → ∀ j, ¬ OwnAt σ Γ' j p := fun hh j o => by
      obtain ⟨_, _, _, _, _, z, _⟩ := r.own (hh j p o)
      rw [hp] at z; cases z
    have n0 : H0 p = none := r.gr.back hp
    have fin : ∀ {Γ' F2}, Rel X.K H0 F0 σ Γ' H' F2 → (∀ j, ¬ OwnAt σ Γ' j p) → ¬ F2 p → DenL X.K H' F2 vs (ds.map (·.2)) → Pres H F H' F2 → FlOk X.K X.mg W H0 F0 H F E (.nx (Γ'.set i (.od t ds))) → E.nx (σ.set i (some (.ref p))) H' := fun {Γ' F2} r2 n2 nf2 d2 p2 k => k _ H' F2 (r2.setow (s := .od t ds) hp' nf2 n0 n2 d2 ho) p2
    unfold keepGs at k
    by_cases c : L = [] ∨ noLsts (ds.map (·.2)) = true
    · rw [if_pos c] at k
      refine fin (r.back g) (no fun _ _ o => o) (fun f => nf f.1) ?_ (pres_FM r g) k
      rcases c with c | c
      · subst c
        exact hd.pres ⟨fun _ _ h => h, fun _ _ _ h => h, fun a u f h => ⟨⟨f, fun ⟨i, hi, _⟩ => nomatch hi⟩, h⟩⟩
      · exact hd.free c
    · rw [if_neg c] at k
      exact fin (r.frz g) (no fun j a o => own_frz o) nf hd (pres_F g) k
  · rw [e1]; subst e2; exact fun cls y H' F' g ho => k cls y σ H' _ (r.back g) (pres_FM r g) ho
/-! {} -/
def emptyDF : Env → R (List (D × D)) := fun _ => .ok []
theorem dx_new (t : Bool) : Dx X W t (.Dict [] [] pos) emptyDF := by
  cases t with
  | false =>
    refine PE.imp pe_dnewK fun σ H Q ⟨ε, F, re, q⟩ p hp => ?_
    have g := grow_new (o := .dK []) re.ok hp
    exact q p _ [] _ F g hp upd_same (fun f => by obtain ⟨u, e⟩ := re.ok p f; rw [hp] at e; cases e) ⟨[], rfl, rfl, rfl⟩ .nil
  | true =>
    refine PE.imp pe_dnewT fun σ H Q ⟨ε, F, re, q⟩ p hp => ?_
    have g := grow_new (o := .dT []) re.ok hp
    exact q p _ [] _ F g hp upd_same (fun f => by obtain ⟨u, e⟩ := re.ok p f; rw [hp] at e; cases e) ⟨[], rfl, rfl, rfl⟩ .nil
end
/-! x[k] = v -/
def dctAt (i : Nat) (Γ : Gam) : R (Bool × List (D × D)) := match Γ[i]? with
  | some (.od t kvs) => .ok (t, kvs)
  | _ => .stuck
def putDS (L : List Nat) (i : Nat) (fe fk : Env → R D) : Gam → R Fl := fun Γ => dctAt i Γ >>= fun o => lift (fe (view L Γ)) Γ fun d => lift (fk (view L Γ)) Γ fun k =>
  if keyFit o.1 k = true ∧ o.2.length < 16777216 ∧ (L = [] ∨ noLst d = true) then .ok (.nx (Γ.set i (.od o.1 (dPut o.2 k d)))) else .stuck
theorem dctAt_ok {i : Nat} {Γ : Gam} {o : Bool × List (D × D)} (e : dctAt i Γ = .ok o) : Γ[i]? = some (.od o.1 o.2) := by
  unfold dctAt at e
  split at e
  · rename_i t kvs h; cases e; exact h
  · cases e
section
variable {X : Cx} {W : WX} {H0 : Hp} {F0 : Addr → Prop} {pos : Pos}
theorem st_dput (L : List Nat) (i : Nat) (hu : X.A.units + 66 < cLine) {x : Str} {px : Pos} {ei e : Expr} {fe fi : Env → R D} {tpos : Pos} (he : Ex X W e fe) (hi : Ex X W ei fi) (hN : X.N[i]? = some x := by rfl) (hv : Vis X.env.scope x := by first | exact Or.inl rfl | exact Or.inr (Or.inl rfl) | exact Or.inr (Or.inr rfl))
    (hd : (x == ("__debug__" : Str)) = false := by decide) (hcd : (x == ("__classdict__" : Str)) = false := by decide)
    (ha : ∀ v, assign (.Subscript (.Name x px) ei tpos) X.env v = (do
      let ov ← holding [v] (eval (.Name x px) X.env)
      let iv ← holding [v, ov] (eval ei X.env)
      standAt tpos
      holding [v, ov, iv] (setItem ov iv v)
      release [v, ov, iv] []) := by intro _; rfl)
    (hs : swapsWithSole [.Subscript (.Name x px) ei tpos] e pos.line X.env = pure false := by rfl) (hw : swappedStores [.Subscript (.Name x px) ei tpos] e X.env = pure none := by rfl)
    (h1 : (assignEach [.Subscript (.Name x px) ei tpos] X.env).map (·.2) = [assign (.Subscript (.Name x px) ei tpos) X.env] := by rfl) : Sx X W H0 F0 (.Assign [.Subscript (.Name x px) ei tpos] e pos) (putDS L i fe fi) := by
  refine PS.imp (ps_asg he (pg_sub (pe_var hN hv hd hcd) hi (set_dict (by omega)) ha) hs hw h1) fun E σ H ⟨Γ, F, r, fl, e, k⟩ => ?_
  obtain ⟨o, e1, e⟩ := ok_bind' e
  have e1 := dctAt_ok e1
  obtain ⟨re, g0⟩ := r.view L
  refine ⟨_, _, re, ?_⟩
  rcases lift_cases e with ⟨d, e2, e3⟩ | ⟨y, e2, e3⟩
  · rw [e2]
    intro v H1 F1 g1 hd1
    have r1 := r.back g1
    have p1 := pres_FM r g1
    obtain ⟨a, u, vs, ow, ha, hn, hoo, hden⟩ := r1.ownOfG e1 rfl
    refine ⟨.ref a, ow.1, ?_⟩
    obtain ⟨re1, _⟩ := r1.view L
    refine ⟨_, _, re1, ?_⟩
    rcases lift_cases e3 with ⟨m, e4, e5⟩ | ⟨y, e4, e5⟩
    · rw [e4]
      intro w H2 F2 g2 hw2
      have r2 := r1.back g2
      have p2 := pres_FM r1 g2
      by_cases c : keyFit o.1 m = true ∧ o.2.length < 16777216 ∧ (L = [] ∨ noLst d = true)
      · rw [if_pos c] at e5
        cases e5
        obtain ⟨c1, c2, c3⟩ := c
        obtain ⟨u2, vs2, h2, n2, hoo2, hden2⟩ := r_ownG r2 ow e1
        have pq : Pres H1 F1 H2 F2 := ⟨fun a xs h => g2.same a _ h, fun a o u h => g2.same a _ h, fun a u f h => by
          refine ⟨?_, g2.same a u h⟩
          by_cases hq : ∃ i, i ∈ L ∧ OwnAt σ Γ i a
          · exact g2.fro a (.inr hq)
          · exact g2.fro a (.inl ⟨f, hq⟩)⟩
        have dv : Den X.K H2 (FM F2 σ Γ L) v d := by
          have d2 := hd1.pres pq
          rcases c3 with c3 | c3
          · subst c3
            exact d2.pres ⟨fun _ _ h => h, fun _ _ _ h => h, fun a u f h => ⟨⟨f, fun ⟨i, hi, _⟩ => nomatch hi⟩, h⟩⟩
          · exact d2.free c3
        have dk : Den X.K H2 (FM F2 σ Γ L) w m := by
          have nl : noLst m = true := by
            cases ht : o.1 with
            | false => rw [ht] at c1; cases m <;> first | rfl | cases c1
            | true =>
              rw [ht] at c1
              cases m with
              | tuple ks =>
                have : ∀ ks : List D, ks.all atomB = true → noLsts ks = true := by
                  intro ks
                  induction ks with
                  | nil => intro _; rfl
                  | cons q ks ih =>
                    intro h
                    rw [List.all_cons, Bool.and_eq_true] at h
                    unfold noLsts
                    rw [ih h.2]
                    have : noLst q = true := by cases q <;> first | rfl | cases h.1
                    rw [this]; rfl
                exact this ks c1
              | _ => cases c1
          exact hw2.free nl
        have hoo2' : DctO o.1 u2 o.2 vs2 := hoo2
        obtain ⟨u', vs', q1, q2, q3⟩ := put_den hoo2' hden2 h2 c2 c1 dk dv
        refine ⟨a, _, rfl, q1, ?_⟩
        exact k _ _ _ (r2.updow (s := .od o.1 (dPut o.2 m d)) ow q3 q2) (p1.trans (p2.trans (hoo2.upd h2 n2)))
      · rw [if_neg c] at e5; cases e5
    · rw [e4]
      subst e5
      exact fun cls y H' F' g ho => k cls y σ H' _ (r1.back g) (p1.trans (pres_FM r1 g)) ho
  · rw [e2]
    subst e3
    exact fun cls y H' F' g ho => k cls y σ H' _ (r.back g) (pres_FM r g) ho
end
end RB

set_option Elab.async false
set_option linter.all false
set_option maxRecDepth 100000
set_option maxHeartbeats 4000000
set_option pp.maxSteps 900
namespace RB
open PySem PySem.Spec PyProof.Rows L2
/-! ### {k: v} and {k: v for .. in ..} -/
def oneDF (fk fv : Env → R D) : Env → R (List (D × D)) := fun ε => fk ε >>= fun k => fv ε >>= fun v => if atomB k = true then .ok [(k, v)] else .stuck
section
variable {X : Cx} {W : WX} {pos : Pos} {ke ve : Expr} {fk fv : Env → R D}
theorem dx_one (hk : Ex X W ke fk) (hv : Ex X W ve fv) : Dx X W false (.Dict [some ke] [ve] pos) (oneDF fk fv) := by
  refine PE.imp (pe_disp (pps_cons hk hv pps_nil) rfl rfl (by simp) (by simp)) fun σ H Q ⟨ε, F, re, q⟩ p hp => ?_
  have g0 := grow_new (o := .dK []) re.ok hp
  have nF : ¬ F p := fun f => by obtain ⟨u, e⟩ := re.ok p f; rw [hp] at e; cases e
  refine ⟨ε, F, re.grow g0, ?_⟩
  refine R.wp_mono (R.wp_bind q) (fun k q y H1 F1 g1 d1 => ?_) (fun e k cls x H' F' g => k cls x H' F' (g0.trans g))
  refine ⟨ε, F1, re.grow (g0.trans g1), ?_⟩
  refine R.wp_mono (R.wp_bind q) (fun v q z H2 F2 g2 d2 => ?_) (fun e k cls x H' F' g => k cls x H' F' (g0.trans (g1.trans g)))
  by_cases c : atomB k = true
  · rw [if_pos c] at q
    obtain ⟨kk, e1, e2⟩ := den_atom d1 c
    subst e1; subst e2
    have s1 : H1 p = some (.dK []) := g1.same _ _ upd_same
    have s2 : H2 p = some (.dK []) := g2.same _ _ s1
    have n1 : ¬ F1 p := g1.notF upd_same nF
    have n2 : ¬ F2 p := g2.notF s1 n1
    refine ⟨s2, [(kk, z)], rfl, by simp, ?_⟩
    have pr : Pres H2 F2 (L2.upd H2 p (.dK [(kk, z)])) F2 := pres_updG s2 (fun _ z => nomatch z) (fun _ _ z => nomatch z) n2
    exact q p (.dK [(kk, z)]) [z] _ F2 (grow_upd (g0.trans (g1.trans g2)) hp) hp upd_same n2 ⟨[(kk, z)], rfl, rfl, rfl⟩ (.cons (d2.pres pr) .nil)
  · rw [if_neg c] at q; exact q.elim
end
def pairE (fk fv : Env → R D) : Env → R D := fun ε => fk ε >>= fun k => fv ε >>= fun v => .ok (.tuple [k, v])
/-- pairs put one behind the other -/
def foldP : List D → List (D × D) → R (List (D × D))
  | [], acc => .ok acc
  | .tuple [k, v] :: ps, acc => if atomB k = true then foldP ps (dPut acc k v) else .stuck
  | _ :: _, _ => .stuck
def dcE (vs : List Nat) (it : Env → R (List D)) (t : Tg) (fi : Env → R Bool) (fk fv : Env → R D) : Env → R (List (D × D)) := fun ε => it ε >>= fun ds => (compL t fi (pairE fk fv) (wipeE ε vs) ds).hard >>= fun ps => foldP ps []
theorem dc_it {J : It} {n : Nat} {G : Hp → Prop} {Y : Nat → Hp → V → Hp → Prop} (w : Walk J n G Y) {B : V → Hp → (Hp → Prop) → Prop} {H1 : Hp} {Qd : Hp → Prop} (Pv : Nat → Hp → Prop) (h0 : Pv 0 H1) (hG : ∀ i H, i ≤ n → Pv i H → G H)
    (hs : ∀ i x H H', i < n → Pv i H → Y i H x H' → B x H' (Pv (i + 1))) (hd : ∀ H, Pv n H → Qd H) :
    ∃ W : Nat → Nat → Hp → Prop, (∃ m, W 0 m H1) ∧ ∀ i m H, W i m H → (J.stop i H ∧ Qd H) ∨ (J.go i H ∧ ∃ Nx : Hp → Prop, (∀ H', Nx H' → ∃ m', m' < m ∧ W (i + 1) m' H') ∧ ∀ x H', J.yld i H x H' → B x H' Nx) := by
  refine ⟨fun i m H => m = n - i ∧ i ≤ n ∧ Pv i H, ⟨n, by simp, Nat.zero_le _, h0⟩, ?_⟩
  intro i m H ⟨hm, hi, p⟩
  subst hm
  have q := hG i H hi p
  by_cases hlt : i < n
  · exact .inr ⟨w.goes i H hlt q, Pv (i + 1), fun H' p' => ⟨n - (i + 1), by omega, rfl, hlt, p'⟩, fun x H' y => hs i x H H' hlt p (w.yields i H x H' hlt q y)⟩
  · have e : i = n := by omega
    subst e
    exact .inl ⟨w.stops H q, hd H p⟩
theorem dc_turn {K : PySem.W.Frag} {mg : Str → Option Value} {σ : L2.St} {H : Hp} {F : Addr → Prop} {ε : Env} {t : Tg} {fi : Env → R Bool} {fk fv : Env → R D} {vs : List Nat} {x : V} {d : D} {ds : List D} {rest : List D} {P : V → V → Hp → Prop} {P' : Hp → Prop}
    (re : RE K (wipe σ vs) ε H F) (dx : Den K H F x d) (hsl : ∀ i ∈ slotsT t, i ∈ vs) (e : compL t fi (pairE fk fv) ε (d :: ds) = .ok rest)
    (h1 : ∀ k v ys, rest = .tuple [k, v] :: ys → compL t fi (pairE fk fv) ε ds = .ok ys → ∀ y z H' F', Grow H F H' F' → Den K H' F' y k → Den K H' F' z v → P y z H') (h2 : compL t fi (pairE fk fv) ε ds = .ok rest → ∀ H' F', Grow H F H' F' → P' H') :
    tgR K t x (wipe σ vs) H fun σ2 H2 => wipe σ2 vs = wipe σ vs ∧ tB_ K mg W0 fi σ2 H2 fun b H3 => if b = true then tE K mg W0 fk σ2 H3 fun y H4 => tE K mg W0 fv σ2 H4 fun z H5 => P y z H5 else P' H3 := by
  unfold compL at e
  obtain ⟨as, e1, e⟩ := hard_bind e
  obtain ⟨b, e2, e⟩ := hard_bind e
  refine tg_run t x d as _ _ dx e1 fun ws p => ⟨?_, setE ε as, F, re.setAll p, ?_⟩
  · rw [wipe_setV, wipe_wipe]
    intro q hq
    obtain ⟨r, hr, e⟩ := p.slots q hq
    rw [← e]
    exact hsl _ (flat_slots t d as e1 r hr)
  · rw [e2]
    intro H3 F3 g3
    cases b with
    | true =>
      rw [if_pos rfl] at e ⊢
      obtain ⟨y, e3, e⟩ := hard_bind e
      obtain ⟨ys, e4, e⟩ := ok_bind' e
      cases e
      obtain ⟨k, e5, e3⟩ := ok_bind' e3
      obtain ⟨v, e6, e3⟩ := ok_bind' e3
      cases e3
      exact tE_of ((re.setAll p).grow g3) e5 fun y H4 F4 g4 d4 => tE_of ((re.setAll p).grow (g3.trans g4)) e6 fun z H5 F5 g5 d5 => h1 k v ys rfl e4 y z H5 F5 (g3.trans (g4.trans g5)) (d4.grow g5) d5
    | false =>
      rw [if_neg (by decide)] at e ⊢
      exact h2 e H3 F3 g3
theorem dct_len {u : HO} {kvs : List (D × D)} {vs : List V} {ks : List (Key × V)} (h : DctO false u kvs vs) (e : u = .dK ks) : kvs.length = ks.length := by
  obtain ⟨ks', e1, _, e3⟩ := h
  rw [e] at e1; cases e1
  simpa using congrArg List.length e3
theorem dPut_len (kvs : List (D × D)) (k v : D) : (dPut kvs k v).length ≤ kvs.length + 1 := by
  unfold dPut
  split
  · rw [List.length_map]; omega
  · rw [List.length_append]; exact Nat.le_refl _
theorem dc_read {K : PySem.W.Frag} {mg : Str → Option Value} {W : WX} {it : Env → R (List D)} {t : Tg} {fi : Env → R Bool} {fk fv : Env → R D} {vs : List Nat} {σ : L2.St} {H : Hp} {F : Addr → Prop} {ε : Env} {Q : VK} {E : Exn → Prop} (re : RE K σ ε H F) (hsl : ∀ i ∈ slotsT t, i ∈ vs)
    (q : (dcE vs it t fi fk fv ε).wp (fun kvs => ∀ p u ws H' F', Grow H F H' F' → H p = none → H' p = some u → ¬ F' p → DctO false u kvs ws → DenL K H' F' ws (kvs.map (·.2)) → Q (.ref p) H') E) :
    (it ε).wp (fun ds => ∀ J H1 F1, Grow H F H1 F1 → WalkD K J H1 F1 ds → ds.length ≤ sizeLine → ∀ Dd, H1 Dd = none → ∃ W : Nat → Nat → Hp → Prop, (∃ m, W 0 m (L2.upd H1 Dd (.dK []))) ∧ ∀ i m H, W i m H →
      (J.stop i H ∧ Q (.ref Dd) H) ∨ (J.go i H ∧ ∃ Nx : Hp → Prop, (∀ H', Nx H' → ∃ m', m' < m ∧ W (i + 1) m' H') ∧ ∀ x H', J.yld i H x H' → tgR K t x (wipe σ vs) H' fun σ2 H2 => wipe σ2 vs = wipe σ vs ∧ tB_ K mg W0 fi σ2 H2 fun b H3 =>
        if b = true then tE K mg W0 fk σ2 H3 fun y H4 => tE K mg W0 fv σ2 H4 fun z H5 => ∃ kvs k, y = kV k ∧ H5 Dd = some (.dK kvs) ∧ kvs.length < sizeLine ∧ Nx (L2.upd H5 Dd (.dK (L2.putK kvs k z))) else Nx H3)) E := by
  refine R.wp_mono (R.wp_bind q) (fun ds k J H1 F1 g1 ⟨G, Y, wk, wG, wY⟩ hz Dd hD => ?_) (fun e k => k)
  obtain ⟨fin, efin, k⟩ : ∃ fin, ((compL t fi (pairE fk fv) (wipeE ε vs) ds).hard >>= fun ps => foldP ps []) = .ok fin ∧ ∀ p u ws H' F', Grow H F H' F' → H p = none → H' p = some u → ¬ F' p → DctO false u fin ws → DenL K H' F' ws (fin.map (·.2)) → Q (.ref p) H' := by
    cases e : ((compL t fi (pairE fk fv) (wipeE ε vs) ds).hard >>= fun ps => foldP ps []) with
    | ok fin => rw [e] at k; exact ⟨fin, rfl, k⟩
    | exn x =>
      exfalso
      have fno : ∀ (ps : List D) (acc : List (D × D)) (x : Exn), foldP ps acc ≠ .exn x := by
        intro ps
        induction ps with
        | nil => intro acc x h; cases h
        | cons p ps ih =>
          intro acc x h
          unfold foldP at h
          split at h
          · cases h
          · rename_i h2; injection h2 with h2 h3; subst h3
            split at h
            · exact ih _ _ h
            · cases h
          · cases h
      cases e2 : compL t fi (pairE fk fv) (wipeE ε vs) ds with
      | ok ps => rw [e2] at e; exact fno _ _ _ e
      | exn y => rw [e2] at e; cases e
      | stuck => rw [e2] at e; cases e
    | stuck => rw [e] at k; exact k.elim
  obtain ⟨tot, etot, ef⟩ := hard_bind efin
  have reb := (re.grow g1).wipe vs
  have nD : ¬ F1 Dd := fun f => by
    obtain ⟨u, e⟩ := g1.ok Dd f
    rw [hD] at e; cases e
  refine dc_it wk (B := fun x H' Nx => tgR K t x (wipe σ vs) H' fun σ2 H2 => wipe σ2 vs = wipe σ vs ∧ tB_ K mg W0 fi σ2 H2 fun b H3 =>
        if b = true then tE K mg W0 fk σ2 H3 fun y H4 => tE K mg W0 fv σ2 H4 fun z H5 => ∃ kvs k, y = kV k ∧ H5 Dd = some (.dK kvs) ∧ kvs.length < sizeLine ∧ Nx (L2.upd H5 Dd (.dK (L2.putK kvs k z))) else Nx H3) (fun i H2 => ∃ F2 ks acc rest, Grow H1 F1 H2 F2 ∧ H2 Dd = some (.dK ks) ∧ ¬ F2 Dd ∧ DctO false (.dK ks) acc (ks.map (·.2)) ∧ DenL K H2 F2 (ks.map (·.2)) (acc.map (·.2)) ∧ compL t fi (pairE fk fv) (wipeE ε vs) (ds.drop i) = .ok rest ∧ foldP rest acc = .ok fin ∧ acc.length ≤ i)
    ⟨F1, [], [], tot, grow_new g1.ok hD, upd_same, nD, ⟨[], rfl, rfl, rfl⟩, .nil, by rw [List.drop_zero]; exact etot, ef, Nat.le_refl _⟩ (fun i H2 hi ⟨F2, ks, acc, rest, g2, _⟩ => wG H2 F2 g2.pres) (fun i x H2 H3 hi ⟨F2, ks, acc, rest, g2, e1, e2, e0, e3, e4, e5, e6⟩ y => ?_) fun H2 ⟨F2, ks, acc, rest, g2, e1, e2, e0, e3, e4, e5, e6⟩ => ?_
  · obtain ⟨d, ed, g3, dx⟩ := wY i H2 F2 x H3 hi g2.pres g2.ok y
    rw [drop_get ed] at e4
    have e1' := g3.same _ _ e1
    refine dc_turn (ds := ds.drop (i + 1)) (reb.grow (g2.trans g3)) dx hsl e4 (fun kd vd ys er ec yv zv H4 F4 g4 dk dv => ?_) fun ec H4 F4 g4 => ?_
    · subst er
      have e5 : (if atomB kd = true then foldP ys (dPut acc kd vd) else .stuck) = .ok fin := e5
      by_cases c : atomB kd = true
      · rw [if_pos c] at e5
        obtain ⟨kk, ek1, ek2⟩ := den_atom dk c
        subst ek1; subst ek2
        have e1'' := g4.same _ _ e1'
        have nf := g4.notF e1' (g3.notF e1 e2)
        have hl : acc.length = ks.length := dct_len e0 rfl
        have p4 : Pres H4 F4 (L2.upd H4 Dd (.dK (L2.putK ks kk zv))) F4 := pres_updG e1'' (fun _ z => nomatch z) (fun _ _ z => nomatch z) nf
        obtain ⟨ks0, q0, _, q1⟩ := e0
        cases q0
        obtain ⟨i1, i2⟩ := put_gen keyD eqv_keyD kk dv q1 (e3.grow (g3.trans g4))
        refine ⟨ks, kk, rfl, e1'', by omega, F4, L2.putK ks kk zv, dPut acc (keyD kk) vd, ys, grow_upd (g2.trans (g3.trans g4)) hD, upd_same, nf, ⟨_, rfl, rfl, i1⟩, i2.pres p4, ec, e5, ?_⟩
        have := dPut_len acc (keyD kk) vd
        omega
      · rw [if_neg c] at e5; cases e5
    · exact ⟨F4, ks, acc, rest, g2.trans (g3.trans g4), g4.same _ _ e1', g4.notF e1' (g3.notF e1 e2), e0, e3.grow (g3.trans g4), ec, e5, by omega⟩
  · rw [List.drop_length] at e4
    unfold compL at e4
    cases e4
    cases e5
    exact k Dd _ _ H2 F2 (g1.trans g2) (g1.back hD) e1 e2 e0 e3
section
variable {X : Cx} {W : WX}
theorem dx_dc {kx vx tg iter : Expr} {ifs : List Expr} {scope : Scope} {own : List (Str × Nat)} {pos : Pos} {it : Env → R (List D)} {t : Tg} {fi : Env → R Bool} {fk fv : Env → R D} (hN : X.N.Nodup) (hi : Ix X W tg iter it) (ok : BlkOk X.N X.env.scope scope own)
    (hsl : ∀ i ∈ slotsT t, i ∈ own.map (·.2))
    (hg : ∀ (s : Shared) (H : Hp) (C : Addr) (cl : List (Str × Addr)) (fp : List Addr), Gx (X.blk s H scope (compEnvC scope cl C X.env) fp) tg t) (ht : ∀ (s : Shared) (H : Hp) (C : Addr) (cl : List (Str × Addr)) (fp : List Addr), Txs (X.blk s H scope (compEnvC scope cl C X.env) fp) W0 ifs fi)
    (hk : ∀ (s : Shared) (H : Hp) (C : Addr) (cl : List (Str × Addr)) (fp : List Addr), Ex (X.blk s H scope (compEnvC scope cl C X.env) fp) W0 kx fk) (hv : ∀ (s : Shared) (H : Hp) (C : Addr) (cl : List (Str × Addr)) (fp : List Addr), Ex (X.blk s H scope (compEnvC scope cl C X.env) fp) W0 vx fv) (hc : X.calm = true := by rfl) (hs : ∀ x, foldedSetIterable iter X.env x = pure x := by intro _; rfl) :
    Dx X W false (.DictComp kx vx [⟨tg, iter, ifs, 0⟩] scope pos) (dcE (own.map (·.2)) it t fi fk fv) := by
  refine PE.imp (pe_dc (g := tgR X.K t) (tt := tB_ X.K X.mg W0 fi) (tk := tE X.K X.mg W0 fk) (tv := tE X.K X.mg W0 fv) hc hN hi ok hg ht hk hv hs) fun σ H Q ⟨ε, F, re, q⟩ => ⟨ε, F, re, ?_⟩
  exact dc_read (W := W) re hsl q
end
end RB

set_option Elab.async false
set_option linter.all false
set_option maxRecDepth 100000
set_option maxHeartbeats 4000000
set_option pp.maxSteps 900
namespace RB
open PySem PySem.Spec PyProof.Rows L2
/-! ### return of a new list, of an own list -/
def retFS (L : List Nat) (f : Env → R (List D)) : Gam → R Fl := fun Γ => lift (f (view L Γ)) Γ fun ds => .ok (.rl ds)
def retOS (i : Nat) : Gam → R Fl := fun Γ => listAt i Γ >>= fun ds => .ok (.rl ds)
section
variable {X : Cx} {W : WX} {H0 : Hp} {F0 : Addr → Prop} {pos : Pos}
theorem st_retF (L : List Nat) {e : Expr} {f : Env → R (List D)} (he : Fx X W e f) : Sx X W H0 F0 (.Return (some e) pos) (retFS L f) := PS.imp (ps_ret he) fun E σ H ⟨Γ, F, r, fl, e, k⟩ => by
  obtain ⟨re, g0⟩ := r.view L
  refine ⟨_, _, re, ?_⟩
  rcases lift_cases e with ⟨ds, e1, e2⟩ | ⟨x, e1, e2⟩
  · rw [e1]
    cases e2
    intro p vs H' F' g hp hp' nf hd hz
    exact k p vs H' F' (g0.trans g) (r.gr.back hp) hp' nf hd hz
  · rw [e1]; subst e2; exact fun cls y H' F' g ho => k cls y σ H' _ (r.back g) (pres_FM r g) ho
theorem st_retO (i : Nat) {x : Str} {px : Pos} (hN : X.N[i]? = some x := by rfl) (hv : Vis X.env.scope x := by first | exact Or.inl rfl | exact Or.inr (Or.inl rfl) | exact Or.inr (Or.inr rfl))
    (hd : (x == ("__debug__" : Str)) = false := by decide) (hcd : (x == ("__classdict__" : Str)) = false := by decide) : Sx X W H0 F0 (.Return (some (.Name x px)) pos) (retOS i) := PS.imp (ps_ret (pe_var hN hv hd hcd)) fun E σ H ⟨Γ, F, r, fl, e, k⟩ => by
  obtain ⟨ys, e1, e⟩ := ok_bind' e
  cases e
  obtain ⟨a, vs, ow, ha, hn, hden, hz⟩ := r.ownOf (listAt_ok e1)
  exact ⟨.ref a, ow.1, k a vs H F r.gr (r.new i a ow) ha hn hden hz⟩
end
end RB

set_option Elab.async false
set_option linter.all false
set_option maxRecDepth 100000
set_option maxHeartbeats 4000000
set_option pp.maxSteps 900
namespace RB
open PySem PySem.Spec PyProof.Rows L2
/-! ### sorted(d), len(d), list(d) of a dict of texts or numbers -/
def lenDG : D → R D
  | .dict kv => if (dKind kv).1 = false then .ok (.int ((dKind kv).2.length : Nat)) else .stuck
  | _ => .stuck
noncomputable def sortDG : D → R (List D)
  | .dict kv => given_ ((dKind kv).1 = false ∧ (dKind kv).2.length < 64 ∧ ((∃ zs : List Str, (dKind kv).2.map (·.1) = zs.map .str ∧ ∀ z ∈ zs, okS z) ∨ ∃ is : List Int, (dKind kv).2.map (·.1) = is.map .int)) (.ok (sortD ((dKind kv).2.map (·.1))))
  | _ => .stuck
theorem rise_pw : ∀ (ys : List Str) (x : Str), risingS x ys = true → (x :: ys).Pairwise fun a b => a.cps.toList ≤ b.cps.toList
  | [], x, _ => List.pairwise_singleton _ _
  | y :: ys, x, h => by
    unfold risingS at h
    rw [Bool.and_eq_true] at h
    have ih := rise_pw ys y h.2
    have hxy : x.cps.toList ≤ y.cps.toList := by
      have h0 : ltCps y.cps.toList x.cps.toList = false := by
        have := h.1
        simpa using this
      rw [ltCps_eq, decide_eq_false_iff_not] at h0
      exact List.not_lt.mp h0
    refine List.pairwise_cons.mpr ⟨fun z hz => ?_, ih⟩
    rcases List.mem_cons.mp hz with rfl | hz
    · exact hxy
    · exact List.le_trans hxy ((List.pairwise_cons.mp ih).1 z hz)
theorem sorted_pw {ys : List Str} (h : sortedS ys = true) : ys.Pairwise fun a b => a.cps.toList ≤ b.cps.toList := by
  cases ys with
  | nil => exact List.Pairwise.nil
  | cons y ys => exact rise_pw ys y h
theorem sort_strs {ys zs : List Str} (hp : ys.Perm zs) (h : sortedS ys = true) : ys.map PyData.str = sortD (zs.map .str) := by
  have e : (PySem.W.dataLe false fun b : Str => PyData.str b) = fun a b => decide (a.cps.toList ≤ b.cps.toList) := PySem.W.dataLe_str (β := Str) id
  have e2 : sortD (zs.map .str) = (zs.mergeSort (PySem.W.dataLe false fun b : Str => PyData.str b)).map .str := (List.map_mergeSort (f := PyData.str) (r := PySem.W.dataLe false fun b : Str => PyData.str b) (s := PySem.W.dataLe false id) (l := zs) fun a _ b _ => rfl).symm
  rw [e2, e]
  congr 1
  have hs := List.pairwise_mergeSort (le := fun (a b : Str) => decide (a.cps.toList ≤ b.cps.toList)) (fun a b c h1 h2 => by
    rw [decide_eq_true_iff] at *; exact List.le_trans h1 h2) (fun a b => by
    rw [Bool.or_eq_true, decide_eq_true_iff, decide_eq_true_iff]; exact List.le_total _ _) zs
  refine List.Perm.eq_of_pairwise (le := fun (a b : Str) => a.cps.toList ≤ b.cps.toList) (fun a b _ _ h1 h2 => ?_) (sorted_pw h) (hs.imp fun h => of_decide_eq_true h) (hp.trans (List.mergeSort_perm _ _).symm)
  have h3 : a.cps.toList = b.cps.toList := List.le_antisymm h1 h2
  have h4 : a.cps = b.cps := Array.ext' h3
  cases a; cases b
  simp only at h4
  rw [h4]
theorem sort_ints {ys zs : List Int} (hp : ys.Perm zs) (h : ys.Pairwise (· ≤ ·)) : ys.map PyData.int = sortD (zs.map .int) := by
  have e : (PySem.W.dataLe false fun b : Int => PyData.int b) = fun a b => decide (a ≤ b) := PySem.W.dataLe_int (β := Int) id
  have e2 : sortD (zs.map .int) = (zs.mergeSort (PySem.W.dataLe false fun b : Int => PyData.int b)).map .int := (List.map_mergeSort (f := PyData.int) (r := PySem.W.dataLe false fun b : Int => PyData.int b) (s := PySem.W.dataLe false id) (l := zs) fun a _ b _ => rfl).symm
  rw [e2, e]
  congr 1
  have hs := List.pairwise_mergeSort (le := fun (a b : Int) => decide (a ≤ b)) (fun a b c h1 h2 => by
    rw [decide_eq_true_iff] at *; omega) (fun a b => by
    rw [Bool.or_eq_true, decide_eq_true_iff, decide_eq_true_iff]; omega) zs
  exact List.Perm.eq_of_pairwise (le := fun (a b : Int) => a ≤ b) (fun a b _ _ h1 h2 => by omega) h (hs.imp fun h => of_decide_eq_true h) (hp.trans (List.mergeSort_perm _ _).symm)
section
variable {K : PySem.W.Frag} {H : Hp} {F : Addr → Prop}
theorem denL_strs : ∀ {ys : List Str}, (∀ z ∈ ys, okS z) → DenL K H F (ys.map V.str) (ys.map PyData.str)
  | [], _ => .nil
  | y :: ys, h => .cons (.str y (h y List.mem_cons_self)) (denL_strs fun z hz => h z (List.mem_cons_of_mem _ hz))
theorem keys_K {kvs : List (Key × V)} {ds : List D} (h : DenL K H F (kvs.map (·.2)) ds) : (dKind ((kvs.map fun p => keyD p.1).zip ds)).2.map (·.1) = kvs.map (fun p => keyD p.1) ∧ (dKind ((kvs.map fun p => keyD p.1).zip ds)).2.length = kvs.length := by
  have ek : (kvs.map fun p => keyD p.1) = (kvs.map (·.1)).map keyD := by rw [List.map_map]; rfl
  have dk : dKind ((kvs.map fun p => keyD p.1).zip ds) = (false, (kvs.map fun p => keyD p.1).zip ds) := by rw [ek]; exact dKind_K
  rw [dk]
  have hl : kvs.length = ds.length := by have := h.length; simpa using this
  constructor
  · exact List.map_fst_zip (by rw [List.length_map]; omega)
  · rw [List.length_zip, List.length_map]; omega
end
def rSrtD : List V → Hp → VK → Prop := fun xs H Q => (∃ a kvs ks, xs = [V.ref a] ∧ Rd H a (.dK kvs) ∧ kvs.map (fun x => x.fst) = List.map Sum.inr ks ∧ ks.length < 64 ∧ ∀ (ys : List Str) (p : Addr), ys.Perm ks → sortedS ys = true → H p = none → Q (V.ref p) (L2.upd H p (.lst (ys.map V.str)))) ∨
  ∃ a kvs ks, xs = [V.ref a] ∧ Rd H a (.dK kvs) ∧ kvs.map (fun x => x.fst) = List.map Sum.inl ks ∧ ks.length < 64 ∧ ∀ (ys : List Int) (p : Addr), ys.Perm ks → ys.Pairwise (fun x1 x2 => x1 ≤ x2) → H p = none → Q (V.ref p) (L2.upd H p (.lst (ys.map V.int)))
theorem cr_sortedD {X : Cx} (hc : X.calm = true) : CallR X (.builtin "sorted") rSrtD := (call_sortedD hc).or (call_sortedDI hc)
theorem g_sortedD {K : PySem.W.Frag} : GCF K rSrtD (on1L sortDG) := g_on1L fun v d H F Q ok hd k => by
  cases hd with
  | @dK a kvs ds h1 h2 =>
    obtain ⟨⟨c1, c2, c3⟩, k⟩ := given_wp (x := R.ok _) k
    obtain ⟨q1, q2⟩ := keys_K h2
    rw [q1] at c3 k
    rw [q2] at c2
    rcases c3 with ⟨zs, e, hz⟩ | ⟨is, e⟩
    · have ek : kvs.map (fun x => x.fst) = zs.map Sum.inr := by
        have : ∀ (ks : List Key) (zs : List Str), ks.map keyD = zs.map PyData.str → ks = zs.map Sum.inr := by
          intro ks
          induction ks with
          | nil => intro zs h; cases zs with
            | nil => rfl
            | cons _ _ => cases h
          | cons q ks ih => intro zs h; cases zs with
            | nil => cases h
            | cons z zs =>
              rw [List.map_cons, List.map_cons] at h
              have h1 := (List.cons.inj h).1
              cases q with
              | inl i => cases h1
              | inr x => cases h1; rw [ih zs (List.cons.inj h).2]; rfl
        refine this _ _ ?_
        rw [List.map_map]; exact e
      have hl : zs.length = kvs.length := by simpa using (congrArg List.length ek).symm
      refine .inl ⟨a, kvs, zs, rfl, h1.rd, ek, by omega, fun ys p hp hs hn => ?_⟩
      have hok : ∀ z ∈ ys, okS z := fun z hz' => hz z (hp.mem_iff.mp hz')
      rw [e] at k
      have k' : FinL K H F Q (sortD (zs.map .str)) := k
      rw [← sort_strs hp hs] at k'
      exact k' p _ _ F (grow_new (o := .lst (ys.map V.str)) ok hn) hn upd_same (fun f => by obtain ⟨u, e⟩ := ok p f; rw [hn] at e; cases e) (denL_strs hok) (by
        rw [List.length_map, hp.length_eq, sizeLine_eq]; omega)
    · have ek : kvs.map (fun x => x.fst) = is.map Sum.inl := by
        have : ∀ (ks : List Key) (zs : List Int), ks.map keyD = zs.map PyData.int → ks = zs.map Sum.inl := by
          intro ks
          induction ks with
          | nil => intro zs h; cases zs with
            | nil => rfl
            | cons _ _ => cases h
          | cons q ks ih => intro zs h; cases zs with
            | nil => cases h
            | cons z zs =>
              rw [List.map_cons, List.map_cons] at h
              have h1 := (List.cons.inj h).1
              cases q with
              | inr i => cases h1
              | inl x => cases h1; rw [ih zs (List.cons.inj h).2]; rfl
        refine this _ _ ?_
        rw [List.map_map]; exact e
      have hl : is.length = kvs.length := by simpa using (congrArg List.length ek).symm
      refine .inr ⟨a, kvs, is, rfl, h1.rd, ek, by omega, fun ys p hp hs hn => ?_⟩
      rw [e] at k
      have k' : FinL K H F Q (sortD (is.map .int)) := k
      rw [← sort_ints hp hs] at k'
      exact k' p _ _ F (grow_new (o := .lst (ys.map V.int)) ok hn) hn upd_same (fun f => by obtain ⟨u, e⟩ := ok p f; rw [hn] at e; cases e) (DenL.of_ints ys) (by
        rw [List.length_map, hp.length_eq, sizeLine_eq]; omega)
  | dT h1 h2 =>
    obtain ⟨⟨c1, _⟩, _⟩ := given_wp (x := R.ok _) k
    cases c1
  | _ => exact k.elim
theorem cr_lenD {X : Cx} : CallR X (.builtin "len") fun xs H Q => ∃ a kvs, xs = [V.ref a] ∧ Rd H a (.dK kvs) ∧ Q (.int (kvs.length : Nat)) H := by
  intro pins s σ H xs us Q I r ⟨a, kvs, ex, ha, q⟩
  subst ex
  obtain ⟨u, eu, ru⟩ := L2.vals1 r
  subst eu
  cases ru
  exact d_len I ha fun t s' I' => ⟨.int _, H, I', ⟨t, rfl⟩, q⟩
theorem g_lenD {K : PySem.W.Frag} : GC K (fun xs H Q => ∃ a kvs, xs = [V.ref a] ∧ Rd H a (.dK kvs) ∧ Q (.int (kvs.length : Nat)) H) (on1 lenDG) := g_on1 fun v d H F Q ok hd k => by
  cases hd with
  | @dK a kvs ds h1 h2 =>
    obtain ⟨q1, q2⟩ := keys_K h2
    have ek : (kvs.map fun p => keyD p.1) = (kvs.map (·.1)).map keyD := by rw [List.map_map]; rfl
    have dk : (dKind ((kvs.map fun p => keyD p.1).zip ds)).1 = false := by rw [ek, dKind_K]
    have k : (if (dKind ((kvs.map fun p => keyD p.1).zip ds)).1 = false then R.ok (PyData.int ((dKind ((kvs.map fun p => keyD p.1).zip ds)).2.length : Nat)) else .stuck).wp _ _ := k
    rw [if_pos dk, q2] at k
    exact ⟨a, kvs, rfl, h1.rd, fin_same k ok (.int _)⟩
  | dT h1 h2 => exact k.elim
  | _ => exact k.elim
end RB

set_option Elab.async false
set_option linter.all false
set_option maxRecDepth 100000
set_option maxHeartbeats 4000000
set_option pp.maxSteps 900
namespace RB
open PySem PySem.Spec PyProof.Rows L2
/-! ### for over what is no own list: the own lists stay own -/
def forKS (L : List Nat) (it : Env → R (List D)) (t : Tg) (body : Gam → R Fl) : Gam → R Fl := fun Γ => lift (it (view L Γ)) Γ fun ds => forL t body ds Γ
def forFS (L : List Nat) (it : Env → R (List D)) (t : Tg) (body : Gam → R Fl) : Gam → R Fl := fun Γ => lift (it (view L Γ)) Γ fun ds => if L = [] ∨ noLsts ds = true then forL t body ds Γ else .stuck
def tIK (K : PySem.W.Frag) (mg : Str → Option Value) (W : WX) (f : Env → R (List D)) : TI := fun σ H Q => ∃ ε F, RE K σ ε H F ∧ (f ε).wp (fun ds => ∀ J H' F', Grow H F H' F' → (∀ F2, WalkD K J H' F2 ds) → ds.length ≤ sizeLine → Q J H') fun e => ∀ cls x H' F', Grow H F H' F' → ExnOf mg e cls x H' → W cls x σ H'
abbrev Ik (X : Cx) (W : WX) (tg e : Expr) (f : Env → R (List D)) : Prop := PI X tg e (tIK X.K X.mg W f)
section
variable {X : Cx} {W : WX} {tg a b : Expr} {fa fb : Env → R D} {p pos : Pos}
theorem ik_range1 (hm : X.mg "range" = none) (ha : Exs X W [a] [fa]) (hg : Gl X "range" := by rfl) (hs : starEach [a] X.env = [(false, eval a X.env)] := by rfl) : Ik X W tg (.Call (.Name "range" p) [a] [] pos) (rangeE [fa]) := by
  refine PI.imp (pi_range1 hg hm ha hs) fun σ H Q ⟨ε, F, re, q⟩ => ⟨ε, F, re, R.wp_mono (evL_len (R.wp_bind q)) (fun ds ⟨hl, k⟩ vs H1 F1 g1 d1 => ?_) (fun e k => k)⟩
  obtain ⟨xs, e, k⟩ := hard_ok' k
  match ds, hl, d1, e with
  | [d], _, d1, e =>
    obtain ⟨v, ev, d2⟩ := denL1 d1
    obtain ⟨j, e1, h1, h2, e2⟩ := range_1 e
    subst ev e1 e2
    cases d2
    refine ⟨j, rfl, h1, by omega, k _ H1 F1 g1 (fun F2 => walkD_fn (rng_len _ _).symm walk_range fun i hi => ⟨_, rng_get hi, fun _ _ _ => .int _⟩) ?_⟩
    rw [rng_len]; exact le_line h2
theorem ik_range2 (hm : X.mg "range" = none) (ha : Exs X W [a, b] [fa, fb]) (hg : Gl X "range" := by rfl) (hs : starEach [a, b] X.env = [(false, eval a X.env), (false, eval b X.env)] := by rfl) (hs2 : starEach [b] X.env = [(false, eval b X.env)] := by rfl) : Ik X W tg (.Call (.Name "range" p) [a, b] [] pos) (rangeE [fa, fb]) := by
  refine PI.imp (pi_range2 hg hm ha hs hs2) fun σ H Q ⟨ε, F, re, q⟩ => ⟨ε, F, re, R.wp_mono (evL_len (R.wp_bind q)) (fun ds ⟨hl, k⟩ vs H1 F1 g1 d1 => ?_) (fun e k => k)⟩
  obtain ⟨xs, e, k⟩ := hard_ok' k
  match ds, hl, d1, e with
  | [d, d'], _, d1, e =>
    obtain ⟨v, w, ev, d2, d3⟩ := denL2 d1
    obtain ⟨i, j, e1, e2, h, e3⟩ := range_2 e
    subst ev e1 e2 e3
    cases d2
    cases d3
    refine ⟨i, j, rfl, by omega, k _ H1 F1 g1 (fun F2 => walkD_fn (rng_len _ _).symm walk_range fun i hi => ⟨_, rng_get hi, fun _ _ _ => .int _⟩) ?_⟩
    rw [rng_len]; exact le_line h.2.2.2
end
section
variable {X : Cx} {W : WX} {H0 : Hp} {F0 : Addr → Prop} {pos : Pos}
theorem st_forK (L : List Nat) {tg iter : Expr} {body : List Stmt} {it : Env → R (List D)} {t : Tg} {gb : Gam → R Fl} (hp : PassesOwn (model X.prog X.w) X.A X.env X.xe) (hi : Ik X W tg iter it) (hg : Gx X tg t) (hb : Ssx X W H0 F0 body gb) (hc : X.calm = true := by rfl)
    (hs : ∀ x, foldedSetIterable iter X.env x = pure x := by intro _; rfl) : Sx X W H0 F0 (.For tg iter body [] pos) (forKS L it t gb) := by
  refine PS.imp (ps_for hp hc hi hg hb hs) fun E σ H ⟨Γ, F, r, fl, e, k⟩ => ?_
  obtain ⟨re, g0⟩ := r.view L
  refine ⟨_, _, re, ?_⟩
  rcases lift_cases e with ⟨ds, e1, e2⟩ | ⟨x, e1, e2⟩
  · rw [e1]
    intro J H1 FX g1 wa hz
    have r1 := r.back g1
    have p1 := pres_FM r g1
    generalize hF1 : FM FX σ Γ L = F1 at r1 p1
    obtain ⟨G, Y, wk, wG, wY⟩ := wa F1
    refine for_it wk (fun i σ2 H2 => ∃ Γ2 F2, Rel X.K H0 F0 σ2 Γ2 H2 F2 ∧ Pres H1 F1 H2 F2 ∧ forL t gb (ds.drop i) Γ2 = .ok fl) ⟨_, F1, r1, .refl, by rw [List.drop_zero]; exact e2⟩ (fun i σ2 H2 hi ⟨Γ2, F2, _, p2, _⟩ => wG H2 F2 p2) (fun i x σ2 H2 H3 hi ⟨Γ2, F2, r2, p2, e3⟩ y => ?_) fun σ2 H2 ⟨Γ2, F2, r2, p2, e3⟩ => ?_
    · obtain ⟨d, ed, g3, dx⟩ := wY i H2 F2 x H3 hi p2 r2.gr.ok y
      rw [drop_get ed] at e3
      obtain ⟨as, f1, e4, e5, e6⟩ := forL_step e3
      have r3 := r2.grow g3
      refine tg_run t x d as σ2 _ dx e4 fun us p => ⟨_, F2, r3.setAll p, f1, e5, ?_⟩
      have p3 := p2.trans g3.pres
      cases f1 with
      | nx Γ' => exact fun σ' H' F' r' q => ⟨Γ', F', r', p3.trans q, e6⟩
      | ct Γ' => exact fun σ' H' F' r' q => ⟨Γ', F', r', p3.trans q, e6⟩
      | bk Γ' => cases e6; exact fun σ' H' F' r' q => k σ' H' F' r' (p1.trans (p3.trans q))
      | rt d => cases e6; exact k
      | rl d => cases e6; exact k
      | xn e Γ' => cases e6; exact fun c x σ' H' F' r' q => k c x σ' H' F' r' (p1.trans (p3.trans q))
    · rw [List.drop_length] at e3
      cases e3
      exact k σ2 H2 F2 r2 (p1.trans p2)
  · rw [e1]; subst e2; exact fun cls y H' F' g ho => k cls y σ H' _ (r.back g) (pres_FM r g) ho
theorem st_forF (L : List Nat) {tg iter : Expr} {body : List Stmt} {it : Env → R (List D)} {t : Tg} {gb : Gam → R Fl} (hp : PassesOwn (model X.prog X.w) X.A X.env X.xe) (hi : Fx X W iter it) (hg : Gx X tg t) (hb : Ssx X W H0 F0 body gb) (hc : X.calm = true := by rfl)
    (hs : ∀ x, foldedSetIterable iter X.env x = pure x := by intro _; rfl) : Sx X W H0 F0 (.For tg iter body [] pos) (forFS L it t gb) := by
  refine PS.imp (ps_for hp hc (pi_list hi) hg hb hs) fun E σ H ⟨Γ, F, r, fl, e, k⟩ => ?_
  obtain ⟨re, g0⟩ := r.view L
  refine ⟨_, _, re, ?_⟩
  rcases lift_cases e with ⟨ds, e1, e2⟩ | ⟨x, e1, e2⟩
  · rw [e1]
    intro p vs H1 F' g hp1 hp' nf hd hz0
    refine ⟨p, rfl, ⟨vs, .of hp'⟩, ?_⟩
    by_cases c : L = [] ∨ noLsts ds = true
    · rw [if_pos c] at e2
      have g1 := grow_freeze g hp1 hp'
      have r1 := r.back g1
      have p1 := pres_FM r g1
      have no : ¬ ∃ i, i ∈ L ∧ OwnAt σ Γ i p := fun ⟨i, _, o⟩ => by
        obtain ⟨_, _, _, _, _, z, _⟩ := r.own o
        rw [hp1] at z; cases z
      have fp : FM (frz1 F' p) σ Γ L p := ⟨.inr rfl, no⟩
      have hd1 : DenL X.K H1 (FM (frz1 F' p) σ Γ L) vs ds := by
        rcases c with c | c
        · subst c
          exact hd.pres ⟨fun _ _ h => h, fun _ _ _ h => h, fun a u f h => ⟨⟨.inl f, fun ⟨i, hi, _⟩ => nomatch hi⟩, h⟩⟩
        · exact hd.free c
      generalize hF1 : FM (frz1 F' p) σ Γ L = F1 at r1 p1 fp hd1
      have h1 : LAt X.K H1 F1 p vs := .inl (.inl ⟨hp', fp⟩)
      have hz : ds.length ≤ sizeLine := by rw [← hd.length]; exact hz0
      obtain ⟨G, Y, wk, wG, wY⟩ : WalkD X.K (Itl X.K p) H1 F1 ds := walkD_at walk_list (fun H2 F2 q => (h1.pres q).sql) hd1
      refine for_it wk (fun i σ2 H2 => ∃ Γ2 F2, Rel X.K H0 F0 σ2 Γ2 H2 F2 ∧ Pres H1 F1 H2 F2 ∧ forL t gb (ds.drop i) Γ2 = .ok fl) ⟨_, F1, r1, .refl, by rw [List.drop_zero]; exact e2⟩ (fun i σ2 H2 hi ⟨Γ2, F2, _, p2, _⟩ => wG H2 F2 p2) (fun i x σ2 H2 H3 hi ⟨Γ2, F2, r2, p2, e3⟩ y => ?_) fun σ2 H2 ⟨Γ2, F2, r2, p2, e3⟩ => ?_
      · obtain ⟨d, ed, g3, dx⟩ := wY i H2 F2 x H3 hi p2 r2.gr.ok y
        rw [drop_get ed] at e3
        obtain ⟨as, f1, e4, e5, e6⟩ := forL_step e3
        have r3 := r2.grow g3
        refine tg_run t x d as σ2 _ dx e4 fun us p => ⟨_, F2, r3.setAll p, f1, e5, ?_⟩
        have p3 := p2.trans g3.pres
        cases f1 with
        | nx Γ' => exact fun σ' H' F' r' q => ⟨Γ', F', r', p3.trans q, e6⟩
        | ct Γ' => exact fun σ' H' F' r' q => ⟨Γ', F', r', p3.trans q, e6⟩
        | bk Γ' => cases e6; exact fun σ' H' F' r' q => k σ' H' F' r' (p1.trans (p3.trans q))
        | rt d => cases e6; exact k
        | rl d => cases e6; exact k
        | xn e Γ' => cases e6; exact fun c x σ' H' F' r' q => k c x σ' H' F' r' (p1.trans (p3.trans q))
      · rw [List.drop_length] at e3
        cases e3
        exact k σ2 H2 F2 r2 (p1.trans p2)
    · rw [if_neg c] at e2; cases e2
  · rw [e1]; subst e2; exact fun cls y H' F' g ho => k cls y σ H' _ (r.back g) (pres_FM r g) ho
end
end RB

set_option Elab.async false
set_option linter.all false
set_option maxRecDepth 100000
set_option maxHeartbeats 4000000
noncomputable section
namespace Lib
open PySem PySem.Spec PyProof.Rows L2 RB
def g_is_int : Gam → R Fl := retS [] (andE (bE (isiE isInt (var 0))) (notE (bE (isiE isBool (var 0)))))
def S_is_int : List D → R D := runS 1 g_is_int
def g_is_between : Gam → R Fl := retS [] (andE (usrE S_is_int [var 0]) (chainE leD leD (var 1) (var 0) (var 2)))
def S_is_between : List D → R D := runS 3 g_is_between
def g_is_row : Gam → R Fl := retS [] (bE (isiE (fun d => isLst d || isTup d) (var 0)))
def S_is_row : List D → R D := runS 1 g_is_row
def g_is_row_of : Gam → R Fl := retS [] (andE (usrE S_is_row [var 0]) (chainE leD leD (var 1) (callE lenG [var 0]) (var 2)))
def S_is_row_of : List D → R D := runS 3 g_is_row_of
def g_want_int : Gam → R Fl := ifS [] (notT (testE (usrE S_is_between [var 0, var 1, var 2])))
  ((fun _ => .stuck))
  (nilS)
def S_want_int : List D → R D := runS 4 g_want_int
def g__law_cell : Gam → R Fl := seqS (ifS [] (testE (op2E ltD (var 1) (callE lenG [var 0])))
  (retS [] (callE (on1 intG) [op2E ixD (var 0) (var 1)]))
  (nilS))
  (retS [] (con (.int 0)))
def S__law_cell : List D → R D := runS 2 g__law_cell
def b__law_numbers_1 : Gam → R Fl := ifS [] (testE (op2E geD (var 3) (op2E powD (con (.int 10)) (con (.int 18)))))
  (seqS (appS [] 4 (op2E modD (callE (on1 intG) [var 5]) (op2E powD (con (.int 10)) (con (.int 9)))))
  (setS [] 5 (op2E divD (var 5) (op2E powD (con (.int 10)) (con (.int 9))))))
  (seqS (setS [] 7 (op2E modD (callE (on1 intG) [op2E addD (op2E addD (op2E mulB (var 3) (con (.int 48271))) (op2E mulB (op2E addD (var 6) (con (.int 1))) (con (.int 69621)))) (var 1)]) (con (.int 2147483647))))
  (appS [] 4 (op2E modD (op2E modD (callE (on1 intG) [op2E addD (op2E mulB (var 7) (con (.int 16807))) (op2E mulB (op2E addD (var 6) (con (.int 3))) (con (.int 40692)))]) (con (.int 2147483399))) (op2E powD (con (.int 10)) (con (.int 9))))))
def g__law_numbers : Gam → R Fl := seqS (setS [] 3 (usrE S__law_cell [var 0, var 1]))
  (seqS (ownS [] 4 (evL []))
  (seqS (setS [] 5 (var 3))
  (seqS (forS [] (rangeE [var 2]) (.nm 6)
  (b__law_numbers_1))
  (retS [4] (var 4)))))
def S__law_numbers : List D → R D := runS 8 g__law_numbers
def b__law_same_1 (self : List D → R D) : Gam → R Fl := ifS [] (notT (testE (usrE self [op2E ixD (var 0) (var 2), op2E ixD (var 1) (var 2)])))
  (retS [] (con (.bool false)))
  (nilS)
def g__law_same (self : List D → R D) : Gam → R Fl := seqS (ifS [] (orT (testE (bE (isiE isTup (var 1)))) (testE (bE (isiE isTup (var 0)))))
  (seqS (ifS [] (orT (notT (testE (bE (isiE isTup (var 0))))) (orT (notT (testE (bE (isiE isTup (var 1))))) (testE (op2E neD (callE lenG [var 0]) (callE lenG [var 1])))))
  (retS [] (con (.bool false)))
  (nilS))
  (seqS (forS [] (rangeE [callE lenG [var 1]]) (.nm 2)
  (b__law_same_1 self))
  (retS [] (con (.bool true)))))
  (nilS))
  (seqS (ifS [] (orT (isNE (var 0)) (isNE (var 1)))
  (retS [] (andE (bE (isNE (var 0))) (bE (isNE (var 1)))))
  (nilS))
  (seqS (ifS [] (orT (testE (op2E neD (bE (isiE isBool (var 0))) (bE (isiE isBool (var 1))))) (testE (op2E neD (bE (isiE isStr (var 0))) (bE (isiE isStr (var 1))))))
  (retS [] (con (.bool false)))
  (nilS))
  (retS [] (andE (bE (isiE (fun d => isInt d || isStr d) (var 0))) (andE (bE (isiE (fun d => isInt d || isStr d) (var 1))) (op2E eqD (var 0) (var 1)))))))
def S__law_same : Nat → List D → R D
  | 0 => runS 3 fun _ => .stuck
  | n + 1 => runS 3 (g__law_same (S__law_same n))
def b__law_power_1 : Gam → R Fl := setS [] 2 (op2E mulB (var 2) (var 0))
def g__law_power : Gam → R Fl := seqS (setS [] 2 (con (.int 1)))
  (seqS (forS [] (rangeE [var 1]) (.nm 3)
  (b__law_power_1))
  (retS [] (var 2)))
def S__law_power : List D → R D := runS 4 g__law_power
def g_has_only : Gam → R Fl := retS [] (callE (on1 allG) [dataF (compE [2] (seqE (var 0)) (.nm 2) (fun _ => .ok true) (op2E inD (var 2) (var 1)))])
def S_has_only : List D → R D := runS 3 g_has_only
def g_is_letters : Gam → R Fl := retS [] (andE (bE (isiE isStr (var 0))) (usrE S_has_only [var 0, con (.str "abcdefghijklmnopqrstuvwxyz")]))
def S_is_letters : List D → R D := runS 1 g_is_letters
def g_is_letters_of : Gam → R Fl := retS [] (andE (usrE S_is_letters [var 0]) (chainE leD leD (var 1) (callE lenG [var 0]) (var 2)))
def S_is_letters_of : List D → R D := runS 3 g_is_letters_of
def b__law_text_1 : Gam → R Fl := seqS (setS [] 3 (op2E addD (var 3) (op2E ixD (con (.str "abcdef")) (op2E modD (callE (on1 intG) [var 4]) (var 2)))))
  (setS [] 4 (callE (on1 intG) [op2E divD (var 4) (var 2)]))
def g__law_text : Gam → R Fl := seqS (setS [] 3 (con (.str "")))
  (seqS (setS [] 4 (callE (on1 intG) [op2E divD (var 0) (con (.int 97))]))
  (seqS (forS [] (rangeE [op2E modD (callE (on1 intG) [var 0]) (op2E addD (var 1) (con (.int 1)))]) (.nm 5)
  (b__law_text_1))
  (retS [] (var 3))))
def S__law_text : List D → R D := runS 6 g__law_text
end Lib
end

set_option Elab.async false
set_option linter.all false
set_option maxRecDepth 100000
set_option maxHeartbeats 4000000
namespace RB
open PySem PySem.Spec PyProof.Rows L2
/-! ### the equations by which one computes -/
def seqK (r : R Fl) (h : Gam → R Fl) : R Fl := r >>= fun fl => match fl with
  | .nx Γ' => h Γ'
  | fl => .ok fl
theorem ev_seq (g h : Gam → R Fl) (Γ : Gam) : seqS g h Γ = seqK (g Γ) h := Eq.trans rfl rfl
theorem ev_seq1 (h : Gam → R Fl) (Γ : Gam) : seqK (.ok (.nx Γ)) h = h Γ := Eq.trans rfl rfl
theorem ev_seq2 (h : Gam → R Fl) (d : D) : seqK (.ok (.rt d)) h = .ok (.rt d) := Eq.trans rfl rfl
theorem ev_seq3 (h : Gam → R Fl) (Γ : Gam) : seqK (.ok (.bk Γ)) h = .ok (.bk Γ) := Eq.trans rfl rfl
theorem ev_seq4 (h : Gam → R Fl) (Γ : Gam) : seqK (.ok (.ct Γ)) h = .ok (.ct Γ) := Eq.trans rfl rfl
theorem ev_seq6 (h : Gam → R Fl) (d : List D) : seqK (.ok (.rl d)) h = .ok (.rl d) := Eq.trans rfl rfl
theorem ev_seq5 (h : Gam → R Fl) (e : Exn) (Γ : Gam) : seqK (.ok (.xn e Γ)) h = .ok (.xn e Γ) := Eq.trans rfl rfl
def retK (r : R D) (Γ : Gam) : R Fl := lift r Γ fun d => .ok (.rt d)
theorem ev_ret (L : List Nat) (f : Env → R D) (Γ : Gam) : retS L f Γ = retK (f (view L Γ)) Γ := Eq.trans rfl rfl
theorem ev_ret1 (d : D) (Γ : Gam) : retK (.ok d) Γ = .ok (.rt d) := Eq.trans rfl rfl
theorem ev_ret2 (e : Exn) (Γ : Gam) : retK (.exn e) Γ = .ok (.xn e Γ) := Eq.trans rfl rfl
theorem ev_retN (Γ : Gam) : retN Γ = .ok (.rt .none) := Eq.trans rfl rfl
theorem ev_nil (Γ : Gam) : nilS Γ = .ok (.nx Γ) := Eq.trans rfl rfl
theorem ev_bk (Γ : Gam) : bkS Γ = .ok (.bk Γ) := Eq.trans rfl rfl
theorem ev_ct (Γ : Gam) : ctS Γ = .ok (.ct Γ) := Eq.trans rfl rfl
def ifK (r : R Bool) (g h : Gam → R Fl) (Γ : Gam) : R Fl := lift r Γ fun b => if b = true then g Γ else h Γ
theorem ev_if (L : List Nat) (t : Env → R Bool) (g h : Gam → R Fl) (Γ : Gam) : ifS L t g h Γ = ifK (t (view L Γ)) g h Γ := Eq.trans rfl rfl
theorem ev_ifT (g h : Gam → R Fl) (Γ : Gam) : ifK (.ok true) g h Γ = g Γ := Eq.trans rfl rfl
theorem ev_ifF (g h : Gam → R Fl) (Γ : Gam) : ifK (.ok false) g h Γ = h Γ := Eq.trans rfl rfl
theorem ev_ifX (g h : Gam → R Fl) (e : Exn) (Γ : Gam) : ifK (.exn e) g h Γ = .ok (.xn e Γ) := Eq.trans rfl rfl
def setK (L : List Nat) (i : Nat) (r : R D) (Γ : Gam) : R Fl := lift r Γ fun d => .ok (.nx ((keepG L d Γ).set i (.da d)))
theorem ev_set (L : List Nat) (i : Nat) (f : Env → R D) (Γ : Gam) : setS L i f Γ = setK L i (f (view L Γ)) Γ := Eq.trans rfl rfl
theorem ev_set0 (i : Nat) (d : D) (Γ : Gam) : setK [] i (.ok d) Γ = .ok (.nx (Γ.set i (.da d))) := by
  show R.ok (Fl.nx ((keepG [] d Γ).set i (.da d))) = _
  unfold keepG
  rw [if_pos (.inl rfl)]
theorem ev_set1 (L : List Nat) (i : Nat) (d : D) (Γ : Gam) (h : noLst d = true) : setK L i (.ok d) Γ = .ok (.nx (Γ.set i (.da d))) := by
  show R.ok (Fl.nx ((keepG L d Γ).set i (.da d))) = _
  unfold keepG
  rw [if_pos (.inr h)]
theorem ev_set2 (L : List Nat) (i : Nat) (d : D) (Γ : Gam) (h : noLst d = false) : setK L i (.ok d) Γ = .ok (.nx ((if L = [] then Γ else freeze L Γ).set i (.da d))) := by
  show R.ok (Fl.nx ((keepG L d Γ).set i (.da d))) = _
  unfold keepG
  rw [h]
  by_cases q : L = []
  · rw [if_pos (.inl q), if_pos q]
  · rw [if_neg (by simp [q]), if_neg q]
theorem ev_set3 (L : List Nat) (i : Nat) (e : Exn) (Γ : Gam) : setK L i (.exn e) Γ = .ok (.xn e Γ) := Eq.trans rfl rfl
def dropK (r : R D) (Γ : Gam) : R Fl := lift r Γ fun _ => .ok (.nx Γ)
theorem ev_drop (L : List Nat) (f : Env → R D) (Γ : Gam) : dropS L f Γ = dropK (f (view L Γ)) Γ := Eq.trans rfl rfl
theorem ev_drop1 (d : D) (Γ : Gam) : dropK (.ok d) Γ = .ok (.nx Γ) := Eq.trans rfl rfl
theorem ev_drop2 (e : Exn) (Γ : Gam) : dropK (.exn e) Γ = .ok (.xn e Γ) := Eq.trans rfl rfl
def ownK (L : List Nat) (i : Nat) (r : R (List D)) (Γ : Gam) : R Fl := lift r Γ fun ds => .ok (.nx ((keepGs L ds Γ).set i (.ol ds)))
theorem ev_own (L : List Nat) (i : Nat) (f : Env → R (List D)) (Γ : Gam) : ownS L i f Γ = ownK L i (f (view L Γ)) Γ := Eq.trans rfl rfl
theorem ev_own0 (i : Nat) (d : List D) (Γ : Gam) : ownK [] i (.ok d) Γ = .ok (.nx (Γ.set i (.ol d))) := by
  show R.ok (Fl.nx ((keepGs [] d Γ).set i (.ol d))) = _
  unfold keepGs
  rw [if_pos (.inl rfl)]
theorem ev_own1 (L : List Nat) (i : Nat) (d : List D) (Γ : Gam) (h : noLsts d = true) : ownK L i (.ok d) Γ = .ok (.nx (Γ.set i (.ol d))) := by
  show R.ok (Fl.nx ((keepGs L d Γ).set i (.ol d))) = _
  unfold keepGs
  rw [if_pos (.inr h)]
def unpK (L : List Nat) (t : Tg) (r : R D) (Γ : Gam) : R Fl := lift r Γ fun d => (flatT t d).hard >>= fun as => .ok (.nx (setG (keepG L d Γ) as))
theorem ev_unp (L : List Nat) (t : Tg) (f : Env → R D) (Γ : Gam) : unpS L t f Γ = unpK L t (f (view L Γ)) Γ := Eq.trans rfl rfl
def unpK2 (L : List Nat) (d : D) (r : R (List (Nat × D))) (Γ : Gam) : R Fl := r.hard >>= fun as => .ok (.nx (setG (keepG L d Γ) as))
theorem ev_unp1 (L : List Nat) (t : Tg) (d : D) (Γ : Gam) : unpK L t (.ok d) Γ = unpK2 L d (flatT t d) Γ := Eq.trans rfl rfl
theorem ev_unp2 (d : D) (as : List (Nat × D)) (Γ : Gam) : unpK2 [] d (.ok as) Γ = .ok (.nx (setG Γ as)) := by
  show R.ok (Fl.nx (setG (keepG [] d Γ) as)) = _
  unfold keepG
  rw [if_pos (.inl rfl)]
theorem ev_unp3 (L : List Nat) (d : D) (as : List (Nat × D)) (Γ : Gam) (h : noLst d = true) : unpK2 L d (.ok as) Γ = .ok (.nx (setG Γ as)) := by
  show R.ok (Fl.nx (setG (keepG L d Γ) as)) = _
  unfold keepG
  rw [if_pos (.inr h)]
def appK (L : List Nat) (i : Nat) (s : Option Sl) (r : R D) (Γ : Gam) : R Fl := match s with
  | some (.ol ys) => lift r Γ fun d => if ys.length < 16777216 ∧ (i ∈ L → noLst d = true) then .ok (.nx ((keepG L d Γ).set i (.ol (ys ++ [d])))) else .stuck
  | _ => .stuck
theorem ev_app (L : List Nat) (i : Nat) (f : Env → R D) (Γ : Gam) : appS L i f Γ = appK L i Γ[i]? (f (view L Γ)) Γ := by
  unfold appS appK listAt
  cases Γ[i]? with
  | none => rfl
  | some s => cases s <;> rfl
theorem ev_app0 (i : Nat) (ys : List D) (d : D) (Γ : Gam) (h : ys.length < 16777216) : appK [] i (some (.ol ys)) (.ok d) Γ = .ok (.nx (Γ.set i (.ol (ys ++ [d])))) := by
  show (if ys.length < 16777216 ∧ (i ∈ [] → noLst d = true) then R.ok (Fl.nx ((keepG [] d Γ).set i (.ol (ys ++ [d])))) else .stuck) = _
  rw [if_pos ⟨h, fun z => nomatch z⟩]
  unfold keepG
  rw [if_pos (.inl rfl)]
theorem ev_app1 (L : List Nat) (i : Nat) (ys : List D) (d : D) (Γ : Gam) (h : ys.length < 16777216) (h2 : noLst d = true) : appK L i (some (.ol ys)) (.ok d) Γ = .ok (.nx (Γ.set i (.ol (ys ++ [d])))) := by
  show (if ys.length < 16777216 ∧ (i ∈ L → noLst d = true) then R.ok (Fl.nx ((keepG L d Γ).set i (.ol (ys ++ [d])))) else .stuck) = _
  rw [if_pos ⟨h, fun _ => h2⟩]
  unfold keepG
  rw [if_pos (.inr h2)]
theorem ev_app2 (L : List Nat) (i : Nat) (ys : List D) (d : D) (Γ : Gam) (h : ys.length < 16777216) (h2 : noLst d = false) (h3 : (L.any fun j => i == j) = false) (h4 : L.isEmpty = false) : appK L i (some (.ol ys)) (.ok d) Γ = .ok (.nx ((freeze L Γ).set i (.ol (ys ++ [d])))) := by
  show (if ys.length < 16777216 ∧ (i ∈ L → noLst d = true) then R.ok (Fl.nx ((keepG L d Γ).set i (.ol (ys ++ [d])))) else .stuck) = _
  have hn : i ∉ L := fun z => by
    rw [List.any_eq_false] at h3
    exact h3 i z (by simp)
  rw [if_pos ⟨h, fun z => absurd z hn⟩]
  unfold keepG
  rw [if_neg (by
    rw [h2]
    intro z
    rcases z with z | z
    · rw [z] at h4; cases h4
    · cases z)]
def putK (L : List Nat) (i : Nat) (s : Option Sl) (r : R D) (f : Env → R D) (Γ : Gam) : R Fl := match s with
  | some (.ol ys) => lift r Γ fun d => lift (f (view L Γ)) Γ fun k => putAt ys k d >>= fun zs => .ok (.nx (Γ.set i (.ol zs)))
  | _ => .stuck
theorem ev_put (L : List Nat) (i : Nat) (fe fk : Env → R D) (Γ : Gam) : putS L i fe fk Γ = putK L i Γ[i]? (fe (view L Γ)) fk Γ := by
  unfold putS putK listAt
  cases Γ[i]? with
  | none => rfl
  | some s => cases s <;> rfl
def putK2 (i : Nat) (ys : List D) (d : D) (r : R D) (Γ : Gam) : R Fl := lift r Γ fun k => putAt ys k d >>= fun zs => .ok (.nx (Γ.set i (.ol zs)))
theorem ev_put1 (L : List Nat) (i : Nat) (ys : List D) (d : D) (f : Env → R D) (Γ : Gam) : putK L i (some (.ol ys)) (.ok d) f Γ = putK2 i ys d (f (view L Γ)) Γ := Eq.trans rfl rfl
theorem ev_put2 (i : Nat) (ys : List D) (d : D) (k : Nat) (Γ : Gam) (h : k < ys.length) (h2 : noLst d = true) : putK2 i ys d (.ok (.int (k : Int))) Γ = .ok (.nx (Γ.set i (.ol (ys.set k d)))) := by
  show ((putAt ys (.int (k : Int)) d) >>= fun zs => R.ok (Fl.nx (Γ.set i (.ol zs)))) = _
  have e : ixN ys.length (k : Int) = some k := by
    unfold ixN
    rw [if_pos (by omega), if_pos (by omega), Int.toNat_natCast]
  unfold putAt
  simp only [e, if_pos h2]
  rfl
def augK (i : Nat) (g : D → D → R D) (s : Option Sl) (r : R D) (Γ : Gam) : R Fl := match s with
  | some (.da x) => lift r Γ fun y => (g x y).hard >>= fun z => if noLst z = true then .ok (.nx (Γ.set i (.da z))) else .stuck
  | _ => .stuck
theorem ev_aug (L : List Nat) (i : Nat) (g : D → D → R D) (f : Env → R D) (Γ : Gam) : augS L i g f Γ = augK i g Γ[i]? (f (view L Γ)) Γ := by
  unfold augS augK
  cases Γ[i]? with
  | none => rfl
  | some s => cases s <;> rfl
theorem ev_aug1 (i : Nat) (a b : Int) (Γ : Gam) : augK i addI (some (.da (.int a))) (.ok (.int b)) Γ = .ok (.nx (Γ.set i (.da (.int (a + b))))) := Eq.trans rfl rfl
theorem ev_aug2 (i : Nat) (a b : Int) (Γ : Gam) : augK i subI (some (.da (.int a))) (.ok (.int b)) Γ = .ok (.nx (Γ.set i (.da (.int (a - b))))) := Eq.trans rfl rfl
def forK (L : List Nat) (r : R (List D)) (t : Tg) (b : Gam → R Fl) (Γ : Gam) : R Fl := lift r Γ fun ds => forL t b ds (freeze L Γ)
theorem ev_for (L : List Nat) (it : Env → R (List D)) (t : Tg) (b : Gam → R Fl) (Γ : Gam) : forS L it t b Γ = forK L (it (view L Γ)) t b Γ := Eq.trans rfl rfl
theorem frz0 : ∀ (Γ : Gam) (k : Nat), frzF [] k Γ = Γ
  | [], _ => rfl
  | .un :: r, k => by rw [frzF, frz0 r]
  | .da _ :: r, k => by rw [frzF, frz0 r]
  | .ol _ :: r, k => by rw [frzF, frz0 r, if_neg (by simp)]
  | .od _ _ :: r, k => by rw [frzF, frz0 r, if_neg (by simp)]
theorem ev_for0 (ds : List D) (t : Tg) (b : Gam → R Fl) (Γ : Gam) : forK [] (.ok ds) t b Γ = forL t b ds Γ := by
  show forL t b ds (freeze [] Γ) = _
  rw [freeze, frz0]
theorem ev_for1 (L : List Nat) (ds : List D) (t : Tg) (b : Gam → R Fl) (Γ : Gam) : forK L (.ok ds) t b Γ = forL t b ds (frzF L 0 Γ) := Eq.trans rfl rfl
theorem ev_forN (t : Tg) (b : Gam → R Fl) (Γ : Gam) : forL t b [] Γ = .ok (.nx Γ) := Eq.trans rfl rfl
/-! expressions -/
theorem ev_con (d : D) (ε : Env) : con d ε = .ok d := Eq.trans rfl rfl
def varK (o : Option (Option D)) : R D := match o with
  | some (some d) => .ok d
  | _ => .stuck
theorem ev_var (i : Nat) (ε : Env) : var i ε = varK ε[i]? := Eq.trans rfl rfl
theorem ev_var1 (d : D) : varK (some (some d)) = .ok d := Eq.trans rfl rfl
def op2K (g : D → D → R D) (x y : R D) : R D := x >>= fun x => y >>= fun y => (g x y).hard
theorem ev_op2 (g : D → D → R D) (fa fb : Env → R D) (ε : Env) : op2E g fa fb ε = op2K g (fa ε) (fb ε) := Eq.trans rfl rfl
theorem ev_op2k (g : D → D → R D) (x y : D) : op2K g (.ok x) (.ok y) = (g x y).hard := Eq.trans rfl rfl
def op1K (g : D → R D) (x : R D) : R D := x >>= fun x => (g x).hard
theorem ev_op1 (g : D → R D) (fa : Env → R D) (ε : Env) : op1E g fa ε = op1K g (fa ε) := Eq.trans rfl rfl
theorem ev_op1k (g : D → R D) (x : D) : op1K g (.ok x) = (g x).hard := Eq.trans rfl rfl
def consK (x : R D) (xs : R (List D)) : R (List D) := x >>= fun d => xs >>= fun ds => .ok (d :: ds)
theorem ev_nilL (ε : Env) : evL [] ε = .ok [] := Eq.trans rfl rfl
theorem ev_consL (f : Env → R D) (fs : List (Env → R D)) (ε : Env) : evL (f :: fs) ε = consK (f ε) (evL fs ε) := Eq.trans rfl rfl
theorem ev_consk (x : D) (xs : List D) : consK (.ok x) (.ok xs) = .ok (x :: xs) := Eq.trans rfl rfl
def tupK (r : R (List D)) : R D := r >>= fun ds => .ok (.tuple ds)
theorem ev_tup (fs : List (Env → R D)) (ε : Env) : tupE fs ε = tupK (evL fs ε) := Eq.trans rfl rfl
theorem ev_tupk (xs : List D) : tupK (.ok xs) = .ok (.tuple xs) := Eq.trans rfl rfl
def datK (r : R (List D)) : R D := r >>= fun ds => .ok (.list ds)
theorem ev_dat (f : Env → R (List D)) (ε : Env) : dataF f ε = datK (f ε) := Eq.trans rfl rfl
theorem ev_datk (xs : List D) : datK (.ok xs) = .ok (.list xs) := Eq.trans rfl rfl
def callK (g : List D → R D) (r : R (List D)) : R D := r >>= fun ds => (g ds).hard
theorem ev_call (g : List D → R D) (fs : List (Env → R D)) (ε : Env) : callE g fs ε = callK g (evL fs ε) := Eq.trans rfl rfl
theorem ev_callk (g : List D → R D) (ds : List D) : callK g (.ok ds) = (g ds).hard := Eq.trans rfl rfl
def callFK (g : List D → R (List D)) (r : R (List D)) : R (List D) := r >>= fun ds => (g ds).hard
theorem ev_callF (g : List D → R (List D)) (fs : List (Env → R D)) (ε : Env) : callF g fs ε = callFK g (evL fs ε) := Eq.trans rfl rfl
theorem ev_callFk (g : List D → R (List D)) (ds : List D) : callFK g (.ok ds) = (g ds).hard := Eq.trans rfl rfl
def usrK (S : List D → R D) (r : R (List D)) : R D := r >>= S
theorem ev_usr (S : List D → R D) (fs : List (Env → R D)) (ε : Env) : usrE S fs ε = usrK S (evL fs ε) := Eq.trans rfl rfl
theorem ev_usrk (S : List D → R D) (ds : List D) : usrK S (.ok ds) = S ds := Eq.trans rfl rfl
theorem ev_usr0 (S : List D → R D) (ε : Env) : usr0 S ε = (S []).hard := Eq.trans rfl rfl
def testK (r : R D) : R Bool := r >>= boolD
theorem ev_test (f : Env → R D) (ε : Env) : testE f ε = testK (f ε) := Eq.trans rfl rfl
theorem ev_testk (b : Bool) : testK (.ok (.bool b)) = .ok b := Eq.trans rfl rfl
def bK (r : R Bool) : R D := r >>= fun b => .ok (.bool b)
theorem ev_b (f : Env → R Bool) (ε : Env) : bE f ε = bK (f ε) := Eq.trans rfl rfl
theorem ev_bk1 (b : Bool) : bK (.ok b) = .ok (.bool b) := Eq.trans rfl rfl
def isNK (r : R D) : R Bool := r >>= fun d => .ok (isN d)
theorem ev_isN (f : Env → R D) (ε : Env) : isNE f ε = isNK (f ε) := Eq.trans rfl rfl
theorem ev_isNk (d : D) : isNK (.ok d) = .ok (isN d) := Eq.trans rfl rfl
def notNK (r : R D) : R Bool := r >>= fun d => .ok (!isN d)
theorem ev_notN (f : Env → R D) (ε : Env) : notNE f ε = notNK (f ε) := Eq.trans rfl rfl
theorem ev_notNk (d : D) : notNK (.ok d) = .ok (!isN d) := Eq.trans rfl rfl
def andTK (r : R Bool) (g : Env → R Bool) (ε : Env) : R Bool := r >>= fun c => if c = true then g ε else .ok false
theorem ev_andT (f g : Env → R Bool) (ε : Env) : andT f g ε = andTK (f ε) g ε := Eq.trans rfl rfl
theorem ev_andT1 (g : Env → R Bool) (ε : Env) : andTK (.ok true) g ε = g ε := Eq.trans rfl rfl
theorem ev_andT0 (g : Env → R Bool) (ε : Env) : andTK (.ok false) g ε = .ok false := Eq.trans rfl rfl
def orTK (r : R Bool) (g : Env → R Bool) (ε : Env) : R Bool := r >>= fun c => if c = true then .ok true else g ε
theorem ev_orT (f g : Env → R Bool) (ε : Env) : orT f g ε = orTK (f ε) g ε := Eq.trans rfl rfl
theorem ev_orT1 (g : Env → R Bool) (ε : Env) : orTK (.ok true) g ε = .ok true := Eq.trans rfl rfl
theorem ev_orT0 (g : Env → R Bool) (ε : Env) : orTK (.ok false) g ε = g ε := Eq.trans rfl rfl
def notTK (r : R Bool) : R Bool := r >>= fun c => .ok (!c)
theorem ev_notT (f : Env → R Bool) (ε : Env) : notT f ε = notTK (f ε) := Eq.trans rfl rfl
theorem ev_notTk (b : Bool) : notTK (.ok b) = .ok (!b) := Eq.trans rfl rfl
def andEK (r : R D) (g : Env → R D) (ε : Env) : R D := r >>= boolD >>= fun c => if c = true then g ε else .ok (.bool false)
theorem ev_andE (f g : Env → R D) (ε : Env) : andE f g ε = andEK (f ε) g ε := Eq.trans rfl rfl
theorem ev_andE1 (g : Env → R D) (ε : Env) : andEK (.ok (.bool true)) g ε = g ε := Eq.trans rfl rfl
theorem ev_andE0 (g : Env → R D) (ε : Env) : andEK (.ok (.bool false)) g ε = .ok (.bool false) := Eq.trans rfl rfl
def orEK (r : R D) (g : Env → R D) (ε : Env) : R D := r >>= boolD >>= fun c => if c = true then .ok (.bool true) else g ε
theorem ev_orE (f g : Env → R D) (ε : Env) : orE f g ε = orEK (f ε) g ε := Eq.trans rfl rfl
theorem ev_orE1 (g : Env → R D) (ε : Env) : orEK (.ok (.bool true)) g ε = .ok (.bool true) := Eq.trans rfl rfl
theorem ev_orE0 (g : Env → R D) (ε : Env) : orEK (.ok (.bool false)) g ε = g ε := Eq.trans rfl rfl
def notEK (r : R D) : R D := r >>= boolD >>= fun c => .ok (.bool (!c))
theorem ev_notE (f : Env → R D) (ε : Env) : notE f ε = notEK (f ε) := Eq.trans rfl rfl
theorem ev_notEk (b : Bool) : notEK (.ok (.bool b)) = .ok (.bool (!b)) := Eq.trans rfl rfl
def ifEK (r : R Bool) (f g : Env → R D) (ε : Env) : R D := r >>= fun c => if c = true then f ε else g ε
theorem ev_ifE (t : Env → R Bool) (f g : Env → R D) (ε : Env) : ifE t f g ε = ifEK (t ε) f g ε := Eq.trans rfl rfl
theorem ev_ifE1 (f g : Env → R D) (ε : Env) : ifEK (.ok true) f g ε = f ε := Eq.trans rfl rfl
theorem ev_ifE0 (f g : Env → R D) (ε : Env) : ifEK (.ok false) f g ε = g ε := Eq.trans rfl rfl
def chK (g' : D → D → R D) (y : R D) (r : R D) (fc : Env → R D) (ε : Env) : R D := y >>= fun y => r.hard >>= boolD >>= fun k => if k = true then fc ε >>= fun z => (g' y z).hard else .ok (.bool false)
def chK0 (g g' : D → D → R D) (x y : R D) (fc : Env → R D) (ε : Env) : R D := x >>= fun x => y >>= fun y => (g x y).hard >>= boolD >>= fun k => if k = true then fc ε >>= fun z => (g' y z).hard else .ok (.bool false)
theorem ev_ch (g g' : D → D → R D) (fa fb fc : Env → R D) (ε : Env) : chainE g g' fa fb fc ε = chK0 g g' (fa ε) (fb ε) fc ε := Eq.trans rfl rfl
theorem ev_ch0 (g g' : D → D → R D) (x y : D) (fc : Env → R D) (ε : Env) : chK0 g g' (.ok x) (.ok y) fc ε = chK g' (.ok y) (g x y) fc ε := Eq.trans rfl rfl
theorem ev_ch1 (g' : D → D → R D) (y : D) (fc : Env → R D) (ε : Env) : chK g' (.ok y) (.ok (.bool true)) fc ε = op2K g' (.ok y) (fc ε) := Eq.trans rfl rfl
theorem ev_ch2 (g' : D → D → R D) (y : D) (fc : Env → R D) (ε : Env) : chK g' (.ok y) (.ok (.bool false)) fc ε = .ok (.bool false) := Eq.trans rfl rfl
def isiK (p : D → Bool) (r : R D) : R Bool := r >>= fun d => (noDct d).hard >>= fun d => .ok (p d)
theorem ev_isi (p : D → Bool) (f : Env → R D) (ε : Env) : isiE p f ε = isiK p (f ε) := Eq.trans rfl rfl
theorem ev_isi1 (p : D → Bool) : isiK p (.ok .none) = .ok (p .none) := Eq.trans rfl rfl
theorem ev_isi2 (p : D → Bool) (b : Bool) : isiK p (.ok (.bool b)) = .ok (p (.bool b)) := Eq.trans rfl rfl
theorem ev_isi3 (p : D → Bool) (i : Int) : isiK p (.ok (.int i)) = .ok (p (.int i)) := Eq.trans rfl rfl
theorem ev_isi4 (p : D → Bool) (x : Str) : isiK p (.ok (.str x)) = .ok (p (.str x)) := Eq.trans rfl rfl
theorem ev_isi5 (p : D → Bool) (x : List D) : isiK p (.ok (.tuple x)) = .ok (p (.tuple x)) := Eq.trans rfl rfl
theorem ev_isi6 (p : D → Bool) (x : List D) : isiK p (.ok (.list x)) = .ok (p (.list x)) := Eq.trans rfl rfl
def slK (r : R D) (lo hi : R (Option Int)) : R D := r >>= fun d => lo >>= fun l => hi >>= fun u => (sliceD d l u).hard
theorem ev_sl (f : Env → R D) (lo hi : Option (Env → R D)) (ε : Env) : sliceE f lo hi ε = slK (f ε) (partE lo ε) (partE hi ε) := Eq.trans rfl rfl
theorem ev_slk (d : D) (l u : Option Int) : slK (.ok d) (.ok l) (.ok u) = (sliceD d l u).hard := Eq.trans rfl rfl
theorem ev_slL (x : List D) (l u : Option Int) : sliceD (.list x) l u = .ok (.list (cutD x l u)) := Eq.trans rfl rfl
theorem ev_slT (x : List D) (l u : Option Int) : sliceD (.tuple x) l u = .ok (.tuple (cutD x l u)) := Eq.trans rfl rfl
theorem ev_slS (x : Str) (l u : Option Int) : sliceD (.str x) l u = .ok (.str (cutS x l u)) := Eq.trans rfl rfl
def parK (r : R D) : R (Option Int) := r >>= fun d => match d with
  | .int i => .ok (some i)
  | _ => .stuck
theorem ev_par0 (ε : Env) : partE none ε = .ok none := Eq.trans rfl rfl
theorem ev_par (f : Env → R D) (ε : Env) : partE (some f) ε = parK (f ε) := Eq.trans rfl rfl
theorem ev_park (i : Int) : parK (.ok (.int i)) = .ok (some i) := Eq.trans rfl rfl
def seqEK (r : R D) : R (List D) := r >>= seqD
theorem ev_seqE (f : Env → R D) (ε : Env) : seqE f ε = seqEK (f ε) := Eq.trans rfl rfl
theorem ev_seqEL (x : List D) : seqEK (.ok (.list x)) = .ok x := Eq.trans rfl rfl
theorem ev_seqET (x : List D) : seqEK (.ok (.tuple x)) = .ok x := Eq.trans rfl rfl
theorem ev_seqES (x : Str) : seqEK (.ok (.str x)) = .ok (signs x) := Eq.trans rfl rfl
def rgK (r : R (List D)) : R (List D) := r >>= fun ds => (rangeD ds).hard
theorem ev_rg (fs : List (Env → R D)) (ε : Env) : rangeE fs ε = rgK (evL fs ε) := Eq.trans rfl rfl
theorem ev_rgk (ds : List D) : rgK (.ok ds) = (rangeD ds).hard := Eq.trans rfl rfl
def enK (r : R D) : R (List D) := r >>= seqD >>= fun ds => .ok (enumD ds)
theorem ev_en (f : Env → R D) (ε : Env) : enumE f ε = enK (f ε) := Eq.trans rfl rfl
theorem ev_enL (x : List D) : enK (.ok (.list x)) = .ok (enumD x) := Eq.trans rfl rfl
theorem ev_enT (x : List D) : enK (.ok (.tuple x)) = .ok (enumD x) := Eq.trans rfl rfl
theorem ev_enS (x : Str) : enK (.ok (.str x)) = .ok (enumD (signs x)) := Eq.trans rfl rfl
def ziK (x y : R D) : R (List D) := x >>= fun x => y >>= fun y => (seqD x).hard >>= fun ds => (seqD y).hard >>= fun es => .ok (zipD ds es)
theorem ev_zi (f g : Env → R D) (ε : Env) : zipE f g ε = ziK (f ε) (g ε) := Eq.trans rfl rfl
theorem ev_ziLL (x y : List D) : ziK (.ok (.list x)) (.ok (.list y)) = .ok (zipD x y) := Eq.trans rfl rfl
theorem ev_ziTT (x y : List D) : ziK (.ok (.tuple x)) (.ok (.tuple y)) = .ok (zipD x y) := Eq.trans rfl rfl
theorem ev_ziLT (x y : List D) : ziK (.ok (.list x)) (.ok (.tuple y)) = .ok (zipD x y) := Eq.trans rfl rfl
theorem ev_ziTL (x y : List D) : ziK (.ok (.tuple x)) (.ok (.list y)) = .ok (zipD x y) := Eq.trans rfl rfl
theorem ev_ziSS (x y : Str) : ziK (.ok (.str x)) (.ok (.str y)) = .ok (zipD (signs x) (signs y)) := Eq.trans rfl rfl
def compK (vs : List Nat) (r : R (List D)) (t : Tg) (fi : Env → R Bool) (fe : Env → R D) (ε : Env) : R (List D) := r >>= fun ds => compL t fi fe (wipeE ε vs) ds
theorem ev_comp (vs : List Nat) (it : Env → R (List D)) (t : Tg) (fi : Env → R Bool) (fe : Env → R D) (ε : Env) : compE vs it t fi fe ε = compK vs (it ε) t fi fe ε := Eq.trans rfl rfl
theorem ev_compk (vs : List Nat) (ds : List D) (t : Tg) (fi : Env → R Bool) (fe : Env → R D) (ε : Env) : compK vs (.ok ds) t fi fe ε = compL t fi fe (wipeE ε vs) ds := Eq.trans rfl rfl
/-! values -/
theorem v_add (i j : Int) : addD (.int i) (.int j) = .ok (.int (i + j)) := Eq.trans rfl rfl
theorem v_sub (i j : Int) : subD (.int i) (.int j) = .ok (.int (i - j)) := Eq.trans rfl rfl
theorem v_neg (i : Int) : negD (.int i) = .ok (.int (-i)) := Eq.trans rfl rfl
theorem v_eq (i j : Int) : eqD (.int i) (.int j) = .ok (.bool (decide (i = j))) := by
  unfold eqD
  rw [if_pos ⟨rfl, rfl⟩]
  rfl
theorem v_ne (i j : Int) : neD (.int i) (.int j) = .ok (.bool (!decide (i = j))) := by
  unfold neD
  rw [if_pos ⟨rfl, rfl⟩]
  rfl
theorem v_lt (i j : Int) : ltD (.int i) (.int j) = .ok (.bool (decide (i < j))) := Eq.trans rfl rfl
theorem v_le (i j : Int) : leD (.int i) (.int j) = .ok (.bool (decide (i ≤ j))) := Eq.trans rfl rfl
theorem v_gt (i j : Int) : gtD (.int i) (.int j) = .ok (.bool (decide (j < i))) := Eq.trans rfl rfl
theorem v_ge (i j : Int) : geD (.int i) (.int j) = .ok (.bool (decide (j ≤ i))) := Eq.trans rfl rfl
theorem v_mul {i j : Int} (h : mulFits i j = true) : mulB (.int i) (.int j) = .ok (.int (i * j)) := by
  show (if mulFits i j = true then _ else _) = _
  rw [if_pos h]
def small64 (i : Int) : Prop := -18446744073709551616 < i ∧ i < 18446744073709551616
theorem v_mulL {i j : Int} (h : -18446744073709551616 < i) (h2 : i < 18446744073709551616) : mulB (.int i) (.int j) = .ok (.int (i * j)) := v_mul (by
  unfold mulFits
  rw [decide_eq_true (show -(2 ^ 64) < i by omega), decide_eq_true (show i < 2 ^ 64 by omega)]; rfl)
theorem v_mulR {i j : Int} (h : -18446744073709551616 < j) (h2 : j < 18446744073709551616) : mulB (.int i) (.int j) = .ok (.int (i * j)) := v_mul (by
  unfold mulFits
  rw [decide_eq_true (show -(2 ^ 64) < j by omega), decide_eq_true (show j < 2 ^ 64 by omega)]; simp)
theorem v_p9 : powD (.int 10) (.int 9) = .ok (.int 1000000000) := Eq.trans rfl rfl
theorem v_p18 : powD (.int 10) (.int 18) = .ok (.int 1000000000000000000) := Eq.trans rfl rfl
theorem v_mod {i j : Int} (h : 0 < j) : modD (.int i) (.int j) = .ok (.int (i % j)) := by
  show (if 0 < j then R.ok (PyData.int (i % j)) else R.stuck) = _
  rw [if_pos h]
theorem v_div {i j : Int} (h : 0 < j) (h2 : j < 1073741824) : divD (.int i) (.int j) = .ok (.int (i / j)) := by
  show (if 0 < j ∧ (j.natAbs < 1073741824 ∨ j.natAbs.log2 < 9000) then R.ok (PyData.int (i / j)) else R.stuck) = _
  rw [if_pos ⟨h, .inl (by omega)⟩]
theorem v_int (i : Int) : on1 intG [.int i] = .ok (.int i) := Eq.trans rfl rfl
theorem v_lenL (x : List D) : lenG [.list x] = .ok (.int x.length) := Eq.trans rfl rfl
theorem v_lenT (x : List D) : lenG [.tuple x] = .ok (.int x.length) := Eq.trans rfl rfl
theorem v_lenS (x : Str) : lenG [.str x] = .ok (.int x.length) := Eq.trans rfl rfl
theorem v_tupL (x : List D) : on1 tupG [.list x] = .ok (.tuple x) := Eq.trans rfl rfl
theorem v_tupT (x : List D) : on1 tupG [.tuple x] = .ok (.tuple x) := Eq.trans rfl rfl
theorem v_itL (x : List D) : on1L itemsG [.list x] = .ok x := Eq.trans rfl rfl
theorem v_itT (x : List D) : on1L itemsG [.tuple x] = .ok x := Eq.trans rfl rfl
theorem v_ixL {x : List D} {i : Nat} {d : D} (h : x[i]? = some d) : ixD (.list x) (.int (i : Int)) = .ok d := by
  have e : L2.atI x (i : Int) = some d := L2.atI_nat h
  show (match L2.atI x (i : Int) with
    | some d => R.ok d
    | none => .stuck) = _
  rw [e]
theorem v_ixT {x : List D} {i : Nat} {d : D} (h : x[i]? = some d) : ixD (.tuple x) (.int (i : Int)) = .ok d := by
  have e : L2.atI x (i : Int) = some d := L2.atI_nat h
  show (match L2.atI x (i : Int) with
    | some d => R.ok d
    | none => .stuck) = _
  rw [e]
theorem v_sum (ns : List Int) : on1 sumG [.list (ns.map .int)] = .ok (.int ns.sum) := by
  show (intsOf (ns.map .int) >>= fun ns => R.ok (PyData.int ns.sum)) = _
  rw [intsOf_map]; rfl
theorem v_all (ns : List Bool) : on1 allG [.list (ns.map .bool)] = .ok (.bool (ns.all id)) := by
  show (boolsOf (ns.map .bool) >>= fun ns => R.ok (PyData.bool (ns.all id))) = _
  rw [boolsOf_map]; rfl
theorem v_any (ns : List Bool) : on1 anyG [.list (ns.map .bool)] = .ok (.bool (ns.any id)) := by
  show (boolsOf (ns.map .bool) >>= fun ns => R.ok (PyData.bool (ns.any id))) = _
  rw [boolsOf_map]; rfl
theorem v_range1 {n : Nat} (h : n ≤ 16777216) : rangeD [.int (n : Int)] = .ok (rng 0 n) := by
  show (if -(2 ^ 62) ≤ (n : Int) ∧ (n : Int).toNat ≤ 16777216 then R.ok (rng 0 (n : Int).toNat) else R.stuck) = _
  rw [if_pos ⟨by omega, by omega⟩, Int.toNat_natCast]
theorem v_rangeI {n : Int} (h : n ≤ 16777216) (h0 : 0 ≤ n) : rangeD [.int n] = .ok (rng 0 n.toNat) := by
  show (if -(2 ^ 62) ≤ (n : Int) ∧ (n : Int).toNat ≤ 16777216 then R.ok (rng 0 (n : Int).toNat) else R.stuck) = _
  rw [if_pos ⟨by omega, by omega⟩]
theorem v_range2 {a b : Int} (h : -1000000000 ≤ a) (h1 : a ≤ 1000000000) (h2 : -1000000000 ≤ b) (h3 : b - a ≤ 16777216) : rangeD [.int a, .int b] = .ok (rng a (b - a).toNat) := by
  show (if -(2 ^ 61) ≤ a ∧ a ≤ 2 ^ 61 ∧ -(2 ^ 61) ≤ b ∧ (b - a).toNat ≤ 16777216 then R.ok (rng a (b - a).toNat) else R.stuck) = _
  rw [if_pos ⟨by omega, by omega, by omega, by omega⟩]
theorem v_catT {a b : List D} (h : a.length + b.length ≤ 16777216) : addD (.tuple a) (.tuple b) = .ok (.tuple (a ++ b)) := by
  show (if a.length + b.length ≤ sizeLine then R.ok (PyData.tuple (a ++ b)) else R.stuck) = _
  rw [if_pos (by rw [sizeLine_eq]; exact h)]
theorem v_catL {a b : List D} (h : a.length + b.length ≤ 16777216) : addD (.list a) (.list b) = .ok (.list (a ++ b)) := by
  show (if a.length + b.length ≤ sizeLine then R.ok (PyData.list (a ++ b)) else R.stuck) = _
  rw [if_pos (by rw [sizeLine_eq]; exact h)]
theorem i_1 (i : Int) : isInt (.int i) = true := Eq.trans rfl rfl
theorem ev_run (n : Nat) (g : Gam → R Fl) (ds : List D) : runS n g ds = endR (g (gam0 n ds)) := Eq.trans rfl rfl
theorem ev_end1 (Γ : Gam) : endR (.ok (.nx Γ)) = .ok .none := Eq.trans rfl rfl
theorem ev_end2 (d : D) : endR (.ok (.rt d)) = .ok d := Eq.trans rfl rfl
theorem ev_end4 (d : List D) : endR (.ok (.rl d)) = .ok (.list d) := Eq.trans rfl rfl
theorem ev_endF1 (d : List D) : endF (.ok (.rl d)) = .ok d := Eq.trans rfl rfl
theorem ev_endF2 (e : Exn) (Γ : Gam) : endF (.ok (.xn e Γ)) = .exn e := Eq.trans rfl rfl
theorem ev_runF (n : Nat) (g : Gam → R Fl) (ds : List D) : runF n g ds = endF (g (gam0 n ds)) := Eq.trans rfl rfl
theorem ev_end3 (e : Exn) (Γ : Gam) : endR (.ok (.xn e Γ)) = .exn e := Eq.trans rfl rfl
theorem ev_vN (L : List Nat) (k : Nat) : viewF L k [] = [] := Eq.trans rfl rfl
def slV (L : List Nat) (k : Nat) : Sl → Option D
  | .un => none
  | .da d => some d
  | .ol ds => if (L.any fun j => k == j) = true then some (.list ds) else none
  | .od t kvs => if (L.any fun j => k == j) = true then some (.dict (markT t kvs)) else none
theorem any_mem {L : List Nat} {k : Nat} : (L.any fun j => k == j) = true ↔ k ∈ L := by
  rw [List.any_eq_true]
  exact ⟨fun ⟨x, hx, e⟩ => by
    have : k = x := by simpa using e
    rw [this]; exact hx, fun h => ⟨k, h, by simp⟩⟩
theorem ev_vC (L : List Nat) (k : Nat) (s : Sl) (r : Gam) : viewF L k (s :: r) = slV L k s :: viewF L (k + 1) r := by
  cases s with
  | un => rfl
  | da d => rfl
  | ol ds =>
    show (if k ∈ L then some (PyData.list ds) else none) :: _ = (if (L.any fun j => k == j) = true then some (PyData.list ds) else none) :: _
    by_cases h : k ∈ L
    · rw [if_pos h, if_pos (any_mem.mpr h)]
    · rw [if_neg h, if_neg fun z => h (any_mem.mp z)]
  | od t kvs =>
    show (if k ∈ L then some (PyData.dict (markT t kvs)) else none) :: _ = (if (L.any fun j => k == j) = true then some (PyData.dict (markT t kvs)) else none) :: _
    by_cases h : k ∈ L
    · rw [if_pos h, if_pos (any_mem.mpr h)]
    · rw [if_neg h, if_neg fun z => h (any_mem.mp z)]
theorem ev_sU (L : List Nat) (k : Nat) : slV L k .un = none := Eq.trans rfl rfl
theorem ev_sD (L : List Nat) (k : Nat) (d : D) : slV L k (.da d) = some d := Eq.trans rfl rfl
theorem ev_sE (L : List Nat) (k : Nat) (t : Bool) (kvs : List (D × D)) : slV L k (.od t kvs) = if (L.any fun j => k == j) = true then some (.dict (markT t kvs)) else none := Eq.trans rfl rfl
theorem ev_sO (L : List Nat) (k : Nat) (ds : List D) : slV L k (.ol ds) = if (L.any fun j => k == j) = true then some (.list ds) else none := Eq.trans rfl rfl
def slZ (L : List Nat) (k : Nat) : Sl → Sl
  | .un => .un
  | .da d => .da d
  | .ol ds => if (L.any fun j => k == j) = true then .da (.list ds) else .ol ds
  | .od t kvs => if (L.any fun j => k == j) = true then .da (.dict (markT t kvs)) else .od t kvs
theorem ev_fN (L : List Nat) (k : Nat) : frzF L k [] = [] := Eq.trans rfl rfl
theorem ev_fC (L : List Nat) (k : Nat) (s : Sl) (r : Gam) : frzF L k (s :: r) = slZ L k s :: frzF L (k + 1) r := by
  cases s with
  | un => rfl
  | da d => rfl
  | ol ds =>
    show (if k ∈ L then Sl.da (PyData.list ds) else .ol ds) :: _ = (if (L.any fun j => k == j) = true then Sl.da (PyData.list ds) else .ol ds) :: _
    by_cases h : k ∈ L
    · rw [if_pos h, if_pos (any_mem.mpr h)]
    · rw [if_neg h, if_neg fun z => h (any_mem.mp z)]
  | od t kvs =>
    show (if k ∈ L then Sl.da (PyData.dict (markT t kvs)) else .od t kvs) :: _ = (if (L.any fun j => k == j) = true then Sl.da (PyData.dict (markT t kvs)) else .od t kvs) :: _
    by_cases h : k ∈ L
    · rw [if_pos h, if_pos (any_mem.mpr h)]
    · rw [if_neg h, if_neg fun z => h (any_mem.mp z)]
theorem ev_zU (L : List Nat) (k : Nat) : slZ L k .un = .un := Eq.trans rfl rfl
theorem ev_zD (L : List Nat) (k : Nat) (d : D) : slZ L k (.da d) = .da d := Eq.trans rfl rfl
theorem ev_zE (L : List Nat) (k : Nat) (t : Bool) (kvs : List (D × D)) : slZ L k (.od t kvs) = if (L.any fun j => k == j) = true then .da (.dict (markT t kvs)) else .od t kvs := Eq.trans rfl rfl
theorem ev_zO (L : List Nat) (k : Nat) (ds : List D) : slZ L k (.ol ds) = if (L.any fun j => k == j) = true then .da (.list ds) else .ol ds := Eq.trans rfl rfl
theorem fl1 (i : Nat) (d : D) : flatT (.nm i) d = .ok [(i, d)] := Eq.trans rfl rfl
theorem fl2 (ts : List Tg) (ds : List D) : flatT (.tup ts) (.tuple ds) = flatTs ts ds := by rw [flatT]
def flK (a b : R (List (Nat × D))) : R (List (Nat × D)) := a >>= fun a => b >>= fun b => .ok (a ++ b)
theorem fl3 : flatTs [] [] = .ok [] := by rw [flatTs]
theorem fl4 (t : Tg) (ts : List Tg) (d : D) (ds : List D) : flatTs (t :: ts) (d :: ds) = flK (flatT t d) (flatTs ts ds) := by rw [flatTs]; rfl
theorem fl5 (a b : List (Nat × D)) : flK (.ok a) (.ok b) = .ok (a ++ b) := Eq.trans rfl rfl
theorem sg0 (Γ : Gam) : setG Γ [] = Γ := Eq.trans rfl rfl
theorem sg1 (Γ : Gam) (p : Nat × D) (ps : List (Nat × D)) : setG Γ (p :: ps) = setG (Γ.set p.1 (.da p.2)) ps := Eq.trans rfl rfl
theorem se0 (ε : Env) : setE ε [] = ε := Eq.trans rfl rfl
theorem se1 (ε : Env) (p : Nat × D) (ps : List (Nat × D)) : setE ε (p :: ps) = setE (ε.set p.1 (some p.2)) ps := Eq.trans rfl rfl
theorem t_N1 : isN .none = true := Eq.trans rfl rfl
theorem t_N2 (b : Bool) : isN (.bool b) = false := Eq.trans rfl rfl
theorem t_N3 (b : Int) : isN (.int b) = false := Eq.trans rfl rfl
theorem t_N4 (b : Str) : isN (.str b) = false := Eq.trans rfl rfl
theorem t_N5 (b : List D) : isN (.tuple b) = false := Eq.trans rfl rfl
theorem t_N6 (b : List D) : isN (.list b) = false := Eq.trans rfl rfl
def truK (r : R D) : R Bool := r >>= truD
theorem ev_tru (f : Env → R D) (ε : Env) : truE f ε = truK (f ε) := Eq.trans rfl rfl
theorem ev_truL (x : List D) : truK (.ok (.list x)) = .ok (!x.isEmpty) := Eq.trans rfl rfl
theorem ev_truT (x : List D) : truK (.ok (.tuple x)) = .ok (!x.isEmpty) := Eq.trans rfl rfl
theorem ev_truB (x : Bool) : truK (.ok (.bool x)) = .ok x := Eq.trans rfl rfl
theorem ev_truN : truK (.ok .none) = .ok false := Eq.trans rfl rfl
theorem ev_truI (i : Int) : truK (.ok (.int i)) = .ok (i != 0) := Eq.trans rfl rfl
def parK2 (L : List Nat) (i j : Nat) (r : R (List D)) (Γ : Gam) : R Fl := lift r Γ fun ds => match ds with
  | [d, e] => .ok (.nx (((keepGs L [d, e] Γ).set i (.da d)).set j (.da e)))
  | _ => .stuck
theorem ev_par2 (L : List Nat) (i j : Nat) (fs : List (Env → R D)) (Γ : Gam) : parS L i j fs Γ = parK2 L i j (evL fs (view L Γ)) Γ := Eq.trans rfl rfl
theorem ev_par2k (i j : Nat) (d e : D) (Γ : Gam) : parK2 [] i j (.ok [d, e]) Γ = .ok (.nx ((Γ.set i (.da d)).set j (.da e))) := by
  show R.ok (Fl.nx (((keepGs [] [d, e] Γ).set i (.da d)).set j (.da e))) = _
  unfold keepGs
  rw [if_pos (.inl rfl)]
def parK3 (L : List Nat) (i j l : Nat) (r : R (List D)) (Γ : Gam) : R Fl := lift r Γ fun ds => match ds with
  | [d, e, f] => .ok (.nx ((((keepGs L [d, e, f] Γ).set i (.da d)).set j (.da e)).set l (.da f)))
  | _ => .stuck
theorem ev_par3 (L : List Nat) (i j l : Nat) (fs : List (Env → R D)) (Γ : Gam) : parS3 L i j l fs Γ = parK3 L i j l (evL fs (view L Γ)) Γ := Eq.trans rfl rfl
theorem ev_par3k (i j l : Nat) (d e f : D) (Γ : Gam) : parK3 [] i j l (.ok [d, e, f]) Γ = .ok (.nx (((Γ.set i (.da d)).set j (.da e)).set l (.da f))) := by
  show R.ok (Fl.nx ((((keepGs [] [d, e, f] Γ).set i (.da d)).set j (.da e)).set l (.da f))) = _
  unfold keepGs
  rw [if_pos (.inl rfl)]
/-! ### texts, by their signs -/
def T (l : List Nat) : D := .str ⟨l.toArray⟩
theorem v_lenX (a : List Nat) : lenG [T a] = .ok (.int a.length) := by
  show R.ok (PyData.int ((Str.length ⟨a.toArray⟩ : Nat) : Int)) = _
  show R.ok (PyData.int ((a.toArray.size : Nat) : Int)) = _
  rw [List.size_toArray]
theorem v_catX {a b : List Nat} (h : a.length + b.length ≤ 16777216) : addD (T a) (T b) = .ok (T (a ++ b)) := by
  show (if (Str.length ⟨a.toArray⟩) + (Str.length ⟨b.toArray⟩) ≤ sizeLine then R.ok (PyData.str (Str.append ⟨a.toArray⟩ ⟨b.toArray⟩)) else R.stuck) = _
  have e : (Str.length ⟨a.toArray⟩) + (Str.length ⟨b.toArray⟩) ≤ sizeLine := by
    show a.toArray.size + b.toArray.size ≤ sizeLine
    rw [List.size_toArray, List.size_toArray, sizeLine_eq]; exact h
  rw [if_pos e]
  unfold T Str.append
  simp
theorem v_slX (a : List Nat) (l u : Option Int) : sliceD (T a) l u = .ok (T (cutD a l u)) := by
  show R.ok (PyData.str (cutS ⟨a.toArray⟩ l u)) = _
  unfold cutS cutD T Str.length
  simp
theorem v_ixX {a : List Nat} {i c : Nat} (h : a[i]? = some c) : ixD (T a) (.int (i : Int)) = .ok (T [c]) := by
  have e : L2.atI (Str.cps ⟨a.toArray⟩).toList (i : Int) = some c := L2.atI_nat (by simpa using h)
  show (match L2.atI (Str.cps ⟨a.toArray⟩).toList (i : Int) with
    | some c => R.ok (PyData.str ⟨#[c]⟩)
    | none => .stuck) = _
  rw [e]; rfl
theorem T_inj {a b : List Nat} : T a = T b ↔ a = b := by
  unfold T
  constructor
  · intro h
    injection h with h
    injection h with h
    simpa using h
  · intro h; rw [h]
theorem eqv_T (a b : List Nat) : PyData.eqv (T a) (T b) = decide (a = b) := by
  show ((⟨a.toArray⟩ : Str) == ⟨b.toArray⟩) = _
  by_cases h : a = b
  · subst h; simp
  · rw [decide_eq_false h]
    have : (⟨a.toArray⟩ : Str) ≠ ⟨b.toArray⟩ := fun z => h (by injection z with z; simpa using z)
    simpa using this
theorem v_eqX (a b : List Nat) : eqD (T a) (T b) = .ok (.bool (decide (a = b))) := by
  unfold eqD
  rw [if_pos ⟨rfl, rfl⟩, eqv_T]
theorem v_neX (a b : List Nat) : neD (T a) (T b) = .ok (.bool (!decide (a = b))) := by
  unfold neD
  rw [if_pos ⟨rfl, rfl⟩, eqv_T]
theorem v_inX (c : Nat) (b : List Nat) : inD (T [c]) (T b) = .ok (.bool (decide (c ∈ b))) := by
  show R.ok (PyData.bool (strIn ⟨#[c]⟩ ⟨b.toArray⟩)) = _
  rw [strIn_sign]
theorem v_ninX (c : Nat) (b : List Nat) : ninD (T [c]) (T b) = .ok (.bool (!decide (c ∈ b))) := by
  show R.ok (PyData.bool (!strIn ⟨#[c]⟩ ⟨b.toArray⟩)) = _
  rw [strIn_sign]
theorem v_repX {a : List Nat} {k : Int} (h1 : -4611686018427387904 ≤ k) (h2 : k ≤ 1000000) (h3 : a.length * k.toNat ≤ 1000000) : mulB (T a) (.int k) = .ok (T (List.replicate k.toNat a).flatten) := by
  show (if -(2 ^ 62) ≤ k ∧ k ≤ 1000000 ∧ (Str.length ⟨a.toArray⟩) * k.toNat ≤ 1000000 then R.ok (PyData.str (repS ⟨a.toArray⟩ k.toNat)) else .stuck) = _
  have e : (Str.length ⟨a.toArray⟩) = a.length := by show a.toArray.size = _; simp
  rw [e, if_pos ⟨by omega, h2, h3⟩]
  rfl
theorem ev_seqEX (a : List Nat) : seqEK (.ok (T a)) = .ok (a.map fun c => T [c]) := by
  show R.ok (signs ⟨a.toArray⟩) = _
  unfold signs T
  simp
theorem ev_isiX (p : D → Bool) (a : List Nat) : isiK p (.ok (T a)) = .ok (p (T a)) := Eq.trans rfl rfl
theorem t_N7 (a : List Nat) : isN (T a) = false := Eq.trans rfl rfl
theorem t_X1 (a : List Nat) : isInt (T a) = false := Eq.trans rfl rfl
theorem t_X2 (a : List Nat) : isBool (T a) = false := Eq.trans rfl rfl
theorem t_X3 (a : List Nat) : isStr (T a) = true := Eq.trans rfl rfl
theorem t_X4 (a : List Nat) : isTup (T a) = false := Eq.trans rfl rfl
theorem t_X5 (a : List Nat) : isLst (T a) = false := Eq.trans rfl rfl
theorem t_X6 (a : List Nat) : noLst (T a) = true := Eq.trans rfl rfl
theorem ev_truX (a : List Nat) : truK (.ok (T a)) = .ok (!a.isEmpty) := by
  show R.ok (((Str.length ⟨a.toArray⟩ : Nat) : Int) != 0) = _
  congr 1
  cases a with
  | nil => rfl
  | cons x a =>
    show (((Str.length ⟨(x :: a).toArray⟩ : Nat) : Int) != 0) = true
    have : (Str.length ⟨(x :: a).toArray⟩) = a.length + 1 := by show (x :: a).toArray.size = _; simp
    rw [this]
    simp
    omega
/-! ### equality of data -/
def good (d : D) : Prop := RB.plain d = true ∧ d.depth ≤ 60
theorem good_T (a : List Nat) : good (T a) := ⟨rfl, Nat.zero_le _⟩
theorem good_int (a : Int) : good (.int a) := ⟨rfl, by simp [PyData.depth]⟩
theorem good_bool (a : Bool) : good (.bool a) := ⟨rfl, by simp [PyData.depth]⟩
theorem good_none : good .none := ⟨rfl, by simp [PyData.depth]⟩
theorem cmp_good {d : D} (h : good d) : cmpOk d = true := by
  unfold cmpOk
  rw [h.1, decide_eq_true (show d.depth ≤ 64 by have := h.2; omega)]; rfl
theorem depthAll_le' {n : Nat} : ∀ {xs : List D}, (∀ x ∈ xs, x.depth ≤ n) → PyData.depthAll xs ≤ n
  | [], _ => Nat.zero_le _
  | x :: xs, h => by
    unfold PyData.depthAll
    exact Nat.max_le.mpr ⟨h x List.mem_cons_self, depthAll_le' fun y hy => h y (List.mem_cons_of_mem _ hy)⟩
theorem plainL_of' : ∀ {xs : List D}, (∀ x ∈ xs, RB.plain x = true) → plainL xs = true
  | [], _ => rfl
  | x :: xs, h => by
    unfold plainL
    rw [h x List.mem_cons_self, plainL_of' fun y hy => h y (List.mem_cons_of_mem _ hy)]; rfl
theorem cmp_tup {xs : List D} (h : ∀ x ∈ xs, good x) : cmpOk (.tuple xs) = true := by
  unfold cmpOk
  have h1 : RB.plain (.tuple xs) = true := by unfold RB.plain; exact plainL_of' fun x hx => (h x hx).1
  have h2 : (PyData.tuple xs).depth ≤ 64 := by
    unfold PyData.depth
    have := depthAll_le' (n := 60) fun x hx => (h x hx).2
    omega
  rw [h1, decide_eq_true h2]; rfl
theorem cmp_lst {xs : List D} (h : ∀ x ∈ xs, good x) : cmpOk (.list xs) = true := by
  unfold cmpOk
  have h1 : RB.plain (.list xs) = true := by unfold RB.plain; exact plainL_of' fun x hx => (h x hx).1
  have h2 : (PyData.list xs).depth ≤ 64 := by
    unfold PyData.depth
    have := depthAll_le' (n := 60) fun x hx => (h x hx).2
    omega
  rw [h1, decide_eq_true h2]; rfl
theorem eq_of {x y : D} (hx : cmpOk x = true) (hy : cmpOk y = true) : eqD x y = .ok (.bool (PyData.eqv x y)) := by
  unfold eqD
  rw [if_pos ⟨hx, hy⟩]
theorem ne_of {x y : D} (hx : cmpOk x = true) (hy : cmpOk y = true) : neD x y = .ok (.bool (!PyData.eqv x y)) := by
  unfold neD
  rw [if_pos ⟨hx, hy⟩]
theorem eqv_int (a b : Int) : PyData.eqv (.int a) (.int b) = decide (a = b) := by
  unfold PyData.eqv
  by_cases h : a = b
  · subst h; simp
  · rw [decide_eq_false h]; simpa using h
theorem t_isInt_none  : isInt .none = false := Eq.trans rfl rfl
theorem t_isInt_bool (x : Bool) : isInt (.bool x) = true := Eq.trans rfl rfl
theorem t_isInt_int (x : Int) : isInt (.int x) = true := Eq.trans rfl rfl
theorem t_isInt_str (x : Str) : isInt (.str x) = false := Eq.trans rfl rfl
theorem t_isInt_tuple (x : List D) : isInt (.tuple x) = false := Eq.trans rfl rfl
theorem t_isInt_list (x : List D) : isInt (.list x) = false := Eq.trans rfl rfl
theorem t_isBool_none  : isBool .none = false := Eq.trans rfl rfl
theorem t_isBool_bool (x : Bool) : isBool (.bool x) = true := Eq.trans rfl rfl
theorem t_isBool_int (x : Int) : isBool (.int x) = false := Eq.trans rfl rfl
theorem t_isBool_str (x : Str) : isBool (.str x) = false := Eq.trans rfl rfl
theorem t_isBool_tuple (x : List D) : isBool (.tuple x) = false := Eq.trans rfl rfl
theorem t_isBool_list (x : List D) : isBool (.list x) = false := Eq.trans rfl rfl
theorem t_isStr_none  : isStr .none = false := Eq.trans rfl rfl
theorem t_isStr_bool (x : Bool) : isStr (.bool x) = false := Eq.trans rfl rfl
theorem t_isStr_int (x : Int) : isStr (.int x) = false := Eq.trans rfl rfl
theorem t_isStr_str (x : Str) : isStr (.str x) = true := Eq.trans rfl rfl
theorem t_isStr_tuple (x : List D) : isStr (.tuple x) = false := Eq.trans rfl rfl
theorem t_isStr_list (x : List D) : isStr (.list x) = false := Eq.trans rfl rfl
theorem t_isTup_none  : isTup .none = false := Eq.trans rfl rfl
theorem t_isTup_bool (x : Bool) : isTup (.bool x) = false := Eq.trans rfl rfl
theorem t_isTup_int (x : Int) : isTup (.int x) = false := Eq.trans rfl rfl
theorem t_isTup_str (x : Str) : isTup (.str x) = false := Eq.trans rfl rfl
theorem t_isTup_tuple (x : List D) : isTup (.tuple x) = true := Eq.trans rfl rfl
theorem t_isTup_list (x : List D) : isTup (.list x) = false := Eq.trans rfl rfl
theorem t_isLst_none  : isLst .none = false := Eq.trans rfl rfl
theorem t_isLst_bool (x : Bool) : isLst (.bool x) = false := Eq.trans rfl rfl
theorem t_isLst_int (x : Int) : isLst (.int x) = false := Eq.trans rfl rfl
theorem t_isLst_str (x : Str) : isLst (.str x) = false := Eq.trans rfl rfl
theorem t_isLst_tuple (x : List D) : isLst (.tuple x) = false := Eq.trans rfl rfl
theorem t_isLst_list (x : List D) : isLst (.list x) = true := Eq.trans rfl rfl
theorem t_nc0 : ((0 : Nat) : Int) = 0 := Eq.trans rfl rfl
theorem t_nc1 : ((1 : Nat) : Int) = 1 := Eq.trans rfl rfl
theorem t_nc2 : ((2 : Nat) : Int) = 2 := Eq.trans rfl rfl
theorem t_nc3 : ((3 : Nat) : Int) = 3 := Eq.trans rfl rfl
theorem t_nc4 : ((4 : Nat) : Int) = 4 := Eq.trans rfl rfl
theorem t_nc5 : ((5 : Nat) : Int) = 5 := Eq.trans rfl rfl
theorem t_nc6 : ((6 : Nat) : Int) = 6 := Eq.trans rfl rfl
theorem t_nc7 : ((7 : Nat) : Int) = 7 := Eq.trans rfl rfl
theorem t_nc8 : ((8 : Nat) : Int) = 8 := Eq.trans rfl rfl
theorem t_nc9 : ((9 : Nat) : Int) = 9 := Eq.trans rfl rfl
theorem t_nc10 : ((10 : Nat) : Int) = 10 := Eq.trans rfl rfl
theorem t_nc11 : ((11 : Nat) : Int) = 11 := Eq.trans rfl rfl
theorem t_nc12 : ((12 : Nat) : Int) = 12 := Eq.trans rfl rfl
theorem t_nc13 : ((13 : Nat) : Int) = 13 := Eq.trans rfl rfl
theorem t_nc14 : ((14 : Nat) : Int) = 14 := Eq.trans rfl rfl
theorem t_nc15 : ((15 : Nat) : Int) = 15 := Eq.trans rfl rfl
theorem t_nc16 : ((16 : Nat) : Int) = 16 := Eq.trans rfl rfl
theorem t_nc17 : ((17 : Nat) : Int) = 17 := Eq.trans rfl rfl
theorem t_nc18 : ((18 : Nat) : Int) = 18 := Eq.trans rfl rfl
theorem t_nc19 : ((19 : Nat) : Int) = 19 := Eq.trans rfl rfl
theorem t_nc20 : ((20 : Nat) : Int) = 20 := Eq.trans rfl rfl
theorem t_nc21 : ((21 : Nat) : Int) = 21 := Eq.trans rfl rfl
theorem t_nc22 : ((22 : Nat) : Int) = 22 := Eq.trans rfl rfl
theorem t_nc23 : ((23 : Nat) : Int) = 23 := Eq.trans rfl rfl
theorem t_nc24 : ((24 : Nat) : Int) = 24 := Eq.trans rfl rfl
theorem t_nc25 : ((25 : Nat) : Int) = 25 := Eq.trans rfl rfl
theorem t_nc26 : ((26 : Nat) : Int) = 26 := Eq.trans rfl rfl
theorem t_nc27 : ((27 : Nat) : Int) = 27 := Eq.trans rfl rfl
theorem t_nc28 : ((28 : Nat) : Int) = 28 := Eq.trans rfl rfl
theorem t_nc29 : ((29 : Nat) : Int) = 29 := Eq.trans rfl rfl
theorem t_nc30 : ((30 : Nat) : Int) = 30 := Eq.trans rfl rfl
theorem t_nc31 : ((31 : Nat) : Int) = 31 := Eq.trans rfl rfl
theorem t_nc32 : ((32 : Nat) : Int) = 32 := Eq.trans rfl rfl
end RB

set_option Elab.async false
set_option linter.all false
set_option maxRecDepth 100000
set_option maxHeartbeats 4000000
namespace RB
open PySem PySem.Spec PyProof.Rows L2
/-! ### plain lemmas about what is computed -/
/-! loops -/
/-- a loop whose turns all go on: a fold -/
theorem forL_fold {α : Type} {t : Tg} {body : Gam → R Fl} (rep : α → Gam → Prop) (step : α → D → α) : ∀ (ds : List D) (s : α) (Γ : Gam), rep s Γ →
    (∀ d ∈ ds, ∀ s Γ, rep s Γ → ∃ as, flatT t d = .ok as ∧ ∃ Γ', body (setG Γ as) = .ok (.nx Γ') ∧ rep (step s d) Γ') → ∃ Γ', forL t body ds Γ = .ok (.nx Γ') ∧ rep (ds.foldl step s) Γ'
  | [], s, Γ, h, _ => ⟨Γ, rfl, h⟩
  | d :: ds, s, Γ, h, H => by
    obtain ⟨as, e1, Γ', e2, h'⟩ := H d List.mem_cons_self s Γ h
    obtain ⟨Γ2, e3, h2⟩ := forL_fold rep step ds (step s d) Γ' h' fun x hx => H x (List.mem_cons_of_mem _ hx)
    refine ⟨Γ2, ?_, h2⟩
    unfold forL
    rw [e1, R.hard_ok, R.ok_bind, e2, R.ok_bind]
    exact e3
/-- .. the invariant knows how far it is -/
theorem forL_inv {t : Tg} {body : Gam → R Fl} : ∀ (ds : List D) (I : Nat → Gam → Prop) (Γ : Gam), I 0 Γ →
    (∀ i d, ds[i]? = some d → ∀ Γ, I i Γ → ∃ as, flatT t d = .ok as ∧ ∃ Γ', body (setG Γ as) = .ok (.nx Γ') ∧ I (i + 1) Γ') → ∃ Γ', forL t body ds Γ = .ok (.nx Γ') ∧ I ds.length Γ'
  | [], I, Γ, h, _ => ⟨Γ, rfl, h⟩
  | d :: ds, I, Γ, h, H => by
    obtain ⟨as, e1, Γ', e2, h'⟩ := H 0 d rfl Γ h
    obtain ⟨Γ2, e3, h2⟩ := forL_inv ds (fun i => I (i + 1)) Γ' h' fun i x hx => H (i + 1) x hx
    refine ⟨Γ2, ?_, h2⟩
    unfold forL
    rw [e1, R.hard_ok, R.ok_bind, e2, R.ok_bind]
    exact e3
/-- a loop that may return: hit tells what of which item -/
theorem forL_find {t : Tg} {body : Gam → R Fl} (I : Gam → Prop) (hit : D → Option D) : ∀ (ds : List D) (Γ : Gam), I Γ →
    (∀ d ∈ ds, ∀ Γ, I Γ → ∃ as, flatT t d = .ok as ∧ ((∃ r, hit d = some r ∧ body (setG Γ as) = .ok (.rt r)) ∨ (hit d = none ∧ ∃ Γ', body (setG Γ as) = .ok (.nx Γ') ∧ I Γ'))) →
    (∃ r, ds.findSome? hit = some r ∧ forL t body ds Γ = .ok (.rt r)) ∨ (ds.findSome? hit = none ∧ ∃ Γ', forL t body ds Γ = .ok (.nx Γ') ∧ I Γ')
  | [], Γ, h, _ => .inr ⟨rfl, Γ, rfl, h⟩
  | d :: ds, Γ, h, H => by
    obtain ⟨as, e1, q⟩ := H d List.mem_cons_self Γ h
    rcases q with ⟨r, e2, e3⟩ | ⟨e2, Γ', e3, h'⟩
    · refine .inl ⟨r, by rw [List.findSome?_cons, e2], ?_⟩
      unfold forL
      rw [e1, R.hard_ok, R.ok_bind, e3, R.ok_bind]
    · have ih := forL_find I hit ds Γ' h' fun x hx => H x (List.mem_cons_of_mem _ hx)
      have e4 : forL t body (d :: ds) Γ = forL t body ds Γ' := by
        rw [forL, e1, R.hard_ok, R.ok_bind, e3, R.ok_bind]
      rw [e4, List.findSome?_cons, e2]
      exact ih
/-! comprehensions -/
theorem compL_eq {t : Tg} {fi : Env → R Bool} {fe : Env → R D} {ε : Env} (f : D → Option D) : ∀ ds : List D,
    (∀ d ∈ ds, ∃ as, flatT t d = .ok as ∧ ((fi (setE ε as) = .ok true ∧ ∃ y, fe (setE ε as) = .ok y ∧ f d = some y) ∨ (fi (setE ε as) = .ok false ∧ f d = none))) → compL t fi fe ε ds = .ok (ds.filterMap f)
  | [], _ => rfl
  | d :: ds, H => by
    obtain ⟨as, e1, q⟩ := H d List.mem_cons_self
    have ih := compL_eq f ds fun x hx => H x (List.mem_cons_of_mem _ hx)
    rw [compL, e1, R.hard_ok, R.ok_bind]
    rcases q with ⟨e2, y, e3, e4⟩ | ⟨e2, e4⟩
    · rw [e2, R.hard_ok, R.ok_bind, if_pos rfl, e3, R.hard_ok, R.ok_bind, ih, R.ok_bind, List.filterMap_cons, e4]
    · rw [e2, R.hard_ok, R.ok_bind, if_neg (by decide), ih, List.filterMap_cons, e4]
theorem compL_map {t : Tg} {fi : Env → R Bool} {fe : Env → R D} {ε : Env} (f : D → D) : ∀ ds : List D,
    (∀ d ∈ ds, ∃ as, flatT t d = .ok as ∧ fi (setE ε as) = .ok true ∧ fe (setE ε as) = .ok (f d)) → compL t fi fe ε ds = .ok (ds.map f)
  | [], _ => rfl
  | d :: ds, H => by
    obtain ⟨as, e1, e2, e3⟩ := H d List.mem_cons_self
    have ih := compL_map f ds fun x hx => H x (List.mem_cons_of_mem _ hx)
    rw [compL, e1, R.hard_ok, R.ok_bind, e2, R.hard_ok, R.ok_bind, if_pos rfl, e3, R.hard_ok, R.ok_bind, ih, R.ok_bind, List.map_cons]
theorem rng_mem {lo : Int} {n : Nat} {d : D} (h : d ∈ rng lo n) : ∃ i : Nat, i < n ∧ d = .int (lo + (i : Nat)) := by
  unfold rng at h
  obtain ⟨i, hi, e⟩ := List.mem_map.mp h
  exact ⟨i, List.mem_range.mp hi, e.symm⟩
theorem atI_of {α : Type} {xs : List α} {i : Nat} {x : α} (h : xs[i]? = some x) : L2.atI xs (i : Int) = some x := L2.atI_nat h
end RB

set_option Elab.async false
set_option linter.all false
set_option maxRecDepth 100000
set_option maxHeartbeats 4000000
namespace Lib
open PySem RB
local macro_rules | `(tactic| simp_arith [$as,*]) => `(tactic| simp only [view, freeze, ev_seq, ev_seq1, ev_seq2, ev_seq3, ev_seq4, ev_seq5, ev_ret, ev_ret1, ev_ret2, ev_retN, ev_nil, ev_bk, ev_ct, ev_if, ev_ifT, ev_ifF, ev_ifX, ev_set, ev_set0, ev_set1, ev_set3, ev_drop, ev_drop1, ev_drop2, ev_own, ev_own0, ev_own1, ev_unp, ev_unp1, ev_unp2, ev_unp3, ev_app, ev_app0, ev_app1, ev_app2, ev_put, ev_put1, ev_put2, ev_aug, ev_aug1, ev_aug2, ev_for, ev_for0, ev_forN, ev_con, ev_var, ev_var1, ev_op2, ev_op2k, ev_op1, ev_op1k, ev_nilL, ev_consL, ev_consk, ev_tup, ev_tupk, ev_dat, ev_datk, ev_call, ev_callk, ev_callF, ev_callFk, ev_usr, ev_usrk, ev_usr0, ev_test, ev_testk, ev_b, ev_bk1, ev_isN, ev_isNk, ev_notN, ev_notNk, ev_andT, ev_andT1, ev_andT0, ev_orT, ev_orT1, ev_orT0, ev_notT, ev_notTk, ev_andE, ev_andE1, ev_andE0, ev_orE, ev_orE1, ev_orE0, ev_notE, ev_notEk, ev_ifE, ev_ifE1, ev_ifE0, ev_ch, ev_ch0, ev_ch1, ev_ch2, ev_isi, ev_isi1, ev_isi2, ev_isi3, ev_isi4, ev_isi5, ev_isi6, ev_sl, ev_slk, ev_slL, ev_slT, ev_slS, ev_par0, ev_par, ev_park, ev_seqE, ev_seqEL, ev_seqET, ev_seqES, ev_rg, ev_rgk, ev_en, ev_enL, ev_enT, ev_enS, ev_zi, ev_ziLL, ev_ziTT, ev_ziLT, ev_ziTL, ev_ziSS, ev_comp, ev_compk, v_add, v_sub, v_neg, v_eq, v_ne, v_lt, v_le, v_gt, v_ge, v_mulL, v_mulR, v_p9, v_p18, v_mod, v_div, v_int, v_lenL, v_lenT, v_lenS, v_tupL, v_tupT, v_itL, v_itT, v_ixL, v_ixT, v_sum, v_all, v_any, v_range1, v_range2, v_catT, v_catL, i_1, ev_run, ev_end1, ev_end2, ev_end3, ev_vN, ev_vC, ev_sU, ev_sD, ev_sO, ev_fN, ev_fC, ev_zU, ev_zD, ev_zO, fl1, fl2, fl3, fl4, fl5, sg0, sg1, se0, se1, t_N1, t_N2, t_N3, t_N4, t_N5, t_N6, ev_tru, ev_truL, ev_truT, ev_truB, ev_truN, ev_truI, ev_par2, ev_par2k, ev_par3, ev_par3k, v_lenX, v_catX, v_slX, v_ixX, v_eqX, v_neX, v_inX, v_ninX, v_repX, ev_seqEX, ev_isiX, t_N7, t_X1, t_X2, t_X3, t_X4, t_X5, t_X6, ev_truX, t_isInt_none, t_isInt_bool, t_isInt_int, t_isInt_str, t_isInt_tuple, t_isInt_list, t_isBool_none, t_isBool_bool, t_isBool_int, t_isBool_str, t_isBool_tuple, t_isBool_list, t_isStr_none, t_isStr_bool, t_isStr_int, t_isStr_str, t_isStr_tuple, t_isStr_list, t_isTup_none, t_isTup_bool, t_isTup_int, t_isTup_str, t_isTup_tuple, t_isTup_list, t_isLst_none, t_isLst_bool, t_isLst_int, t_isLst_str, t_isLst_tuple, t_isLst_list, t_nc0, t_nc1, t_nc2, t_nc3, t_nc4, t_nc5, t_nc6, t_nc7, t_nc8, t_nc9, t_nc10, t_nc11, t_nc12, t_nc13, t_nc14, t_nc15, t_nc16, t_nc17, t_nc18, t_nc19, t_nc20, t_nc21, t_nc22, t_nc23, t_nc24, t_nc25, t_nc26, t_nc27, t_nc28, t_nc29, t_nc30, t_nc31, t_nc32, List.map_cons, List.map_nil, List.length_cons, List.length_nil, List.cons_append, List.nil_append, List.append_nil, List.set_cons_zero, List.set_cons_succ, List.getElem?_cons_zero, List.getElem?_cons_succ, List.getElem?_nil, List.any_cons, List.any_nil, R.hard_ok, noLst, noLsts, gam0, List.replicate, wipeE, if_true, if_false, Bool.false_eq_true, Bool.true_eq_false, Bool.not_true, Bool.not_false, Bool.true_or, Bool.false_or, Bool.or_true, Bool.or_false, Bool.true_and, Bool.false_and, Bool.and_true, Bool.and_false, Bool.and_self, Bool.or_self, decide_true, decide_false, Nat.reduceBEq, Nat.reduceAdd, Nat.reduceSub, Nat.reduceLT, Int.reduceLT, Int.reduceLE, Int.reduceNeg, Int.reduceAdd, Int.reduceSub, Int.reduceMul, Nat.reduceEqDiff, Int.reduceEq, Nat.reduceLeDiff, ↓reduceIte, List.isEmpty_cons, ev_sE, ev_zE, ev_seq6, ev_end4, ev_endF1, ev_endF2, ev_runF, $as,*])
theorem s_is_int (i : Int) : S_is_int [.int i] = .ok (.bool true) := rfl
theorem s_is_between (i a b : Int) : S_is_between [.int i, .int a, .int b] = .ok (.bool (decide (a ≤ i) && decide (i ≤ b))) := by
  simp_arith [S_is_between, g_is_between, s_is_int]
  by_cases h : a ≤ i <;> simp_arith [h]
theorem s_law_cell (ns : List Int) (p : Nat) : ∃ c : Int, S__law_cell [.list (ns.map .int), .int (p : Int)] = .ok (.int c) := by
  simp_arith [S__law_cell, g__law_cell, List.length_map]
  by_cases h : p < ns.length
  · refine ⟨ns[p], ?_⟩
    have e : (ns.map PyData.int)[p]? = some (.int ns[p]) := by simp [h]
    have h' : (p : Int) < (ns.length : Int) := by omega
    simp_arith [h', v_ixL e]
  · refine ⟨0, ?_⟩
    have h' : ¬ (p : Int) < (ns.length : Int) := by omega
    simp_arith [h']
theorem s_law_numbers (ns : List Int) (p many : Nat) (hm : many ≤ 1000) : ∃ xs : List Int, xs.length = many ∧ (∀ x ∈ xs, 0 ≤ x ∧ x < 10 ^ 9) ∧ S__law_numbers [.list (ns.map .int), .int (p : Int), .int (many : Int)] = .ok (.list (xs.map .int)) := by
  obtain ⟨c, hc⟩ := s_law_cell ns p
  simp_arith [S__law_numbers, g__law_numbers, hc, v_range1 (Nat.le_trans hm (by decide : 1000 ≤ 16777216))]
  have H := forL_inv (t := .nm 6) (body := b__law_numbers_1) (rng 0 many) (fun i Γ => ∃ (xs : List Int) (rest : Int) (s6 s7 : Sl), Γ = [.da (.list (ns.map .int)), .da (.int p), .da (.int many), .da (.int c), .ol (xs.map .int), .da (.int rest), s6, s7] ∧ xs.length = i ∧ ∀ x ∈ xs, 0 ≤ x ∧ x < 10 ^ 9)
    [.da (.list (ns.map .int)), .da (.int p), .da (.int many), .da (.int c), .ol [], .da (.int c), .un, .un] ⟨[], c, .un, .un, rfl, rfl, by simp⟩ ?_
  · obtain ⟨Γ', e, xs, rest, s6, s7, rfl, hl, hb⟩ := H
    rw [rng_len] at hl
    refine ⟨xs, hl, hb, ?_⟩
    simp_arith [e]
  · intro i d hd Γ ⟨xs, rest, s6, s7, e, hl, hb⟩
    subst e
    have hi : i < many := by
      have := (List.getElem?_eq_some_iff.mp hd).1
      rwa [rng_len] at this
    rw [rng_get hi] at hd
    cases hd
    have hx : (xs.map PyData.int).length < 16777216 := by rw [List.length_map]; omega
    refine ⟨[(6, .int (0 + i))], rfl, ?_⟩
    by_cases h : 1000000000000000000 ≤ c
    · simp_arith [b__law_numbers_1, h, hx, R.ok.injEq, Fl.nx.injEq, Fl.rt.injEq, exists_eq_left', exists_eq_left]
      refine ⟨xs ++ [rest % 1000000000], _, _, _, by rw [List.map_append]; rfl, by simp [hl], fun x hx => ?_⟩
      rcases List.mem_append.mp hx with hx | hx
      · exact hb x hx
      · simp only [List.mem_singleton] at hx; omega
    · simp_arith [b__law_numbers_1, h, hx, R.ok.injEq, Fl.nx.injEq, Fl.rt.injEq, exists_eq_left', exists_eq_left]
      refine ⟨xs ++ [_], _, _, _, by rw [List.map_append]; rfl, by simp [hl], fun x hx => ?_⟩
      rcases List.mem_append.mp hx with hx | hx
      · exact hb x hx
      · simp only [List.mem_singleton] at hx; omega
end Lib

set_option Elab.async false
set_option linter.all false
set_option maxRecDepth 100000
set_option maxHeartbeats 4000000
namespace Lib
open PySem RB
local macro_rules | `(tactic| simp_arith [$as,*]) => `(tactic| simp only [view, freeze, ev_seq, ev_seq1, ev_seq2, ev_seq3, ev_seq4, ev_seq5, ev_ret, ev_ret1, ev_ret2, ev_retN, ev_nil, ev_bk, ev_ct, ev_if, ev_ifT, ev_ifF, ev_ifX, ev_set, ev_set0, ev_set1, ev_set3, ev_drop, ev_drop1, ev_drop2, ev_own, ev_own0, ev_own1, ev_unp, ev_unp1, ev_unp2, ev_unp3, ev_app, ev_app0, ev_app1, ev_app2, ev_put, ev_put1, ev_put2, ev_aug, ev_aug1, ev_aug2, ev_for, ev_for0, ev_forN, ev_con, ev_var, ev_var1, ev_op2, ev_op2k, ev_op1, ev_op1k, ev_nilL, ev_consL, ev_consk, ev_tup, ev_tupk, ev_dat, ev_datk, ev_call, ev_callk, ev_callF, ev_callFk, ev_usr, ev_usrk, ev_usr0, ev_test, ev_testk, ev_b, ev_bk1, ev_isN, ev_isNk, ev_notN, ev_notNk, ev_andT, ev_andT1, ev_andT0, ev_orT, ev_orT1, ev_orT0, ev_notT, ev_notTk, ev_andE, ev_andE1, ev_andE0, ev_orE, ev_orE1, ev_orE0, ev_notE, ev_notEk, ev_ifE, ev_ifE1, ev_ifE0, ev_ch, ev_ch0, ev_ch1, ev_ch2, ev_isi, ev_isi1, ev_isi2, ev_isi3, ev_isi4, ev_isi5, ev_isi6, ev_sl, ev_slk, ev_slL, ev_slT, ev_slS, ev_par0, ev_par, ev_park, ev_seqE, ev_seqEL, ev_seqET, ev_seqES, ev_rg, ev_rgk, ev_en, ev_enL, ev_enT, ev_enS, ev_zi, ev_ziLL, ev_ziTT, ev_ziLT, ev_ziTL, ev_ziSS, ev_comp, ev_compk, v_add, v_sub, v_neg, v_eq, v_ne, v_lt, v_le, v_gt, v_ge, v_mulL, v_mulR, v_p9, v_p18, v_mod, v_div, v_int, v_lenL, v_lenT, v_lenS, v_tupL, v_tupT, v_itL, v_itT, v_ixL, v_ixT, v_sum, v_all, v_any, v_range1, v_range2, v_catT, v_catL, i_1, ev_run, ev_end1, ev_end2, ev_end3, ev_vN, ev_vC, ev_sU, ev_sD, ev_sO, ev_fN, ev_fC, ev_zU, ev_zD, ev_zO, fl1, fl2, fl3, fl4, fl5, sg0, sg1, se0, se1, t_N1, t_N2, t_N3, t_N4, t_N5, t_N6, ev_tru, ev_truL, ev_truT, ev_truB, ev_truN, ev_truI, ev_par2, ev_par2k, ev_par3, ev_par3k, v_lenX, v_catX, v_slX, v_ixX, v_eqX, v_neX, v_inX, v_ninX, v_repX, ev_seqEX, ev_isiX, t_N7, t_X1, t_X2, t_X3, t_X4, t_X5, t_X6, ev_truX, t_isInt_none, t_isInt_bool, t_isInt_int, t_isInt_str, t_isInt_tuple, t_isInt_list, t_isBool_none, t_isBool_bool, t_isBool_int, t_isBool_str, t_isBool_tuple, t_isBool_list, t_isStr_none, t_isStr_bool, t_isStr_int, t_isStr_str, t_isStr_tuple, t_isStr_list, t_isTup_none, t_isTup_bool, t_isTup_int, t_isTup_str, t_isTup_tuple, t_isTup_list, t_isLst_none, t_isLst_bool, t_isLst_int, t_isLst_str, t_isLst_tuple, t_isLst_list, t_nc0, t_nc1, t_nc2, t_nc3, t_nc4, t_nc5, t_nc6, t_nc7, t_nc8, t_nc9, t_nc10, t_nc11, t_nc12, t_nc13, t_nc14, t_nc15, t_nc16, t_nc17, t_nc18, t_nc19, t_nc20, t_nc21, t_nc22, t_nc23, t_nc24, t_nc25, t_nc26, t_nc27, t_nc28, t_nc29, t_nc30, t_nc31, t_nc32, List.map_cons, List.map_nil, List.length_cons, List.length_nil, List.cons_append, List.nil_append, List.append_nil, List.set_cons_zero, List.set_cons_succ, List.getElem?_cons_zero, List.getElem?_cons_succ, List.getElem?_nil, List.any_cons, List.any_nil, R.hard_ok, noLst, noLsts, gam0, List.replicate, wipeE, if_true, if_false, Bool.false_eq_true, Bool.true_eq_false, Bool.not_true, Bool.not_false, Bool.true_or, Bool.false_or, Bool.or_true, Bool.or_false, Bool.true_and, Bool.false_and, Bool.and_true, Bool.and_false, Bool.and_self, Bool.or_self, decide_true, decide_false, Nat.reduceBEq, Nat.reduceAdd, Nat.reduceSub, Nat.reduceLT, Int.reduceLT, Int.reduceLE, Int.reduceNeg, Int.reduceAdd, Int.reduceSub, Int.reduceMul, Nat.reduceEqDiff, Int.reduceEq, Nat.reduceLeDiff, ↓reduceIte, List.isEmpty_cons, ev_sE, ev_zE, ev_seq6, ev_end4, ev_endF1, ev_endF2, ev_runF, $as,*])
/-! ### _law_same -/
theorem v_neB (a b : Bool) : neD (.bool a) (.bool b) = .ok (.bool (!(a == b))) := by
  unfold neD
  rw [if_pos ⟨rfl, rfl⟩]
  rfl
theorem v_eqB (a b : Bool) : eqD (.bool a) (.bool b) = .ok (.bool (a == b)) := by
  unfold eqD
  rw [if_pos ⟨rfl, rfl⟩]
  rfl
theorem v_eqS (a b : Str) : eqD (.str a) (.str b) = .ok (.bool (a == b)) := by
  unfold eqD
  rw [if_pos ⟨rfl, rfl⟩]
  rfl
theorem same_int (n : Nat) (a b : Int) : S__law_same (n + 1) [.int a, .int b] = .ok (.bool (decide (a = b))) := by
  simp_arith [S__law_same, g__law_same, v_neB, beq_self_eq_true]
theorem same_none (n : Nat) : S__law_same (n + 1) [.none, .none] = .ok (.bool true) := by
  simp_arith [S__law_same, g__law_same]
theorem same_bool (n : Nat) (a b : Bool) : S__law_same (n + 1) [.bool a, .bool b] = .ok (.bool (a == b)) := by
  simp_arith [S__law_same, g__law_same, v_neB, beq_self_eq_true, v_eqB]
theorem same_str (n : Nat) (a b : Str) : S__law_same (n + 1) [.str a, .str b] = .ok (.bool (a == b)) := by
  simp_arith [S__law_same, g__law_same, v_neB, beq_self_eq_true, v_eqS]
theorem same_tup (n : Nat) (xs ys : List D) (hl : xs.length = ys.length) (hz : xs.length ≤ 1000000) (h : ∀ (i : Nat) (x y : D), xs[i]? = some x → ys[i]? = some y → S__law_same n [x, y] = .ok (.bool true)) : S__law_same (n + 1) [.tuple xs, .tuple ys] = .ok (.bool true) := by
  have hz' : ys.length ≤ 16777216 := by omega
  simp_arith [S__law_same, g__law_same, hl, v_range1 hz', decide_eq_true (rfl : (ys.length : Int) = ys.length)]
  obtain ⟨Γ', e, s2, rfl⟩ := forL_inv (t := .nm 2) (body := b__law_same_1 (S__law_same n)) (rng 0 ys.length) (fun i Γ => ∃ s2, Γ = [.da (.tuple xs), .da (.tuple ys), s2]) [.da (.tuple xs), .da (.tuple ys), .un] ⟨_, rfl⟩ fun i d hd Γ ⟨s2, e⟩ => by
    subst e
    have hi : i < ys.length := by
      have := (List.getElem?_eq_some_iff.mp hd).1
      rwa [rng_len] at this
    rw [rng_get hi] at hd
    cases hd
    have e1 : xs[i]? = some (xs[i]'(by omega)) := List.getElem?_eq_getElem (by omega)
    have e2 : ys[i]? = some ys[i] := List.getElem?_eq_getElem hi
    refine ⟨[(2, .int (0 + i))], rfl, ?_⟩
    simp_arith [b__law_same_1, Int.zero_add, v_ixT e1, v_ixT e2, h i _ _ e1 e2, R.ok.injEq, Fl.nx.injEq, Fl.rt.injEq, exists_eq_left', exists_eq_left]
    exact ⟨_, rfl⟩
  simp_arith [e]
/-- what _law_same calls the same as itself -/
def sameB : Nat → D → Bool
  | 0, _ => false
  | n + 1, .tuple xs => decide (xs.length ≤ 1000000) && xs.all (sameB n)
  | _ + 1, .int _ => true
  | _ + 1, .str _ => true
  | _ + 1, .bool _ => true
  | _ + 1, .none => true
  | _ + 1, _ => false
theorem same_refl : ∀ (n : Nat) (d : D), sameB n d = true → S__law_same n [d, d] = .ok (.bool true)
  | 0, _, h => nomatch h
  | n + 1, .tuple xs, h => by
    unfold sameB at h
    rw [Bool.and_eq_true, List.all_eq_true] at h
    exact same_tup n xs xs rfl (of_decide_eq_true h.1) fun i x y e1 e2 => by
      rw [e1] at e2; cases e2
      exact same_refl n x (h.2 x (List.mem_of_getElem? e1))
  | n + 1, .int i, _ => by rw [same_int, decide_eq_true rfl]
  | n + 1, .str i, _ => by rw [same_str]; simp
  | n + 1, .bool i, _ => by rw [same_bool]; simp
  | n + 1, .none, _ => same_none n
  | n + 1, .list _, h => nomatch h
  | n + 1, .dict _, h => nomatch h
/-! ### order -/
theorem lt_tupI (a b : Int) (xs ys : List D) : PySem.W.dataLt (.tuple (.int a :: xs)) (.tuple (.int b :: ys)) = if a = b then PySem.W.dataLt (.tuple xs) (.tuple ys) else decide (a < b) := by
  have q : PySem.W.alike (.int a) (.int b) = true := rfl
  by_cases h : a = b
  · rw [if_pos h]
    have e : PyData.eqv (.int a) (.int b) = true := by subst h; unfold PyData.eqv; simp
    exact PySem.W.dataLt_all_yes q e
  · rw [if_neg h]
    have e : PyData.eqv (.int a) (.int b) = false := by unfold PyData.eqv; simpa using h
    exact (PySem.W.dataLt_all_no q e).trans (PySem.W.dataLt_int a b)
theorem lt_nil : PySem.W.dataLt (.tuple []) (.tuple []) = false := PySem.W.dataLt_self _
theorem min_first {x : D} : ∀ {xs : List D}, (∀ y ∈ xs, PySem.W.dataLt y x = false) → PySem.W.minD x xs = x
  | [], _ => rfl
  | y :: ys, h => by
    unfold PySem.W.minD
    rw [List.foldl_cons, if_neg (by rw [h y List.mem_cons_self]; decide)]
    exact min_first (xs := ys) fun z hz => h z (List.mem_cons_of_mem _ hz)
theorem v_minL {x : D} {xs : List D} (o : OrdOk (x :: xs)) (h : ∀ y ∈ xs, PySem.W.dataLt y x = false) : on1 minG [.list (x :: xs)] = .ok x := by
  show given_ (OrdOk (x :: xs)) (.ok (PySem.W.minD x xs)) = _
  rw [given_pos o, min_first h]
theorem depthAll_le {n : Nat} : ∀ {xs : List D}, (∀ x ∈ xs, x.depth ≤ n) → PyData.depthAll xs ≤ n
  | [], _ => Nat.zero_le _
  | x :: xs, h => by
    unfold PyData.depthAll
    exact Nat.max_le.mpr ⟨h x List.mem_cons_self, depthAll_le fun y hy => h y (List.mem_cons_of_mem _ hy)⟩
theorem plainL_of : ∀ {xs : List D}, (∀ x ∈ xs, RB.plain x = true) → plainL xs = true
  | [], _ => rfl
  | x :: xs, h => by
    unfold plainL
    rw [h x List.mem_cons_self, plainL_of fun y hy => h y (List.mem_cons_of_mem _ hy)]; rfl
theorem v_eqNil (xs : List D) (h : ∀ x ∈ xs, RB.plain x = true ∧ x.depth ≤ 60) : eqD (.list xs) (.list []) = .ok (.bool xs.isEmpty) := by
  unfold eqD
  have e : cmpOk (.list xs) = true := by
    unfold cmpOk
    have h1 : RB.plain (.list xs) = true := by unfold RB.plain; exact plainL_of fun x hx => (h x hx).1
    have h2 : (PyData.list xs).depth ≤ 64 := by
      unfold PyData.depth
      have := depthAll_le (n := 60) fun x hx => (h x hx).2
      omega
    rw [h1, decide_eq_true h2]; rfl
  rw [if_pos ⟨e, rfl⟩]
  cases xs with
  | nil => rfl
  | cons x xs => rfl
theorem v_neNil (xs : List D) (h : ∀ x ∈ xs, RB.plain x = true ∧ x.depth ≤ 60) : neD (.list xs) (.list []) = .ok (.bool (!xs.isEmpty)) := by
  unfold neD
  have e : cmpOk (.list xs) = true := by
    unfold cmpOk
    have h1 : RB.plain (.list xs) = true := by unfold RB.plain; exact plainL_of fun x hx => (h x hx).1
    have h2 : (PyData.list xs).depth ≤ 64 := by
      unfold PyData.depth
      have := depthAll_le (n := 60) fun x hx => (h x hx).2
      omega
    rw [h1, decide_eq_true h2]; rfl
  rw [if_pos ⟨e, rfl⟩]
  cases xs with
  | nil => rfl
  | cons x xs => rfl
/-! ### rng, comprehensions -/
theorem rng0 (n : Nat) : rng 0 n = (List.range n).map fun i => PyData.int (i : Nat) := by
  unfold rng
  exact List.map_congr_left fun i _ => by rw [Int.zero_add]
theorem compL_true {t : Tg} {fi : RB.Env → R Bool} {fe : RB.Env → R D} {ε : RB.Env} (ds : List D) (H : ∀ d ∈ ds, ∃ as, flatT t d = .ok as ∧ fi (setE ε as) = .ok true ∧ fe (setE ε as) = .ok (.bool true)) : compL t fi fe ε ds = .ok ((List.replicate ds.length true).map .bool) := by
  rw [compL_map (fun _ => .bool true) ds H, List.map_replicate, List.map_const']
theorem all_rep (n : Nat) : (List.replicate n true).all id = true := by
  rw [List.all_eq_true]
  intro x hx
  exact (List.mem_replicate.mp hx).2
end Lib

set_option Elab.async false
set_option linter.all false
set_option maxRecDepth 100000
set_option maxHeartbeats 4000000
namespace Lib
open PySem RB
local macro_rules | `(tactic| simp_arith [$as,*]) => `(tactic| simp only [view, freeze, ev_seq, ev_seq1, ev_seq2, ev_seq3, ev_seq4, ev_seq5, ev_ret, ev_ret1, ev_ret2, ev_retN, ev_nil, ev_bk, ev_ct, ev_if, ev_ifT, ev_ifF, ev_ifX, ev_set, ev_set0, ev_set1, ev_set3, ev_drop, ev_drop1, ev_drop2, ev_own, ev_own0, ev_own1, ev_unp, ev_unp1, ev_unp2, ev_unp3, ev_app, ev_app0, ev_app1, ev_app2, ev_put, ev_put1, ev_put2, ev_aug, ev_aug1, ev_aug2, ev_for, ev_for0, ev_forN, ev_con, ev_var, ev_var1, ev_op2, ev_op2k, ev_op1, ev_op1k, ev_nilL, ev_consL, ev_consk, ev_tup, ev_tupk, ev_dat, ev_datk, ev_call, ev_callk, ev_callF, ev_callFk, ev_usr, ev_usrk, ev_usr0, ev_test, ev_testk, ev_b, ev_bk1, ev_isN, ev_isNk, ev_notN, ev_notNk, ev_andT, ev_andT1, ev_andT0, ev_orT, ev_orT1, ev_orT0, ev_notT, ev_notTk, ev_andE, ev_andE1, ev_andE0, ev_orE, ev_orE1, ev_orE0, ev_notE, ev_notEk, ev_ifE, ev_ifE1, ev_ifE0, ev_ch, ev_ch0, ev_ch1, ev_ch2, ev_isi, ev_isi1, ev_isi2, ev_isi3, ev_isi4, ev_isi5, ev_isi6, ev_sl, ev_slk, ev_slL, ev_slT, ev_slS, ev_par0, ev_par, ev_park, ev_seqE, ev_seqEL, ev_seqET, ev_seqES, ev_rg, ev_rgk, ev_en, ev_enL, ev_enT, ev_enS, ev_zi, ev_ziLL, ev_ziTT, ev_ziLT, ev_ziTL, ev_ziSS, ev_comp, ev_compk, v_add, v_sub, v_neg, v_eq, v_ne, v_lt, v_le, v_gt, v_ge, v_mulL, v_mulR, v_p9, v_p18, v_mod, v_div, v_int, v_lenL, v_lenT, v_lenS, v_tupL, v_tupT, v_itL, v_itT, v_ixL, v_ixT, v_sum, v_all, v_any, v_range1, v_range2, v_catT, v_catL, i_1, ev_run, ev_end1, ev_end2, ev_end3, ev_vN, ev_vC, ev_sU, ev_sD, ev_sO, ev_fN, ev_fC, ev_zU, ev_zD, ev_zO, fl1, fl2, fl3, fl4, fl5, sg0, sg1, se0, se1, t_N1, t_N2, t_N3, t_N4, t_N5, t_N6, ev_tru, ev_truL, ev_truT, ev_truB, ev_truN, ev_truI, ev_par2, ev_par2k, ev_par3, ev_par3k, v_lenX, v_catX, v_slX, v_ixX, v_eqX, v_neX, v_inX, v_ninX, v_repX, ev_seqEX, ev_isiX, t_N7, t_X1, t_X2, t_X3, t_X4, t_X5, t_X6, ev_truX, t_isInt_none, t_isInt_bool, t_isInt_int, t_isInt_str, t_isInt_tuple, t_isInt_list, t_isBool_none, t_isBool_bool, t_isBool_int, t_isBool_str, t_isBool_tuple, t_isBool_list, t_isStr_none, t_isStr_bool, t_isStr_int, t_isStr_str, t_isStr_tuple, t_isStr_list, t_isTup_none, t_isTup_bool, t_isTup_int, t_isTup_str, t_isTup_tuple, t_isTup_list, t_isLst_none, t_isLst_bool, t_isLst_int, t_isLst_str, t_isLst_tuple, t_isLst_list, t_nc0, t_nc1, t_nc2, t_nc3, t_nc4, t_nc5, t_nc6, t_nc7, t_nc8, t_nc9, t_nc10, t_nc11, t_nc12, t_nc13, t_nc14, t_nc15, t_nc16, t_nc17, t_nc18, t_nc19, t_nc20, t_nc21, t_nc22, t_nc23, t_nc24, t_nc25, t_nc26, t_nc27, t_nc28, t_nc29, t_nc30, t_nc31, t_nc32, List.map_cons, List.map_nil, List.length_cons, List.length_nil, List.cons_append, List.nil_append, List.append_nil, List.set_cons_zero, List.set_cons_succ, List.getElem?_cons_zero, List.getElem?_cons_succ, List.getElem?_nil, List.any_cons, List.any_nil, R.hard_ok, noLst, noLsts, gam0, List.replicate, wipeE, if_true, if_false, Bool.false_eq_true, Bool.true_eq_false, Bool.not_true, Bool.not_false, Bool.true_or, Bool.false_or, Bool.or_true, Bool.or_false, Bool.true_and, Bool.false_and, Bool.and_true, Bool.and_false, Bool.and_self, Bool.or_self, decide_true, decide_false, Nat.reduceBEq, Nat.reduceAdd, Nat.reduceSub, Nat.reduceLT, Int.reduceLT, Int.reduceLE, Int.reduceNeg, Int.reduceAdd, Int.reduceSub, Int.reduceMul, Nat.reduceEqDiff, Int.reduceEq, Nat.reduceLeDiff, ↓reduceIte, List.isEmpty_cons, ev_sE, ev_zE, ev_seq6, ev_end4, ev_endF1, ev_endF2, ev_runF, $as,*])
theorem forR_find {i : Nat} {body : Gam → R Fl} (I : Gam → Prop) (g : Nat → Option D) (n : Nat) (Γ : Gam) (h : I Γ)
    (H : ∀ k, k < n → ∀ Γ, I Γ → (∃ r, g k = some r ∧ body (Γ.set i (.da (.int (k : Int)))) = .ok (.rt r)) ∨ (g k = none ∧ ∃ Γ', body (Γ.set i (.da (.int (k : Int)))) = .ok (.nx Γ') ∧ I Γ')) :
    (∃ r, (List.range n).findSome? g = some r ∧ forL (.nm i) body (rng 0 n) Γ = .ok (.rt r)) ∨ ((List.range n).findSome? g = none ∧ ∃ Γ', forL (.nm i) body (rng 0 n) Γ = .ok (.nx Γ') ∧ I Γ') := by
  have q := forL_find (t := .nm i) (body := body) I (fun d => match d with
    | .int a => g a.toNat
    | _ => none) (rng 0 n) Γ h fun d hd Γ hΓ => by
      obtain ⟨k, hk, e⟩ := rng_mem hd
      rw [Int.zero_add] at e
      subst e
      exact ⟨_, rfl, H k hk Γ hΓ⟩
  rw [rng0, List.findSome?_map] at q
  rw [rng0]
  exact q
theorem forR_inv {i : Nat} {body : Gam → R Fl} (n : Nat) (I : Nat → Gam → Prop) (Γ : Gam) (h : I 0 Γ) (H : ∀ k, k < n → ∀ Γ, I k Γ → ∃ Γ', body (Γ.set i (.da (.int (k : Int)))) = .ok (.nx Γ') ∧ I (k + 1) Γ') : ∃ Γ', forL (.nm i) body (rng 0 n) Γ = .ok (.nx Γ') ∧ I n Γ' := by
  have q := forL_inv (t := .nm i) (body := body) (rng 0 n) I Γ h fun k d hd Γ hΓ => by
    have hk : k < n := by
      have := (List.getElem?_eq_some_iff.mp hd).1
      rwa [rng_len] at this
    rw [rng_get hk, Int.zero_add] at hd
    cases hd
    exact ⟨_, rfl, H k hk Γ hΓ⟩
  rw [rng_len] at q
  exact q
theorem compR_eq {i : Nat} {fi : RB.Env → R Bool} {fe : RB.Env → R D} {ε : RB.Env} (g : Nat → Option D) (n : Nat)
    (H : ∀ k, k < n → (fi (ε.set i (some (.int (k : Int)))) = .ok true ∧ ∃ y, fe (ε.set i (some (.int (k : Int)))) = .ok y ∧ g k = some y) ∨ (fi (ε.set i (some (.int (k : Int)))) = .ok false ∧ g k = none)) : compL (.nm i) fi fe ε (rng 0 n) = .ok ((List.range n).filterMap g) := by
  rw [compL_eq (fun d => match d with
    | .int a => g a.toNat
    | _ => none) (rng 0 n) fun d hd => by
      obtain ⟨k, hk, e⟩ := rng_mem hd
      rw [Int.zero_add] at e
      subst e
      exact ⟨_, rfl, H k hk⟩]
  rw [rng0, List.filterMap_map]
  rfl
theorem compR_map {i : Nat} {fe : RB.Env → R D} {ε : RB.Env} (f : Nat → D) (n : Nat)
    (H : ∀ k, k < n → fe (ε.set i (some (.int (k : Int)))) = .ok (f k)) : compL (.nm i) (fun _ => .ok true) fe ε (rng 0 n) = .ok ((List.range n).map f) := by
  rw [compR_eq (fun k => some (f k)) n fun k hk => .inl ⟨rfl, f k, H k hk, rfl⟩]
  congr 1
  induction (List.range n) with
  | nil => rfl
  | cons x xs ih => rw [List.filterMap_cons, List.map_cons, ih]
/-! rows -/
def SeqD (c : D) (xs : List D) : Prop := c = .tuple xs ∨ c = .list xs
theorem s_is_row {c : D} {xs : List D} (h : SeqD c xs) : S_is_row [c] = .ok (.bool true) := by rcases h with rfl | rfl <;> rfl
theorem v_lenQ {c : D} {xs : List D} (h : SeqD c xs) : lenG [c] = .ok (.int xs.length) := by rcases h with rfl | rfl <;> rfl
theorem v_seqQ {c : D} {xs : List D} (h : SeqD c xs) : seqEK (.ok c) = .ok xs := by rcases h with rfl | rfl <;> rfl
theorem v_enQ {c : D} {xs : List D} (h : SeqD c xs) : enK (.ok c) = .ok (enumD xs) := by rcases h with rfl | rfl <;> rfl
theorem v_ziQ {c e : D} {xs ys : List D} (h : SeqD c xs) (h2 : SeqD e ys) : ziK (.ok c) (.ok e) = .ok (zipD xs ys) := by rcases h with rfl | rfl <;> rcases h2 with rfl | rfl <;> rfl
theorem s_is_row_of {c : D} {xs : List D} (h : SeqD c xs) (lo hi : Int) : S_is_row_of [c, .int lo, .int hi] = .ok (.bool (decide (lo ≤ xs.length) && decide ((xs.length : Int) ≤ hi))) := by
  simp_arith [S_is_row_of, g_is_row_of, s_is_row h, v_lenQ h]
  by_cases q : lo ≤ (xs.length : Int) <;> simp_arith [q]
theorem s_want_int {v lo hi at_ : Int} (h1 : lo ≤ v) (h2 : v ≤ hi) : S_want_int [.int v, .int lo, .int hi, .int at_] = .ok .none := by
  simp_arith [S_want_int, g_want_int, s_is_between, h1, h2]
end Lib

set_option Elab.async false
set_option linter.all false
set_option maxRecDepth 100000
set_option maxHeartbeats 4000000
namespace Lib
open PySem RB
local macro_rules | `(tactic| simp_arith [$as,*]) => `(tactic| simp only [view, freeze, ev_seq, ev_seq1, ev_seq2, ev_seq3, ev_seq4, ev_seq5, ev_ret, ev_ret1, ev_ret2, ev_retN, ev_nil, ev_bk, ev_ct, ev_if, ev_ifT, ev_ifF, ev_ifX, ev_set, ev_set0, ev_set1, ev_set3, ev_drop, ev_drop1, ev_drop2, ev_own, ev_own0, ev_own1, ev_unp, ev_unp1, ev_unp2, ev_unp3, ev_app, ev_app0, ev_app1, ev_app2, ev_put, ev_put1, ev_put2, ev_aug, ev_aug1, ev_aug2, ev_for, ev_for0, ev_forN, ev_con, ev_var, ev_var1, ev_op2, ev_op2k, ev_op1, ev_op1k, ev_nilL, ev_consL, ev_consk, ev_tup, ev_tupk, ev_dat, ev_datk, ev_call, ev_callk, ev_callF, ev_callFk, ev_usr, ev_usrk, ev_usr0, ev_test, ev_testk, ev_b, ev_bk1, ev_isN, ev_isNk, ev_notN, ev_notNk, ev_andT, ev_andT1, ev_andT0, ev_orT, ev_orT1, ev_orT0, ev_notT, ev_notTk, ev_andE, ev_andE1, ev_andE0, ev_orE, ev_orE1, ev_orE0, ev_notE, ev_notEk, ev_ifE, ev_ifE1, ev_ifE0, ev_ch, ev_ch0, ev_ch1, ev_ch2, ev_isi, ev_isi1, ev_isi2, ev_isi3, ev_isi4, ev_isi5, ev_isi6, ev_sl, ev_slk, ev_slL, ev_slT, ev_slS, ev_par0, ev_par, ev_park, ev_seqE, ev_seqEL, ev_seqET, ev_seqES, ev_rg, ev_rgk, ev_en, ev_enL, ev_enT, ev_enS, ev_zi, ev_ziLL, ev_ziTT, ev_ziLT, ev_ziTL, ev_ziSS, ev_comp, ev_compk, v_add, v_sub, v_neg, v_eq, v_ne, v_lt, v_le, v_gt, v_ge, v_mulL, v_mulR, v_p9, v_p18, v_mod, v_div, v_int, v_lenL, v_lenT, v_lenS, v_tupL, v_tupT, v_itL, v_itT, v_ixL, v_ixT, v_sum, v_all, v_any, v_range1, v_range2, v_catT, v_catL, i_1, ev_run, ev_end1, ev_end2, ev_end3, ev_vN, ev_vC, ev_sU, ev_sD, ev_sO, ev_fN, ev_fC, ev_zU, ev_zD, ev_zO, fl1, fl2, fl3, fl4, fl5, sg0, sg1, se0, se1, t_N1, t_N2, t_N3, t_N4, t_N5, t_N6, ev_tru, ev_truL, ev_truT, ev_truB, ev_truN, ev_truI, ev_par2, ev_par2k, ev_par3, ev_par3k, v_lenX, v_catX, v_slX, v_ixX, v_eqX, v_neX, v_inX, v_ninX, v_repX, ev_seqEX, ev_isiX, t_N7, t_X1, t_X2, t_X3, t_X4, t_X5, t_X6, ev_truX, t_isInt_none, t_isInt_bool, t_isInt_int, t_isInt_str, t_isInt_tuple, t_isInt_list, t_isBool_none, t_isBool_bool, t_isBool_int, t_isBool_str, t_isBool_tuple, t_isBool_list, t_isStr_none, t_isStr_bool, t_isStr_int, t_isStr_str, t_isStr_tuple, t_isStr_list, t_isTup_none, t_isTup_bool, t_isTup_int, t_isTup_str, t_isTup_tuple, t_isTup_list, t_isLst_none, t_isLst_bool, t_isLst_int, t_isLst_str, t_isLst_tuple, t_isLst_list, t_nc0, t_nc1, t_nc2, t_nc3, t_nc4, t_nc5, t_nc6, t_nc7, t_nc8, t_nc9, t_nc10, t_nc11, t_nc12, t_nc13, t_nc14, t_nc15, t_nc16, t_nc17, t_nc18, t_nc19, t_nc20, t_nc21, t_nc22, t_nc23, t_nc24, t_nc25, t_nc26, t_nc27, t_nc28, t_nc29, t_nc30, t_nc31, t_nc32, List.map_cons, List.map_nil, List.length_cons, List.length_nil, List.cons_append, List.nil_append, List.append_nil, List.set_cons_zero, List.set_cons_succ, List.getElem?_cons_zero, List.getElem?_cons_succ, List.getElem?_nil, List.any_cons, List.any_nil, R.hard_ok, noLst, noLsts, gam0, List.replicate, wipeE, if_true, if_false, Bool.false_eq_true, Bool.true_eq_false, Bool.not_true, Bool.not_false, Bool.true_or, Bool.false_or, Bool.or_true, Bool.or_false, Bool.true_and, Bool.false_and, Bool.and_true, Bool.and_false, Bool.and_self, Bool.or_self, decide_true, decide_false, Nat.reduceBEq, Nat.reduceAdd, Nat.reduceSub, Nat.reduceLT, Int.reduceLT, Int.reduceLE, Int.reduceNeg, Int.reduceAdd, Int.reduceSub, Int.reduceMul, Nat.reduceEqDiff, Int.reduceEq, Nat.reduceLeDiff, ↓reduceIte, List.isEmpty_cons, ev_sE, ev_zE, ev_seq6, ev_end4, ev_endF1, ev_endF2, ev_runF, $as,*])
def AZ : List Nat := [97, 98, 99, 100, 101, 102, 103, 104, 105, 106, 107, 108, 109, 110, 111, 112, 113, 114, 115, 116, 117, 118, 119, 120, 121, 122]
theorem c_az : PyData.str "abcdefghijklmnopqrstuvwxyz" = T AZ := congrArg PyData.str (by decide +kernel)
theorem c_af : PyData.str "abcdef" = T [97, 98, 99, 100, 101, 102] := congrArg PyData.str (by decide +kernel)
theorem c_nil : PyData.str "" = T [] := congrArg PyData.str (by decide +kernel)
theorem s_has_only (a b : List Nat) : S_has_only [T a, T b] = .ok (.bool (a.all fun c => decide (c ∈ b))) := by
  have H : ∀ l : List Nat, compL (.nm 2) (fun _ => .ok true) (op2E inD (var 2) (var 1)) [some (T a), some (T b), none] (l.map fun c => T [c]) = .ok ((l.map fun c => decide (c ∈ b)).map PyData.bool) := fun l => by
    induction l with
    | nil => rfl
    | cons c l ih =>
      rw [List.map_cons, compL]
      simp_arith [R.ok_bind]
      rw [ih]
      rfl
  simp_arith [S_has_only, g_has_only, H, v_all, List.all_map]
  rfl
/-- a text of the small letters -/
def az (a : List Nat) : Bool := a.all fun c => decide (c ∈ AZ)
theorem s_is_letters (a : List Nat) : S_is_letters [T a] = .ok (.bool (az a)) := by
  simp_arith [S_is_letters, g_is_letters, c_az, s_has_only]
  rfl
theorem s_is_letters_not {d : D} (h : isStr d = false) (h2 : ∀ kv, d ≠ .dict kv) : S_is_letters [d] = .ok (.bool false) := by
  cases d with
  | str x => cases h
  | dict kv => exact absurd rfl (h2 kv)
  | _ => simp_arith [S_is_letters, g_is_letters]
theorem s_is_letters_of (a : List Nat) (lo hi : Int) : S_is_letters_of [T a, .int lo, .int hi] = .ok (.bool (az a && (decide (lo ≤ a.length) && decide ((a.length : Int) ≤ hi)))) := by
  simp_arith [S_is_letters_of, g_is_letters_of, s_is_letters]
  cases az a with
  | false => simp_arith []
  | true =>
    by_cases q : lo ≤ (a.length : Int) <;> simp_arith [q]
theorem s_is_letters_of_not {d : D} (h : isStr d = false) (h2 : ∀ kv, d ≠ .dict kv) (lo hi : D) : S_is_letters_of [d, lo, hi] = .ok (.bool false) := by
  simp_arith [S_is_letters_of, g_is_letters_of, s_is_letters_not h h2]
theorem s_law_text {x : Int} {most signs : Nat} (hx : 0 ≤ x) (hm : most ≤ 1000) (h1 : 1 ≤ signs) (h6 : signs ≤ 6) :
    ∃ l : List Nat, (l.length : Int) = x % ((most : Int) + 1) ∧ (∀ c ∈ l, 97 ≤ c ∧ c < 97 + signs) ∧ S__law_text [.int x, .int (most : Int), .int (signs : Int)] = .ok (T l) := by
  have hp : (0 : Int) < (most : Int) + 1 := by omega
  have hs : (0 : Int) < (signs : Int) := by omega
  obtain ⟨m, hmm⟩ : ∃ m : Nat, x % ((most : Int) + 1) = (m : Int) := ⟨(x % ((most : Int) + 1)).toNat, by have := Int.emod_nonneg x (show ((most : Int) + 1) ≠ 0 by omega); omega⟩
  have hm2 : m ≤ 1000 := by have := Int.emod_lt_of_pos x hp; omega
  have hz : m ≤ 16777216 := by omega
  obtain ⟨Γ', e, l, rest, s5, rfl, hl, hb⟩ := forR_inv (i := 5) (body := b__law_text_1) m (fun k Γ => ∃ (l : List Nat) (rest : Int) (s5 : Sl), Γ = [.da (.int x), .da (.int (most : Int)), .da (.int (signs : Int)), .da (T l), .da (.int rest), s5] ∧ l.length = k ∧ ∀ c ∈ l, 97 ≤ c ∧ c < 97 + signs)
    [.da (.int x), .da (.int (most : Int)), .da (.int (signs : Int)), .da (T []), .da (.int (x / 97)), .un] ⟨_, _, _, rfl, rfl, by simp⟩ fun k hk Γ ⟨l, rest, s5, eΓ, hl, hb⟩ => by
      subst eΓ
      obtain ⟨r, hr⟩ : ∃ r : Nat, rest % (signs : Int) = (r : Int) := ⟨(rest % (signs : Int)).toNat, by have := Int.emod_nonneg rest (show (signs : Int) ≠ 0 by omega); omega⟩
      have hr2 : r < signs := by have := Int.emod_lt_of_pos rest hs; omega
      have hx : [97, 98, 99, 100, 101, 102][r]? = some (97 + r) := by
        have : r = 0 ∨ r = 1 ∨ r = 2 ∨ r = 3 ∨ r = 4 ∨ r = 5 := by omega
        rcases this with rfl | rfl | rfl | rfl | rfl | rfl <;> rfl
      have hc := v_catX (a := l) (b := [97 + r]) (by rw [List.length_singleton]; omega)
      simp_arith [b__law_text_1, c_af, v_mod hs, hr, v_ixX hx, hc, v_div hs (show (signs : Int) < 1073741824 by omega), R.ok.injEq, Fl.nx.injEq, Fl.rt.injEq, exists_eq_left', exists_eq_left]
      refine ⟨l ++ [97 + r], _, _, rfl, by simp [hl], fun c hc => ?_⟩
      rcases List.mem_append.mp hc with hc | hc
      · exact hb c hc
      · simp only [List.mem_singleton] at hc; omega
  refine ⟨l, by rw [hl, hmm], hb, ?_⟩
  simp_arith [S__law_text, g__law_text, c_nil, v_div (show (0 : Int) < 97 by decide) (show (97 : Int) < 1073741824 by decide), v_mod hp, hmm, v_range1 hz, e]
end Lib

set_option Elab.async false
set_option linter.all false
set_option maxRecDepth 100000
set_option maxHeartbeats 4000000
namespace RB
open PySem PySem.Spec PyProof.Rows L2 PySem.W
/-! ### BadValue(i), on the heap -/
abbrev lTail (L : Addr) : List Value := .ref L :: ESX.exTail
/-- what the written part says of BadValue -/
structure BadK (K : PySem.W.Frag) (C L fI cc cda : Addr) (qual : Str) (params : Arguments) (body : List Stmt) (scope : Scope) (file : Str) : Prop where
  cls : ∃ nm q N bs sn sub ab col dd k0 k1 k2 k3 k5, K.lookup C = some (excClassObj nm q C N bs (lTail L) true sn sub ab col dd k0 k1 k2 k3 k5 "Exception.__new__")
  init : findIn K (.ref C) "__init__" = some (some (.ref fI))
  tfn : typeIn K (.ref fI) = some (.type "function")
  fn : ∃ oc od osl an kV doc pm ct, K.lookup fI = some ⟨oc, od, .func (ksFn "__init__" qual params body scope .none kV doc pm an (.ref cda) ct cc), osl⟩
  code : codeIn K (.ref cda) qual = true
  file_ : ∃ ccl cdd vs ccs tf, K.lookup cda = some ⟨ccl, cdd, .fields vs, ccs⟩ ∧ vs[2]? = some (.str file tf)
  cell : ∃ cl cld csl, K.lookup cc = some ⟨cl, cld, .cell (some (.ref C)), csl⟩
  noat : findIn K (.ref C) "at" = some none
  sa : findIn K (.ref C) "__setattr__" = some (some (.builtin "object.__setattr__"))
  sup : alongIn K "__init__" (lTail L) = some (some (.builtin "Exception.__init__"))
  opq : nsIn K cStatics "thirdparty.any" = some none
  exc : subIn K (.ref C) (.type "BaseException") = some true
  typ : typeIn K (.ref C) = some (.type "type")
  keep : keepIn K (.ref C) = true
theorem lt_contains (L : Addr) (X : String) : (lTail L).contains (.type X) = ESX.exTail.contains (.type X) := by
  rw [List.contains_cons]
  rfl
section
open Builtin Builtin.ObjectAttr
variable {prog : Program} {w : World} {A : Around} {E : Value → Shared → Prop} {R : Result → Shared → Prop} {hp : Heap} {g : Array GenState} {d : Drawn} {t : Nat} {os : OsState}
/-- the first field of an exception of a class over a class over Exception -/
theorem osa_new2 {K : PySem.W.Frag} {name : Str} {tk : Tok} {v : Value} {x C L : Addr} {fv : Array Value} {cd : ClassData}
    (X : K.In hp) (hx : hp.get? x = some { cls := .ref C, data := .fields fv }) (hcd : clsIn K C = some cd) (hm : cd.mro = .ref C :: lTail L) (hh : cd.hasDict = true) (ha : findIn K (.ref C) name = some none)
    (hq : ∀ h' tk' dx, (∀ b o, b ≠ x → hp.get? b = some o → h'.get? b = some o) → hp.objs.size ≤ dx → dx ≠ x → h'.get? x = some { cls := .ref C, dict := some dx, data := .fields fv } →
      h'.Ns1 dx (fun y => if y = name then some v else none) → R (.ok (.ret .none)) ⟨h', g, d, tk', os⟩) :
    codeAny (model prog w) A (.call (.builtin "object.__setattr__") ⟨[.ref x, .str name tk, v], []⟩) R ⟨hp, g, d, t, os⟩ := by
  have I : InstAt hp x { cls := .ref C, data := .fields fv } C none := ⟨hx, rfl, rfl, trivial⟩
  have hxs : x ≠ hp.objs.size := Nat.ne_of_lt (Heap.lt_size hx)
  have SF := F.store_object
  have sub : Looks (model prog w) hp (isInstance (.ref x) (.type "object")) true := I.type.andThen (looks_mroIn X (by
    unfold mroIn
    rw [hcd, Option.bind_some, hm, if_neg (show ¬ (List.isEmpty (Value.ref C :: lTail L) = true) from Bool.false_ne_true), List.contains_cons, lt_contains, show ESX.exTail.contains (.type "object") = true by decide +kernel, Bool.or_true]))
  refine codeAny_call_builtin SF.slot.plain SF.entry (@check_slot (model prog w) _ _ ⟨hp, g, d, t, os⟩ "object.__setattr__" "object" "__setattr__" (.ref x) [.str name tk, v] [] _ SF.kind SF.split sub (SF.args (.ref x) (.str name tk) v) ?_)
  have hmr : Looks (model prog w) hp (mroOf (.ref C)) cd.mro := (looks_clsIn X hcd).andThen .now
  have L3 : Looks (model prog w) hp (storeTaker? none) none := .now
  have hpass : refuseLoop (.ref x) "__setattr__" cd.mro = pure () := by
    rw [hm, refuseLoop_ref, refuseLoop_ref]
    exact F.store_Exception.passes _
  rw [osa_eq, refuse_eq]
  refine wpAny_bind (wpAny_bind (I.type.at (wpAny_bind (hmr.at ?_))))
  rw [hpass]
  refine wpAny_pure (wpAny_bind (I.type.at (wpAny_bind ((looks_findIn X ha).at (wpAny_bind (L3.at ?_))))))
  have hcls : Looks (model prog w) hp (classData C) cd := looks_clsIn X hcd
  obtain ⟨nm, bs, mro, ns, qn, hd, sn, sb, ab, col, del⟩ := cd
  dsimp only at hh
  subst hh
  show wpAny _ _ (storeInOwnDict (.ref x) (.ref C) (.str name tk) name v false) _ _ _
  unfold storeInOwnDict ownDictForStores
  repeat (first | with_reducible refine HandSPX.store_in_new ?_ ?_ | with_reducible refine wpAny_loadPart_at hx ?_ | with_reducible refine hcls.at ?_ | wp_step)
  · exact ⟨_, #[], _, (Heap.get?_update_ne _ _ _ _ hxs.symm).trans (Heap.get?_push_at rfl rfl), rfl, fun e he => absurd he (by simp), fun _ => rfl⟩
  · intro h' tk' hn' hs
    have hx₁ : (hp.push { cls := .type "dict", data := .dict #[] }).get? x = some { cls := .ref C, data := .fields fv } := Heap.get?_push_of_some _ hx
    refine hq h' tk' hp.objs.size (fun b o hb ho => ?_) (Nat.le_refl _) hxs.symm ?_ hn'
    · exact (hs.2 b (Nat.ne_of_lt (Heap.lt_size ho))).trans ((Heap.get?_update_ne _ _ _ _ hb).trans (Heap.get?_push_of_some _ ho))
    · exact (hs.2 x hxs).trans (Heap.get?_update_self _ hx₁ rfl)
end
end RB

set_option Elab.async false
set_option linter.all false
set_option maxRecDepth 100000
set_option maxHeartbeats 4000000
set_option pp.maxSteps 600
namespace RB
open PySem PySem.Spec PyProof.Rows L2 PySem.W PySem.Calls
abbrev iArgs (q0 q1 : Pos) : Arguments := { posonlyargs := [], args := [{ arg := "self", annotation := none, pos := q0 }, { arg := "at", annotation := none, pos := q1 }], vararg := none, kwonlyargs := [], kw_defaults := [], kwarg := none, defaults := [] }
abbrev iScope : Scope := { kind := .function, names := [("self", .local), ("at", .local), ("__class__", .free), ("super", .globalImplicit)], isGenerator := false, isCoroutine := false, more := [] }
abbrev iJoin (s1 s2 : Str) (j1 j2 : Nat) (p1 p2 p3 p4 p5 : Pos) : Expr := .JoinedStr [.Constant (.str s1) j1 p1, .FormattedValue (.Name "at" p2) (-1) none p3, .Constant (.str s2) j2 p4] p5
abbrev iBody (s1 s2 : Str) (j1 j2 : Nat) (p1 p2 p3 p4 p5 r0 r1 r2 r3 r4 r5 r6 r7 r8 : Pos) : List Stmt :=
  [.Expr (.Call (.Attribute (.Call (.Name "super" r0) [] [] r1) "__init__" r2) [iJoin s1 s2 j1 j2 p1 p2 p3 p4 p5] [] r3) r4, .Assign [.Attribute (.Name "self" r5) "at" r6] (.Name "at" r7) r8]
section
variable {prog : Program} {w : World} {A : Around} {E : Value → Shared → Prop} {hp : Heap} {g : Array GenState} {dr : Drawn} {t : Nat} {os : OsState}
variable {K : PySem.W.Frag} {C L fI cc cda : Addr} {qual : Str} {file : Str} {s1 s2 : Str} {j1 j2 : Nat} {q0 q1 p1 p2 p3 p4 p5 r0 r1 r2 r3 r4 r5 r6 r7 r8 : Pos} {mg mb : Str → Option Value}
theorem super_he {o : Expr} {name : Str} {apos pos : Pos} {args : List Expr} {env : PySem.Env} (hp : (apos.endLine == pos.line) = true) (hf : methodCallForm (args.length + 0) (backTo pos (starEach args env)) [] = true) :
    eval (.Call (.Attribute o name apos) args [] pos) env = (do
      let ov ← attributeBase o name env (eval o env)
      standAt apos.atName
      let (f, first) ← holding [ov] (getMethod ov name (do return (← importBound o env).getD true))
      callWith pos f first (backTo pos (starEach args env)) []) := by
  rw [arm_eval_Call]
  have e : backToKw pos (keywordEach [] env) = [] := rfl
  rw [e]
  unfold methodCall methodCallPos calleeOf
  simp only [List.length_nil, hf, hp, Bool.not_true, Bool.false_or, if_true, pure_bind]
theorem small_int {i : Int} (h0 : 0 ≤ i) (h1 : i < 10) : i.natAbs.log2 < 1920 ∧ (toString i : Str).length ≤ 1 := by
  have : i = 0 ∨ i = 1 ∨ i = 2 ∨ i = 3 ∨ i = 4 ∨ i = 5 ∨ i = 6 ∨ i = 7 ∨ i = 8 ∨ i = 9 := by omega
  rcases this with rfl | rfl | rfl | rfl | rfl | rfl | rfl | rfl | rfl | rfl <;> exact ⟨by decide +kernel, by decide +kernel⟩
theorem call_bad (B : BadK K C L fI cc cda qual (iArgs q0 q1) (iBody s1 s2 j1 j2 p1 p2 p3 p4 p5 r0 r1 r2 r3 r4 r5 r6 r7 r8) iScope file) (X : K.In hp) (hg : hp.Ns mainGlobals mg) (hmS : mg "super" = none)
    (hb : hp.Ns builtinsNs mb) (hbS : mb "super" = some (.type "super")) (hnl : hp.NoLimit) {k : Nat} (hr : Room (k + 1) A) (hs1 : s1.length ≤ 400) (hs2 : s2.length ≤ 400)
    (hfile : ((prog.main.file : Str) == file) = true) (htop : (prog.main.scope.names.lookup ("super" : Str)).isSome = false) (hpos : (r2.endLine == r3.line) = true) {i : Int} {tk : Tok} (h0 : 0 ≤ i) (hi9 : i < 10) {Q : Value → Shared → Prop}
    (hq : ∀ a dx h' t', hp.objs.size ≤ a → hp.objs.size ≤ dx → dx ≠ a → (∀ b o, hp.get? b = some o → h'.get? b = some o) → (∃ t0, h'.get? a = some { cls := .ref C, dict := some dx, data := .fields #[.ref t0, .none, .none, .none, .bool false, .none] }) →
      h'.Ns1 dx (fun y => if y = "at" then some (.int i tk) else none) → Q (.ref a) ⟨h', g, dr, t', os⟩) :
    wpAny (model prog w) A (call (.ref C) [.int i tk]) Q E ⟨hp, g, dr, t, os⟩ := by
  obtain ⟨nm, q, N, bs, sn, sub, ab, col, dd, k0, k1, k2, k3, k5, hC⟩ := B.cls
  obtain ⟨oc, od, osl, an, kV, doc, pm, ct, hf⟩ := B.fn
  obtain ⟨ccl, cdd, vs, ccs, tf, hcd, hvs⟩ := B.file_
  obtain ⟨cl, cld, csl, hcell⟩ := B.cell
  have hcl : clsIn K C = some { name := nm, bases := bs, mro := .ref C :: lTail L, ns := N, qualname := q, hasDict := true, slotNames := sn, subclasses := sub, abstract := ab, collection := col, hasDel := false } := by unfold clsIn; rw [hC] <;> rfl
  refine wpAny_call (HandSPX.call_own F.excBase_Exception (fun Y => lt_contains L Y) (X _ _ hC) (looks_findIn X B.init) (fun self => bind_fn X self B.tfn) (by show 1 ≤ sizeLine; rw [sizeLine_eq]; omega) ?_)
  generalize hA' : A.under (.builtin "type.__call__" ⟨.ref C :: [.int i tk], []⟩) = A'
  have hr' : Room k A' := hA' ▸ hr.make C [.int i tk] []
  generalize hh1 : (hp.push (kdv_tup [.int i tk])).push (HandSPX.excO C hp.objs.size) = h1
  have k1' : ∀ b o, hp.get? b = some o → h1.get? b = some o := fun b o e => hh1 ▸ Heap.get?_push_of_some _ (Heap.get?_push_of_some _ e)
  have he1 : h1.get? (hp.objs.size + 1) = some (HandSPX.excO C hp.objs.size) := by rw [← hh1]; heap_get
  have X1 : K.In h1 := X.keeps k1'
  generalize hea : hp.objs.size + 1 = a at *
  refine ks_codeAny_call_defAt (fd := ksFn "__init__" qual (iArgs q0 q1) (iBody s1 s2 j1 j2 p1 p2 p3 p4 p5 r0 r1 r2 r3 r4 r5 r6 r7 r8) iScope .none kV doc pm an (.ref cda) ct cc) (binds := [("self", .ref a), ("at", .int i tk)])
    hr'.depth (X1 _ _ hf) rfl (hnl.keeps k1') (codeRec_of X1 B.code) rfl (.of_eq rfl) (show ∀ x ∈ iScope.names, x.2 ≠ .cell by decide) (fun x hx => by
      rcases List.mem_cons.mp hx with rfl | hx
      · exact (show iScope.names.lookup ("self" : Str) = some .local by decide +kernel)
      · rcases List.mem_cons.mp hx with rfl | hx
        · exact (show iScope.names.lookup ("at" : Str) = some .local by decide +kernel)
        · cases hx) (fun h2 hns k2' => ?_)
  have k2 : ∀ b o, hp.get? b = some o → h2.get? b = some o := fun b o e => k2' b o (k1' b o e)
  have he2 := k2' _ _ he1
  have X2 : K.In h2 := X.keeps k2
  have hsz : hp.objs.size ≤ a := by rw [← hea]; exact Nat.le_succ _
  have haC : a ≠ C := fun z => by
    have y := Heap.lt_size (X _ _ hC)
    rw [← z] at y
    exact absurd y (Nat.not_lt.mpr hsz)
  generalize hL : h1.objs.size = Lf at *
  have hnsL : h2.Ns Lf (fun x => ([("self", Value.ref a), ("at", Value.int i tk)] : List (Str × Value)).reverse.lookup x) := hns
  have hself : (fun x => ([("self", Value.ref a), ("at", Value.int i tk)] : List (Str × Value)).reverse.lookup x) "self" = some (.ref a) := by rfl
  have hat : (fun x => ([("self", Value.ref a), ("at", Value.int i tk)] : List (Str × Value)).reverse.lookup x) "at" = some (.int i tk) := by rfl
  generalize (fun x => ([("self", Value.ref a), ("at", Value.int i tk)] : List (Str × Value)).reverse.lookup x) = mL at hnsL hself hat
  have hkS : (callEnv (ksFn "__init__" qual (iArgs q0 q1) (iBody s1 s2 j1 j2 p1 p2 p3 p4 p5 r0 r1 r2 r3 r4 r5 r6 r7 r8) iScope .none kV doc pm an (.ref cda) ct cc) Lf fI).kindOf "super" = some .globalImplicit := (show iScope.names.lookup ("super" : Str) = some .globalImplicit by decide +kernel)
  have hkC : (callEnv (ksFn "__init__" qual (iArgs q0 q1) (iBody s1 s2 j1 j2 p1 p2 p3 p4 p5 r0 r1 r2 r3 r4 r5 r6 r7 r8) iScope .none kV doc pm an (.ref cda) ct cc) Lf fI).kindOf "__class__" = some .free := (show iScope.names.lookup ("__class__" : Str) = some .free by decide +kernel)
  have hkF : (callEnv (ksFn "__init__" qual (iArgs q0 q1) (iBody s1 s2 j1 j2 p1 p2 p3 p4 p5 r0 r1 r2 r3 r4 r5 r6 r7 r8) iScope .none kV doc pm an (.ref cda) ct cc) Lf fI).kindOf "self" = some .local := (show iScope.names.lookup ("self" : Str) = some .local by decide +kernel)
  have hkA : (callEnv (ksFn "__init__" qual (iArgs q0 q1) (iBody s1 s2 j1 j2 p1 p2 p3 p4 p5 r0 r1 r2 r3 r4 r5 r6 r7 r8) iScope .none kV doc pm an (.ref cda) ct cc) Lf fI).kindOf "at" = some .local := (show iScope.names.lookup ("at" : Str) = some .local by decide +kernel)
  have hEl : (callEnv (ksFn "__init__" qual (iArgs q0 q1) (iBody s1 s2 j1 j2 p1 p2 p3 p4 p5 r0 r1 r2 r3 r4 r5 r6 r7 r8) iScope .none kV doc pm an (.ref cda) ct cc) Lf fI).locals = Lf := rfl
  have hEg : (callEnv (ksFn "__init__" qual (iArgs q0 q1) (iBody s1 s2 j1 j2 p1 p2 p3 p4 p5 r0 r1 r2 r3 r4 r5 r6 r7 r8) iScope .none kV doc pm an (.ref cda) ct cc) Lf fI).globals = mainGlobals := rfl
  have hEb : (callEnv (ksFn "__init__" qual (iArgs q0 q1) (iBody s1 s2 j1 j2 p1 p2 p3 p4 p5 r0 r1 r2 r3 r4 r5 r6 r7 r8) iScope .none kV doc pm an (.ref cda) ct cc) Lf fI).builtins = builtinsNs := rfl
  have hEc : (callEnv (ksFn "__init__" qual (iArgs q0 q1) (iBody s1 s2 j1 j2 p1 p2 p3 p4 p5 r0 r1 r2 r3 r4 r5 r6 r7 r8) iScope .none kV doc pm an (.ref cda) ct cc) Lf fI).cells.lookup ("__class__" : Str) = some cc := by rfl
  have hEk : (callEnv (ksFn "__init__" qual (iArgs q0 q1) (iBody s1 s2 j1 j2 p1 p2 p3 p4 p5 r0 r1 r2 r3 r4 r5 r6 r7 r8) iScope .none kV doc pm an (.ref cda) ct cc) Lf fI).scope.kind = .function := rfl
  have hEf : (callEnv (ksFn "__init__" qual (iArgs q0 q1) (iBody s1 s2 j1 j2 p1 p2 p3 p4 p5 r0 r1 r2 r3 r4 r5 r6 r7 r8) iScope .none kV doc pm an (.ref cda) ct cc) Lf fI).func = some fI := rfl
  have hEd : (callEnv (ksFn "__init__" qual (iArgs q0 q1) (iBody s1 s2 j1 j2 p1 p2 p3 p4 p5 r0 r1 r2 r3 r4 r5 r6 r7 r8) iScope .none kV doc pm an (.ref cda) ct cc) Lf fI).code = .ref cda := rfl
  have hcls : ∀ c, (HandSPX.excO C hp.objs.size).data ≠ .cls c := fun c e => by cases e
  refine ks_wpAt_execs_cons (ks_wpAt_Expr_any (ks_wpAt_MethodCall (ks_wpAt_super_base hkS hkC (by decide +kernel) hEf (X2 _ _ hf) rfl rfl hEd (X2 _ _ hcd) rfl hvs hfile htop ?_) (super_he hpos rfl)))
  refine ks_loadName_global hEk hkS (loadGlobal_builtin (by rw [hEg]; exact hg.keeps k2) hmS (by rw [hEb]; exact hb.keeps k2) hbS ⟨rfl, ?_⟩)
  refine wpAny_loadName_free hEk hkC hEc ⟨_, X2 _ _ hcell, rfl⟩ ?_
  refine wpAny_loadName_local hEk hkF hnsL hself ?_
  refine ks_wpAny_isType_cls (X2 _ _ hC) rfl ⟨rfl, ?_⟩
  have hsubC : Looks (model prog w) h2 (isSubtype (.ref C) (.ref C)) true := looks_mroIn X2 (by unfold mroIn; rw [hcl, Option.bind_some]; simp)
  refine ks_wpAny_call_super (X2 _ _ hC) rfl he2 rfl hcls hsubC (fun h3 hso k3 => ?_)
  have X3 : K.In h3 := X2.keeps k3
  have he3 := k3 _ _ he2
  have hopq := looks_opaque (M := model prog w) X3 B.opq (C := C)
  have hmroC : Looks (model prog w) h3 (mroOf (.ref C)) (.ref C :: lTail L) := fun A Q E s k q => wpAny_bind ((looks_clsIn X3 hcl) A _ E s k (wpAny_pure q))
  have hinE : Looks (model prog w) h3 (isInstance (.ref a) (.type "Exception")) true := (InstAt.type (C := C) (od := none) ⟨he3, rfl, rfl, trivial⟩).andThen (looks_mroIn X3 (by
    unfold mroIn
    rw [hcl, Option.bind_some, if_neg (show ¬ (List.isEmpty (Value.ref C :: lTail L) = true) from Bool.false_ne_true), List.contains_cons, lt_contains, show ESX.exTail.contains (.type "Exception") = true by decide +kernel, Bool.or_true]))
  refine ESX.getMethod_super hso hopq hmroC (ESX.drop_own C (lTail L)) X3 B.sup haC (by decide +kernel) hinE ?_
  generalize hh4 : h3.push (ESX.bw a) = h4
  have k4 : ∀ b o, h3.get? b = some o → h4.get? b = some o := fun b o e => hh4 ▸ Heap.get?_push_of_some _ e
  have hu4 : h4.get? h3.objs.size = some (ESX.bw a) := by rw [← hh4]; exact Heap.get?_push_at rfl rfl
  have hns4 : h4.Ns Lf mL := (hnsL.keeps k3).keeps k4
  have he4 := k4 _ _ he3
  have hk04 : ∀ b o, hp.get? b = some o → h4.get? b = some o := fun b o e => k4 b o (k3 b o (k2 b o e))
  have hLa : Lf ≠ a := fun z => by
    obtain ⟨oL, es, ep, e1, e2, _⟩ := hns4
    rw [z, he4] at e1
    have z2 := Option.some.inj e1
    subst z2
    cases e2
  refine ESX.callWith_bound (x := a) (spliced_cons ?_)
  obtain ⟨hlog, hlen⟩ := small_int h0 hi9
  show wpAny _ _ (eval (iJoin s1 s2 j1 j2 p1 p2 p3 p4 p5) _) _ _ _
  refine wpAny_JoinedStr (pos := p5) ?_
  have l0 : (Str.empty ++ s1 : Str).length = s1.length := by rw [Str.length_append]; exact Nat.zero_add _
  refine Constant_str ⟨s1, _, rfl, by rw [l0, sizeLine_eq]; omega, ?_⟩
  refine wpAny_FormattedValue_plain (wpAny_Name (wpAny_loadName_local hEk hkA hns4 hat ?_))
  refine wpAny_formatField_int hlog ⟨toString i, _, rfl, by rw [Str.length_append, l0, sizeLine_eq]; omega, ?_⟩
  refine Constant_str ⟨s2, _, rfl, by rw [Str.length_append, Str.length_append, l0, sizeLine_eq]; omega, ?_⟩
  refine ⟨by rw [Str.length_append, Str.length_append, l0, sizeLine_eq]; omega, ?_⟩
  refine spliced_nil ⟨hu4, ?_⟩
  show wpAny _ _ _ _ _ (⟨h4, g, dr, _, os⟩ : Shared)
  refine ESX.call_bw (hk04 _ _ (X _ _ hC)) he4 hu4 (by show 1 ≤ sizeLine; rw [sizeLine_eq]; omega) (fun h5 t5 k5' he5 => ?_)
  have hLne : ∀ {b : Addr} {o : Obj}, hp.get? b = some o → b ≠ a := fun {b o} e => Nat.ne_of_lt (Nat.lt_of_lt_of_le (Heap.lt_size e) hsz)
  have k05 : ∀ b o, hp.get? b = some o → h5.get? b = some o := fun b o e => k5' b o (hLne e) (hk04 b o e)
  have X5 : K.In h5 := X.keeps k05
  have hns5 : h5.Ns Lf mL := by
    obtain ⟨oL, es, ep, e1, e2, e3⟩ := hns4
    exact ⟨oL, es, ep, k5' _ _ hLa e1, e2, e3⟩
  refine ks_wpAt_execs_cons (ks_wpAt_Assign_Attr (wpAt_of_wpAny (wpAny_Name (wpAny_loadName_local hEk hkA hns5 hat (wpAny_Name (wpAny_loadName_local hEk hkF hns5 hself ?_))))))
  refine set_plain X5 (InstAt.mk (C := C) (od := none) he5 rfl rfl trivial) B.sa ?_
  refine osa_new2 X5 he5 hcl rfl rfl B.noat (fun h6 t6 dx k6 hdx hne he6 hn6 => ?_)
  show PySem.wpAt _ _ _ (execs [] _) _ _ _
  refine wpAt_of_wpAny ?_
  rw [execs_nil]
  refine wpAny_pure ⟨rfl, ?_⟩
  refine hq a dx h6 t6 hsz ?_ hne ?_ ⟨t5, he6⟩ hn6
  · exact Nat.le_trans hsz (Nat.le_trans (Nat.le_of_lt (Heap.lt_size he5)) hdx)
  · exact fun b o e => k6 b o (hLne e) (k05 b o e)
end
end RB

set_option Elab.async false
set_option linter.all false
set_option maxRecDepth 100000
set_option maxHeartbeats 4000000
set_option pp.maxSteps 600
namespace RB
open PySem PySem.Spec PyProof.Rows L2
section
variable {X : Cx} {C L fI cc cda : Addr} {qual : Str} {file : Str} {s1 s2 : Str} {j1 j2 : Nat} {q0 q1 p1 p2 p3 p4 p5 r0 r1 r2 r3 r4 r5 r6 r7 r8 : Pos} {W : WX}
/-- BadValue(e) -/
theorem pmk_bad {x : Str} {p pos : Pos} {e : Expr} {te : TE} {k : Nat} (B : BadK X.K C L fI cc cda qual (iArgs q0 q1) (iBody s1 s2 j1 j2 p1 p2 p3 p4 p5 r0 r1 r2 r3 r4 r5 r6 r7 r8) iScope file) (hr : Room (k + 1) X.A)
    (hs1 : s1.length ≤ 400) (hs2 : s2.length ≤ 400) (hfile : ((X.prog.main.file : Str) == file) = true) (htop : (X.prog.main.scope.names.lookup ("super" : Str)).isSome = false) (hpos : (r2.endLine == r3.line) = true) (hmS : X.mg "super" = none)
    (gC : X.mg x = some (.ref C)) (hg : Gl X x) (he : PE X e te) (hdb : (x == ("__debug__" : Str)) = false := by decide)
    (hst : starEach [e] X.env = (false, eval e X.env) :: starEach [] X.env := by rfl) (hpl : (backTo pos (starEach [] X.env)).any (·.1) = false := by rfl) :
    PMk X (.Call (.Name x p) [e] [] pos) (fun σ H Q => te σ H fun v H1 => ∃ i : Int, [v] = [V.int i] ∧ 0 ≤ i ∧ i < 10 ∧ ∀ d, H1 d = none → Q (.ref C) (some d) (upd H1 d (.xd [("at", .int i)]))) := by
  intro pins s σ H Q I h
  refine wpAny_Call_Name_kw (ld_glob I hg gC ?_ hdb)
  have ha : PA X [e] (tCons te tNil) := pa_cons he pa_nil hst
  refine PySem.W.callWith_K (h₀ := X.base) I.ok.mod.kin B.keep (thn (ha.run pos pins s σ H (fun vs H1 => ∃ i : Int, vs = [V.int i] ∧ 0 ≤ i ∧ i < 10 ∧ ∀ d, H1 d = none → Q (.ref C) (some d) (upd H1 d (.xd [("at", .int i)]))) I ?_) fun us s1 hh => ?_) hst hpl
  · exact h
  obtain ⟨vs, H1, I1, rr, i, ev, h0, h9, q⟩ := hh
  subst ev
  refine ⟨I1.kIn, ?_⟩
  cases rr with
  | cons ru rn =>
    cases rn
    obtain ⟨tk, rfl⟩ := ru
    obtain ⟨hp, g, dr, t, os⟩ := s1
    obtain ⟨mb, hb, hbv⟩ := I1.ok.mod.blt
    refine call_bad B I1.kIn (I1.ok.mod.glob.keeps I1.bk) hmS (hb.keeps I1.bk) ((hbv _ (by decide +kernel)).trans (by decide +kernel)) I1.nolimit hr hs1 hs2 hfile htop hpos h0 h9 (fun a dx h' t' ha hd hne kk ⟨t0, ea⟩ hn => ?_)
    obtain ⟨G, g1', g2'⟩ := restrict h' fun b => decide (b ≠ a)
    have gk : ∀ b, b ≠ a → G.get? b = h'.get? b := fun b hb => g1' b (decide_eq_true hb)
    have ge : G.get? a = none := g2' a (by simp)
    have nha : ∀ {b : Addr} {o : Obj}, hp.get? b = some o → b ≠ a := fun {b o} z => Nat.ne_of_lt (Nat.lt_of_lt_of_le (Heap.lt_size z) ha)
    have hok : ObjOk X.prog X.w (upd H1 dx (.xd [("at", .int i)])) G dx (.xd [("at", .int i)]) := ⟨_, hn.at fun o y => (gk dx hne).trans y, relO_put (fs := []) ⟨tk, rfl⟩ fun g => True.intro⟩
    have J : Inv X pins σ (upd H1 dx (.xd [("at", .int i)])) ⟨G, g, dr, t', os⟩ := I1.laid (t' := t') (a := dx) (h' := G) (fun b o z => (gk b (nha z)).trans (kk b o z)) hd hok
    refine ⟨a, _, _, ⟨G, g, dr, t', os⟩, _, .ref C, some dx, rfl, J, fun b o z => ?_, ge, ea, ⟨rfl, rfl⟩, rfl, rfl, ?_, rfl, I1.bare, raises_own B.exc B.typ, q dx (I1.hok.fresh hd)⟩
    · by_cases hba : b = a
      · rw [hba, ge] at z; cases z
      · exact (gk b hba).symm.trans z
    · rw [upd_ne (Ne.symm hne)]
      exact I1.hok.fresh ha
end
end RB

set_option Elab.async false
set_option linter.all false
set_option maxRecDepth 100000
set_option maxHeartbeats 4000000
set_option pp.maxSteps 600
namespace RB
open PySem PySem.Spec PyProof.Rows L2
/-- raise BadValue(r) -/
def badK (r : R D) (Γ : Gam) : R Fl := lift r Γ fun d => match d with
  | .int i => if 0 ≤ i ∧ i < 10 then .ok (.xn (.bad i) Γ) else .stuck
  | _ => .stuck
def badS (L : List Nat) (f : Env → R D) : Gam → R Fl := fun Γ => badK (f (view L Γ)) Γ
def manyS : Gam → R Fl := fun Γ => .ok (.xn .many Γ)
/-- except BadValue as e: return e.at == c; e's slot i -/
def tryAt (i : Nat) (c : Int) : R Fl → R Fl
  | .ok (.xn (.bad k) Γ) => if i < Γ.length then .ok (.rt (.bool (k == c))) else .stuck
  | .ok (.xn (.text _) _) => .stuck
  | r => r
def tryAtS (i : Nat) (c : Int) (g : Gam → R Fl) : Gam → R Fl := fun Γ => tryAt i c (g Γ)
def noXn : R Fl → R Fl
  | .ok (.xn _ _) => .stuck
  | r => r
/-- except TooMany: h -/
def tryMany (h : Gam → R Fl) : R Fl → R Fl
  | .ok (.xn .many Γ) => noXn (h Γ)
  | .ok (.xn (.text _) _) => .stuck
  | r => r
def tryManyS (g h : Gam → R Fl) : Gam → R Fl := fun Γ => tryMany h (g Γ)
section
variable {X : Cx} {C L fI cc cda : Addr} {qual : Str} {file : Str} {s1 s2 : Str} {j1 j2 : Nat} {q0 q1 p1 p2 p3 p4 p5 r0 r1 r2 r3 r4 r5 r6 r7 r8 : Pos} {W : WX} {H0 : Hp} {F0 : Addr → Prop}
theorem st_bad (Ls : List Nat) {p pos pos' : Pos} {e : Expr} {f : Env → R D} {k : Nat} (B : BadK X.K C L fI cc cda qual (iArgs q0 q1) (iBody s1 s2 j1 j2 p1 p2 p3 p4 p5 r0 r1 r2 r3 r4 r5 r6 r7 r8) iScope file) (hr : Room (k + 1) X.A) (tk : Takes X W)
    (hs1 : s1.length ≤ 400) (hs2 : s2.length ≤ 400) (hfile : ((X.prog.main.file : Str) == file) = true) (htop : (X.prog.main.scope.names.lookup ("super" : Str)).isSome = false) (hpos : (r2.endLine == r3.line) = true) (hmS : X.mg "super" = none)
    (gC : X.mg "BadValue" = some (.ref C)) (he : Ex X W e f) (hc : X.calm = true := by rfl) (hg : Gl X "BadValue" := by rfl) 
    (hst : starEach [e] X.env = (false, eval e X.env) :: starEach [] X.env := by rfl) (hpl : (backTo pos (starEach [] X.env)).any (·.1) = false := by rfl) :
    Sx X W H0 F0 (.Raise (some (.Call (.Name "BadValue" p) [e] [] pos)) none pos') (badS Ls f) := by
  refine PS.imp (ps_raise hc tk (pmk_bad B hr hs1 hs2 hfile htop hpos hmS gC hg he (by decide +kernel) hst hpl)) fun E σ H ⟨Γ, F, r, fl, e, kk⟩ => ?_
  refine tE_lift r e kk fun d e2 v H' F' g hd => ?_
  cases d with
  | int i =>
    have e2 : (if 0 ≤ i ∧ i < 10 then R.ok (Fl.xn (.bad i) Γ) else .stuck) = .ok fl := e2
    split at e2
    · rename_i hi
      cases e2
      cases hd
      refine ⟨i, rfl, hi.1, hi.2, fun d hd => ?_⟩
      have g2 := g.trans (grow_new (o := .xd [("at", .int i)]) g.ok hd)
      exact kk (.ref C) (some d) σ _ _ (r.back g2) (pres_FM r g2) ⟨C, d, gC, rfl, rfl, upd_same⟩
    · cases e2
  | _ => cases e2
theorem st_try_at {i : Nat} {n : Str} {np pos pos' a1 a2 a3 a4 a5 : Pos} {jc : Nat} {c : Int} {body : List Stmt} {g : Gam → R Fl}
    (hs : X.stack = X.env :: X.outer) (hf : X.env.frame = some X.env.locals) (hN : X.N.Nodup) (hi : X.N[i]? = some n) (hln : X.env.kindOf n = some .local) (gC : X.mg "BadValue" = some (.ref C)) (tk : Takes X W)
    (xf : XfC X.K C) (hno : PySem.W.findIn X.K (.ref C) "at" = some none) (hb1 : PySem.W.exmOne X.K (.ref C) (.ref C) = some true) (hm1 : ∀ C2, X.mg "TooMany" = some (.ref C2) → PySem.W.exmOne X.K (.ref C2) (.ref C) = some false) (hv : Vis X.env.scope n)
    (hb : ∀ (W : WX) (pn : List (Addr × Obj)) (xe : Value → Shared → Prop), Takes (X.tr pn xe) W → PassesOwn (model X.prog X.w) X.A X.env xe → Ssx (X.tr pn xe) W H0 F0 body g)
    (hg : Gl X "BadValue" := by rfl) (hd1 : (n == ("__debug__" : Str)) = false := by decide) (hd2 : (n == ("__classdict__" : Str)) = false := by decide) (hab : attributeBase (.Name n a1) "at" X.env (eval (.Name n a1) X.env) = eval (.Name n a1) X.env := by rfl) :
    Sx X W H0 F0 (.Try body [.ExceptHandler (some (.Name "BadValue" np)) (some n) [.Return (some (.Compare (.Attribute (.Name n a1) "at" a2) [.Eq] [.Constant (.int c) jc a3] a4)) a5] pos'] [] [] pos) (tryAtS i c g) := by
  refine PS.imp (ps_try_as (Wout := W) (tb := fun W' => tS X.K X.mg W' H0 F0 g) (ts := fun a cls d => tRet (tOp rEq (tXf a cls d C "at" (tVar i)) (tC (.int c)))) hs hf hN hi hln ⟨hg, by decide +kernel, .inl gC⟩ tk (fun W' pn xe t po => hb W' pn xe t po)
    fun a oe cls d pn hz hfl => pss_one (ps_ret (pe_cmpR op_eq (pe_xf xf hno hz hfl (pe_var hi hv hd1 hd2) hab) pe_int (by rfl)))) fun E σ H ⟨Γ, F, r, fl, e, k⟩ => ?_
  have e : tryAt i c (g Γ) = .ok fl := e
  refine ⟨Γ, F, r, ?_⟩
  cases q : g Γ with
  | stuck => rw [q] at e; cases e
  | exn x => rw [q] at e; cases e
  | ok f1 =>
    refine ⟨f1, rfl, ?_⟩
    rw [q] at e
    cases f1 with
    | nx Γ' => cases e; exact k
    | rt d => cases e; exact k
    | rl d => cases e; exact k
    | bk Γ' => cases e; exact k
    | ct Γ' => cases e; exact k
    | xn x Γ' =>
      cases x with
      | bad k0 =>
        have e : (if i < Γ'.length then R.ok (Fl.rt (.bool (k0 == c))) else .stuck) = .ok fl := e
        split at e
        · rename_i hl
          cases e
          intro cls y σ' H' F' r' p ho
          obtain ⟨C1, d1, m1, rfl, rfl, hx⟩ := ho
          have : C1 = C := by rw [gC] at m1; cases m1; rfl
          subst this
          refine ⟨true, hb1, fun _ a ha => ?_, fun z => by cases z⟩
          refine ⟨.ref a, ?_, rfl, rfl, d1, _, .int k0, rfl, hx, rfl, ?_⟩
          · rw [List.getElem?_set_self (by rw [r'.len]; exact hl)]
          · refine ⟨rfl, ?_⟩
            rw [dec_int]
            exact k _ H' F' r'.gr (.bl _)
        · cases e
      | many =>
        cases e
        intro cls y σ' H' F' r' p ho
        obtain ⟨C1, m1, rfl⟩ := id ho
        exact ⟨false, hm1 C1 m1, (fun z => by cases z), fun _ => k _ y σ' H' F' r' p ho⟩
      | text k0 => cases e
/-- raise TooMany('..') -/
theorem st_many {bmB : List Value} {B newId initId : String} {m : Str} {j : Nat} {p p2 pos pos' : Pos} (F : ExcBaseFacts B newId initId bmB) (q : PySem.W.excIn X.K C bmB newId = true) (gC : X.mg "TooMany" = some (.ref C)) (kC : PySem.W.keepIn X.K (.ref C) = true)
    (e1 : PySem.W.subIn X.K (.ref C) (.type "BaseException") = some true) (e2 : PySem.W.typeIn X.K (.ref C) = some (.type "type")) (tk : Takes X W) (hc : X.calm = true := by rfl) (hg : Gl X "TooMany" := by rfl) :
    Sx X W H0 F0 (.Raise (some (.Call (.Name "TooMany" p) [.Constant (.str m) j p2] [] pos)) none pos') manyS := by
  refine PS.imp (ps_raise hc tk (pmk_own F q gC kC (raises_own e1 e2) hg (by decide +kernel))) fun E σ H ⟨Γ, F, r, fl, e, k⟩ => ?_
  cases e
  exact k (.ref C) none σ H F r .refl ⟨C, gC, rfl⟩
/-- except TooMany: suite -/
theorem st_try_many {np pos pos' : Pos} {b₀ : Stmt} {body suite : List Stmt} {g h : Gam → R Fl}
    (hs : X.stack = X.env :: X.outer) (hf : X.env.frame = some X.env.locals) (gC : X.mg "TooMany" = some (.ref C)) (tk : Takes X W)
    (hb1 : PySem.W.exmOne X.K (.ref C) (.ref C) = some true) (hm1 : ∀ C2, X.mg "BadValue" = some (.ref C2) → PySem.W.exmOne X.K (.ref C2) (.ref C) = some false)
    (hb : ∀ (W : WX) (pn : List (Addr × Obj)) (xe : Value → Shared → Prop), Takes (X.tr pn xe) W → PassesOwn (model X.prog X.w) X.A X.env xe → Ssx (X.tr pn xe) W H0 F0 body g)
    (hsu : ∀ (a : Addr) (oe : Obj) (pn : List (Addr × Obj)), Ssx (X.suite a ((a, oe) :: pn)) W0 H0 F0 (b₀ :: suite) h) (hg : Gl X "TooMany" := by rfl) :
    Sx X W H0 F0 (.Try body [.ExceptHandler (some (.Name "TooMany" np)) none (b₀ :: suite) pos'] [] [] pos) (tryManyS g h) := by
  refine PS.imp (ps_try_only (Wout := W) (tb := fun W' => tS X.K X.mg W' H0 F0 g) (ts := fun a cls d => tS X.K X.mg W0 H0 F0 h) hs hf ⟨hg, by decide +kernel, .inl gC⟩ tk (fun W' pn xe t po => hb W' pn xe t po)
    fun a oe cls d pn hz hfl => hsu a oe pn) fun E σ H ⟨Γ, F, r, fl, e, k⟩ => ?_
  have e : tryMany h (g Γ) = .ok fl := e
  refine ⟨Γ, F, r, ?_⟩
  cases q : g Γ with
  | stuck => rw [q] at e; cases e
  | exn x => rw [q] at e; cases e
  | ok f1 =>
    refine ⟨f1, rfl, ?_⟩
    rw [q] at e
    cases f1 with
    | nx Γ' => cases e; exact k
    | rt d => cases e; exact k
    | rl d => cases e; exact k
    | bk Γ' => cases e; exact k
    | ct Γ' => cases e; exact k
    | xn x Γ' =>
      cases x with
      | many =>
        have e : noXn (h Γ') = .ok fl := e
        have e1 : h Γ' = .ok fl ∧ ∀ x2 Γ2, fl ≠ .xn x2 Γ2 := by
          cases q2 : h Γ' with
          | stuck => rw [q2] at e; cases e
          | exn x2 => rw [q2] at e; cases e
          | ok f2 =>
            rw [q2] at e
            cases f2 <;> first | (cases e; done) | (cases e; exact ⟨rfl, fun _ _ z => by cases z⟩)
        obtain ⟨e, nx⟩ := e1
        intro cls y σ' H' F' r' p ho
        obtain ⟨C1, m1, rfl⟩ := id ho
        have : C1 = C := by rw [gC] at m1; cases m1; rfl
        subst this
        refine ⟨true, hb1, fun _ a ha => ⟨Γ', F', r', fl, e, ?_⟩, fun z => by cases z⟩
        have k2 := k.from p
        cases fl with
        | nx Γ2 => exact k2
        | rt d => exact k2
        | rl d => exact k2
        | bk Γ2 => exact k2
        | ct Γ2 => exact k2
        | xn x2 Γ2 => exact absurd rfl (nx _ _)
      | bad k0 =>
        cases e
        intro cls y σ' H' F' r' p ho
        obtain ⟨C1, d1, m1, rfl, rfl, hx⟩ := id ho
        exact ⟨false, hm1 C1 m1, (fun z => by cases z), fun _ => k _ _ σ' H' F' r' p ho⟩
      | text k0 => cases e
end
end RB

set_option Elab.async false
set_option linter.all false
set_option maxRecDepth 100000
set_option maxHeartbeats 4000000
set_option pp.maxSteps 600
namespace RB
open PySem PySem.Spec PyProof.Rows L2 PySem.W
/-! ### the facts of the error classes, by an own Hook -/
def bL (K : Frag) : Addr := He.ga K "LetterError"
def bC (K : Frag) : Addr := He.ga K "BadValue"
def mC (K : Frag) : Addr := He.ga K "TooMany"
def bI (K : Frag) : Addr := He.ma K (bC K) "__init__"
def fdB (K : Frag) (a : Addr) : Option FuncData := match K.lookup a with
  | some ⟨_, _, .func fd, _⟩ => some fd
  | _ => none
def cellB (K : Frag) : Addr := match fdB K (bI K) with
  | some fd => (match fd.closure with
    | [(_, c)] => c
    | _ => 0)
  | none => 0
def codeB (K : Frag) : Addr := match fdB K (bI K) with
  | some fd => (match fd.code with
    | .ref c => c
    | _ => 0)
  | none => 0
abbrev IniW : Type := Option (Str × Str × Arguments × FuncBody × Scope × Addr × Addr × List Str × Value × Value)
def iniW (K : Frag) : IniW := (fdB K (bI K)).map fun fd => (fd.name, fd.qualname, fd.params, fd.body, fd.scope, fd.globals, fd.builtins, fd.closure.map (·.1), fd.defaults, .ref (codeB K))
def clsB (K : Frag) (C L : Addr) : Bool := match K.lookup C with
  | some ⟨.type "type", _, .cls cd, sl⟩ => (match cd.mro, sl.toList with
    | .ref C' :: bm, [_, _, _, _, some (.builtin n), _] => decide (C' = C) && (decide (n = "Exception.__new__") && (!cd.hasDel && (cd.hasDict && decide (bm = lTail L))))
    | _, _ => false)
  | _ => false
def cellOk (K : Frag) (cc C : Addr) : Bool := match K.lookup cc with
  | some ⟨_, _, .cell (some (.ref D)), _⟩ => decide (D = C)
  | _ => false
def fileOk (K : Frag) (cda : Addr) (file : Str) : Bool := match K.lookup cda with
  | some ⟨_, _, .fields vs, _⟩ => (match (vs[2]? : Option Value) with
    | some (Value.str f _) => decide (f = file)
    | _ => false)
  | _ => false
def codeIs (K : Frag) : Bool := match fdB K (bI K) with
  | some fd => decide (fd.code = .ref (codeB K))
  | none => false
def badB (K : Frag) (qual file : Str) : Bool :=
  clsB K (bC K) (bL K) && (decide (findIn K (.ref (bC K)) "__init__" = some (some (.ref (bI K)))) && (decide (typeIn K (.ref (bI K)) = some (.type "function")) && (codeIn K (.ref (codeB K)) qual && (fileOk K (codeB K) file && (cellOk K (cellB K) (bC K) &&
  (decide (findIn K (.ref (bC K)) "at" = some none) && (decide (findIn K (.ref (bC K)) "__setattr__" = some (some (.builtin "object.__setattr__"))) && (decide (alongIn K "__init__" (lTail (bL K)) = some (some (.builtin "Exception.__init__"))) && (decide (nsIn K cStatics "thirdparty.any" = some none) &&
  (decide (subIn K (.ref (bC K)) (.type "BaseException") = some true) && (decide (typeIn K (.ref (bC K)) = some (.type "type")) && (keepIn K (.ref (bC K)) && (codeIs K && (decide (nsIn K mainGlobals "BadValue" = some (some (.ref (bC K)))) && (xfB K (bC K) && decide (exmOne K (.ref (bC K)) (.ref (bC K)) = some true))))))))))))))))
def manyB (K : Frag) : Bool :=
  excIn K (mC K) ESX.exTail "Exception.__new__" && (keepIn K (.ref (mC K)) && (decide (subIn K (.ref (mC K)) (.type "BaseException") = some true) && (decide (typeIn K (.ref (mC K)) = some (.type "type")) && (decide (nsIn K mainGlobals "TooMany" = some (some (.ref (mC K)))) && decide (exmOne K (.ref (mC K)) (.ref (mC K)) = some true)))))
def bothB (K : Frag) : Bool := decide (exmOne K (.ref (mC K)) (.ref (bC K)) = some false) && decide (exmOne K (.ref (bC K)) (.ref (mC K)) = some false)
/-- which classes the program has: bad: BadValue; many: TooMany -/
structure XQ where
  bad : Option (Arguments × List Stmt × Scope)
  many : Bool
  file : Str
def XQ.ini (x : XQ) : IniW := x.bad.map fun b => ("__init__", "BadValue.__init__", b.1, .stmts b.2.1, b.2.2, mainGlobals, builtinsNs, ["__class__"], .none, .none)
def iniX (x : XQ) (K : Frag) : IniW := match x.bad with
  | some _ => (iniW K).map fun z => (z.1, z.2.1, z.2.2.1, z.2.2.2.1, z.2.2.2.2.1, z.2.2.2.2.2.1, z.2.2.2.2.2.2.1, z.2.2.2.2.2.2.2.1, z.2.2.2.2.2.2.2.2.1, .none)
  | none => none
def XQ.ok (x : XQ) (K : Frag) : Bool := (x.bad.isNone || badB K "BadValue.__init__" x.file) && ((!x.many || manyB K) && (x.bad.isNone || (!x.many || bothB K)))
abbrev AlX : Type := He.AlD × IniW
def obsX (x : XQ) (fa : List He.Fa) (fn : List He.DefD) (K : Frag) : AlX := (((He.obsD fa fn K).1 && x.ok K, (He.obsD fa fn K).2), iniX x K)
def valX (x : XQ) (fn : List He.DefD) : AlX := (He.valD fn, x.ini)
def asX (g : Addr → Option Obj) (n : Nat) : List Addr := He.asD g n ++ [cStatics]
def obsXG (x : XQ) (n : Nat) (fa : List He.Fa) (fn : List He.DefD) (g : Addr → Option Obj) : AlX := obsX x fa fn (He.frG g (asX g n))
def SaysX (x : XQ) (fa : List He.Fa) (fn : List He.DefD) (K : Frag) : Prop := obsX x fa fn K = valX x fn
def hookX (x : XQ) (n : Nat) (fa : List He.Fa) (fn : List He.DefD) : Hook where
  α := AlX
  obs := fun s => obsXG x n fa fn s.heap.get?
  val := fun _ => valX x fn
  says := fun _ h => ∃ K : Frag, K.In h ∧ SaysX x fa fn K
  of := fun _ _ e => ⟨_, He.frG_in, e⟩
  keeps := fun _ _ _ ⟨K, hK, c⟩ k => ⟨K, Frag.In.keeps hK k, c⟩
theorem obsXG_eq {x : XQ} {n : Nat} {fa : List He.Fa} {fn : List He.DefD} {g : Addr → Option Obj} {s : Shared} (h : ∀ a, g a = s.heap.get? a) : obsXG x n fa fn g = (hookX x n fa fn).obs s := by
  have e : g = s.heap.get? := funext h
  rw [e] <;> rfl
section
variable {x : XQ} {fa : List He.Fa} {fn : List He.DefD} {K : Frag}
theorem SaysX.d (c : SaysX x fa fn K) : He.SaysD fa fn K := by
  have c1 : ((He.obsD fa fn K).1 && x.ok K, (He.obsD fa fn K).2) = He.valD fn := congrArg Prod.fst c
  have c2 : ((He.obsD fa fn K).1 && x.ok K) = true := congrArg Prod.fst c1
  have c3 : (He.obsD fa fn K).2 = fn.map He.DefD.val := congrArg Prod.snd c1
  have c4 := (Bool.and_eq_true_iff.mp c2).1
  unfold He.SaysD
  exact Prod.ext c4 c3
theorem SaysX.xok (c : SaysX x fa fn K) : x.ok K = true := by
  have c1 : ((He.obsD fa fn K).1 && x.ok K, (He.obsD fa fn K).2) = He.valD fn := congrArg Prod.fst c
  have c2 : ((He.obsD fa fn K).1 && x.ok K) = true := congrArg Prod.fst c1
  exact (Bool.and_eq_true_iff.mp c2).2
theorem SaysX.iniq (c : SaysX x fa fn K) : iniX x K = x.ini := congrArg Prod.snd c
theorem clsB_ok {C L : Addr} (h : clsB K C L = true) : ∃ nm q N bs sn sub ab col dd k0 k1 k2 k3 k5, K.lookup C = some (excClassObj nm q C N bs (lTail L) true sn sub ab col dd k0 k1 k2 k3 k5 "Exception.__new__") := by
  unfold clsB at h
  split at h
  · rename_i dd cd sl ho
    split at h
    · rename_i C' bm k0 k1 k2 k3 n k5 hm hs
      obtain ⟨h1, h⟩ := Bool.and_eq_true_iff.mp h
      obtain ⟨h2, h⟩ := Bool.and_eq_true_iff.mp h
      obtain ⟨h3, h⟩ := Bool.and_eq_true_iff.mp h
      obtain ⟨h4, h5⟩ := Bool.and_eq_true_iff.mp h
      obtain rfl : C' = C := of_decide_eq_true h1
      obtain rfl : n = "Exception.__new__" := of_decide_eq_true h2
      obtain rfl : bm = lTail L := of_decide_eq_true h5
      obtain ⟨nm, bs, mro, ns, qn, hd, sn, sub, ab, col, del⟩ := cd
      dsimp only at hm h3 h4
      have h3' : del = false := by cases del <;> first | rfl | cases h3
      subst hm h3' h4
      have hsl : sl = #[k0, k1, k2, k3, some (.builtin "Exception.__new__"), k5] := by
        obtain ⟨l⟩ := sl
        simp only at hs
        rw [hs]
      subst hsl
      exact ⟨nm, qn, ns, bs, sn, sub, ab, col, dd, k0, k1, k2, k3, k5, ho⟩
    · cases h
  · cases h
theorem cellOk_ok {cc C : Addr} (h : cellOk K cc C = true) : ∃ cl cld csl, K.lookup cc = some ⟨cl, cld, .cell (some (.ref C)), csl⟩ := by
  unfold cellOk at h
  split at h
  · rename_i a b D c ho
    obtain rfl : D = C := of_decide_eq_true h
    exact ⟨_, _, _, ho⟩
  · cases h
theorem fileOk_ok {cda : Addr} {file : Str} (h : fileOk K cda file = true) : ∃ ccl cdd vs ccs tf, K.lookup cda = some ⟨ccl, cdd, .fields vs, ccs⟩ ∧ vs[2]? = some (.str file tf) := by
  unfold fileOk at h
  split at h
  · rename_i a b vs c ho
    split at h
    · rename_i f t hv
      obtain rfl : f = file := of_decide_eq_true h
      exact ⟨_, _, _, _, _, ho, hv⟩
    · cases h
  · cases h
theorem SaysX.bad (c : SaysX x fa fn K) {b : Arguments × List Stmt × Scope} (hb : x.bad = some b) :
    BadK K (bC K) (bL K) (bI K) (cellB K) (codeB K) "BadValue.__init__" b.1 b.2.1 b.2.2 x.file ∧ nsIn K mainGlobals "BadValue" = some (some (.ref (bC K))) ∧ XfC K (bC K) ∧ exmOne K (.ref (bC K)) (.ref (bC K)) = some true := by
  have ok := c.xok
  have iq := c.iniq
  unfold XQ.ok at ok
  unfold iniX XQ.ini at iq
  rw [hb] at ok iq
  have ok1 : badB K "BadValue.__init__" x.file = true := by
    have := (Bool.and_eq_true_iff.mp ok).1
    simpa using this
  unfold badB at ok1
  simp only [Bool.and_eq_true, decide_eq_true_eq] at ok1
  obtain ⟨h1, h2, h3, h4, h5, h6, h7, h8, h9, h10, h11, h12, h13, h14, h15, h16, h17⟩ := ok1
  refine ⟨⟨clsB_ok h1, h2, h3, ?_, h4, fileOk_ok h5, cellOk_ok h6, h7, h8, h9, h10, h11, h12, h13⟩, h15, xfB_ok h16, h17⟩
  unfold codeIs at h14
  have iq : (iniW K).map (fun z => (z.1, z.2.1, z.2.2.1, z.2.2.2.1, z.2.2.2.2.1, z.2.2.2.2.2.1, z.2.2.2.2.2.2.1, z.2.2.2.2.2.2.2.1, z.2.2.2.2.2.2.2.2.1, (Value.none : Value))) = (some ("__init__", "BadValue.__init__", b.1, .stmts b.2.1, b.2.2, mainGlobals, builtinsNs, ["__class__"], .none, .none) : IniW) := iq
  unfold iniW at iq
  have hcb : cellB K = match fdB K (bI K) with
    | some fd => (match fd.closure with
      | [(_, c)] => c
      | _ => 0)
    | none => 0 := rfl
  cases q : fdB K (bI K) with
  | none => rw [q] at iq; cases iq
  | some fd =>
    rw [q] at iq h14 hcb
    simp only [Option.map_some, Option.some.injEq, Prod.mk.injEq, and_true] at iq
    obtain ⟨i1, i2, i3, i4, i5, i6, i7, i8, i9⟩ := iq
    have hco : fd.code = .ref (codeB K) := of_decide_eq_true h14
    unfold fdB at q
    split at q
    · rename_i oc od fd' osl ho
      cases q
      obtain ⟨n1, n2, n3, n4, n5, n6, n7, n8, n9, n10, n11, n12, n13, n14, n15⟩ := fd
      dsimp only at i1 i2 i3 i4 i5 i6 i7 i8 i9 hco hcb
      have hcl : n7 = [(("__class__" : Str), cellB K)] := by
        cases n7 with
        | nil => cases i8
        | cons a r =>
          cases r with
          | nil =>
            obtain ⟨a1, a2⟩ := a
            simp only [List.map_cons, List.map_nil, List.cons.injEq, and_true] at i8
            rw [hcb, i8]
          | cons a' r' => simp at i8
      subst i1 i2 i3 i4 i5 i6 i7 i9

      rw [hco, hcl] at ho
      exact ⟨_, _, _, _, _, _, _, _, ho⟩
    · cases q
theorem SaysX.many (c : SaysX x fa fn K) (hb : x.many = true) : excIn K (mC K) ESX.exTail "Exception.__new__" = true ∧ keepIn K (.ref (mC K)) = true ∧ subIn K (.ref (mC K)) (.type "BaseException") = some true ∧ typeIn K (.ref (mC K)) = some (.type "type") ∧
    nsIn K mainGlobals "TooMany" = some (some (.ref (mC K))) ∧ exmOne K (.ref (mC K)) (.ref (mC K)) = some true := by
  have ok := c.xok
  unfold XQ.ok at ok
  rw [hb] at ok
  have ok1 : manyB K = true := by
    have := (Bool.and_eq_true_iff.mp (Bool.and_eq_true_iff.mp ok).2).1
    simpa using this
  unfold manyB at ok1
  simp only [Bool.and_eq_true, decide_eq_true_eq] at ok1
  exact ok1
theorem SaysX.both (c : SaysX x fa fn K) {b : Arguments × List Stmt × Scope} (h1 : x.bad = some b) (hb : x.many = true) : exmOne K (.ref (mC K)) (.ref (bC K)) = some false ∧ exmOne K (.ref (bC K)) (.ref (mC K)) = some false := by
  have ok := c.xok
  unfold XQ.ok at ok
  rw [hb, h1] at ok
  have ok1 : bothB K = true := by
    have := (Bool.and_eq_true_iff.mp (Bool.and_eq_true_iff.mp ok).2).2
    simpa using this
  unfold bothB at ok1
  simp only [Bool.and_eq_true, decide_eq_true_eq] at ok1
  exact ok1
end
end RB

set_option Elab.async false
set_option linter.all false
set_option maxRecDepth 100000
set_option maxHeartbeats 4000000
set_option pp.maxSteps 600
namespace RB
open PySem PySem.Spec PyProof.Rows L2 PySem.W
/-- the i-th statement of a class's body -/
def inCls (st : Stmt) (i : Nat) : Stmt := match st with
  | .ClassDef _ _ _ body _ _ _ _ _ _ _ => body.getD i (.Pass ⟨0, 0, 0, 0⟩)
  | _ => .Pass ⟨0, 0, 0, 0⟩
structure BadX (P : Program) (K : Frag) (mg : Str → Option Value) : Prop where
  ex : ∃ (file s1 s2 : Str) (j1 j2 : Nat) (q0 q1 p1 p2 p3 p4 p5 r0 r1 r2 r3 r4 r5 r6 r7 r8 : Pos), BadK K (bC K) (bL K) (bI K) (cellB K) (codeB K) "BadValue.__init__" (iArgs q0 q1) (iBody s1 s2 j1 j2 p1 p2 p3 p4 p5 r0 r1 r2 r3 r4 r5 r6 r7 r8) iScope file ∧
    s1.length ≤ 400 ∧ s2.length ≤ 400 ∧ ((P.main.file : Str) == file) = true ∧ (r2.endLine == r3.line) = true
  top : (P.main.scope.names.lookup ("super" : Str)).isSome = false
  sup : mg "super" = none
  gC : mg "BadValue" = some (.ref (bC K))
  xf : XfC K (bC K)
  noat : findIn K (.ref (bC K)) "at" = some none
  e1 : exmOne K (.ref (bC K)) (.ref (bC K)) = some true
  e2 : ∀ C2, mg "TooMany" = some (.ref C2) → exmOne K (.ref C2) (.ref (bC K)) = some false
structure ManyX (K : Frag) (mg : Str → Option Value) : Prop where
  q : excIn K (mC K) ESX.exTail "Exception.__new__" = true
  kC : keepIn K (.ref (mC K)) = true
  t1 : subIn K (.ref (mC K)) (.type "BaseException") = some true
  t2 : typeIn K (.ref (mC K)) = some (.type "type")
  gC : mg "TooMany" = some (.ref (mC K))
  e1 : exmOne K (.ref (mC K)) (.ref (mC K)) = some true
  e2 : ∀ C2, mg "BadValue" = some (.ref C2) → exmOne K (.ref C2) (.ref (mC K)) = some false
/-- what the program's text has -/
structure PF (P : Program) (file : Str) : Prop where
  file_ : ((P.main.file : Str) == file) = true
  top : (P.main.scope.names.lookup ("super" : Str)).isSome = false
section
variable {X : Cx} {W : WX} {H0 : Hp} {F0 : Addr → Prop}
theorem st_badX (Ls : List Nat) {p pos pos' : Pos} {e : Expr} {f : Env → R D} {k : Nat} (B : BadX X.prog X.K X.mg) (hr : Room k X.A) (hk : 1 ≤ k) (tk : Takes X W) (he : Ex X W e f) (hc : X.calm = true := by rfl) (hg : Gl X "BadValue" := by rfl)
    (hst : starEach [e] X.env = (false, eval e X.env) :: starEach [] X.env := by rfl) (hpl : (backTo pos (starEach [] X.env)).any (·.1) = false := by rfl) :
    Sx X W H0 F0 (.Raise (some (.Call (.Name "BadValue" p) [e] [] pos)) none pos') (badS Ls f) := by
  obtain ⟨file, s1, s2, j1, j2, q0, q1, p1, p2, p3, p4, p5, r0, r1, r2, r3, r4, r5, r6, r7, r8, BK, l1, l2, hf, hp⟩ := B.ex
  exact st_bad Ls BK (hr.mono (show 0 + 1 ≤ k from hk)) tk l1 l2 hf B.top hp B.sup B.gC he hc hg hst hpl
theorem st_tryX (i : Nat) {n : Str} {np pos pos' a1 a2 a3 a4 a5 : Pos} {jc : Nat} {c : Int} {body : List Stmt} {g : Gam → R Fl} (B : BadX X.prog X.K X.mg) (hN : X.N.Nodup) (tk : Takes X W)
    (hb : ∀ (W : WX) (pn : List (Addr × Obj)) (xe : Value → Shared → Prop), Takes (X.tr pn xe) W → PassesOwn (model X.prog X.w) X.A X.env xe → Ssx (X.tr pn xe) W H0 F0 body g)
    (hi : X.N[i]? = some n := by rfl) (hs : X.stack = X.env :: X.outer := by rfl) (hf : X.env.frame = some X.env.locals := by rfl) (hln : X.env.kindOf n = some .local := by rfl)
    (hv : Vis X.env.scope n := by first | exact Or.inl rfl | exact Or.inr (Or.inl rfl) | exact Or.inr (Or.inr rfl))
    (hg : Gl X "BadValue" := by rfl) (hd1 : (n == ("__debug__" : Str)) = false := by decide) (hd2 : (n == ("__classdict__" : Str)) = false := by decide) (hab : attributeBase (.Name n a1) "at" X.env (eval (.Name n a1) X.env) = eval (.Name n a1) X.env := by rfl) :
    Sx X W H0 F0 (.Try body [.ExceptHandler (some (.Name "BadValue" np)) (some n) [.Return (some (.Compare (.Attribute (.Name n a1) "at" a2) [.Eq] [.Constant (.int c) jc a3] a4)) a5] pos'] [] [] pos) (tryAtS i c g) :=
  st_try_at hs hf hN hi hln B.gC tk B.xf B.noat B.e1 B.e2 hv hb hg hd1 hd2 hab
theorem st_manyX {m : Str} {j : Nat} {p p2 pos pos' : Pos} (B : ManyX X.K X.mg) (tk : Takes X W) (hc : X.calm = true := by rfl) (hg : Gl X "TooMany" := by rfl) :
    Sx X W H0 F0 (.Raise (some (.Call (.Name "TooMany" p) [.Constant (.str m) j p2] [] pos)) none pos') manyS := st_many F.excBase_Exception B.q B.gC B.kC B.t1 B.t2 tk hc hg
theorem st_tryM {np pos pos' : Pos} {b₀ : Stmt} {body suite : List Stmt} {g h : Gam → R Fl} (B : ManyX X.K X.mg) (tk : Takes X W)
    (hb : ∀ (W : WX) (pn : List (Addr × Obj)) (xe : Value → Shared → Prop), Takes (X.tr pn xe) W → PassesOwn (model X.prog X.w) X.A X.env xe → Ssx (X.tr pn xe) W H0 F0 body g)
    (hsu : ∀ (a : Addr) (oe : Obj) (pn : List (Addr × Obj)), Ssx (X.suite a ((a, oe) :: pn)) W0 H0 F0 (b₀ :: suite) h) (hs : X.stack = X.env :: X.outer := by rfl) (hf : X.env.frame = some X.env.locals := by rfl) (hg : Gl X "TooMany" := by rfl) :
    Sx X W H0 F0 (.Try body [.ExceptHandler (some (.Name "TooMany" np)) none (b₀ :: suite) pos'] [] [] pos) (tryManyS g h) := st_try_many hs hf B.gC tk B.e1 B.e2 hb hsu hg
end
end RB

set_option Elab.async false
set_option linter.all false
set_option maxRecDepth 100000
set_option maxHeartbeats 4000000
namespace RB
open PySem
/-! ### evaluation of the newer constructs -/
def m1K (g : D → D → R D) (x : R D) (f : Env → R D) (ε : Env) : R D := x >>= fun x => (sStr x).hard >>= fun x => f ε >>= fun y => (g x y).hard
def m1K2 (g : D → D → R D) (z : Str) (y : R D) : R D := y >>= fun y => (g (.str z) y).hard
theorem ev_m1 (g : D → D → R D) (fo fe : Env → R D) (ε : Env) : m1E g fo fe ε = m1K g (fo ε) fe ε := Eq.trans rfl rfl
theorem ev_m1k (g : D → D → R D) (z : Str) (f : Env → R D) (ε : Env) : m1K g (.ok (.str z)) f ε = m1K2 g z (f ε) := Eq.trans rfl rfl
theorem ev_m1k2 (g : D → D → R D) (z : Str) (y : D) : m1K2 g z (.ok y) = (g (.str z) y).hard := Eq.trans rfl rfl
theorem v_start (a b : Str) : startD (.str a) (.str b) = .ok (.bool (Txt.startswith a b)) := Eq.trans rfl rfl
theorem v_ends (a b : Str) : endD (.str a) (.str b) = .ok (.bool (Txt.endswith a b)) := Eq.trans rfl rfl
theorem v_find (a b : Str) : findD (.str a) (.str b) = .ok (.int (Txt.find a b)) := Eq.trans rfl rfl
theorem v_count (a b : Str) : countD (.str a) (.str b) = .ok (.int (Txt.count a b)) := Eq.trans rfl rfl
theorem ev_bad (L : List Nat) (f : Env → R D) (Γ : Gam) : badS L f Γ = badK (f (view L Γ)) Γ := Eq.trans rfl rfl
theorem ev_bad1 (i : Int) (Γ : Gam) (h0 : 0 ≤ i) (h1 : i < 10) : badK (.ok (.int i)) Γ = .ok (.xn (.bad i) Γ) := by
  show (if 0 ≤ i ∧ i < 10 then R.ok (Fl.xn (.bad i) Γ) else .stuck) = _
  rw [if_pos ⟨h0, h1⟩]
theorem ev_many (Γ : Gam) : manyS Γ = .ok (.xn .many Γ) := Eq.trans rfl rfl
theorem ev_try (i : Nat) (c : Int) (g : Gam → R Fl) (Γ : Gam) : tryAtS i c g Γ = tryAt i c (g Γ) := Eq.trans rfl rfl
theorem ev_try1 (i : Nat) (c : Int) (Γ : Gam) : tryAt i c (.ok (.nx Γ)) = .ok (.nx Γ) := Eq.trans rfl rfl
theorem ev_try2 (i : Nat) (c : Int) (d : D) : tryAt i c (.ok (.rt d)) = .ok (.rt d) := Eq.trans rfl rfl
theorem ev_try3 (i : Nat) (c k : Int) (Γ : Gam) (h : i < Γ.length) : tryAt i c (.ok (.xn (.bad k) Γ)) = .ok (.rt (.bool (k == c))) := by
  show (if i < Γ.length then R.ok (Fl.rt (.bool (k == c))) else .stuck) = _
  rw [if_pos h]
theorem ev_try4 (i : Nat) (c : Int) (Γ : Gam) : tryAt i c (.ok (.xn .many Γ)) = .ok (.xn .many Γ) := Eq.trans rfl rfl
theorem ev_tryM (g h : Gam → R Fl) (Γ : Gam) : tryManyS g h Γ = tryMany h (g Γ) := Eq.trans rfl rfl
theorem ev_tryM1 (h : Gam → R Fl) (Γ : Gam) : tryMany h (.ok (.nx Γ)) = .ok (.nx Γ) := Eq.trans rfl rfl
theorem ev_tryM2 (h : Gam → R Fl) (d : D) : tryMany h (.ok (.rt d)) = .ok (.rt d) := Eq.trans rfl rfl
theorem ev_tryM3 (h : Gam → R Fl) (Γ : Gam) : tryMany h (.ok (.xn .many Γ)) = noXn (h Γ) := Eq.trans rfl rfl
theorem ev_noXn1 (Γ : Gam) : noXn (.ok (.nx Γ)) = .ok (.nx Γ) := Eq.trans rfl rfl
theorem ev_noXn2 (d : D) : noXn (.ok (.rt d)) = .ok (.rt d) := Eq.trans rfl rfl
def setEK (r : R (List D)) : R (List L2.Key) := r >>= keysS
theorem ev_setE (f : Env → R (List D)) (ε : Env) : setE_ f ε = setEK (f ε) := Eq.trans rfl rfl
theorem ev_setEk (ds : List D) : setEK (.ok ds) = keysS ds := Eq.trans rfl rfl
def lenKK (r : R (List L2.Key)) : R D := r >>= fun ks => if ks.length ≤ 4000 then .ok (.int ks.length) else .stuck
theorem ev_lenK (f : Env → R (List L2.Key)) (ε : Env) : lenKE f ε = lenKK (f ε) := Eq.trans rfl rfl
theorem ev_lenKk (ks : List L2.Key) (h : ks.length ≤ 4000) : lenKK (.ok ks) = .ok (.int ks.length) := by
  show (if ks.length ≤ 4000 then R.ok (PyData.int ks.length) else .stuck) = _
  rw [if_pos h]
noncomputable def sortKK (r : R (List L2.Key)) : R (List D) := r >>= sortKS
theorem ev_sortK (f : Env → R (List L2.Key)) (ε : Env) : sortKE f ε = sortKK (f ε) := Eq.trans rfl rfl
theorem ev_sortKk (ks : List L2.Key) : sortKK (.ok ks) = sortKS ks := Eq.trans rfl rfl
theorem v_min2 (i j : Int) : minG2 [.int i, .int j] = .ok (.int (if j < i then j else i)) := Eq.trans rfl rfl
theorem v_max2 (i j : Int) : maxG2 [.int i, .int j] = .ok (.int (if j > i then j else i)) := Eq.trans rfl rfl
theorem v_abs (i : Int) : absG [.int i] = .ok (.int (if i < 0 then -i else i)) := Eq.trans rfl rfl
theorem ev_pop (i j : Nat) (Γ : Gam) (ys : List D) (d : D) (h : Γ[i]? = some (.ol (ys ++ [d]))) : popS i j Γ = .ok (.nx ((Γ.set i (.ol ys)).set j (.da d))) := by
  show ((match Γ[i]? with
    | some (.ol ds) => R.ok ds
    | _ => .stuck) >>= fun ys => match ys[ys.length - 1]? with
    | some d => R.ok (Fl.nx ((Γ.set i (.ol ys.dropLast)).set j (.da d)))
    | none => .stuck) = _
  rw [h]
  show (match (ys ++ [d])[(ys ++ [d]).length - 1]? with
    | some e => R.ok (Fl.nx ((Γ.set i (.ol (ys ++ [d]).dropLast)).set j (.da e)))
    | none => .stuck) = _
  have e : (ys ++ [d])[(ys ++ [d]).length - 1]? = some d := by simp
  rw [e, List.dropLast_concat]
theorem ev_ext (L : List Nat) (i : Nat) (f : Env → R (List D)) (Γ : Gam) (ys ds : List D) (h : Γ[i]? = some (.ol ys)) (h2 : f (view L Γ) = .ok ds) (h3 : ys.length + ds.length ≤ 16777216) (h4 : L = [] ∨ noLsts ds = true) : extS L i f Γ = .ok (.nx (Γ.set i (.ol (ys ++ ds)))) := by
  show ((match Γ[i]? with
    | some (.ol ds) => R.ok ds
    | _ => .stuck) >>= fun ys => lift (f (view L Γ)) Γ fun ds => if ys.length + ds.length ≤ 16777216 ∧ (L = [] ∨ noLsts ds = true) then R.ok (Fl.nx (Γ.set i (.ol (ys ++ ds)))) else .stuck) = _
  rw [h, h2]
  show (if ys.length + ds.length ≤ 16777216 ∧ (L = [] ∨ noLsts ds = true) then R.ok (Fl.nx (Γ.set i (.ol (ys ++ ds)))) else .stuck) = _
  rw [if_pos ⟨h3, h4⟩]
def idxK (x : R D) (f : Env → R D) (ε : Env) : R D := x >>= fun x => (recvD x).hard >>= fun x => f ε >>= fun y => (idxD x y).hard
theorem ev_idx (fo fe : Env → R D) (ε : Env) : idxE fo fe ε = idxK (fo ε) fe ε := Eq.trans rfl rfl
theorem ev_idxL (ds : List D) (f : Env → R D) (ε : Env) : idxK (.ok (.list ds)) f ε = op2K idxD (.ok (.list ds)) (f ε) := Eq.trans rfl rfl
theorem ev_idxS (z : Str) (f : Env → R D) (ε : Env) : idxK (.ok (.str z)) f ε = op2K idxD (.ok (.str z)) (f ε) := Eq.trans rfl rfl
def catEK (x y : R D) : R (List D) := x >>= fun x => y >>= fun y => (catLD x y).hard
theorem ev_catE (fa fb : Env → R D) (ε : Env) : catE fa fb ε = catEK (fa ε) (fb ε) := Eq.trans rfl rfl
theorem ev_catEk (a b : List D) (h : a.length + b.length ≤ 16777216) : catEK (.ok (.list a)) (.ok (.list b)) = .ok (a ++ b) := by
  show (if a.length + b.length ≤ 16777216 then R.ok (a ++ b) else .stuck).hard = _
  rw [if_pos h]
  exact Eq.trans rfl rfl
def rg1K (x : R D) : R (List D) := x >>= fun x => (rgLK (.int 0) x).hard
theorem ev_rg1 (fa : Env → R D) (ε : Env) : rg1E fa ε = rg1K (fa ε) := Eq.trans rfl rfl
theorem ev_rev2 (f : Env → R D) (ε : Env) : rev2E f ε = op1K revT (f ε) := Eq.trans rfl rfl
theorem v_revL (ds : List D) : revT (.list ds) = .ok (.list ds.reverse) := Eq.trans rfl rfl
def popK (i j : Nat) (s : Option Sl) (Γ : Gam) : R Fl := match s with
  | some (.ol ys) => (match ys[ys.length - 1]? with
    | some d => .ok (.nx ((Γ.set i (.ol ys.dropLast)).set j (.da d)))
    | none => .stuck)
  | _ => .stuck
theorem ev_popK (i j : Nat) (Γ : Gam) : popS i j Γ = popK i j Γ[i]? Γ := by
  unfold popS popK listAt
  cases Γ[i]? with
  | none => rfl
  | some s => cases s <;> rfl
theorem ev_popk (i j : Nat) (ys : List D) (d : D) (Γ : Gam) : popK i j (some (.ol (ys ++ [d]))) Γ = .ok (.nx ((Γ.set i (.ol ys)).set j (.da d))) := by
  show (match (ys ++ [d])[(ys ++ [d]).length - 1]? with
    | some e => R.ok (Fl.nx ((Γ.set i (.ol (ys ++ [d]).dropLast)).set j (.da e)))
    | none => .stuck) = _
  have e : (ys ++ [d])[(ys ++ [d]).length - 1]? = some d := by simp
  rw [e, List.dropLast_concat]
def extK (L : List Nat) (i : Nat) (s : Option Sl) (r : R (List D)) (Γ : Gam) : R Fl := match s with
  | some (.ol ys) => lift r Γ fun ds => if ys.length + ds.length ≤ 16777216 ∧ (L = [] ∨ noLsts ds = true) then .ok (.nx (Γ.set i (.ol (ys ++ ds)))) else .stuck
  | _ => .stuck
theorem ev_extK (L : List Nat) (i : Nat) (f : Env → R (List D)) (Γ : Gam) : extS L i f Γ = extK L i Γ[i]? (f (view L Γ)) Γ := by
  unfold extS extK listAt
  cases Γ[i]? with
  | none => rfl
  | some s => cases s <;> rfl
theorem ev_extk (i : Nat) (ys ds : List D) (Γ : Gam) (h : ys.length + ds.length ≤ 16777216) : extK [] i (some (.ol ys)) (.ok ds) Γ = .ok (.nx (Γ.set i (.ol (ys ++ ds)))) := by
  show (if ys.length + ds.length ≤ 16777216 ∧ (([] : List Nat) = [] ∨ noLsts ds = true) then R.ok (Fl.nx (Γ.set i (.ol (ys ++ ds)))) else .stuck) = _
  rw [if_pos ⟨h, .inl rfl⟩]
def forKK (r : R (List D)) (t : Tg) (b : Gam → R Fl) (Γ : Gam) : R Fl := lift r Γ fun ds => forL t b ds Γ
theorem ev_forK (L : List Nat) (it : Env → R (List D)) (t : Tg) (b : Gam → R Fl) (Γ : Gam) : forKS L it t b Γ = forKK (it (view L Γ)) t b Γ := Eq.trans rfl rfl
theorem ev_forKk (ds : List D) (t : Tg) (b : Gam → R Fl) (Γ : Gam) : forKK (.ok ds) t b Γ = forL t b ds Γ := Eq.trans rfl rfl
def forFK (L : List Nat) (r : R (List D)) (t : Tg) (b : Gam → R Fl) (Γ : Gam) : R Fl := lift r Γ fun ds => if L = [] ∨ noLsts ds = true then forL t b ds Γ else .stuck
theorem ev_forF (L : List Nat) (it : Env → R (List D)) (t : Tg) (b : Gam → R Fl) (Γ : Gam) : forFS L it t b Γ = forFK L (it (view L Γ)) t b Γ := Eq.trans rfl rfl
theorem ev_forFk (L : List Nat) (ds : List D) (t : Tg) (b : Gam → R Fl) (Γ : Gam) (h : noLsts ds = true) : forFK L (.ok ds) t b Γ = forL t b ds Γ := by
  show (if L = [] ∨ noLsts ds = true then forL t b ds Γ else .stuck) = _
  rw [if_pos (.inr h)]
/-! dicts, new lists as answers -/
def retFK (r : R (List D)) (Γ : Gam) : R Fl := lift r Γ fun ds => .ok (.rl ds)
theorem ev_retF (L : List Nat) (f : Env → R (List D)) (Γ : Gam) : retFS L f Γ = retFK (f (view L Γ)) Γ := Eq.trans rfl rfl
theorem ev_retFk (ds : List D) (Γ : Gam) : retFK (.ok ds) Γ = .ok (.rl ds) := Eq.trans rfl rfl
def retOK (s : Option Sl) : R Fl := match s with
  | some (.ol ds) => .ok (.rl ds)
  | _ => .stuck
theorem ev_retO (i : Nat) (Γ : Gam) : retOS i Γ = retOK Γ[i]? := by
  unfold retOS retOK listAt
  cases Γ[i]? with
  | none => rfl
  | some s => cases s <;> rfl
theorem ev_retOk (ds : List D) : retOK (some (.ol ds)) = .ok (.rl ds) := Eq.trans rfl rfl
def usrFK (S : List D → R (List D)) (r : R (List D)) : R (List D) := r >>= S
theorem ev_usrF (S : List D → R (List D)) (fs : List (Env → R D)) (ε : Env) : usrF S fs ε = usrFK S (evL fs ε) := Eq.trans rfl rfl
theorem ev_usrFk (S : List D → R (List D)) (ds : List D) : usrFK S (.ok ds) = S ds := Eq.trans rfl rfl
def ownDK (L : List Nat) (i : Nat) (t : Bool) (r : R (List (D × D))) (Γ : Gam) : R Fl := lift r Γ fun kvs => .ok (.nx ((keepGs L (kvs.map (·.2)) Γ).set i (.od t kvs)))
theorem ev_ownD (L : List Nat) (i : Nat) (t : Bool) (f : Env → R (List (D × D))) (Γ : Gam) : ownDS L i t f Γ = ownDK L i t (f (view L Γ)) Γ := Eq.trans rfl rfl
theorem ev_ownD0 (i : Nat) (t : Bool) (kvs : List (D × D)) (Γ : Gam) : ownDK [] i t (.ok kvs) Γ = .ok (.nx (Γ.set i (.od t kvs))) := by
  show R.ok (Fl.nx ((keepGs [] (kvs.map (·.2)) Γ).set i (.od t kvs))) = _
  unfold keepGs
  rw [if_pos (.inl rfl)]
theorem ev_empD (ε : Env) : emptyDF ε = .ok [] := Eq.trans rfl rfl
def dataDK (t : Bool) (r : R (List (D × D))) : R D := r >>= fun kvs => .ok (.dict (markT t kvs))
theorem ev_dataD (t : Bool) (f : Env → R (List (D × D))) (ε : Env) : dataDF t f ε = dataDK t (f ε) := Eq.trans rfl rfl
theorem ev_dataDk (t : Bool) (kvs : List (D × D)) : dataDK t (.ok kvs) = .ok (.dict (markT t kvs)) := Eq.trans rfl rfl
def putDK (L : List Nat) (i : Nat) (s : Option Sl) (r : R D) (fk : Env → R D) (Γ : Gam) : R Fl := match s with
  | some (.od t kvs) => lift r Γ fun d => lift (fk (view L Γ)) Γ fun k => if keyFit t k = true ∧ kvs.length < 16777216 ∧ (L = [] ∨ noLst d = true) then .ok (.nx (Γ.set i (.od t (dPut kvs k d)))) else .stuck
  | _ => .stuck
theorem ev_putD (L : List Nat) (i : Nat) (fe fk : Env → R D) (Γ : Gam) : putDS L i fe fk Γ = putDK L i Γ[i]? (fe (view L Γ)) fk Γ := by
  unfold putDS putDK dctAt
  cases Γ[i]? with
  | none => rfl
  | some s => cases s <;> rfl
def putDK2 (L : List Nat) (i : Nat) (t : Bool) (kvs : List (D × D)) (d : D) (r : R D) (Γ : Gam) : R Fl := lift r Γ fun k => if keyFit t k = true ∧ kvs.length < 16777216 ∧ (L = [] ∨ noLst d = true) then .ok (.nx (Γ.set i (.od t (dPut kvs k d)))) else .stuck
theorem ev_putD1 (L : List Nat) (i : Nat) (t : Bool) (kvs : List (D × D)) (d : D) (fk : Env → R D) (Γ : Gam) : putDK L i (some (.od t kvs)) (.ok d) fk Γ = putDK2 L i t kvs d (fk (view L Γ)) Γ := Eq.trans rfl rfl
theorem ev_putD2 (L : List Nat) (i : Nat) (t : Bool) (kvs : List (D × D)) (d k : D) (Γ : Gam) (h1 : keyFit t k = true) (h2 : kvs.length < 16777216) (h3 : noLst d = true) : putDK2 L i t kvs d (.ok k) Γ = .ok (.nx (Γ.set i (.od t (dPut kvs k d)))) := by
  show (if keyFit t k = true ∧ kvs.length < 16777216 ∧ (L = [] ∨ noLst d = true) then R.ok (Fl.nx (Γ.set i (.od t (dPut kvs k d)))) else .stuck) = _
  rw [if_pos ⟨h1, h2, .inr h3⟩]
theorem mark_F (kvs : List (D × D)) : markT false kvs = kvs := Eq.trans rfl rfl
theorem mark_T (kvs : List (D × D)) : markT true kvs = (.none, .none) :: kvs := Eq.trans rfl rfl
/-! keys of texts -/
theorem keys_strs : ∀ zs : List Str, keysOfD (zs.map .str) = .ok (zs.map Sum.inr)
  | [] => rfl
  | z :: zs => by
    show (keyOfD (.str z) >>= fun k => keysOfD (zs.map .str) >>= fun ks => R.ok (k :: ks)) = _
    rw [keys_strs zs]; rfl
theorem keysS_strs (zs : List Str) (h : zs.length ≤ 4000) : keysS (zs.map .str) = .ok (setKs (zs.map Sum.inr)) := by
  unfold keysS
  rw [keys_strs]
  show (if (zs.map Sum.inr : List L2.Key).length ≤ 4000 then R.ok (setKs (zs.map Sum.inr)) else .stuck) = _
  rw [if_pos (by rw [List.length_map]; exact h)]
theorem setKs_nodup : ∀ {ks : List L2.Key}, ks.Nodup → setKs ks = ks := fun {ks} h => by
  have : ∀ (l acc : List L2.Key), (acc ++ l).Nodup → l.foldl addK acc = acc ++ l := by
    intro l
    induction l with
    | nil => intro acc _; simp
    | cons k l ih =>
      intro acc hn
      have hk : k ∉ acc := fun hm => by
        have := (List.nodup_append.mp hn).2.2 k hm k (List.mem_cons_self ..)
        exact this rfl
      have e : addK acc k = acc ++ [k] := if_neg hk
      rw [List.foldl_cons, e, ih (acc ++ [k]) (by rw [List.append_assoc]; exact hn), List.append_assoc]
      rfl
  exact this ks [] h
theorem mem_setKs (k : L2.Key) (ks : List L2.Key) : k ∈ setKs ks ↔ k ∈ ks := by
  have : ∀ (l acc : List L2.Key), k ∈ l.foldl addK acc ↔ k ∈ acc ∨ k ∈ l := by
    intro l
    induction l with
    | nil => intro acc; simp
    | cons a l ih =>
      intro acc
      rw [List.foldl_cons, ih]
      by_cases h : a ∈ acc
      · rw [show addK acc a = acc from if_pos h]
        constructor
        · rintro (h1 | h1)
          · exact .inl h1
          · exact .inr (List.mem_cons_of_mem _ h1)
        · rintro (h1 | h1)
          · exact .inl h1
          · rcases List.mem_cons.mp h1 with rfl | h1
            · exact .inl h
            · exact .inr h1
      · rw [show addK acc a = acc ++ [a] from if_neg h, List.mem_append, List.mem_singleton, List.mem_cons]
        constructor
        · rintro ((h1 | h1) | h1)
          · exact .inl h1
          · exact .inr (.inl h1)
          · exact .inr (.inr h1)
        · rintro (h1 | h1 | h1)
          · exact .inl (.inl h1)
          · exact .inl (.inr h1)
          · exact .inr h1
  simpa [setKs] using this ks []
end RB

set_option Elab.async false
set_option linter.all false
set_option maxRecDepth 100000
set_option maxHeartbeats 4000000
namespace RB
open PySem
abbrev S_ (l : List Nat) : Str := ⟨l.toArray⟩
theorem subAt_S (a b : List Nat) (i : Nat) : PySem.Builtin.Str.subAt (S_ a) (S_ b) i = decide ((a.drop i).take b.length = b) := by
  show ((a.toArray.extract i (i + (S_ b).length)) == b.toArray) = _
  have e : (S_ b).length = b.length := by show b.toArray.size = _; rw [List.size_toArray]
  rw [e]
  have e2 : a.toArray.extract i (i + b.length) = ((a.drop i).take b.length).toArray := by
    apply Array.ext'
    simp [List.extract_eq_drop_take]
  rw [e2]
  by_cases h : (a.drop i).take b.length = b
  · rw [h]; simp
  · rw [decide_eq_false h]
    have : ((a.drop i).take b.length).toArray ≠ b.toArray := fun z => h (by simpa using z)
    simpa using this
theorem v_startX (a b : List Nat) : startD (T a) (T b) = .ok (.bool (decide (a.take b.length = b))) := by
  show R.ok (PyData.bool (decide (0 + (S_ b).length ≤ (S_ a).length) && PySem.Builtin.Str.subAt (S_ a) (S_ b) 0)) = _
  have ea : (S_ a).length = a.length := by show a.toArray.size = _; rw [List.size_toArray]
  have eb : (S_ b).length = b.length := by show b.toArray.size = _; rw [List.size_toArray]
  rw [subAt_S, ea, eb, List.drop_zero]
  by_cases h : a.take b.length = b
  · have hl := congrArg List.length h
    rw [List.length_take] at hl
    rw [decide_eq_true h, decide_eq_true (show 0 + b.length ≤ a.length by omega)]; rfl
  · rw [decide_eq_false h, Bool.and_false]
theorem v_endsX (a b : List Nat) : endD (T a) (T b) = .ok (.bool (decide (b.length ≤ a.length ∧ a.drop (a.length - b.length) = b))) := by
  show R.ok (PyData.bool (decide (0 + (S_ b).length ≤ (S_ a).length) && PySem.Builtin.Str.subAt (S_ a) (S_ b) ((S_ a).length - (S_ b).length))) = _
  have ea : (S_ a).length = a.length := by show a.toArray.size = _; rw [List.size_toArray]
  have eb : (S_ b).length = b.length := by show b.toArray.size = _; rw [List.size_toArray]
  rw [subAt_S, ea, eb]
  by_cases h : b.length ≤ a.length
  · have e : (a.drop (a.length - b.length)).take b.length = a.drop (a.length - b.length) := List.take_of_length_le (by rw [List.length_drop]; omega)
    rw [e, decide_eq_true (show 0 + b.length ≤ a.length by omega), Bool.true_and]
    congr 2
    by_cases q : a.drop (a.length - b.length) = b
    · rw [decide_eq_true q, decide_eq_true ⟨h, q⟩]
    · rw [decide_eq_false q, decide_eq_false fun z => q z.2]
  · rw [decide_eq_false (show ¬ 0 + b.length ≤ a.length by omega), Bool.false_and, decide_eq_false (fun (z : b.length ≤ a.length ∧ a.drop (a.length - b.length) = b) => h z.1)]
theorem v_revX (a : List Nat) : revT (T a) = .ok (T a.reverse) := by
  show R.ok (PyData.str ⟨a.toArray.reverse⟩) = _
  unfold T
  simp
theorem strsOf_T : ∀ ls : List (List Nat), strsOf (ls.map T) = .ok (ls.map S_)
  | [] => rfl
  | l :: ls => by
    show (strsOf (ls.map T) >>= fun zs => R.ok (S_ l :: zs)) = _
    rw [strsOf_T ls]; rfl
theorem join_nil : ∀ ls : List (List Nat), Str.join (S_ []) (ls.map S_) = S_ ls.flatten
  | [] => rfl
  | [l] => by show S_ l = S_ (l ++ []); rw [List.append_nil]
  | l :: m :: r => by
    show Str.append (Str.append (S_ l) (S_ [])) (Str.join (S_ []) ((m :: r).map S_)) = _
    rw [join_nil (m :: r)]
    unfold Str.append
    show (⟨(l.toArray ++ [].toArray) ++ (m :: r).flatten.toArray⟩ : Str) = ⟨(l ++ (m :: r).flatten).toArray⟩
    simp
theorem okS_S {l : List Nat} (h1 : l.length ≤ 16777216) (h2 : ∀ c ∈ l, c < 1114112) : okS (S_ l) := by
  refine ⟨?_, ?_⟩
  · show l.toArray.size ≤ _
    rw [List.size_toArray, sizeLine_eq]; exact h1
  · show (l.toArray.all (· < 0x110000)) = true
    rw [List.all_toArray]
    exact List.all_eq_true.mpr fun c hc => decide_eq_true (h2 c hc)
theorem sum_len : ∀ ls : List (List Nat), ((ls.map S_).map (·.length)).sum = ls.flatten.length
  | [] => rfl
  | l :: ls => by
    show (S_ l).length + ((ls.map S_).map (·.length)).sum = (l ++ ls.flatten).length
    rw [sum_len ls, List.length_append]
    show l.toArray.size + _ = _
    rw [List.size_toArray]
theorem v_joinX {ls : List (List Nat)} (h1 : ls.flatten.length ≤ 16777216) (h2 : ∀ c ∈ ls.flatten, c < 1114112) : joinK (S_ []) (ls.map S_) = .ok (T ls.flatten) := by
  unfold joinK
  have e : PySem.Txt.join (S_ []) (ls.map S_) = S_ ls.flatten := by rw [TL.join_eq, join_nil]
  rw [e, sum_len, if_pos ⟨by show _ + _ * ([] : List Nat).toArray.size ≤ _; simpa using h1, okS_S h1 h2⟩]
  rfl
theorem v_joinL {ls : List (List Nat)} (h1 : ls.flatten.length ≤ 16777216) (h2 : ∀ c ∈ ls.flatten, c < 1114112) : joinD (T []) (.list (ls.map T)) = .ok (T ls.flatten) := by
  show (strsOf (ls.map T) >>= fun ys => joinK (S_ []) ys) = _
  rw [strsOf_T]
  exact v_joinX h1 h2
end RB

set_option Elab.async false
set_option linter.all false
set_option maxRecDepth 100000
set_option maxHeartbeats 4000000
namespace RB
open PySem PySem.Spec L2
/-! ### evaluation with open conditions: cond -/
theorem c_ok {α : Type} (b : Bool) (x y : α) : cond b (R.ok x) (R.ok y) = R.ok (cond b x y) := by cases b <;> rfl
theorem c_same {α : Type} (b : Bool) (x : α) : cond b x x = x := by cases b <;> rfl
theorem c_bool (b x y : Bool) : cond b (PyData.bool x) (.bool y) = .bool (cond b x y) := by cases b <;> rfl
theorem c_int (b : Bool) (x y : Int) : cond b (PyData.int x) (.int y) = .int (cond b x y) := by cases b <;> rfl
theorem c_T (b : Bool) (x y : List Nat) : cond b (T x) (T y) = T (cond b x y) := by cases b <;> rfl
theorem c_tup (b : Bool) (x y : List D) : cond b (PyData.tuple x) (.tuple y) = .tuple (cond b x y) := by cases b <;> rfl
theorem c_lst (b : Bool) (x y : List D) : cond b (PyData.list x) (.list y) = .list (cond b x y) := by cases b <;> rfl
theorem c_rt (b : Bool) (x y : D) : cond b (Fl.rt x) (.rt y) = .rt (cond b x y) := by cases b <;> rfl
theorem c_nx (b : Bool) (x y : Gam) : cond b (Fl.nx x) (.nx y) = .nx (cond b x y) := by cases b <;> rfl
theorem c_gam (b : Bool) (x y : Sl) (xs ys : Gam) : cond b (x :: xs) (y :: ys) = cond b x y :: cond b xs ys := by cases b <;> rfl
theorem c_da (b : Bool) (x y : D) : cond b (Sl.da x) (.da y) = .da (cond b x y) := by cases b <;> rfl
theorem c_ol (b : Bool) (x y : List D) : cond b (Sl.ol x) (.ol y) = .ol (cond b x y) := by cases b <;> rfl
theorem c_t (b : Bool) : cond b true false = b := by cases b <;> rfl
theorem c_n (b : Bool) : cond b false true = !b := by cases b <;> rfl
theorem c_xf (b x : Bool) : cond b x false = (b && x) := by cases b <;> rfl
theorem c_tx (b x : Bool) : cond b true x = (b || x) := by cases b <;> rfl
theorem c_fx (b x : Bool) : cond b false x = (!b && x) := by cases b <;> rfl
theorem c_xt (b x : Bool) : cond b x true = (!b || x) := by cases b <;> rfl
theorem c_if (b : Bool) (g h : Gam → R Fl) (Γ : Gam) : ifK (.ok b) g h Γ = cond b (g Γ) (h Γ) := by cases b <;> rfl
theorem c_andT (b : Bool) (g : Env → R Bool) (ε : Env) : andTK (.ok b) g ε = cond b (g ε) (.ok false) := by cases b <;> rfl
theorem c_orT (b : Bool) (g : Env → R Bool) (ε : Env) : orTK (.ok b) g ε = cond b (.ok true) (g ε) := by cases b <;> rfl
theorem c_andE (b : Bool) (g : Env → R D) (ε : Env) : andEK (.ok (.bool b)) g ε = cond b (g ε) (.ok (.bool false)) := by cases b <;> rfl
theorem c_orE (b : Bool) (g : Env → R D) (ε : Env) : orEK (.ok (.bool b)) g ε = cond b (.ok (.bool true)) (g ε) := by cases b <;> rfl
theorem c_ifE (b : Bool) (f g : Env → R D) (ε : Env) : ifEK (.ok b) f g ε = cond b (f ε) (g ε) := by cases b <;> rfl
theorem c_ch (g' : D → D → R D) (y : D) (b : Bool) (fc : Env → R D) (ε : Env) : chK g' (.ok y) (.ok (.bool b)) fc ε = cond b (op2K g' (.ok y) (fc ε)) (.ok (.bool false)) := by cases b <;> rfl
theorem c_seqK (b : Bool) (x y : Fl) (h : Gam → R Fl) : seqK (.ok (cond b x y)) h = cond b (seqK (.ok x) h) (seqK (.ok y) h) := by cases b <;> rfl
theorem c_seqK' (b : Bool) (x y : R Fl) (h : Gam → R Fl) : seqK (cond b x y) h = cond b (seqK x h) (seqK y h) := by cases b <;> rfl
theorem c_endR (b : Bool) (x y : Fl) : endR (.ok (cond b x y)) = cond b (endR (.ok x)) (endR (.ok y)) := by cases b <;> rfl
theorem c_endR' (b : Bool) (x y : R Fl) : endR (cond b x y) = cond b (endR x) (endR y) := by cases b <;> rfl
theorem c_isN (b : Bool) (x y : D) : isN (cond b x y) = cond b (isN x) (isN y) := by cases b <;> rfl
/-! ### comprehensions, without a premise -/
def seqC : List (R Bool × R D) → R (List D)
  | [] => .ok []
  | (b, r) :: l => b.hard >>= fun b => if b = true then r.hard >>= fun y => seqC l >>= fun ys => .ok (y :: ys) else seqC l
theorem k_comp {α : Type} (enc : α → D) (i : Nat) (fi : Env → R Bool) (fe : Env → R D) (ε : Env) : ∀ xs : List α, compL (.nm i) fi fe ε (xs.map enc) = seqC (xs.map fun x => (fi (ε.set i (some (enc x))), fe (ε.set i (some (enc x)))))
  | [] => rfl
  | x :: xs => by
    show ((fi (ε.set i (some (enc x)))).hard >>= fun b => if b = true then (fe (ε.set i (some (enc x)))).hard >>= fun y => compL (.nm i) fi fe ε (xs.map enc) >>= fun ys => .ok (y :: ys) else compL (.nm i) fi fe ε (xs.map enc)) = _
    rw [k_comp enc i fi fe ε xs]
    rfl
theorem k_comp2 {α : Type} (ea eb : α → D) (i j : Nat) (fi : Env → R Bool) (fe : Env → R D) (ε : Env) : ∀ xs : List α, compL (.tup [.nm i, .nm j]) fi fe ε (xs.map fun x => .tuple [ea x, eb x]) = seqC (xs.map fun x => (fi ((ε.set i (some (ea x))).set j (some (eb x))), fe ((ε.set i (some (ea x))).set j (some (eb x)))))
  | [] => rfl
  | x :: xs => by
    have e : flatT (.tup [.nm i, .nm j]) (.tuple [ea x, eb x]) = .ok [(i, ea x), (j, eb x)] := by
      rw [fl2, fl4, fl1, fl4, fl1, fl3, fl5, fl5]; rfl
    show ((flatT (.tup [.nm i, .nm j]) (.tuple [ea x, eb x])).hard >>= fun as => (fi (setE ε as)).hard >>= fun b => if b = true then (fe (setE ε as)).hard >>= fun y => compL (.tup [.nm i, .nm j]) fi fe ε (xs.map fun x => .tuple [ea x, eb x]) >>= fun ys => .ok (y :: ys) else compL (.tup [.nm i, .nm j]) fi fe ε (xs.map fun x => .tuple [ea x, eb x])) = _
    rw [e, k_comp2 ea eb i j fi fe ε xs]
    rfl
theorem k_all {α : Type} (g : α → D) : ∀ xs : List α, seqC (xs.map fun x => (R.ok true, R.ok (g x))) = .ok (xs.map g)
  | [] => rfl
  | x :: xs => by
    show (seqC (xs.map fun x => (R.ok true, R.ok (g x))) >>= fun ys => R.ok (g x :: ys)) = _
    rw [k_all g xs]; rfl
theorem k_fil {α : Type} (p : α → Bool) (g : α → D) : ∀ xs : List α, seqC (xs.map fun x => (R.ok (p x), R.ok (g x))) = .ok ((xs.filter p).map g)
  | [] => rfl
  | x :: xs => by
    show (if p x = true then (seqC (xs.map fun x => (R.ok (p x), R.ok (g x))) >>= fun ys => R.ok (g x :: ys)) else seqC (xs.map fun x => (R.ok (p x), R.ok (g x)))) = _
    rw [k_fil p g xs, List.filter_cons]
    cases p x <;> rfl
/-- .. where the items' own facts are wanted -/
theorem k_fil_of {α : Type} (p : α → Bool) (g : α → D) {fb : α → R Bool} {fr : α → R D} : ∀ (xs : List α), (∀ x ∈ xs, fb x = .ok (p x) ∧ (p x = true → fr x = .ok (g x))) → seqC (xs.map fun x => (fb x, fr x)) = .ok ((xs.filter p).map g)
  | [], _ => rfl
  | x :: xs, h => by
    obtain ⟨h1, h2⟩ := h x List.mem_cons_self
    show ((fb x).hard >>= fun b => if b = true then (fr x).hard >>= fun y => seqC (xs.map fun x => (fb x, fr x)) >>= fun ys => .ok (y :: ys) else seqC (xs.map fun x => (fb x, fr x))) = _
    rw [k_fil_of p g xs fun y hy => h y (List.mem_cons_of_mem _ hy), h1, R.hard_ok, R.ok_bind, List.filter_cons]
    cases q : p x with
    | true => rw [h2 q]; rfl
    | false => rfl
theorem k_all_of {α : Type} (g : α → D) {fr : α → R D} (xs : List α) (h : ∀ x ∈ xs, fr x = .ok (g x)) : seqC (xs.map fun x => (R.ok true, fr x)) = .ok (xs.map g) := by
  rw [k_fil_of (fun _ => true) g xs fun x hx => ⟨rfl, fun _ => h x hx⟩, List.filter_eq_self.mpr fun _ _ => rfl]
/-! two for -/
def seqB : List (R Bool × R (List D)) → R (List D)
  | [] => .ok []
  | (b, r) :: l => b.hard >>= fun b => if b = true then r >>= fun ys => seqB l >>= fun zs => .ok (ys ++ zs) else seqB l
def cL (t : Tg) (fi : Env → R Bool) (fe : Env → R D) (ε : Env) (r : R (List D)) : R (List D) := r.hard >>= fun es => compL t fi fe ε es
theorem ev_cL (t : Tg) (fi : Env → R Bool) (fe : Env → R D) (ε : Env) (es : List D) : cL t fi fe ε (.ok es) = compL t fi fe ε es := Eq.trans rfl rfl
def comp2K (r : R (List D)) : R (List D) := r.hard >>= fun tot => if tot.length ≤ 16777216 then .ok tot else .stuck
theorem ev_comp2K {tot : List D} (h : tot.length ≤ 16777216) : comp2K (.ok tot) = .ok tot := by
  show (if tot.length ≤ 16777216 then R.ok tot else .stuck) = _
  rw [if_pos h]
def comp2J (vs vs1 : List Nat) (r : R (List D)) (t : Tg) (fi : Env → R Bool) (it1 : Env → R (List D)) (t1 : Tg) (fi1 : Env → R Bool) (fe : Env → R D) (ε : Env) : R (List D) := r >>= fun ds => comp2K (comp2L t fi it1 vs1 t1 fi1 fe (wipeE ε vs) ds)
theorem ev_comp2 (vs vs1 : List Nat) (it : Env → R (List D)) (t : Tg) (fi : Env → R Bool) (it1 : Env → R (List D)) (t1 : Tg) (fi1 : Env → R Bool) (fe : Env → R D) (ε : Env) : comp2E vs vs1 it t fi it1 t1 fi1 fe ε = comp2J vs vs1 (it ε) t fi it1 t1 fi1 fe ε := Eq.trans rfl rfl
theorem ev_comp2j (vs vs1 : List Nat) (ds : List D) (t : Tg) (fi : Env → R Bool) (it1 : Env → R (List D)) (t1 : Tg) (fi1 : Env → R Bool) (fe : Env → R D) (ε : Env) : comp2J vs vs1 (.ok ds) t fi it1 t1 fi1 fe ε = comp2K (comp2L t fi it1 vs1 t1 fi1 fe (wipeE ε vs) ds) := Eq.trans rfl rfl
theorem k_two {α : Type} (enc : α → D) (i : Nat) (fi : Env → R Bool) (it1 : Env → R (List D)) (vs1 : List Nat) (t1 : Tg) (fi1 : Env → R Bool) (fe : Env → R D) (ε : Env) : ∀ xs : List α, comp2L (.nm i) fi it1 vs1 t1 fi1 fe ε (xs.map enc) = seqB (xs.map fun x => (fi (ε.set i (some (enc x))), cL t1 fi1 fe (wipeE (ε.set i (some (enc x))) vs1) (it1 (ε.set i (some (enc x))))))
  | [] => rfl
  | x :: xs => by
    show ((fi (ε.set i (some (enc x)))).hard >>= fun b => if b = true then (it1 (ε.set i (some (enc x)))).hard >>= fun es => compL t1 fi1 fe (wipeE (ε.set i (some (enc x))) vs1) es >>= fun ys => comp2L (.nm i) fi it1 vs1 t1 fi1 fe ε (xs.map enc) >>= fun zs => .ok (ys ++ zs) else comp2L (.nm i) fi it1 vs1 t1 fi1 fe ε (xs.map enc)) = _
    rw [k_two enc i fi it1 vs1 t1 fi1 fe ε xs]
    show _ = ((fi (ε.set i (some (enc x)))).hard >>= fun b => if b = true then (cL t1 fi1 fe (wipeE (ε.set i (some (enc x))) vs1) (it1 (ε.set i (some (enc x))))) >>= fun ys => seqB _ >>= fun zs => .ok (ys ++ zs) else seqB _)
    unfold cL
    congr 1
    funext b
    rw [R.bind_assoc']
theorem k_flat {α : Type} (g : α → List D) : ∀ xs : List α, seqB (xs.map fun x => (R.ok true, R.ok (g x))) = .ok (xs.flatMap g)
  | [] => rfl
  | x :: xs => by
    show (seqB (xs.map fun x => (R.ok true, R.ok (g x))) >>= fun zs => R.ok (g x ++ zs)) = _
    rw [k_flat g xs]; rfl
theorem k_flatF {α : Type} (p : α → Bool) (g : α → List D) : ∀ xs : List α, seqB (xs.map fun x => (R.ok (p x), R.ok (g x))) = .ok ((xs.filter p).flatMap g)
  | [] => rfl
  | x :: xs => by
    show (if p x = true then (seqB (xs.map fun x => (R.ok (p x), R.ok (g x))) >>= fun zs => R.ok (g x ++ zs)) else seqB (xs.map fun x => (R.ok (p x), R.ok (g x)))) = _
    rw [k_flatF p g xs, List.filter_cons]
    cases p x <;> rfl
theorem flat_map {α β : Type} (l : α → List β) (g : β → D) (xs : List α) : xs.flatMap (fun x => (l x).map g) = (xs.flatMap l).map g := List.map_flatMap.symm
/-! ranges and places of a list -/
theorem rngN (n : Nat) : rng 0 n = (List.range n).map fun k => PyData.int (k : Nat) := by
  unfold rng
  exact List.map_congr_left fun i _ => by rw [Int.zero_add]
theorem fin_range (n : Nat) : (List.finRange n).map (fun k => k.val) = List.range n := by
  apply List.ext_getElem <;> simp
theorem rngF (n : Nat) : rng 0 n = (List.finRange n).map fun k => PyData.int ((k.val : Nat) : Int) := by
  rw [rngN, ← fin_range, List.map_map]; rfl
theorem rng1 (n : Nat) : rng 1 n = (List.range n).map fun (k : Nat) => PyData.int (((k : Nat) : Int) + 1) := by
  unfold rng
  exact List.map_congr_left fun i _ => by rw [Int.add_comm]
theorem k_ixT {α : Type} (enc : α → D) (xs : List α) (k : Fin xs.length) : ixD (.tuple (xs.map enc)) (.int ((k.val : Nat) : Int)) = .ok (enc xs[k]) := v_ixT (by rw [List.getElem?_map, List.getElem?_eq_getElem k.isLt]; rfl)
theorem k_ixL {α : Type} (enc : α → D) (xs : List α) (k : Fin xs.length) : ixD (.list (xs.map enc)) (.int ((k.val : Nat) : Int)) = .ok (enc xs[k]) := v_ixL (by rw [List.getElem?_map, List.getElem?_eq_getElem k.isLt]; rfl)
theorem k_ixX (xs : List Nat) (k : Fin xs.length) : ixD (T xs) (.int ((k.val : Nat) : Int)) = .ok (T [xs[k]]) := v_ixX (List.getElem?_eq_getElem k.isLt)
theorem map_fin {α β : Type} (f : α → β) (xs : List α) : xs.map f = (List.finRange xs.length).map fun k => f xs[k] := by
  apply List.ext_getElem <;> simp
theorem enumF {α : Type} (enc : α → D) (xs : List α) : enumD (xs.map enc) = (List.finRange xs.length).map fun k => PyData.tuple [.int ((k.val : Nat) : Int), enc xs[k]] := by
  unfold enumD
  rw [List.length_map, ← fin_range, List.map_map]
  refine List.map_congr_left fun k _ => ?_
  show PyData.tuple [.int _, (xs.map enc).getD k.val .none] = _
  have : (xs.map enc).getD k.val .none = enc xs[k] := by simp
  rw [this]
theorem v_allM {α : Type} (q : α → Bool) (xs : List α) : on1 allG [.list (xs.map fun x => .bool (q x))] = .ok (.bool (xs.all q)) := by
  have e : (xs.map fun x => PyData.bool (q x)) = (xs.map q).map .bool := by rw [List.map_map]; rfl
  rw [e, v_all, List.all_map]; rfl
theorem v_anyM {α : Type} (q : α → Bool) (xs : List α) : on1 anyG [.list (xs.map fun x => .bool (q x))] = .ok (.bool (xs.any q)) := by
  have e : (xs.map fun x => PyData.bool (q x)) = (xs.map q).map .bool := by rw [List.map_map]; rfl
  rw [e, v_any, List.any_map]; rfl
theorem v_sumM {α : Type} (q : α → Int) (xs : List α) : on1 sumG [.list (xs.map fun x => .int (q x))] = .ok (.int (xs.map q).sum) := by
  have e : (xs.map fun x => PyData.int (q x)) = (xs.map q).map .int := by rw [List.map_map]; rfl
  rw [e, v_sum]
theorem map_nilL {α : Type} (f : α → D) (xs : List α) : (xs.map f).isEmpty = xs.isEmpty := by cases xs <;> rfl
/-! ### loops that look -/
/-- for x in xs: if p(x): return r(x) -/
theorem f_find {α : Type} {enc : α → D} {i : Nat} {body : Gam → R Fl} {Γ : Gam} (p : α → Bool) (r : α → D) : ∀ (xs : List α) (s : Sl), (∀ x ∈ xs, body (Γ.set i (.da (enc x))) = .ok (cond (p x) (.rt (r x)) (.nx (Γ.set i (.da (enc x)))))) →
    ∃ s', forL (.nm i) body (xs.map enc) (Γ.set i s) = .ok (match xs.find? p with
      | some x => .rt (r x)
      | none => .nx (Γ.set i s'))
  | [], s, _ => ⟨s, rfl⟩
  | x :: xs, s, h => by
    have hx := h x List.mem_cons_self
    cases q : p x with
    | true =>
      refine ⟨s, ?_⟩
      rw [q] at hx
      show ((flatT (.nm i) (enc x)).hard >>= fun as => body (setG (Γ.set i s) as) >>= _) = _
      rw [fl1, R.hard_ok, R.ok_bind, sg1, sg0, List.set_set, hx, List.find?_cons, q]
      rfl
    | false =>
      rw [q] at hx
      obtain ⟨s', e⟩ := f_find p r xs (.da (enc x)) fun y hy => h y (List.mem_cons_of_mem _ hy)
      refine ⟨s', ?_⟩
      show ((flatT (.nm i) (enc x)).hard >>= fun as => body (setG (Γ.set i s) as) >>= _) = _
      rw [fl1, R.hard_ok, R.ok_bind, sg1, sg0, List.set_set, hx, List.find?_cons, q]
      exact e
/-- how a loop ends: at a hit, or behind the last -/
def hitFl : Option D → Gam → Fl
  | some r, _ => .rt r
  | none, Γ => .nx Γ
theorem hit_some (r : D) (Γ : Gam) : hitFl (some r) Γ = .rt r := Eq.trans rfl rfl
theorem hit_none (Γ : Gam) : hitFl none Γ = .nx Γ := Eq.trans rfl rfl
theorem hit_c (b : Bool) (r : D) (Γ : Gam) : cond b (Fl.rt r) (.nx Γ) = hitFl (if b = true then some r else none) Γ := by cases b <;> rfl
theorem f_hit {α : Type} {enc : α → D} {i : Nat} {body : Gam → R Fl} (I : Gam → Prop) (hit : α → Option D) : ∀ (xs : List α) (Γ : Gam), I Γ →
    (∀ x ∈ xs, ∀ Γ, I Γ → ∃ Γ', I Γ' ∧ body (Γ.set i (.da (enc x))) = .ok (hitFl (hit x) Γ')) →
    ∃ Γ', I Γ' ∧ forL (.nm i) body (xs.map enc) Γ = .ok (hitFl (xs.findSome? hit) Γ')
  | [], Γ, h, _ => ⟨Γ, h, rfl⟩
  | x :: xs, Γ, h, H => by
    obtain ⟨Γ', h', e⟩ := H x List.mem_cons_self Γ h
    have e0 : forL (.nm i) body ((x :: xs).map enc) Γ = (body (Γ.set i (.da (enc x))) >>= fun fl => match fl with
        | .nx Γ' => forL (.nm i) body (xs.map enc) Γ'
        | .ct Γ' => forL (.nm i) body (xs.map enc) Γ'
        | .bk Γ' => .ok (.nx Γ')
        | fl => .ok fl) := by
      rw [List.map_cons, forL, fl1, R.hard_ok, R.ok_bind, sg1, sg0]
      try rfl
    rw [e0, e, R.ok_bind, List.findSome?_cons]
    cases q : hit x with
    | some r => exact ⟨Γ', h', rfl⟩
    | none =>
      obtain ⟨Γ2, h2, e2⟩ := f_hit I hit xs Γ' h' fun y hy => H y (List.mem_cons_of_mem _ hy)
      exact ⟨Γ2, h2, e2⟩
theorem f_inv {α : Type} {enc : α → D} {i : Nat} {body : Gam → R Fl} (xs : List α) (I : Nat → Gam → Prop) (Γ : Gam) (h : I 0 Γ)
    (H : ∀ k x, xs[k]? = some x → ∀ Γ, I k Γ → ∃ Γ', body (Γ.set i (.da (enc x))) = .ok (.nx Γ') ∧ I (k + 1) Γ') : ∃ Γ', forL (.nm i) body (xs.map enc) Γ = .ok (.nx Γ') ∧ I xs.length Γ' := by
  have q := forL_inv (t := .nm i) (body := body) (xs.map enc) I Γ h fun k d hd Γ hΓ => by
    rw [List.getElem?_map] at hd
    cases hx : xs[k]? with
    | none => rw [hx] at hd; cases hd
    | some x =>
      rw [hx] at hd
      cases hd
      exact ⟨_, rfl, H k x hx Γ hΓ⟩
  rw [List.length_map] at q
  exact q
theorem end_loop {α : Type} {r : R Fl} {h : Gam → R Fl} {Z : α → Gam} {res : R D} (e : ∃ s, r = .ok (.nx (Z s))) (k : ∀ s, endR (h (Z s)) = res) : endR (seqK r h) = res := by
  obtain ⟨s, rfl⟩ := e
  exact k s
/-- a loop that puts items behind an own list -/
theorem f_acc {α β : Type} {enc : α → D} {i : Nat} {body : Gam → R Fl} (Z : Nat → List β → Gam → Prop) (out : α → List β) : ∀ (xs : List α) (k : Nat), (∀ x ∈ xs, ∀ m ys Γ, m < k + xs.length → Z m ys Γ → ∃ Γ', body (Γ.set i (.da (enc x))) = .ok (.nx Γ') ∧ Z (m + 1) (ys ++ out x) Γ') →
    ∀ ys Γ, Z k ys Γ → ∃ Γ', forL (.nm i) body (xs.map enc) Γ = .ok (.nx Γ') ∧ Z (k + xs.length) (ys ++ xs.flatMap out) Γ'
  | [], k, _, ys, Γ, h => ⟨Γ, rfl, by simpa using h⟩
  | x :: xs, k, H, ys, Γ, h => by
    obtain ⟨Γ1, e1, h1⟩ := H x List.mem_cons_self k ys Γ (by rw [List.length_cons]; omega) h
    obtain ⟨Γ2, e2, h2⟩ := f_acc Z out xs (k + 1) (fun y hy m ys Γ hm => H y (List.mem_cons_of_mem _ hy) m ys Γ (by rw [List.length_cons]; omega)) _ Γ1 h1
    refine ⟨Γ2, ?_, ?_⟩
    · rw [List.map_cons, forL, fl1, R.hard_ok, R.ok_bind, sg1, sg0, e1, R.ok_bind]
      exact e2
    · rw [List.flatMap_cons, ← List.append_assoc, List.length_cons, show k + (xs.length + 1) = k + 1 + xs.length by omega]
      exact h2
theorem f_acc2 {α β : Type} {ea eb : α → D} {i j : Nat} {body : Gam → R Fl} (Z : Nat → List β → Gam → Prop) (out : α → List β) : ∀ (xs : List α) (k : Nat), (∀ x ∈ xs, ∀ m ys Γ, m < k + xs.length → Z m ys Γ → ∃ Γ', body ((Γ.set i (.da (ea x))).set j (.da (eb x))) = .ok (.nx Γ') ∧ Z (m + 1) (ys ++ out x) Γ') →
    ∀ ys Γ, Z k ys Γ → ∃ Γ', forL (.tup [.nm i, .nm j]) body (xs.map fun x => .tuple [ea x, eb x]) Γ = .ok (.nx Γ') ∧ Z (k + xs.length) (ys ++ xs.flatMap out) Γ'
  | [], k, _, ys, Γ, h => ⟨Γ, rfl, by simpa using h⟩
  | x :: xs, k, H, ys, Γ, h => by
    obtain ⟨Γ1, e1, h1⟩ := H x List.mem_cons_self k ys Γ (by rw [List.length_cons]; omega) h
    obtain ⟨Γ2, e2, h2⟩ := f_acc2 Z out xs (k + 1) (fun y hy m ys Γ hm => H y (List.mem_cons_of_mem _ hy) m ys Γ (by rw [List.length_cons]; omega)) _ Γ1 h1
    have e : flatT (.tup [.nm i, .nm j]) (.tuple [ea x, eb x]) = .ok [(i, ea x), (j, eb x)] := by
      rw [fl2, fl4, fl1, fl4, fl1, fl3, fl5, fl5]; rfl
    refine ⟨Γ2, ?_, ?_⟩
    · rw [List.map_cons, forL, e, R.hard_ok, R.ok_bind, sg1, sg1, sg0, e1, R.ok_bind]
      exact e2
    · rw [List.flatMap_cons, ← List.append_assoc, List.length_cons, show k + (xs.length + 1) = k + 1 + xs.length by omega]
      exact h2
/-- while, by a measure -/
theorem w_run {L : List Nat} {t : Env → R Bool} {body : Gam → R Fl} {σ : Type} (Z : σ → Gam) (μ : σ → Nat) (I : σ → Prop) (H : ∀ s, I s → (t (view L (Z s)) = .ok false) ∨ (t (view L (Z s)) = .ok true ∧ ∃ s', body (Z s) = .ok (.nx (Z s')) ∧ I s' ∧ μ s' < μ s)) : ∀ s, I s → ∃ s', whileS L t body (Z s) = .ok (.nx (Z s')) ∧ I s' ∧ t (view L (Z s')) = .ok false := by
  have : ∀ m s, μ s < m → I s → ∃ s', whileN L t body m (Z s) = .ok (.nx (Z s')) ∧ I s' ∧ t (view L (Z s')) = .ok false := by
    intro m
    induction m with
    | zero => intro s h; omega
    | succ m ih =>
      intro s hs hi
      rcases H s hi with h | ⟨h, s1, e1, h1, h2⟩
      · refine ⟨s, ?_, hi, h⟩
        unfold whileN
        rw [h]; rfl
      · obtain ⟨s2, e2, h3, h4⟩ := ih s1 (by omega) h1
        refine ⟨s2, ?_, h3, h4⟩
        unfold whileN
        rw [h, lift_ok, if_pos rfl, e1, R.ok_bind]
        exact e2
  intro s hi
  obtain ⟨s', e, h⟩ := this (μ s + 1) s (by omega) hi
  exact ⟨s', whileS_of e, h⟩
/-- for x in xs: a check that holds -/
theorem f_pass {α : Type} {enc : α → D} {i : Nat} {body : Gam → R Fl} {Γ : Gam} (xs : List α) (s : Sl) (h : ∀ x ∈ xs, body (Γ.set i (.da (enc x))) = .ok (.nx (Γ.set i (.da (enc x))))) :
    ∃ s', forL (.nm i) body (xs.map enc) (Γ.set i s) = .ok (.nx (Γ.set i s')) := by
  obtain ⟨s', e⟩ := f_find (enc := enc) (i := i) (body := body) (Γ := Γ) (fun _ => false) (fun _ => .none) xs s (fun x hx => by rw [h x hx]; rfl)
  have : xs.find? (fun _ => false) = none := List.find?_eq_none.mpr fun _ _ => by decide
  rw [this] at e
  exact ⟨s', e⟩
end RB

set_option Elab.async false
set_option linter.all false
set_option maxRecDepth 100000
set_option maxHeartbeats 4000000
noncomputable section
namespace Lib
open PySem PySem.Spec PyProof.Rows L2 RB
def gX_is_word : Gam → R Fl := retS [] (usrE S_is_letters_of [var 0, con (.int 1), con (.int 6)])
def SX_is_word : List D → R D := runS 1 gX_is_word
def gX_is_list : Gam → R Fl := seqS (ifS [] (orT (notT (testE (usrE S_is_row_of [var 0, con (.int 1), con (.int 8)]))) (notT (testE (callE (on1 allG) [dataF (compE [1] (seqE (var 0)) (.nm 1) (fun _ => .ok true) (usrE SX_is_word [var 1]))]))))
  (retS [] (con (.bool false)))
  (nilS))
  (retS [] (op2E eqD (lenKE (setE_ (compE [1] (seqE (var 0)) (.nm 1) (fun _ => .ok true) (var 1)))) (callE lenG [var 0])))
def SX_is_list : List D → R D := runS 2 gX_is_list
def gX_want_list : Gam → R Fl := seqS (ifS [] (notT (testE (usrE SX_is_list [var 0])))
  (badS [] (var 1))
  (nilS))
  (retS [] (callE (on1 tupG) [var 0]))
def SX_want_list : List D → R D := runS 2 gX_want_list
def gX_list_of : Gam → R Fl := retS [] (usrE SX_want_list [var 0, con (.int 1)])
def SX_list_of : List D → R D := runS 1 gX_list_of
def gX_is_line : Gam → R Fl := retS [] (andE (usrE S_is_row [var 1]) (callE (on1 allG) [dataF (compE [2] (seqE (var 1)) (.nm 2) (fun _ => .ok true) (usrE S_is_between [var 2, con (.int 0), op2E subD (callE lenG [var 0]) (con (.int 1))]))]))
def SX_is_line : List D → R D := runS 3 gX_is_line
def gX_joined : Gam → R Fl := retS [] (m1E joinD (con (.str "")) (dataF (compE [2] (seqE (var 1)) (.nm 2) (fun _ => .ok true) (op2E ixD (var 0) (var 2)))))
def SX_joined : List D → R D := runS 3 gX_joined
def bX__law_limit_1 : Gam → R Fl := setS [] 0 (op2E mulB (var 0) (op2E powD (con (.int 10)) (con (.int 64))))
def gX__law_limit : Gam → R Fl := seqS (setS [] 0 (con (.int 1)))
  (seqS (forS [] (rangeE [con (.int 9)]) (.nm 1)
  (bX__law_limit_1))
  (retS [] (var 0)))
def SX__law_limit : List D → R D := runS 2 gX__law_limit
def gX__law_cell : Gam → R Fl := seqS (ifS [] (testE (op2E ltD (var 1) (callE lenG [var 0])))
  (retS [] (op2E modD (callE (on1 intG) [op2E ixD (var 0) (var 1)]) (usr0 SX__law_limit)))
  (nilS))
  (retS [] (con (.int 0)))
def SX__law_cell : List D → R D := runS 2 gX__law_cell
def bX__law_numbers_1 : Gam → R Fl := ifS [] (andT (testE (op2E geD (var 3) (op2E powD (con (.int 10)) (con (.int 18))))) (testE (op2E gtD (var 6) (con (.int 0)))))
  (seqS (appS [] 5 (op2E modD (callE (on1 intG) [var 6]) (op2E powD (con (.int 10)) (con (.int 9)))))
  (setS [] 6 (op2E divD (var 6) (op2E powD (con (.int 10)) (con (.int 9))))))
  (seqS (setS [] 8 (op2E modD (callE (on1 intG) [op2E addD (op2E addD (op2E mulB (var 4) (con (.int 48271))) (op2E mulB (op2E addD (var 7) (con (.int 1))) (con (.int 69621)))) (var 1)]) (con (.int 2147483647))))
  (appS [] 5 (op2E modD (op2E modD (callE (on1 intG) [op2E addD (op2E mulB (var 8) (con (.int 16807))) (op2E mulB (op2E addD (var 7) (con (.int 3))) (con (.int 40692)))]) (con (.int 2147483399))) (op2E powD (con (.int 10)) (con (.int 9))))))
def gX__law_numbers : Gam → R Fl := seqS (setS [] 3 (usrE SX__law_cell [var 0, var 1]))
  (seqS (setS [] 4 (op2E modD (callE (on1 intG) [var 3]) (con (.int 2147483647))))
  (seqS (ownS [] 5 (evL []))
  (seqS (setS [] 6 (var 3))
  (seqS (forS [] (rangeE [var 2]) (.nm 7)
  (bX__law_numbers_1))
  (retS [5] (var 5))))))
def SX__law_numbers : List D → R D := runS 9 gX__law_numbers
def bX__law_word_1 : Gam → R Fl := seqS (setS [] 2 (op2E addD (var 2) (op2E ixD (con (.str "abc")) (op2E modD (callE (on1 intG) [var 3]) (var 1)))))
  (setS [] 3 (op2E divD (var 3) (var 1)))
def gX__law_word : Gam → R Fl := seqS (setS [] 2 (con (.str "")))
  (seqS (setS [] 3 (callE (on1 intG) [op2E divD (var 0) (con (.int 6))]))
  (seqS (forS [] (rangeE [op2E addD (con (.int 1)) (op2E modD (callE (on1 intG) [var 0]) (op2E ixD (dataF (evL [con (.int 3), con (.int 2), con (.int 4)])) (op2E modD (callE (on1 intG) [op2E divD (var 0) (con (.int 3))]) (con (.int 3)))))]) (.nm 4)
  (bX__law_word_1))
  (retS [] (var 2))))
def SX__law_word : List D → R D := runS 5 gX__law_word
def bX__law_list_1 : Gam → R Fl := seqS (setS [] 4 (usrE SX__law_word [op2E ixD (var 0) (op2E addD (con (.int 1)) (var 3)), var 1]))
  (seqS (ifS [2] (andT (testE (op2E eqD (op2E modD (callE (on1 intG) [op2E divD (op2E ixD (var 0) (con (.int 0))) (con (.int 24))]) (con (.int 3))) (con (.int 0)))) (testE (op2E neD (var 2) (dataF (evL [])))))
  (setS [2] 4 (sliceE (op2E addD (op2E ixD (var 2) (op2E modD (callE (on1 intG) [op2E divD (op2E ixD (var 0) (op2E addD (con (.int 1)) (var 3))) (con (.int 50))]) (callE lenG [var 2]))) (var 4)) none (some (con (.int 6)))))
  (nilS))
  (ifS [2] (testE (op2E ninD (var 4) (var 2)))
  (appS [] 2 (var 4))
  (nilS)))
def gX__law_list : Gam → R Fl := seqS (setS [] 1 (op2E ixD (dataF (evL [con (.int 2), con (.int 2), con (.int 3), con (.int 1)])) (op2E modD (callE (on1 intG) [op2E ixD (var 0) (con (.int 0))]) (con (.int 4)))))
  (seqS (ownS [] 2 (evL []))
  (seqS (forS [] (rangeE [op2E addD (con (.int 1)) (op2E modD (callE (on1 intG) [op2E divD (op2E ixD (var 0) (con (.int 0))) (con (.int 4))]) (con (.int 6)))]) (.nm 3)
  (bX__law_list_1))
  (retS [2] (callE (on1 tupG) [var 2]))))
def SX__law_list : List D → R D := runS 5 gX__law_list
def gX__law_begins : Gam → R Fl := retS [] (op2E eqD (sliceE (var 1) none (some (callE lenG [var 0]))) (var 0))
def SX__law_begins : List D → R D := runS 2 gX__law_begins
def gX__law_make : Gam → R Fl := retS [] (m1E joinD (con (.str "")) (dataF (compE [2] (seqE (var 1)) (.nm 2) (fun _ => .ok true) (op2E ixD (var 0) (var 2)))))
def SX__law_make : List D → R D := runS 3 gX__law_make
def gX_made_by : Gam → R Fl := seqS (setS [] 0 (usrE SX_want_list [var 0, con (.int 1)]))
  (seqS (ifS [] (notT (testE (usrE SX_is_line [var 0, var 1])))
  (badS [] (con (.int 2)))
  (nilS))
  (retS [] (usrE SX_joined [var 0, var 1])))
def SX_made_by : List D → R D := runS 2 gX_made_by
def gX_is_text : Gam → R Fl := retS [] (usrE S_is_letters_of [var 0, con (.int 0), con (.int 60)])
def SX_is_text : List D → R D := runS 1 gX_is_text
def gX_want_text : Gam → R Fl := ifS [] (notT (testE (usrE SX_is_text [var 0])))
  (badS [] (var 1))
  (nilS)
def SX_want_text : List D → R D := runS 2 gX_want_text
def gX_want_int : Gam → R Fl := ifS [] (notT (testE (usrE S_is_between [var 0, var 1, var 2])))
  (badS [] (var 3))
  (nilS)
def SX_want_int : List D → R D := runS 4 gX_want_int
def gX_is_rising : Gam → R Fl := retS [] (callE (on1 allG) [dataF (compE [1] (rangeE [op2E subD (callE lenG [var 0]) (con (.int 1))]) (.nm 1) (fun _ => .ok true) (op2E ltD (op2E ixD (var 0) (var 1)) (op2E ixD (var 0) (op2E addD (var 1) (con (.int 1))))))])
def SX_is_rising : List D → R D := runS 2 gX_is_rising
def gX_is_number_set : Gam → R Fl := retS [] (andE (usrE S_is_row [var 0]) (andE (callE (on1 allG) [dataF (compE [3] (seqE (var 0)) (.nm 3) (fun _ => .ok true) (usrE S_is_between [var 3, var 1, var 2]))]) (usrE SX_is_rising [var 0])))
def SX_is_number_set : List D → R D := runS 4 gX_is_number_set
def gX_first_tails : Gam → R Fl := retFS [] (sortKE (setE_ (comp2E [1, 2] [2] (seqE (var 0)) (.nm 1) (fun _ => .ok true) (seqE (var 0)) (.nm 2) (andT (testE (op2E neD (var 1) (var 2))) (testE (m1E startD (var 1) (var 2)))) (sliceE (var 1) (some (callE lenG [var 2])) none))))
def SX_first_tails : List D → R D := runS 3 gX_first_tails
def FX_first_tails : List D → R (List D) := runF 3 gX_first_tails
def bX_steps_from_1 : Gam → R Fl := ifS [] (testE (m1E startD (var 1) (var 4)))
  (appS [] 2 (tupE [var 3, sliceE (var 1) (some (callE lenG [var 4])) none]))
  (ifS [] (testE (m1E startD (var 4) (var 1)))
  (appS [] 2 (tupE [var 3, sliceE (var 4) (some (callE lenG [var 1])) none]))
  (nilS))
def gX_steps_from : Gam → R Fl := seqS (ownS [] 2 (evL []))
  (seqS (forS [] (enumE (var 0)) (.tup [(.nm 3), (.nm 4)])
  (bX_steps_from_1))
  (retS [2] (callE (on1 tupG) [var 2])))
def SX_steps_from : List D → R D := runS 5 gX_steps_from
def bX_strings_reached_1 : Gam → R Fl := seqS (popS 2 3)
  (ifS [1] (testE (op2E ninDD (var 3) (var 1)))
  (seqS (putDS [] 1 (con (.bool true)) (var 3))
  (ifS [] (testE (op2E neD (var 3) (con (.str ""))))
  (extS [] 2 (compE [4, 5] (seqE (usrE SX_steps_from [var 0, var 3])) (.tup [(.nm 4), (.nm 5)]) (fun _ => .ok true) (var 5)))
  (nilS)))
  (nilS))
def tbX_strings_reached_1 : RB.Env → R Bool := truE (var 2)
def gX_strings_reached : Gam → R Fl := seqS (ownDS [] 1 false (emptyDF))
  (seqS (ownS [] 2 (usrF FX_first_tails [var 0]))
  (seqS (whileS [2] (tbX_strings_reached_1)
  (bX_strings_reached_1))
  (retS [1] (dataF (callF (on1L sortDG) [var 1])))))
def SX_strings_reached : List D → R D := runS 6 gX_strings_reached
def gX_read_back : Gam → R Fl := retS [] (op2E ninD (con (.str "")) (usrE SX_strings_reached [var 0]))
def SX_read_back : List D → R D := runS 1 gX_read_back
def bX__law_begun_1 : Gam → R Fl := ifS [1] (andT (testE (op2E neD (var 2) (var 3))) (andT (testE (usrE SX__law_begins [var 2, var 3])) (testE (op2E ninD (sliceE (var 3) (some (callE lenG [var 2])) none) (var 1)))))
  (appS [] 1 (sliceE (var 3) (some (callE lenG [var 2])) none))
  (nilS)
def bX__law_begun_2 : Gam → R Fl := forS [] (seqE (var 0)) (.nm 3)
  (bX__law_begun_1)
def gX__law_begun : Gam → R Fl := seqS (ownS [] 1 (evL []))
  (seqS (forS [] (seqE (var 0)) (.nm 2)
  (bX__law_begun_2))
  (retFS [1] (callF (on1L sortG) [var 1])))
def SX__law_begun : List D → R D := runS 4 gX__law_begun
def FX__law_begun : List D → R (List D) := runF 4 gX__law_begun
def bX__law_next_1 : Gam → R Fl := seqS (setS [] 4 (op2E ixD (var 0) (var 3)))
  (ifS [] (testE (usrE SX__law_begins [var 4, var 1]))
  (appS [] 2 (tupE [var 3, sliceE (var 1) (some (callE lenG [var 4])) none]))
  (ifS [] (testE (usrE SX__law_begins [var 1, var 4]))
  (appS [] 2 (tupE [var 3, sliceE (var 4) (some (callE lenG [var 1])) none]))
  (nilS)))
def gX__law_next : Gam → R Fl := seqS (ownS [] 2 (evL []))
  (seqS (forS [] (rangeE [callE lenG [var 0]]) (.nm 3)
  (bX__law_next_1))
  (retOS 2))
def SX__law_next : List D → R D := runS 5 gX__law_next
def FX__law_next : List D → R (List D) := runF 5 gX__law_next
def bX__law_tails_1 : Gam → R Fl := ifS [1] (andT (testE (op2E neD (op2E ixD (var 3) (con (.int 1))) (con (.str "")))) (testE (op2E ninD (op2E ixD (var 3) (con (.int 1))) (var 1))))
  (appS [] 1 (op2E ixD (var 3) (con (.int 1))))
  (nilS)
def bX__law_tails_2 : Gam → R Fl := seqS (forFS [1] (usrF FX__law_next [var 0, op2E ixD (var 1) (var 2)]) (.nm 3)
  (bX__law_tails_1))
  (setS [] 2 (op2E addD (var 2) (con (.int 1))))
def tbX__law_tails_2 : RB.Env → R Bool := testE (op2E ltD (var 2) (callE lenG [var 1]))
def gX__law_tails : Gam → R Fl := seqS (ownS [] 1 (usrF FX__law_begun [var 0]))
  (seqS (setS [] 2 (con (.int 0)))
  (seqS (whileS [1] (tbX__law_tails_2)
  (bX__law_tails_2))
  (retS [1] (dataF (callF (on1L sortG) [var 1])))))
def SX__law_tails : List D → R D := runS 4 gX__law_tails
end Lib
end

set_option Elab.async false
set_option linter.all false
set_option maxRecDepth 100000
set_option maxHeartbeats 4000000
set_option exponentiation.threshold 700
namespace Lib
open PySem RB
local macro_rules | `(tactic| simp_arith [$as,*]) => `(tactic| simp only [view, freeze, ev_seq, ev_seq1, ev_seq2, ev_seq3, ev_seq4, ev_seq5, ev_ret, ev_ret1, ev_ret2, ev_retN, ev_nil, ev_bk, ev_ct, ev_if, ev_ifT, ev_ifF, ev_ifX, ev_set, ev_set0, ev_set1, ev_set3, ev_drop, ev_drop1, ev_drop2, ev_own, ev_own0, ev_own1, ev_unp, ev_unp1, ev_unp2, ev_unp3, ev_app, ev_app0, ev_app1, ev_app2, ev_put, ev_put1, ev_put2, ev_aug, ev_aug1, ev_aug2, ev_for, ev_for0, ev_forN, ev_con, ev_var, ev_var1, ev_op2, ev_op2k, ev_op1, ev_op1k, ev_nilL, ev_consL, ev_consk, ev_tup, ev_tupk, ev_dat, ev_datk, ev_call, ev_callk, ev_callF, ev_callFk, ev_usr, ev_usrk, ev_usr0, ev_test, ev_testk, ev_b, ev_bk1, ev_isN, ev_isNk, ev_notN, ev_notNk, ev_andT, ev_andT1, ev_andT0, ev_orT, ev_orT1, ev_orT0, ev_notT, ev_notTk, ev_andE, ev_andE1, ev_andE0, ev_orE, ev_orE1, ev_orE0, ev_notE, ev_notEk, ev_ifE, ev_ifE1, ev_ifE0, ev_ch, ev_ch0, ev_ch1, ev_ch2, ev_isi, ev_isi1, ev_isi2, ev_isi3, ev_isi4, ev_isi5, ev_isi6, ev_sl, ev_slk, ev_slL, ev_slT, ev_slS, ev_par0, ev_par, ev_park, ev_seqE, ev_seqEL, ev_seqET, ev_seqES, ev_rg, ev_rgk, ev_en, ev_enL, ev_enT, ev_enS, ev_zi, ev_ziLL, ev_ziTT, ev_ziLT, ev_ziTL, ev_ziSS, ev_comp, ev_compk, v_add, v_sub, v_neg, v_eq, v_ne, v_lt, v_le, v_gt, v_ge, v_mulL, v_mulR, v_p9, v_p18, v_mod, v_div, v_int, v_lenL, v_lenT, v_lenS, v_tupL, v_tupT, v_itL, v_itT, v_ixL, v_ixT, v_sum, v_all, v_any, v_range1, v_range2, v_catT, v_catL, i_1, ev_run, ev_end1, ev_end2, ev_end3, ev_vN, ev_vC, ev_sU, ev_sD, ev_sO, ev_fN, ev_fC, ev_zU, ev_zD, ev_zO, fl1, fl2, fl3, fl4, fl5, sg0, sg1, se0, se1, t_N1, t_N2, t_N3, t_N4, t_N5, t_N6, ev_tru, ev_truL, ev_truT, ev_truB, ev_truN, ev_truI, ev_par2, ev_par2k, ev_par3, ev_par3k, v_lenX, v_catX, v_slX, v_ixX, v_eqX, v_neX, v_inX, v_ninX, v_repX, ev_seqEX, ev_isiX, t_N7, t_X1, t_X2, t_X3, t_X4, t_X5, t_X6, ev_truX, t_isInt_none, t_isInt_bool, t_isInt_int, t_isInt_str, t_isInt_tuple, t_isInt_list, t_isBool_none, t_isBool_bool, t_isBool_int, t_isBool_str, t_isBool_tuple, t_isBool_list, t_isStr_none, t_isStr_bool, t_isStr_int, t_isStr_str, t_isStr_tuple, t_isStr_list, t_isTup_none, t_isTup_bool, t_isTup_int, t_isTup_str, t_isTup_tuple, t_isTup_list, t_isLst_none, t_isLst_bool, t_isLst_int, t_isLst_str, t_isLst_tuple, t_isLst_list, t_nc0, t_nc1, t_nc2, t_nc3, t_nc4, t_nc5, t_nc6, t_nc7, t_nc8, t_nc9, t_nc10, t_nc11, t_nc12, t_nc13, t_nc14, t_nc15, t_nc16, t_nc17, t_nc18, t_nc19, t_nc20, t_nc21, t_nc22, t_nc23, t_nc24, t_nc25, t_nc26, t_nc27, t_nc28, t_nc29, t_nc30, t_nc31, t_nc32, List.map_cons, List.map_nil, List.length_cons, List.length_nil, List.cons_append, List.nil_append, List.append_nil, List.set_cons_zero, List.set_cons_succ, List.getElem?_cons_zero, List.getElem?_cons_succ, List.getElem?_nil, List.any_cons, List.any_nil, R.hard_ok, noLst, noLsts, gam0, List.replicate, wipeE, if_true, if_false, Bool.false_eq_true, Bool.true_eq_false, Bool.not_true, Bool.not_false, Bool.true_or, Bool.false_or, Bool.or_true, Bool.or_false, Bool.true_and, Bool.false_and, Bool.and_true, Bool.and_false, Bool.and_self, Bool.or_self, decide_true, decide_false, Nat.reduceBEq, Nat.reduceAdd, Nat.reduceSub, Nat.reduceLT, Int.reduceLT, Int.reduceLE, Int.reduceNeg, Int.reduceAdd, Int.reduceSub, Int.reduceMul, Nat.reduceEqDiff, Int.reduceEq, Nat.reduceLeDiff, ↓reduceIte, List.isEmpty_cons, ev_sE, ev_zE, ev_seq6, ev_end4, ev_endF1, ev_endF2, ev_runF, $as,*])
theorem c_abc : PyData.str "abc" = T [97, 98, 99] := congrArg PyData.str (by decide +kernel)
theorem v_p64 : powD (.int 10) (.int 64) = .ok (.int (10 ^ 64)) := Eq.trans rfl rfl
theorem sx_limit : SX__law_limit [] = .ok (.int (10 ^ 576)) := by
  have st : ∀ (m : Int) (s1 : Sl), mulFits m (10 ^ 64) = true → bX__law_limit_1 [.da (.int m), s1] = .ok (.nx [.da (.int (m * 10 ^ 64)), s1]) := fun m s1 h => by
    simp_arith [bX__law_limit_1, v_p64, v_mul h]
  have hf : ∀ (k : Nat), k < 9 → mulFits ((10 ^ 64) ^ k) (10 ^ 64) = true := by decide +kernel
  obtain ⟨Γ', e, s1, rfl⟩ := forR_inv (i := 1) (body := bX__law_limit_1) 9 (fun k Γ => ∃ s1, Γ = [.da (.int ((10 ^ 64) ^ k)), s1]) [.da (.int 1), .un] ⟨_, rfl⟩ fun k hk Γ ⟨s1, e⟩ => by
    subst e
    exact ⟨_, st _ _ (hf k hk), .da (.int k), by rw [← Int.pow_succ]⟩
  have r9 := v_range1 (n := 9) (by decide)
  rw [t_nc9] at r9
  simp_arith [SX__law_limit, gX__law_limit, r9, e]
  rfl
theorem sx_cell (ns : List Int) (p : Nat) : ∃ c : Int, 0 ≤ c ∧ SX__law_cell [.list (ns.map .int), .int (p : Int)] = .ok (.int c) := by
  have hp : (0 : Int) < 10 ^ 576 := by decide +kernel
  by_cases h : p < ns.length
  · refine ⟨ns[p] % 10 ^ 576, Int.emod_nonneg _ (Int.ne_of_gt hp), ?_⟩
    have e : (ns.map PyData.int)[p]? = some (.int ns[p]) := by simp [h]
    have h' : (p : Int) < (ns.length : Int) := by omega
    simp_arith [SX__law_cell, gX__law_cell, List.length_map, h', v_ixL e, sx_limit, v_mod hp]
  · refine ⟨0, by decide, ?_⟩
    have h' : ¬ (p : Int) < (ns.length : Int) := by omega
    simp_arith [SX__law_cell, gX__law_cell, List.length_map, h']
theorem sx_numbers (ns : List Int) (p many : Nat) (hm : many ≤ 1000) : ∃ xs : List Int, xs.length = many ∧ (∀ x ∈ xs, 0 ≤ x ∧ x < 10 ^ 9) ∧ SX__law_numbers [.list (ns.map .int), .int (p : Int), .int (many : Int)] = .ok (.list (xs.map .int)) := by
  obtain ⟨c, hc0, hc⟩ := sx_cell ns p
  obtain ⟨Γ', e, xs, rest, s7, s8, rfl, hl, hb⟩ := forR_inv (i := 7) (body := bX__law_numbers_1) many (fun i Γ => ∃ (xs : List Int) (rest : Int) (s7 s8 : Sl), Γ = [.da (.list (ns.map .int)), .da (.int p), .da (.int many), .da (.int c), .da (.int (c % 2147483647)), .ol (xs.map .int), .da (.int rest), s7, s8] ∧ xs.length = i ∧ ∀ x ∈ xs, 0 ≤ x ∧ x < 10 ^ 9)
    [.da (.list (ns.map .int)), .da (.int p), .da (.int many), .da (.int c), .da (.int (c % 2147483647)), .ol [], .da (.int c), .un, .un] ⟨[], c, .un, .un, rfl, rfl, by simp⟩ fun i hi Γ ⟨xs, rest, s7, s8, e, hl, hb⟩ => by
      subst e
      have hx : (xs.map PyData.int).length < 16777216 := by rw [List.length_map]; omega
      by_cases h : 1000000000000000000 ≤ c
      · by_cases h2 : 0 < rest
        · simp_arith [bX__law_numbers_1, h, h2, hx, R.ok.injEq, Fl.nx.injEq, Fl.rt.injEq, exists_eq_left', exists_eq_left, v_mod (show (0 : Int) < 1000000000 by decide), v_div (show (0 : Int) < 1000000000 by decide) (show (1000000000 : Int) < 1073741824 by decide)]
          refine ⟨xs ++ [rest % 1000000000], _, _, _, by rw [List.map_append]; rfl, by simp [hl], fun x hx => ?_⟩
          rcases List.mem_append.mp hx with hx | hx
          · exact hb x hx
          · simp only [List.mem_singleton] at hx; omega
        · simp_arith [bX__law_numbers_1, h, h2, hx, R.ok.injEq, Fl.nx.injEq, Fl.rt.injEq, exists_eq_left', exists_eq_left, v_mod (show (0 : Int) < 1000000000 by decide), v_mod (show (0 : Int) < 2147483399 by decide), v_mod (show (0 : Int) < 2147483647 by decide)]
          refine ⟨xs ++ [_], _, _, _, by rw [List.map_append]; rfl, by simp [hl], fun x hx => ?_⟩
          rcases List.mem_append.mp hx with hx | hx
          · exact hb x hx
          · simp only [List.mem_singleton] at hx; omega
      · simp_arith [bX__law_numbers_1, h, hx, R.ok.injEq, Fl.nx.injEq, Fl.rt.injEq, exists_eq_left', exists_eq_left, v_mod (show (0 : Int) < 1000000000 by decide), v_mod (show (0 : Int) < 2147483399 by decide), v_mod (show (0 : Int) < 2147483647 by decide)]
        refine ⟨xs ++ [_], _, _, _, by rw [List.map_append]; rfl, by simp [hl], fun x hx => ?_⟩
        rcases List.mem_append.mp hx with hx | hx
        · exact hb x hx
        · simp only [List.mem_singleton] at hx; omega
  refine ⟨xs, hl, hb, ?_⟩
  simp_arith [SX__law_numbers, gX__law_numbers, hc, v_mod (show (0 : Int) < 2147483647 by decide), v_range1 (show many ≤ 16777216 by omega), e]
theorem ix_abc {r : Nat} (h : r < 3) : ixD (T [97, 98, 99]) (.int (r : Int)) = .ok (T [97 + r]) := v_ixX (by
  have : r = 0 ∨ r = 1 ∨ r = 2 := by omega
  rcases this with rfl | rfl | rfl <;> rfl)
theorem sx_word {x : Int} {letters : Nat} (hx : 0 ≤ x) (h1 : 1 ≤ letters) (h3 : letters ≤ 3) :
    ∃ w : List Nat, 1 ≤ w.length ∧ w.length ≤ 4 ∧ (∀ c ∈ w, 97 ≤ c ∧ c < 97 + letters) ∧ SX__law_word [.int x, .int (letters : Int)] = .ok (T w) := by
  have hs : (0 : Int) < (letters : Int) := by omega
  obtain ⟨n, hn1, hn4, q, hq, hn⟩ : ∃ n : Nat, 1 ≤ n ∧ n ≤ 4 ∧ ∃ q : Int, ixD (.list [.int 3, .int 2, .int 4]) (.int (x / 3 % 3)) = .ok (.int q) ∧ 0 < q ∧ 1 + x % q = (n : Int) := by
    have h := Int.emod_nonneg (x / 3) (show (3 : Int) ≠ 0 by decide)
    have h' := Int.emod_lt_of_pos (x / 3) (show (0 : Int) < 3 by decide)
    obtain ⟨r, hr⟩ : ∃ r : Nat, x / 3 % 3 = (r : Int) := ⟨(x / 3 % 3).toNat, by omega⟩
    have hq : ∃ q : Int, [PyData.int 3, .int 2, .int 4][r]? = some (.int q) ∧ 0 < q ∧ q ≤ 4 := by
      have : r = 0 ∨ r = 1 ∨ r = 2 := by omega
      rcases this with rfl | rfl | rfl
      · exact ⟨3, rfl, by decide, by decide⟩
      · exact ⟨2, rfl, by decide, by decide⟩
      · exact ⟨4, rfl, by decide, by decide⟩
    obtain ⟨q, e, q1, q2⟩ := hq
    have a := Int.emod_nonneg x (Int.ne_of_gt q1)
    have b := Int.emod_lt_of_pos x q1
    exact ⟨(1 + x % q).toNat, by omega, by omega, q, by rw [hr]; exact v_ixL e, q1, by omega⟩
  obtain ⟨Γ', e, w, rest, s4, rfl, hl, hb⟩ := forR_inv (i := 4) (body := bX__law_word_1) n (fun k Γ => ∃ (w : List Nat) (rest : Int) (s4 : Sl), Γ = [.da (.int x), .da (.int (letters : Int)), .da (T w), .da (.int rest), s4] ∧ w.length = k ∧ ∀ c ∈ w, 97 ≤ c ∧ c < 97 + letters)
    [.da (.int x), .da (.int (letters : Int)), .da (T []), .da (.int (x / 6)), .un] ⟨_, _, _, rfl, rfl, by simp⟩ fun k hk Γ ⟨w, rest, s4, eΓ, hl, hb⟩ => by
      subst eΓ
      obtain ⟨r, hr⟩ : ∃ r : Nat, rest % (letters : Int) = (r : Int) := ⟨(rest % (letters : Int)).toNat, by have := Int.emod_nonneg rest (show (letters : Int) ≠ 0 by omega); omega⟩
      have hr2 : r < letters := by have := Int.emod_lt_of_pos rest hs; omega
      have hc := v_catX (a := w) (b := [97 + r]) (by rw [List.length_singleton]; omega)
      simp_arith [bX__law_word_1, c_abc, v_mod hs, hr, ix_abc (show r < 3 by omega), hc, v_div hs (show (letters : Int) < 1073741824 by omega), R.ok.injEq, Fl.nx.injEq, Fl.rt.injEq, exists_eq_left', exists_eq_left]
      refine ⟨w ++ [97 + r], _, _, rfl, by simp [hl], fun c hc => ?_⟩
      rcases List.mem_append.mp hc with hc | hc
      · exact hb c hc
      · simp only [List.mem_singleton] at hc; omega
  refine ⟨w, by omega, by omega, hb, ?_⟩
  simp_arith [SX__law_word, gX__law_word, c_nil, v_div (show (0 : Int) < 3 by decide) (show (3 : Int) < 1073741824 by decide), v_div (show (0 : Int) < 6 by decide) (show (6 : Int) < 1073741824 by decide), v_mod (show (0 : Int) < 3 by decide), v_mod hn.1, hq, hn.2, v_range1 (show n ≤ 16777216 by omega), e]
/-! ### lists of texts -/
theorem eqv_TT (a b : List Nat) : PyData.eqv (T a) (T b) = decide (a = b) := eqv_T a b
theorem any_T (w : List Nat) (ws : List (List Nat)) : ((ws.map T).any fun z => PyData.eqv z (T w)) = decide (w ∈ ws) := by
  induction ws with
  | nil => rfl
  | cons v ws ih =>
    rw [List.map_cons, List.any_cons, ih, eqv_T]
    by_cases h : v = w
    · subst h; simp
    · simp [h, Ne.symm h]
theorem good_Ts (ws : List (List Nat)) : ∀ x ∈ ws.map T, good x := fun x hx => by
  obtain ⟨w, _, rfl⟩ := List.mem_map.mp hx
  exact good_T w
theorem v_inTL (w : List Nat) (ws : List (List Nat)) : inD (T w) (.list (ws.map T)) = .ok (.bool (decide (w ∈ ws))) := by
  show (if cmpOk (T w) = true ∧ cmpOk (.list (ws.map T)) = true then R.ok (PyData.bool ((ws.map T).any fun z => PyData.eqv z (T w))) else .stuck) = _
  rw [if_pos ⟨cmp_good (good_T w), cmp_lst (good_Ts ws)⟩, any_T]
theorem v_ninTL (w : List Nat) (ws : List (List Nat)) : ninD (T w) (.list (ws.map T)) = .ok (.bool (!decide (w ∈ ws))) := by
  show (if cmpOk (T w) = true ∧ cmpOk (.list (ws.map T)) = true then R.ok (PyData.bool (!(ws.map T).any fun z => PyData.eqv z (T w))) else .stuck) = _
  rw [if_pos ⟨cmp_good (good_T w), cmp_lst (good_Ts ws)⟩, any_T]
theorem flat_Ts (ws : List (List Nat)) : (ws.map T).all flatB = true := by
  rw [List.all_map, List.all_eq_true]; intro x _; rfl
theorem v_inTT (w : List Nat) (ws : List (List Nat)) : inD (T w) (.tuple (ws.map T)) = .ok (.bool (decide (w ∈ ws))) := by
  show (if flatB (T w) = true ∧ (ws.map T).all flatB = true then R.ok (PyData.bool ((ws.map T).any fun z => PyData.eqv z (T w))) else .stuck) = _
  rw [if_pos ⟨rfl, flat_Ts ws⟩, any_T]
theorem v_ninTT (w : List Nat) (ws : List (List Nat)) : ninD (T w) (.tuple (ws.map T)) = .ok (.bool (!decide (w ∈ ws))) := by
  show (if flatB (T w) = true ∧ (ws.map T).all flatB = true then R.ok (PyData.bool (!(ws.map T).any fun z => PyData.eqv z (T w))) else .stuck) = _
  rw [if_pos ⟨rfl, flat_Ts ws⟩, any_T]
/-- what _law_list draws -/
structure WL (ws : List (List Nat)) : Prop where
  pos : 1 ≤ ws.length
  most : ws.length ≤ 6
  nd : ws.Nodup
  len : ∀ w ∈ ws, 1 ≤ w.length ∧ w.length ≤ 6
  abc : ∀ w ∈ ws, ∀ c ∈ w, 97 ≤ c ∧ c < 100
theorem ix_nums {xs : List Int} {n : Nat} (h : n < xs.length) : ixD (.list (xs.map .int)) (.int (n : Int)) = .ok (.int xs[n]) := v_ixL (by rw [List.getElem?_map, List.getElem?_eq_getElem h]; rfl)
theorem sx_list {xs : List Int} (hl : 7 ≤ xs.length) (hb : ∀ x ∈ xs, 0 ≤ x ∧ x < 10 ^ 9) : ∃ ws, WL ws ∧ SX__law_list [.list (xs.map .int)] = .ok (.tuple (ws.map T)) := by
  have h0 : 0 ≤ xs[0] ∧ xs[0] < 10 ^ 9 := hb _ (List.getElem_mem _)
  have i0 : ixD (.list (xs.map .int)) (.int 0) = .ok (.int xs[0]) := ix_nums (n := 0) (by omega)
  obtain ⟨lt, hl1, hl3, hlt⟩ : ∃ lt : Nat, 1 ≤ lt ∧ lt ≤ 3 ∧ ixD (.list [.int 2, .int 2, .int 3, .int 1]) (.int (xs[0] % 4)) = .ok (.int (lt : Int)) := by
    have h := Int.emod_nonneg xs[0] (show (4 : Int) ≠ 0 by decide)
    have h' := Int.emod_lt_of_pos xs[0] (show (0 : Int) < 4 by decide)
    obtain ⟨r, hr⟩ : ∃ r : Nat, xs[0] % 4 = (r : Int) := ⟨(xs[0] % 4).toNat, by omega⟩
    have : r = 0 ∨ r = 1 ∨ r = 2 ∨ r = 3 := by omega
    rw [hr]
    rcases this with rfl | rfl | rfl | rfl
    · exact ⟨2, by decide, by decide, v_ixL rfl⟩
    · exact ⟨2, by decide, by decide, v_ixL rfl⟩
    · exact ⟨3, by decide, by decide, v_ixL rfl⟩
    · exact ⟨1, by decide, by decide, v_ixL rfl⟩
  obtain ⟨n, hn1, hn6, hn⟩ : ∃ n : Nat, 1 ≤ n ∧ n ≤ 6 ∧ (1 : Int) + xs[0] / 4 % 6 = (n : Int) := by
    have h := Int.emod_nonneg (xs[0] / 4) (show (6 : Int) ≠ 0 by decide)
    have h' := Int.emod_lt_of_pos (xs[0] / 4) (show (0 : Int) < 6 by decide)
    exact ⟨(1 + xs[0] / 4 % 6).toNat, by omega, by omega, by omega⟩
  obtain ⟨Γ', e, ws, s3, s4, rfl, hw0, hw1, hw2, hw3, hw4⟩ := forR_inv (i := 3) (body := bX__law_list_1) n (fun k Γ => ∃ (ws : List (List Nat)) (s3 s4 : Sl), Γ = [.da (.list (xs.map .int)), .da (.int (lt : Int)), .ol (ws.map T), s3, s4] ∧ ws.length ≤ k ∧ (0 < k → ws ≠ []) ∧ ws.Nodup ∧ (∀ w ∈ ws, 1 ≤ w.length ∧ w.length ≤ 6) ∧ ∀ w ∈ ws, ∀ c ∈ w, 97 ≤ c ∧ c < 100)
    [.da (.list (xs.map .int)), .da (.int (lt : Int)), .ol [], .un, .un] ⟨[], _, _, rfl, by decide, by decide, by simp, by simp, by simp⟩ fun k hk Γ ⟨ws, s3, s4, eΓ, g0, g1, g2, g3, g4⟩ => by
      subst eΓ
      have hk1 : 1 + k < xs.length := by omega
      have ik : ixD (.list (xs.map .int)) (.int (1 + (k : Int))) = .ok (.int xs[1 + k]) := by
        rw [show (1 : Int) + (k : Int) = ((1 + k : Nat) : Int) by omega]; exact ix_nums hk1
      have hk0 := hb xs[1 + k] (List.getElem_mem _)
      obtain ⟨w, w1, w4, wc, ew⟩ := sx_word (letters := lt) hk0.1 hl1 hl3
      have hlen : (ws.map T).length < 16777216 := by rw [List.length_map]; omega
      have ne : neD (.list (ws.map T)) (.list []) = .ok (.bool (!(ws.map T).isEmpty)) := v_neNil _ fun x hx => good_Ts ws x hx
      -- the word, as it is at last
      have fin : ∀ (v : List Nat) (s3' : Sl), 1 ≤ v.length → v.length ≤ 6 → (∀ c ∈ v, 97 ≤ c ∧ c < 100) →
          ∃ Γ', (ifS [2] (testE (op2E ninD (var 4) (var 2))) (appS [] 2 (var 4)) nilS) [.da (.list (xs.map .int)), .da (.int (lt : Int)), .ol (ws.map T), s3', .da (T v)] = .ok (.nx Γ') ∧ ∃ (ws : List (List Nat)) (s3 s4 : Sl), Γ' = [.da (.list (xs.map .int)), .da (.int (lt : Int)), .ol (ws.map T), s3, s4] ∧ ws.length ≤ k + 1 ∧ (0 < k + 1 → ws ≠ []) ∧ ws.Nodup ∧ (∀ w ∈ ws, 1 ≤ w.length ∧ w.length ≤ 6) ∧ ∀ w ∈ ws, ∀ c ∈ w, 97 ≤ c ∧ c < 100 := by
        intro v s3' v1 v6 vc
        by_cases hv : v ∈ ws
        · refine ⟨_, ?_, ws, s3', .da (T v), rfl, by omega, fun _ z => (by rw [z] at hv; cases hv), g2, g3, g4⟩
          simp_arith [v_ninTL, hv]
        · refine ⟨[.da (.list (xs.map .int)), .da (.int (lt : Int)), .ol ((ws ++ [v]).map T), s3', .da (T v)], ?_, ws ++ [v], s3', .da (T v), rfl, by simp; omega, by simp, ?_, ?_, ?_⟩
          · have em : (ws ++ [v]).map T = ws.map T ++ [T v] := by simp
            rw [em]
            simp_arith [v_ninTL, hv, hlen]
          · rw [List.nodup_append]
            exact ⟨g2, by simp, fun a ha b hb z => by rw [List.mem_singleton.mp hb] at z; rw [z] at ha; exact hv ha⟩
          · intro u hu
            rcases List.mem_append.mp hu with hu | hu
            · exact g3 u hu
            · rw [List.mem_singleton.mp hu]; exact ⟨v1, v6⟩
          · intro u hu
            rcases List.mem_append.mp hu with hu | hu
            · exact g4 u hu
            · rw [List.mem_singleton.mp hu]; exact vc
      have wabc : ∀ c ∈ w, 97 ≤ c ∧ c < 100 := fun c hc => by have := wc c hc; omega
      by_cases hz : xs[0] / 24 % 3 = 0
      · by_cases hws : ws = []
        · obtain ⟨Γ', e1, e2⟩ := fin w (.da (.int k)) w1 (by omega) wabc
          refine ⟨Γ', ?_, e2⟩
          rw [← e1]
          subst hws
          have ne0 : neD (.list []) (.list []) = .ok (.bool false) := v_neNil [] (by simp)
          have ni0 : ninD (T w) (.list []) = .ok (.bool true) := v_ninTL w []
          simp_arith [bX__law_list_1, ik, ew, i0, v_div (show (0 : Int) < 24 by decide) (show (24 : Int) < 1073741824 by decide), v_mod (show (0 : Int) < 3 by decide), hz, ne0, ni0]
        · have hpos : (0 : Int) < (ws.length : Int) := by have := List.length_pos_iff.mpr hws; omega
          obtain ⟨j, hj⟩ : ∃ j : Nat, xs[1 + k] / 50 % (ws.length : Int) = (j : Int) := ⟨(xs[1 + k] / 50 % (ws.length : Int)).toNat, by have := Int.emod_nonneg (xs[1 + k] / 50) (Int.ne_of_gt hpos); omega⟩
          have hj2 : j < ws.length := by have := Int.emod_lt_of_pos (xs[1 + k] / 50) hpos; omega
          have ij := k_ixL T ws ⟨j, hj2⟩
          have hm := List.getElem_mem hj2
          have g3j := g3 _ hm
          have hc := v_catX (a := ws[j]) (b := w) (by omega)
          have sl := v_slX (ws[j] ++ w) none (some 6)
          have ecut : cutD (ws[j] ++ w) none (some 6) = (ws[j] ++ w).take 6 := by
            unfold cutD HT.sIx
            simp
          rw [ecut] at sl
          obtain ⟨Γ', e1, e2⟩ := fin ((ws[j] ++ w).take 6) (.da (.int k)) (by rw [List.length_take, List.length_append]; omega) (by rw [List.length_take]; omega) (fun c hc => by
            rcases List.mem_append.mp (List.mem_of_mem_take hc) with h | h
            · exact g4 _ hm c h
            · exact wabc c h)
          refine ⟨Γ', ?_, e2⟩
          rw [← e1]
          have nem : (ws.map T).isEmpty = false := by cases ws with
            | nil => exact absurd rfl hws
            | cons _ _ => rfl
          simp only [Fin.getElem_fin] at ij
          simp_arith [bX__law_list_1, ik, ew, i0, v_div (show (0 : Int) < 24 by decide) (show (24 : Int) < 1073741824 by decide), v_div (show (0 : Int) < 50 by decide) (show (50 : Int) < 1073741824 by decide), v_mod (show (0 : Int) < 3 by decide), hz, ne, nem, List.length_map, v_mod hpos, hj, ij, hc, sl, v_ninTL]
      · obtain ⟨Γ', e1, e2⟩ := fin w (.da (.int k)) w1 (by omega) wabc
        refine ⟨Γ', ?_, e2⟩
        rw [← e1]
        simp_arith [bX__law_list_1, ik, ew, i0, v_div (show (0 : Int) < 24 by decide) (show (24 : Int) < 1073741824 by decide), v_mod (show (0 : Int) < 3 by decide), hz, v_ninTL]
  refine ⟨ws, ⟨?_, by omega, hw2, hw3, hw4⟩, ?_⟩
  · have := List.length_pos_iff.mpr (hw1 (by omega)); omega
  · have hr : rangeD [.int ((1 : Int) + xs[0] / 4 % 6)] = .ok (rng 0 n) := by rw [hn]; exact v_range1 (by omega)
    simp_arith [SX__law_list, gX__law_list, i0, v_mod (show (0 : Int) < 4 by decide), v_mod (show (0 : Int) < 6 by decide), hlt, v_div (show (0 : Int) < 4 by decide) (show (4 : Int) < 1073741824 by decide), hr, e]
end Lib

set_option Elab.async false
set_option linter.all false
set_option maxRecDepth 100000
set_option maxHeartbeats 4000000
namespace Lib
open PySem RB
local macro_rules | `(tactic| simp_arith [$as,*]) => `(tactic| simp only [view, freeze, ev_seq, ev_seq1, ev_seq2, ev_seq3, ev_seq4, ev_seq5, ev_ret, ev_ret1, ev_ret2, ev_retN, ev_nil, ev_bk, ev_ct, ev_if, ev_ifT, ev_ifF, ev_ifX, ev_set, ev_set0, ev_set1, ev_set3, ev_drop, ev_drop1, ev_drop2, ev_own, ev_own0, ev_own1, ev_unp, ev_unp1, ev_unp2, ev_unp3, ev_app, ev_app0, ev_app1, ev_app2, ev_put, ev_put1, ev_put2, ev_aug, ev_aug1, ev_aug2, ev_for, ev_for0, ev_forN, ev_con, ev_var, ev_var1, ev_op2, ev_op2k, ev_op1, ev_op1k, ev_nilL, ev_consL, ev_consk, ev_tup, ev_tupk, ev_dat, ev_datk, ev_call, ev_callk, ev_callF, ev_callFk, ev_usr, ev_usrk, ev_usr0, ev_test, ev_testk, ev_b, ev_bk1, ev_isN, ev_isNk, ev_notN, ev_notNk, ev_andT, ev_andT1, ev_andT0, ev_orT, ev_orT1, ev_orT0, ev_notT, ev_notTk, ev_andE, ev_andE1, ev_andE0, ev_orE, ev_orE1, ev_orE0, ev_notE, ev_notEk, ev_ifE, ev_ifE1, ev_ifE0, ev_ch, ev_ch0, ev_ch1, ev_ch2, ev_isi, ev_isi1, ev_isi2, ev_isi3, ev_isi4, ev_isi5, ev_isi6, ev_sl, ev_slk, ev_slL, ev_slT, ev_slS, ev_par0, ev_par, ev_park, ev_seqE, ev_seqEL, ev_seqET, ev_seqES, ev_rg, ev_rgk, ev_en, ev_enL, ev_enT, ev_enS, ev_zi, ev_ziLL, ev_ziTT, ev_ziLT, ev_ziTL, ev_ziSS, ev_comp, ev_compk, v_add, v_sub, v_neg, v_eq, v_ne, v_lt, v_le, v_gt, v_ge, v_mulL, v_mulR, v_p9, v_p18, v_mod, v_div, v_int, v_lenL, v_lenT, v_lenS, v_tupL, v_tupT, v_itL, v_itT, v_ixL, v_ixT, v_sum, v_all, v_any, v_range1, v_range2, v_catT, v_catL, i_1, ev_run, ev_end1, ev_end2, ev_end3, ev_vN, ev_vC, ev_sU, ev_sD, ev_sO, ev_fN, ev_fC, ev_zU, ev_zD, ev_zO, fl1, fl2, fl3, fl4, fl5, sg0, sg1, se0, se1, t_N1, t_N2, t_N3, t_N4, t_N5, t_N6, ev_tru, ev_truL, ev_truT, ev_truB, ev_truN, ev_truI, ev_par2, ev_par2k, ev_par3, ev_par3k, v_lenX, v_catX, v_slX, v_ixX, v_eqX, v_neX, v_inX, v_ninX, v_repX, ev_seqEX, ev_isiX, t_N7, t_X1, t_X2, t_X3, t_X4, t_X5, t_X6, ev_truX, t_isInt_none, t_isInt_bool, t_isInt_int, t_isInt_str, t_isInt_tuple, t_isInt_list, t_isBool_none, t_isBool_bool, t_isBool_int, t_isBool_str, t_isBool_tuple, t_isBool_list, t_isStr_none, t_isStr_bool, t_isStr_int, t_isStr_str, t_isStr_tuple, t_isStr_list, t_isTup_none, t_isTup_bool, t_isTup_int, t_isTup_str, t_isTup_tuple, t_isTup_list, t_isLst_none, t_isLst_bool, t_isLst_int, t_isLst_str, t_isLst_tuple, t_isLst_list, t_nc0, t_nc1, t_nc2, t_nc3, t_nc4, t_nc5, t_nc6, t_nc7, t_nc8, t_nc9, t_nc10, t_nc11, t_nc12, t_nc13, t_nc14, t_nc15, t_nc16, t_nc17, t_nc18, t_nc19, t_nc20, t_nc21, t_nc22, t_nc23, t_nc24, t_nc25, t_nc26, t_nc27, t_nc28, t_nc29, t_nc30, t_nc31, t_nc32, List.map_cons, List.map_nil, List.length_cons, List.length_nil, List.cons_append, List.nil_append, List.append_nil, List.set_cons_zero, List.set_cons_succ, List.getElem?_cons_zero, List.getElem?_cons_succ, List.getElem?_nil, List.any_cons, List.any_nil, R.hard_ok, noLst, noLsts, gam0, List.replicate, wipeE, if_true, if_false, Bool.false_eq_true, Bool.true_eq_false, Bool.not_true, Bool.not_false, Bool.true_or, Bool.false_or, Bool.or_true, Bool.or_false, Bool.true_and, Bool.false_and, Bool.and_true, Bool.and_false, Bool.and_self, Bool.or_self, decide_true, decide_false, Nat.reduceBEq, Nat.reduceAdd, Nat.reduceSub, Nat.reduceLT, Int.reduceLT, Int.reduceLE, Int.reduceNeg, Int.reduceAdd, Int.reduceSub, Int.reduceMul, Nat.reduceEqDiff, Int.reduceEq, Nat.reduceLeDiff, ↓reduceIte, List.isEmpty_cons, ev_sE, ev_zE, ev_seq6, ev_end4, ev_endF1, ev_endF2, ev_runF, c_ok, c_same, c_bool, c_int, c_T, c_tup, c_lst, c_rt, c_nx, c_gam, c_da, c_ol, c_t, c_n, c_xf, c_tx, c_fx, c_xt, ↓cond_true, ↓cond_false, c_if, c_andT, c_orT, c_andE, c_orE, c_ifE, c_ch, c_seqK, c_seqK', c_endR, c_endR', c_isN, k_comp, k_comp2, k_all, k_fil, v_allM, v_anyM, v_sumM, ev_m1, ev_m1k, ev_m1k2, v_start, v_ends, v_find, v_count, ev_bad, ev_bad1, ev_many, ev_try, ev_try1, ev_try2, ev_try3, ev_try4, ev_tryM, ev_tryM1, ev_tryM2, ev_tryM3, ev_noXn1, ev_noXn2, ev_setE, ev_setEk, ev_lenK, ev_lenKk, ev_sortK, ev_sortKk, v_min2, v_max2, v_abs, ev_idx, ev_idxL, ev_idxS, ev_catE, ev_catEk, ev_rg1, v_startX, v_endsX, Bool.and_assoc, Bool.or_assoc, cond_true, cond_false, Bool.not_not, ev_rev2, v_revL, v_revX, ev_cL, ev_comp2, ev_comp2j, k_two, k_flat, k_flatF, flat_map, ev_retF, ev_retFk, ev_retO, ev_retOk, ev_usrF, ev_usrFk, ev_ownD, ev_ownD0, ev_empD, ev_dataD, ev_dataDk, ev_putD, ev_putD1, mark_F, mark_T, ev_popK, ev_popk, ev_extK, ev_extk, ev_forK, ev_forKk, ev_forF, ev_forFk, $as,*])
/-! ### lists of words -/
theorem mem_AZ {c : Nat} (h : 97 ≤ c) (h2 : c < 123) : c ∈ AZ := by
  have : ∀ c, c < 123 → 97 ≤ c → c ∈ AZ := by decide
  exact this c h2 h
theorem az_abc {w : List Nat} (h : ∀ c ∈ w, 97 ≤ c ∧ c < 100) : az w = true := List.all_eq_true.mpr fun c hc => decide_eq_true (mem_AZ (h c hc).1 (by have := (h c hc).2; omega))
theorem sx_is_word (w : List Nat) : SX_is_word [T w] = .ok (.bool (az w && (decide (1 ≤ w.length) && decide (w.length ≤ 6)))) := by
  have e := s_is_letters_of w 1 6
  simp only [SX_is_word, gX_is_word, view, freeze, ev_seq, ev_seq1, ev_seq2, ev_seq3, ev_seq4, ev_seq5, ev_ret, ev_ret1, ev_ret2, ev_retN, ev_nil, ev_bk, ev_ct, ev_if, ev_ifT, ev_ifF, ev_ifX, ev_set, ev_set0, ev_set1, ev_set3, ev_drop, ev_drop1, ev_drop2, ev_own, ev_own0, ev_own1, ev_unp, ev_unp1, ev_unp2, ev_unp3, ev_app, ev_app0, ev_app1, ev_app2, ev_put, ev_put1, ev_put2, ev_aug, ev_aug1, ev_aug2, ev_for, ev_for0, ev_forN, ev_con, ev_var, ev_var1, ev_op2, ev_op2k, ev_op1, ev_op1k, ev_nilL, ev_consL, ev_consk, ev_tup, ev_tupk, ev_dat, ev_datk, ev_call, ev_callk, ev_callF, ev_callFk, ev_usr, ev_usrk, ev_usr0, ev_test, ev_testk, ev_b, ev_bk1, ev_isN, ev_isNk, ev_notN, ev_notNk, ev_andT, ev_andT1, ev_andT0, ev_orT, ev_orT1, ev_orT0, ev_notT, ev_notTk, ev_andE, ev_andE1, ev_andE0, ev_orE, ev_orE1, ev_orE0, ev_notE, ev_notEk, ev_ifE, ev_ifE1, ev_ifE0, ev_ch, ev_ch0, ev_ch1, ev_ch2, ev_isi, ev_isi1, ev_isi2, ev_isi3, ev_isi4, ev_isi5, ev_isi6, ev_sl, ev_slk, ev_slL, ev_slT, ev_slS, ev_par0, ev_par, ev_park, ev_seqE, ev_seqEL, ev_seqET, ev_seqES, ev_rg, ev_rgk, ev_en, ev_enL, ev_enT, ev_enS, ev_zi, ev_ziLL, ev_ziTT, ev_ziLT, ev_ziTL, ev_ziSS, ev_comp, ev_compk, v_add, v_sub, v_neg, v_eq, v_ne, v_lt, v_le, v_gt, v_ge, v_mulL, v_mulR, v_p9, v_p18, v_mod, v_div, v_int, v_lenL, v_lenT, v_lenS, v_tupL, v_tupT, v_itL, v_itT, v_ixL, v_ixT, v_sum, v_all, v_any, v_range1, v_range2, v_catT, v_catL, i_1, ev_run, ev_end1, ev_end2, ev_end3, ev_vN, ev_vC, ev_sU, ev_sD, ev_sO, ev_fN, ev_fC, ev_zU, ev_zD, ev_zO, fl1, fl2, fl3, fl4, fl5, sg0, sg1, se0, se1, t_N1, t_N2, t_N3, t_N4, t_N5, t_N6, ev_tru, ev_truL, ev_truT, ev_truB, ev_truN, ev_truI, ev_par2, ev_par2k, ev_par3, ev_par3k, v_lenX, v_catX, v_slX, v_ixX, v_eqX, v_neX, v_inX, v_ninX, v_repX, ev_seqEX, ev_isiX, t_N7, t_X1, t_X2, t_X3, t_X4, t_X5, t_X6, ev_truX, t_isInt_none, t_isInt_bool, t_isInt_int, t_isInt_str, t_isInt_tuple, t_isInt_list, t_isBool_none, t_isBool_bool, t_isBool_int, t_isBool_str, t_isBool_tuple, t_isBool_list, t_isStr_none, t_isStr_bool, t_isStr_int, t_isStr_str, t_isStr_tuple, t_isStr_list, t_isTup_none, t_isTup_bool, t_isTup_int, t_isTup_str, t_isTup_tuple, t_isTup_list, t_isLst_none, t_isLst_bool, t_isLst_int, t_isLst_str, t_isLst_tuple, t_isLst_list, t_nc0, t_nc1, t_nc2, t_nc3, t_nc4, t_nc5, t_nc6, t_nc7, t_nc8, t_nc9, t_nc10, t_nc11, t_nc12, t_nc13, t_nc14, t_nc15, t_nc16, t_nc17, t_nc18, t_nc19, t_nc20, t_nc21, t_nc22, t_nc23, t_nc24, t_nc25, t_nc26, t_nc27, t_nc28, t_nc29, t_nc30, t_nc31, t_nc32, List.map_cons, List.map_nil, List.length_cons, List.length_nil, List.cons_append, List.nil_append, List.append_nil, List.set_cons_zero, List.set_cons_succ, List.getElem?_cons_zero, List.getElem?_cons_succ, List.getElem?_nil, List.any_cons, List.any_nil, R.hard_ok, noLst, noLsts, gam0, List.replicate, wipeE, if_true, if_false, Bool.false_eq_true, Bool.true_eq_false, Bool.not_true, Bool.not_false, Bool.true_or, Bool.false_or, Bool.or_true, Bool.or_false, Bool.true_and, Bool.false_and, Bool.and_true, Bool.and_false, Bool.and_self, Bool.or_self, decide_true, decide_false, Nat.reduceBEq, Nat.reduceAdd, Nat.reduceSub, Nat.reduceLT, Int.reduceLT, Int.reduceLE, Int.reduceNeg, Int.reduceAdd, Int.reduceSub, Int.reduceMul, Nat.reduceEqDiff, Int.reduceEq, Nat.reduceLeDiff, ↓reduceIte, List.isEmpty_cons, ev_sE, ev_zE, ev_seq6, ev_end4, ev_endF1, ev_endF2, ev_runF, e]
  congr 3
  rw [show decide ((1 : Int) ≤ (w.length : Int)) = decide (1 ≤ w.length) from decide_eq_decide.mpr (by omega), show decide ((w.length : Int) ≤ 6) = decide (w.length ≤ 6) from decide_eq_decide.mpr (by omega)]
def okW (w : List Nat) : Bool := az w && (decide (1 ≤ w.length) && decide (w.length ≤ 6))
structure WG (ws : List (List Nat)) : Prop where
  pos : 1 ≤ ws.length
  most : ws.length ≤ 8
  nd : ws.Nodup
  ok : ∀ w ∈ ws, okW w = true
theorem WL.wg {ws : List (List Nat)} (h : WL ws) : WG ws := ⟨h.pos, by have := h.most; omega, h.nd, fun w hw => by
  have a := h.len w hw
  unfold okW
  rw [az_abc (h.abc w hw), decide_eq_true a.1, decide_eq_true a.2]; rfl⟩
theorem nodup_keys {ws : List (List Nat)} (h : ws.Nodup) : ((ws.map S_).map Sum.inr : List L2.Key).Nodup := by
  rw [List.map_map]
  refine (List.pairwise_map).mpr (h.imp fun {a b} ne e => ne ?_)
  have e : (Sum.inr (S_ a) : L2.Key) = Sum.inr (S_ b) := e
  injection e with e
  injection e with e
  simpa using e
theorem keysT (ws : List (List Nat)) : ws.map T = (ws.map S_).map PyData.str := by rw [List.map_map]; rfl
theorem sx_is_list {c : D} {ws : List (List Nat)} (h : SeqD c (ws.map T)) (g : WG ws) : SX_is_list [c] = .ok (.bool true) := by
  have h1 := s_is_row_of h 1 8
  have p1 := g.pos
  have p2 := g.most
  rw [List.length_map, decide_eq_true (show (1 : Int) ≤ (ws.length : Int) by omega), decide_eq_true (show (ws.length : Int) ≤ 8 by omega)] at h1
  have e2 : (ws.all fun w => az w && (decide (1 ≤ w.length) && decide (w.length ≤ 6))) = true := List.all_eq_true.mpr g.ok
  have e3 : keysS (ws.map T) = .ok ((ws.map S_).map Sum.inr) := by
    rw [keysT, keysS_strs _ (by rw [List.length_map]; omega), setKs_nodup (nodup_keys g.nd)]
  have e4 : lenKK (.ok ((ws.map S_).map Sum.inr)) = .ok (.int ws.length) := by
    rw [ev_lenKk _ (by rw [List.length_map, List.length_map]; omega), List.length_map, List.length_map]
  have hl := v_lenQ h
  rw [List.length_map] at hl
  simp_arith [SX_is_list, gX_is_list, h1, v_seqQ h, sx_is_word, e2, e3, e4, hl, v_eq]
theorem tup_Q {c : D} {xs : List D} (h : SeqD c xs) : on1 tupG [c] = .ok (.tuple xs) := by rcases h with rfl | rfl <;> rfl
theorem sx_want_list {c : D} {ws : List (List Nat)} (h : SeqD c (ws.map T)) (g : WG ws) (i : D) : SX_want_list [c, i] = .ok (.tuple (ws.map T)) := by
  simp_arith [SX_want_list, gX_want_list, sx_is_list h g, tup_Q h]
/-! ### texts within texts -/
/-- t begins w -/
def beg (t w : List Nat) : Bool := decide (w.take t.length = t)
theorem beg_refl (w : List Nat) : beg w w = true := decide_eq_true (List.take_length ..)
theorem beg_iff {t w : List Nat} : beg t w = true ↔ t <+: w := by
  unfold beg
  rw [decide_eq_true_iff]
  constructor
  · intro h; rw [← h]; exact List.take_prefix _ _
  · intro h; exact (List.prefix_iff_eq_take.mp h).symm
theorem beg_trans {a b c : List Nat} (h : beg a b = true) (h2 : beg b c = true) : beg a c = true := beg_iff.mpr ((beg_iff.mp h).trans (beg_iff.mp h2))
theorem beg_take (w : List Nat) (n : Nat) : beg (w.take n) w = true := beg_iff.mpr (List.take_prefix _ _)
theorem v_startB (a b : List Nat) : startD (T a) (T b) = .ok (.bool (beg b a)) := v_startX a b
theorem ev_m1T (g : D → D → R D) (a : List Nat) (f : RB.Env → R D) (ε : RB.Env) : m1K g (.ok (T a)) f ε = op2K g (.ok (T a)) (f ε) := Eq.trans rfl rfl
/-- t stands in w -/
def has (t w : List Nat) : Bool := (List.range w.length).any fun i => decide ((w.drop i).take t.length = t)
theorem has_iff {t w : List Nat} (ht : t ≠ []) : has t w = true ↔ t <:+: w := by
  unfold has
  rw [List.any_eq_true]
  constructor
  · rintro ⟨i, hi, h⟩
    rw [decide_eq_true_iff] at h
    exact ⟨w.take i, (w.drop i).drop t.length, by
      have h3 : t ++ (w.drop i).drop t.length = w.drop i := by
        conv => lhs; arg 1; rw [← h]
        exact List.take_append_drop _ _
      rw [List.append_assoc, h3, List.take_append_drop]⟩
  · rintro ⟨a, b, rfl⟩
    refine ⟨a.length, List.mem_range.mpr ?_, decide_eq_true ?_⟩
    · have := List.length_pos_iff.mpr ht
      simp only [List.length_append]; omega
    · rw [List.append_assoc, List.drop_left, List.take_left]
theorem has_trans {a b c : List Nat} (ha : a ≠ []) (hb : b ≠ []) (h : has a b = true) (h2 : has b c = true) : has a c = true := (has_iff ha).mpr (((has_iff ha).mp h).trans ((has_iff hb).mp h2))
theorem has_refl {a : List Nat} (ha : a ≠ []) : has a a = true := (has_iff ha).mpr (List.infix_refl a)
theorem strIn_S {t w : List Nat} (ht : t ≠ []) : strIn (S_ t) (S_ w) = has t w := by
  have ew : (S_ w).length = w.length := by show w.toArray.size = _; rw [List.size_toArray]
  have et : (S_ t).length = t.length := by show t.toArray.size = _; rw [List.size_toArray]
  have q := PySem.StrLaws.found_iff (S_ w) (S_ t)
  have key : strIn (S_ t) (S_ w) = true ↔ has t w = true := by
    unfold strIn
    rw [q, has_iff ht, ew, et]
    constructor
    · rintro ⟨i, hi, h⟩
      rw [subAt_S, decide_eq_true_iff] at h
      rw [← has_iff ht]
      have := List.length_pos_iff.mpr ht
      exact List.any_eq_true.mpr ⟨i, List.mem_range.mpr (by omega), decide_eq_true h⟩
    · intro h
      rw [← has_iff ht] at h
      obtain ⟨i, _, h⟩ := List.any_eq_true.mp h
      rw [decide_eq_true_iff] at h
      refine ⟨i, ?_, by rw [subAt_S]; exact decide_eq_true h⟩
      have := congrArg List.length h
      rw [List.length_take, List.length_drop] at this
      have := List.length_pos_iff.mpr ht
      omega
  cases h : has t w with
  | true => exact key.mpr h
  | false =>
    cases h2 : strIn (S_ t) (S_ w) with
    | true => rw [key.mp h2] at h; cases h
    | false => rfl
theorem v_inH {t w : List Nat} (ht : t ≠ []) : inD (T t) (T w) = .ok (.bool (has t w)) := by
  show R.ok (PyData.bool (strIn (S_ t) (S_ w))) = _
  rw [strIn_S ht]
theorem v_ninH {t w : List Nat} (ht : t ≠ []) : ninD (T t) (T w) = .ok (.bool (!has t w)) := by
  show R.ok (PyData.bool (!strIn (S_ t) (S_ w))) = _
  rw [strIn_S ht]
/-! ### slices -/
theorem cut_to {α : Type} (xs : List α) (n : Nat) : cutD xs none (some (n : Int)) = xs.take n := by
  unfold cutD
  rw [HT.sIx_none, HT.sIx_nat, List.drop_zero, Nat.sub_zero]
  by_cases h : n ≤ xs.length
  · rw [Nat.min_eq_left h]
  · rw [Nat.min_eq_right (by omega), List.take_of_length_le (Nat.le_refl _), List.take_of_length_le (by omega)]
theorem cut_from {α : Type} (xs : List α) (n : Nat) : cutD xs (some (n : Int)) none = xs.drop n := by
  unfold cutD
  rw [HT.sIx_none, HT.sIx_nat]
  by_cases h : n ≤ xs.length
  · rw [Nat.min_eq_left h, List.take_of_length_le (by rw [List.length_drop]; omega)]
  · rw [Nat.min_eq_right (by omega), Nat.sub_self, List.take_zero, List.drop_of_length_le (by omega)]
theorem cut_mid {α : Type} (xs : List α) (m n : Nat) : cutD xs (some (m : Int)) (some ((m : Int) + (n : Int))) = (xs.drop m).take n := by
  unfold cutD
  rw [show (m : Int) + (n : Int) = ((m + n : Nat) : Int) by omega, HT.sIx_nat, HT.sIx_nat]
  by_cases h : m ≤ xs.length
  · rw [Nat.min_eq_left h]
    by_cases h2 : m + n ≤ xs.length
    · rw [Nat.min_eq_left h2, Nat.add_sub_cancel_left]
    · rw [Nat.min_eq_right (by omega), List.take_of_length_le (by rw [List.length_drop]; omega), List.take_of_length_le (by rw [List.length_drop]; omega)]
  · rw [List.drop_of_length_le (by omega), List.drop_of_length_le (by omega)]
    simp
theorem v_slTo (a : List Nat) (n : Nat) : sliceD (T a) none (some (n : Int)) = .ok (T (a.take n)) := by rw [v_slX, cut_to]
theorem v_slMid (a : List Nat) (m n : Nat) : sliceD (T a) (some (m : Int)) (some ((m : Int) + (n : Int))) = .ok (T ((a.drop m).take n)) := by rw [v_slX, cut_mid]
/-! ### is a list empty -/
theorem v_eqNilI {α : Type} (q : α → Int) (xs : List α) : eqD (.list (xs.map fun x => .int (q x))) (.list []) = .ok (.bool xs.isEmpty) := by
  rw [v_eqNil _ fun x hx => by obtain ⟨a, _, rfl⟩ := List.mem_map.mp hx; exact good_int _, map_nilL]
theorem v_neNilI {α : Type} (q : α → Int) (xs : List α) : neD (.list (xs.map fun x => .int (q x))) (.list []) = .ok (.bool (!xs.isEmpty)) := by
  rw [v_neNil _ fun x hx => by obtain ⟨a, _, rfl⟩ := List.mem_map.mp hx; exact good_int _, map_nilL]
theorem v_eqNilT {α : Type} (q : α → List Nat) (xs : List α) : eqD (.list (xs.map fun x => T (q x))) (.list []) = .ok (.bool xs.isEmpty) := by
  rw [v_eqNil _ fun x hx => by obtain ⟨a, _, rfl⟩ := List.mem_map.mp hx; exact good_T _, map_nilL]
theorem v_neNilT {α : Type} (q : α → List Nat) (xs : List α) : neD (.list (xs.map fun x => T (q x))) (.list []) = .ok (.bool (!xs.isEmpty)) := by
  rw [v_neNil _ fun x hx => by obtain ⟨a, _, rfl⟩ := List.mem_map.mp hx; exact good_T _, map_nilL]
theorem v_eqNilT0 (xs : List (List Nat)) : eqD (.list (xs.map T)) (.list []) = .ok (.bool xs.isEmpty) := v_eqNilT (fun x => x) xs
theorem v_neNilT0 (xs : List (List Nat)) : neD (.list (xs.map T)) (.list []) = .ok (.bool (!xs.isEmpty)) := v_neNilT (fun x => x) xs
theorem empty_filter {α : Type} (p : α → Bool) (xs : List α) : (xs.filter p).isEmpty = !xs.any p := by
  induction xs with
  | nil => rfl
  | cons x xs ih => rw [List.filter_cons, List.any_cons]; cases p x with
    | true => rfl
    | false => exact ih
theorem beg_cut (t w : List Nat) : decide (w.take t.length = t) = beg t w := rfl
theorem fin_eq {n : Nat} (j k : Fin n) : decide ((j.val : Int) = (k.val : Int)) = decide (j = k) := decide_eq_decide.mpr ⟨fun h => Fin.ext (by omega), fun h => by rw [h]⟩
theorem v_rgF {n : Nat} (h : n ≤ 16777216) : rangeD [.int (n : Int)] = .ok ((List.finRange n).map fun k => PyData.int ((k.val : Nat) : Int)) := by rw [v_range1 h, rngF]
theorem v_rgN {n : Nat} (h : n ≤ 16777216) : rangeD [.int (n : Int)] = .ok ((List.range n).map fun k => PyData.int (k : Nat)) := by rw [v_range1 h, rngN]
/-- range(1, n + 1) -/
theorem v_rg1 {n : Nat} (h : n ≤ 10000) : rangeD [.int 1, .int ((n : Int) + 1)] = .ok ((List.range n).map fun (k : Nat) => PyData.int (((k : Nat) : Int) + 1)) := by
  rw [v_range2 (by decide) (by decide) (by omega) (by omega), show ((n : Int) + 1 - 1).toNat = n by omega, rng1]
theorem cut_to1 {α : Type} (xs : List α) (n : Nat) : cutD xs none (some ((n : Int) + 1)) = xs.take (n + 1) := cut_to xs (n + 1)
theorem cut_mid1 {α : Type} (xs : List α) (m n : Nat) : cutD xs (some (m : Int)) (some ((m : Int) + ((n : Int) + 1))) = (xs.drop m).take (n + 1) := cut_mid xs m (n + 1)
/-- what may be told: a text or None -/
def optT : Option (List Nat) → D
  | none => .none
  | some t => T t
def optI {n : Nat} : Option (Fin n) → D
  | none => .none
  | some t => .int (t.val : Int)
theorem v_neOT (o : Option (List Nat)) : neD (optT o) (optT o) = .ok (.bool false) := by
  cases o with
  | none => unfold neD; rw [if_pos ⟨rfl, rfl⟩]; rfl
  | some t => show neD (T t) (T t) = _; rw [v_neX, decide_eq_true rfl]; rfl
theorem ix0_app (L : List D) : ixD (.list (L ++ [.none])) (.int 0) = .ok (L.head?.getD .none) := by
  cases L with
  | nil => rfl
  | cons x L => exact v_ixL (i := 0) rfl
theorem head_filterT {α : Type} (p : α → Bool) (f : α → List Nat) (xs : List α) : (((xs.filter p).map fun x => T (f x)).head?.getD .none) = optT ((xs.find? p).map f) := by
  rw [List.head?_map, List.head?_filter]
  cases xs.find? p <;> rfl
theorem head_filterT0 (p : List Nat → Bool) (xs : List (List Nat)) : (((xs.filter p).map T).head?.getD .none) = optT (xs.find? p) := by
  rw [List.head?_map, List.head?_filter]
  cases xs.find? p <;> rfl
theorem v_isB (a b : Bool) : isBD (.bool a) (.bool b) = .ok (.bool (a == b)) := Eq.trans rfl rfl
theorem head_filterI {n : Nat} (p : Fin n → Bool) (xs : List (Fin n)) : (((xs.filter p).map fun x => PyData.int ((x.val : Nat) : Int)).head?.getD .none) = optI (xs.find? p) := by
  rw [List.head?_map, List.head?_filter]
  cases xs.find? p <;> rfl
/-- a row of texts, each somehow -/
theorem k_ex {α : Type} {fr : α → R D} : ∀ (xs : List α), (∀ x ∈ xs, ∃ w, fr x = .ok (T w)) → ∃ ds : List (List Nat), ds.length = xs.length ∧ seqC (xs.map fun x => (R.ok true, fr x)) = .ok (ds.map T)
  | [], _ => ⟨[], rfl, rfl⟩
  | x :: xs, h => by
    obtain ⟨w, e⟩ := h x List.mem_cons_self
    obtain ⟨ds, hl, e2⟩ := k_ex xs fun y hy => h y (List.mem_cons_of_mem _ hy)
    refine ⟨w :: ds, by rw [List.length_cons, List.length_cons, hl], ?_⟩
    show ((fr x).hard >>= fun y => seqC (xs.map fun x => (R.ok true, fr x)) >>= fun ys => R.ok (y :: ys)) = _
    rw [e, e2]; rfl
theorem v_catF {α : Type} (p : α → Bool) (f : α → D) {xs : List α} (h : xs.length ≤ 100000) : addD (.list ((xs.filter p).map f)) (.list [.none]) = .ok (.list ((xs.filter p).map f ++ [.none])) := v_catL (by
  have := List.length_filter_le p xs
  rw [List.length_map]
  show _ + 1 ≤ _
  omega)
/-! ### sorted texts -/
def srtE {α : Type} (enc : α → D) (xs : List α) : List α := xs.mergeSort fun a b => PySem.W.dataLe false id (enc a) (enc b)
theorem sortD_map {α : Type} (enc : α → D) (xs : List α) : sortD (xs.map enc) = (srtE enc xs).map enc := by
  unfold sortD srtE
  exact (List.map_mergeSort (f := enc) (r := fun a b => PySem.W.dataLe false id (enc a) (enc b)) (s := PySem.W.dataLe false id) (l := xs) fun a _ b _ => rfl).symm
theorem srtE_perm {α : Type} (enc : α → D) (xs : List α) : (srtE enc xs).Perm xs := List.mergeSort_perm _ _
theorem mem_srtE {α : Type} (enc : α → D) (xs : List α) (x : α) : x ∈ srtE enc xs ↔ x ∈ xs := (srtE_perm enc xs).mem_iff
theorem alike_T (a b : List Nat) : PySem.W.alike (T a) (T b) = true := rfl
theorem sortOk_T {xs : List (List Nat)} (h : xs.length ≤ 16777216) : SortOk (xs.map T) := by
  refine ⟨fun d hd d' hd' => ?_, .inr fun d hd => ?_, plainL_of' fun d hd => ?_, fun d hd => ?_, by rw [List.length_map]; exact h⟩
  · obtain ⟨a, _, rfl⟩ := List.mem_map.mp hd
    obtain ⟨b, _, rfl⟩ := List.mem_map.mp hd'
    rfl
  · obtain ⟨a, _, rfl⟩ := List.mem_map.mp hd
    exact ⟨fun z => (nomatch z), fun _ z => (nomatch z)⟩
  · exact (good_Ts xs d hd).1
  · exact (good_Ts xs d hd).2
theorem v_sortT {xs : List (List Nat)} (h : xs.length ≤ 16777216) : on1L sortG [.list (xs.map T)] = .ok ((srtE T xs).map T) := by
  show given_ (SortOk (xs.map T)) (.ok (sortD (xs.map T))) = _
  rw [given_pos (sortOk_T h), sortD_map]
end Lib

set_option Elab.async false
set_option linter.all false
set_option maxRecDepth 100000
set_option maxHeartbeats 4000000
namespace Lib
open PySem RB
/-! ### orders -/
def leE {α : Type} (enc : α → D) (a b : α) : Bool := PySem.W.dataLe false id (enc a) (enc b)
theorem leE_eq {α : Type} (enc : α → D) (a b : α) : leE enc a b = !PySem.W.dataLt (enc b) (enc a) := by
  unfold leE
  rw [PySem.W.dataLe_eq]; rfl
structure OrdE {α : Type} (enc : α → D) : Prop where
  trans : ∀ a b c, leE enc a b = true → leE enc b c = true → leE enc a c = true
  total : ∀ a b, (leE enc a b || leE enc b a) = true
  anti : ∀ a b, leE enc a b = true → leE enc b a = true → a = b
theorem srtE_sorted {α : Type} {enc : α → D} (o : OrdE enc) (xs : List α) : (srtE enc xs).Pairwise fun a b => leE enc a b = true := List.pairwise_mergeSort o.trans o.total xs
theorem srtE_eq {α : Type} {enc : α → D} (o : OrdE enc) {xs ys : List α} (h : ys.Perm xs) (p : ys.Pairwise fun a b => leE enc a b = true) : srtE enc xs = ys :=
  List.Perm.eq_of_pairwise (fun a b _ _ => o.anti a b) (srtE_sorted o xs) p ((srtE_perm enc xs).trans h.symm)
theorem srtE_congr {α : Type} {enc : α → D} (o : OrdE enc) {xs ys : List α} (h : xs.Perm ys) : srtE enc xs = srtE enc ys :=
  srtE_eq o ((srtE_perm enc ys).trans h.symm) (srtE_sorted o ys)
/-- nodup rows of the same members are permutations -/
theorem perm_of {α : Type} [DecidableEq α] {xs ys : List α} (hx : xs.Nodup) (hy : ys.Nodup) (h : ∀ a, a ∈ xs ↔ a ∈ ys) : xs.Perm ys := (List.perm_ext_iff_of_nodup hx hy).mpr h
theorem leE_T (a b : List Nat) : leE T a b = decide (a ≤ b) := by
  unfold leE
  exact congrFun (congrFun (PySem.W.dataLe_str (β := List Nat) S_) a) b
theorem leE_int (a b : Int) : leE PyData.int a b = decide (a ≤ b) := by
  unfold leE
  exact congrFun (congrFun (PySem.W.dataLe_int (β := Int) id) a) b
theorem ordT : OrdE T := ⟨fun a b c h1 h2 => by
  rw [leE_T, decide_eq_true_iff] at *
  exact List.le_trans h1 h2, fun a b => by
  rw [leE_T, leE_T, Bool.or_eq_true, decide_eq_true_iff, decide_eq_true_iff]
  exact List.le_total a b, fun a b h1 h2 => by
  rw [leE_T, decide_eq_true_iff] at *
  exact List.le_antisymm h1 h2⟩
theorem ordI : OrdE PyData.int := ⟨fun a b c h1 h2 => by
  rw [leE_int, decide_eq_true_iff] at *; omega, fun a b => by
  rw [leE_int, leE_int, Bool.or_eq_true, decide_eq_true_iff, decide_eq_true_iff]; omega, fun a b h1 h2 => by
  rw [leE_int, decide_eq_true_iff] at *; omega⟩
theorem ord_of {α β : Type} {enc : α → D} (o : OrdE enc) (f : β → α) (hf : ∀ a b, f a = f b → a = b) : OrdE fun b => enc (f b) := ⟨fun a b c => o.trans (f a) (f b) (f c), fun a b => o.total (f a) (f b), fun a b h1 h2 => hf a b (o.anti _ _ h1 h2)⟩
/-! ### sets -/
def addU {α : Type} [DecidableEq α] (acc : List α) (t : α) : List α := if t ∈ acc then acc else acc ++ [t]
def ddup {α : Type} [DecidableEq α] (xs : List α) : List α := xs.foldl addU []
theorem fold_addU {α : Type} [DecidableEq α] (key : α → L2.Key) (hk : ∀ a b, key a = key b → a = b) : ∀ (xs acc : List α), (xs.map key).foldl addK (acc.map key) = (xs.foldl addU acc).map key
  | [], acc => rfl
  | x :: xs, acc => by
    rw [List.map_cons, List.foldl_cons, List.foldl_cons, ← fold_addU key hk xs]
    congr 1
    unfold addU
    by_cases h : x ∈ acc
    · rw [if_pos h]
      exact if_pos (List.mem_map_of_mem h)
    · rw [if_neg h, List.map_append]
      exact if_neg fun z => by
        obtain ⟨a, ha, e⟩ := List.mem_map.mp z
        rw [hk a x e] at ha
        exact h ha
theorem setKs_map {α : Type} [DecidableEq α] (key : α → L2.Key) (hk : ∀ a b, key a = key b → a = b) (xs : List α) : setKs (xs.map key) = (ddup xs).map key := fold_addU key hk xs []
theorem mem_fold {α : Type} [DecidableEq α] (t : α) : ∀ (xs acc : List α), t ∈ xs.foldl addU acc ↔ t ∈ acc ∨ t ∈ xs
  | [], acc => by simp
  | x :: xs, acc => by
    rw [List.foldl_cons, mem_fold t xs]
    unfold addU
    by_cases h : x ∈ acc
    · rw [if_pos h, List.mem_cons]
      constructor
      · rintro (z | z)
        · exact .inl z
        · exact .inr (.inr z)
      · rintro (z | z | z)
        · exact .inl z
        · rw [z]; exact .inl h
        · exact .inr z
    · rw [if_neg h, List.mem_append, List.mem_singleton, List.mem_cons, or_assoc]
theorem mem_ddup {α : Type} [DecidableEq α] (t : α) (xs : List α) : t ∈ ddup xs ↔ t ∈ xs := by
  unfold ddup; rw [mem_fold]; simp
theorem nodup_fold {α : Type} [DecidableEq α] : ∀ (xs acc : List α), acc.Nodup → (xs.foldl addU acc).Nodup
  | [], acc, h => h
  | x :: xs, acc, h => by
    rw [List.foldl_cons]
    refine nodup_fold xs _ ?_
    unfold addU
    by_cases hx : x ∈ acc
    · rw [if_pos hx]; exact h
    · rw [if_neg hx, List.nodup_append]
      exact ⟨h, by simp, fun a ha b hb z => by rw [List.mem_singleton.mp hb] at z; rw [z] at ha; exact hx ha⟩
theorem nodup_ddup {α : Type} [DecidableEq α] (xs : List α) : (ddup xs).Nodup := nodup_fold xs [] (by simp)
theorem ddup_len {α : Type} [DecidableEq α] (xs : List α) : (ddup xs).length ≤ xs.length := by
  have : ∀ (xs acc : List α), (xs.foldl addU acc).length ≤ acc.length + xs.length := by
    intro xs
    induction xs with
    | nil => intro acc; simp
    | cons x xs ih =>
      intro acc
      rw [List.foldl_cons]
      have h1 := ih (addU acc x)
      have h2 : (addU acc x).length ≤ acc.length + 1 := by
        unfold addU
        by_cases h : x ∈ acc
        · rw [if_pos h]; omega
        · rw [if_neg h, List.length_append]; exact Nat.le_refl _
      rw [List.length_cons]
      omega
  have := this xs []
  unfold ddup
  simpa using this
theorem ddup_nodup {α : Type} [DecidableEq α] {xs : List α} (h : xs.Nodup) : ddup xs = xs := by
  have : ∀ (l acc : List α), (acc ++ l).Nodup → l.foldl addU acc = acc ++ l := by
    intro l
    induction l with
    | nil => intro acc _; simp
    | cons k l ih =>
      intro acc hn
      have hk : k ∉ acc := fun hm => (List.nodup_append.mp hn).2.2 k hm k (List.mem_cons_self ..) rfl
      have e : addU acc k = acc ++ [k] := if_neg hk
      rw [List.foldl_cons, e, ih (acc ++ [k]) (by rw [List.append_assoc]; exact hn), List.append_assoc]
      rfl
  exact this xs [] h
def keyT (t : List Nat) : L2.Key := Sum.inr (S_ t)
theorem keyT_inj (a b : List Nat) (h : keyT a = keyT b) : a = b := by
  injection h with h
  injection h with h
  simpa using h
theorem keyI_inj (a b : Int) (h : (Sum.inl a : L2.Key) = Sum.inl b) : a = b := by injection h
theorem set_T {xs : List (List Nat)} (h : xs.length ≤ 4000) : keysS (xs.map T) = .ok ((ddup xs).map keyT) := by
  rw [keysT, keysS_strs _ (by rw [List.length_map]; exact h), List.map_map]
  exact congrArg R.ok (setKs_map keyT keyT_inj xs)
theorem sort_setT {ys : List (List Nat)} (h : ∀ t ∈ ys, okS (S_ t)) : sortKS (ys.map keyT) = .ok ((srtE T ys).map T) := by
  have e : (ys.map keyT).map keyD = ys.map T := by rw [List.map_map]; rfl
  unfold sortKS
  have q : PySem.W.AllAlike ((ys.map keyT).map keyD) ∧ ∀ k ∈ ys.map keyT, okK k := by
    refine ⟨?_, ?_⟩
    · rw [e]
      intro d hd d' hd'
      obtain ⟨a, _, rfl⟩ := List.mem_map.mp hd
      obtain ⟨b, _, rfl⟩ := List.mem_map.mp hd'
      rfl
    · intro k hk
      obtain ⟨t, ht, rfl⟩ := List.mem_map.mp hk
      exact h t ht
  rw [given_pos q, e, sortD_map]
theorem len_setT (ys : List (List Nat)) (h : ys.length ≤ 4000) : lenKK (.ok (ys.map keyT)) = .ok (.int ys.length) := by
  rw [ev_lenKk _ (by rw [List.length_map]; exact h), List.length_map]
/-! ### while -/
theorem w_loop {L : List Nat} {t : RB.Env → R Bool} {body : Gam → R Fl} (n : Nat) (Z : Nat → Gam) (go : ∀ k, k < n → t (view L (Z k)) = .ok true ∧ body (Z k) = .ok (.nx (Z (k + 1)))) (stop : t (view L (Z n)) = .ok false) : whileS L t body (Z 0) = .ok (.nx (Z n)) := by
  have : ∀ m k, k + m = n → whileN L t body (m + 1) (Z k) = .ok (.nx (Z n)) := by
    intro m
    induction m with
    | zero =>
      intro k hk
      have hk : k = n := by omega
      subst hk
      unfold whileN
      rw [stop]; rfl
    | succ m ih =>
      intro k hk
      obtain ⟨h1, h2⟩ := go k (by omega)
      unfold whileN
      rw [h1, lift_ok, if_pos rfl, h2, R.ok_bind]
      exact ih (k + 1) (by omega)
  exact whileS_of (this n 0 (by omega))
end Lib

set_option Elab.async false
set_option linter.all false
set_option maxRecDepth 100000
set_option maxHeartbeats 4000000
namespace Lib
open PySem RB
local macro_rules | `(tactic| simp_arith [$as,*]) => `(tactic| simp only [view, freeze, ev_seq, ev_seq1, ev_seq2, ev_seq3, ev_seq4, ev_seq5, ev_ret, ev_ret1, ev_ret2, ev_retN, ev_nil, ev_bk, ev_ct, ev_if, ev_ifT, ev_ifF, ev_ifX, ev_set, ev_set0, ev_set1, ev_set3, ev_drop, ev_drop1, ev_drop2, ev_own, ev_own0, ev_own1, ev_unp, ev_unp1, ev_unp2, ev_unp3, ev_app, ev_app0, ev_app1, ev_app2, ev_put, ev_put1, ev_put2, ev_aug, ev_aug1, ev_aug2, ev_for, ev_for0, ev_forN, ev_con, ev_var, ev_var1, ev_op2, ev_op2k, ev_op1, ev_op1k, ev_nilL, ev_consL, ev_consk, ev_tup, ev_tupk, ev_dat, ev_datk, ev_call, ev_callk, ev_callF, ev_callFk, ev_usr, ev_usrk, ev_usr0, ev_test, ev_testk, ev_b, ev_bk1, ev_isN, ev_isNk, ev_notN, ev_notNk, ev_andT, ev_andT1, ev_andT0, ev_orT, ev_orT1, ev_orT0, ev_notT, ev_notTk, ev_andE, ev_andE1, ev_andE0, ev_orE, ev_orE1, ev_orE0, ev_notE, ev_notEk, ev_ifE, ev_ifE1, ev_ifE0, ev_ch, ev_ch0, ev_ch1, ev_ch2, ev_isi, ev_isi1, ev_isi2, ev_isi3, ev_isi4, ev_isi5, ev_isi6, ev_sl, ev_slk, ev_slL, ev_slT, ev_slS, ev_par0, ev_par, ev_park, ev_seqE, ev_seqEL, ev_seqET, ev_seqES, ev_rg, ev_rgk, ev_en, ev_enL, ev_enT, ev_enS, ev_zi, ev_ziLL, ev_ziTT, ev_ziLT, ev_ziTL, ev_ziSS, ev_comp, ev_compk, v_add, v_sub, v_neg, v_eq, v_ne, v_lt, v_le, v_gt, v_ge, v_mulL, v_mulR, v_p9, v_p18, v_mod, v_div, v_int, v_lenL, v_lenT, v_lenS, v_tupL, v_tupT, v_itL, v_itT, v_ixL, v_ixT, v_sum, v_all, v_any, v_range1, v_range2, v_catT, v_catL, i_1, ev_run, ev_end1, ev_end2, ev_end3, ev_vN, ev_vC, ev_sU, ev_sD, ev_sO, ev_fN, ev_fC, ev_zU, ev_zD, ev_zO, fl1, fl2, fl3, fl4, fl5, sg0, sg1, se0, se1, t_N1, t_N2, t_N3, t_N4, t_N5, t_N6, ev_tru, ev_truL, ev_truT, ev_truB, ev_truN, ev_truI, ev_par2, ev_par2k, ev_par3, ev_par3k, v_lenX, v_catX, v_slX, v_ixX, v_eqX, v_neX, v_inX, v_ninX, v_repX, ev_seqEX, ev_isiX, t_N7, t_X1, t_X2, t_X3, t_X4, t_X5, t_X6, ev_truX, t_isInt_none, t_isInt_bool, t_isInt_int, t_isInt_str, t_isInt_tuple, t_isInt_list, t_isBool_none, t_isBool_bool, t_isBool_int, t_isBool_str, t_isBool_tuple, t_isBool_list, t_isStr_none, t_isStr_bool, t_isStr_int, t_isStr_str, t_isStr_tuple, t_isStr_list, t_isTup_none, t_isTup_bool, t_isTup_int, t_isTup_str, t_isTup_tuple, t_isTup_list, t_isLst_none, t_isLst_bool, t_isLst_int, t_isLst_str, t_isLst_tuple, t_isLst_list, t_nc0, t_nc1, t_nc2, t_nc3, t_nc4, t_nc5, t_nc6, t_nc7, t_nc8, t_nc9, t_nc10, t_nc11, t_nc12, t_nc13, t_nc14, t_nc15, t_nc16, t_nc17, t_nc18, t_nc19, t_nc20, t_nc21, t_nc22, t_nc23, t_nc24, t_nc25, t_nc26, t_nc27, t_nc28, t_nc29, t_nc30, t_nc31, t_nc32, List.map_cons, List.map_nil, List.length_cons, List.length_nil, List.cons_append, List.nil_append, List.append_nil, List.set_cons_zero, List.set_cons_succ, List.getElem?_cons_zero, List.getElem?_cons_succ, List.getElem?_nil, List.any_cons, List.any_nil, R.hard_ok, noLst, noLsts, gam0, List.replicate, wipeE, if_true, if_false, Bool.false_eq_true, Bool.true_eq_false, Bool.not_true, Bool.not_false, Bool.true_or, Bool.false_or, Bool.or_true, Bool.or_false, Bool.true_and, Bool.false_and, Bool.and_true, Bool.and_false, Bool.and_self, Bool.or_self, decide_true, decide_false, Nat.reduceBEq, Nat.reduceAdd, Nat.reduceSub, Nat.reduceLT, Int.reduceLT, Int.reduceLE, Int.reduceNeg, Int.reduceAdd, Int.reduceSub, Int.reduceMul, Nat.reduceEqDiff, Int.reduceEq, Nat.reduceLeDiff, ↓reduceIte, List.isEmpty_cons, ev_sE, ev_zE, ev_seq6, ev_end4, ev_endF1, ev_endF2, ev_runF, c_ok, c_same, c_bool, c_int, c_T, c_tup, c_lst, c_rt, c_nx, c_gam, c_da, c_ol, c_t, c_n, c_xf, c_tx, c_fx, c_xt, ↓cond_true, ↓cond_false, c_if, c_andT, c_orT, c_andE, c_orE, c_ifE, c_ch, c_seqK, c_seqK', c_endR, c_endR', c_isN, k_comp, k_comp2, k_all, k_fil, v_allM, v_anyM, v_sumM, ev_m1, ev_m1k, ev_m1k2, v_start, v_ends, v_find, v_count, ev_bad, ev_bad1, ev_many, ev_try, ev_try1, ev_try2, ev_try3, ev_try4, ev_tryM, ev_tryM1, ev_tryM2, ev_tryM3, ev_noXn1, ev_noXn2, ev_setE, ev_setEk, ev_lenK, ev_lenKk, ev_sortK, ev_sortKk, v_min2, v_max2, v_abs, ev_idx, ev_idxL, ev_idxS, ev_catE, ev_catEk, ev_rg1, v_startX, v_endsX, Bool.and_assoc, Bool.or_assoc, cond_true, cond_false, Bool.not_not, v_startB, ev_m1T, cut_to, cut_from, cut_mid, k_ixT, k_ixL, enumF, v_eqNilI, v_neNilI, v_eqNilT, v_neNilT, empty_filter, List.any_filter, List.all_filter, List.isEmpty_map, fin_eq, beg_cut, List.filter_filter, cut_to1, cut_mid1, ix0_app, head_filterT, head_filterI, v_neOT, head_filterT0, v_isB, beq_false, beq_true, beq_self_eq_true, v_eqNilT0, v_neNilT0, ev_rev2, v_revL, v_revX, ev_cL, ev_comp2, ev_comp2j, k_two, k_flat, k_flatF, flat_map, ev_retF, ev_retFk, ev_retO, ev_retOk, ev_usrF, ev_usrFk, ev_ownD, ev_ownD0, ev_empD, ev_dataD, ev_dataDk, ev_putD, ev_putD1, mark_F, mark_T, ev_popK, ev_popk, ev_extK, ev_extk, ev_forK, ev_forKk, ev_forF, ev_forFk, $as,*])
variable {ws : List (List Nat)}
/-! ### tails: steps -/
theorem v_slFrom (a : List Nat) (n : Nat) : sliceD (T a) (some (n : Int)) none = .ok (T (a.drop n)) := by rw [v_slX, cut_from]
theorem sx_law_begins (t w : List Nat) : SX__law_begins [T t, T w] = .ok (.bool (beg t w)) := by
  simp_arith [SX__law_begins, gX__law_begins]
def pairD {n : Nat} (p : Fin n × List Nat) : D := .tuple [.int (p.1.val : Int), T p.2]
def out1 (ws : List (List Nat)) (t : List Nat) (k : Fin ws.length) : List (Fin ws.length × List Nat) := if beg ws[k] t = true then [(k, t.drop ws[k].length)] else if beg t ws[k] = true then [(k, ws[k].drop t.length)] else []
def stepsL (ws : List (List Nat)) (t : List Nat) : List (Fin ws.length × List Nat) := (List.finRange ws.length).flatMap (out1 ws t)
theorem out1_len (t : List Nat) (k : Fin ws.length) : (out1 ws t k).length ≤ 1 := by
  unfold out1
  split
  · exact Nat.le_refl _
  · split
    · exact Nat.le_refl _
    · exact Nat.zero_le _
theorem stepsL_len (t : List Nat) : (stepsL ws t).length ≤ ws.length := by
  have : ∀ l : List (Fin ws.length), (l.flatMap (out1 ws t)).length ≤ l.length := by
    intro l
    induction l with
    | nil => simp
    | cons k l ih =>
      have := out1_len t k
      rw [List.flatMap_cons, List.length_append, List.length_cons]; omega
  have := this (List.finRange ws.length)
  rwa [List.length_finRange] at this
theorem sx_steps (hn : ws.length ≤ 1000) (t : List Nat) : SX_steps_from [.tuple (ws.map T), T t] = .ok (.tuple ((stepsL ws t).map pairD)) := by
  obtain ⟨Γ', e, hl, s3, s4, rfl⟩ := f_acc2 (ea := fun (k : Fin ws.length) => PyData.int ((k.val : Nat) : Int)) (eb := fun k => T ws[k]) (i := 3) (j := 4) (body := bX_steps_from_1)
    (fun m (ys : List (Fin ws.length × List Nat)) Γ => ys.length ≤ m ∧ ∃ s3 s4, Γ = [.da (.tuple (ws.map T)), .da (T t), .ol (ys.map pairD), s3, s4]) (out1 ws t) (List.finRange ws.length) 0 (fun k _ m ys Γ hm ⟨hy, s3, s4, eΓ⟩ => by
      subst eΓ
      rw [List.length_finRange] at hm
      have hlt : (ys.map pairD).length < 16777216 := by rw [List.length_map]; omega
      have ho := out1_len t k
      refine ⟨[.da (.tuple (ws.map T)), .da (T t), .ol ((ys ++ out1 ws t k).map pairD), .da (.int (k.val : Int)), .da (T ws[k])], ?_, by rw [List.length_append]; omega, _, _, rfl⟩
      unfold out1
      by_cases h1 : beg ws[k] t = true
      · rw [if_pos h1, List.map_append]
        simp_arith [bX_steps_from_1, h1, v_lenX, v_slFrom, hlt, List.map_cons, List.map_nil, pairD]
      · by_cases h2 : beg t ws[k] = true
        · rw [if_neg h1, if_pos h2, List.map_append]
          simp only [Bool.not_eq_true] at h1
          simp_arith [bX_steps_from_1, h1, h2, v_lenX, v_slFrom, hlt, List.map_cons, List.map_nil, pairD]
        · rw [if_neg h1, if_neg h2, List.append_nil]
          simp only [Bool.not_eq_true] at h1 h2
          simp_arith [bX_steps_from_1, h1, h2])
    [] [.da (.tuple (ws.map T)), .da (T t), .ol [], .un, .un] ⟨by simp, _, _, rfl⟩
  rw [List.nil_append] at e
  simp_arith [SX_steps_from, gX_steps_from, e]
  rfl
theorem law_next_loop (hn : ws.length ≤ 1000) (t : List Nat) : ∃ s3 s4, forL (.nm 3) bX__law_next_1 ((List.finRange ws.length).map fun k => PyData.int ((k.val : Nat) : Int)) [.da (.tuple (ws.map T)), .da (T t), .ol [], .un, .un] = .ok (.nx [.da (.tuple (ws.map T)), .da (T t), .ol ((stepsL ws t).map pairD), s3, s4]) := by
  obtain ⟨Γ', e, hl, s3, s4, rfl⟩ := f_acc (enc := fun (k : Fin ws.length) => PyData.int ((k.val : Nat) : Int)) (i := 3) (body := bX__law_next_1)
    (fun m (ys : List (Fin ws.length × List Nat)) Γ => ys.length ≤ m ∧ ∃ s3 s4, Γ = [.da (.tuple (ws.map T)), .da (T t), .ol (ys.map pairD), s3, s4]) (out1 ws t) (List.finRange ws.length) 0 (fun k _ m ys Γ hm ⟨hy, s3, s4, eΓ⟩ => by
      subst eΓ
      rw [List.length_finRange] at hm
      have hlt : (ys.map pairD).length < 16777216 := by rw [List.length_map]; omega
      have ho := out1_len t k
      refine ⟨[.da (.tuple (ws.map T)), .da (T t), .ol ((ys ++ out1 ws t k).map pairD), .da (.int (k.val : Int)), .da (T ws[k])], ?_, by rw [List.length_append]; omega, _, _, rfl⟩
      unfold out1
      by_cases h1 : beg ws[k] t = true
      · rw [if_pos h1, List.map_append]
        simp_arith [bX__law_next_1, sx_law_begins, h1, v_lenX, v_slFrom, hlt, List.map_cons, List.map_nil, pairD]
      · by_cases h2 : beg t ws[k] = true
        · rw [if_neg h1, if_pos h2, List.map_append]
          simp only [Bool.not_eq_true] at h1
          simp_arith [bX__law_next_1, sx_law_begins, h1, h2, v_lenX, v_slFrom, hlt, List.map_cons, List.map_nil, pairD]
        · rw [if_neg h1, if_neg h2, List.append_nil]
          simp only [Bool.not_eq_true] at h1 h2
          simp_arith [bX__law_next_1, sx_law_begins, h1, h2])
    [] [.da (.tuple (ws.map T)), .da (T t), .ol [], .un, .un] ⟨by simp, _, _, rfl⟩
  rw [List.nil_append] at e
  exact ⟨s3, s4, e⟩
theorem sx_law_next (hn : ws.length ≤ 1000) (t : List Nat) : SX__law_next [.tuple (ws.map T), T t] = .ok (.list ((stepsL ws t).map pairD)) := by
  obtain ⟨s3, s4, e⟩ := law_next_loop hn t
  simp_arith [SX__law_next, gX__law_next, List.length_map, v_rgF (show ws.length ≤ 16777216 by omega), e]
theorem fx_law_next (hn : ws.length ≤ 1000) (t : List Nat) : FX__law_next [.tuple (ws.map T), T t] = .ok ((stepsL ws t).map pairD) := by
  obtain ⟨s3, s4, e⟩ := law_next_loop hn t
  simp_arith [FX__law_next, gX__law_next, List.length_map, v_rgF (show ws.length ≤ 16777216 by omega), e]
/-! first tails -/
def rowsF (ws : List (List Nat)) : List (List Nat) := ws.flatMap fun a => (ws.filter fun b => !decide (a = b) && beg b a).map fun b => a.drop b.length
def firstL (ws : List (List Nat)) : List (List Nat) := srtE T (ddup (rowsF ws))
theorem mem_rowsF {t : List Nat} : t ∈ rowsF ws ↔ ∃ a ∈ ws, ∃ b ∈ ws, a ≠ b ∧ beg b a = true ∧ t = a.drop b.length := by
  unfold rowsF
  simp only [List.mem_flatMap, List.mem_map, List.mem_filter, Bool.and_eq_true, Bool.not_eq_true', decide_eq_false_iff_not]
  constructor
  · rintro ⟨a, ha, b, ⟨hb, h1, h2⟩, rfl⟩
    exact ⟨a, ha, b, hb, h1, h2, rfl⟩
  · rintro ⟨a, ha, b, hb, h1, h2, rfl⟩
    exact ⟨a, ha, b, ⟨hb, h1, h2⟩, rfl⟩
theorem mem_firstL {t : List Nat} : t ∈ firstL ws ↔ t ∈ rowsF ws := by unfold firstL; rw [mem_srtE, mem_ddup]
theorem rowsF_len : (rowsF ws).length ≤ ws.length * ws.length := by
  have : ∀ l : List (List Nat), (l.flatMap fun a => (ws.filter fun b => !decide (a = b) && beg b a).map fun b => a.drop b.length).length ≤ l.length * ws.length := by
    intro l
    induction l with
    | nil => simp
    | cons a l ih =>
      have := List.length_filter_le (fun b => !decide (a = b) && beg b a) ws
      rw [List.flatMap_cons, List.length_append, List.length_map, List.length_cons, Nat.add_mul]
      omega
  exact this ws
theorem ok_tail (g : WG ws) {a : List Nat} (ha : a ∈ ws) (n : Nat) : okS (S_ (a.drop n)) := by
  have h := g.ok a ha
  unfold okW at h
  simp only [Bool.and_eq_true, decide_eq_true_iff] at h
  refine okS_S (by rw [List.length_drop]; omega) fun c hc => ?_
  have := List.all_eq_true.mp h.1 c (List.mem_of_mem_drop hc)
  have hz : ∀ c ∈ AZ, c < 1114112 := by decide
  exact hz c (of_decide_eq_true this)
theorem sort_first (g : WG ws) : sortKK (.ok ((ddup (rowsF ws)).map keyT)) = .ok ((firstL ws).map T) := by
  rw [ev_sortKk]
  exact sort_setT fun t ht => by
    obtain ⟨a, ha, b, hb, _, _, rfl⟩ := mem_rowsF.mp ((mem_ddup _ _).mp ht)
    exact ok_tail g ha _
theorem first_eval (g : WG ws) : sortKE (setE_ (comp2E [1, 2] [2] (seqE (var 0)) (.nm 1) (fun _ => .ok true) (seqE (var 0)) (.nm 2) (andT (testE (op2E neD (var 1) (var 2))) (testE (m1E startD (var 1) (var 2)))) (sliceE (var 1) (some (callE lenG [var 2])) none))) [some (.tuple (ws.map T)), none, none] = .ok ((firstL ws).map T) := by
  have hm := g.most
  have hl := rowsF_len (ws := ws)
  have hl2 : ws.length * ws.length ≤ 64 := Nat.mul_le_mul hm hm
  have hc : comp2K (.ok ((rowsF ws).map T)) = .ok ((rowsF ws).map T) := ev_comp2K (by rw [List.length_map]; omega)
  have hs := set_T (xs := rowsF ws) (by omega)
  have e : ((ws.flatMap fun a => (ws.filter fun b => !decide (a = b) && beg b a).map fun b => T (a.drop b.length))) = (rowsF ws).map T := by
    unfold rowsF
    rw [List.map_flatMap]
    congr 1
    funext a
    rw [List.map_map]; rfl
  simp_arith [v_neX, v_lenX, v_slFrom, e, hc, hs, sort_first g]
theorem sx_first (g : WG ws) : SX_first_tails [.tuple (ws.map T)] = .ok (.list ((firstL ws).map T)) := by
  have e := first_eval g
  simp only [SX_first_tails, gX_first_tails, view, freeze, ev_seq, ev_seq1, ev_seq2, ev_seq3, ev_seq4, ev_seq5, ev_ret, ev_ret1, ev_ret2, ev_retN, ev_nil, ev_bk, ev_ct, ev_if, ev_ifT, ev_ifF, ev_ifX, ev_set, ev_set0, ev_set1, ev_set3, ev_drop, ev_drop1, ev_drop2, ev_own, ev_own0, ev_own1, ev_unp, ev_unp1, ev_unp2, ev_unp3, ev_app, ev_app0, ev_app1, ev_app2, ev_put, ev_put1, ev_put2, ev_aug, ev_aug1, ev_aug2, ev_for, ev_for0, ev_forN, ev_con, ev_var, ev_var1, ev_op2, ev_op2k, ev_op1, ev_op1k, ev_nilL, ev_consL, ev_consk, ev_tup, ev_tupk, ev_dat, ev_datk, ev_call, ev_callk, ev_callF, ev_callFk, ev_usr, ev_usrk, ev_usr0, ev_test, ev_testk, ev_b, ev_bk1, ev_isN, ev_isNk, ev_notN, ev_notNk, ev_andT, ev_andT1, ev_andT0, ev_orT, ev_orT1, ev_orT0, ev_notT, ev_notTk, ev_andE, ev_andE1, ev_andE0, ev_orE, ev_orE1, ev_orE0, ev_notE, ev_notEk, ev_ifE, ev_ifE1, ev_ifE0, ev_ch, ev_ch0, ev_ch1, ev_ch2, ev_isi, ev_isi1, ev_isi2, ev_isi3, ev_isi4, ev_isi5, ev_isi6, ev_sl, ev_slk, ev_slL, ev_slT, ev_slS, ev_par0, ev_par, ev_park, ev_seqE, ev_seqEL, ev_seqET, ev_seqES, ev_rg, ev_rgk, ev_en, ev_enL, ev_enT, ev_enS, ev_zi, ev_ziLL, ev_ziTT, ev_ziLT, ev_ziTL, ev_ziSS, ev_comp, ev_compk, v_add, v_sub, v_neg, v_eq, v_ne, v_lt, v_le, v_gt, v_ge, v_mulL, v_mulR, v_p9, v_p18, v_mod, v_div, v_int, v_lenL, v_lenT, v_lenS, v_tupL, v_tupT, v_itL, v_itT, v_ixL, v_ixT, v_sum, v_all, v_any, v_range1, v_range2, v_catT, v_catL, i_1, ev_run, ev_end1, ev_end2, ev_end3, ev_vN, ev_vC, ev_sU, ev_sD, ev_sO, ev_fN, ev_fC, ev_zU, ev_zD, ev_zO, fl1, fl2, fl3, fl4, fl5, sg0, sg1, se0, se1, t_N1, t_N2, t_N3, t_N4, t_N5, t_N6, ev_tru, ev_truL, ev_truT, ev_truB, ev_truN, ev_truI, ev_par2, ev_par2k, ev_par3, ev_par3k, v_lenX, v_catX, v_slX, v_ixX, v_eqX, v_neX, v_inX, v_ninX, v_repX, ev_seqEX, ev_isiX, t_N7, t_X1, t_X2, t_X3, t_X4, t_X5, t_X6, ev_truX, t_isInt_none, t_isInt_bool, t_isInt_int, t_isInt_str, t_isInt_tuple, t_isInt_list, t_isBool_none, t_isBool_bool, t_isBool_int, t_isBool_str, t_isBool_tuple, t_isBool_list, t_isStr_none, t_isStr_bool, t_isStr_int, t_isStr_str, t_isStr_tuple, t_isStr_list, t_isTup_none, t_isTup_bool, t_isTup_int, t_isTup_str, t_isTup_tuple, t_isTup_list, t_isLst_none, t_isLst_bool, t_isLst_int, t_isLst_str, t_isLst_tuple, t_isLst_list, t_nc0, t_nc1, t_nc2, t_nc3, t_nc4, t_nc5, t_nc6, t_nc7, t_nc8, t_nc9, t_nc10, t_nc11, t_nc12, t_nc13, t_nc14, t_nc15, t_nc16, t_nc17, t_nc18, t_nc19, t_nc20, t_nc21, t_nc22, t_nc23, t_nc24, t_nc25, t_nc26, t_nc27, t_nc28, t_nc29, t_nc30, t_nc31, t_nc32, List.map_cons, List.map_nil, List.length_cons, List.length_nil, List.cons_append, List.nil_append, List.append_nil, List.set_cons_zero, List.set_cons_succ, List.getElem?_cons_zero, List.getElem?_cons_succ, List.getElem?_nil, List.any_cons, List.any_nil, R.hard_ok, noLst, noLsts, gam0, List.replicate, wipeE, if_true, if_false, Bool.false_eq_true, Bool.true_eq_false, Bool.not_true, Bool.not_false, Bool.true_or, Bool.false_or, Bool.or_true, Bool.or_false, Bool.true_and, Bool.false_and, Bool.and_true, Bool.and_false, Bool.and_self, Bool.or_self, decide_true, decide_false, Nat.reduceBEq, Nat.reduceAdd, Nat.reduceSub, Nat.reduceLT, Int.reduceLT, Int.reduceLE, Int.reduceNeg, Int.reduceAdd, Int.reduceSub, Int.reduceMul, Nat.reduceEqDiff, Int.reduceEq, Nat.reduceLeDiff, ↓reduceIte, List.isEmpty_cons, ev_sE, ev_zE, ev_seq6, ev_end4, ev_endF1, ev_endF2, ev_runF, ev_retF]
  rw [e]
  rfl
theorem fx_first (g : WG ws) : FX_first_tails [.tuple (ws.map T)] = .ok ((firstL ws).map T) := by
  have e := first_eval g
  simp only [FX_first_tails, gX_first_tails, view, freeze, ev_seq, ev_seq1, ev_seq2, ev_seq3, ev_seq4, ev_seq5, ev_ret, ev_ret1, ev_ret2, ev_retN, ev_nil, ev_bk, ev_ct, ev_if, ev_ifT, ev_ifF, ev_ifX, ev_set, ev_set0, ev_set1, ev_set3, ev_drop, ev_drop1, ev_drop2, ev_own, ev_own0, ev_own1, ev_unp, ev_unp1, ev_unp2, ev_unp3, ev_app, ev_app0, ev_app1, ev_app2, ev_put, ev_put1, ev_put2, ev_aug, ev_aug1, ev_aug2, ev_for, ev_for0, ev_forN, ev_con, ev_var, ev_var1, ev_op2, ev_op2k, ev_op1, ev_op1k, ev_nilL, ev_consL, ev_consk, ev_tup, ev_tupk, ev_dat, ev_datk, ev_call, ev_callk, ev_callF, ev_callFk, ev_usr, ev_usrk, ev_usr0, ev_test, ev_testk, ev_b, ev_bk1, ev_isN, ev_isNk, ev_notN, ev_notNk, ev_andT, ev_andT1, ev_andT0, ev_orT, ev_orT1, ev_orT0, ev_notT, ev_notTk, ev_andE, ev_andE1, ev_andE0, ev_orE, ev_orE1, ev_orE0, ev_notE, ev_notEk, ev_ifE, ev_ifE1, ev_ifE0, ev_ch, ev_ch0, ev_ch1, ev_ch2, ev_isi, ev_isi1, ev_isi2, ev_isi3, ev_isi4, ev_isi5, ev_isi6, ev_sl, ev_slk, ev_slL, ev_slT, ev_slS, ev_par0, ev_par, ev_park, ev_seqE, ev_seqEL, ev_seqET, ev_seqES, ev_rg, ev_rgk, ev_en, ev_enL, ev_enT, ev_enS, ev_zi, ev_ziLL, ev_ziTT, ev_ziLT, ev_ziTL, ev_ziSS, ev_comp, ev_compk, v_add, v_sub, v_neg, v_eq, v_ne, v_lt, v_le, v_gt, v_ge, v_mulL, v_mulR, v_p9, v_p18, v_mod, v_div, v_int, v_lenL, v_lenT, v_lenS, v_tupL, v_tupT, v_itL, v_itT, v_ixL, v_ixT, v_sum, v_all, v_any, v_range1, v_range2, v_catT, v_catL, i_1, ev_run, ev_end1, ev_end2, ev_end3, ev_vN, ev_vC, ev_sU, ev_sD, ev_sO, ev_fN, ev_fC, ev_zU, ev_zD, ev_zO, fl1, fl2, fl3, fl4, fl5, sg0, sg1, se0, se1, t_N1, t_N2, t_N3, t_N4, t_N5, t_N6, ev_tru, ev_truL, ev_truT, ev_truB, ev_truN, ev_truI, ev_par2, ev_par2k, ev_par3, ev_par3k, v_lenX, v_catX, v_slX, v_ixX, v_eqX, v_neX, v_inX, v_ninX, v_repX, ev_seqEX, ev_isiX, t_N7, t_X1, t_X2, t_X3, t_X4, t_X5, t_X6, ev_truX, t_isInt_none, t_isInt_bool, t_isInt_int, t_isInt_str, t_isInt_tuple, t_isInt_list, t_isBool_none, t_isBool_bool, t_isBool_int, t_isBool_str, t_isBool_tuple, t_isBool_list, t_isStr_none, t_isStr_bool, t_isStr_int, t_isStr_str, t_isStr_tuple, t_isStr_list, t_isTup_none, t_isTup_bool, t_isTup_int, t_isTup_str, t_isTup_tuple, t_isTup_list, t_isLst_none, t_isLst_bool, t_isLst_int, t_isLst_str, t_isLst_tuple, t_isLst_list, t_nc0, t_nc1, t_nc2, t_nc3, t_nc4, t_nc5, t_nc6, t_nc7, t_nc8, t_nc9, t_nc10, t_nc11, t_nc12, t_nc13, t_nc14, t_nc15, t_nc16, t_nc17, t_nc18, t_nc19, t_nc20, t_nc21, t_nc22, t_nc23, t_nc24, t_nc25, t_nc26, t_nc27, t_nc28, t_nc29, t_nc30, t_nc31, t_nc32, List.map_cons, List.map_nil, List.length_cons, List.length_nil, List.cons_append, List.nil_append, List.append_nil, List.set_cons_zero, List.set_cons_succ, List.getElem?_cons_zero, List.getElem?_cons_succ, List.getElem?_nil, List.any_cons, List.any_nil, R.hard_ok, noLst, noLsts, gam0, List.replicate, wipeE, if_true, if_false, Bool.false_eq_true, Bool.true_eq_false, Bool.not_true, Bool.not_false, Bool.true_or, Bool.false_or, Bool.or_true, Bool.or_false, Bool.true_and, Bool.false_and, Bool.and_true, Bool.and_false, Bool.and_self, Bool.or_self, decide_true, decide_false, Nat.reduceBEq, Nat.reduceAdd, Nat.reduceSub, Nat.reduceLT, Int.reduceLT, Int.reduceLE, Int.reduceNeg, Int.reduceAdd, Int.reduceSub, Int.reduceMul, Nat.reduceEqDiff, Int.reduceEq, Nat.reduceLeDiff, ↓reduceIte, List.isEmpty_cons, ev_sE, ev_zE, ev_seq6, ev_end4, ev_endF1, ev_endF2, ev_runF, ev_retF]
  rw [e]
  rfl
theorem ddup_app {α : Type} [DecidableEq α] (ys : List α) (x : α) : ddup (ys ++ [x]) = addU (ddup ys) x := by
  unfold ddup
  rw [List.foldl_append]; rfl
def inG (b a : List Nat) : List (List Nat) := if (!decide (b = a) && beg b a) = true then [a.drop b.length] else []
def rowsG (ws : List (List Nat)) : List (List Nat) := ws.flatMap fun b => ws.flatMap (inG b)
theorem mem_rowsG {t : List Nat} : t ∈ rowsG ws ↔ t ∈ rowsF ws := by
  rw [mem_rowsF]
  unfold rowsG inG
  simp only [List.mem_flatMap]
  constructor
  · rintro ⟨b, hb, a, ha, h⟩
    split at h
    · rename_i h1
      simp only [Bool.and_eq_true, Bool.not_eq_true', decide_eq_false_iff_not] at h1
      exact ⟨a, ha, b, hb, fun z => h1.1 z.symm, h1.2, List.mem_singleton.mp h⟩
    · cases h
  · rintro ⟨a, ha, b, hb, h1, h2, rfl⟩
    refine ⟨b, hb, a, ha, ?_⟩
    rw [if_pos (by simp only [Bool.and_eq_true, Bool.not_eq_true', decide_eq_false_iff_not]; exact ⟨fun z => h1 z.symm, h2⟩)]
    exact List.mem_singleton.mpr rfl
theorem inG_len (b a : List Nat) : (inG b a).length ≤ 1 := by
  unfold inG
  split <;> simp
theorem flat_le {α β : Type} (f : α → List β) (c : Nat) (h : ∀ x, (f x).length ≤ c) : ∀ l : List α, (l.flatMap f).length ≤ l.length * c
  | [] => by simp
  | x :: l => by
    have h1 := h x
    have h2 := flat_le f c h l
    rw [List.flatMap_cons, List.length_append, List.length_cons, Nat.add_mul]
    omega
theorem begun_inner (g : WG ws) {b : List Nat} (hb : b ∈ ws) (ys : List (List Nat)) (hy : ys.length ≤ 1000) (s3 : Sl) : ∃ s3', forL (.nm 3) bX__law_begun_1 (ws.map T) [.da (.tuple (ws.map T)), .ol ((ddup ys).map T), .da (T b), s3] = .ok (.nx [.da (.tuple (ws.map T)), .ol ((ddup (ys ++ ws.flatMap (inG b))).map T), .da (T b), s3']) := by
  have hm := g.most
  obtain ⟨Γ', e, hl, s3', rfl⟩ := f_acc (enc := T) (i := 3) (body := bX__law_begun_1) (fun m (zs : List (List Nat)) Γ => zs.length ≤ 1000 + m ∧ ∃ s3, Γ = [.da (.tuple (ws.map T)), .ol ((ddup zs).map T), .da (T b), s3]) (inG b) ws 0 (fun a ha m zs Γ hm2 ⟨hz, s3, eΓ⟩ => by
      subst eΓ
      have ho := inG_len b a
      have hd := ddup_len zs
      have hlt : ((ddup zs).map T).length < 16777216 := by rw [List.length_map]; omega
      refine ⟨[.da (.tuple (ws.map T)), .ol ((ddup (zs ++ inG b a)).map T), .da (T b), .da (T a)], ?_, by rw [List.length_append]; omega, _, rfl⟩
      unfold inG
      by_cases h1 : b = a
      · have hc : ¬ (!decide (b = a) && beg b a) = true := by rw [decide_eq_true h1]; simp
        rw [if_neg hc, List.append_nil]
        simp_arith [bX__law_begun_1, v_neX, h1]
      · by_cases h2 : beg b a = true
        · have hc : (!decide (b = a) && beg b a) = true := by rw [decide_eq_false h1, h2]; rfl
          rw [if_pos hc, ddup_app]
          unfold addU
          by_cases h3 : a.drop b.length ∈ ddup zs
          · rw [if_pos h3]
            simp_arith [bX__law_begun_1, v_neX, h1, sx_law_begins, h2, v_lenX, v_slFrom, v_ninTL, h3]
          · rw [if_neg h3, List.map_append]
            simp_arith [bX__law_begun_1, v_neX, h1, sx_law_begins, h2, v_lenX, v_slFrom, v_ninTL, h3, hlt, List.map_cons, List.map_nil]
        · have hc : ¬ (!decide (b = a) && beg b a) = true := by simp [h2]
          simp only [Bool.not_eq_true] at h2
          rw [if_neg hc, List.append_nil]
          simp_arith [bX__law_begun_1, v_neX, h1, sx_law_begins, h2]) ys [.da (.tuple (ws.map T)), .ol ((ddup ys).map T), .da (T b), s3] ⟨by omega, _, rfl⟩
  exact ⟨s3', e⟩
theorem begun_loop (g : WG ws) : ∃ s2 s3, forL (.nm 2) bX__law_begun_2 (ws.map T) [.da (.tuple (ws.map T)), .ol [], .un, .un] = .ok (.nx [.da (.tuple (ws.map T)), .ol ((ddup (rowsG ws)).map T), s2, s3]) := by
  have hm := g.most
  obtain ⟨Γ', e, hl, s2, s3, rfl⟩ := f_acc (enc := T) (i := 2) (body := bX__law_begun_2) (fun m (zs : List (List Nat)) Γ => zs.length ≤ 8 * m ∧ ∃ s2 s3, Γ = [.da (.tuple (ws.map T)), .ol ((ddup zs).map T), s2, s3]) (fun b => ws.flatMap (inG b)) ws 0 (fun b hb m zs Γ hm2 ⟨hz, s2, s3, eΓ⟩ => by
      subst eΓ
      have ho := flat_le (inG b) 1 (inG_len b) ws
      obtain ⟨s3', e⟩ := begun_inner g hb zs (by omega) s3
      refine ⟨_, ?_, by rw [List.length_append]; omega, .da (T b), s3', rfl⟩
      simp_arith [bX__law_begun_2, e]) [] [.da (.tuple (ws.map T)), .ol [], .un, .un] ⟨by simp, _, _, rfl⟩
  exact ⟨s2, s3, e⟩
theorem begun_first (g : WG ws) : srtE T (ddup (rowsG ws)) = firstL ws := by
  unfold firstL
  exact srtE_congr ordT (perm_of (nodup_ddup _) (nodup_ddup _) fun t => by rw [mem_ddup, mem_ddup, mem_rowsG])
theorem rowsG_len (g : WG ws) : (rowsG ws).length ≤ 64 := by
  have hm := g.most
  have h1 := flat_le (fun b => ws.flatMap (inG b)) ws.length (fun b => by have := flat_le (inG b) 1 (inG_len b) ws; omega) ws
  have h2 : ws.length * ws.length ≤ 64 := Nat.mul_le_mul hm hm
  exact Nat.le_trans h1 h2
theorem sx_law_begun (g : WG ws) : SX__law_begun [.tuple (ws.map T)] = .ok (.list ((firstL ws).map T)) := by
  obtain ⟨s2, s3, e⟩ := begun_loop g
  have hl := rowsG_len g
  have hd := ddup_len (rowsG ws)
  have hs := v_sortT (xs := ddup (rowsG ws)) (by omega)
  simp_arith [SX__law_begun, gX__law_begun, e, hs, begun_first g]
theorem fx_law_begun (g : WG ws) : FX__law_begun [.tuple (ws.map T)] = .ok ((firstL ws).map T) := by
  obtain ⟨s2, s3, e⟩ := begun_loop g
  have hl := rowsG_len g
  have hd := ddup_len (rowsG ws)
  have hs := v_sortT (xs := ddup (rowsG ws)) (by omega)
  simp_arith [FX__law_begun, gX__law_begun, e, hs, begun_first g]
/-! ### what is reached -/
inductive Rch (ws : List (List Nat)) : List Nat → Prop
  | base {t : List Nat} : t ∈ firstL ws → Rch ws t
  | step {t s : List Nat} {k : Fin ws.length} : Rch ws t → t ≠ [] → (k, s) ∈ stepsL ws t → Rch ws s
theorem mem_steps {t s : List Nat} {k : Fin ws.length} : (k, s) ∈ stepsL ws t ↔ (beg ws[k] t = true ∧ s = t.drop ws[k].length) ∨ (beg ws[k] t = false ∧ beg t ws[k] = true ∧ s = ws[k].drop t.length) := by
  unfold stepsL
  rw [List.mem_flatMap]
  constructor
  · rintro ⟨j, _, h⟩
    unfold out1 at h
    split at h
    · rename_i h1
      have h := List.mem_singleton.mp h
      cases h
      exact .inl ⟨h1, rfl⟩
    · rename_i h1
      split at h
      · rename_i h2
        have h := List.mem_singleton.mp h
        cases h
        exact .inr ⟨by simpa using h1, h2, rfl⟩
      · cases h
  · intro h
    refine ⟨k, List.mem_finRange k, ?_⟩
    unfold out1
    rcases h with ⟨h1, rfl⟩ | ⟨h1, h2, rfl⟩
    · rw [if_pos h1]; exact List.mem_singleton.mpr rfl
    · rw [if_neg (by rw [h1]; decide), if_pos h2]; exact List.mem_singleton.mpr rfl
/-- all ends of words -/
def endsL (ws : List (List Nat)) : List (List Nat) := ws.flatMap fun w => (List.range 7).map fun n => w.drop n
theorem mem_endsL (g : WG ws) {w : List Nat} (hw : w ∈ ws) (n : Nat) : w.drop n ∈ endsL ws := by
  have h := g.ok w hw
  unfold okW at h
  simp only [Bool.and_eq_true, decide_eq_true_iff] at h
  refine List.mem_flatMap.mpr ⟨w, hw, List.mem_map.mpr ⟨min n 6, List.mem_range.mpr (by omega), ?_⟩⟩
  by_cases hn : n ≤ 6
  · rw [Nat.min_eq_left hn]
  · rw [Nat.min_eq_right (by omega), List.drop_of_length_le (by omega), List.drop_of_length_le (by omega)]
theorem endsL_len (g : WG ws) : (endsL ws).length ≤ 56 := by
  have hm := g.most
  have := flat_le (fun w : List Nat => (List.range 7).map fun n => w.drop n) 7 (fun w => by rw [List.length_map, List.length_range]; exact Nat.le_refl _) ws
  unfold endsL
  omega
theorem Rch.ends (g : WG ws) {t : List Nat} (h : Rch ws t) : t ∈ endsL ws := by
  induction h with
  | base h =>
    obtain ⟨a, ha, b, hb, _, _, rfl⟩ := mem_rowsF.mp (mem_firstL.mp h)
    exact mem_endsL g ha _
  | @step t s k _ _ h ih =>
    rcases mem_steps.mp h with ⟨_, rfl⟩ | ⟨_, _, rfl⟩
    · obtain ⟨w, hw, h2⟩ := List.mem_flatMap.mp ih
      obtain ⟨n, _, rfl⟩ := List.mem_map.mp h2
      rw [List.drop_drop]
      exact mem_endsL g hw _
    · exact mem_endsL g (List.getElem_mem k.isLt) _
theorem nodup_sub_len {α : Type} [DecidableEq α] : ∀ {xs ys : List α}, xs.Nodup → (∀ x ∈ xs, x ∈ ys) → xs.length ≤ ys.length
  | [], ys, _, _ => Nat.zero_le _
  | x :: xs, ys, h, hs => by
    have h1 := List.nodup_cons.mp h
    have hx := hs x List.mem_cons_self
    have := nodup_sub_len (xs := xs) (ys := ys.erase x) h1.2 fun y hy => (List.mem_erase_of_ne (fun z => h1.1 (by rw [← z]; exact hy))).mpr (hs y (List.mem_cons_of_mem _ hy))
    rw [List.length_erase_of_mem hx] at this
    have := List.length_pos_of_mem hx
    rw [List.length_cons]
    omega
theorem first_ne {t : List Nat} (h : t ∈ firstL ws) : t ≠ [] := by
  obtain ⟨a, ha, b, hb, h1, h2, rfl⟩ := mem_rowsF.mp (mem_firstL.mp h)
  intro z
  obtain ⟨r, hr⟩ := beg_iff.mp h2
  subst hr
  rw [List.drop_left] at z
  subst z
  exact h1 (by simp)
end Lib

set_option Elab.async false
set_option linter.all false
set_option maxRecDepth 100000
set_option maxHeartbeats 4000000
namespace Lib
open PySem RB
local macro_rules | `(tactic| simp_arith [$as,*]) => `(tactic| simp only [view, freeze, ev_seq, ev_seq1, ev_seq2, ev_seq3, ev_seq4, ev_seq5, ev_ret, ev_ret1, ev_ret2, ev_retN, ev_nil, ev_bk, ev_ct, ev_if, ev_ifT, ev_ifF, ev_ifX, ev_set, ev_set0, ev_set1, ev_set3, ev_drop, ev_drop1, ev_drop2, ev_own, ev_own0, ev_own1, ev_unp, ev_unp1, ev_unp2, ev_unp3, ev_app, ev_app0, ev_app1, ev_app2, ev_put, ev_put1, ev_put2, ev_aug, ev_aug1, ev_aug2, ev_for, ev_for0, ev_forN, ev_con, ev_var, ev_var1, ev_op2, ev_op2k, ev_op1, ev_op1k, ev_nilL, ev_consL, ev_consk, ev_tup, ev_tupk, ev_dat, ev_datk, ev_call, ev_callk, ev_callF, ev_callFk, ev_usr, ev_usrk, ev_usr0, ev_test, ev_testk, ev_b, ev_bk1, ev_isN, ev_isNk, ev_notN, ev_notNk, ev_andT, ev_andT1, ev_andT0, ev_orT, ev_orT1, ev_orT0, ev_notT, ev_notTk, ev_andE, ev_andE1, ev_andE0, ev_orE, ev_orE1, ev_orE0, ev_notE, ev_notEk, ev_ifE, ev_ifE1, ev_ifE0, ev_ch, ev_ch0, ev_ch1, ev_ch2, ev_isi, ev_isi1, ev_isi2, ev_isi3, ev_isi4, ev_isi5, ev_isi6, ev_sl, ev_slk, ev_slL, ev_slT, ev_slS, ev_par0, ev_par, ev_park, ev_seqE, ev_seqEL, ev_seqET, ev_seqES, ev_rg, ev_rgk, ev_en, ev_enL, ev_enT, ev_enS, ev_zi, ev_ziLL, ev_ziTT, ev_ziLT, ev_ziTL, ev_ziSS, ev_comp, ev_compk, v_add, v_sub, v_neg, v_eq, v_ne, v_lt, v_le, v_gt, v_ge, v_mulL, v_mulR, v_p9, v_p18, v_mod, v_div, v_int, v_lenL, v_lenT, v_lenS, v_tupL, v_tupT, v_itL, v_itT, v_ixL, v_ixT, v_sum, v_all, v_any, v_range1, v_range2, v_catT, v_catL, i_1, ev_run, ev_end1, ev_end2, ev_end3, ev_vN, ev_vC, ev_sU, ev_sD, ev_sO, ev_fN, ev_fC, ev_zU, ev_zD, ev_zO, fl1, fl2, fl3, fl4, fl5, sg0, sg1, se0, se1, t_N1, t_N2, t_N3, t_N4, t_N5, t_N6, ev_tru, ev_truL, ev_truT, ev_truB, ev_truN, ev_truI, ev_par2, ev_par2k, ev_par3, ev_par3k, v_lenX, v_catX, v_slX, v_ixX, v_eqX, v_neX, v_inX, v_ninX, v_repX, ev_seqEX, ev_isiX, t_N7, t_X1, t_X2, t_X3, t_X4, t_X5, t_X6, ev_truX, t_isInt_none, t_isInt_bool, t_isInt_int, t_isInt_str, t_isInt_tuple, t_isInt_list, t_isBool_none, t_isBool_bool, t_isBool_int, t_isBool_str, t_isBool_tuple, t_isBool_list, t_isStr_none, t_isStr_bool, t_isStr_int, t_isStr_str, t_isStr_tuple, t_isStr_list, t_isTup_none, t_isTup_bool, t_isTup_int, t_isTup_str, t_isTup_tuple, t_isTup_list, t_isLst_none, t_isLst_bool, t_isLst_int, t_isLst_str, t_isLst_tuple, t_isLst_list, t_nc0, t_nc1, t_nc2, t_nc3, t_nc4, t_nc5, t_nc6, t_nc7, t_nc8, t_nc9, t_nc10, t_nc11, t_nc12, t_nc13, t_nc14, t_nc15, t_nc16, t_nc17, t_nc18, t_nc19, t_nc20, t_nc21, t_nc22, t_nc23, t_nc24, t_nc25, t_nc26, t_nc27, t_nc28, t_nc29, t_nc30, t_nc31, t_nc32, List.map_cons, List.map_nil, List.length_cons, List.length_nil, List.cons_append, List.nil_append, List.append_nil, List.set_cons_zero, List.set_cons_succ, List.getElem?_cons_zero, List.getElem?_cons_succ, List.getElem?_nil, List.any_cons, List.any_nil, R.hard_ok, noLst, noLsts, gam0, List.replicate, wipeE, if_true, if_false, Bool.false_eq_true, Bool.true_eq_false, Bool.not_true, Bool.not_false, Bool.true_or, Bool.false_or, Bool.or_true, Bool.or_false, Bool.true_and, Bool.false_and, Bool.and_true, Bool.and_false, Bool.and_self, Bool.or_self, decide_true, decide_false, Nat.reduceBEq, Nat.reduceAdd, Nat.reduceSub, Nat.reduceLT, Int.reduceLT, Int.reduceLE, Int.reduceNeg, Int.reduceAdd, Int.reduceSub, Int.reduceMul, Nat.reduceEqDiff, Int.reduceEq, Nat.reduceLeDiff, ↓reduceIte, List.isEmpty_cons, ev_sE, ev_zE, ev_seq6, ev_end4, ev_endF1, ev_endF2, ev_runF, c_ok, c_same, c_bool, c_int, c_T, c_tup, c_lst, c_rt, c_nx, c_gam, c_da, c_ol, c_t, c_n, c_xf, c_tx, c_fx, c_xt, ↓cond_true, ↓cond_false, c_if, c_andT, c_orT, c_andE, c_orE, c_ifE, c_ch, c_seqK, c_seqK', c_endR, c_endR', c_isN, k_comp, k_comp2, k_all, k_fil, v_allM, v_anyM, v_sumM, ev_m1, ev_m1k, ev_m1k2, v_start, v_ends, v_find, v_count, ev_bad, ev_bad1, ev_many, ev_try, ev_try1, ev_try2, ev_try3, ev_try4, ev_tryM, ev_tryM1, ev_tryM2, ev_tryM3, ev_noXn1, ev_noXn2, ev_setE, ev_setEk, ev_lenK, ev_lenKk, ev_sortK, ev_sortKk, v_min2, v_max2, v_abs, ev_idx, ev_idxL, ev_idxS, ev_catE, ev_catEk, ev_rg1, v_startX, v_endsX, Bool.and_assoc, Bool.or_assoc, cond_true, cond_false, Bool.not_not, v_startB, ev_m1T, cut_to, cut_from, cut_mid, k_ixT, k_ixL, enumF, v_eqNilI, v_neNilI, v_eqNilT, v_neNilT, empty_filter, List.any_filter, List.all_filter, List.isEmpty_map, fin_eq, beg_cut, List.filter_filter, cut_to1, cut_mid1, ix0_app, head_filterT, head_filterI, v_neOT, head_filterT0, v_isB, beq_false, beq_true, beq_self_eq_true, v_eqNilT0, v_neNilT0, ev_rev2, v_revL, v_revX, ev_cL, ev_comp2, ev_comp2j, k_two, k_flat, k_flatF, flat_map, ev_retF, ev_retFk, ev_retO, ev_retOk, ev_usrF, ev_usrFk, ev_ownD, ev_ownD0, ev_empD, ev_dataD, ev_dataDk, ev_putD, ev_putD1, mark_F, mark_T, ev_popK, ev_popk, ev_extK, ev_extk, ev_forK, ev_forKk, ev_forF, ev_forFk, $as,*])
variable {ws : List (List Nat)}
/-! ### a dict as a set of texts -/
def dsT (v : D) (S : List (List Nat)) : List (D × D) := S.map fun t => (T t, v)
theorem dsT_kind (v : D) (S : List (List Nat)) : dKind (dsT v S) = (false, dsT v S) := by
  cases S <;> rfl
theorem dsT_look (v : D) (S : List (List Nat)) (t : List Nat) : dLook (dsT v S) (T t) = if t ∈ S then some v else none := by
  unfold dLook dsT
  induction S with
  | nil => rfl
  | cons s S ih =>
    rw [List.map_cons, List.find?_cons]
    have e : PyData.eqv (T s) (T t) = decide (s = t) := eqv_T s t
    simp only [e]
    by_cases h : s = t
    · subst h; simp
    · rw [decide_eq_false h]
      simp only [List.mem_cons, Ne.symm h, false_or]
      exact ih
theorem dsT_get (v : D) (S : List (List Nat)) (t : List Nat) : dGetD (.dict (dsT v S)) (T t) = .ok (if t ∈ S then some v else none) := by
  show (if keyFit (dKind (dsT v S)).1 (T t) = true then R.ok (dLook (dKind (dsT v S)).2 (T t)) else .stuck) = _
  rw [dsT_kind, dsT_look]
  exact if_pos rfl
theorem v_inDS (v : D) (S : List (List Nat)) (t : List Nat) : inDD (T t) (.dict (dsT v S)) = .ok (.bool (decide (t ∈ S))) := by
  unfold inDD
  rw [dsT_get, R.ok_bind]
  by_cases h : t ∈ S
  · rw [if_pos h, decide_eq_true h]; rfl
  · rw [if_neg h, decide_eq_false h]; rfl
theorem v_ninDS (v : D) (S : List (List Nat)) (t : List Nat) : ninDD (T t) (.dict (dsT v S)) = .ok (.bool (!decide (t ∈ S))) := by
  unfold ninDD
  rw [dsT_get, R.ok_bind]
  by_cases h : t ∈ S
  · rw [if_pos h, decide_eq_true h]; rfl
  · rw [if_neg h, decide_eq_false h]; rfl
theorem dsT_put {v : D} {S : List (List Nat)} {t : List Nat} (h : t ∉ S) : dPut (dsT v S) (T t) v = dsT v (S ++ [t]) := by
  unfold dPut
  have : ((dsT v S).any fun p => PyData.eqv p.1 (T t)) = false := by
    unfold dsT
    rw [List.any_map, List.any_eq_false]
    intro s hs z
    have : PyData.eqv (T s) (T t) = true := z
    rw [eqv_T, decide_eq_true_iff] at this
    rw [this] at hs
    exact h hs
  rw [if_neg (by rw [this]; decide)]
  unfold dsT
  rw [List.map_append]; rfl
theorem v_sortDS {v : D} {S : List (List Nat)} (hl : S.length < 64) (hok : ∀ t ∈ S, okS (S_ t)) : on1L sortDG [.dict (dsT v S)] = .ok ((srtE T S).map T) := by
  have e : (dsT v S).map (·.1) = S.map T := by unfold dsT; rw [List.map_map]; rfl
  show given_ ((dKind (dsT v S)).1 = false ∧ (dKind (dsT v S)).2.length < 64 ∧ ((∃ zs : List Str, (dKind (dsT v S)).2.map (·.1) = zs.map .str ∧ ∀ z ∈ zs, okS z) ∨ ∃ is : List Int, (dKind (dsT v S)).2.map (·.1) = is.map .int)) (.ok (sortD ((dKind (dsT v S)).2.map (·.1)))) = _
  rw [dsT_kind]
  rw [given_pos ⟨rfl, by unfold dsT; rw [List.length_map]; exact hl, .inl ⟨S.map S_, by rw [e]; exact keysT S, fun z hz => by
    obtain ⟨t, ht, rfl⟩ := List.mem_map.mp hz
    exact hok t ht⟩⟩]
  show R.ok (sortD ((dsT v S).map (·.1))) = _
  rw [e, sortD_map]
theorem ok_endsL (g : WG ws) {t : List Nat} (h : t ∈ endsL ws) : okS (S_ t) := by
  obtain ⟨w, hw, h2⟩ := List.mem_flatMap.mp h
  obtain ⟨n, _, rfl⟩ := List.mem_map.mp h2
  exact ok_tail g hw n
theorem map_pairD {n : Nat} (xs : List (Fin n × List Nat)) : xs.map pairD = xs.map fun p => PyData.tuple [.int (p.1.val : Int), T p.2] := rfl
/-- a row in order, without doubles, of what is so -/
structure Sorted (R : List (List Nat)) (P : List Nat → Prop) : Prop where
  nd : R.Nodup
  srt : R.Pairwise fun a b => leE T a b = true
  mem : ∀ t, t ∈ R ↔ P t
theorem Sorted.uniq {R Q : List (List Nat)} {P : List Nat → Prop} (h : Sorted R P) (h2 : Sorted Q P) : R = Q :=
  List.Perm.eq_of_pairwise (fun a b _ _ => ordT.anti a b) h.srt h2.srt (perm_of h.nd h2.nd fun a => by rw [h.mem, h2.mem])
theorem Sorted.of {S : List (List Nat)} {P : List Nat → Prop} (h : S.Nodup) (hm : ∀ t, t ∈ S ↔ P t) : Sorted (srtE T S) P := ⟨(srtE_perm T S).nodup_iff.mpr h, srtE_sorted ordT S, fun t => by rw [mem_srtE, hm]⟩
theorem Sorted.filter {R : List (List Nat)} {P : List Nat → Prop} (h : Sorted R P) (q : List Nat → Bool) : Sorted (R.filter q) (fun t => P t ∧ q t = true) := ⟨List.Pairwise.filter _ h.nd, List.Pairwise.filter _ h.srt, fun t => by rw [List.mem_filter, h.mem]⟩
theorem Sorted.congr {R : List (List Nat)} {P Q : List Nat → Prop} (h : Sorted R P) (e : ∀ t, P t ↔ Q t) : Sorted R Q := ⟨h.nd, h.srt, fun t => by rw [h.mem, e]⟩
/-! ### strings_reached -/
structure SRst (ws : List (List Nat)) (S W : List (List Nat)) : Prop where
  nd : S.Nodup
  s1 : ∀ t ∈ S, Rch ws t
  w1 : ∀ t ∈ W, Rch ws t
  f1 : ∀ t ∈ firstL ws, t ∈ S ∨ t ∈ W
  c1 : ∀ t ∈ S, t ≠ [] → ∀ p ∈ stepsL ws t, p.2 ∈ S ∨ p.2 ∈ W
theorem SRst.len (g : WG ws) {S W : List (List Nat)} (h : SRst ws S W) : S.length ≤ 56 := Nat.le_trans (nodup_sub_len h.nd fun t ht => (h.s1 t ht).ends g) (endsL_len g)
theorem SRst.all {S : List (List Nat)} (h : SRst ws S []) (t : List Nat) : t ∈ S ↔ Rch ws t := by
  refine ⟨h.s1 t, fun r => ?_⟩
  induction r with
  | base hb => rcases h.f1 _ hb with z | z; exact z; cases z
  | step _ hn hp ih => rcases h.c1 _ ih hn _ hp with z | z; exact z; cases z
def srZ (ws S W : List (List Nat)) (s3 s4 s5 : Sl) : Gam := [.da (.tuple (ws.map T)), .od false (dsT (.bool true) S), .ol (W.map T), s3, s4, s5]
theorem sr_seen {S W : List (List Nat)} {t : List Nat} (ht : t ∈ S) (s3 s4 s5 : Sl) : bX_strings_reached_1 (srZ ws S (W ++ [t]) s3 s4 s5) = .ok (.nx (srZ ws S W (.da (T t)) s4 s5)) := by
  simp_arith [srZ, List.map_append, bX_strings_reached_1, v_ninDS, ht]
theorem sr_nil {S W : List (List Nat)} (ht : [] ∉ S) (hS : S.length ≤ 56) (s3 s4 s5 : Sl) : bX_strings_reached_1 (srZ ws S (W ++ [[]]) s3 s4 s5) = .ok (.nx (srZ ws (S ++ [[]]) W (.da (T [])) s4 s5)) := by
  have hds : (dsT (.bool true) S).length < 16777216 := by unfold dsT; rw [List.length_map]; omega
  have kf : keyFit false (T []) = true := rfl
  have nl : noLst (.bool true) = true := rfl
  simp_arith [srZ, List.map_append, bX_strings_reached_1, v_ninDS, ht, ev_putD2 _ _ _ _ _ _ _ kf hds nl, dsT_put ht, c_nil, v_neX, eq_self]
theorem sr_go {S W : List (List Nat)} {t : List Nat} (hn : ws.length ≤ 1000) (ht : t ∉ S) (h0 : t ≠ []) (hS : S.length ≤ 56) (hW : W.length ≤ 1000) (s3 s4 s5 : Sl) : bX_strings_reached_1 (srZ ws S (W ++ [t]) s3 s4 s5) = .ok (.nx (srZ ws (S ++ [t]) (W ++ (stepsL ws t).map (·.2)) (.da (T t)) s4 s5)) := by
  have hds : (dsT (.bool true) S).length < 16777216 := by unfold dsT; rw [List.length_map]; omega
  have kf : keyFit false (T t) = true := rfl
  have nl : noLst (.bool true) = true := rfl
  have hsl := stepsL_len (ws := ws) t
  have hlen : (W.map T).length + ((stepsL ws t).map fun x => T x.2).length ≤ 16777216 := by rw [List.length_map, List.length_map]; omega
  have em : ((stepsL ws t).map (·.2)).map T = (stepsL ws t).map fun x => T x.2 := by rw [List.map_map]; rfl
  simp_arith [srZ, List.map_append, bX_strings_reached_1, v_ninDS, ht, ev_putD2 _ _ _ _ _ _ _ kf hds nl, dsT_put ht, c_nil, v_neX, h0, sx_steps hn, map_pairD, hlen, em]
theorem SRst.pop {S W : List (List Nat)} {t : List Nat} (h : SRst ws S (W ++ [t])) (ht : t ∈ S) : SRst ws S W := ⟨h.nd, h.s1, fun u hu => h.w1 u (List.mem_append_left _ hu), fun u hu => by
  rcases h.f1 u hu with z | z
  · exact .inl z
  · rcases List.mem_append.mp z with z | z
    · exact .inr z
    · rw [List.mem_singleton.mp z]; exact .inl ht, fun u hu hn p hp => by
  rcases h.c1 u hu hn p hp with z | z
  · exact .inl z
  · rcases List.mem_append.mp z with z | z
    · exact .inr z
    · rw [List.mem_singleton.mp z]; exact .inl ht⟩
theorem SRst.add {S W M : List (List Nat)} {t : List Nat} (h : SRst ws S (W ++ [t])) (ht : t ∉ S) (hM : ∀ u ∈ M, Rch ws u) (hc : t ≠ [] → ∀ p ∈ stepsL ws t, p.2 ∈ M) : SRst ws (S ++ [t]) (W ++ M) := by
  have hRt : Rch ws t := h.w1 t (List.mem_append_right _ (List.mem_singleton.mpr rfl))
  have mv : ∀ u, u ∈ S ∨ u ∈ W ++ [t] → u ∈ S ++ [t] ∨ u ∈ W ++ M := fun u hu => by
    rcases hu with z | z
    · exact .inl (List.mem_append_left _ z)
    · rcases List.mem_append.mp z with z | z
      · exact .inr (List.mem_append_left _ z)
      · exact .inl (List.mem_append_right _ z)
  refine ⟨?_, fun u hu => ?_, fun u hu => ?_, fun u hu => mv u (h.f1 u hu), fun u hu hn p hp => ?_⟩
  · rw [List.nodup_append]
    exact ⟨h.nd, by simp, fun a ha b hb z => by rw [List.mem_singleton.mp hb] at z; rw [z] at ha; exact ht ha⟩
  · rcases List.mem_append.mp hu with hu | hu
    · exact h.s1 u hu
    · rw [List.mem_singleton.mp hu]; exact hRt
  · rcases List.mem_append.mp hu with hu | hu
    · exact h.w1 u (List.mem_append_left _ hu)
    · exact hM u hu
  · rcases List.mem_append.mp hu with hu | hu
    · exact mv _ (h.c1 u hu hn p hp)
    · rw [List.mem_singleton.mp hu] at hp hn
      exact .inr (List.mem_append_right _ (hc hn p hp))
structure SRI (ws : List (List Nat)) (s : List (List Nat) × List (List Nat) × Sl × Sl × Sl) : Prop where
  st : SRst ws s.1 s.2.1
  len : s.2.1.length ≤ 64 + 8 * s.1.length
def srMu (s : List (List Nat) × List (List Nat) × Sl × Sl × Sl) : Nat := (60 - s.1.length) * 20 + s.2.1.length
theorem sr_turn (g : WG ws) (s : List (List Nat) × List (List Nat) × Sl × Sl × Sl) (h : SRI ws s) :
    (tbX_strings_reached_1 (view [2] (srZ ws s.1 s.2.1 s.2.2.1 s.2.2.2.1 s.2.2.2.2)) = .ok false) ∨ (tbX_strings_reached_1 (view [2] (srZ ws s.1 s.2.1 s.2.2.1 s.2.2.2.1 s.2.2.2.2)) = .ok true ∧ ∃ s' : List (List Nat) × List (List Nat) × Sl × Sl × Sl, bX_strings_reached_1 (srZ ws s.1 s.2.1 s.2.2.1 s.2.2.2.1 s.2.2.2.2) = .ok (.nx (srZ ws s'.1 s'.2.1 s'.2.2.1 s'.2.2.2.1 s'.2.2.2.2)) ∧ SRI ws s' ∧ srMu s' < srMu s) := by
  obtain ⟨S, W, s3, s4, s5⟩ := s
  obtain ⟨hI, hW⟩ := h
  have hm := g.most
  have hS := hI.len g
  have hW : W.length ≤ 64 + 8 * S.length := hW
  have hS : S.length ≤ 56 := hS
  rcases List.eq_nil_or_concat W with hw | ⟨W', t, hw⟩
  · refine .inl ?_
    subst hw
    simp_arith [srZ, tbX_strings_reached_1]
    rfl
  · rw [List.concat_eq_append] at hw
    subst hw
    have hI : SRst ws S (W' ++ [t]) := hI
    rw [List.length_append] at hW
    have hW : W'.length + 1 ≤ 64 + 8 * S.length := hW
    refine .inr ⟨?_, ?_⟩
    · simp only [srZ, tbX_strings_reached_1, view, freeze, ev_seq, ev_seq1, ev_seq2, ev_seq3, ev_seq4, ev_seq5, ev_ret, ev_ret1, ev_ret2, ev_retN, ev_nil, ev_bk, ev_ct, ev_if, ev_ifT, ev_ifF, ev_ifX, ev_set, ev_set0, ev_set1, ev_set3, ev_drop, ev_drop1, ev_drop2, ev_own, ev_own0, ev_own1, ev_unp, ev_unp1, ev_unp2, ev_unp3, ev_app, ev_app0, ev_app1, ev_app2, ev_put, ev_put1, ev_put2, ev_aug, ev_aug1, ev_aug2, ev_for, ev_for0, ev_forN, ev_con, ev_var, ev_var1, ev_op2, ev_op2k, ev_op1, ev_op1k, ev_nilL, ev_consL, ev_consk, ev_tup, ev_tupk, ev_dat, ev_datk, ev_call, ev_callk, ev_callF, ev_callFk, ev_usr, ev_usrk, ev_usr0, ev_test, ev_testk, ev_b, ev_bk1, ev_isN, ev_isNk, ev_notN, ev_notNk, ev_andT, ev_andT1, ev_andT0, ev_orT, ev_orT1, ev_orT0, ev_notT, ev_notTk, ev_andE, ev_andE1, ev_andE0, ev_orE, ev_orE1, ev_orE0, ev_notE, ev_notEk, ev_ifE, ev_ifE1, ev_ifE0, ev_ch, ev_ch0, ev_ch1, ev_ch2, ev_isi, ev_isi1, ev_isi2, ev_isi3, ev_isi4, ev_isi5, ev_isi6, ev_sl, ev_slk, ev_slL, ev_slT, ev_slS, ev_par0, ev_par, ev_park, ev_seqE, ev_seqEL, ev_seqET, ev_seqES, ev_rg, ev_rgk, ev_en, ev_enL, ev_enT, ev_enS, ev_zi, ev_ziLL, ev_ziTT, ev_ziLT, ev_ziTL, ev_ziSS, ev_comp, ev_compk, v_add, v_sub, v_neg, v_eq, v_ne, v_lt, v_le, v_gt, v_ge, v_mulL, v_mulR, v_p9, v_p18, v_mod, v_div, v_int, v_lenL, v_lenT, v_lenS, v_tupL, v_tupT, v_itL, v_itT, v_ixL, v_ixT, v_sum, v_all, v_any, v_range1, v_range2, v_catT, v_catL, i_1, ev_run, ev_end1, ev_end2, ev_end3, ev_vN, ev_vC, ev_sU, ev_sD, ev_sO, ev_fN, ev_fC, ev_zU, ev_zD, ev_zO, fl1, fl2, fl3, fl4, fl5, sg0, sg1, se0, se1, t_N1, t_N2, t_N3, t_N4, t_N5, t_N6, ev_tru, ev_truL, ev_truT, ev_truB, ev_truN, ev_truI, ev_par2, ev_par2k, ev_par3, ev_par3k, v_lenX, v_catX, v_slX, v_ixX, v_eqX, v_neX, v_inX, v_ninX, v_repX, ev_seqEX, ev_isiX, t_N7, t_X1, t_X2, t_X3, t_X4, t_X5, t_X6, ev_truX, t_isInt_none, t_isInt_bool, t_isInt_int, t_isInt_str, t_isInt_tuple, t_isInt_list, t_isBool_none, t_isBool_bool, t_isBool_int, t_isBool_str, t_isBool_tuple, t_isBool_list, t_isStr_none, t_isStr_bool, t_isStr_int, t_isStr_str, t_isStr_tuple, t_isStr_list, t_isTup_none, t_isTup_bool, t_isTup_int, t_isTup_str, t_isTup_tuple, t_isTup_list, t_isLst_none, t_isLst_bool, t_isLst_int, t_isLst_str, t_isLst_tuple, t_isLst_list, t_nc0, t_nc1, t_nc2, t_nc3, t_nc4, t_nc5, t_nc6, t_nc7, t_nc8, t_nc9, t_nc10, t_nc11, t_nc12, t_nc13, t_nc14, t_nc15, t_nc16, t_nc17, t_nc18, t_nc19, t_nc20, t_nc21, t_nc22, t_nc23, t_nc24, t_nc25, t_nc26, t_nc27, t_nc28, t_nc29, t_nc30, t_nc31, t_nc32, List.map_cons, List.map_nil, List.length_cons, List.length_nil, List.cons_append, List.nil_append, List.append_nil, List.set_cons_zero, List.set_cons_succ, List.getElem?_cons_zero, List.getElem?_cons_succ, List.getElem?_nil, List.any_cons, List.any_nil, R.hard_ok, noLst, noLsts, gam0, List.replicate, wipeE, if_true, if_false, Bool.false_eq_true, Bool.true_eq_false, Bool.not_true, Bool.not_false, Bool.true_or, Bool.false_or, Bool.or_true, Bool.or_false, Bool.true_and, Bool.false_and, Bool.and_true, Bool.and_false, Bool.and_self, Bool.or_self, decide_true, decide_false, Nat.reduceBEq, Nat.reduceAdd, Nat.reduceSub, Nat.reduceLT, Int.reduceLT, Int.reduceLE, Int.reduceNeg, Int.reduceAdd, Int.reduceSub, Int.reduceMul, Nat.reduceEqDiff, Int.reduceEq, Nat.reduceLeDiff, ↓reduceIte, List.isEmpty_cons, ev_sE, ev_zE, ev_seq6, ev_end4, ev_endF1, ev_endF2, ev_runF]
      simp
    · by_cases ht : t ∈ S
      · refine ⟨⟨S, W', .da (T t), s4, s5⟩, sr_seen ht _ _ _, ⟨hI.pop ht, ?_⟩, ?_⟩
        · simp only [srMu, List.length_append, List.length_singleton, List.length_map]
          omega
        · simp only [srMu, List.length_append, List.length_singleton, List.length_map]
          omega
      · have hRt : Rch ws t := hI.w1 t (List.mem_append_right _ (List.mem_singleton.mpr rfl))
        by_cases h0 : t = []
        · subst h0
          have hA := hI.add (M := []) ht (by simp) fun z => absurd rfl z
          rw [List.append_nil] at hA
          have hS' := hA.len g
          rw [List.length_append, List.length_singleton] at hS'
          refine ⟨⟨S ++ [[]], W', .da (T []), s4, s5⟩, sr_nil ht hS _ _ _, ⟨hA, ?_⟩, ?_⟩
          · simp only [srMu, List.length_append, List.length_singleton, List.length_map]
            omega
          · simp only [srMu, List.length_append, List.length_singleton, List.length_map]
            omega
        · have hA := hI.add (M := (stepsL ws t).map (·.2)) ht (fun u hu => by
            obtain ⟨p, hp, rfl⟩ := List.mem_map.mp hu
            exact .step hRt h0 (k := p.1) (s := p.2) hp) fun _ p hp => List.mem_map.mpr ⟨p, hp, rfl⟩
          have hS' := hA.len g
          rw [List.length_append, List.length_singleton] at hS'
          have hsl := stepsL_len (ws := ws) t
          refine ⟨⟨S ++ [t], W' ++ (stepsL ws t).map (·.2), .da (T t), s4, s5⟩, sr_go (by omega) ht h0 hS (by omega) _ _ _, ⟨hA, ?_⟩, ?_⟩
          · simp only [srMu, List.length_append, List.length_singleton, List.length_map]
            omega
          · simp only [srMu, List.length_append, List.length_singleton, List.length_map]
            omega
theorem firstL_len (g : WG ws) : (firstL ws).length ≤ 64 := by
  have hm := g.most
  have h1 := rowsF_len (ws := ws)
  have h2 : ws.length * ws.length ≤ 64 := Nat.mul_le_mul hm hm
  have h3 := ddup_len (rowsF ws)
  have h4 : (firstL ws).length = (ddup (rowsF ws)).length := (srtE_perm T _).length_eq
  omega
theorem sx_reached (g : WG ws) : ∃ R, Sorted R (Rch ws) ∧ R.length ≤ 56 ∧ SX_strings_reached [.tuple (ws.map T)] = .ok (.list (R.map T)) := by
  obtain ⟨⟨S, W, s3, s4, s5⟩, e, hI, hst⟩ := w_run (L := [2]) (t := tbX_strings_reached_1) (body := bX_strings_reached_1) (fun s => srZ ws s.1 s.2.1 s.2.2.1 s.2.2.2.1 s.2.2.2.2) srMu (SRI ws) (sr_turn g)
    ([], firstL ws, .un, .un, .un) ⟨⟨by simp, by simp, fun t ht => .base ht, fun t ht => .inr ht, by simp⟩, by
      have := firstL_len g
      show (firstL ws).length ≤ 64 + 8 * 0
      omega⟩
  have hW : W = [] := by
    cases W with
    | nil => rfl
    | cons w W =>
      simp only [srZ, tbX_strings_reached_1, view, freeze, ev_seq, ev_seq1, ev_seq2, ev_seq3, ev_seq4, ev_seq5, ev_ret, ev_ret1, ev_ret2, ev_retN, ev_nil, ev_bk, ev_ct, ev_if, ev_ifT, ev_ifF, ev_ifX, ev_set, ev_set0, ev_set1, ev_set3, ev_drop, ev_drop1, ev_drop2, ev_own, ev_own0, ev_own1, ev_unp, ev_unp1, ev_unp2, ev_unp3, ev_app, ev_app0, ev_app1, ev_app2, ev_put, ev_put1, ev_put2, ev_aug, ev_aug1, ev_aug2, ev_for, ev_for0, ev_forN, ev_con, ev_var, ev_var1, ev_op2, ev_op2k, ev_op1, ev_op1k, ev_nilL, ev_consL, ev_consk, ev_tup, ev_tupk, ev_dat, ev_datk, ev_call, ev_callk, ev_callF, ev_callFk, ev_usr, ev_usrk, ev_usr0, ev_test, ev_testk, ev_b, ev_bk1, ev_isN, ev_isNk, ev_notN, ev_notNk, ev_andT, ev_andT1, ev_andT0, ev_orT, ev_orT1, ev_orT0, ev_notT, ev_notTk, ev_andE, ev_andE1, ev_andE0, ev_orE, ev_orE1, ev_orE0, ev_notE, ev_notEk, ev_ifE, ev_ifE1, ev_ifE0, ev_ch, ev_ch0, ev_ch1, ev_ch2, ev_isi, ev_isi1, ev_isi2, ev_isi3, ev_isi4, ev_isi5, ev_isi6, ev_sl, ev_slk, ev_slL, ev_slT, ev_slS, ev_par0, ev_par, ev_park, ev_seqE, ev_seqEL, ev_seqET, ev_seqES, ev_rg, ev_rgk, ev_en, ev_enL, ev_enT, ev_enS, ev_zi, ev_ziLL, ev_ziTT, ev_ziLT, ev_ziTL, ev_ziSS, ev_comp, ev_compk, v_add, v_sub, v_neg, v_eq, v_ne, v_lt, v_le, v_gt, v_ge, v_mulL, v_mulR, v_p9, v_p18, v_mod, v_div, v_int, v_lenL, v_lenT, v_lenS, v_tupL, v_tupT, v_itL, v_itT, v_ixL, v_ixT, v_sum, v_all, v_any, v_range1, v_range2, v_catT, v_catL, i_1, ev_run, ev_end1, ev_end2, ev_end3, ev_vN, ev_vC, ev_sU, ev_sD, ev_sO, ev_fN, ev_fC, ev_zU, ev_zD, ev_zO, fl1, fl2, fl3, fl4, fl5, sg0, sg1, se0, se1, t_N1, t_N2, t_N3, t_N4, t_N5, t_N6, ev_tru, ev_truL, ev_truT, ev_truB, ev_truN, ev_truI, ev_par2, ev_par2k, ev_par3, ev_par3k, v_lenX, v_catX, v_slX, v_ixX, v_eqX, v_neX, v_inX, v_ninX, v_repX, ev_seqEX, ev_isiX, t_N7, t_X1, t_X2, t_X3, t_X4, t_X5, t_X6, ev_truX, t_isInt_none, t_isInt_bool, t_isInt_int, t_isInt_str, t_isInt_tuple, t_isInt_list, t_isBool_none, t_isBool_bool, t_isBool_int, t_isBool_str, t_isBool_tuple, t_isBool_list, t_isStr_none, t_isStr_bool, t_isStr_int, t_isStr_str, t_isStr_tuple, t_isStr_list, t_isTup_none, t_isTup_bool, t_isTup_int, t_isTup_str, t_isTup_tuple, t_isTup_list, t_isLst_none, t_isLst_bool, t_isLst_int, t_isLst_str, t_isLst_tuple, t_isLst_list, t_nc0, t_nc1, t_nc2, t_nc3, t_nc4, t_nc5, t_nc6, t_nc7, t_nc8, t_nc9, t_nc10, t_nc11, t_nc12, t_nc13, t_nc14, t_nc15, t_nc16, t_nc17, t_nc18, t_nc19, t_nc20, t_nc21, t_nc22, t_nc23, t_nc24, t_nc25, t_nc26, t_nc27, t_nc28, t_nc29, t_nc30, t_nc31, t_nc32, List.map_cons, List.map_nil, List.length_cons, List.length_nil, List.cons_append, List.nil_append, List.append_nil, List.set_cons_zero, List.set_cons_succ, List.getElem?_cons_zero, List.getElem?_cons_succ, List.getElem?_nil, List.any_cons, List.any_nil, R.hard_ok, noLst, noLsts, gam0, List.replicate, wipeE, if_true, if_false, Bool.false_eq_true, Bool.true_eq_false, Bool.not_true, Bool.not_false, Bool.true_or, Bool.false_or, Bool.or_true, Bool.or_false, Bool.true_and, Bool.false_and, Bool.and_true, Bool.and_false, Bool.and_self, Bool.or_self, decide_true, decide_false, Nat.reduceBEq, Nat.reduceAdd, Nat.reduceSub, Nat.reduceLT, Int.reduceLT, Int.reduceLE, Int.reduceNeg, Int.reduceAdd, Int.reduceSub, Int.reduceMul, Nat.reduceEqDiff, Int.reduceEq, Nat.reduceLeDiff, ↓reduceIte, List.isEmpty_cons, ev_sE, ev_zE, ev_seq6, ev_end4, ev_endF1, ev_endF2, ev_runF] at hst
      cases hst
  subst hW
  have hI1 : SRst ws S [] := hI.st
  have hS := hI1.len g
  refine ⟨srtE T S, .of hI1.nd hI1.all, by rw [(srtE_perm T S).length_eq]; exact hS, ?_⟩
  have e : whileS [2] tbX_strings_reached_1 bX_strings_reached_1 [.da (.tuple (ws.map T)), .od false [], .ol ((firstL ws).map T), .un, .un, .un] = .ok (.nx [.da (.tuple (ws.map T)), .od false (dsT (.bool true) S), .ol [], s3, s4, s5]) := e
  have hs := v_sortDS (v := .bool true) (S := S) (by omega) fun t ht => ok_endsL g ((hI1.s1 t ht).ends g)
  simp_arith [SX_strings_reached, gX_strings_reached, fx_first g, e, hs]
end Lib

set_option Elab.async false
set_option linter.all false
set_option maxRecDepth 100000
set_option maxHeartbeats 4000000
set_option pp.maxSteps 600
namespace RB
open PySem PySem.Spec PyProof.Rows L2
/-! ### o.count(e), o a text or a list -/
def cntD : D → D → R D
  | .str z, .str y => .ok (.int (Txt.count z y))
  | .list ds, d => if cmpOk (.list ds) = true ∧ cmpOk d = true then .ok (.int (ds.countP fun z => PyData.eqv z d : Nat)) else .stuck
  | _, _ => .stuck
def cntE (fo fe : Env → R D) : Env → R D := fun ε => fo ε >>= fun x => (recvD x).hard >>= fun x => fe ε >>= fun y => (cntD x y).hard
section
variable {X : Cx} {W : WX} {o e : Expr} {fo fe : Env → R D} {apos cpos : Pos}
def rCountD (K : PySem.W.Frag) : V → List V → Hp → VK → Prop := fun x xs H Q => ∃ (a : Addr) (y : V) (d : PyData) (ds : List PyData), x = V.ref a ∧ xs = [y] ∧ Dp K H (V.ref a) (.list ds) ∧ Dp K H y d ∧
  SeqAt.shaped (.list ds) = true ∧ SeqAt.shaped d = true ∧ Q (.int (ds.countP fun z => PyData.eqv z d : Nat)) H
theorem mt_countDD (hu : X.A.units + 65 < cLine) : MtR X "list.count" (rCountD X.K) := by
  intro pins s σ H x xs v us Q I rx rxs h
  obtain ⟨a, y, d, ds, rfl, rfl, hl, hy, sl, sd, q⟩ := h
  cases rx
  cases rxs with
  | cons ry rt =>
    rename_i uy ut
    cases rt
    obtain ⟨bs, r1⟩ := Dp.reads I d y uy hy ry
    have hxs : PyData.canLayAll0 ds = true := SeqAt.canLay_of_shaped sl
    have hroom : X.A.units + 1 + min (PyData.depthAll ds) d.depth < cLine := room_in_shaped sd hu
    cases hl with
    | lst hs ha =>
      obtain ⟨its, rv, ⟨⟨cls, dd, data, sls⟩, n, ho, hc, hdn, hdt⟩, hlen⟩ := I.list hs
      simp only at hc hdt
      subst hc hdt
      obtain ⟨as, h4⟩ := Dp.readsAll I ds _ its ha rv
      have hmap : its.map (SeqAt.readOf s.heap) = ds := SeqAt.readsAll_map ds its as hxs h4
      have hcnt : its.toArray.toList.countP (fun u => PyData.eqv (SeqAt.readOf s.heap u) d) = ds.countP fun z => PyData.eqv z d := by
        rw [← hmap, List.countP_map]; rfl
      refine call_meets PySem.F.slot_list_count ⟨_, ho, rfl⟩ PySem.F.entry_list_count (PySem.F.args_list_count_2 _ _)
        (SeqAt.list_countAt a its.toArray n dd sls uy (fun u => PyData.eqv (SeqAt.readOf s.heap u) d)) ⟨ho, SeqAt.items_eqAt (vs := its.toArray) (show ReadsAll s.heap its.toArray.toList ds as from h4) r1 hxs (SeqAt.canLay_of_shaped sd) hroom, ?_⟩
      rw [hcnt]
      exact ⟨.int (ds.countP fun z => PyData.eqv z d : Nat), H, I.tok _, ⟨_, rfl⟩, q⟩
theorem ex_count2 (hu : X.A.units + 66 < cLine) (tk : Takes X W) (ho : Ex X W o fo) (he : Ex X W e fe) (hc : X.calm = true := by rfl)
    (hbase : attributeBase o "count" X.env (eval o X.env) = eval o X.env := by rfl)
    (hfew : ((backTo cpos (starEach [e] X.env)).all (fun x => !x.1) && (backToKw cpos (keywordEach [] X.env)).all (fun x => x.1.isSome)
      && decide ([e].length + ([] : List Keyword).length + (if ([] : List Keyword).isEmpty then 0 else 1) < 30)) = true := by rfl)
    (hline : (apos.endLine == cpos.line) = true := by rfl) (hs : starEach [e] X.env = (false, eval e X.env) :: starEach [] X.env := by rfl) (hplain : (backTo cpos (starEach [] X.env)).any (·.1) = false := by rfl) :
    Ex X W (.Call (.Attribute o "count" apos) [e] [] cpos) (cntE fo fe) := by
  refine ⟨fun pins s σ H Q I ⟨ε, F, re, q⟩ => ?_⟩
  have ho' := ho.run pins s σ H (fun x H1 => ∃ dx F1, Grow H F H1 F1 ∧ Den X.K H1 F1 x dx ∧ ((recvD dx).hard >>= fun x => fe ε >>= fun y => (cntD x y).hard).wp (fun d => ∀ v H' F', Grow H F H' F' → Den X.K H' F' v d → Q v H')
      fun e => ∀ cls x H' F', Grow H F H' F' → ExnOf X.mg e cls x H' → W cls x σ H') I
    ⟨ε, F, re, R.wp_mono (R.wp_bind q) (fun dx k v H1 F1 g1 d1 => ⟨dx, F1, g1, d1, k⟩) fun e k => k⟩
  refine wpAny_Call_method_late hbase hfew hline rfl (thn ho' fun v s1 ⟨x, H1, I1, r1, dx, F1, g1, d1, k⟩ => ?_)
  have he' : ∀ {Q' : VK}, (fe ε).wp (fun d => ∀ v H' F', Grow H1 F1 H' F' → Den X.K H' F' v d → Q' v H') (fun e => ∀ cls x H' F', Grow H1 F1 H' F' → ExnOf X.mg e cls x H' → W cls x σ H') → _ := fun {Q'} z => (pa_cons he pa_nil hs : PA X [e] (tCons (tE X.K X.mg W fe) tNil)).run cpos pins s1 σ H1 (fun vs H2 => ∃ y, vs = [y] ∧ Q' y H2) I1 (show tE X.K X.mg W fe σ H1 (fun y H2 => ∃ y', [y] = [y'] ∧ Q' y' H2) from ⟨ε, F1, re.grow g1, R.wp_mono z (fun d k v H' F' g hd => ⟨v, rfl, k v H' F' g hd⟩) fun e k => k⟩)
  cases d1 with
  | str z hz =>
    have k : (fe ε >>= fun y => (cntD (.str z) y).hard).wp _ _ := k
    obtain ⟨h1, h2⟩ := tyV_is I1 r1 (show tyV X.K "str" (.str z) H1 from rfl)
    refine ⟨"str", "str.count", PySem.F.plainAttrs_str, PySem.F.slot_str_count, PySem.F.type_str_count, h1, h2, ?_⟩
    have hA := he' (Q' := fun y H2 => ∃ dy F2, Grow H1 F1 H2 F2 ∧ Den X.K H2 F2 y dy ∧ (cntD (.str z) dy).hard.wp (fun d => ∀ v H' F', Grow H F H' F' → Den X.K H' F' v d → Q v H') (fun _ => False))
      (R.wp_mono (R.wp_bind k) (fun dy k w H2 F2 g2 d2 => ⟨dy, F2, g2, d2, by
        cases q : cntD (.str z) dy with
        | ok d => rw [q] at k; exact k
        | exn _ => rw [q] at k; exact k.elim
        | stuck => rw [q] at k; exact k.elim⟩) (fun e k cls x H' F' g => k cls x H' F' (g1.trans g)))
    rw [hs] at hA ⊢
    refine Calls.callWith_builtin (by show (false || (backTo cpos (starEach [] X.env)).any (·.1)) = false; rw [hplain] <;> rfl) (Calls.evalArgs_plain ?_)
    refine thn hA fun us s2 ⟨vs, H2, I2, r2, y, ev, dy, F2, g2, d2, k2⟩ => ?_
    subst ev
    refine mt_count pins s2 σ H2 (.str z) [y] v us Q I2 r1 r2 ?_
    cases d2 with
    | str b hb => exact ⟨z, b, rfl, rfl, k2 _ H2 F2 (g1.trans g2) (.int _)⟩
    | _ => exact k2.elim
  | @lst a vs ds l1 l2 l3 =>
    have k : (fe ε >>= fun y => (cntD (.list ds) y).hard).wp _ _ := k
    obtain ⟨h1, h2⟩ := tyV_is I1 r1 (show tyV X.K "list" (.ref a) H1 from .inl ⟨rfl, vs, l1.sql⟩)
    refine ⟨"list", "list.count", PySem.F.plainAttrs_list, PySem.F.slot_list_count, PySem.F.type_list_count, h1, h2, ?_⟩
    have hA := he' (Q' := fun y H2 => ∃ dy F2, Grow H1 F1 H2 F2 ∧ Den X.K H2 F2 y dy ∧ (cntD (.list ds) dy).hard.wp (fun d => ∀ v H' F', Grow H F H' F' → Den X.K H' F' v d → Q v H') (fun _ => False))
      (R.wp_mono (R.wp_bind k) (fun dy k w H2 F2 g2 d2 => ⟨dy, F2, g2, d2, by
        cases q : cntD (.list ds) dy with
        | ok d => rw [q] at k; exact k
        | exn _ => rw [q] at k; exact k.elim
        | stuck => rw [q] at k; exact k.elim⟩) (fun e k cls x H' F' g => k cls x H' F' (g1.trans g)))
    rw [hs] at hA ⊢
    refine Calls.callWith_builtin (by show (false || (backTo cpos (starEach [] X.env)).any (·.1)) = false; rw [hplain] <;> rfl) (Calls.evalArgs_plain ?_)
    refine thn hA fun us s2 ⟨vs2, H2, I2, r2, y, ev, dy, F2, g2, d2, k2⟩ => ?_
    subst ev
    refine mt_countDD (by omega) pins s2 σ H2 (.ref a) [y] v us Q I2 r1 r2 ?_
    have k2 : (if cmpOk (.list ds) = true ∧ cmpOk dy = true then R.ok (PyData.int (ds.countP fun z => PyData.eqv z dy : Nat)) else .stuck).hard.wp (fun d => ∀ v H' F', Grow H F H' F' → Den X.K H' F' v d → Q v H') (fun _ => False) := k2
    by_cases c : cmpOk (.list ds) = true ∧ cmpOk dy = true
    · rw [if_pos c] at k2
      have dl := (Den.lst l1 l2 l3 : Den X.K H1 F1 (.ref a) (.list ds)).grow g2
      obtain ⟨p1, p2⟩ := cmp_of dl c.1
      obtain ⟨p3, p4⟩ := cmp_of d2 c.2
      exact ⟨a, y, dy, ds, rfl, rfl, p1, p3, p2, p4, k2 _ H2 F2 (g1.trans g2) (.int _)⟩
    · rw [if_neg c] at k2
      exact k2.elim
  | _ => exact k.elim
end
/-! ### how it is worked out -/
def cntK (x : R D) (f : Env → R D) (ε : Env) : R D := x >>= fun x => (recvD x).hard >>= fun x => f ε >>= fun y => (cntD x y).hard
theorem ev_cnt (fo fe : Env → R D) (ε : Env) : cntE fo fe ε = cntK (fo ε) fe ε := Eq.trans rfl rfl
theorem ev_cntL (ds : List D) (f : Env → R D) (ε : Env) : cntK (.ok (.list ds)) f ε = op2K cntD (.ok (.list ds)) (f ε) := Eq.trans rfl rfl
theorem ev_cntS (z : Str) (f : Env → R D) (ε : Env) : cntK (.ok (.str z)) f ε = op2K cntD (.ok (.str z)) (f ε) := Eq.trans rfl rfl
theorem v_cntL {α : Type} [DecidableEq α] {f : α → List Nat} (xs : List α) (t : List Nat) : cntD (.list (xs.map fun x => T (f x))) (T t) = .ok (.int ((xs.countP fun x => decide (f x = t) : Nat) : Int)) := by
  have c : cmpOk (.list (xs.map fun x => T (f x))) = true ∧ cmpOk (T t) = true := by
    have := cmp_lst (Lib.good_Ts (xs.map f))
    rw [List.map_map] at this
    exact ⟨this, cmp_good (good_T t)⟩
  show (if cmpOk (.list (xs.map fun x => T (f x))) = true ∧ cmpOk (T t) = true then R.ok (PyData.int ((xs.map fun x => T (f x)).countP fun z => PyData.eqv z (T t) : Nat)) else .stuck) = _
  rw [if_pos c, List.countP_map]
  have e : ((fun z => PyData.eqv z (T t)) ∘ fun x => T (f x)) = fun x => decide (f x = t) := funext fun x => by
    show PyData.eqv (T (f x)) (T t) = _
    exact eqv_T _ _
  rw [e]
end RB

set_option Elab.async false
set_option linter.all false
set_option maxRecDepth 100000
set_option maxHeartbeats 4000000
namespace Lib
open PySem RB
local macro_rules | `(tactic| simp_arith [$as,*]) => `(tactic| simp only [view, freeze, ev_seq, ev_seq1, ev_seq2, ev_seq3, ev_seq4, ev_seq5, ev_ret, ev_ret1, ev_ret2, ev_retN, ev_nil, ev_bk, ev_ct, ev_if, ev_ifT, ev_ifF, ev_ifX, ev_set, ev_set0, ev_set1, ev_set3, ev_drop, ev_drop1, ev_drop2, ev_own, ev_own0, ev_own1, ev_unp, ev_unp1, ev_unp2, ev_unp3, ev_app, ev_app0, ev_app1, ev_app2, ev_put, ev_put1, ev_put2, ev_aug, ev_aug1, ev_aug2, ev_for, ev_for0, ev_forN, ev_con, ev_var, ev_var1, ev_op2, ev_op2k, ev_op1, ev_op1k, ev_nilL, ev_consL, ev_consk, ev_tup, ev_tupk, ev_dat, ev_datk, ev_call, ev_callk, ev_callF, ev_callFk, ev_usr, ev_usrk, ev_usr0, ev_test, ev_testk, ev_b, ev_bk1, ev_isN, ev_isNk, ev_notN, ev_notNk, ev_andT, ev_andT1, ev_andT0, ev_orT, ev_orT1, ev_orT0, ev_notT, ev_notTk, ev_andE, ev_andE1, ev_andE0, ev_orE, ev_orE1, ev_orE0, ev_notE, ev_notEk, ev_ifE, ev_ifE1, ev_ifE0, ev_ch, ev_ch0, ev_ch1, ev_ch2, ev_isi, ev_isi1, ev_isi2, ev_isi3, ev_isi4, ev_isi5, ev_isi6, ev_sl, ev_slk, ev_slL, ev_slT, ev_slS, ev_par0, ev_par, ev_park, ev_seqE, ev_seqEL, ev_seqET, ev_seqES, ev_rg, ev_rgk, ev_en, ev_enL, ev_enT, ev_enS, ev_zi, ev_ziLL, ev_ziTT, ev_ziLT, ev_ziTL, ev_ziSS, ev_comp, ev_compk, v_add, v_sub, v_neg, v_eq, v_ne, v_lt, v_le, v_gt, v_ge, v_mulL, v_mulR, v_p9, v_p18, v_mod, v_div, v_int, v_lenL, v_lenT, v_lenS, v_tupL, v_tupT, v_itL, v_itT, v_ixL, v_ixT, v_sum, v_all, v_any, v_range1, v_range2, v_catT, v_catL, i_1, ev_run, ev_end1, ev_end2, ev_end3, ev_vN, ev_vC, ev_sU, ev_sD, ev_sO, ev_fN, ev_fC, ev_zU, ev_zD, ev_zO, fl1, fl2, fl3, fl4, fl5, sg0, sg1, se0, se1, t_N1, t_N2, t_N3, t_N4, t_N5, t_N6, ev_tru, ev_truL, ev_truT, ev_truB, ev_truN, ev_truI, ev_par2, ev_par2k, ev_par3, ev_par3k, v_lenX, v_catX, v_slX, v_ixX, v_eqX, v_neX, v_inX, v_ninX, v_repX, ev_seqEX, ev_isiX, t_N7, t_X1, t_X2, t_X3, t_X4, t_X5, t_X6, ev_truX, t_isInt_none, t_isInt_bool, t_isInt_int, t_isInt_str, t_isInt_tuple, t_isInt_list, t_isBool_none, t_isBool_bool, t_isBool_int, t_isBool_str, t_isBool_tuple, t_isBool_list, t_isStr_none, t_isStr_bool, t_isStr_int, t_isStr_str, t_isStr_tuple, t_isStr_list, t_isTup_none, t_isTup_bool, t_isTup_int, t_isTup_str, t_isTup_tuple, t_isTup_list, t_isLst_none, t_isLst_bool, t_isLst_int, t_isLst_str, t_isLst_tuple, t_isLst_list, t_nc0, t_nc1, t_nc2, t_nc3, t_nc4, t_nc5, t_nc6, t_nc7, t_nc8, t_nc9, t_nc10, t_nc11, t_nc12, t_nc13, t_nc14, t_nc15, t_nc16, t_nc17, t_nc18, t_nc19, t_nc20, t_nc21, t_nc22, t_nc23, t_nc24, t_nc25, t_nc26, t_nc27, t_nc28, t_nc29, t_nc30, t_nc31, t_nc32, List.map_cons, List.map_nil, List.length_cons, List.length_nil, List.cons_append, List.nil_append, List.append_nil, List.set_cons_zero, List.set_cons_succ, List.getElem?_cons_zero, List.getElem?_cons_succ, List.getElem?_nil, List.any_cons, List.any_nil, R.hard_ok, noLst, noLsts, gam0, List.replicate, wipeE, if_true, if_false, Bool.false_eq_true, Bool.true_eq_false, Bool.not_true, Bool.not_false, Bool.true_or, Bool.false_or, Bool.or_true, Bool.or_false, Bool.true_and, Bool.false_and, Bool.and_true, Bool.and_false, Bool.and_self, Bool.or_self, decide_true, decide_false, Nat.reduceBEq, Nat.reduceAdd, Nat.reduceSub, Nat.reduceLT, Int.reduceLT, Int.reduceLE, Int.reduceNeg, Int.reduceAdd, Int.reduceSub, Int.reduceMul, Nat.reduceEqDiff, Int.reduceEq, Nat.reduceLeDiff, ↓reduceIte, List.isEmpty_cons, ev_sE, ev_zE, ev_seq6, ev_end4, ev_endF1, ev_endF2, ev_runF, c_ok, c_same, c_bool, c_int, c_T, c_tup, c_lst, c_rt, c_nx, c_gam, c_da, c_ol, c_t, c_n, c_xf, c_tx, c_fx, c_xt, ↓cond_true, ↓cond_false, c_if, c_andT, c_orT, c_andE, c_orE, c_ifE, c_ch, c_seqK, c_seqK', c_endR, c_endR', c_isN, k_comp, k_comp2, k_all, k_fil, v_allM, v_anyM, v_sumM, ev_m1, ev_m1k, ev_m1k2, v_start, v_ends, v_find, v_count, ev_bad, ev_bad1, ev_many, ev_try, ev_try1, ev_try2, ev_try3, ev_try4, ev_tryM, ev_tryM1, ev_tryM2, ev_tryM3, ev_noXn1, ev_noXn2, ev_setE, ev_setEk, ev_lenK, ev_lenKk, ev_sortK, ev_sortKk, v_min2, v_max2, v_abs, ev_idx, ev_idxL, ev_idxS, ev_catE, ev_catEk, ev_rg1, v_startX, v_endsX, Bool.and_assoc, Bool.or_assoc, cond_true, cond_false, Bool.not_not, v_startB, ev_m1T, cut_to, cut_from, cut_mid, k_ixT, k_ixL, enumF, v_eqNilI, v_neNilI, v_eqNilT, v_neNilT, empty_filter, List.any_filter, List.all_filter, List.isEmpty_map, fin_eq, beg_cut, List.filter_filter, cut_to1, cut_mid1, ix0_app, head_filterT, head_filterI, v_neOT, head_filterT0, v_isB, beq_false, beq_true, beq_self_eq_true, v_eqNilT0, v_neNilT0, ev_rev2, v_revL, v_revX, ev_cL, ev_comp2, ev_comp2j, k_two, k_flat, k_flatF, flat_map, ev_retF, ev_retFk, ev_retO, ev_retOk, ev_usrF, ev_usrFk, ev_ownD, ev_ownD0, ev_empD, ev_dataD, ev_dataDk, ev_putD, ev_putD1, mark_F, mark_T, ev_popK, ev_popk, ev_extK, ev_extk, ev_forK, ev_forKk, ev_forF, ev_forFk, $as,*])
variable {ws : List (List Nat)}
theorem v_pair0 {n : Nat} (p : Fin n × List Nat) : ixD (pairD p) (.int 0) = .ok (.int (p.1.val : Int)) := Eq.trans rfl rfl
theorem v_pair1 {n : Nat} (p : Fin n × List Nat) : ixD (pairD p) (.int 1) = .ok (T p.2) := Eq.trans rfl rfl
theorem noLst_pairs {n : Nat} : ∀ xs : List (Fin n × List Nat), noLsts (xs.map pairD) = true
  | [] => rfl
  | x :: xs => by
    show (noLst (pairD x) && noLsts (xs.map pairD)) = true
    rw [noLst_pairs xs]; rfl
/-! ### the law's own tails -/
def addN (L : List (List Nat)) (s : List Nat) : List (List Nat) := if s = [] then L else addU L s
theorem addN_mem (L : List (List Nat)) (s u : List Nat) : u ∈ addN L s ↔ u ∈ L ∨ (u = s ∧ u ≠ []) := by
  unfold addN addU
  by_cases h : s = []
  · rw [if_pos h]
    constructor
    · exact .inl
    · rintro (z | ⟨z, z2⟩)
      · exact z
      · exact absurd (z.trans h) z2
  · rw [if_neg h]
    by_cases h2 : s ∈ L
    · rw [if_pos h2]
      constructor
      · exact .inl
      · rintro (z | ⟨z, _⟩)
        · exact z
        · rw [z]; exact h2
    · rw [if_neg h2, List.mem_append, List.mem_singleton]
      constructor
      · rintro (z | z)
        · exact .inl z
        · exact .inr ⟨z, by rw [z]; exact h⟩
      · rintro (z | ⟨z, _⟩)
        · exact .inl z
        · exact .inr z
theorem addN_app (L : List (List Nat)) (s : List Nat) : ∃ X, addN L s = L ++ X ∧ X.length ≤ 1 := by
  unfold addN addU
  split
  · exact ⟨[], by simp, by simp⟩
  · split
    · exact ⟨[], by simp, by simp⟩
    · exact ⟨[s], rfl, Nat.le_refl _⟩
theorem addN_nd {L : List (List Nat)} (s : List Nat) (h : L.Nodup) : (addN L s).Nodup := by
  unfold addN addU
  split
  · exact h
  · split
    · exact h
    · rename_i h2
      rw [List.nodup_append]
      exact ⟨h, by simp, fun a ha b hb z => by rw [List.mem_singleton.mp hb] at z; rw [z] at ha; exact h2 ha⟩
theorem foldN_mem (u : List Nat) : ∀ (M L : List (List Nat)), u ∈ M.foldl addN L ↔ u ∈ L ∨ (u ∈ M ∧ u ≠ [])
  | [], L => by simp
  | s :: M, L => by
    rw [List.foldl_cons, foldN_mem u M, addN_mem, List.mem_cons]
    constructor
    · rintro ((z | ⟨z, z2⟩) | ⟨z, z2⟩)
      · exact .inl z
      · exact .inr ⟨.inl z, z2⟩
      · exact .inr ⟨.inr z, z2⟩
    · rintro (z | ⟨z | z, z2⟩)
      · exact .inl (.inl z)
      · exact .inl (.inr ⟨z, z2⟩)
      · exact .inr ⟨z, z2⟩
theorem foldN_app : ∀ (M L : List (List Nat)), ∃ X, M.foldl addN L = L ++ X ∧ X.length ≤ M.length
  | [], L => ⟨[], by simp, by simp⟩
  | s :: M, L => by
    obtain ⟨X, e, h⟩ := addN_app L s
    obtain ⟨Y, e2, h2⟩ := foldN_app M (addN L s)
    refine ⟨X ++ Y, ?_, by rw [List.length_append, List.length_cons]; omega⟩
    rw [List.foldl_cons, e2, e, List.append_assoc]
theorem foldN_nd : ∀ (M : List (List Nat)) {L : List (List Nat)}, L.Nodup → (M.foldl addN L).Nodup
  | [], _, h => h
  | s :: M, L, h => by rw [List.foldl_cons]; exact foldN_nd M (addN_nd s h)
theorem flat_one {α β : Type} (f : α → β) : ∀ xs : List α, (xs.flatMap fun x => [f x]) = xs.map f
  | [] => rfl
  | x :: xs => by rw [List.flatMap_cons, flat_one f xs]; rfl
theorem tails_row (L0 : List (List Nat)) (hL : L0.length ≤ 100) (k : Int) (xs : List (Fin ws.length × List Nat)) (hx : xs.length ≤ 100) (s3 : Sl) : ∃ s3', forL (.nm 3) bX__law_tails_1 (xs.map pairD) [.da (.tuple (ws.map T)), .ol (L0.map T), .da (.int k), s3] = .ok (.nx [.da (.tuple (ws.map T)), .ol (((xs.map (·.2)).foldl addN L0).map T), .da (.int k), s3']) := by
  obtain ⟨Γ', e, hl, s3', rfl⟩ := f_acc (enc := pairD (n := ws.length)) (i := 3) (body := bX__law_tails_1) (fun m (ys : List (List Nat)) Γ => ys.length ≤ m ∧ ∃ s3, Γ = [.da (.tuple (ws.map T)), .ol ((ys.foldl addN L0).map T), .da (.int k), s3]) (fun p => [p.2]) xs 0 (fun p _ m ys Γ hm ⟨hy, s3, eΓ⟩ => by
      subst eΓ
      obtain ⟨X, eX, hX⟩ := foldN_app ys L0
      have hlt : ((ys.foldl addN L0).map T).length < 16777216 := by rw [List.length_map, eX, List.length_append]; omega
      refine ⟨[.da (.tuple (ws.map T)), .ol (((ys ++ [p.2]).foldl addN L0).map T), .da (.int k), .da (pairD p)], ?_, by rw [List.length_append]; show ys.length + 1 ≤ _; omega, _, rfl⟩
      rw [List.foldl_append, List.foldl_cons, List.foldl_nil]
      generalize ys.foldl addN L0 = L at hlt
      unfold addN addU
      by_cases h1 : p.2 = []
      · rw [if_pos h1]
        simp_arith [bX__law_tails_1, v_pair1, c_nil, v_neX, h1, eq_self]
      · rw [if_neg h1]
        by_cases h2 : p.2 ∈ L
        · rw [if_pos h2]
          simp_arith [bX__law_tails_1, v_pair1, c_nil, v_neX, h1, v_ninTL, h2]
        · rw [if_neg h2, List.map_append]
          simp_arith [bX__law_tails_1, v_pair1, c_nil, v_neX, h1, v_ninTL, h2, hlt, List.map_cons, List.map_nil])
    [] [.da (.tuple (ws.map T)), .ol (L0.map T), .da (.int k), s3] ⟨Nat.le_refl _, _, rfl⟩
  rw [List.nil_append, flat_one] at e
  exact ⟨s3', e⟩
structure LTi (ws : List (List Nat)) (L : List (List Nat)) (k : Nat) : Prop where
  nd : L.Nodup
  r1 : ∀ t ∈ L, Rch ws t ∧ t ≠ []
  f1 : ∀ t ∈ firstL ws, t ∈ L
  c1 : ∀ t ∈ L.take k, ∀ p ∈ stepsL ws t, p.2 ≠ [] → p.2 ∈ L
  le : k ≤ L.length
theorem LTi.len (g : WG ws) {L : List (List Nat)} {k : Nat} (h : LTi ws L k) : L.length ≤ 56 := Nat.le_trans (nodup_sub_len h.nd fun t ht => (h.r1 t ht).1.ends g) (endsL_len g)
theorem LTi.all {L : List (List Nat)} {k : Nat} (h : LTi ws L k) (hk : L.length ≤ k) (t : List Nat) : t ∈ L ↔ Rch ws t ∧ t ≠ [] := by
  refine ⟨h.r1 t, fun ⟨r, hn⟩ => ?_⟩
  have ht : L.take k = L := List.take_of_length_le hk
  have hc := h.c1
  rw [ht] at hc
  induction r with
  | base hb => exact h.f1 _ hb
  | step hr hn' hp ih => exact hc _ (ih ⟨hr, hn'⟩ hn') _ hp hn
theorem LTi.next {L : List (List Nat)} {k : Nat} (h : LTi ws L k) (hk : k < L.length) : LTi ws (((stepsL ws L[k]).map (·.2)).foldl addN L) (k + 1) := by
  obtain ⟨X, e, _⟩ := foldN_app ((stepsL ws L[k]).map (·.2)) L
  have ht := h.r1 _ (List.getElem_mem hk)
  refine ⟨foldN_nd _ h.nd, fun t h1 => ?_, fun t h1 => (foldN_mem _ _ _).mpr (.inl (h.f1 t h1)), fun t h1 p hp hn => ?_, ?_⟩
  · rcases (foldN_mem _ _ _).mp h1 with z | ⟨z, z2⟩
    · exact h.r1 t z
    · obtain ⟨q, hq, rfl⟩ := List.mem_map.mp z
      exact ⟨.step ht.1 ht.2 (k := q.1) (s := q.2) hq, z2⟩
  · rw [e, List.take_append_of_le_length (by omega), List.take_succ_eq_append_getElem hk] at h1
    rcases List.mem_append.mp h1 with z | z
    · exact (foldN_mem _ _ _).mpr (.inl (h.c1 t z p hp hn))
    · rw [List.mem_singleton.mp z] at hp
      exact (foldN_mem _ _ _).mpr (.inr ⟨List.mem_map.mpr ⟨p, hp, rfl⟩, hn⟩)
  · rw [e, List.length_append]; omega
def ltZ (ws : List (List Nat)) (s : List (List Nat) × Nat × Sl) : Gam := [.da (.tuple (ws.map T)), .ol (s.1.map T), .da (.int (s.2.1 : Int)), s.2.2]
theorem lt_turn (g : WG ws) (s : List (List Nat) × Nat × Sl) (h : LTi ws s.1 s.2.1) :
    (tbX__law_tails_2 (view [1] (ltZ ws s)) = .ok false) ∨ (tbX__law_tails_2 (view [1] (ltZ ws s)) = .ok true ∧ ∃ s' : List (List Nat) × Nat × Sl, bX__law_tails_2 (ltZ ws s) = .ok (.nx (ltZ ws s')) ∧ LTi ws s'.1 s'.2.1 ∧ 60 - s'.2.1 < 60 - s.2.1) := by
  obtain ⟨L, k, s3⟩ := s
  have hm := g.most
  have h : LTi ws L k := h
  have hL := h.len g
  by_cases hk : k < L.length
  · refine .inr ⟨?_, ?_⟩
    · simp_arith [ltZ, tbX__law_tails_2, List.length_map, decide_eq_true (show (k : Int) < (L.length : Int) by omega)]
    · have hsl := stepsL_len (ws := ws) L[k]
      obtain ⟨s3', e⟩ := tails_row (ws := ws) L (by omega) (k : Int) (stepsL ws L[k]) (by omega) s3
      have ix : ixD (.list (L.map T)) (.int (k : Int)) = .ok (T L[k]) := v_ixL (by rw [List.getElem?_map, List.getElem?_eq_getElem hk]; rfl)
      refine ⟨⟨((stepsL ws L[k]).map (·.2)).foldl addN L, k + 1, s3'⟩, ?_, h.next hk, ?_⟩
      · simp_arith [ltZ, bX__law_tails_2, ix, fx_law_next (show ws.length ≤ 1000 by omega), noLst_pairs, e, Int.natCast_add, t_nc1]
      · show 60 - (k + 1) < 60 - k
        omega
  · refine .inl ?_
    simp_arith [ltZ, tbX__law_tails_2, List.length_map, decide_eq_false (show ¬ (k : Int) < (L.length : Int) by omega)]
theorem sx_law_tails (g : WG ws) : ∃ Q, Sorted Q (fun t => Rch ws t ∧ t ≠ []) ∧ Q.length ≤ 56 ∧ SX__law_tails [.tuple (ws.map T)] = .ok (.list (Q.map T)) := by
  obtain ⟨⟨L, k, s3⟩, e, hI, hst⟩ := w_run (L := [1]) (t := tbX__law_tails_2) (body := bX__law_tails_2) (ltZ ws) (fun s => 60 - s.2.1) (fun s => LTi ws s.1 s.2.1) (lt_turn g) (firstL ws, 0, .un)
    ⟨(srtE_perm T _).nodup_iff.mpr (nodup_ddup _), fun t ht => ⟨.base ht, first_ne ht⟩, fun t ht => ht, by simp, Nat.zero_le _⟩
  have hI : LTi ws L k := hI
  have hk : L.length ≤ k := by
    by_cases h : k < L.length
    · have : tbX__law_tails_2 (view [1] (ltZ ws (L, k, s3))) = .ok true := by
        simp_arith [ltZ, tbX__law_tails_2, List.length_map, decide_eq_true (show (k : Int) < (L.length : Int) by omega)]
      rw [this] at hst
      cases hst
    · omega
  have hL := hI.len g
  refine ⟨srtE T L, .of hI.nd (hI.all hk), by rw [(srtE_perm T L).length_eq]; exact hL, ?_⟩
  have e : whileS [1] tbX__law_tails_2 bX__law_tails_2 [.da (.tuple (ws.map T)), .ol ((firstL ws).map T), .da (.int 0), .un] = .ok (.nx [.da (.tuple (ws.map T)), .ol (L.map T), .da (.int (k : Int)), s3]) := e
  have hs := v_sortT (xs := L) (by omega)
  simp_arith [SX__law_tails, gX__law_tails, fx_law_begun g, e, hs]
/-- the list reads back -/
noncomputable def good (ws : List (List Nat)) : Bool := @decide (¬ Rch ws []) (Classical.propDecidable _)
theorem good_iff : good ws = true ↔ ¬ Rch ws [] := by unfold good; exact @decide_eq_true_iff _ (Classical.propDecidable _)
theorem sx_read_back (g : WG ws) : SX_read_back [.tuple (ws.map T)] = .ok (.bool (good ws)) := by
  obtain ⟨Rl, hR, hl, e⟩ := sx_reached g
  have h : (!decide ([] ∈ Rl)) = good ws := by
    cases hg : good ws with
    | true =>
      have := good_iff.mp hg
      rw [decide_eq_false (fun z => this ((hR.mem _).mp z))]; rfl
    | false =>
      have : [] ∈ Rl := (hR.mem _).mpr (Classical.byContradiction fun z => by
        rw [good_iff.mpr z] at hg; cases hg)
      rw [decide_eq_true this]; rfl
  simp_arith [SX_read_back, gX_read_back, c_nil, e, v_ninTL, h]
end Lib

set_option Elab.async false
set_option linter.all false
set_option maxRecDepth 100000
set_option maxHeartbeats 4000000
set_option pp.maxSteps 600
namespace Lib
open PySem PySem.Spec PyProof.Rows L2 RB
/-! ### max of numbers, min of pairs -/
def maxI : List Int → Int
  | [] => 0
  | x :: xs => xs.foldl max x
theorem ordOk_I (xs : List Int) : OrdOk (xs.map PyData.int) := ⟨⟨fun x hx y hy => by
    obtain ⟨a, _, rfl⟩ := List.mem_map.mp hx
    obtain ⟨b, _, rfl⟩ := List.mem_map.mp hy
    rfl, fun x hx => by
    obtain ⟨a, _, rfl⟩ := List.mem_map.mp hx
    exact fun z => nomatch z⟩, plainL_of fun x hx => by
    obtain ⟨a, _, rfl⟩ := List.mem_map.mp hx
    rfl, Nat.le_trans (depthAll_le (n := 1) fun x hx => by
    obtain ⟨a, _, rfl⟩ := List.mem_map.mp hx
    simp [PyData.depth]) (by decide)⟩
theorem v_maxI {xs : List Int} (h : xs ≠ []) : on1 maxG [.list (xs.map PyData.int)] = .ok (.int (maxI xs)) := by
  cases xs with
  | nil => exact absurd rfl h
  | cons x xs =>
    show given_ (OrdOk ((x :: xs).map PyData.int)) (.ok (PySem.W.maxD (.int x) (xs.map .int))) = _
    rw [given_pos (ordOk_I _), PySem.W.maxD_ints]; rfl
def encP (p : Int × Int) : D := .tuple [.int p.1, .int p.2]
def ltP (y a : Int × Int) : Bool := if y.1 = a.1 then decide (y.2 < a.2) else decide (y.1 < a.1)
def minP (x : Int × Int) (xs : List (Int × Int)) : Int × Int := xs.foldl (fun a y => if ltP y a = true then y else a) x
theorem lt_encP (y a : Int × Int) : PySem.W.dataLt (encP y) (encP a) = ltP y a := by
  unfold encP ltP
  rw [lt_tupI, lt_tupI, lt_nil]
  by_cases h : y.1 = a.1
  · rw [if_pos h, if_pos h]
    by_cases h2 : y.2 = a.2
    · rw [if_pos h2, decide_eq_false (by omega)]
    · rw [if_neg h2]
  · rw [if_neg h, if_neg h]
theorem minD_P : ∀ (xs : List (Int × Int)) (x : Int × Int), PySem.W.minD (encP x) (xs.map encP) = encP (minP x xs)
  | [], x => rfl
  | y :: ys, x => by
    have ih := minD_P ys (if ltP y x = true then y else x)
    unfold PySem.W.minD at ih ⊢
    unfold minP at ih ⊢
    rw [List.map_cons, List.foldl_cons, List.foldl_cons, ← ih, lt_encP]
    by_cases h : ltP y x = true
    · rw [if_pos h, if_pos h]
    · rw [if_neg h, if_neg h]
theorem v_minP (x : Int × Int) (xs : List (Int × Int)) : on1 minG [.list ((x :: xs).map encP)] = .ok (encP (minP x xs)) := by
  have o : OrdOk ((x :: xs).map encP) := ⟨⟨fun x hx y hy => by
    obtain ⟨a, _, rfl⟩ := List.mem_map.mp hx
    obtain ⟨b, _, rfl⟩ := List.mem_map.mp hy
    rfl, fun x hx => by
    obtain ⟨a, _, rfl⟩ := List.mem_map.mp hx
    exact fun z => nomatch z⟩, plainL_of fun x hx => by
    obtain ⟨a, _, rfl⟩ := List.mem_map.mp hx
    rfl, Nat.le_trans (depthAll_le (n := 2) fun x hx => by
    obtain ⟨a, _, rfl⟩ := List.mem_map.mp hx
    show PyData.depth (.tuple [.int a.1, .int a.2]) ≤ 2
    simp [PyData.depth, PyData.depthAll]) (by decide)⟩
  show given_ (OrdOk ((x :: xs).map encP)) (.ok (PySem.W.minD (encP x) (xs.map encP))) = _
  rw [given_pos o, minD_P]
/-! ### zip of two texts -/
theorem signs_T (a : List Nat) : RB.signs (S_ a) = a.map fun c => T [c] := Eq.trans rfl rfl
theorem zip_T (a b : List Nat) : zipD (RB.signs (S_ a)) (RB.signs (S_ b)) = (a.zip b).map fun q => PyData.tuple [T [q.1], T [q.2]] := by
  rw [signs_T, signs_T]
  unfold zipD
  rw [List.zip_map, List.map_map]; rfl
theorem ev_ziT (a b : List Nat) : ziK (.ok (T a)) (.ok (T b)) = .ok ((a.zip b).map fun q => PyData.tuple [T [q.1], T [q.2]]) := by
  rw [← zip_T]; exact Eq.trans rfl rfl
end Lib

set_option Elab.async false
set_option linter.all false
set_option maxRecDepth 100000
set_option maxHeartbeats 4000000
namespace Lib
open PySem RB
local macro_rules | `(tactic| simp_arith [$as,*]) => `(tactic| simp only [view, freeze, ev_seq, ev_seq1, ev_seq2, ev_seq3, ev_seq4, ev_seq5, ev_ret, ev_ret1, ev_ret2, ev_retN, ev_nil, ev_bk, ev_ct, ev_if, ev_ifT, ev_ifF, ev_ifX, ev_set, ev_set0, ev_set1, ev_set3, ev_drop, ev_drop1, ev_drop2, ev_own, ev_own0, ev_own1, ev_unp, ev_unp1, ev_unp2, ev_unp3, ev_app, ev_app0, ev_app1, ev_app2, ev_put, ev_put1, ev_put2, ev_aug, ev_aug1, ev_aug2, ev_for, ev_for0, ev_forN, ev_con, ev_var, ev_var1, ev_op2, ev_op2k, ev_op1, ev_op1k, ev_nilL, ev_consL, ev_consk, ev_tup, ev_tupk, ev_dat, ev_datk, ev_call, ev_callk, ev_callF, ev_callFk, ev_usr, ev_usrk, ev_usr0, ev_test, ev_testk, ev_b, ev_bk1, ev_isN, ev_isNk, ev_notN, ev_notNk, ev_andT, ev_andT1, ev_andT0, ev_orT, ev_orT1, ev_orT0, ev_notT, ev_notTk, ev_andE, ev_andE1, ev_andE0, ev_orE, ev_orE1, ev_orE0, ev_notE, ev_notEk, ev_ifE, ev_ifE1, ev_ifE0, ev_ch, ev_ch0, ev_ch1, ev_ch2, ev_isi, ev_isi1, ev_isi2, ev_isi3, ev_isi4, ev_isi5, ev_isi6, ev_sl, ev_slk, ev_slL, ev_slT, ev_slS, ev_par0, ev_par, ev_park, ev_seqE, ev_seqEL, ev_seqET, ev_seqES, ev_rg, ev_rgk, ev_en, ev_enL, ev_enT, ev_enS, ev_zi, ev_ziLL, ev_ziTT, ev_ziLT, ev_ziTL, ev_ziSS, ev_comp, ev_compk, v_add, v_sub, v_neg, v_eq, v_ne, v_lt, v_le, v_gt, v_ge, v_mulL, v_mulR, v_p9, v_p18, v_mod, v_div, v_int, v_lenL, v_lenT, v_lenS, v_tupL, v_tupT, v_itL, v_itT, v_ixL, v_ixT, v_sum, v_all, v_any, v_range1, v_range2, v_catT, v_catL, i_1, ev_run, ev_end1, ev_end2, ev_end3, ev_vN, ev_vC, ev_sU, ev_sD, ev_sO, ev_fN, ev_fC, ev_zU, ev_zD, ev_zO, fl1, fl2, fl3, fl4, fl5, sg0, sg1, se0, se1, t_N1, t_N2, t_N3, t_N4, t_N5, t_N6, ev_tru, ev_truL, ev_truT, ev_truB, ev_truN, ev_truI, ev_par2, ev_par2k, ev_par3, ev_par3k, v_lenX, v_catX, v_slX, v_ixX, v_eqX, v_neX, v_inX, v_ninX, v_repX, ev_seqEX, ev_isiX, t_N7, t_X1, t_X2, t_X3, t_X4, t_X5, t_X6, ev_truX, t_isInt_none, t_isInt_bool, t_isInt_int, t_isInt_str, t_isInt_tuple, t_isInt_list, t_isBool_none, t_isBool_bool, t_isBool_int, t_isBool_str, t_isBool_tuple, t_isBool_list, t_isStr_none, t_isStr_bool, t_isStr_int, t_isStr_str, t_isStr_tuple, t_isStr_list, t_isTup_none, t_isTup_bool, t_isTup_int, t_isTup_str, t_isTup_tuple, t_isTup_list, t_isLst_none, t_isLst_bool, t_isLst_int, t_isLst_str, t_isLst_tuple, t_isLst_list, t_nc0, t_nc1, t_nc2, t_nc3, t_nc4, t_nc5, t_nc6, t_nc7, t_nc8, t_nc9, t_nc10, t_nc11, t_nc12, t_nc13, t_nc14, t_nc15, t_nc16, t_nc17, t_nc18, t_nc19, t_nc20, t_nc21, t_nc22, t_nc23, t_nc24, t_nc25, t_nc26, t_nc27, t_nc28, t_nc29, t_nc30, t_nc31, t_nc32, List.map_cons, List.map_nil, List.length_cons, List.length_nil, List.cons_append, List.nil_append, List.append_nil, List.set_cons_zero, List.set_cons_succ, List.getElem?_cons_zero, List.getElem?_cons_succ, List.getElem?_nil, List.any_cons, List.any_nil, R.hard_ok, noLst, noLsts, gam0, List.replicate, wipeE, if_true, if_false, Bool.false_eq_true, Bool.true_eq_false, Bool.not_true, Bool.not_false, Bool.true_or, Bool.false_or, Bool.or_true, Bool.or_false, Bool.true_and, Bool.false_and, Bool.and_true, Bool.and_false, Bool.and_self, Bool.or_self, decide_true, decide_false, Nat.reduceBEq, Nat.reduceAdd, Nat.reduceSub, Nat.reduceLT, Int.reduceLT, Int.reduceLE, Int.reduceNeg, Int.reduceAdd, Int.reduceSub, Int.reduceMul, Nat.reduceEqDiff, Int.reduceEq, Nat.reduceLeDiff, ↓reduceIte, List.isEmpty_cons, ev_sE, ev_zE, ev_seq6, ev_end4, ev_endF1, ev_endF2, ev_runF, c_ok, c_same, c_bool, c_int, c_T, c_tup, c_lst, c_rt, c_nx, c_gam, c_da, c_ol, c_t, c_n, c_xf, c_tx, c_fx, c_xt, ↓cond_true, ↓cond_false, c_if, c_andT, c_orT, c_andE, c_orE, c_ifE, c_ch, c_seqK, c_seqK', c_endR, c_endR', c_isN, k_comp, k_comp2, k_all, k_fil, v_allM, v_anyM, v_sumM, ev_m1, ev_m1k, ev_m1k2, v_start, v_ends, v_find, v_count, ev_bad, ev_bad1, ev_many, ev_try, ev_try1, ev_try2, ev_try3, ev_try4, ev_tryM, ev_tryM1, ev_tryM2, ev_tryM3, ev_noXn1, ev_noXn2, ev_setE, ev_setEk, ev_lenK, ev_lenKk, ev_sortK, ev_sortKk, v_min2, v_max2, v_abs, ev_idx, ev_idxL, ev_idxS, ev_catE, ev_catEk, ev_rg1, v_startX, v_endsX, Bool.and_assoc, Bool.or_assoc, cond_true, cond_false, Bool.not_not, v_startB, ev_m1T, cut_to, cut_from, cut_mid, k_ixT, k_ixL, enumF, v_eqNilI, v_neNilI, v_eqNilT, v_neNilT, empty_filter, List.any_filter, List.all_filter, List.isEmpty_map, fin_eq, beg_cut, List.filter_filter, cut_to1, cut_mid1, ix0_app, head_filterT, head_filterI, v_neOT, head_filterT0, v_isB, beq_false, beq_true, beq_self_eq_true, v_eqNilT0, v_neNilT0, ev_rev2, v_revL, v_revX, ev_cL, ev_comp2, ev_comp2j, k_two, k_flat, k_flatF, flat_map, ev_retF, ev_retFk, ev_retO, ev_retOk, ev_usrF, ev_usrFk, ev_ownD, ev_ownD0, ev_empD, ev_dataD, ev_dataDk, ev_putD, ev_putD1, mark_F, mark_T, ev_popK, ev_popk, ev_extK, ev_extk, ev_forK, ev_forKk, ev_forF, ev_forFk, $as,*])
/-! ### _law_same decides -/
def smB (n : Nat) (a b : D) : Bool := match S__law_same n [a, b] with
  | .ok (.bool q) => q
  | _ => false
theorem smB_of {n : Nat} {a b : D} {q : Bool} (h : S__law_same n [a, b] = .ok (.bool q)) : smB n a b = q := by
  unfold smB
  rw [h]
theorem same_len (n : Nat) (xs ys : List D) (hl : xs.length ≠ ys.length) : S__law_same (n + 1) [.tuple xs, .tuple ys] = .ok (.bool false) := by
  have hh : decide ((xs.length : Int) = (ys.length : Int)) = false := decide_eq_false (by omega)
  simp_arith [S__law_same, g__law_same, hh]
theorem same_ok (n : Nat) (xs ys : List D) (hl : xs.length = ys.length) (hz : xs.length ≤ 1000000) (q : _root_.Fin ys.length → Bool) (h : ∀ k : _root_.Fin ys.length, S__law_same n [xs[k.val]'(by omega), ys[k]] = .ok (.bool (q k))) : S__law_same (n + 1) [.tuple xs, .tuple ys] = .ok (.bool ((List.finRange ys.length).all q)) := by
  have hh : decide ((xs.length : Int) = (ys.length : Int)) = true := decide_eq_true (by omega)
  obtain ⟨Γ', ⟨s2, rfl⟩, e⟩ := f_hit (enc := fun k : _root_.Fin ys.length => PyData.int ((k.val : Nat) : Int)) (i := 2) (body := b__law_same_1 (S__law_same n)) (fun Γ => ∃ s2, Γ = [.da (.tuple xs), .da (.tuple ys), s2])
    (fun k => if q k = true then none else some (.bool false)) (List.finRange ys.length) [.da (.tuple xs), .da (.tuple ys), .un] ⟨_, rfl⟩ fun k hk Γ ⟨s2, eΓ⟩ => by
    subst eΓ
    refine ⟨_, ⟨.da (.int ((k.val : Nat) : Int)), rfl⟩, ?_⟩
    have e1 : ixD (.tuple xs) (.int ((k.val : Nat) : Int)) = .ok (xs[k.val]'(by omega)) := v_ixT (List.getElem?_eq_getElem (by omega))
    have e2 : ixD (.tuple ys) (.int ((k.val : Nat) : Int)) = .ok ys[k] := v_ixT (List.getElem?_eq_getElem k.isLt)
    have h1 := h k
    cases hq : q k with
    | true =>
      rw [hq] at h1
      simp_arith [b__law_same_1, e1, e2, h1, if_pos, hit_none]
    | false =>
      rw [hq] at h1
      simp_arith [b__law_same_1, e1, e2, h1, Bool.false_eq_true, if_false, hit_some]
  simp_arith [S__law_same, g__law_same, hh, v_rgF (show ys.length ≤ 16777216 by omega), e]
  cases hs : (List.finRange ys.length).findSome? fun k => if q k = true then none else some (PyData.bool false) with
  | none =>
    rw [List.findSome?_eq_none_iff] at hs
    have : (List.finRange ys.length).all q = true := List.all_eq_true.mpr fun k hk => by
      have := hs k hk
      cases hq : q k with
      | true => rfl
      | false => rw [hq, if_neg (by decide)] at this; cases this
    rw [this]
    simp_arith [hit_none]
  | some d =>
    obtain ⟨k, hk, e2⟩ := List.exists_of_findSome?_eq_some hs
    cases hq : q k with
    | true => rw [hq, if_pos rfl] at e2; cases e2
    | false =>
      rw [hq, if_neg (by decide)] at e2
      cases e2
      have : (List.finRange ys.length).all q = false := List.all_eq_false.mpr ⟨k, hk, by rw [hq]; decide⟩
      rw [this]
      simp_arith [hit_some]
theorem same_dec : ∀ (n : Nat) (a b : D), sameB n a = true → sameB n b = true → ∃ q : Bool, S__law_same n [a, b] = .ok (.bool q) ∧ (q = true ↔ a = b)
  | 0, _, _, h, _ => nomatch h
  | n + 1, .tuple xs, .tuple ys, h, h2 => by
    unfold sameB at h h2
    rw [Bool.and_eq_true, List.all_eq_true, decide_eq_true_iff] at h h2
    by_cases hl : xs.length = ys.length
    · have hq : ∀ k : _root_.Fin ys.length, S__law_same n [xs[k.val]'(by omega), ys[k]] = .ok (.bool (smB n (xs[k.val]'(by omega)) ys[k])) ∧ (smB n (xs[k.val]'(by omega)) ys[k] = true ↔ xs[k.val]'(by omega) = ys[k]) := fun k => by
        obtain ⟨q, e, he⟩ := same_dec n (xs[k.val]'(by omega)) ys[k] (h.2 _ (List.getElem_mem _)) (h2.2 _ (List.getElem_mem _))
        rw [smB_of e]
        exact ⟨e, he⟩
      refine ⟨_, same_ok n xs ys hl h.1 (fun k => smB n (xs[k.val]'(by omega)) ys[k]) fun k => (hq k).1, ?_⟩
      rw [List.all_eq_true]
      constructor
      · intro hh
        congr 1
        refine List.ext_getElem hl fun i h1 h2 => ?_
        exact (hq ⟨i, h2⟩).2.mp (hh ⟨i, h2⟩ (List.mem_finRange _))
      · intro e k _
        cases e
        exact (hq k).2.mpr rfl
    · exact ⟨false, same_len n xs ys hl, ⟨fun z => (nomatch z), fun z => by injection z with z; exact absurd (congrArg List.length z) hl⟩⟩
  | n + 1, .int a, .int b, _, _ => ⟨_, same_int n a b, by rw [decide_eq_true_iff]; exact ⟨fun h => by rw [h], fun h => by injection h⟩⟩
  | n + 1, .str a, .str b, _, _ => ⟨_, same_str n a b, by rw [beq_iff_eq]; exact ⟨fun h => by rw [h], fun h => by injection h⟩⟩
  | n + 1, .bool a, .bool b, _, _ => ⟨_, same_bool n a b, by rw [beq_iff_eq]; exact ⟨fun h => by rw [h], fun h => by injection h⟩⟩
  | n + 1, .none, .none, _, _ => ⟨_, same_none n, by simp⟩
  | n + 1, .tuple a, .int b, _, _ => ⟨false, by simp_arith [S__law_same, g__law_same], by simp⟩
  | n + 1, .tuple a, .str b, _, _ => ⟨false, by simp_arith [S__law_same, g__law_same], by simp⟩
  | n + 1, .tuple a, .bool b, _, _ => ⟨false, by simp_arith [S__law_same, g__law_same], by simp⟩
  | n + 1, .tuple a, .none, _, _ => ⟨false, by simp_arith [S__law_same, g__law_same], by simp⟩
  | n + 1, .int b, .tuple a, _, _ => ⟨false, by simp_arith [S__law_same, g__law_same], by simp⟩
  | n + 1, .str b, .tuple a, _, _ => ⟨false, by simp_arith [S__law_same, g__law_same], by simp⟩
  | n + 1, .bool b, .tuple a, _, _ => ⟨false, by simp_arith [S__law_same, g__law_same], by simp⟩
  | n + 1, .none, .tuple a, _, _ => ⟨false, by simp_arith [S__law_same, g__law_same], by simp⟩
  | n + 1, .int a, .str b, _, _ => ⟨false, by simp_arith [S__law_same, g__law_same, v_neB, beq_self_eq_true], by simp⟩
  | n + 1, .int a, .bool b, _, _ => ⟨false, by simp_arith [S__law_same, g__law_same, v_neB], by simp⟩
  | n + 1, .int a, .none, _, _ => ⟨false, by simp_arith [S__law_same, g__law_same], by simp⟩
  | n + 1, .str a, .int b, _, _ => ⟨false, by simp_arith [S__law_same, g__law_same, v_neB, beq_self_eq_true], by simp⟩
  | n + 1, .str a, .bool b, _, _ => ⟨false, by simp_arith [S__law_same, g__law_same, v_neB], by simp⟩
  | n + 1, .str a, .none, _, _ => ⟨false, by simp_arith [S__law_same, g__law_same], by simp⟩
  | n + 1, .bool a, .int b, _, _ => ⟨false, by simp_arith [S__law_same, g__law_same, v_neB], by simp⟩
  | n + 1, .bool a, .str b, _, _ => ⟨false, by simp_arith [S__law_same, g__law_same, v_neB], by simp⟩
  | n + 1, .bool a, .none, _, _ => ⟨false, by simp_arith [S__law_same, g__law_same], by simp⟩
  | n + 1, .none, .int b, _, _ => ⟨false, by simp_arith [S__law_same, g__law_same], by simp⟩
  | n + 1, .none, .str b, _, _ => ⟨false, by simp_arith [S__law_same, g__law_same], by simp⟩
  | n + 1, .none, .bool b, _, _ => ⟨false, by simp_arith [S__law_same, g__law_same], by simp⟩
  | n + 1, .list _, _, h, _ => nomatch h
  | n + 1, .dict _, _, h, _ => nomatch h
  | n + 1, .none, .list _, _, h => nomatch h
  | n + 1, .none, .dict _, _, h => nomatch h
  | n + 1, .bool _, .list _, _, h => nomatch h
  | n + 1, .bool _, .dict _, _, h => nomatch h
  | n + 1, .str _, .list _, _, h => nomatch h
  | n + 1, .str _, .dict _, _, h => nomatch h
  | n + 1, .int _, .list _, _, h => nomatch h
  | n + 1, .int _, .dict _, _, h => nomatch h
  | n + 1, .tuple _, .list _, _, h => nomatch h
  | n + 1, .tuple _, .dict _, _, h => nomatch h
theorem same_eq {n : Nat} {a b : D} (ha : sameB n a = true) (hb : sameB n b = true) : S__law_same n [a, b] = .ok (.bool (smB n a b)) ∧ (smB n a b = true ↔ a = b) := by
  obtain ⟨q, e, h⟩ := same_dec n a b ha hb
  rw [smB_of e]
  exact ⟨e, h⟩
theorem sameB_tup {n : Nat} {xs : List D} (hl : xs.length ≤ 1000000) (h : ∀ x ∈ xs, sameB n x = true) : sameB (n + 1) (.tuple xs) = true := by
  unfold sameB
  rw [Bool.and_eq_true, decide_eq_true_iff, List.all_eq_true]
  exact ⟨hl, h⟩
theorem sameB_map {α : Type} {n : Nat} (enc : α → D) {xs : List α} (hl : xs.length ≤ 1000000) (h : ∀ x ∈ xs, sameB n (enc x) = true) : sameB (n + 1) (.tuple (xs.map enc)) = true := sameB_tup (by rw [List.length_map]; exact hl) fun y hy => by
  obtain ⟨x, hx, rfl⟩ := List.mem_map.mp hy
  exact h x hx
/-- a comprehension over any data -/
theorem k_compD (i : Nat) (fi : RB.Env → R Bool) (fe : RB.Env → R D) (ε : RB.Env) (ds : List D) : compL (.nm i) fi fe ε ds = seqC (ds.map fun x => (fi (ε.set i (some x)), fe (ε.set i (some x)))) := by
  have := k_comp (fun d : D => d) i fi fe ε ds
  rw [List.map_id'] at this
  exact this
/-- the values that are not the paper -/
theorem not_paper {n : Nat} {p : D} (hp : sameB n p = true) {ds : List D} (h : ∀ d ∈ ds, sameB n d = true) : seqC (ds.map fun x => (notTK (testK (S__law_same n [x, p])), R.ok x)) = .ok (ds.filter fun x => !smB n x p) := by
  have := k_fil_of (fun x => !smB n x p) (fun x : D => x) (fb := fun x => notTK (testK (S__law_same n [x, p]))) (fr := fun x => R.ok x) ds fun x hx => ⟨by rw [(same_eq (h x hx) hp).1]; rfl, fun _ => rfl⟩
  rw [List.map_id'] at this
  exact this
end Lib
namespace RB
open PySem Lib
local macro_rules | `(tactic| simp_arith [$as,*]) => `(tactic| simp only [view, freeze, ev_seq, ev_seq1, ev_seq2, ev_seq3, ev_seq4, ev_seq5, ev_ret, ev_ret1, ev_ret2, ev_retN, ev_nil, ev_bk, ev_ct, ev_if, ev_ifT, ev_ifF, ev_ifX, ev_set, ev_set0, ev_set1, ev_set3, ev_drop, ev_drop1, ev_drop2, ev_own, ev_own0, ev_own1, ev_unp, ev_unp1, ev_unp2, ev_unp3, ev_app, ev_app0, ev_app1, ev_app2, ev_put, ev_put1, ev_put2, ev_aug, ev_aug1, ev_aug2, ev_for, ev_for0, ev_forN, ev_con, ev_var, ev_var1, ev_op2, ev_op2k, ev_op1, ev_op1k, ev_nilL, ev_consL, ev_consk, ev_tup, ev_tupk, ev_dat, ev_datk, ev_call, ev_callk, ev_callF, ev_callFk, ev_usr, ev_usrk, ev_usr0, ev_test, ev_testk, ev_b, ev_bk1, ev_isN, ev_isNk, ev_notN, ev_notNk, ev_andT, ev_andT1, ev_andT0, ev_orT, ev_orT1, ev_orT0, ev_notT, ev_notTk, ev_andE, ev_andE1, ev_andE0, ev_orE, ev_orE1, ev_orE0, ev_notE, ev_notEk, ev_ifE, ev_ifE1, ev_ifE0, ev_ch, ev_ch0, ev_ch1, ev_ch2, ev_isi, ev_isi1, ev_isi2, ev_isi3, ev_isi4, ev_isi5, ev_isi6, ev_sl, ev_slk, ev_slL, ev_slT, ev_slS, ev_par0, ev_par, ev_park, ev_seqE, ev_seqEL, ev_seqET, ev_seqES, ev_rg, ev_rgk, ev_en, ev_enL, ev_enT, ev_enS, ev_zi, ev_ziLL, ev_ziTT, ev_ziLT, ev_ziTL, ev_ziSS, ev_comp, ev_compk, v_add, v_sub, v_neg, v_eq, v_ne, v_lt, v_le, v_gt, v_ge, v_mulL, v_mulR, v_p9, v_p18, v_mod, v_div, v_int, v_lenL, v_lenT, v_lenS, v_tupL, v_tupT, v_itL, v_itT, v_ixL, v_ixT, v_sum, v_all, v_any, v_range1, v_range2, v_catT, v_catL, i_1, ev_run, ev_end1, ev_end2, ev_end3, ev_vN, ev_vC, ev_sU, ev_sD, ev_sO, ev_fN, ev_fC, ev_zU, ev_zD, ev_zO, fl1, fl2, fl3, fl4, fl5, sg0, sg1, se0, se1, t_N1, t_N2, t_N3, t_N4, t_N5, t_N6, ev_tru, ev_truL, ev_truT, ev_truB, ev_truN, ev_truI, ev_par2, ev_par2k, ev_par3, ev_par3k, v_lenX, v_catX, v_slX, v_ixX, v_eqX, v_neX, v_inX, v_ninX, v_repX, ev_seqEX, ev_isiX, t_N7, t_X1, t_X2, t_X3, t_X4, t_X5, t_X6, ev_truX, t_isInt_none, t_isInt_bool, t_isInt_int, t_isInt_str, t_isInt_tuple, t_isInt_list, t_isBool_none, t_isBool_bool, t_isBool_int, t_isBool_str, t_isBool_tuple, t_isBool_list, t_isStr_none, t_isStr_bool, t_isStr_int, t_isStr_str, t_isStr_tuple, t_isStr_list, t_isTup_none, t_isTup_bool, t_isTup_int, t_isTup_str, t_isTup_tuple, t_isTup_list, t_isLst_none, t_isLst_bool, t_isLst_int, t_isLst_str, t_isLst_tuple, t_isLst_list, t_nc0, t_nc1, t_nc2, t_nc3, t_nc4, t_nc5, t_nc6, t_nc7, t_nc8, t_nc9, t_nc10, t_nc11, t_nc12, t_nc13, t_nc14, t_nc15, t_nc16, t_nc17, t_nc18, t_nc19, t_nc20, t_nc21, t_nc22, t_nc23, t_nc24, t_nc25, t_nc26, t_nc27, t_nc28, t_nc29, t_nc30, t_nc31, t_nc32, List.map_cons, List.map_nil, List.length_cons, List.length_nil, List.cons_append, List.nil_append, List.append_nil, List.set_cons_zero, List.set_cons_succ, List.getElem?_cons_zero, List.getElem?_cons_succ, List.getElem?_nil, List.any_cons, List.any_nil, R.hard_ok, noLst, noLsts, gam0, List.replicate, wipeE, if_true, if_false, Bool.false_eq_true, Bool.true_eq_false, Bool.not_true, Bool.not_false, Bool.true_or, Bool.false_or, Bool.or_true, Bool.or_false, Bool.true_and, Bool.false_and, Bool.and_true, Bool.and_false, Bool.and_self, Bool.or_self, decide_true, decide_false, Nat.reduceBEq, Nat.reduceAdd, Nat.reduceSub, Nat.reduceLT, Int.reduceLT, Int.reduceLE, Int.reduceNeg, Int.reduceAdd, Int.reduceSub, Int.reduceMul, Nat.reduceEqDiff, Int.reduceEq, Nat.reduceLeDiff, ↓reduceIte, List.isEmpty_cons, ev_sE, ev_zE, ev_seq6, ev_end4, ev_endF1, ev_endF2, ev_runF, c_ok, c_same, c_bool, c_int, c_T, c_tup, c_lst, c_rt, c_nx, c_gam, c_da, c_ol, c_t, c_n, c_xf, c_tx, c_fx, c_xt, ↓cond_true, ↓cond_false, c_if, c_andT, c_orT, c_andE, c_orE, c_ifE, c_ch, c_seqK, c_seqK', c_endR, c_endR', c_isN, k_comp, k_comp2, k_all, k_fil, v_allM, v_anyM, v_sumM, ev_m1, ev_m1k, ev_m1k2, v_start, v_ends, v_find, v_count, ev_bad, ev_bad1, ev_many, ev_try, ev_try1, ev_try2, ev_try3, ev_try4, ev_tryM, ev_tryM1, ev_tryM2, ev_tryM3, ev_noXn1, ev_noXn2, ev_setE, ev_setEk, ev_lenK, ev_lenKk, ev_sortK, ev_sortKk, v_min2, v_max2, v_abs, ev_idx, ev_idxL, ev_idxS, ev_catE, ev_catEk, ev_rg1, v_startX, v_endsX, Bool.and_assoc, Bool.or_assoc, cond_true, cond_false, Bool.not_not, v_startB, ev_m1T, cut_to, cut_from, cut_mid, k_ixT, k_ixL, enumF, v_eqNilI, v_neNilI, v_eqNilT, v_neNilT, empty_filter, List.any_filter, List.all_filter, List.isEmpty_map, fin_eq, beg_cut, List.filter_filter, cut_to1, cut_mid1, ix0_app, head_filterT, head_filterI, v_neOT, head_filterT0, v_isB, beq_false, beq_true, beq_self_eq_true, v_eqNilT0, v_neNilT0, ev_rev2, v_revL, v_revX, ev_cL, ev_comp2, ev_comp2j, k_two, k_flat, k_flatF, flat_map, ev_retF, ev_retFk, ev_retO, ev_retOk, ev_usrF, ev_usrFk, ev_ownD, ev_ownD0, ev_empD, ev_dataD, ev_dataDk, ev_putD, ev_putD1, mark_F, mark_T, ev_popK, ev_popk, ev_extK, ev_extk, ev_forK, ev_forKk, ev_forF, ev_forFk, $as,*])
theorem v_maxT {xs : List Int} (h : xs ≠ []) : on1 maxG [.tuple (xs.map PyData.int)] = .ok (.int (maxI xs)) := by
  cases xs with
  | nil => exact absurd rfl h
  | cons x xs =>
    show given_ (OrdOk ((x :: xs).map PyData.int)) (.ok (PySem.W.maxD (.int x) (xs.map .int))) = _
    rw [given_pos (ordOk_I _), PySem.W.maxD_ints]; rfl
theorem v_notBB (a b : Bool) : notBD (.bool a) (.bool b) = .ok (.bool (!(a == b))) := Eq.trans rfl rfl
/-! ### the way on behind a loop -/
theorem end_loop2 {r : R Fl} {h : Gam → R Fl} {Z : Sl → Sl → Gam} {res : R D} (e : ∃ a b, r = .ok (.nx (Z a b))) (k : ∀ a b, endR (h (Z a b)) = res) : endR (seqK r h) = res := by
  obtain ⟨a, b, rfl⟩ := e
  exact k a b
theorem end_loop3 {r : R Fl} {h : Gam → R Fl} {Z : Sl → Sl → Sl → Gam} {res : R D} (e : ∃ a b c, r = .ok (.nx (Z a b c))) (k : ∀ a b c, endR (h (Z a b c)) = res) : endR (seqK r h) = res := by
  obtain ⟨a, b, c, rfl⟩ := e
  exact k a b c
theorem end_loop4 {r : R Fl} {h : Gam → R Fl} {Z : Sl → Sl → Sl → Sl → Gam} {res : R D} (e : ∃ a b c d, r = .ok (.nx (Z a b c d))) (k : ∀ a b c d, endR (h (Z a b c d)) = res) : endR (seqK r h) = res := by
  obtain ⟨a, b, c, d, rfl⟩ := e
  exact k a b c d
theorem end_loop5 {r : R Fl} {h : Gam → R Fl} {Z : Sl → Sl → Sl → Sl → Sl → Gam} {res : R D} (e : ∃ a b c d f, r = .ok (.nx (Z a b c d f))) (k : ∀ a b c d f, endR (h (Z a b c d f)) = res) : endR (seqK r h) = res := by
  obtain ⟨a, b, c, d, f, rfl⟩ := e
  exact k a b c d f
theorem end_loop6 {r : R Fl} {h : Gam → R Fl} {Z : Sl → Sl → Sl → Sl → Sl → Sl → Gam} {res : R D} (e : ∃ a b c d f g, r = .ok (.nx (Z a b c d f g))) (k : ∀ a b c d f g, endR (h (Z a b c d f g)) = res) : endR (seqK r h) = res := by
  obtain ⟨a, b, c, d, f, g, rfl⟩ := e
  exact k a b c d f g
theorem end_loop7 {r : R Fl} {h : Gam → R Fl} {Z : Sl → Sl → Sl → Sl → Sl → Sl → Sl → Gam} {res : R D} (e : ∃ a b c d f g i, r = .ok (.nx (Z a b c d f g i))) (k : ∀ a b c d f g i, endR (h (Z a b c d f g i)) = res) : endR (seqK r h) = res := by
  obtain ⟨a, b, c, d, f, g, i, rfl⟩ := e
  exact k a b c d f g i
/-- .. and where the state is told by a predicate -/
theorem end_loopP {r : R Fl} {h : Gam → R Fl} {P : Gam → Prop} {res : R D} (e : ∃ Γ, r = .ok (.nx Γ) ∧ P Γ) (k : ∀ Γ, P Γ → endR (h Γ) = res) : endR (seqK r h) = res := by
  obtain ⟨Γ, rfl, p⟩ := e
  exact k Γ p
/-- for x in [..]: a check that holds, over any data -/
theorem f_passD {i : Nat} {body : Gam → R Fl} {Γ : Gam} (ds : List D) (s : Sl) (h : ∀ d ∈ ds, body (Γ.set i (.da d)) = .ok (.nx (Γ.set i (.da d)))) :
    ∃ s', forL (.nm i) body ds (Γ.set i s) = .ok (.nx (Γ.set i s')) := by
  have := f_pass (enc := fun d : D => d) (i := i) (body := body) (Γ := Γ) ds s h
  rw [List.map_id'] at this
  exact this
end RB

set_option Elab.async false
set_option linter.all false
set_option maxRecDepth 100000
set_option maxHeartbeats 4000000
namespace L2
open PySem PySem.Spec PyProof.Rows
section
variable {X : Cx} {o e f : Expr} {to te tf : TE}
def tM2 (r : V → List V → Hp → VK → Prop) (to te tf : TE) : TE := fun σ H Q => to σ H fun x H1 => (∃ a, x = .str a) ∧ te σ H1 fun y H2 => tf σ H2 fun z H3 => r x [y, z] H3 Q
theorem pe_m2 {id : String} {name : Str} {apos pos : Pos} {r : V → List V → Hp → VK → Prop} (slot : Slot "str" name id) (ty : typeOf (.builtin id) = pure (.type "method_descriptor")) (rule : MtR X id r) (ho : PE X o to) (he : PE X e te) (hf : PE X f tf)
    (hs : starEach [e, f] X.env = [(false, eval e X.env), (false, eval f X.env)] := by rfl) (hbase : attributeBase o name X.env (eval o X.env) = eval o X.env := by rfl) (hline : (apos.endLine == pos.line) = true := by rfl) :
    PE X (.Call (.Attribute o name apos) [e, f] [] pos) (tM2 r to te tf) := by
  refine ⟨fun pins s σ H Q I h => ?_⟩
  refine PySem.Call_method2 hbase hs hline (thn (ho.run pins s σ H _ I h) fun v s1 ⟨x, H1, I1, r1, q1⟩ => ?_)
  obtain ⟨⟨a, rfl⟩, q1⟩ := q1
  obtain ⟨t, rfl⟩ := _root_.id r1
  refine ⟨"str", _, F.plainAttrs_str, slot, ty, typeIs_str _ _ _, (fun _ e => nomatch e), Calls.callWith_builtin rfl (Calls.evalArgs_plain (Calls.spliced_cons ?_))⟩
  refine thn (he.run pins s1 σ H1 _ I1 q1) fun u s2 ⟨y, H2, I2, r2, q2⟩ => Calls.spliced_cons ?_
  exact thn (hf.run pins s2 σ H2 _ I2 q2) fun u3 s3 ⟨z, H3, I3, r3, q3⟩ => Calls.spliced_nil (rule pins s3 σ H3 _ [y, z] _ [u, u3] Q I3 r1 (.cons r2 (.cons r3 .nil)) q3)
end
end L2
namespace RB
open PySem PySem.Spec PyProof.Rows L2
/-! ### o.find(e, i), o.startswith(e, i) -/
def m2E (g : D → D → D → R D) (fo fe ff : Env → R D) : Env → R D := fun ε => fo ε >>= fun x => (sStr x).hard >>= fun x => fe ε >>= fun y => ff ε >>= fun z => (g x y z).hard
def G2M (K : PySem.W.Frag) (r : V → List V → Hp → VK → Prop) (g : D → D → D → R D) : Prop := ∀ (z : Str) y dy u du H F Q, okS z → FOk H F → Den K H F y dy → Den K H F u du → (g (.str z) dy du).wp (Fin1 K H F Q) NoE → r (.str z) [y, u] H Q
section
variable {X : Cx} {W : WX} {o e f : Expr} {fo fe ff : Env → R D}
theorem ex_m2 {id : String} {name : Str} {apos pos : Pos} {r : V → List V → Hp → VK → Prop} {g : D → D → D → R D} (slot : Slot "str" name id) (ty : typeOf (.builtin id) = pure (.type "method_descriptor")) (rule : MtR X id r) (hg : G2M X.K r g) (ho : Ex X W o fo) (he : Ex X W e fe) (hf : Ex X W f ff)
    (hs : starEach [e, f] X.env = [(false, eval e X.env), (false, eval f X.env)] := by rfl) (hbase : attributeBase o name X.env (eval o X.env) = eval o X.env := by rfl) (hline : (apos.endLine == pos.line) = true := by rfl) :
    Ex X W (.Call (.Attribute o name apos) [e, f] [] pos) (m2E g fo fe ff) := by
  refine PE.imp (pe_m2 slot ty rule ho he hf hs hbase hline) fun σ H Q ⟨ε, F, re, q⟩ => ⟨ε, F, re, ?_⟩
  refine R.wp_mono (R.wp_bind q) (fun dx k v H1 F1 g1 d1 => ?_) (fun e k => k)
  cases d1 with
  | str z hz =>
    refine ⟨⟨z, rfl⟩, ε, F1, re.grow g1, ?_⟩
    have k : (fe ε >>= fun y => ff ε >>= fun u => (g (.str z) y u).hard).wp _ _ := k
    refine R.wp_mono (R.wp_bind k) (fun dy k w H2 F2 g2 d2 => ⟨ε, F2, re.grow (g1.trans g2), ?_⟩) (fun e k cls x H' F' g => k cls x H' F' (g1.trans g))
    refine R.wp_mono (R.wp_bind k) (fun du k u H3 F3 g3 d3 => ?_) (fun e k cls x H' F' g => k cls x H' F' (g1.trans (g2.trans g)))
    exact hg z _ _ _ _ _ _ _ hz g3.ok (d2.grow g3) d3 (hardN k fun d k => fin_grow (g1.trans (g2.trans g3)) k)
  | _ => exact k.elim
end
def find3D : D → D → D → R D
  | .str a, .str b, .int i => .ok (.int (Txt.find3 a b i))
  | _, _, _ => .stuck
def start3D : D → D → D → R D
  | .str a, .str b, .int i => .ok (.bool (Txt.startswith3 a b i))
  | _, _, _ => .stuck
section
variable {K : PySem.W.Frag}
theorem g_find3 : G2M K (fun x xs H Q => ∃ (a b : Str) (i : Int), x = .str a ∧ xs = [.str b, .int i] ∧ Q (.int (Txt.find3 a b i)) H) find3D := fun z y dy u du H F Q hz ok hd hu k => by
  cases hd with
  | str b hb =>
    cases hu with
    | int i => exact ⟨z, b, i, rfl, rfl, fin_same k ok (.int _)⟩
    | _ => exact k.elim
  | _ => exact k.elim
theorem g_start3 : G2M K (fun x xs H Q => ∃ (a b : Str) (i : Int), x = .str a ∧ xs = [.str b, .int i] ∧ Q (.bl (Txt.startswith3 a b i)) H) start3D := fun z y dy u du H F Q hz ok hd hu k => by
  cases hd with
  | str b hb =>
    cases hu with
    | int i => exact ⟨z, b, i, rfl, rfl, fin_same k ok (.bl _)⟩
    | _ => exact k.elim
  | _ => exact k.elim
end
section
variable {X : Cx} {W : WX} {o e f : Expr} {fo fe ff : Env → R D} {apos pos : Pos}
theorem ex_find3 (ho : Ex X W o fo) (he : Ex X W e fe) (hf : Ex X W f ff) (hs : starEach [e, f] X.env = [(false, eval e X.env), (false, eval f X.env)] := by rfl) (hbase : attributeBase o "find" X.env (eval o X.env) = eval o X.env := by rfl) (hline : (apos.endLine == pos.line) = true := by rfl) :
    Ex X W (.Call (.Attribute o "find" apos) [e, f] [] pos) (m2E find3D fo fe ff) := ex_m2 F.slot_str_find F.type_str_find mt_find3 g_find3 ho he hf hs hbase hline
theorem ex_start3 (ho : Ex X W o fo) (he : Ex X W e fe) (hf : Ex X W f ff) (hs : starEach [e, f] X.env = [(false, eval e X.env), (false, eval f X.env)] := by rfl) (hbase : attributeBase o "startswith" X.env (eval o X.env) = eval o X.env := by rfl) (hline : (apos.endLine == pos.line) = true := by rfl) :
    Ex X W (.Call (.Attribute o "startswith" apos) [e, f] [] pos) (m2E start3D fo fe ff) := ex_m2 F.slot_str_startswith F.type_str_startswith mt_startswith3 g_start3 ho he hf hs hbase hline
end
/-! evaluation -/
def m2K (g : D → D → D → R D) (r : R D) (fe ff : Env → R D) (ε : Env) : R D := r >>= fun x => (sStr x).hard >>= fun x => fe ε >>= fun y => ff ε >>= fun z => (g x y z).hard
def m2J (g : D → D → D → R D) (x : D) (r q : R D) : R D := r >>= fun y => q >>= fun z => (g x y z).hard
theorem ev_m2 (g : D → D → D → R D) (fo fe ff : Env → R D) (ε : Env) : m2E g fo fe ff ε = m2K g (fo ε) fe ff ε := Eq.trans rfl rfl
theorem ev_m2k (g : D → D → D → R D) (z : Str) (fe ff : Env → R D) (ε : Env) : m2K g (.ok (.str z)) fe ff ε = m2J g (.str z) (fe ε) (ff ε) := Eq.trans rfl rfl
theorem ev_m2j (g : D → D → D → R D) (x y z : D) : m2J g x (.ok y) (.ok z) = (g x y z).hard := Eq.trans rfl rfl
theorem v_start3 (a b : Str) (i : Int) : start3D (.str a) (.str b) (.int i) = .ok (.bool (Txt.startswith3 a b i)) := Eq.trans rfl rfl
theorem v_find3 (a b : Str) (i : Int) : find3D (.str a) (.str b) (.int i) = .ok (.int (Txt.find3 a b i)) := Eq.trans rfl rfl
end RB

set_option Elab.async false
set_option linter.all false
set_option maxRecDepth 100000
set_option maxHeartbeats 4000000
noncomputable section
namespace K39
open PySem PySem.Spec PyProof.Rows L2 RB Lib
def b__law_arches_1 : Gam → R Fl := seqS (ifS [3] (andT (testE (op2E inD (op2E ixD (var 0) (var 4)) (sliceE (con (.str "abcd")) none (some (var 1))))) (testE (op2E ninD (op2E ixD (var 0) (var 4)) (var 3))))
  (appS [] 3 (op2E ixD (var 0) (var 4)))
  (nilS))
  (ifS [3] (testE (op2E eqD (callE lenG [var 3]) (var 1)))
  (seqS (appS [] 2 (var 4))
  (ownS [] 3 (evL [])))
  (nilS))
def g__law_arches : Gam → R Fl := seqS (ownS [] 2 (evL []))
  (seqS (ownS [] 3 (evL []))
  (seqS (forS [] (rangeE [callE lenG [var 0]]) (.nm 4)
  (b__law_arches_1))
  (retS [2] (callE (on1 tupG) [var 2]))))
def S__law_arches : List D → R D := runS 5 g__law_arches
def b__law_within_1 : Gam → R Fl := ifS [] (andT (testE (op2E ltD (var 2) (callE lenG [var 1]))) (testE (op2E eqD (op2E ixD (var 1) (var 2)) (var 3))))
  (setS [] 2 (op2E addD (var 2) (con (.int 1))))
  (nilS)
def g__law_within : Gam → R Fl := seqS (setS [] 2 (con (.int 0)))
  (seqS (forS [] (seqE (var 0)) (.nm 3)
  (b__law_within_1))
  (retS [] (op2E eqD (var 2) (callE lenG [var 1]))))
def S__law_within : List D → R D := runS 4 g__law_within
def b__law_missing_1 : Gam → R Fl := ifS [] (notT (testE (usrE S__law_within [var 0, var 4])))
  (retS [] (var 4))
  (nilS)
def b__law_missing_2 : Gam → R Fl := setS [] 5 (op2E addD (var 5) (dataF (compE [6] (seqE (sliceE (con (.str "abcd")) none (some (var 1)))) (.nm 6) (fun _ => .ok true) (op2E addD (var 4) (var 6)))))
def b__law_missing_3 : Gam → R Fl := seqS (forS [] (seqE (var 2)) (.nm 4)
  (b__law_missing_1))
  (seqS (setS [] 5 (dataF (evL [])))
  (seqS (forS [] (seqE (var 2)) (.nm 4)
  (b__law_missing_2))
  (setS [] 2 (var 5))))
def g__law_missing : Gam → R Fl := seqS (setS [] 2 (dataF (evL [con (.str "")])))
  (seqS (forS [] (rangeE [con (.int 13)]) (.nm 3)
  (b__law_missing_3))
  (retS [] (con .none)))
def S__law_missing : List D → R D := runS 7 g__law_missing
def g_is_short : Gam → R Fl := retS [] (usrE S_is_letters_of [var 0, con (.int 0), con (.int 12)])
def S_is_short : List D → R D := runS 1 g_is_short
def g_want_short : Gam → R Fl := ifS [] (notT (testE (usrE S_is_short [var 0])))
  ((fun _ => .stuck))
  (nilS)
def S_want_short : List D → R D := runS 2 g_want_short
def b_missing_1 : Gam → R Fl := seqS (setS [] 6 (m2E find3D (var 0) (var 5) (var 3)))
  (seqS (setS [2] 7 (ifE (testE (op2E ltD (var 6) (con (.int 0)))) (var 5) (op2E addD (var 5) (op2E ixD (var 2) (op2E addD (var 6) (con (.int 1)))))))
  (ifS [] (orT (testE (op2E eqD (var 4) (con (.str "")))) (testE (op2E ltD (callE lenG [var 7]) (callE lenG [var 4]))))
  (setS [] 4 (var 7))
  (nilS)))
def b_missing_2 : Gam → R Fl := seqS (setS [] 4 (con (.str "")))
  (seqS (forS [] (seqE (sliceE (con (.str "abcdefghijklmnopqrstuvwxyz")) none (some (var 1)))) (.nm 5)
  (b_missing_1))
  (putS [] 2 (var 4) (var 3)))
def g_missing : Gam → R Fl := seqS (dropS [] (usrE S_want_short [var 0, con (.int 1)]))
  (seqS (dropS [] (usrE S_want_int [var 1, con (.int 1), con (.int 4), con (.int 2)]))
  (seqS (ownS [] 2 (repF (evL [con (.str "")]) (op2E addD (callE lenG [var 0]) (con (.int 1)))))
  (seqS (forS [] (rangeE [callE lenG [var 0], op1E negD (con (.int 1)), op1E negD (con (.int 1))]) (.nm 3)
  (b_missing_2))
  (retS [2] (op2E ixD (var 2) (con (.int 0)))))))
def S_missing : List D → R D := runS 8 g_missing
def b_arches_1 : Gam → R Fl := seqS (ifS [] (testE (op2E inD (var 5) (sliceE (con (.str "abcdefghijklmnopqrstuvwxyz")) none (some (var 1)))))
  (putDS [] 3 (con (.bool true)) (var 5))
  (nilS))
  (ifS [3] (testE (op2E eqD (callE (on1 lenDG) [var 3]) (var 1)))
  (seqS (appS [] 2 (var 4))
  (ownDS [] 3 false (emptyDF)))
  (nilS))
def g_arches : Gam → R Fl := seqS (dropS [] (usrE S_want_short [var 0, con (.int 1)]))
  (seqS (dropS [] (usrE S_want_int [var 1, con (.int 1), con (.int 4), con (.int 2)]))
  (seqS (ownS [] 2 (evL []))
  (seqS (ownDS [] 3 false (emptyDF))
  (seqS (forS [] (enumE (var 0)) (.tup [(.nm 4), (.nm 5)])
  (b_arches_1))
  (retS [2] (callE (on1 tupG) [var 2]))))))
def S_arches : List D → R D := runS 6 g_arches
def g_is_rising : Gam → R Fl := retS [] (callE (on1 allG) [dataF (compE [1] (rangeE [op2E subD (callE lenG [var 0]) (con (.int 1))]) (.nm 1) (fun _ => .ok true) (op2E ltD (op2E ixD (var 0) (var 1)) (op2E ixD (var 0) (op2E addD (var 1) (con (.int 1))))))])
def S_is_rising : List D → R D := runS 2 g_is_rising
def g_is_number_set : Gam → R Fl := retS [] (andE (usrE S_is_row [var 0]) (andE (callE (on1 allG) [dataF (compE [3] (seqE (var 0)) (.nm 3) (fun _ => .ok true) (usrE S_is_between [var 3, var 1, var 2]))]) (usrE S_is_rising [var 0])))
def S_is_number_set : List D → R D := runS 4 g_is_number_set
def b_is_arches_1 : Gam → R Fl := seqS (ifS [] (notT (testE (callE (on1 allG) [dataF (compE [5] (seqE (sliceE (con (.str "abcdefghijklmnopqrstuvwxyz")) none (some (var 1)))) (.nm 5) (fun _ => .ok true) (op2E inD (var 5) (sliceE (var 0) (some (var 3)) (some (op2E addD (var 4) (con (.int 1)))))))])))
  (retS [] (con (.bool false)))
  (nilS))
  (setS [] 3 (op2E addD (var 4) (con (.int 1))))
def g_is_arches : Gam → R Fl := seqS (dropS [] (usrE S_want_short [var 0, con (.int 1)]))
  (seqS (dropS [] (usrE S_want_int [var 1, con (.int 1), con (.int 4), con (.int 2)]))
  (seqS (ifS [] (notT (testE (usrE S_is_number_set [var 2, con (.int 0), op2E subD (callE lenG [var 0]) (con (.int 1))])))
  (retS [] (con (.bool false)))
  (nilS))
  (seqS (setS [] 3 (con (.int 0)))
  (seqS (forS [] (seqE (var 2)) (.nm 4)
  (b_is_arches_1))
  (retS [] (con (.bool true)))))))
def S_is_arches : List D → R D := runS 6 g_is_arches
def b__law_right_1 : Gam → R Fl := seqS (ifS [] (orT (notT (testE (bE (isiE isInt (var 4))))) (orT (testE (bE (isiE isBool (var 4)))) (orT (testE (op2E leD (var 4) (var 3))) (testE (op2E geD (var 4) (callE lenG [var 0]))))))
  (retS [] (con (.bool false)))
  (nilS))
  (seqS (ifS [] (testE (op2E neD (dataF (compE [5] (seqE (sliceE (con (.str "abcd")) none (some (var 1)))) (.nm 5) (testE (op2E ninD (var 5) (sliceE (var 0) (some (op2E addD (var 3) (con (.int 1)))) (some (op2E addD (var 4) (con (.int 1))))))) (var 5))) (dataF (evL []))))
  (retS [] (con (.bool false)))
  (nilS))
  (setS [] 3 (var 4)))
def g__law_right : Gam → R Fl := seqS (ifS [] (notT (testE (bE (isiE isTup (var 2)))))
  (retS [] (con (.bool false)))
  (nilS))
  (seqS (setS [] 3 (op1E negD (con (.int 1))))
  (seqS (forS [] (seqE (var 2)) (.nm 4)
  (b__law_right_1))
  (retS [] (con (.bool true)))))
def S__law_right : List D → R D := runS 6 g__law_right
def g__law_tupled : Gam → R Fl := seqS (ifS [] (testE (bE (isiE isLst (var 0))))
  (retS [] (callE (on1 tupG) [var 0]))
  (nilS))
  (retS [] (var 0))
def S__law_tupled : List D → R D := runS 1 g__law_tupled
def b_law_1 : Gam → R Fl := ifS [] (notT (testE (usrE (S__law_same 6) [usrE S_is_arches [var 3, var 2, var 8], usrE S__law_right [var 3, var 2, usrE S__law_tupled [var 8]]])))
  (retS [] (con (.bool false)))
  (nilS)
def b_law_2 : Gam → R Fl := setS [] 9 (op2E addD (var 9) (callE (on1 intG) [op2E eqD (var 10) (con (.str "a"))]))
def g_law : Gam → R Fl := seqS (setS [] 1 (usrE S__law_numbers [var 0, con (.int 0), con (.int 4)]))
  (seqS (setS [] 2 (op2E addD (con (.int 2)) (op2E modD (callE (on1 intG) [op2E ixD (var 1) (con (.int 0))]) (con (.int 2)))))
  (seqS (setS [] 3 (usrE S__law_text [op2E ixD (var 1) (con (.int 1)), con (.int 12), op2E addD (var 2) (op2E modD (callE (on1 intG) [op2E divD (op2E ixD (var 1) (con (.int 0))) (con (.int 2))]) (con (.int 2)))]))
  (seqS (setS [] 4 (usrE S__law_arches [var 3, var 2]))
  (seqS (setS [] 5 (usrE S__law_missing [var 3, var 2]))
  (seqS (ifS [] (orT (notT (testE (usrE (S__law_same 6) [usrE S_arches [var 3, var 2], var 4]))) (orT (notT (testE (usrE (S__law_same 6) [usrE S_missing [var 3, var 2], var 5]))) (testE (op2E neD (callE lenG [var 5]) (op2E addD (callE lenG [var 4]) (con (.int 1)))))))
  (retS [] (con (.bool false)))
  (nilS))
  (seqS (setS [] 6 (callE (on1 tupG) [dataF (compE [7] (seqE (var 4)) (.nm 7) (fun _ => .ok true) (callE (on1 minG) [dataF (evL [op2E addD (var 7) (con (.int 1)), op2E subD (callE lenG [var 3]) (con (.int 1))])]))]))
  (seqS (forS [] (seqE (dataF (evL [var 4, sliceE (var 4) (some (con (.int 1))) none, rev2E (var 4), var 6, tupE [], con .none, con (.int 7), tupL (rg1E (callE lenG [var 3])), op2E addD (var 4) (sliceE (var 4) none (some (con (.int 1)))), tupE [callE lenG [var 3]], tupE [op2E subD (callE lenG [var 3]) (con (.int 1))], tupE [con (.bool true)], tupE [op1E negD (con (.int 1))], dataF (callF (on1L itemsG) [var 4])]))) (.nm 8)
  (b_law_1))
  (seqS (setS [] 9 (con (.int 0)))
  (seqS (forS [] (seqE (var 3)) (.nm 10)
  (b_law_2))
  (retS [] (andE (usrE (S__law_same 6) [usrE S_missing [var 3, con (.int 1)], op2E mulB (con (.str "a")) (op2E addD (var 9) (con (.int 1)))]) (andE (usrE (S__law_same 6) [callE lenG [usrE S_arches [var 3, con (.int 1)]], var 9]) (andE (usrE (S__law_same 6) [usrE S_missing [con (.str ""), con (.int 4)], con (.str "a")]) (usrE (S__law_same 6) [usrE S_missing [con (.str "abcdabcd"), con (.int 4)], usrE S__law_missing [con (.str "abcdabcd"), con (.int 4)]]))))))))))))))
def S_law : List D → R D := runS 11 g_law
end K39
end

set_option Elab.async false
set_option linter.all false
set_option maxRecDepth 100000
set_option maxHeartbeats 8000000
namespace K39
open PySem PySem.Spec PyProof.Rows L2 RB Lib
def top (i : Nat) : Stmt := PySem.Challenge.pw_readsback_k39_whole_arches_and_what_is_m.main.body.getD i (.Pass ⟨0, 0, 0, 0⟩)
abbrev sm__law_cell : Stmt := top 22
def d__law_cell : He.DefD := ⟨("_law_cell", none), "_law_cell", "_law_cell", defArgs sm__law_cell, defBody sm__law_cell, defScope sm__law_cell, [], []⟩
abbrev sm__law_numbers : Stmt := top 23
def d__law_numbers : He.DefD := ⟨("_law_numbers", none), "_law_numbers", "_law_numbers", defArgs sm__law_numbers, defBody sm__law_numbers, defScope sm__law_numbers, [], []⟩
abbrev sm__law_text : Stmt := top 26
def d__law_text : He.DefD := ⟨("_law_text", none), "_law_text", "_law_text", defArgs sm__law_text, defBody sm__law_text, defScope sm__law_text, [], []⟩
abbrev sm__law_arches : Stmt := top 28
def d__law_arches : He.DefD := ⟨("_law_arches", none), "_law_arches", "_law_arches", defArgs sm__law_arches, defBody sm__law_arches, defScope sm__law_arches, [], []⟩
abbrev sm__law_within : Stmt := top 27
def d__law_within : He.DefD := ⟨("_law_within", none), "_law_within", "_law_within", defArgs sm__law_within, defBody sm__law_within, defScope sm__law_within, [], []⟩
abbrev sm__law_missing : Stmt := top 29
def d__law_missing : He.DefD := ⟨("_law_missing", none), "_law_missing", "_law_missing", defArgs sm__law_missing, defBody sm__law_missing, defScope sm__law_missing, [], []⟩
abbrev sm__law_same : Stmt := top 24
def d__law_same : He.DefD := ⟨("_law_same", none), "_law_same", "_law_same", defArgs sm__law_same, defBody sm__law_same, defScope sm__law_same, [], []⟩
abbrev sm_has_only : Stmt := top 8
def d_has_only : He.DefD := ⟨("has_only", none), "has_only", "has_only", defArgs sm_has_only, defBody sm_has_only, defScope sm_has_only, [], []⟩
abbrev sm_is_letters : Stmt := top 9
def d_is_letters : He.DefD := ⟨("is_letters", none), "is_letters", "is_letters", defArgs sm_is_letters, defBody sm_is_letters, defScope sm_is_letters, [], []⟩
abbrev sm_is_letters_of : Stmt := top 10
def d_is_letters_of : He.DefD := ⟨("is_letters_of", none), "is_letters_of", "is_letters_of", defArgs sm_is_letters_of, defBody sm_is_letters_of, defScope sm_is_letters_of, [], []⟩
abbrev sm_is_short : Stmt := top 16
def d_is_short : He.DefD := ⟨("is_short", none), "is_short", "is_short", defArgs sm_is_short, defBody sm_is_short, defScope sm_is_short, [], []⟩
abbrev sm_want_short : Stmt := top 17
def d_want_short : He.DefD := ⟨("want_short", none), "want_short", "want_short", defArgs sm_want_short, defBody sm_want_short, defScope sm_want_short, [], []⟩
abbrev sm_is_int : Stmt := top 5
def d_is_int : He.DefD := ⟨("is_int", none), "is_int", "is_int", defArgs sm_is_int, defBody sm_is_int, defScope sm_is_int, [], []⟩
abbrev sm_is_between : Stmt := top 6
def d_is_between : He.DefD := ⟨("is_between", none), "is_between", "is_between", defArgs sm_is_between, defBody sm_is_between, defScope sm_is_between, [], []⟩
abbrev sm_want_int : Stmt := top 13
def d_want_int : He.DefD := ⟨("want_int", none), "want_int", "want_int", defArgs sm_want_int, defBody sm_want_int, defScope sm_want_int, [], []⟩
abbrev sm_missing : Stmt := top 19
def d_missing : He.DefD := ⟨("missing", none), "missing", "missing", defArgs sm_missing, defBody sm_missing, defScope sm_missing, [], []⟩
abbrev sm_arches : Stmt := top 18
def d_arches : He.DefD := ⟨("arches", none), "arches", "arches", defArgs sm_arches, defBody sm_arches, defScope sm_arches, [], []⟩
abbrev sm_is_row : Stmt := top 7
def d_is_row : He.DefD := ⟨("is_row", none), "is_row", "is_row", defArgs sm_is_row, defBody sm_is_row, defScope sm_is_row, [], []⟩
abbrev sm_is_rising : Stmt := top 11
def d_is_rising : He.DefD := ⟨("is_rising", none), "is_rising", "is_rising", defArgs sm_is_rising, defBody sm_is_rising, defScope sm_is_rising, [], []⟩
abbrev sm_is_number_set : Stmt := top 12
def d_is_number_set : He.DefD := ⟨("is_number_set", none), "is_number_set", "is_number_set", defArgs sm_is_number_set, defBody sm_is_number_set, defScope sm_is_number_set, [], []⟩
abbrev sm_is_arches : Stmt := top 20
def d_is_arches : He.DefD := ⟨("is_arches", none), "is_arches", "is_arches", defArgs sm_is_arches, defBody sm_is_arches, defScope sm_is_arches, [], []⟩
abbrev sm__law_right : Stmt := top 30
def d__law_right : He.DefD := ⟨("_law_right", none), "_law_right", "_law_right", defArgs sm__law_right, defBody sm__law_right, defScope sm__law_right, [], []⟩
abbrev sm__law_tupled : Stmt := top 31
def d__law_tupled : He.DefD := ⟨("_law_tupled", none), "_law_tupled", "_law_tupled", defArgs sm__law_tupled, defBody sm__law_tupled, defScope sm__law_tupled, [], []⟩
abbrev sm_law : Stmt := top 32
def d_law : He.DefD := ⟨("law", none), "law", "law", defArgs sm_law, defBody sm_law, defScope sm_law, [], []⟩
def fn : List He.DefD := [d__law_cell, d__law_numbers, d__law_text, d__law_arches, d__law_within, d__law_missing, d__law_same, d_has_only, d_is_letters, d_is_letters_of, d_is_short, d_want_short, d_is_int, d_is_between, d_want_int, d_missing, d_arches, d_is_row, d_is_rising, d_is_number_set, d_is_arches, d__law_right, d__law_tupled, d_law]
def fa : List He.Fa := [.free "len", .free "int", .glo "_law_cell", .free "range", .glo "_law_numbers", .glo "_law_text", .free "tuple", .glo "_law_arches", .glo "_law_within", .glo "_law_missing", .free "isinstance", .free "bool", .free "str", .glo "_law_same", .free "all", .glo "has_only", .str "LETTERS" "abcdefghijklmnopqrstuvwxyz", .glo "is_letters", .glo "is_letters_of", .int "LONGEST" (12), .glo "is_short", .glo "want_short", .glo "is_int", .glo "is_between", .glo "want_int", .glo "missing", .free "enumerate", .glo "arches", .free "list", .glo "is_row", .glo "is_rising", .glo "is_number_set", .glo "is_arches", .glo "_law_right", .glo "_law_tupled", .free "min", .glo "law"]
section
variable {P : Program} {w : World} {K : PySem.W.Frag} {mg : Str → Option Value} {base h : Heap} (X : K.In h) (G : h.Ns mainGlobals mg) (c : He.SaysD fa fn K)
include X G c
theorem m_len : mg "len" = none := He.free_ok X G (c.fact 0 (f := .free "len") rfl)
theorem m_int : mg "int" = none := He.free_ok X G (c.fact 1 (f := .free "int") rfl)
theorem q__law_cell : mg "_law_cell" = some (.ref (He.ga K "_law_cell")) := He.glo_ok X G (c.fact 2 (f := .glo "_law_cell") rfl)
theorem m_range : mg "range" = none := He.free_ok X G (c.fact 3 (f := .free "range") rfl)
theorem q__law_numbers : mg "_law_numbers" = some (.ref (He.ga K "_law_numbers")) := He.glo_ok X G (c.fact 4 (f := .glo "_law_numbers") rfl)
theorem q__law_text : mg "_law_text" = some (.ref (He.ga K "_law_text")) := He.glo_ok X G (c.fact 5 (f := .glo "_law_text") rfl)
theorem m_tuple : mg "tuple" = none := He.free_ok X G (c.fact 6 (f := .free "tuple") rfl)
theorem q__law_arches : mg "_law_arches" = some (.ref (He.ga K "_law_arches")) := He.glo_ok X G (c.fact 7 (f := .glo "_law_arches") rfl)
theorem q__law_within : mg "_law_within" = some (.ref (He.ga K "_law_within")) := He.glo_ok X G (c.fact 8 (f := .glo "_law_within") rfl)
theorem q__law_missing : mg "_law_missing" = some (.ref (He.ga K "_law_missing")) := He.glo_ok X G (c.fact 9 (f := .glo "_law_missing") rfl)
theorem m_isinstance : mg "isinstance" = none := He.free_ok X G (c.fact 10 (f := .free "isinstance") rfl)
theorem m_bool : mg "bool" = none := He.free_ok X G (c.fact 11 (f := .free "bool") rfl)
theorem m_str : mg "str" = none := He.free_ok X G (c.fact 12 (f := .free "str") rfl)
theorem q__law_same : mg "_law_same" = some (.ref (He.ga K "_law_same")) := He.glo_ok X G (c.fact 13 (f := .glo "_law_same") rfl)
theorem m_all : mg "all" = none := He.free_ok X G (c.fact 14 (f := .free "all") rfl)
theorem q_has_only : mg "has_only" = some (.ref (He.ga K "has_only")) := He.glo_ok X G (c.fact 15 (f := .glo "has_only") rfl)
theorem m_LETTERS : ∃ t, mg "LETTERS" = some (.str "abcdefghijklmnopqrstuvwxyz" t) := He.str_ok X G (c.fact 16 (f := .str "LETTERS" "abcdefghijklmnopqrstuvwxyz") rfl)
theorem q_is_letters : mg "is_letters" = some (.ref (He.ga K "is_letters")) := He.glo_ok X G (c.fact 17 (f := .glo "is_letters") rfl)
theorem q_is_letters_of : mg "is_letters_of" = some (.ref (He.ga K "is_letters_of")) := He.glo_ok X G (c.fact 18 (f := .glo "is_letters_of") rfl)
theorem m_LONGEST : ∃ t, mg "LONGEST" = some (.int (12) t) := He.int_ok X G (c.fact 19 (f := .int "LONGEST" (12)) rfl)
theorem q_is_short : mg "is_short" = some (.ref (He.ga K "is_short")) := He.glo_ok X G (c.fact 20 (f := .glo "is_short") rfl)
theorem q_want_short : mg "want_short" = some (.ref (He.ga K "want_short")) := He.glo_ok X G (c.fact 21 (f := .glo "want_short") rfl)
theorem q_is_int : mg "is_int" = some (.ref (He.ga K "is_int")) := He.glo_ok X G (c.fact 22 (f := .glo "is_int") rfl)
theorem q_is_between : mg "is_between" = some (.ref (He.ga K "is_between")) := He.glo_ok X G (c.fact 23 (f := .glo "is_between") rfl)
theorem q_want_int : mg "want_int" = some (.ref (He.ga K "want_int")) := He.glo_ok X G (c.fact 24 (f := .glo "want_int") rfl)
theorem q_missing : mg "missing" = some (.ref (He.ga K "missing")) := He.glo_ok X G (c.fact 25 (f := .glo "missing") rfl)
theorem m_enumerate : mg "enumerate" = none := He.free_ok X G (c.fact 26 (f := .free "enumerate") rfl)
theorem q_arches : mg "arches" = some (.ref (He.ga K "arches")) := He.glo_ok X G (c.fact 27 (f := .glo "arches") rfl)
theorem m_list : mg "list" = none := He.free_ok X G (c.fact 28 (f := .free "list") rfl)
theorem q_is_row : mg "is_row" = some (.ref (He.ga K "is_row")) := He.glo_ok X G (c.fact 29 (f := .glo "is_row") rfl)
theorem q_is_rising : mg "is_rising" = some (.ref (He.ga K "is_rising")) := He.glo_ok X G (c.fact 30 (f := .glo "is_rising") rfl)
theorem q_is_number_set : mg "is_number_set" = some (.ref (He.ga K "is_number_set")) := He.glo_ok X G (c.fact 31 (f := .glo "is_number_set") rfl)
theorem q_is_arches : mg "is_arches" = some (.ref (He.ga K "is_arches")) := He.glo_ok X G (c.fact 32 (f := .glo "is_arches") rfl)
theorem q__law_right : mg "_law_right" = some (.ref (He.ga K "_law_right")) := He.glo_ok X G (c.fact 33 (f := .glo "_law_right") rfl)
theorem q__law_tupled : mg "_law_tupled" = some (.ref (He.ga K "_law_tupled")) := He.glo_ok X G (c.fact 34 (f := .glo "_law_tupled") rfl)
theorem m_min : mg "min" = none := He.free_ok X G (c.fact 35 (f := .free "min") rfl)
theorem q_law : mg "law" = some (.ref (He.ga K "law")) := He.glo_ok X G (c.fact 36 (f := .glo "law") rfl)
omit X G c in theorem sc__law_cell : FnScope ["script", "place"] ["script", "place"] (defScope sm__law_cell) := ⟨rfl, rfl, rfl, by decide +kernel, rfl, by decide +kernel, by decide +kernel⟩
theorem cal__law_cell : Cal P w K mg base 1 "_law_cell" 2 S__law_cell := by
  obtain ⟨fd, F⟩ := c.def_ 0 (d := d__law_cell) rfl
  refine cal_mkD (k := 0) 2 F sc__law_cell (q__law_cell X G c) (fun _ _ _ _ _ _ us hl => match us, hl with | [_, _], _ => rfl) fun cdv A outer s H E F0 hr => ?_
  have nd := (sc__law_cell).nd
  exact (ss_cons (st_if [] (tx_cmp op_ltA g_cmp (ex_var 1) (ex_callB call_len g_len (m_len X G c) (exs_cons (ex_var 0) exs_nil)))
  (ss_one (st_ret [] (ex_callT call_int1 g_int (m_int X G c) (exs_cons (ex_ix L2.ix_seq g_ix (ex_var 0) (ex_var 1)) exs_nil))))
  ss_nil)
  (ss_one (st_ret [] ex_int)))
omit X G c in theorem sc__law_numbers : FnScope ["script", "place", "many", "cell", "numbers", "rest", "k", "twice"] ["script", "place", "many"] (defScope sm__law_numbers) := ⟨rfl, rfl, rfl, by decide +kernel, rfl, by decide +kernel, by decide +kernel⟩
theorem cal__law_numbers : Cal P w K mg base 2 "_law_numbers" 3 S__law_numbers := by
  obtain ⟨fd, F⟩ := c.def_ 1 (d := d__law_numbers) rfl
  refine cal_mkD (k := 1) 3 F sc__law_numbers (q__law_numbers X G c) (fun _ _ _ _ _ _ us hl => match us, hl with | [_, _, _], _ => rfl) fun cdv A outer s H E F0 hr => ?_
  have nd := (sc__law_numbers).nd
  exact (ss_cons (st_set [] 3 (ex_usr (cal__law_cell X G c) hr (by first | exact Nat.le_refl _ | decide | omega) (takes_of rfl rfl rfl rfl) (exs_cons (ex_var 0) (exs_cons (ex_var 1) exs_nil))) nd)
  (ss_cons (st_own [] 4 (fx_lst exs_nil) nd)
  (ss_cons (st_set [] 5 (ex_var 3) nd)
  (ss_cons (st_for [] (passes_of rfl) (ix_range1 (m_range X G c) (exs_cons (ex_var 2) exs_nil)) (gx_nm 6 nd)
  (ss_one (st_if [] (tx_cmp op_geA g_cmp (ex_var 3) (ex_op op_pow g_pow ex_int ex_int))
  (ss_cons (st_app [] 4 (exs_cons (ex_op op_mod g_mod (ex_callT call_int1 g_int (m_int X G c) (exs_cons (ex_var 5) exs_nil)) (ex_op op_pow g_pow ex_int ex_int)) exs_nil))
  (ss_one (st_set [] 5 (ex_op op_divA g_div (ex_var 5) (ex_op op_pow g_pow ex_int ex_int)) nd)))
  (ss_cons (st_set [] 7 (ex_op op_mod g_mod (ex_callT call_int1 g_int (m_int X G c) (exs_cons (ex_op op_addA g_add (ex_op op_addA g_add (ex_op op_mulB g_mulB (ex_var 3) ex_int) (ex_op op_mulB g_mulB (ex_op op_addA g_add (ex_var 6) ex_int) ex_int)) (ex_var 1)) exs_nil)) ex_int) nd)
  (ss_one (st_app [] 4 (exs_cons (ex_op op_mod g_mod (ex_op op_mod g_mod (ex_callT call_int1 g_int (m_int X G c) (exs_cons (ex_op op_addA g_add (ex_op op_mulB g_mulB (ex_var 7) ex_int) (ex_op op_mulB g_mulB (ex_op op_addA g_add (ex_var 6) ex_int) ex_int)) exs_nil)) ex_int) (ex_op op_pow g_pow ex_int ex_int)) exs_nil)))))))
  (ss_one (st_ret [4] (ex_var 4)))))))
omit X G c in theorem sc__law_text : FnScope ["number", "most", "signs", "letters", "rest", "k"] ["number", "most", "signs"] (defScope sm__law_text) := ⟨rfl, rfl, rfl, by decide +kernel, rfl, by decide +kernel, by decide +kernel⟩
theorem cal__law_text : Cal P w K mg base 1 "_law_text" 3 S__law_text := by
  obtain ⟨fd, F⟩ := c.def_ 2 (d := d__law_text) rfl
  refine cal_mkD (k := 0) 3 F sc__law_text (q__law_text X G c) (fun _ _ _ _ _ _ us hl => match us, hl with | [_, _, _], _ => rfl) fun cdv A outer s H E F0 hr => ?_
  have nd := (sc__law_text).nd
  exact (ss_cons (st_set [] 3 ex_str nd)
  (ss_cons (st_set [] 4 (ex_callT call_int1 g_int (m_int X G c) (exs_cons (ex_op op_divA g_div (ex_var 0) ex_int) exs_nil)) nd)
  (ss_cons (st_for [] (passes_of rfl) (ix_range1 (m_range X G c) (exs_cons (ex_op op_mod g_mod (ex_callT call_int1 g_int (m_int X G c) (exs_cons (ex_var 0) exs_nil)) (ex_op op_addA g_add (ex_var 1) ex_int)) exs_nil)) (gx_nm 5 nd)
  (ss_cons (st_set [] 3 (ex_op op_addA g_add (ex_var 3) (ex_ix L2.ix_seq g_ix ex_str (ex_op op_mod g_mod (ex_callT call_int1 g_int (m_int X G c) (exs_cons (ex_var 4) exs_nil)) (ex_var 2)))) nd)
  (ss_one (st_set [] 4 (ex_callT call_int1 g_int (m_int X G c) (exs_cons (ex_op op_divA g_div (ex_var 4) (ex_var 2)) exs_nil)) nd))))
  (ss_one (st_ret [] (ex_var 3))))))
omit X G c in theorem sc__law_arches : FnScope ["text", "signs", "ends", "met", "place"] ["text", "signs"] (defScope sm__law_arches) := ⟨rfl, rfl, rfl, by decide +kernel, rfl, by decide +kernel, by decide +kernel⟩
theorem cal__law_arches : Cal P w K mg base 1 "_law_arches" 2 S__law_arches := by
  obtain ⟨fd, F⟩ := c.def_ 3 (d := d__law_arches) rfl
  refine cal_mkD (k := 0) 2 F sc__law_arches (q__law_arches X G c) (fun _ _ _ _ _ _ us hl => match us, hl with | [_, _], _ => rfl) fun cdv A outer s H E F0 hr => ?_
  have nd := (sc__law_arches).nd
  exact (ss_cons (st_own [] 2 (fx_lst exs_nil) nd)
  (ss_cons (st_own [] 3 (fx_lst exs_nil) nd)
  (ss_cons (st_for [] (passes_of rfl) (ix_range1 (m_range X G c) (exs_cons (ex_callB call_len g_len (m_len X G c) (exs_cons (ex_var 0) exs_nil)) exs_nil)) (gx_nm 4 nd)
  (ss_cons (st_if [3] (tx_w (wx_and (tx_cmp (op_inA (hu66 hr)) g_in (ex_ix L2.ix_seq g_ix (ex_var 0) (ex_var 4)) (ex_slice ex_str px_none (px_some (ex_var 1)))) (wx_and1 (tx_cmp (op_ninA (hu66 hr)) g_nin (ex_ix L2.ix_seq g_ix (ex_var 0) (ex_var 4)) (ex_var 3)))))
  (ss_one (st_app [] 3 (exs_cons (ex_ix L2.ix_seq g_ix (ex_var 0) (ex_var 4)) exs_nil)))
  ss_nil)
  (ss_one (st_if [3] (tx_cmp (op_eqD (hu64 hr)) g_eq (ex_callB call_len g_len (m_len X G c) (exs_cons (ex_var 3) exs_nil)) (ex_var 1))
  (ss_cons (st_app [] 2 (exs_cons (ex_var 4) exs_nil))
  (ss_one (st_own [] 3 (fx_lst exs_nil) nd)))
  ss_nil))))
  (ss_one (st_ret [2] (ex_callT call_tuple_of g_tuple (m_tuple X G c) (exs_cons (ex_var 2) exs_nil)))))))
omit X G c in theorem sc__law_within : FnScope ["text", "part", "here", "letter"] ["text", "part"] (defScope sm__law_within) := ⟨rfl, rfl, rfl, by decide +kernel, rfl, by decide +kernel, by decide +kernel⟩
theorem cal__law_within : Cal P w K mg base 1 "_law_within" 2 S__law_within := by
  obtain ⟨fd, F⟩ := c.def_ 4 (d := d__law_within) rfl
  refine cal_mkD (k := 0) 2 F sc__law_within (q__law_within X G c) (fun _ _ _ _ _ _ us hl => match us, hl with | [_, _], _ => rfl) fun cdv A outer s H E F0 hr => ?_
  have nd := (sc__law_within).nd
  exact (ss_cons (st_set [] 2 ex_int nd)
  (ss_cons (st_for [] (passes_of rfl) (RB.ix_seq (ex_var 0)) (gx_nm 3 nd)
  (ss_one (st_if [] (tx_w (wx_and (tx_cmp op_ltA g_cmp (ex_var 2) (ex_callB call_len g_len (m_len X G c) (exs_cons (ex_var 1) exs_nil))) (wx_and1 (tx_cmp (op_eqD (hu64 hr)) g_eq (ex_ix L2.ix_seq g_ix (ex_var 1) (ex_var 2)) (ex_var 3)))))
  (ss_one (st_set [] 2 (ex_op op_addA g_add (ex_var 2) ex_int) nd))
  ss_nil)))
  (ss_one (st_ret [] (ex_cmp (op_eqD (hu64 hr)) g_eq (ex_var 2) (ex_callB call_len g_len (m_len X G c) (exs_cons (ex_var 1) exs_nil)))))))
omit X G c in theorem sc__law_missing : FnScope ["text", "signs", "rows", "turn", "part", "more", "sign"] ["text", "signs"] (defScope sm__law_missing) := ⟨rfl, rfl, rfl, by decide +kernel, rfl, by decide +kernel, by decide +kernel⟩
theorem cal__law_missing : Cal P w K mg base 2 "_law_missing" 2 S__law_missing := by
  obtain ⟨fd, F⟩ := c.def_ 5 (d := d__law_missing) rfl
  refine cal_mkD (k := 1) 2 F sc__law_missing (q__law_missing X G c) (fun _ _ _ _ _ _ us hl => match us, hl with | [_, _], _ => rfl) fun cdv A outer s H E F0 hr => ?_
  have nd := (sc__law_missing).nd
  exact (ss_cons (st_set [] 2 (Fx.ex (fx_lst (exs_cons ex_str exs_nil))) nd)
  (ss_cons (st_for [] (passes_of rfl) (ix_range1 (m_range X G c) (exs_cons ex_int exs_nil)) (gx_nm 3 nd)
  (ss_cons (st_for [] (passes_of rfl) (RB.ix_seq (ex_var 2)) (gx_nm 4 nd)
  (ss_one (st_if [] (tx_not (tx_val (ex_usr (cal__law_within X G c) hr (by first | exact Nat.le_refl _ | decide | omega) (takes_of rfl rfl rfl rfl) (exs_cons (ex_var 0) (exs_cons (ex_var 4) exs_nil)))))
  (ss_one (st_ret [] (ex_var 4)))
  ss_nil)))
  (ss_cons (st_set [] 5 (Fx.ex (fx_lst exs_nil)) nd)
  (ss_cons (st_for [] (passes_of rfl) (RB.ix_seq (ex_var 2)) (gx_nm 4 nd)
  (ss_one (st_set [] 5 (ex_op op_addA g_add (ex_var 5) (Fx.ex (fx_lc nd (RB.ix_seq (ex_slice ex_str px_none (px_some (ex_var 1)))) (blkOk_by (own := [("sign", 6)]) (by kernel_rfl)) (by decide) (fun _ _ _ _ _ => (gx_nm 6 nd)) (fun _ _ _ _ _ => txs_nil) (fun _ _ _ _ _ => (ex_op op_addA g_add (ex_var 4) (ex_var 6)))))) nd)))
  (ss_one (st_set [] 2 (ex_var 5) nd))))))
  (ss_one (st_ret [] ex_non))))
omit X G c in theorem sc__law_same : FnScope ["one", "other", "k"] ["one", "other"] (defScope sm__law_same) := ⟨rfl, rfl, rfl, by decide +kernel, rfl, by decide +kernel, by decide +kernel⟩
theorem cal__law_same : ∀ lv : Nat, Cal P w K mg base (lv + 1) "_law_same" 2 (S__law_same lv)
  | 0 => by
    obtain ⟨fd, F⟩ := c.def_ 6 (d := d__law_same) rfl
    exact cal_mkD 2 F sc__law_same (q__law_same X G c) (fun _ _ _ _ _ _ us hl => match us, hl with | [_, _], _ => rfl) fun cdv A outer s H E F0 hr => sts_never
  | lv + 1 => by
    obtain ⟨fd, F⟩ := c.def_ 6 (d := d__law_same) rfl
    have ih := cal__law_same lv
    have k0 : 0 ≤ lv + 1 + 0 := by omega
    refine cal_mkD (k := lv + 1 + 0) 2 F sc__law_same (q__law_same X G c) (fun _ _ _ _ _ _ us hl => match us, hl with | [_, _], _ => rfl) fun cdv A outer s H E F0 hr => ?_
    have nd := (sc__law_same).nd
    exact (ss_cons (st_if [] (tx_w (wx_or (tx_val (ex_isi (m_isinstance X G c) (m_tuple X G c) isi_tup (ex_var 1))) (wx_or1 (tx_val (ex_isi (m_isinstance X G c) (m_tuple X G c) isi_tup (ex_var 0))))))
  (ss_cons (st_if [] (tx_w (wx_or (tx_not (tx_val (ex_isi (m_isinstance X G c) (m_tuple X G c) isi_tup (ex_var 0)))) (wx_or (tx_not (tx_val (ex_isi (m_isinstance X G c) (m_tuple X G c) isi_tup (ex_var 1)))) (wx_or1 (tx_cmp (op_neD (hu64 hr)) g_ne (ex_callB call_len g_len (m_len X G c) (exs_cons (ex_var 0) exs_nil)) (ex_callB call_len g_len (m_len X G c) (exs_cons (ex_var 1) exs_nil)))))))
  (ss_one (st_ret [] ex_bl))
  ss_nil)
  (ss_cons (st_for [] (passes_of rfl) (ix_range1 (m_range X G c) (exs_cons (ex_callB call_len g_len (m_len X G c) (exs_cons (ex_var 1) exs_nil)) exs_nil)) (gx_nm 2 nd)
  (ss_one (st_if [] (tx_not (tx_val (ex_usr ih hr (by first | exact Nat.le_refl _ | decide | omega) (takes_of rfl rfl rfl rfl) (exs_cons (ex_ix L2.ix_seq g_ix (ex_var 0) (ex_var 2)) (exs_cons (ex_ix L2.ix_seq g_ix (ex_var 1) (ex_var 2)) exs_nil)))))
  (ss_one (st_ret [] ex_bl))
  ss_nil)))
  (ss_one (st_ret [] ex_bl))))
  ss_nil)
  (ss_cons (st_if [] (tx_w (wx_or (tx_isN (ex_var 0)) (wx_or1 (tx_isN (ex_var 1)))))
  (ss_one (st_ret [] (ex_and (ex_isN (ex_var 0)) (ex_one (ex_isN (ex_var 1))))))
  ss_nil)
  (ss_cons (st_if [] (tx_w (wx_or (tx_cmp (op_neD (hu64 hr)) g_ne (ex_isi (m_isinstance X G c) (m_bool X G c) isi_bool (ex_var 0)) (ex_isi (m_isinstance X G c) (m_bool X G c) isi_bool (ex_var 1))) (wx_or1 (tx_cmp (op_neD (hu64 hr)) g_ne (ex_isi (m_isinstance X G c) (m_str X G c) isi_str (ex_var 0)) (ex_isi (m_isinstance X G c) (m_str X G c) isi_str (ex_var 1))))))
  (ss_one (st_ret [] ex_bl))
  ss_nil)
  (ss_one (st_ret [] (ex_and (ex_isi2 (m_isinstance X G c) (m_int X G c) (m_str X G c) isi_int isi_str (ex_var 0)) (ex_and (ex_isi2 (m_isinstance X G c) (m_int X G c) (m_str X G c) isi_int isi_str (ex_var 1)) (ex_one (ex_cmp (op_eqD (hu64 hr)) g_eq (ex_var 0) (ex_var 1))))))))))
omit X G c in theorem sc_has_only : FnScope ["text", "letters", "sign"] ["text", "letters"] (defScope sm_has_only) := ⟨rfl, rfl, rfl, by decide +kernel, rfl, by decide +kernel, by decide +kernel⟩
theorem cal_has_only : Cal P w K mg base 1 "has_only" 2 S_has_only := by
  obtain ⟨fd, F⟩ := c.def_ 7 (d := d_has_only) rfl
  refine cal_mkD (k := 0) 2 F sc_has_only (q_has_only X G c) (fun _ _ _ _ _ _ us hl => match us, hl with | [_, _], _ => rfl) fun cdv A outer s H E F0 hr => ?_
  have nd := (sc_has_only).nd
  exact (ss_one (st_ret [] (ex_callB (cr_all rfl) g_all (m_all X G c) (exs_cons (Fx.ex (fx_lc nd (RB.ix_seq (ex_var 0)) (blkOk_by (own := [("sign", 2)]) (by kernel_rfl)) (by decide) (fun _ _ _ _ _ => (gx_nm 2 nd)) (fun _ _ _ _ _ => txs_nil) (fun _ _ _ _ _ => (ex_cmp (op_inA (hu66 hr)) g_in (ex_var 2) (ex_var 1))))) exs_nil))))
omit X G c in theorem sc_is_letters : FnScope ["value"] ["value"] (defScope sm_is_letters) := ⟨rfl, rfl, rfl, by decide +kernel, rfl, by decide +kernel, by decide +kernel⟩
theorem cal_is_letters : Cal P w K mg base 2 "is_letters" 1 S_is_letters := by
  obtain ⟨fd, F⟩ := c.def_ 8 (d := d_is_letters) rfl
  refine cal_mkD (k := 1) 1 F sc_is_letters (q_is_letters X G c) (fun _ _ _ _ _ _ us hl => match us, hl with | [_], _ => rfl) fun cdv A outer s H E F0 hr => ?_
  have nd := (sc_is_letters).nd
  exact (ss_one (st_ret [] (ex_and (ex_isi (m_isinstance X G c) (m_str X G c) isi_str (ex_var 0)) (ex_one (ex_usr (cal_has_only X G c) hr (by first | exact Nat.le_refl _ | decide | omega) (takes_of rfl rfl rfl rfl) (exs_cons (ex_var 0) (exs_cons (ex_globS (m_LETTERS X G c)) exs_nil)))))))
omit X G c in theorem sc_is_letters_of : FnScope ["value", "low", "high"] ["value", "low", "high"] (defScope sm_is_letters_of) := ⟨rfl, rfl, rfl, by decide +kernel, rfl, by decide +kernel, by decide +kernel⟩
theorem cal_is_letters_of : Cal P w K mg base 3 "is_letters_of" 3 S_is_letters_of := by
  obtain ⟨fd, F⟩ := c.def_ 9 (d := d_is_letters_of) rfl
  refine cal_mkD (k := 2) 3 F sc_is_letters_of (q_is_letters_of X G c) (fun _ _ _ _ _ _ us hl => match us, hl with | [_, _, _], _ => rfl) fun cdv A outer s H E F0 hr => ?_
  have nd := (sc_is_letters_of).nd
  exact (ss_one (st_ret [] (ex_and (ex_usr (cal_is_letters X G c) hr (by first | exact Nat.le_refl _ | decide | omega) (takes_of rfl rfl rfl rfl) (exs_cons (ex_var 0) exs_nil)) (ex_one (ex_chain op_leA op_leA g_cmp g_cmp (ex_var 1) (ex_callB call_len g_len (m_len X G c) (exs_cons (ex_var 0) exs_nil)) (ex_var 2))))))
omit X G c in theorem sc_is_short : FnScope ["value"] ["value"] (defScope sm_is_short) := ⟨rfl, rfl, rfl, by decide +kernel, rfl, by decide +kernel, by decide +kernel⟩
theorem cal_is_short : Cal P w K mg base 4 "is_short" 1 S_is_short := by
  obtain ⟨fd, F⟩ := c.def_ 10 (d := d_is_short) rfl
  refine cal_mkD (k := 3) 1 F sc_is_short (q_is_short X G c) (fun _ _ _ _ _ _ us hl => match us, hl with | [_], _ => rfl) fun cdv A outer s H E F0 hr => ?_
  have nd := (sc_is_short).nd
  exact (ss_one (st_ret [] (ex_usr (cal_is_letters_of X G c) hr (by first | exact Nat.le_refl _ | decide | omega) (takes_of rfl rfl rfl rfl) (exs_cons (ex_var 0) (exs_cons ex_int (exs_cons (ex_globI (m_LONGEST X G c)) exs_nil))))))
omit X G c in theorem sc_want_short : FnScope ["value", "at"] ["value", "at"] (defScope sm_want_short) := ⟨rfl, rfl, rfl, by decide +kernel, rfl, by decide +kernel, by decide +kernel⟩
theorem cal_want_short : Cal P w K mg base 5 "want_short" 2 S_want_short := by
  obtain ⟨fd, F⟩ := c.def_ 11 (d := d_want_short) rfl
  refine cal_mkD (k := 4) 2 F sc_want_short (q_want_short X G c) (fun _ _ _ _ _ _ us hl => match us, hl with | [_, _], _ => rfl) fun cdv A outer s H E F0 hr => ?_
  have nd := (sc_want_short).nd
  exact (ss_one (st_if [] (tx_not (tx_val (ex_usr (cal_is_short X G c) hr (by first | exact Nat.le_refl _ | decide | omega) (takes_of rfl rfl rfl rfl) (exs_cons (ex_var 0) exs_nil))))
  (ss_one st_never)
  ss_nil))
omit X G c in theorem sc_is_int : FnScope ["value"] ["value"] (defScope sm_is_int) := ⟨rfl, rfl, rfl, by decide +kernel, rfl, by decide +kernel, by decide +kernel⟩
theorem cal_is_int : Cal P w K mg base 1 "is_int" 1 S_is_int := by
  obtain ⟨fd, F⟩ := c.def_ 12 (d := d_is_int) rfl
  refine cal_mkD (k := 0) 1 F sc_is_int (q_is_int X G c) (fun _ _ _ _ _ _ us hl => match us, hl with | [_], _ => rfl) fun cdv A outer s H E F0 hr => ?_
  have nd := (sc_is_int).nd
  exact (ss_one (st_ret [] (ex_and (ex_isi (m_isinstance X G c) (m_int X G c) isi_int (ex_var 0)) (ex_one (ex_not (ex_isi (m_isinstance X G c) (m_bool X G c) isi_bool (ex_var 0)))))))
omit X G c in theorem sc_is_between : FnScope ["value", "low", "high"] ["value", "low", "high"] (defScope sm_is_between) := ⟨rfl, rfl, rfl, by decide +kernel, rfl, by decide +kernel, by decide +kernel⟩
theorem cal_is_between : Cal P w K mg base 2 "is_between" 3 S_is_between := by
  obtain ⟨fd, F⟩ := c.def_ 13 (d := d_is_between) rfl
  refine cal_mkD (k := 1) 3 F sc_is_between (q_is_between X G c) (fun _ _ _ _ _ _ us hl => match us, hl with | [_, _, _], _ => rfl) fun cdv A outer s H E F0 hr => ?_
  have nd := (sc_is_between).nd
  exact (ss_one (st_ret [] (ex_and (ex_usr (cal_is_int X G c) hr (by first | exact Nat.le_refl _ | decide | omega) (takes_of rfl rfl rfl rfl) (exs_cons (ex_var 0) exs_nil)) (ex_one (ex_chain op_leA op_leA g_cmp g_cmp (ex_var 1) (ex_var 0) (ex_var 2))))))
omit X G c in theorem sc_want_int : FnScope ["value", "low", "high", "at"] ["value", "low", "high", "at"] (defScope sm_want_int) := ⟨rfl, rfl, rfl, by decide +kernel, rfl, by decide +kernel, by decide +kernel⟩
theorem cal_want_int : Cal P w K mg base 3 "want_int" 4 S_want_int := by
  obtain ⟨fd, F⟩ := c.def_ 14 (d := d_want_int) rfl
  refine cal_mkD (k := 2) 4 F sc_want_int (q_want_int X G c) (fun _ _ _ _ _ _ us hl => match us, hl with | [_, _, _, _], _ => rfl) fun cdv A outer s H E F0 hr => ?_
  have nd := (sc_want_int).nd
  exact (ss_one (st_if [] (tx_not (tx_val (ex_usr (cal_is_between X G c) hr (by first | exact Nat.le_refl _ | decide | omega) (takes_of rfl rfl rfl rfl) (exs_cons (ex_var 0) (exs_cons (ex_var 1) (exs_cons (ex_var 2) exs_nil))))))
  (ss_one st_never)
  ss_nil))
omit X G c in theorem sc_missing : FnScope ["text", "signs", "rests", "place", "best", "sign", "at", "found"] ["text", "signs"] (defScope sm_missing) := ⟨rfl, rfl, rfl, by decide +kernel, rfl, by decide +kernel, by decide +kernel⟩
theorem cal_missing : Cal P w K mg base 6 "missing" 2 S_missing := by
  obtain ⟨fd, F⟩ := c.def_ 15 (d := d_missing) rfl
  refine cal_mkD (k := 5) 2 F sc_missing (q_missing X G c) (fun _ _ _ _ _ _ us hl => match us, hl with | [_, _], _ => rfl) fun cdv A outer s H E F0 hr => ?_
  have nd := (sc_missing).nd
  exact (ss_cons (st_drop [] (ex_usr (cal_want_short X G c) hr (by first | exact Nat.le_refl _ | decide | omega) (takes_of rfl rfl rfl rfl) (exs_cons (ex_var 0) (exs_cons ex_int exs_nil))))
  (ss_cons (st_drop [] (ex_usr (cal_want_int X G c) hr (by first | exact Nat.le_refl _ | decide | omega) (takes_of rfl rfl rfl rfl) (exs_cons (ex_var 1) (exs_cons ex_int (exs_cons ex_int (exs_cons ex_int exs_nil))))))
  (ss_cons (st_own [] 2 (fx_rep (fx_lst (exs_cons ex_str exs_nil)) (ex_op op_addA g_add (ex_callB call_len g_len (m_len X G c) (exs_cons (ex_var 0) exs_nil)) ex_int)) nd)
  (ss_cons (st_for [] (passes_of rfl) (ix_range3 (m_range X G c) (exs_cons (ex_callB call_len g_len (m_len X G c) (exs_cons (ex_var 0) exs_nil)) (exs_cons (ex_un un_neg g_neg ex_int) (exs_cons (ex_un un_neg g_neg ex_int) exs_nil)))) (gx_nm 3 nd)
  (ss_cons (st_set [] 4 ex_str nd)
  (ss_cons (st_for [] (passes_of rfl) (RB.ix_seq (ex_slice (ex_globS (m_LETTERS X G c)) px_none (px_some (ex_var 1)))) (gx_nm 5 nd)
  (ss_cons (st_set [] 6 (ex_find3 (ex_var 0) (ex_var 5) (ex_var 3)) nd)
  (ss_cons (st_set [2] 7 (ex_if (tx_cmp op_ltA g_cmp (ex_var 6) ex_int) (ex_var 5) (ex_op op_addA g_add (ex_var 5) (ex_ix L2.ix_seq g_ix (ex_var 2) (ex_op op_addA g_add (ex_var 6) ex_int)))) nd)
  (ss_one (st_if [] (tx_w (wx_or (tx_cmp (op_eqD (hu64 hr)) g_eq (ex_var 4) ex_str) (wx_or1 (tx_cmp op_ltA g_cmp (ex_callB call_len g_len (m_len X G c) (exs_cons (ex_var 7) exs_nil)) (ex_callB call_len g_len (m_len X G c) (exs_cons (ex_var 4) exs_nil))))))
  (ss_one (st_set [] 4 (ex_var 7) nd))
  ss_nil)))))
  (ss_one (st_put [] 2 (ex_var 4) (ex_var 3))))))
  (ss_one (st_ret [2] (ex_ix L2.ix_seq g_ix (ex_var 2) ex_int)))))))
omit X G c in theorem sc_arches : FnScope ["text", "signs", "found", "met", "at", "letter"] ["text", "signs"] (defScope sm_arches) := ⟨rfl, rfl, rfl, by decide +kernel, rfl, by decide +kernel, by decide +kernel⟩
theorem cal_arches : Cal P w K mg base 6 "arches" 2 S_arches := by
  obtain ⟨fd, F⟩ := c.def_ 16 (d := d_arches) rfl
  refine cal_mkD (k := 5) 2 F sc_arches (q_arches X G c) (fun _ _ _ _ _ _ us hl => match us, hl with | [_, _], _ => rfl) fun cdv A outer s H E F0 hr => ?_
  have nd := (sc_arches).nd
  exact (ss_cons (st_drop [] (ex_usr (cal_want_short X G c) hr (by first | exact Nat.le_refl _ | decide | omega) (takes_of rfl rfl rfl rfl) (exs_cons (ex_var 0) (exs_cons ex_int exs_nil))))
  (ss_cons (st_drop [] (ex_usr (cal_want_int X G c) hr (by first | exact Nat.le_refl _ | decide | omega) (takes_of rfl rfl rfl rfl) (exs_cons (ex_var 1) (exs_cons ex_int (exs_cons ex_int (exs_cons ex_int exs_nil))))))
  (ss_cons (st_own [] 2 (fx_lst exs_nil) nd)
  (ss_cons (st_ownD [] 3 (dx_new false) nd)
  (ss_cons (st_for [] (passes_of rfl) (ix_enum (m_enumerate X G c) (exs_cons (ex_var 0) exs_nil)) (gx_tup (gxs_cons (gx_nm 4 nd) (gxs_cons (gx_nm 5 nd) gxs_nil)))
  (ss_cons (st_if [] (tx_cmp (op_inA (hu66 hr)) g_in (ex_var 5) (ex_slice (ex_globS (m_LETTERS X G c)) px_none (px_some (ex_var 1))))
  (ss_one (st_dput [] 3 (hu66 hr) ex_bl (ex_var 5)))
  ss_nil)
  (ss_one (st_if [3] (tx_cmp (op_eqD (hu64 hr)) g_eq (ex_callB cr_lenD g_lenD (m_len X G c) (exs_cons (ex_var 3) exs_nil)) (ex_var 1))
  (ss_cons (st_app [] 2 (exs_cons (ex_var 4) exs_nil))
  (ss_one (st_ownD [] 3 (dx_new false) nd)))
  ss_nil))))
  (ss_one (st_ret [2] (ex_callT call_tuple_of g_tuple (m_tuple X G c) (exs_cons (ex_var 2) exs_nil)))))))))
omit X G c in theorem sc_is_row : FnScope ["value"] ["value"] (defScope sm_is_row) := ⟨rfl, rfl, rfl, by decide +kernel, rfl, by decide +kernel, by decide +kernel⟩
theorem cal_is_row : Cal P w K mg base 1 "is_row" 1 S_is_row := by
  obtain ⟨fd, F⟩ := c.def_ 17 (d := d_is_row) rfl
  refine cal_mkD (k := 0) 1 F sc_is_row (q_is_row X G c) (fun _ _ _ _ _ _ us hl => match us, hl with | [_], _ => rfl) fun cdv A outer s H E F0 hr => ?_
  have nd := (sc_is_row).nd
  exact (ss_one (st_ret [] (ex_isi2 (m_isinstance X G c) (m_list X G c) (m_tuple X G c) isi_lst isi_tup (ex_var 0))))
omit X G c in theorem sc_is_rising : FnScope ["row", "k"] ["row"] (defScope sm_is_rising) := ⟨rfl, rfl, rfl, by decide +kernel, rfl, by decide +kernel, by decide +kernel⟩
theorem cal_is_rising : Cal P w K mg base 1 "is_rising" 1 S_is_rising := by
  obtain ⟨fd, F⟩ := c.def_ 18 (d := d_is_rising) rfl
  refine cal_mkD (k := 0) 1 F sc_is_rising (q_is_rising X G c) (fun _ _ _ _ _ _ us hl => match us, hl with | [_], _ => rfl) fun cdv A outer s H E F0 hr => ?_
  have nd := (sc_is_rising).nd
  exact (ss_one (st_ret [] (ex_callB (cr_all rfl) g_all (m_all X G c) (exs_cons (Fx.ex (fx_lc nd (ix_range1 (m_range X G c) (exs_cons (ex_op op_sub g_sub (ex_callB call_len g_len (m_len X G c) (exs_cons (ex_var 0) exs_nil)) ex_int) exs_nil)) (blkOk_by (own := [("k", 1)]) (by kernel_rfl)) (by decide) (fun _ _ _ _ _ => (gx_nm 1 nd)) (fun _ _ _ _ _ => txs_nil) (fun _ _ _ _ _ => (ex_cmp op_ltA g_cmp (ex_ix L2.ix_seq g_ix (ex_var 0) (ex_var 1)) (ex_ix L2.ix_seq g_ix (ex_var 0) (ex_op op_addA g_add (ex_var 1) ex_int)))))) exs_nil))))
omit X G c in theorem sc_is_number_set : FnScope ["value", "low", "high", "part"] ["value", "low", "high"] (defScope sm_is_number_set) := ⟨rfl, rfl, rfl, by decide +kernel, rfl, by decide +kernel, by decide +kernel⟩
theorem cal_is_number_set : Cal P w K mg base 3 "is_number_set" 3 S_is_number_set := by
  obtain ⟨fd, F⟩ := c.def_ 19 (d := d_is_number_set) rfl
  refine cal_mkD (k := 2) 3 F sc_is_number_set (q_is_number_set X G c) (fun _ _ _ _ _ _ us hl => match us, hl with | [_, _, _], _ => rfl) fun cdv A outer s H E F0 hr => ?_
  have nd := (sc_is_number_set).nd
  exact (ss_one (st_ret [] (ex_and (ex_usr (cal_is_row X G c) hr (by first | exact Nat.le_refl _ | decide | omega) (takes_of rfl rfl rfl rfl) (exs_cons (ex_var 0) exs_nil)) (ex_and (ex_callB (cr_all rfl) g_all (m_all X G c) (exs_cons (Fx.ex (fx_lc nd (RB.ix_seq (ex_var 0)) (blkOk_by (own := [("part", 3)]) (by kernel_rfl)) (by decide) (fun _ _ _ _ _ => (gx_nm 3 nd)) (fun _ _ _ _ _ => txs_nil) (fun _ _ _ _ _ => (ex_usr (cal_is_between X G c) hr (by first | exact Nat.le_refl _ | decide | omega) takes0 (exs_cons (ex_var 3) (exs_cons (ex_var 1) (exs_cons (ex_var 2) exs_nil))))))) exs_nil)) (ex_one (ex_usr (cal_is_rising X G c) hr (by first | exact Nat.le_refl _ | decide | omega) (takes_of rfl rfl rfl rfl) (exs_cons (ex_var 0) exs_nil)))))))
omit X G c in theorem sc_is_arches : FnScope ["text", "signs", "value", "start", "at", "sign"] ["text", "signs", "value"] (defScope sm_is_arches) := ⟨rfl, rfl, rfl, by decide +kernel, rfl, by decide +kernel, by decide +kernel⟩
theorem cal_is_arches : Cal P w K mg base 6 "is_arches" 3 S_is_arches := by
  obtain ⟨fd, F⟩ := c.def_ 20 (d := d_is_arches) rfl
  refine cal_mkD (k := 5) 3 F sc_is_arches (q_is_arches X G c) (fun _ _ _ _ _ _ us hl => match us, hl with | [_, _, _], _ => rfl) fun cdv A outer s H E F0 hr => ?_
  have nd := (sc_is_arches).nd
  exact (ss_cons (st_drop [] (ex_usr (cal_want_short X G c) hr (by first | exact Nat.le_refl _ | decide | omega) (takes_of rfl rfl rfl rfl) (exs_cons (ex_var 0) (exs_cons ex_int exs_nil))))
  (ss_cons (st_drop [] (ex_usr (cal_want_int X G c) hr (by first | exact Nat.le_refl _ | decide | omega) (takes_of rfl rfl rfl rfl) (exs_cons (ex_var 1) (exs_cons ex_int (exs_cons ex_int (exs_cons ex_int exs_nil))))))
  (ss_cons (st_if [] (tx_not (tx_val (ex_usr (cal_is_number_set X G c) hr (by first | exact Nat.le_refl _ | decide | omega) (takes_of rfl rfl rfl rfl) (exs_cons (ex_var 2) (exs_cons ex_int (exs_cons (ex_op op_sub g_sub (ex_callB call_len g_len (m_len X G c) (exs_cons (ex_var 0) exs_nil)) ex_int) exs_nil))))))
  (ss_one (st_ret [] ex_bl))
  ss_nil)
  (ss_cons (st_set [] 3 ex_int nd)
  (ss_cons (st_for [] (passes_of rfl) (RB.ix_seq (ex_var 2)) (gx_nm 4 nd)
  (ss_cons (st_if [] (tx_not (tx_val (ex_callB (cr_all rfl) g_all (m_all X G c) (exs_cons (Fx.ex (fx_lc nd (RB.ix_seq (ex_slice (ex_globS (m_LETTERS X G c)) px_none (px_some (ex_var 1)))) (blkOk_by (own := [("sign", 5)]) (by kernel_rfl)) (by decide) (fun _ _ _ _ _ => (gx_nm 5 nd)) (fun _ _ _ _ _ => txs_nil) (fun _ _ _ _ _ => (ex_cmp (op_inA (hu66 hr)) g_in (ex_var 5) (ex_slice (ex_var 0) (px_some (ex_var 3)) (px_some (ex_op op_addA g_add (ex_var 4) ex_int))))))) exs_nil))))
  (ss_one (st_ret [] ex_bl))
  ss_nil)
  (ss_one (st_set [] 3 (ex_op op_addA g_add (ex_var 4) ex_int) nd))))
  (ss_one (st_ret [] ex_bl)))))))
omit X G c in theorem sc__law_right : FnScope ["text", "signs", "value", "last", "place", "sign"] ["text", "signs", "value"] (defScope sm__law_right) := ⟨rfl, rfl, rfl, by decide +kernel, rfl, by decide +kernel, by decide +kernel⟩
theorem cal__law_right : Cal P w K mg base 1 "_law_right" 3 S__law_right := by
  obtain ⟨fd, F⟩ := c.def_ 21 (d := d__law_right) rfl
  refine cal_mkD (k := 0) 3 F sc__law_right (q__law_right X G c) (fun _ _ _ _ _ _ us hl => match us, hl with | [_, _, _], _ => rfl) fun cdv A outer s H E F0 hr => ?_
  have nd := (sc__law_right).nd
  exact (ss_cons (st_if [] (tx_not (tx_val (ex_isi (m_isinstance X G c) (m_tuple X G c) isi_tup (ex_var 2))))
  (ss_one (st_ret [] ex_bl))
  ss_nil)
  (ss_cons (st_set [] 3 (ex_un un_neg g_neg ex_int) nd)
  (ss_cons (st_for [] (passes_of rfl) (RB.ix_seq (ex_var 2)) (gx_nm 4 nd)
  (ss_cons (st_if [] (tx_w (wx_or (tx_not (tx_val (ex_isi (m_isinstance X G c) (m_int X G c) isi_int (ex_var 4)))) (wx_or (tx_val (ex_isi (m_isinstance X G c) (m_bool X G c) isi_bool (ex_var 4))) (wx_or (tx_cmp op_leA g_cmp (ex_var 4) (ex_var 3)) (wx_or1 (tx_cmp op_geA g_cmp (ex_var 4) (ex_callB call_len g_len (m_len X G c) (exs_cons (ex_var 0) exs_nil))))))))
  (ss_one (st_ret [] ex_bl))
  ss_nil)
  (ss_cons (st_if [] (tx_cmp (op_neD (hu64 hr)) g_ne (Fx.ex (fx_lc nd (RB.ix_seq (ex_slice ex_str px_none (px_some (ex_var 1)))) (blkOk_by (own := [("sign", 5)]) (by kernel_rfl)) (by decide) (fun _ _ _ _ _ => (gx_nm 5 nd)) (fun _ _ _ _ _ => (txs_one (tx_cmp (op_ninA (hu66 hr)) g_nin (ex_var 5) (ex_slice (ex_var 0) (px_some (ex_op op_addA g_add (ex_var 3) ex_int)) (px_some (ex_op op_addA g_add (ex_var 4) ex_int)))))) (fun _ _ _ _ _ => (ex_var 5)))) (Fx.ex (fx_lst exs_nil)))
  (ss_one (st_ret [] ex_bl))
  ss_nil)
  (ss_one (st_set [] 3 (ex_var 4) nd)))))
  (ss_one (st_ret [] ex_bl)))))
omit X G c in theorem sc__law_tupled : FnScope ["value"] ["value"] (defScope sm__law_tupled) := ⟨rfl, rfl, rfl, by decide +kernel, rfl, by decide +kernel, by decide +kernel⟩
theorem cal__law_tupled : Cal P w K mg base 1 "_law_tupled" 1 S__law_tupled := by
  obtain ⟨fd, F⟩ := c.def_ 22 (d := d__law_tupled) rfl
  refine cal_mkD (k := 0) 1 F sc__law_tupled (q__law_tupled X G c) (fun _ _ _ _ _ _ us hl => match us, hl with | [_], _ => rfl) fun cdv A outer s H E F0 hr => ?_
  have nd := (sc__law_tupled).nd
  exact (ss_cons (st_if [] (tx_val (ex_isi (m_isinstance X G c) (m_list X G c) isi_lst (ex_var 0)))
  (ss_one (st_ret [] (ex_callT call_tuple_of g_tuple (m_tuple X G c) (exs_cons (ex_var 0) exs_nil))))
  ss_nil)
  (ss_one (st_ret [] (ex_var 0))))
omit X G c in theorem sc_law : FnScope ["script", "numbers", "signs", "text", "due", "part", "late", "place", "value", "ones", "letter"] ["script"] (defScope sm_law) := ⟨rfl, rfl, rfl, by decide +kernel, rfl, by decide +kernel, by decide +kernel⟩
theorem fn_law {fd : FuncData} (F : FunD K d_law.name d_law.qual d_law.params d_law.body d_law.scope (d_law.dvs K) (d_law.kws K) (He.fAd K d_law.at_) fd) : FnOk P w K mg base (L2.CX P w) 8 (He.ga K "law") fd ["script"] (spD K mg 1 S_law) := by
  refine fn_mkD (k := 7) F sc_law fun cdv A outer s H E F0 hr => ?_
  have nd := (sc_law).nd
  exact (ss_cons (st_set [] 1 (ex_usr (cal__law_numbers X G c) hr (by first | exact Nat.le_refl _ | decide | omega) (takes_of rfl rfl rfl rfl) (exs_cons (ex_var 0) (exs_cons ex_int (exs_cons ex_int exs_nil)))) nd)
  (ss_cons (st_set [] 2 (ex_op op_addA g_add ex_int (ex_op op_mod g_mod (ex_callT call_int1 g_int (m_int X G c) (exs_cons (ex_ix L2.ix_seq g_ix (ex_var 1) ex_int) exs_nil)) ex_int)) nd)
  (ss_cons (st_set [] 3 (ex_usr (cal__law_text X G c) hr (by first | exact Nat.le_refl _ | decide | omega) (takes_of rfl rfl rfl rfl) (exs_cons (ex_ix L2.ix_seq g_ix (ex_var 1) ex_int) (exs_cons ex_int (exs_cons (ex_op op_addA g_add (ex_var 2) (ex_op op_mod g_mod (ex_callT call_int1 g_int (m_int X G c) (exs_cons (ex_op op_divA g_div (ex_ix L2.ix_seq g_ix (ex_var 1) ex_int) ex_int) exs_nil)) ex_int)) exs_nil)))) nd)
  (ss_cons (st_set [] 4 (ex_usr (cal__law_arches X G c) hr (by first | exact Nat.le_refl _ | decide | omega) (takes_of rfl rfl rfl rfl) (exs_cons (ex_var 3) (exs_cons (ex_var 2) exs_nil))) nd)
  (ss_cons (st_set [] 5 (ex_usr (cal__law_missing X G c) hr (by first | exact Nat.le_refl _ | decide | omega) (takes_of rfl rfl rfl rfl) (exs_cons (ex_var 3) (exs_cons (ex_var 2) exs_nil))) nd)
  (ss_cons (st_if [] (tx_w (wx_or (tx_not (tx_val (ex_usr (cal__law_same X G c 6) hr (by first | exact Nat.le_refl _ | decide | omega) (takes_of rfl rfl rfl rfl) (exs_cons (ex_usr (cal_arches X G c) hr (by first | exact Nat.le_refl _ | decide | omega) (takes_of rfl rfl rfl rfl) (exs_cons (ex_var 3) (exs_cons (ex_var 2) exs_nil))) (exs_cons (ex_var 4) exs_nil))))) (wx_or (tx_not (tx_val (ex_usr (cal__law_same X G c 6) hr (by first | exact Nat.le_refl _ | decide | omega) (takes_of rfl rfl rfl rfl) (exs_cons (ex_usr (cal_missing X G c) hr (by first | exact Nat.le_refl _ | decide | omega) (takes_of rfl rfl rfl rfl) (exs_cons (ex_var 3) (exs_cons (ex_var 2) exs_nil))) (exs_cons (ex_var 5) exs_nil))))) (wx_or1 (tx_cmp (op_neD (hu64 hr)) g_ne (ex_callB call_len g_len (m_len X G c) (exs_cons (ex_var 5) exs_nil)) (ex_op op_addA g_add (ex_callB call_len g_len (m_len X G c) (exs_cons (ex_var 4) exs_nil)) ex_int))))))
  (ss_one (st_ret [] ex_bl))
  ss_nil)
  (ss_cons (st_set [] 6 (ex_callT call_tuple_of g_tuple (m_tuple X G c) (exs_cons (Fx.ex (fx_lc nd (RB.ix_seq (ex_var 4)) (blkOk_by (own := [("place", 7)]) (by kernel_rfl)) (by decide) (fun _ _ _ _ _ => (gx_nm 7 nd)) (fun _ _ _ _ _ => txs_nil) (fun _ _ _ _ _ => (ex_callB (cr_minD rfl (hu66 hr)) g_min (m_min X G c) (exs_cons (Fx.ex (fx_lst (exs_cons (ex_op op_addA g_add (ex_var 7) ex_int) (exs_cons (ex_op op_sub g_sub (ex_callB call_len g_len (m_len X G c) (exs_cons (ex_var 3) exs_nil)) ex_int) exs_nil)))) exs_nil))))) exs_nil)) nd)
  (ss_cons (st_for [] (passes_of rfl) (RB.ix_seq (Fx.ex (fx_lst (exs_cons (ex_var 4) (exs_cons (ex_slice (ex_var 4) (px_some ex_int) px_none) (exs_cons (ex_rev (ex_var 4)) (exs_cons (ex_var 6) (exs_cons (ex_tup exs_nil) (exs_cons ex_non (exs_cons ex_int (exs_cons (ex_tupRg1 (m_tuple X G c) (m_range X G c) (ex_callB call_len g_len (m_len X G c) (exs_cons (ex_var 3) exs_nil))) (exs_cons (ex_op op_addA g_add (ex_var 4) (ex_slice (ex_var 4) px_none (px_some ex_int))) (exs_cons (ex_tup (exs_cons (ex_callB call_len g_len (m_len X G c) (exs_cons (ex_var 3) exs_nil)) exs_nil)) (exs_cons (ex_tup (exs_cons (ex_op op_sub g_sub (ex_callB call_len g_len (m_len X G c) (exs_cons (ex_var 3) exs_nil)) ex_int) exs_nil)) (exs_cons (ex_tup (exs_cons ex_bl exs_nil)) (exs_cons (ex_tup (exs_cons (ex_un un_neg g_neg ex_int) exs_nil)) (exs_cons (Fx.ex (fx_callT call_list_of g_list (m_list X G c) (exs_cons (ex_var 4) exs_nil))) exs_nil))))))))))))))))) (gx_nm 8 nd)
  (ss_one (st_if [] (tx_not (tx_val (ex_usr (cal__law_same X G c 6) hr (by first | exact Nat.le_refl _ | decide | omega) (takes_of rfl rfl rfl rfl) (exs_cons (ex_usr (cal_is_arches X G c) hr (by first | exact Nat.le_refl _ | decide | omega) (takes_of rfl rfl rfl rfl) (exs_cons (ex_var 3) (exs_cons (ex_var 2) (exs_cons (ex_var 8) exs_nil)))) (exs_cons (ex_usr (cal__law_right X G c) hr (by first | exact Nat.le_refl _ | decide | omega) (takes_of rfl rfl rfl rfl) (exs_cons (ex_var 3) (exs_cons (ex_var 2) (exs_cons (ex_usr (cal__law_tupled X G c) hr (by first | exact Nat.le_refl _ | decide | omega) (takes_of rfl rfl rfl rfl) (exs_cons (ex_var 8) exs_nil)) exs_nil)))) exs_nil)))))
  (ss_one (st_ret [] ex_bl))
  ss_nil)))
  (ss_cons (st_set [] 9 ex_int nd)
  (ss_cons (st_for [] (passes_of rfl) (RB.ix_seq (ex_var 3)) (gx_nm 10 nd)
  (ss_one (st_set [] 9 (ex_op op_addA g_add (ex_var 9) (ex_callT call_int1 g_int (m_int X G c) (exs_cons (ex_cmp (op_eqD (hu64 hr)) g_eq (ex_var 10) ex_str) exs_nil))) nd)))
  (ss_one (st_ret [] (ex_and (ex_usr (cal__law_same X G c 6) hr (by first | exact Nat.le_refl _ | decide | omega) (takes_of rfl rfl rfl rfl) (exs_cons (ex_usr (cal_missing X G c) hr (by first | exact Nat.le_refl _ | decide | omega) (takes_of rfl rfl rfl rfl) (exs_cons (ex_var 3) (exs_cons ex_int exs_nil))) (exs_cons (ex_op op_mulB g_mulB ex_str (ex_op op_addA g_add (ex_var 9) ex_int)) exs_nil))) (ex_and (ex_usr (cal__law_same X G c 6) hr (by first | exact Nat.le_refl _ | decide | omega) (takes_of rfl rfl rfl rfl) (exs_cons (ex_callB call_len g_len (m_len X G c) (exs_cons (ex_usr (cal_arches X G c) hr (by first | exact Nat.le_refl _ | decide | omega) (takes_of rfl rfl rfl rfl) (exs_cons (ex_var 3) (exs_cons ex_int exs_nil))) exs_nil)) (exs_cons (ex_var 9) exs_nil))) (ex_and (ex_usr (cal__law_same X G c 6) hr (by first | exact Nat.le_refl _ | decide | omega) (takes_of rfl rfl rfl rfl) (exs_cons (ex_usr (cal_missing X G c) hr (by first | exact Nat.le_refl _ | decide | omega) (takes_of rfl rfl rfl rfl) (exs_cons ex_str (exs_cons ex_int exs_nil))) (exs_cons ex_str exs_nil))) (ex_one (ex_usr (cal__law_same X G c 6) hr (by first | exact Nat.le_refl _ | decide | omega) (takes_of rfl rfl rfl rfl) (exs_cons (ex_usr (cal_missing X G c) hr (by first | exact Nat.le_refl _ | decide | omega) (takes_of rfl rfl rfl rfl) (exs_cons ex_str (exs_cons ex_int exs_nil))) (exs_cons (ex_usr (cal__law_missing X G c) hr (by first | exact Nat.le_refl _ | decide | omega) (takes_of rfl rfl rfl rfl) (exs_cons ex_str (exs_cons ex_int exs_nil))) exs_nil)))))))))))))))))))
end
end K39

set_option Elab.async false
set_option linter.all false
set_option maxRecDepth 100000
set_option maxHeartbeats 4000000
namespace K39
open PySem RB Lib
/-! ### what is no part of a text -/
def aft (c : Nat) : List Nat → Option (List Nat)
  | [] => none
  | x :: w => if x = c then some w else aft c w
theorem aft_suf {c : Nat} : ∀ {w v : List Nat}, aft c w = some v → v <:+ w ∧ v.length < w.length
  | [], _, h => nomatch h
  | x :: w, v, h => by
    unfold aft at h
    split at h
    · injection h with h
      subst h
      exact ⟨List.suffix_cons _ _, by simp⟩
    · obtain ⟨h1, h2⟩ := aft_suf h
      exact ⟨h1.trans (List.suffix_cons _ _), by rw [List.length_cons]; omega⟩
theorem aft_mono {c : Nat} {v v1 : List Nat} (h : aft c v = some v1) : ∀ {w : List Nat}, v <:+ w → ∃ w1, aft c w = some w1 ∧ v1 <:+ w1
  | [], hs => by
    rw [List.suffix_nil] at hs
    subst hs; cases h
  | x :: w, hs => by
    rcases List.suffix_cons_iff.mp hs with rfl | hs
    · exact ⟨v1, h, List.suffix_refl _⟩
    · by_cases hx : x = c
      · exact ⟨w, by unfold aft; rw [if_pos hx], (aft_suf h).1.trans hs⟩
      · obtain ⟨w1, e, h1⟩ := aft_mono h hs
        exact ⟨w1, by unfold aft; rw [if_neg hx]; exact e, h1⟩
/-- s comes of w by leaving out letters -/
def sb : List Nat → List Nat → Bool
  | _, [] => true
  | w, c :: s => match aft c w with
    | none => false
    | some v => sb v s
theorem sb_mono : ∀ {s v w : List Nat}, v <:+ w → sb v s = true → sb w s = true
  | [], _, _, _, _ => rfl
  | c :: s, v, w, hs, h => by
    unfold sb at h
    cases e : aft c v with
    | none => rw [e] at h; cases h
    | some v1 =>
      rw [e] at h
      obtain ⟨w1, e1, h1⟩ := aft_mono e hs
      unfold sb
      rw [e1]
      exact sb_mono h1 h
/-- all texts of so many signs, ascending -/
def rw_ (A : List Nat) : Nat → List (List Nat)
  | 0 => [[]]
  | k + 1 => (rw_ A k).flatMap fun p => A.map fun c => p ++ [c]
theorem rw_cons (A : List Nat) : ∀ k, rw_ A (k + 1) = A.flatMap fun c => (rw_ A k).map fun s => c :: s
  | 0 => by
    show ([[]] : List (List Nat)).flatMap _ = _
    simp [rw_, List.flatMap_singleton]
    rw [List.map_eq_flatMap]
  | k + 1 => by
    show (rw_ A (k + 1)).flatMap _ = _
    conv => lhs; rw [rw_cons A k]
    rw [List.flatMap_assoc]
    congr 1
    funext c
    show ((rw_ A k).map fun s => c :: s).flatMap (fun p => A.map fun c => p ++ [c]) = ((rw_ A k).flatMap fun p => A.map fun c => p ++ [c]).map fun s => c :: s
    rw [List.flatMap_map, List.map_flatMap]
    congr 1
    funext p
    rw [List.map_map]
    rfl
def F (A : List Nat) (k : Nat) (w : List Nat) : Option (List Nat) := (rw_ A k).find? fun s => !sb w s
def hF (A : List Nat) (k : Nat) (w : List Nat) (c : Nat) : Option (List Nat) := match aft c w with
  | none => (rw_ A k).head?.map fun s => c :: s
  | some v => (F A k v).map fun s => c :: s
theorem F_succ (A : List Nat) (k : Nat) (w : List Nat) : F A (k + 1) w = A.findSome? (hF A k w) := by
  unfold F
  rw [rw_cons, List.find?_flatMap]
  congr 1
  funext c
  rw [List.find?_map]
  unfold hF
  cases e : aft c w with
  | none =>
    have : ((fun s => !sb w s) ∘ fun s => c :: s) = fun _ => true := by
      funext s
      show (!sb w (c :: s)) = true
      unfold sb
      rw [e]; rfl
    rw [this]
    congr 1
    cases rw_ A k <;> rfl
  | some v =>
    have : ((fun s => !sb w s) ∘ fun s => c :: s) = fun s => !sb v s := by
      funext s
      show (!sb w (c :: s)) = _
      conv => lhs; unfold sb
      rw [e]
    rw [this]; rfl
/-- the first of the shortest -/
def stB (f : Nat → List Nat) (b : List Nat) (c : Nat) : List Nat := if b = [] ∨ (f c).length < b.length then f c else b
def bst (A : List Nat) (f : Nat → List Nat) : List Nat := A.foldl (stB f) []
theorem bst_go {f : Nat → List Nat} (hf : ∀ c, f c ≠ []) : ∀ (A P : List Nat) (b : List Nat), ((P = [] ∧ b = []) ∨ ∃ l c r, P = l ++ c :: r ∧ b = f c ∧ (∀ d ∈ l, (f c).length < (f d).length) ∧ ∀ d ∈ r, (f c).length ≤ (f d).length) →
    P ++ A ≠ [] → ∃ l c r, P ++ A = l ++ c :: r ∧ A.foldl (stB f) b = f c ∧ (∀ d ∈ l, (f c).length < (f d).length) ∧ ∀ d ∈ r, (f c).length ≤ (f d).length
  | [], P, b, h, hne => by
    rcases h with ⟨rfl, rfl⟩ | ⟨l, c, r, h1, h2, h3, h4⟩
    · exact absurd rfl hne
    · exact ⟨l, c, r, by rw [List.append_nil]; exact h1, h2, h3, h4⟩
  | a :: A, P, b, h, hne => by
    have e : P ++ a :: A = (P ++ [a]) ++ A := by simp
    rw [e]
    refine bst_go hf A (P ++ [a]) (stB f b a) (.inr ?_) (by simp)
    rcases h with ⟨rfl, rfl⟩ | ⟨l, c, r, rfl, rfl, h3, h4⟩
    · exact ⟨[], a, [], rfl, by unfold stB; rw [if_pos (.inl rfl)], (fun _ h => nomatch h), (fun _ h => nomatch h)⟩
    · by_cases hl : (f a).length < (f c).length
      · refine ⟨l ++ c :: r, a, [], rfl, by unfold stB; rw [if_pos (.inr hl)], fun d hd => ?_, (fun _ h => nomatch h)⟩
        rcases List.mem_append.mp hd with hd | hd
        · have := h3 d hd; omega
        · rcases List.mem_cons.mp hd with rfl | hd
          · exact hl
          · have := h4 d hd; omega
      · refine ⟨l, c, r ++ [a], by simp, by unfold stB; rw [if_neg (by rintro (h | h); exact hf c h; exact hl h)], h3, fun d hd => ?_⟩
        rcases List.mem_append.mp hd with hd | hd
        · exact h4 d hd
        · rw [List.mem_singleton] at hd; subst hd; omega
theorem bst_ok {f : Nat → List Nat} (hf : ∀ c, f c ≠ []) {A : List Nat} (hA : A ≠ []) : ∃ l c r, A = l ++ c :: r ∧ bst A f = f c ∧ (∀ d ∈ l, (f c).length < (f d).length) ∧ ∀ d ∈ r, (f c).length ≤ (f d).length :=
  bst_go hf A [] [] (.inl ⟨rfl, rfl⟩) hA
def cnd (g : List Nat → List Nat) (w : List Nat) (c : Nat) : List Nat := match aft c w with
  | none => [c]
  | some v => c :: g v
theorem cnd_ne (g : List Nat → List Nat) (w : List Nat) (c : Nat) : cnd g w c ≠ [] := by
  unfold cnd
  split <;> simp
def missN (A : List Nat) : Nat → List Nat → List Nat
  | 0, _ => []
  | n + 1, w => bst A (cnd (missN A n) w)
theorem missN_eq (A : List Nat) : ∀ (n m : Nat) (w : List Nat), w.length < n → w.length < m → missN A n w = missN A m w
  | 0, _, _, h, _ => absurd h (Nat.not_lt_zero _)
  | n + 1, 0, _, _, h => absurd h (Nat.not_lt_zero _)
  | n + 1, m + 1, w, h1, h2 => by
    show bst A _ = bst A _
    congr 1
    funext c
    unfold cnd
    cases e : aft c w with
    | none => rfl
    | some v =>
      have := (aft_suf e).2
      show c :: missN A n v = c :: missN A m v
      rw [missN_eq A n m v (by omega) (by omega)]
def miss (A w : List Nat) : List Nat := missN A (w.length + 1) w
theorem miss_eq (A w : List Nat) : miss A w = bst A (cnd (miss A) w) := by
  show bst A _ = bst A _
  congr 1
  funext c
  unfold cnd
  cases e : aft c w with
  | none => rfl
  | some v =>
    have := (aft_suf e).2
    exact congrArg (c :: ·) (missN_eq A w.length (v.length + 1) v (by omega) (by omega))
theorem miss_spec {A : List Nat} (hA : A ≠ []) : ∀ (n : Nat) (w : List Nat), w.length < n → (∀ k, k < (miss A w).length → F A k w = none) ∧ F A (miss A w).length w = some (miss A w)
  | 0, _, h => absurd h (Nat.not_lt_zero _)
  | n + 1, w, hw => by
    obtain ⟨l, c, r, e, eb, h1, h2⟩ := bst_ok (cnd_ne (miss A) w) hA
    rw [← miss_eq] at eb
    have hall : ∀ d ∈ A, (miss A w).length ≤ (cnd (miss A) w d).length := fun d hd => by
      rw [e] at hd
      rw [eb]
      rcases List.mem_append.mp hd with hd | hd
      · exact Nat.le_of_lt (h1 d hd)
      · rcases List.mem_cons.mp hd with rfl | hd
        · exact Nat.le_refl _
        · exact h2 d hd
    have hno : ∀ k d, k + 1 < (cnd (miss A) w d).length → hF A k w d = none := fun k d h => by
      unfold hF
      unfold cnd at h
      cases ea : aft d w with
      | none => rw [ea] at h; simp at h
      | some v =>
        rw [ea] at h
        have h : k + 1 < (miss A v).length + 1 := h
        have := (aft_suf ea).2
        show (F A k v).map _ = none
        rw [(miss_spec hA n v (by omega)).1 k (by omega)]; rfl
    have hyes : ∀ k d, k + 1 = (cnd (miss A) w d).length → hF A k w d = some (cnd (miss A) w d) := fun k d h => by
      unfold hF
      unfold cnd at h ⊢
      cases ea : aft d w with
      | none =>
        rw [ea] at h
        have h : k + 1 = 1 := h
        have : k = 0 := by omega
        subst this
        rfl
      | some v =>
        rw [ea] at h
        have h : k + 1 = (miss A v).length + 1 := h
        have hl := (aft_suf ea).2
        have : k = (miss A v).length := by omega
        subst this
        show (F A (miss A v).length v).map _ = some (d :: miss A v)
        rw [(miss_spec hA n v (by omega)).2]; rfl
    constructor
    · intro k hk
      cases k with
      | zero => rfl
      | succ k =>
        rw [F_succ, List.findSome?_eq_none_iff]
        exact fun d hd => hno k d (Nat.lt_of_lt_of_le hk (hall d hd))
    · have hpos : (miss A w).length ≠ 0 := fun z => cnd_ne (miss A) w c (eb ▸ List.length_eq_zero_iff.mp z)
      obtain ⟨k, hk⟩ : ∃ k, (miss A w).length = k + 1 := ⟨(miss A w).length - 1, by omega⟩
      rw [hk, F_succ]
      have hl : l.findSome? (hF A k w) = none := by
        rw [List.findSome?_eq_none_iff]
        exact fun d hd => hno k d (by rw [← hk, eb]; exact h1 d hd)
      have hB : ∀ B, B = l ++ c :: r → B.findSome? (hF A k w) = some (miss A w) := fun B eB => by
        rw [eB, List.findSome?_append, hl, Option.none_or, List.findSome?_cons, hyes k c (by rw [← hk, eb]), eb]
      exact hB A e
theorem miss_pos {A : List Nat} (hA : A ≠ []) (w : List Nat) : 0 < (miss A w).length := by
  obtain ⟨l, c, r, e, eb, h1, h2⟩ := bst_ok (cnd_ne (miss A) w) hA
  rw [← miss_eq] at eb
  rw [eb]
  exact List.length_pos_iff.mpr (cnd_ne _ _ _)
theorem miss_mono {A : List Nat} (hA : A ≠ []) {v w : List Nat} (h : v <:+ w) : (miss A v).length ≤ (miss A w).length := by
  by_cases hl : (miss A w).length < (miss A v).length
  · exfalso
    have h1 := (miss_spec hA _ v (Nat.lt_succ_self _)).1 _ hl
    have h2 := (miss_spec hA _ w (Nat.lt_succ_self _)).2
    unfold F at h1 h2
    rw [List.find?_eq_none] at h1
    have h3 := List.find?_some h2
    have h4 := h1 _ (List.mem_of_find?_eq_some h2)
    have h5 : sb v (miss A w) = true := by simpa using h4
    rw [sb_mono h h5] at h3
    cases h3
  · omega
/-! ### arches -/
def vl (A : List Nat) (c : Nat) (w : List Nat) : Nat := match aft c w with
  | none => 0
  | some v => (miss A v).length
structure Mn (A : List Nat) (R : Nat → Prop) (w : List Nat) (m : Nat) : Prop where
  ex : ∃ c, R c ∧ vl A c w = m
  le : ∀ c, R c → m ≤ vl A c w
theorem cnd_len (A w : List Nat) (c : Nat) : (cnd (miss A) w c).length = vl A c w + 1 := by
  unfold cnd vl
  split <;> rfl
theorem miss_min {A : List Nat} (hA : A ≠ []) {w : List Nat} {m : Nat} (h : Mn A (· ∈ A) w m) : (miss A w).length = m + 1 := by
  obtain ⟨l, c, r, e, eb, h1, h2⟩ := bst_ok (cnd_ne (miss A) w) hA
  rw [← miss_eq] at eb
  rw [eb, cnd_len]
  congr 1
  refine Nat.le_antisymm ?_ (h.le c (by rw [e]; simp))
  obtain ⟨d, hd, rfl⟩ := h.ex
  rw [e] at hd
  have h3 : (cnd (miss A) w c).length ≤ (cnd (miss A) w d).length := by
    rcases List.mem_append.mp hd with hd | hd
    · exact Nat.le_of_lt (h1 d hd)
    · rcases List.mem_cons.mp hd with rfl | hd
      · exact Nat.le_refl _
      · exact h2 d hd
  rw [cnd_len, cnd_len] at h3
  omega
def mt (A met : List Nat) (x : Nat) : List Nat := if x ∈ A ∧ x ∉ met then met ++ [x] else met
def en (A : List Nat) : List Nat → Nat → List Nat → List Nat
  | _, _, [] => []
  | met, k, x :: w => if (mt A met x).length = A.length then k :: en A [] (k + 1) w else en A (mt A met x) (k + 1) w
structure Met (A met : List Nat) : Prop where
  nd : met.Nodup
  sub : ∀ c ∈ met, c ∈ A
theorem Met.nil (A : List Nat) : Met A [] := ⟨List.nodup_nil, fun _ h => nomatch h⟩
theorem Met.next {A met : List Nat} (h : Met A met) (x : Nat) : Met A (mt A met x) := by
  unfold mt
  split
  · next hx =>
    refine ⟨List.nodup_append.mpr ⟨h.nd, by simp, fun a ha b hb => ?_⟩, fun c hc => ?_⟩
    · rw [List.mem_singleton] at hb
      subst hb
      exact fun e => hx.2 (e ▸ ha)
    · rcases List.mem_append.mp hc with hc | hc
      · exact h.sub c hc
      · rw [List.mem_singleton] at hc; subst hc; exact hx.1
  · exact h
theorem Met.full {A met : List Nat} (hA : A.Nodup) (h : Met A met) : met.length = A.length ↔ ∀ c ∈ A, c ∈ met := by
  constructor
  · intro hl c hc
    by_cases hm : c ∈ met
    · exact hm
    · exfalso
      have := nodup_sub_len (xs := c :: met) (ys := A) (List.nodup_cons.mpr ⟨hm, h.nd⟩) fun x hx => by
        rcases List.mem_cons.mp hx with rfl | hx
        · exact hc
        · exact h.sub x hx
      rw [List.length_cons] at this
      omega
  · intro hc
    exact Nat.le_antisymm (nodup_sub_len h.nd h.sub) (nodup_sub_len hA hc)
theorem Met.le {A met : List Nat} (h : Met A met) : met.length ≤ A.length := nodup_sub_len h.nd h.sub
theorem vl_cons (A : List Nat) (c x : Nat) (w : List Nat) : vl A c (x :: w) = if x = c then (miss A w).length else vl A c w := by
  unfold vl
  conv => lhs; unfold aft
  by_cases h : x = c
  · rw [if_pos h, if_pos h]
  · rw [if_neg h, if_neg h]
theorem vl_le {A : List Nat} (hA : A ≠ []) (c : Nat) (w : List Nat) : vl A c w ≤ (miss A w).length := by
  unfold vl
  cases e : aft c w with
  | none => exact Nat.zero_le _
  | some v => exact miss_mono hA (aft_suf e).1
theorem en_min {A : List Nat} (hA : A ≠ []) (hn : A.Nodup) : ∀ (w met : List Nat) (k : Nat), Met A met → (∃ c ∈ A, c ∉ met) → Mn A (fun c => c ∈ A ∧ c ∉ met) w (en A met k w).length
  | [], met, k, h, ⟨c, hc, hm⟩ => ⟨⟨c, ⟨hc, hm⟩, rfl⟩, fun _ _ => Nat.zero_le _⟩
  | x :: w, met, k, h, ⟨c, hc, hm⟩ => by
    unfold en
    by_cases hf : (mt A met x).length = A.length
    · -- x is the last one
      rw [if_pos hf]
      have hall := ((h.next x).full hn).mp hf
      have ho : ∀ d, d ∈ A → d ∉ met → x = d := fun d hd hdm => by
        have := hall d hd
        unfold mt at this
        split at this
        · rcases List.mem_append.mp this with z | z
          · exact absurd z hdm
          · exact (List.mem_singleton.mp z).symm
        · exact absurd this hdm
      have hx := ho c hc hm
      subst hx
      have ih := en_min hA hn w [] (k + 1) (.nil A) ⟨x, hc, by simp⟩
      have ih : Mn A (· ∈ A) w (en A [] (k + 1) w).length := ⟨by
        obtain ⟨d, ⟨h1, _⟩, h2⟩ := ih.ex
        exact ⟨d, h1, h2⟩, fun d hd => ih.le d ⟨hd, by simp⟩⟩
      have hm2 := miss_min hA ih
      rw [List.length_cons]
      refine ⟨⟨x, ⟨hc, hm⟩, by rw [vl_cons, if_pos rfl, hm2]⟩, fun d hd => ?_⟩
      rw [vl_cons, if_pos (ho d hd.1 hd.2), hm2]
      exact Nat.le_refl _
    · rw [if_neg hf]
      have hex : ∃ c ∈ A, c ∉ mt A met x := by
        by_cases q : ∃ c ∈ A, c ∉ mt A met x
        · exact q
        · exact absurd (((h.next x).full hn).mpr fun c hc => by
            by_cases z : c ∈ mt A met x
            · exact z
            · exact absurd ⟨c, hc, z⟩ q) hf
      have ih := en_min hA hn w (mt A met x) (k + 1) (h.next x) hex
      have hmem : ∀ d, d ∉ mt A met x → d ∉ met := fun d hd z => hd (by
        unfold mt
        split
        · exact List.mem_append_left _ z
        · exact z)
      have hx : ∀ d, d ∈ A → d ∉ mt A met x → x ≠ d := fun d hd hdm e => by
        subst e
        have hm2 := hmem _ hdm
        unfold mt at hdm
        rw [if_pos ⟨hd, hm2⟩] at hdm
        exact hdm (by simp)
      obtain ⟨d, ⟨hd1, hd2⟩, hd3⟩ := ih.ex
      refine ⟨⟨d, ⟨hd1, hmem d hd2⟩, by rw [vl_cons, if_neg (hx d hd1 hd2)]; exact hd3⟩, fun e he => ?_⟩
      rw [vl_cons]
      split
      · rw [← hd3]; exact vl_le hA d w
      · next hxe =>
        refine ih.le e ⟨he.1, fun z => ?_⟩
        unfold mt at z
        split at z
        · rcases List.mem_append.mp z with z | z
          · exact he.2 z
          · exact hxe (List.mem_singleton.mp z).symm
        · exact he.2 z
theorem miss_en {A : List Nat} (hA : A ≠ []) (hn : A.Nodup) (w : List Nat) (k : Nat) : (miss A w).length = (en A [] k w).length + 1 := by
  have ih := en_min hA hn w [] k (.nil A) (by
    obtain ⟨c, hc⟩ := List.exists_mem_of_ne_nil _ hA
    exact ⟨c, hc, by simp⟩)
  exact miss_min hA ⟨by
    obtain ⟨d, ⟨h1, _⟩, h2⟩ := ih.ex
    exact ⟨d, h1, h2⟩, fun d hd => ih.le d ⟨hd, by simp⟩⟩
theorem en_few {A : List Nat} : ∀ (w met : List Nat) (k : Nat), (en A met k w).length * A.length ≤ w.length + met.length
  | [], met, k => by unfold en; simp
  | x :: w, met, k => by
    have hl : (mt A met x).length ≤ met.length + 1 := by
      unfold mt
      split
      · simp
      · omega
    unfold en
    split
    · next h =>
      have := en_few (A := A) w [] (k + 1)
      rw [List.length_cons, List.length_cons, Nat.add_mul, Nat.one_mul]
      simp only [List.length_nil] at this
      omega
    · have := en_few (A := A) w (mt A met x) (k + 1)
      rw [List.length_cons]
      omega
end K39

set_option Elab.async false
set_option linter.all false
set_option maxRecDepth 100000
set_option maxHeartbeats 4000000
namespace Lib
open PySem RB
/-! ### what is found one behind the other -/
theorem least_nat {P : Nat → Prop} [DecidablePred P] : ∀ n, P n → ∃ m, m ≤ n ∧ P m ∧ ∀ k, k < m → ¬ P k := by
  intro n h
  induction n using Nat.strongRecOn with
  | ind n ih =>
    by_cases hk : ∃ k, k < n ∧ P k
    · obtain ⟨k, hk, hp⟩ := hk
      obtain ⟨m, h1, h2, h3⟩ := ih k hk hp
      exact ⟨m, by omega, h2, h3⟩
    · exact ⟨n, Nat.le_refl _, h, fun k hl hp => hk ⟨k, hl, hp⟩⟩
section
variable {α κ : Type} [DecidableEq κ] (key : α → κ) (succ : α → List α)
def addB (acc : List α) (x : α) : List α := if key x ∈ acc.map key then acc else acc ++ [x]
def stepB (a : α) (q : List α) (k : Nat) : List α := (succ (q.getD k a)).foldl (addB key) q
def qB (a : α) : Nat → List α
  | 0 => [a]
  | k + 1 => stepB key succ a (qB a k) k
variable {key succ}
theorem addB_pre (acc : List α) (x : α) : acc <+: addB key acc x := by
  unfold addB
  split
  · exact List.prefix_refl _
  · exact List.prefix_append _ _
theorem addB_key (acc : List α) (x : α) : key x ∈ (addB key acc x).map key := by
  unfold addB
  split
  · assumption
  · rw [List.map_append]; exact List.mem_append_right _ (by simp)
theorem foldB_pre : ∀ (xs acc : List α), acc <+: xs.foldl (addB key) acc
  | [], acc => List.prefix_refl _
  | x :: xs, acc => (addB_pre acc x).trans (foldB_pre xs _)
theorem sub_key {xs ys : List α} {k : κ} (h : ∀ x ∈ xs, x ∈ ys) (m : k ∈ xs.map key) : k ∈ ys.map key := by
  obtain ⟨x, hx, rfl⟩ := List.mem_map.mp m
  exact List.mem_map_of_mem (h x hx)
theorem pre_key {xs ys : List α} {k : κ} (h : xs <+: ys) (m : k ∈ xs.map key) : k ∈ ys.map key := sub_key (fun _ h' => h.subset h') m
theorem foldB_key : ∀ (xs acc : List α), ∀ x ∈ xs, key x ∈ (xs.foldl (addB key) acc).map key
  | [], _, _, h => nomatch h
  | y :: xs, acc, x, h => by
    rcases List.mem_cons.mp h with rfl | h
    · exact pre_key (foldB_pre xs (addB key acc x)) (addB_key acc x)
    · exact foldB_key xs _ x h
theorem foldB_mem : ∀ (xs acc : List α), ∀ x ∈ xs.foldl (addB key) acc, x ∈ acc ∨ x ∈ xs
  | [], _, _, h => .inl h
  | y :: xs, acc, x, h => by
    rcases foldB_mem xs _ x h with h | h
    · unfold addB at h
      split at h
      · exact .inl h
      · rcases List.mem_append.mp h with h | h
        · exact .inl h
        · rw [List.mem_singleton] at h; subst h; exact .inr List.mem_cons_self
    · exact .inr (List.mem_cons_of_mem _ h)
/-- no key twice, all keys of a kind -/
structure InU (key : α → κ) (U : List κ) (q : List α) : Prop where
  nd : (q.map key).Nodup
  sub : ∀ x ∈ q, key x ∈ U
theorem InU.len {U : List κ} {q : List α} (h : InU key U q) : q.length ≤ U.length := by
  have := nodup_sub_len h.nd (ys := U) fun k hk => by
    obtain ⟨x, hx, rfl⟩ := List.mem_map.mp hk
    exact h.sub x hx
  rwa [List.length_map] at this
theorem InU.add {U : List κ} {q : List α} (h : InU key U q) {x : α} (hx : key x ∈ U) : InU key U (addB key q x) := by
  unfold addB
  split
  · exact h
  · next hn =>
    refine ⟨?_, fun y hy => ?_⟩
    · rw [List.map_append, List.nodup_append]
      refine ⟨h.nd, by simp, fun a ha b hb => ?_⟩
      simp only [List.map_cons, List.map_nil, List.mem_singleton] at hb
      subst hb
      exact fun e => hn (e ▸ ha)
    · rcases List.mem_append.mp hy with hy | hy
      · exact h.sub y hy
      · rw [List.mem_singleton] at hy; subst hy; exact hx
theorem InU.fold {U : List κ} : ∀ {xs q : List α}, InU key U q → (∀ x ∈ xs, key x ∈ U) → InU key U (xs.foldl (addB key) q)
  | [], _, h, _ => h
  | x :: xs, q, h, hx => InU.fold (xs := xs) (q := addB key q x) (h.add (hx x List.mem_cons_self)) fun y hy => hx y (List.mem_cons_of_mem _ hy)
theorem qB_head (a : α) : ∀ k, ∃ r, qB key succ a k = a :: r
  | 0 => ⟨[], rfl⟩
  | k + 1 => by
    obtain ⟨r, e⟩ := qB_head a k
    obtain ⟨s, e2⟩ := foldB_pre (key := key) (succ ((qB key succ a k).getD k a)) (qB key succ a k)
    refine ⟨r ++ s, ?_⟩
    show stepB key succ a (qB key succ a k) k = _
    unfold stepB
    rw [← e2, e]; rfl
theorem qB_pre1 (a : α) (k : Nat) : qB key succ a k <+: qB key succ a (k + 1) := foldB_pre _ _
theorem qB_pre (a : α) {k m : Nat} (h : k ≤ m) : qB key succ a k <+: qB key succ a m := by
  obtain ⟨d, rfl⟩ : ∃ d, m = k + d := ⟨m - k, by omega⟩
  induction d with
  | zero => exact List.prefix_refl _
  | succ d ih => exact (ih (by omega)).trans (qB_pre1 a _)
theorem getD_mem {q : List α} {a : α} (k : Nat) (ha : a ∈ q) : q.getD k a ∈ q := by
  rw [List.getD_eq_getElem?_getD]
  cases h : q[k]? with
  | none => exact ha
  | some x => exact List.mem_of_getElem? h
theorem qB_mem0 (a : α) (k : Nat) : a ∈ qB key succ a k := by
  obtain ⟨r, e⟩ := qB_head (key := key) (succ := succ) a k
  rw [e]; exact List.mem_cons_self
/-- what holds of the first, and is handed on -/
theorem qB_all (a : α) (P : α → Prop) (h0 : P a) (hs : ∀ x, P x → ∀ y ∈ succ x, P y) : ∀ k, ∀ x ∈ qB key succ a k, P x
  | 0, x, h => by rw [List.mem_singleton.mp h]; exact h0
  | k + 1, x, h => by
    rcases foldB_mem _ _ x h with h | h
    · exact qB_all a P h0 hs k x h
    · exact hs _ (qB_all a P h0 hs k _ (getD_mem k (qB_mem0 a k))) x h
theorem qB_inU (a : α) {U : List κ} (h0 : key a ∈ U) (hs : ∀ x, key x ∈ U → ∀ y ∈ succ x, key y ∈ U) : ∀ k, InU key U (qB key succ a k)
  | 0 => ⟨by show [key a].Nodup; simp, fun x h => by rw [List.mem_singleton.mp h]; exact h0⟩
  | k + 1 => (qB_inU a h0 hs k).fold (hs _ ((qB_inU a h0 hs k).sub _ (getD_mem k (qB_mem0 a k))))
/-- the turn at which nothing is left -/
theorem qB_end (a : α) {U : List κ} (h0 : key a ∈ U) (hs : ∀ x, key x ∈ U → ∀ y ∈ succ x, key y ∈ U) : ∃ n, n ≤ U.length ∧ (∀ k, k < n → k < (qB key succ a k).length) ∧ (qB key succ a n).length = n := by
  obtain ⟨n, h1, h2, h3⟩ := least_nat (P := fun n => (qB key succ a n).length ≤ n) U.length (qB_inU a h0 hs U.length).len
  refine ⟨n, h1, fun k hk => Nat.lt_of_not_le (h3 k hk), Nat.le_antisymm h2 ?_⟩
  cases n with
  | zero => exact Nat.zero_le _
  | succ n =>
    have h4 := Nat.lt_of_not_le (h3 n (by omega))
    have := (qB_pre1 (key := key) (succ := succ) a n).length_le
    omega
theorem qB_at (a : α) {k n : Nat} (h : k < n) (hl : k < (qB key succ a k).length) (hk : k < (qB key succ a n).length) : (qB key succ a k).getD k a = (qB key succ a n)[k] := by
  have p := qB_pre (key := key) (succ := succ) a (show k ≤ n by omega)
  rw [List.getD_eq_getElem?_getD, List.getElem?_eq_getElem hl, Option.getD_some]
  exact p.getElem hl
/-- all that the found lead to is found -/
theorem qB_closed (a : α) {n : Nat} (hg : ∀ k, k < n → k < (qB key succ a k).length) (hn : (qB key succ a n).length = n) : ∀ x ∈ qB key succ a n, ∀ y ∈ succ x, key y ∈ (qB key succ a n).map key := by
  intro x hx y hy
  obtain ⟨k, hk, rfl⟩ := List.mem_iff_getElem.mp hx
  have hkn : k < n := by omega
  refine pre_key (qB_pre (key := key) (succ := succ) a (show k + 1 ≤ n by omega)) ?_
  rw [← qB_at a hkn (hg k hkn) hk] at hy
  exact foldB_key _ _ y hy
end
end Lib

set_option Elab.async false
set_option linter.all false
set_option maxRecDepth 100000
set_option maxHeartbeats 4000000
namespace RB
open PySem PySem.Spec L2 Lib
/-! ### a loop, turn by turn -/
def nxt (r : R Fl) (h : Gam → R Fl) : R Fl := r >>= fun fl => match fl with
  | .nx Γ' => h Γ'
  | .ct Γ' => h Γ'
  | .bk Γ' => .ok (.nx Γ')
  | fl => .ok fl
theorem nxt_nx (Γ : Gam) (h : Gam → R Fl) : nxt (.ok (.nx Γ)) h = h Γ := Eq.trans rfl rfl
theorem nxt_ct (Γ : Gam) (h : Gam → R Fl) : nxt (.ok (.ct Γ)) h = h Γ := Eq.trans rfl rfl
theorem nxt_bk (Γ : Gam) (h : Gam → R Fl) : nxt (.ok (.bk Γ)) h = .ok (.nx Γ) := Eq.trans rfl rfl
theorem nxt_rt (d : D) (h : Gam → R Fl) : nxt (.ok (.rt d)) h = .ok (.rt d) := Eq.trans rfl rfl
theorem nxt_xn (e : Exn) (Γ : Gam) (h : Gam → R Fl) : nxt (.ok (.xn e Γ)) h = .ok (.xn e Γ) := Eq.trans rfl rfl
theorem fo_cons (i : Nat) (body : Gam → R Fl) (d : D) (ds : List D) (Γ : Gam) : forL (.nm i) body (d :: ds) Γ = nxt (body (Γ.set i (.da d))) (forL (.nm i) body ds) := by
  rw [forL, fl1, R.hard_ok, R.ok_bind, sg1, sg0]
  unfold nxt
  rfl
theorem fo_cons2 (i j : Nat) (body : Gam → R Fl) (a b : D) (ds : List D) (Γ : Gam) : forL (.tup [.nm i, .nm j]) body (.tuple [a, b] :: ds) Γ = nxt (body ((Γ.set i (.da a)).set j (.da b))) (forL (.tup [.nm i, .nm j]) body ds) := by
  have e : flatT (.tup [.nm i, .nm j]) (.tuple [a, b]) = .ok [(i, a), (j, b)] := by
    rw [fl2, fl4, fl1, fl4, fl1, fl3, fl5, fl5]; rfl
  rw [forL, e, R.hard_ok, R.ok_bind, sg1, sg1, sg0]
  unfold nxt
  rfl
theorem c_nxt (b : Bool) (x y : Fl) (h : Gam → R Fl) : nxt (.ok (cond b x y)) h = cond b (nxt (.ok x) h) (nxt (.ok y) h) := by cases b <;> rfl
end RB
namespace Lib
open PySem RB
/-! ### one sign in a text -/
theorem getD_arr (w : List Nat) (k : Nat) : w.toArray.getD k 0 = w.getD k 0 := by simp
/-- the first place of a sign, from a place on -/
theorem find_ok (w : List Nat) (c p : Nat) (hp : p ≤ w.length) :
    (Txt.find3 (S_ w) (S_ [c]) (p : Int) = -1 ∧ ∀ k : Nat, p ≤ k → k < w.length → w.getD k 0 ≠ c) ∨
    ∃ k : Nat, Txt.find3 (S_ w) (S_ [c]) (p : Int) = (k : Int) ∧ p ≤ k ∧ k < w.length ∧ w.getD k 0 = c ∧ ∀ j : Nat, p ≤ j → j < k → w.getD j 0 ≠ c := by
  have hf : PySem.fromIndex (S_ w).length (p : Int) = p := by
    unfold PySem.fromIndex
    rw [if_neg (by omega)]
    omega
  have hl : (S_ w).length = w.length := by show w.toArray.size = _; simp
  have hg : ∀ k : Nat, (S_ w).cps.getD k 0 = w.getD k 0 := fun k => getD_arr w k
  have hs := StrLaws.find3_spec (S_ w) c (p : Int)
  rw [hf, hl] at hs
  rcases hs with ⟨h1, h2⟩ | ⟨k, h1, h2, h3, h4, h5⟩
  · exact .inl ⟨h1, fun k a b => by rw [← hg]; exact h2 k a b⟩
  · exact .inr ⟨k, h1, h2, h3, by rw [← hg]; exact h4, fun j a b => by rw [← hg]; exact h5 j a b⟩
theorem index0_find (w : List Nat) (c : Nat) : Txt.find3 (S_ w) (S_ [c]) 0 = match Txt.index0 (S_ w) (S_ [c]) with
  | some k => (k : Int)
  | none => -1 := by
  unfold Txt.find3 Txt.index0
  have hf : PySem.fromIndex (S_ w).length 0 = 0 := by
    unfold PySem.fromIndex
    rw [if_neg (by omega)]
    omega
  rw [hf]
  cases Builtin.Str.occurrences (S_ w) (S_ [c]) 0 (S_ w).length 1 <;> rfl
theorem idxOf_first {w : List Nat} {c k : Nat} (h1 : k < w.length) (h2 : w.getD k 0 = c) (h3 : ∀ j : Nat, j < k → w.getD j 0 ≠ c) : w.idxOf c = k := by
  induction w generalizing k with
  | nil => simp at h1
  | cons a w ih =>
    cases k with
    | zero =>
      have : a = c := h2
      subst this
      simp
    | succ k =>
      have h0 : a ≠ c := h3 0 (by omega)
      rw [List.idxOf_cons]
      rw [ih (k := k) (by simpa using h1) h2 fun j hj => h3 (j + 1) (by omega)]
      have hb : (a == c) = false := by simpa using h0
      rw [hb]; rfl
theorem idx_T {as : List Nat} {c : Nat} (h : c ∈ as) : idxD (T as) (T [c]) = .ok (.int (as.idxOf c : Nat)) := by
  have e := index0_find as c
  show (match Txt.index0 (S_ as) (S_ [c]) with
    | some k => R.ok (PyData.int (k : Nat))
    | none => .stuck) = _
  rcases find_ok as c 0 (Nat.zero_le _) with ⟨h1, h2⟩ | ⟨k, h1, _, h3, h4, h5⟩
  · obtain ⟨k, hk, e2⟩ := List.mem_iff_getElem.mp h
    exact absurd (by rw [List.getD_eq_getElem?_getD, List.getElem?_eq_getElem hk]; exact e2) (h2 k (Nat.zero_le _) hk)
  · have h1 : Txt.find3 (S_ as) (S_ [c]) 0 = (k : Int) := h1
    rw [h1] at e
    cases hi : Txt.index0 (S_ as) (S_ [c]) with
    | none =>
      rw [hi] at e
      have e : (k : Int) = -1 := e
      omega
    | some j =>
      rw [hi] at e
      have : k = j := by
        have e : (k : Int) = (j : Int) := e
        omega
      subst this
      rw [idxOf_first h3 h4 fun j hj => h5 j (Nat.zero_le _) hj]
end Lib
namespace RB
open PySem
theorem ev_m2T (g : D → D → D → R D) (a : List Nat) (fe ff : RB.Env → R D) (ε : RB.Env) : m2K g (.ok (T a)) fe ff ε = m2J g (T a) (fe ε) (ff ε) := Eq.trans rfl rfl
theorem v_find3T (a b : List Nat) (i : Int) : find3D (T a) (T b) (.int i) = .ok (.int (Txt.find3 (S_ a) (S_ b) i)) := Eq.trans rfl rfl
theorem v_start3T (a b : List Nat) (i : Int) : start3D (T a) (T b) (.int i) = .ok (.bool (Txt.startswith3 (S_ a) (S_ b) i)) := Eq.trans rfl rfl
end RB
namespace Lib
open PySem RB
def adj {α : Type} (q : α → α → Bool) : List α → Bool
  | a :: b :: r => q a b && adj q (b :: r)
  | _ => true
theorem adj_iff {α : Type} (q : α → α → Bool) : ∀ c : List α, adj q c = true ↔ ∀ (k : Nat) (h : k + 1 < c.length), q (c[k]'(by omega)) c[k + 1] = true
  | [] => ⟨fun _ k h => absurd h (Nat.not_lt_zero _), fun _ => rfl⟩
  | [a] => ⟨fun _ k h => by simp at h, fun _ => rfl⟩
  | a :: b :: r => by
    show (q a b && adj q (b :: r)) = true ↔ _
    rw [Bool.and_eq_true, adj_iff q (b :: r)]
    constructor
    · rintro ⟨h0, h⟩ k hk
      cases k with
      | zero => exact h0
      | succ k => exact h k (by simpa using hk)
    · intro h
      exact ⟨h 0 (by simp), fun k hk => h (k + 1) (by simpa using hk)⟩
theorem adj_all {α : Type} (q : α → α → Bool) (c : List α) : ((List.finRange (c.length - 1)).all fun k => q (c[k.val]'(by have := k.isLt; omega)) (c[k.val + 1]'(by have := k.isLt; omega))) = adj q c := by
  refine Bool.eq_iff_iff.mpr ?_
  rw [adj_iff, List.all_eq_true]
  exact ⟨fun h k hk => h ⟨k, by omega⟩ (List.mem_finRange _), fun h k _ => h k.val (by have := k.isLt; omega)⟩
theorem adj_pw {α : Type} {q : α → α → Bool} {c : List α} (h : c.Pairwise fun a b => q a b = true) : adj q c = true :=
  (adj_iff q c).mpr fun k hk => (List.pairwise_iff_getElem.mp h) k (k + 1) (by omega) hk (by omega)
theorem cut_nn {α : Type} (xs : List α) (a b : Nat) : cutD xs (some (a : Int)) (some (b : Int)) = (xs.take b).drop a := by
  unfold cutD
  rw [HT.sIx_nat, HT.sIx_nat]
  by_cases h : a ≤ xs.length
  · rw [Nat.min_eq_left h]
    by_cases h2 : b ≤ xs.length
    · rw [Nat.min_eq_left h2, List.drop_take]
    · rw [Nat.min_eq_right (by omega), List.take_of_length_le (i := b) (by omega), List.take_of_length_le (by rw [List.length_drop]; omega)]
  · rw [List.drop_of_length_le (by omega), List.drop_of_length_le (by rw [List.length_take]; omega), List.take_nil]
theorem adj_cons {α : Type} (q : α → α → Bool) (a b : α) (r : List α) : adj q (a :: b :: r) = (q a b && adj q (b :: r)) := rfl
theorem v_minIs {x : Int} {xs : List Int} : on1 minG [.list ((x :: xs).map PyData.int)] = .ok (.int (xs.foldl min x)) := by
  show given_ (OrdOk ((x :: xs).map PyData.int)) (.ok (PySem.W.minD (.int x) (xs.map .int))) = _
  rw [given_pos (ordOk_I _), PySem.W.minD_ints]
/-- rows of ints -/
theorem k_ixI {c : D} {xs : List Int} (h : SeqD c (xs.map .int)) {i : Nat} (hi : i < xs.length) : ixD c (.int (i : Int)) = .ok (.int xs[i]) := by
  have e : (xs.map PyData.int)[i]? = some (.int xs[i]) := by rw [List.getElem?_map, List.getElem?_eq_getElem hi]; rfl
  rcases h with rfl | rfl
  · exact v_ixT e
  · exact v_ixL e
theorem rg_less {n : Nat} (h : n ≤ 10000) : rangeD [.int ((n : Int) - 1)] = .ok ((List.finRange (n - 1)).map fun k => PyData.int ((k.val : Nat) : Int)) := by
  cases n with
  | zero => rfl
  | succ n =>
    rw [show ((n + 1 : Nat) : Int) - 1 = ((n + 1 - 1 : Nat) : Int) by omega]
    exact v_rgF (by omega)
end Lib

set_option Elab.async false
set_option linter.all false
set_option maxRecDepth 100000
set_option maxHeartbeats 8000000
namespace K39
open PySem RB Lib
local macro_rules | `(tactic| simp_arith [$as,*]) => `(tactic| simp only [view, freeze, ev_seq, ev_seq1, ev_seq2, ev_seq3, ev_seq4, ev_seq5, ev_ret, ev_ret1, ev_ret2, ev_retN, ev_nil, ev_bk, ev_ct, ev_if, ev_ifT, ev_ifF, ev_ifX, ev_set, ev_set0, ev_set1, ev_set3, ev_drop, ev_drop1, ev_drop2, ev_own, ev_own0, ev_own1, ev_unp, ev_unp1, ev_unp2, ev_unp3, ev_app, ev_app0, ev_app1, ev_app2, ev_put, ev_put1, ev_put2, ev_aug, ev_aug1, ev_aug2, ev_for, ev_for0, ev_forN, ev_con, ev_var, ev_var1, ev_op2, ev_op2k, ev_op1, ev_op1k, ev_nilL, ev_consL, ev_consk, ev_tup, ev_tupk, ev_dat, ev_datk, ev_call, ev_callk, ev_callF, ev_callFk, ev_usr, ev_usrk, ev_usr0, ev_test, ev_testk, ev_b, ev_bk1, ev_isN, ev_isNk, ev_notN, ev_notNk, ev_andT, ev_andT1, ev_andT0, ev_orT, ev_orT1, ev_orT0, ev_notT, ev_notTk, ev_andE, ev_andE1, ev_andE0, ev_orE, ev_orE1, ev_orE0, ev_notE, ev_notEk, ev_ifE, ev_ifE1, ev_ifE0, ev_ch, ev_ch0, ev_ch1, ev_ch2, ev_isi, ev_isi1, ev_isi2, ev_isi3, ev_isi4, ev_isi5, ev_isi6, ev_sl, ev_slk, ev_slL, ev_slT, ev_slS, ev_par0, ev_par, ev_park, ev_seqE, ev_seqEL, ev_seqET, ev_seqES, ev_rg, ev_rgk, ev_en, ev_enL, ev_enT, ev_enS, ev_zi, ev_ziLL, ev_ziTT, ev_ziLT, ev_ziTL, ev_ziSS, ev_comp, ev_compk, v_add, v_sub, v_neg, v_eq, v_ne, v_lt, v_le, v_gt, v_ge, v_mulL, v_mulR, v_p9, v_p18, v_mod, v_div, v_int, v_lenL, v_lenT, v_lenS, v_tupL, v_tupT, v_itL, v_itT, v_ixL, v_ixT, v_sum, v_all, v_any, v_range1, v_range2, v_catT, v_catL, i_1, ev_run, ev_end1, ev_end2, ev_end3, ev_vN, ev_vC, ev_sU, ev_sD, ev_sO, ev_fN, ev_fC, ev_zU, ev_zD, ev_zO, fl1, fl2, fl3, fl4, fl5, sg0, sg1, se0, se1, t_N1, t_N2, t_N3, t_N4, t_N5, t_N6, ev_tru, ev_truL, ev_truT, ev_truB, ev_truN, ev_truI, ev_par2, ev_par2k, ev_par3, ev_par3k, v_lenX, v_catX, v_slX, v_ixX, v_eqX, v_neX, v_inX, v_ninX, v_repX, ev_seqEX, ev_isiX, t_N7, t_X1, t_X2, t_X3, t_X4, t_X5, t_X6, ev_truX, t_isInt_none, t_isInt_bool, t_isInt_int, t_isInt_str, t_isInt_tuple, t_isInt_list, t_isBool_none, t_isBool_bool, t_isBool_int, t_isBool_str, t_isBool_tuple, t_isBool_list, t_isStr_none, t_isStr_bool, t_isStr_int, t_isStr_str, t_isStr_tuple, t_isStr_list, t_isTup_none, t_isTup_bool, t_isTup_int, t_isTup_str, t_isTup_tuple, t_isTup_list, t_isLst_none, t_isLst_bool, t_isLst_int, t_isLst_str, t_isLst_tuple, t_isLst_list, t_nc0, t_nc1, t_nc2, t_nc3, t_nc4, t_nc5, t_nc6, t_nc7, t_nc8, t_nc9, t_nc10, t_nc11, t_nc12, t_nc13, t_nc14, t_nc15, t_nc16, t_nc17, t_nc18, t_nc19, t_nc20, t_nc21, t_nc22, t_nc23, t_nc24, t_nc25, t_nc26, t_nc27, t_nc28, t_nc29, t_nc30, t_nc31, t_nc32, List.map_cons, List.map_nil, List.length_cons, List.length_nil, List.cons_append, List.nil_append, List.append_nil, List.set_cons_zero, List.set_cons_succ, List.getElem?_cons_zero, List.getElem?_cons_succ, List.getElem?_nil, List.any_cons, List.any_nil, R.hard_ok, noLst, noLsts, gam0, List.replicate, wipeE, if_true, if_false, Bool.false_eq_true, Bool.true_eq_false, Bool.not_true, Bool.not_false, Bool.true_or, Bool.false_or, Bool.or_true, Bool.or_false, Bool.true_and, Bool.false_and, Bool.and_true, Bool.and_false, Bool.and_self, Bool.or_self, decide_true, decide_false, Nat.reduceBEq, Nat.reduceAdd, Nat.reduceSub, Nat.reduceLT, Int.reduceLT, Int.reduceLE, Int.reduceNeg, Int.reduceAdd, Int.reduceSub, Int.reduceMul, Nat.reduceEqDiff, Int.reduceEq, Nat.reduceLeDiff, ↓reduceIte, List.isEmpty_cons, ev_sE, ev_zE, ev_seq6, ev_end4, ev_endF1, ev_endF2, ev_runF, c_ok, c_same, c_bool, c_int, c_T, c_tup, c_lst, c_rt, c_nx, c_gam, c_da, c_ol, c_t, c_n, c_xf, c_tx, c_fx, c_xt, ↓cond_true, ↓cond_false, c_if, c_andT, c_orT, c_andE, c_orE, c_ifE, c_ch, c_seqK, c_seqK', c_endR, c_endR', c_isN, k_comp, k_comp2, k_all, k_fil, v_allM, v_anyM, v_sumM, ev_m1, ev_m1k, ev_m1k2, v_start, v_ends, v_find, v_count, ev_bad, ev_bad1, ev_many, ev_try, ev_try1, ev_try2, ev_try3, ev_try4, ev_tryM, ev_tryM1, ev_tryM2, ev_tryM3, ev_noXn1, ev_noXn2, ev_setE, ev_setEk, ev_lenK, ev_lenKk, ev_sortK, ev_sortKk, v_min2, v_max2, v_abs, ev_idx, ev_idxL, ev_idxS, ev_catE, ev_catEk, ev_rg1, v_startX, v_endsX, Bool.and_assoc, Bool.or_assoc, cond_true, cond_false, Bool.not_not, v_startB, ev_m1T, cut_to, cut_from, cut_mid, k_ixT, k_ixL, enumF, v_eqNilI, v_neNilI, v_eqNilT, v_neNilT, empty_filter, List.any_filter, List.all_filter, List.isEmpty_map, fin_eq, beg_cut, List.filter_filter, cut_to1, cut_mid1, ix0_app, head_filterT, head_filterI, v_neOT, head_filterT0, v_isB, beq_false, beq_true, beq_self_eq_true, v_eqNilT0, v_neNilT0, ev_rev2, v_revL, v_revX, ev_cL, ev_comp2, ev_comp2j, k_two, k_flat, k_flatF, flat_map, ev_retF, ev_retFk, ev_retO, ev_retOk, ev_usrF, ev_usrFk, ev_ownD, ev_ownD0, ev_empD, ev_dataD, ev_dataDk, ev_putD, ev_putD1, mark_F, mark_T, ev_popK, ev_popk, ev_extK, ev_extk, ev_forK, ev_forKk, ev_forF, ev_forFk, v_notBB, nxt_nx, nxt_rt, nxt_ct, nxt_bk, nxt_xn, c_nxt, fo_cons, fo_cons2, ev_m2, ev_m2T, ev_m2j, v_find3T, v_start3T, $as,*])
/-! ### signs -/
def al (n : Nat) : List Nat := AZ.take n
theorem abcd_take : ∀ n, n ≤ 4 → [97, 98, 99, 100].take n = al n
  | 0, _ => rfl
  | 1, _ => rfl
  | 2, _ => rfl
  | 3, _ => rfl
  | 4, _ => rfl
  | n + 5, h => by omega
theorem al_len : ∀ n, n ≤ 4 → (al n).length = n
  | 0, _ => rfl
  | 1, _ => rfl
  | 2, _ => rfl
  | 3, _ => rfl
  | 4, _ => rfl
  | n + 5, h => by omega
theorem al_nd : ∀ n, n ≤ 4 → (al n).Nodup
  | 0, _ => by decide
  | 1, _ => by decide
  | 2, _ => by decide
  | 3, _ => by decide
  | 4, _ => by decide
  | n + 5, h => by omega
theorem al_ne {n : Nat} (h : 1 ≤ n) (h4 : n ≤ 4) : al n ≠ [] := fun z => by
  have := al_len n h4
  rw [z] at this
  have : 0 = n := this
  omega
theorem c_abcd : PyData.str "abcd" = T [97, 98, 99, 100] := congrArg PyData.str (by decide +kernel)
theorem v_slAZ {n : Nat} : sliceD (T AZ) none (some (n : Int)) = .ok (T (al n)) := by rw [v_slX, cut_to]; rfl
theorem v_slab {n : Nat} (h : n ≤ 4) : sliceD (T [97, 98, 99, 100]) none (some (n : Int)) = .ok (T (al n)) := by rw [v_slX, cut_to, abcd_take n h]
theorem has_one (c : Nat) (w : List Nat) : has [c] w = decide (c ∈ w) := by
  refine Bool.eq_iff_iff.mpr ?_
  rw [has_iff (by simp), decide_eq_true_iff]
  constructor
  · intro h; exact h.subset (by simp)
  · intro h
    obtain ⟨a, b, rfl⟩ := List.append_of_mem h
    exact ⟨a, b, by simp⟩
theorem v_in1 (c : Nat) (w : List Nat) : inD (T [c]) (T w) = .ok (.bool (decide (c ∈ w))) := by rw [v_inH (by simp), has_one]
theorem v_nin1 (c : Nat) (w : List Nat) : ninD (T [c]) (T w) = .ok (.bool (!decide (c ∈ w))) := by rw [v_ninH (by simp), has_one]
def sg (c : Nat) : D := T [c]
theorem sg_map (l : List Nat) : l.map sg = (l.map fun c => [c]).map T := by rw [List.map_map]; rfl
theorem mem_sg (c : Nat) (l : List Nat) : ([c] ∈ l.map fun c => [c]) ↔ c ∈ l := by simp
theorem v_ninS (c : Nat) (l : List Nat) : ninD (T [c]) (.list (l.map sg)) = .ok (.bool (!decide (c ∈ l))) := by
  rw [sg_map, v_ninTL]
  congr 3
  exact decide_eq_decide.mpr (mem_sg c l)
/-! ### short texts -/
structure ST (w : List Nat) : Prop where
  az : az w = true
  len : w.length ≤ 12
theorem s_want_short {w : List Nat} (h : ST w) (i : D) : S_want_short [T w, i] = .ok .none := by
  have h1 := h.len
  have e := s_is_letters_of w 0 12
  rw [h.az, decide_eq_true (show (0 : Int) ≤ (w.length : Int) by omega), decide_eq_true (show (w.length : Int) ≤ 12 by omega)] at e
  simp_arith [S_want_short, g_want_short, S_is_short, g_is_short, e]
theorem s_want_signs {n : Nat} (h : 1 ≤ n) (h4 : n ≤ 4) : S_want_int [.int (n : Int), .int 1, .int 4, .int 2] = .ok .none := s_want_int (by omega) (by omega)
/-! ### arches of the law -/
theorem la_step {n : Nat} (h : n ≤ 4) {w p s : List Nat} {x : Nat} (e : w = p ++ x :: s) (hp : p.length ≤ 1000) {ends met : List Nat} (he : ends.length ≤ 1000) (hm : met.length ≤ 1000) {s4 : Sl} :
    b__law_arches_1 [.da (T w), .da (.int (n : Int)), .ol (ends.map fun k => .int ((k : Nat) : Int)), .ol (met.map sg), .da (.int (p.length : Int))] =
    .ok (.nx [.da (T w), .da (.int (n : Int)), .ol ((if (mt (al n) met x).length = (al n).length then ends ++ [p.length] else ends).map fun k => .int ((k : Nat) : Int)), .ol ((if (mt (al n) met x).length = (al n).length then [] else mt (al n) met x).map sg), .da (.int (p.length : Int))]) := by
  have hix : ixD (T w) (.int (p.length : Int)) = .ok (T [x]) := v_ixX (by rw [e]; simp)
  have hl1 : (met.map sg).length < 16777216 := by rw [List.length_map]; omega
  have hl2 : (ends.map fun k => PyData.int ((k : Nat) : Int)).length < 16777216 := by rw [List.length_map]; omega
  have hal := al_len n h
  have hmt : (decide (x ∈ al n) && !decide (x ∈ met)) = decide (x ∈ al n ∧ x ∉ met) := by simp
  by_cases hx : x ∈ al n ∧ x ∉ met
  · have d1 : decide (x ∈ al n) = true := decide_eq_true hx.1
    have d2 : decide (x ∈ met) = false := decide_eq_false hx.2
    have em : mt (al n) met x = met ++ [x] := if_pos hx
    by_cases hf : (mt (al n) met x).length = (al n).length
    · have d3 : decide (((met.length + 1 : Nat) : Int) = (n : Int)) = true := decide_eq_true (by rw [em, List.length_append, hal] at hf; simp at hf; omega)
      rw [if_pos hf, if_pos hf]
      simp_arith [b__law_arches_1, hix, c_abcd, v_slab h, v_in1, v_ninS, d1, d2, ev_app0 _ _ _ _ hl1, ev_app0 _ _ _ _ hl2, List.length_append, List.length_map, List.length_singleton, d3]
      rw [List.map_append]; rfl
    · have d3 : decide (((met.length + 1 : Nat) : Int) = (n : Int)) = false := decide_eq_false (by rw [em, List.length_append, hal] at hf; simp at hf; omega)
      rw [if_neg hf, if_neg hf, em]
      simp_arith [b__law_arches_1, hix, c_abcd, v_slab h, v_in1, v_ninS, d1, d2, ev_app0 _ _ _ _ hl1, ev_app0 _ _ _ _ hl2, List.length_append, List.length_map, List.length_singleton, d3]
      rw [List.map_append]; rfl
  · have em : mt (al n) met x = met := if_neg hx
    have d1 : (decide (x ∈ al n) && !decide (x ∈ met)) = false := by rw [hmt]; exact decide_eq_false hx
    by_cases hf : (mt (al n) met x).length = (al n).length
    · have d3 : decide ((met.length : Int) = (n : Int)) = true := decide_eq_true (by rw [em, hal] at hf; omega)
      rw [if_pos hf, if_pos hf]
      simp_arith [b__law_arches_1, hix, c_abcd, v_slab h, v_in1, v_ninS, d1, ev_app0 _ _ _ _ hl2, List.length_map, d3]
      rw [List.map_append]; rfl
    · have d3 : decide ((met.length : Int) = (n : Int)) = false := decide_eq_false (by rw [em, hal] at hf; omega)
      rw [if_neg hf, if_neg hf, em]
      simp_arith [b__law_arches_1, hix, c_abcd, v_slab h, v_in1, v_ninS, d1, List.length_map, d3]
theorem la_loop {n : Nat} (h : n ≤ 4) {w : List Nat} (hw : w.length ≤ 500) : ∀ (s p : List Nat) (ends met : List Nat) (s4 : Sl), w = p ++ s → ends.length ≤ p.length → met.length ≤ p.length →
    ∃ (met' : List Nat) (s4' : Sl), forL (.nm 4) b__law_arches_1 ((List.range' p.length s.length).map fun k => PyData.int ((k : Nat) : Int)) [.da (T w), .da (.int (n : Int)), .ol (ends.map fun k => .int ((k : Nat) : Int)), .ol (met.map sg), s4] =
    .ok (.nx [.da (T w), .da (.int (n : Int)), .ol ((ends ++ en (al n) met p.length s).map fun k => .int ((k : Nat) : Int)), .ol (met'.map sg), s4'])
  | [], p, ends, met, s4, e, he, hm => ⟨met, s4, by unfold en; rw [List.append_nil]; rfl⟩
  | x :: s, p, ends, met, s4, e, he, hm => by
    have hl : p.length ≤ w.length := by rw [e, List.length_append]; omega
    have hst := la_step (s4 := s4) h e (by omega) (ends := ends) (met := met) (by omega) (by omega)
    have e2 : w = (p ++ [x]) ++ s := by rw [e]; simp
    have hmt : (mt (al n) met x).length ≤ met.length + 1 := by
      unfold mt
      split
      · simp
      · omega
    have hr : (List.range' p.length (x :: s).length).map (fun k => PyData.int ((k : Nat) : Int)) = .int (p.length : Int) :: (List.range' (p ++ [x]).length s.length).map fun k => PyData.int ((k : Nat) : Int) := by
      rw [List.length_cons, List.range'_succ, List.map_cons, List.length_append, List.length_singleton]
    rw [hr, fo_cons]
    show ∃ (met' : List Nat) (s4' : Sl), nxt (b__law_arches_1 [.da (T w), .da (.int (n : Int)), .ol (ends.map fun k => .int ((k : Nat) : Int)), .ol (met.map sg), .da (.int (p.length : Int))]) _ = _
    rw [hst, nxt_nx]
    unfold en
    by_cases hf : (mt (al n) met x).length = (al n).length
    · rw [if_pos hf, if_pos hf, if_pos hf]
      obtain ⟨m', s', e3⟩ := la_loop h hw s (p ++ [x]) (ends ++ [p.length]) [] (.da (.int (p.length : Int))) e2 (by simp; omega) (by simp)
      refine ⟨m', s', ?_⟩
      rw [e3]
      simp [List.append_assoc]
    · rw [if_neg hf, if_neg hf, if_neg hf]
      obtain ⟨m', s', e3⟩ := la_loop h hw s (p ++ [x]) ends (mt (al n) met x) (.da (.int (p.length : Int))) e2 (by simp; omega) (by simp; omega)
      refine ⟨m', s', ?_⟩
      rw [e3]
      simp
def ends (n : Nat) (w : List Nat) : List Nat := en (al n) [] 0 w
def eN (l : List Nat) : List D := l.map fun k => .int ((k : Nat) : Int)
theorem v_rgR {n : Nat} (h : n ≤ 16777216) : rangeD [.int (n : Int)] = .ok ((List.range' 0 n).map fun k => PyData.int ((k : Nat) : Int)) := by
  rw [v_rgN h, List.range_eq_range']
theorem s_law_arches {n : Nat} (h : n ≤ 4) {w : List Nat} (hw : w.length ≤ 500) : S__law_arches [T w, .int (n : Int)] = .ok (.tuple (eN (ends n w))) := by
  obtain ⟨m, s, e⟩ := la_loop h hw w [] [] [] .un rfl (by simp) (by simp)
  have e : forL (.nm 4) b__law_arches_1 ((List.range' 0 w.length).map fun k => PyData.int ((k : Nat) : Int)) [.da (T w), .da (.int (n : Int)), .ol [], .ol [], .un] = _ := e
  simp_arith [S__law_arches, g__law_arches, v_lenX, v_rgR (show w.length ≤ 16777216 by omega), e]
  rfl
/-! ### arches of the program -/
def eD (met : List Nat) : List (D × D) := met.map fun c => (T [c], PyData.bool true)
theorem eqv_sg (a c : Nat) : PyData.eqv (T [a]) (T [c]) = decide (a = c) := by rw [eqv_TT]; exact decide_eq_decide.mpr (by simp)
theorem put_sg (met : List Nat) (c : Nat) : dPut (eD met) (T [c]) (.bool true) = eD (if c ∈ met then met else met ++ [c]) := by
  have ha : ((eD met).any fun p => PyData.eqv p.1 (T [c])) = decide (c ∈ met) := by
    unfold eD
    rw [List.any_map]
    refine Bool.eq_iff_iff.mpr ?_
    rw [List.any_eq_true, decide_eq_true_iff]
    constructor
    · rintro ⟨a, ha, h⟩
      have h : PyData.eqv (T [a]) (T [c]) = true := h
      rw [eqv_sg, decide_eq_true_iff] at h
      exact h ▸ ha
    · intro h
      exact ⟨c, h, by show PyData.eqv (T [c]) (T [c]) = true; rw [eqv_sg, decide_eq_true rfl]⟩
  unfold dPut
  rw [ha]
  by_cases h : c ∈ met
  · rw [if_pos (decide_eq_true h), if_pos h]
    unfold eD
    rw [List.map_map]
    refine List.map_congr_left fun a _ => ?_
    show (if PyData.eqv (T [a]) (T [c]) = true then (T [a], PyData.bool true) else (T [a], .bool true)) = _
    split <;> rfl
  · rw [if_neg (by rw [decide_eq_false h]; decide), if_neg h]
    unfold eD
    rw [List.map_append]; rfl
theorem v_lenDG (met : List Nat) : on1 lenDG [.dict (eD met)] = .ok (.int (met.length : Int)) := by
  cases met with
  | nil => rfl
  | cons a met =>
    show R.ok (PyData.int (((eD (a :: met)).length : Nat) : Int)) = _
    unfold eD
    rw [List.length_map]
theorem pa_step {n : Nat} (h : n ≤ 4) {w ends met : List Nat} {k x : Nat} (he : ends.length ≤ 1000) (hm : met.length ≤ 1000) :
    b_arches_1 [.da (T w), .da (.int (n : Int)), .ol (eN ends), .od false (eD met), .da (.int (k : Int)), .da (T [x])] =
    .ok (.nx [.da (T w), .da (.int (n : Int)), .ol (eN (if (mt (al n) met x).length = (al n).length then ends ++ [k] else ends)), .od false (eD (if (mt (al n) met x).length = (al n).length then [] else mt (al n) met x)), .da (.int (k : Int)), .da (T [x])]) := by
  have hl1 : (eD met).length < 16777216 := by unfold eD; rw [List.length_map]; omega
  have hl2 : (eN ends).length < 16777216 := by unfold eN; rw [List.length_map]; omega
  have hal := al_len n h
  have hk : keyFit false (T [x]) = true := rfl
  have hno : noLst (.bool true) = true := rfl
  have hA : AZ.take n = al n := rfl
  have fin : ∀ met' : List Nat, met' = mt (al n) met x → ifS [3] (testE (op2E eqD (callE (on1 lenDG) [var 3]) (var 1))) (seqS (appS [] 2 (var 4)) (ownDS [] 3 false (emptyDF))) (nilS) [.da (T w), .da (.int (n : Int)), .ol (eN ends), .od false (eD met'), .da (.int (k : Int)), .da (T [x])] =
      .ok (.nx [.da (T w), .da (.int (n : Int)), .ol (eN (if (mt (al n) met x).length = (al n).length then ends ++ [k] else ends)), .od false (eD (if (mt (al n) met x).length = (al n).length then [] else mt (al n) met x)), .da (.int (k : Int)), .da (T [x])]) := fun met' em => by
    subst em
    by_cases hf : (mt (al n) met x).length = (al n).length
    · have d3 : decide (((mt (al n) met x).length : Int) = (n : Int)) = true := decide_eq_true (by omega)
      rw [if_pos hf, if_pos hf]
      simp_arith [v_lenDG, ev_app0 _ _ _ _ hl2, d3]
      unfold eN
      rw [List.map_append]; rfl
    · have d3 : decide (((mt (al n) met x).length : Int) = (n : Int)) = false := decide_eq_false (by omega)
      rw [if_neg hf, if_neg hf]
      simp_arith [v_lenDG, d3]
  by_cases hx : x ∈ al n
  · have d1 : decide (x ∈ al n) = true := decide_eq_true hx
    have em : (if x ∈ met then met else met ++ [x]) = mt (al n) met x := by
      unfold mt
      by_cases hm : x ∈ met
      · rw [if_pos hm, if_neg (fun z => z.2 hm)]
      · rw [if_neg hm, if_pos ⟨hx, hm⟩]
    have hp := fin _ em
    simp only [b_arches_1, view, freeze, ev_seq, ev_seq1, ev_seq2, ev_seq3, ev_seq4, ev_seq5, ev_ret, ev_ret1, ev_ret2, ev_retN, ev_nil, ev_bk, ev_ct, ev_if, ev_ifT, ev_ifF, ev_ifX, ev_set, ev_set0, ev_set1, ev_set3, ev_drop, ev_drop1, ev_drop2, ev_own, ev_own0, ev_own1, ev_unp, ev_unp1, ev_unp2, ev_unp3, ev_app, ev_app0, ev_app1, ev_app2, ev_put, ev_put1, ev_put2, ev_aug, ev_aug1, ev_aug2, ev_for, ev_for0, ev_forN, ev_con, ev_var, ev_var1, ev_op2, ev_op2k, ev_op1, ev_op1k, ev_nilL, ev_consL, ev_consk, ev_tup, ev_tupk, ev_dat, ev_datk, ev_call, ev_callk, ev_callF, ev_callFk, ev_usr, ev_usrk, ev_usr0, ev_test, ev_testk, ev_b, ev_bk1, ev_isN, ev_isNk, ev_notN, ev_notNk, ev_andT, ev_andT1, ev_andT0, ev_orT, ev_orT1, ev_orT0, ev_notT, ev_notTk, ev_andE, ev_andE1, ev_andE0, ev_orE, ev_orE1, ev_orE0, ev_notE, ev_notEk, ev_ifE, ev_ifE1, ev_ifE0, ev_ch, ev_ch0, ev_ch1, ev_ch2, ev_isi, ev_isi1, ev_isi2, ev_isi3, ev_isi4, ev_isi5, ev_isi6, ev_sl, ev_slk, ev_slL, ev_slT, ev_slS, ev_par0, ev_par, ev_park, ev_seqE, ev_seqEL, ev_seqET, ev_seqES, ev_rg, ev_rgk, ev_en, ev_enL, ev_enT, ev_enS, ev_zi, ev_ziLL, ev_ziTT, ev_ziLT, ev_ziTL, ev_ziSS, ev_comp, ev_compk, v_add, v_sub, v_neg, v_eq, v_ne, v_lt, v_le, v_gt, v_ge, v_mulL, v_mulR, v_p9, v_p18, v_mod, v_div, v_int, v_lenL, v_lenT, v_lenS, v_tupL, v_tupT, v_itL, v_itT, v_ixL, v_ixT, v_sum, v_all, v_any, v_range1, v_range2, v_catT, v_catL, i_1, ev_run, ev_end1, ev_end2, ev_end3, ev_vN, ev_vC, ev_sU, ev_sD, ev_sO, ev_fN, ev_fC, ev_zU, ev_zD, ev_zO, fl1, fl2, fl3, fl4, fl5, sg0, sg1, se0, se1, t_N1, t_N2, t_N3, t_N4, t_N5, t_N6, ev_tru, ev_truL, ev_truT, ev_truB, ev_truN, ev_truI, ev_par2, ev_par2k, ev_par3, ev_par3k, v_lenX, v_catX, v_slX, v_ixX, v_eqX, v_neX, v_inX, v_ninX, v_repX, ev_seqEX, ev_isiX, t_N7, t_X1, t_X2, t_X3, t_X4, t_X5, t_X6, ev_truX, t_isInt_none, t_isInt_bool, t_isInt_int, t_isInt_str, t_isInt_tuple, t_isInt_list, t_isBool_none, t_isBool_bool, t_isBool_int, t_isBool_str, t_isBool_tuple, t_isBool_list, t_isStr_none, t_isStr_bool, t_isStr_int, t_isStr_str, t_isStr_tuple, t_isStr_list, t_isTup_none, t_isTup_bool, t_isTup_int, t_isTup_str, t_isTup_tuple, t_isTup_list, t_isLst_none, t_isLst_bool, t_isLst_int, t_isLst_str, t_isLst_tuple, t_isLst_list, t_nc0, t_nc1, t_nc2, t_nc3, t_nc4, t_nc5, t_nc6, t_nc7, t_nc8, t_nc9, t_nc10, t_nc11, t_nc12, t_nc13, t_nc14, t_nc15, t_nc16, t_nc17, t_nc18, t_nc19, t_nc20, t_nc21, t_nc22, t_nc23, t_nc24, t_nc25, t_nc26, t_nc27, t_nc28, t_nc29, t_nc30, t_nc31, t_nc32, List.map_cons, List.map_nil, List.length_cons, List.length_nil, List.cons_append, List.nil_append, List.append_nil, List.set_cons_zero, List.set_cons_succ, List.getElem?_cons_zero, List.getElem?_cons_succ, List.getElem?_nil, List.any_cons, List.any_nil, R.hard_ok, noLst, noLsts, gam0, List.replicate, wipeE, if_true, if_false, Bool.false_eq_true, Bool.true_eq_false, Bool.not_true, Bool.not_false, Bool.true_or, Bool.false_or, Bool.or_true, Bool.or_false, Bool.true_and, Bool.false_and, Bool.and_true, Bool.and_false, Bool.and_self, Bool.or_self, decide_true, decide_false, Nat.reduceBEq, Nat.reduceAdd, Nat.reduceSub, Nat.reduceLT, Int.reduceLT, Int.reduceLE, Int.reduceNeg, Int.reduceAdd, Int.reduceSub, Int.reduceMul, Nat.reduceEqDiff, Int.reduceEq, Nat.reduceLeDiff, ↓reduceIte, List.isEmpty_cons, ev_sE, ev_zE, ev_seq6, ev_end4, ev_endF1, ev_endF2, ev_runF, c_ok, c_same, c_bool, c_int, c_T, c_tup, c_lst, c_rt, c_nx, c_gam, c_da, c_ol, c_t, c_n, c_xf, c_tx, c_fx, c_xt, ↓cond_true, ↓cond_false, c_if, c_andT, c_orT, c_andE, c_orE, c_ifE, c_ch, c_seqK, c_seqK', c_endR, c_endR', c_isN, k_comp, k_comp2, k_all, k_fil, v_allM, v_anyM, v_sumM, ev_m1, ev_m1k, ev_m1k2, v_start, v_ends, v_find, v_count, ev_bad, ev_bad1, ev_many, ev_try, ev_try1, ev_try2, ev_try3, ev_try4, ev_tryM, ev_tryM1, ev_tryM2, ev_tryM3, ev_noXn1, ev_noXn2, ev_setE, ev_setEk, ev_lenK, ev_lenKk, ev_sortK, ev_sortKk, v_min2, v_max2, v_abs, ev_idx, ev_idxL, ev_idxS, ev_catE, ev_catEk, ev_rg1, v_startX, v_endsX, Bool.and_assoc, Bool.or_assoc, cond_true, cond_false, Bool.not_not, v_startB, ev_m1T, cut_to, cut_from, cut_mid, k_ixT, k_ixL, enumF, v_eqNilI, v_neNilI, v_eqNilT, v_neNilT, empty_filter, List.any_filter, List.all_filter, List.isEmpty_map, fin_eq, beg_cut, List.filter_filter, cut_to1, cut_mid1, ix0_app, head_filterT, head_filterI, v_neOT, head_filterT0, v_isB, beq_false, beq_true, beq_self_eq_true, v_eqNilT0, v_neNilT0, ev_rev2, v_revL, v_revX, ev_cL, ev_comp2, ev_comp2j, k_two, k_flat, k_flatF, flat_map, ev_retF, ev_retFk, ev_retO, ev_retOk, ev_usrF, ev_usrFk, ev_ownD, ev_ownD0, ev_empD, ev_dataD, ev_dataDk, ev_putD, ev_putD1, mark_F, mark_T, ev_popK, ev_popk, ev_extK, ev_extk, ev_forK, ev_forKk, ev_forF, ev_forFk, v_notBB, nxt_nx, nxt_rt, nxt_ct, nxt_bk, nxt_xn, c_nxt, fo_cons, fo_cons2, ev_m2, ev_m2T, ev_m2j, v_find3T, v_start3T, c_az, hA, v_in1, d1, ev_putD2 _ _ _ _ _ _ _ hk hl1 hno, put_sg] at hp ⊢
    exact hp
  · have d1 : decide (x ∈ al n) = false := decide_eq_false hx
    have em : met = mt (al n) met x := by unfold mt; rw [if_neg (fun z => hx z.1)]
    have hp := fin _ em
    simp only [b_arches_1, view, freeze, ev_seq, ev_seq1, ev_seq2, ev_seq3, ev_seq4, ev_seq5, ev_ret, ev_ret1, ev_ret2, ev_retN, ev_nil, ev_bk, ev_ct, ev_if, ev_ifT, ev_ifF, ev_ifX, ev_set, ev_set0, ev_set1, ev_set3, ev_drop, ev_drop1, ev_drop2, ev_own, ev_own0, ev_own1, ev_unp, ev_unp1, ev_unp2, ev_unp3, ev_app, ev_app0, ev_app1, ev_app2, ev_put, ev_put1, ev_put2, ev_aug, ev_aug1, ev_aug2, ev_for, ev_for0, ev_forN, ev_con, ev_var, ev_var1, ev_op2, ev_op2k, ev_op1, ev_op1k, ev_nilL, ev_consL, ev_consk, ev_tup, ev_tupk, ev_dat, ev_datk, ev_call, ev_callk, ev_callF, ev_callFk, ev_usr, ev_usrk, ev_usr0, ev_test, ev_testk, ev_b, ev_bk1, ev_isN, ev_isNk, ev_notN, ev_notNk, ev_andT, ev_andT1, ev_andT0, ev_orT, ev_orT1, ev_orT0, ev_notT, ev_notTk, ev_andE, ev_andE1, ev_andE0, ev_orE, ev_orE1, ev_orE0, ev_notE, ev_notEk, ev_ifE, ev_ifE1, ev_ifE0, ev_ch, ev_ch0, ev_ch1, ev_ch2, ev_isi, ev_isi1, ev_isi2, ev_isi3, ev_isi4, ev_isi5, ev_isi6, ev_sl, ev_slk, ev_slL, ev_slT, ev_slS, ev_par0, ev_par, ev_park, ev_seqE, ev_seqEL, ev_seqET, ev_seqES, ev_rg, ev_rgk, ev_en, ev_enL, ev_enT, ev_enS, ev_zi, ev_ziLL, ev_ziTT, ev_ziLT, ev_ziTL, ev_ziSS, ev_comp, ev_compk, v_add, v_sub, v_neg, v_eq, v_ne, v_lt, v_le, v_gt, v_ge, v_mulL, v_mulR, v_p9, v_p18, v_mod, v_div, v_int, v_lenL, v_lenT, v_lenS, v_tupL, v_tupT, v_itL, v_itT, v_ixL, v_ixT, v_sum, v_all, v_any, v_range1, v_range2, v_catT, v_catL, i_1, ev_run, ev_end1, ev_end2, ev_end3, ev_vN, ev_vC, ev_sU, ev_sD, ev_sO, ev_fN, ev_fC, ev_zU, ev_zD, ev_zO, fl1, fl2, fl3, fl4, fl5, sg0, sg1, se0, se1, t_N1, t_N2, t_N3, t_N4, t_N5, t_N6, ev_tru, ev_truL, ev_truT, ev_truB, ev_truN, ev_truI, ev_par2, ev_par2k, ev_par3, ev_par3k, v_lenX, v_catX, v_slX, v_ixX, v_eqX, v_neX, v_inX, v_ninX, v_repX, ev_seqEX, ev_isiX, t_N7, t_X1, t_X2, t_X3, t_X4, t_X5, t_X6, ev_truX, t_isInt_none, t_isInt_bool, t_isInt_int, t_isInt_str, t_isInt_tuple, t_isInt_list, t_isBool_none, t_isBool_bool, t_isBool_int, t_isBool_str, t_isBool_tuple, t_isBool_list, t_isStr_none, t_isStr_bool, t_isStr_int, t_isStr_str, t_isStr_tuple, t_isStr_list, t_isTup_none, t_isTup_bool, t_isTup_int, t_isTup_str, t_isTup_tuple, t_isTup_list, t_isLst_none, t_isLst_bool, t_isLst_int, t_isLst_str, t_isLst_tuple, t_isLst_list, t_nc0, t_nc1, t_nc2, t_nc3, t_nc4, t_nc5, t_nc6, t_nc7, t_nc8, t_nc9, t_nc10, t_nc11, t_nc12, t_nc13, t_nc14, t_nc15, t_nc16, t_nc17, t_nc18, t_nc19, t_nc20, t_nc21, t_nc22, t_nc23, t_nc24, t_nc25, t_nc26, t_nc27, t_nc28, t_nc29, t_nc30, t_nc31, t_nc32, List.map_cons, List.map_nil, List.length_cons, List.length_nil, List.cons_append, List.nil_append, List.append_nil, List.set_cons_zero, List.set_cons_succ, List.getElem?_cons_zero, List.getElem?_cons_succ, List.getElem?_nil, List.any_cons, List.any_nil, R.hard_ok, noLst, noLsts, gam0, List.replicate, wipeE, if_true, if_false, Bool.false_eq_true, Bool.true_eq_false, Bool.not_true, Bool.not_false, Bool.true_or, Bool.false_or, Bool.or_true, Bool.or_false, Bool.true_and, Bool.false_and, Bool.and_true, Bool.and_false, Bool.and_self, Bool.or_self, decide_true, decide_false, Nat.reduceBEq, Nat.reduceAdd, Nat.reduceSub, Nat.reduceLT, Int.reduceLT, Int.reduceLE, Int.reduceNeg, Int.reduceAdd, Int.reduceSub, Int.reduceMul, Nat.reduceEqDiff, Int.reduceEq, Nat.reduceLeDiff, ↓reduceIte, List.isEmpty_cons, ev_sE, ev_zE, ev_seq6, ev_end4, ev_endF1, ev_endF2, ev_runF, c_ok, c_same, c_bool, c_int, c_T, c_tup, c_lst, c_rt, c_nx, c_gam, c_da, c_ol, c_t, c_n, c_xf, c_tx, c_fx, c_xt, ↓cond_true, ↓cond_false, c_if, c_andT, c_orT, c_andE, c_orE, c_ifE, c_ch, c_seqK, c_seqK', c_endR, c_endR', c_isN, k_comp, k_comp2, k_all, k_fil, v_allM, v_anyM, v_sumM, ev_m1, ev_m1k, ev_m1k2, v_start, v_ends, v_find, v_count, ev_bad, ev_bad1, ev_many, ev_try, ev_try1, ev_try2, ev_try3, ev_try4, ev_tryM, ev_tryM1, ev_tryM2, ev_tryM3, ev_noXn1, ev_noXn2, ev_setE, ev_setEk, ev_lenK, ev_lenKk, ev_sortK, ev_sortKk, v_min2, v_max2, v_abs, ev_idx, ev_idxL, ev_idxS, ev_catE, ev_catEk, ev_rg1, v_startX, v_endsX, Bool.and_assoc, Bool.or_assoc, cond_true, cond_false, Bool.not_not, v_startB, ev_m1T, cut_to, cut_from, cut_mid, k_ixT, k_ixL, enumF, v_eqNilI, v_neNilI, v_eqNilT, v_neNilT, empty_filter, List.any_filter, List.all_filter, List.isEmpty_map, fin_eq, beg_cut, List.filter_filter, cut_to1, cut_mid1, ix0_app, head_filterT, head_filterI, v_neOT, head_filterT0, v_isB, beq_false, beq_true, beq_self_eq_true, v_eqNilT0, v_neNilT0, ev_rev2, v_revL, v_revX, ev_cL, ev_comp2, ev_comp2j, k_two, k_flat, k_flatF, flat_map, ev_retF, ev_retFk, ev_retO, ev_retOk, ev_usrF, ev_usrFk, ev_ownD, ev_ownD0, ev_empD, ev_dataD, ev_dataDk, ev_putD, ev_putD1, mark_F, mark_T, ev_popK, ev_popk, ev_extK, ev_extk, ev_forK, ev_forKk, ev_forF, ev_forFk, v_notBB, nxt_nx, nxt_rt, nxt_ct, nxt_bk, nxt_xn, c_nxt, fo_cons, fo_cons2, ev_m2, ev_m2T, ev_m2j, v_find3T, v_start3T, c_az, hA, v_in1, d1] at hp ⊢
    exact hp
theorem pa_loop {n : Nat} (h : n ≤ 4) {w : List Nat} : ∀ (s : List Nat) (k : Nat) (ends met : List Nat) (s4 s5 : Sl), k + s.length ≤ 500 → ends.length ≤ k → met.length ≤ k →
    ∃ (met' : List Nat) (s4' s5' : Sl), forL (.tup [.nm 4, .nm 5]) b_arches_1 ((s.zipIdx k).map fun p => PyData.tuple [.int ((p.2 : Nat) : Int), T [p.1]]) [.da (T w), .da (.int (n : Int)), .ol (eN ends), .od false (eD met), s4, s5] =
    .ok (.nx [.da (T w), .da (.int (n : Int)), .ol (eN (ends ++ en (al n) met k s)), .od false (eD met'), s4', s5'])
  | [], k, ends, met, s4, s5, hk, he, hm => ⟨met, s4, s5, by unfold en; rw [List.append_nil]; rfl⟩
  | x :: s, k, ends, met, s4, s5, hk, he, hm => by
    rw [List.length_cons] at hk
    have hst := pa_step (w := w) (k := k) (x := x) h (ends := ends) (met := met) (by omega) (by omega)
    have hmt : (mt (al n) met x).length ≤ met.length + 1 := by
      unfold mt
      split
      · simp
      · omega
    rw [List.zipIdx_cons, List.map_cons, fo_cons2]
    show ∃ (met' : List Nat) (s4' s5' : Sl), nxt (b_arches_1 [.da (T w), .da (.int (n : Int)), .ol (eN ends), .od false (eD met), .da (.int (k : Int)), .da (T [x])]) _ = _
    rw [hst, nxt_nx]
    unfold en
    by_cases hf : (mt (al n) met x).length = (al n).length
    · rw [if_pos hf, if_pos hf, if_pos hf]
      obtain ⟨m', a, b, e3⟩ := pa_loop h (w := w) s (k + 1) (ends ++ [k]) [] (.da (.int (k : Int))) (.da (T [x])) (by omega) (by simp; omega) (by simp)
      refine ⟨m', a, b, ?_⟩
      rw [e3]
      simp [List.append_assoc]
    · rw [if_neg hf, if_neg hf, if_neg hf]
      exact pa_loop h (w := w) s (k + 1) ends (mt (al n) met x) (.da (.int (k : Int))) (.da (T [x])) (by omega) (by omega) (by omega)
theorem enum_zip {α : Type} (enc : α → D) (w : List α) : enumD (w.map enc) = (w.zipIdx 0).map fun p => PyData.tuple [.int ((p.2 : Nat) : Int), enc p.1] := by
  rw [enumF]
  refine List.ext_getElem (by simp) fun i h1 h2 => ?_
  simp
theorem en_T (w : List Nat) : enK (.ok (T w)) = .ok ((w.zipIdx 0).map fun p => PyData.tuple [.int ((p.2 : Nat) : Int), T [p.1]]) := by
  show R.ok (enumD (RB.signs (S_ w))) = _
  rw [signs_T, enum_zip]
theorem s_arches {n : Nat} (h1 : 1 ≤ n) (h : n ≤ 4) {w : List Nat} (hw : ST w) : S_arches [T w, .int (n : Int)] = .ok (.tuple (eN (ends n w))) := by
  have hl := hw.len
  obtain ⟨m, a, b, e⟩ := pa_loop (w := w) h w 0 [] [] .un .un (by omega) (by simp) (by simp)
  have e : forL (.tup [.nm 4, .nm 5]) b_arches_1 ((w.zipIdx 0).map fun p => PyData.tuple [.int ((p.2 : Nat) : Int), T [p.1]]) [.da (T w), .da (.int (n : Int)), .ol [], .od false [], .un, .un] = _ := e
  simp_arith [S_arches, g_arches, s_want_short hw, s_want_signs h1 h, en_T, e]
  rfl
end K39

set_option Elab.async false
set_option linter.all false
set_option maxRecDepth 100000
set_option maxHeartbeats 8000000
namespace K39
open PySem RB Lib
local macro_rules | `(tactic| simp_arith [$as,*]) => `(tactic| simp only [view, freeze, ev_seq, ev_seq1, ev_seq2, ev_seq3, ev_seq4, ev_seq5, ev_ret, ev_ret1, ev_ret2, ev_retN, ev_nil, ev_bk, ev_ct, ev_if, ev_ifT, ev_ifF, ev_ifX, ev_set, ev_set0, ev_set1, ev_set3, ev_drop, ev_drop1, ev_drop2, ev_own, ev_own0, ev_own1, ev_unp, ev_unp1, ev_unp2, ev_unp3, ev_app, ev_app0, ev_app1, ev_app2, ev_put, ev_put1, ev_put2, ev_aug, ev_aug1, ev_aug2, ev_for, ev_for0, ev_forN, ev_con, ev_var, ev_var1, ev_op2, ev_op2k, ev_op1, ev_op1k, ev_nilL, ev_consL, ev_consk, ev_tup, ev_tupk, ev_dat, ev_datk, ev_call, ev_callk, ev_callF, ev_callFk, ev_usr, ev_usrk, ev_usr0, ev_test, ev_testk, ev_b, ev_bk1, ev_isN, ev_isNk, ev_notN, ev_notNk, ev_andT, ev_andT1, ev_andT0, ev_orT, ev_orT1, ev_orT0, ev_notT, ev_notTk, ev_andE, ev_andE1, ev_andE0, ev_orE, ev_orE1, ev_orE0, ev_notE, ev_notEk, ev_ifE, ev_ifE1, ev_ifE0, ev_ch, ev_ch0, ev_ch1, ev_ch2, ev_isi, ev_isi1, ev_isi2, ev_isi3, ev_isi4, ev_isi5, ev_isi6, ev_sl, ev_slk, ev_slL, ev_slT, ev_slS, ev_par0, ev_par, ev_park, ev_seqE, ev_seqEL, ev_seqET, ev_seqES, ev_rg, ev_rgk, ev_en, ev_enL, ev_enT, ev_enS, ev_zi, ev_ziLL, ev_ziTT, ev_ziLT, ev_ziTL, ev_ziSS, ev_comp, ev_compk, v_add, v_sub, v_neg, v_eq, v_ne, v_lt, v_le, v_gt, v_ge, v_mulL, v_mulR, v_p9, v_p18, v_mod, v_div, v_int, v_lenL, v_lenT, v_lenS, v_tupL, v_tupT, v_itL, v_itT, v_ixL, v_ixT, v_sum, v_all, v_any, v_range1, v_range2, v_catT, v_catL, i_1, ev_run, ev_end1, ev_end2, ev_end3, ev_vN, ev_vC, ev_sU, ev_sD, ev_sO, ev_fN, ev_fC, ev_zU, ev_zD, ev_zO, fl1, fl2, fl3, fl4, fl5, sg0, sg1, se0, se1, t_N1, t_N2, t_N3, t_N4, t_N5, t_N6, ev_tru, ev_truL, ev_truT, ev_truB, ev_truN, ev_truI, ev_par2, ev_par2k, ev_par3, ev_par3k, v_lenX, v_catX, v_slX, v_ixX, v_eqX, v_neX, v_inX, v_ninX, v_repX, ev_seqEX, ev_isiX, t_N7, t_X1, t_X2, t_X3, t_X4, t_X5, t_X6, ev_truX, t_isInt_none, t_isInt_bool, t_isInt_int, t_isInt_str, t_isInt_tuple, t_isInt_list, t_isBool_none, t_isBool_bool, t_isBool_int, t_isBool_str, t_isBool_tuple, t_isBool_list, t_isStr_none, t_isStr_bool, t_isStr_int, t_isStr_str, t_isStr_tuple, t_isStr_list, t_isTup_none, t_isTup_bool, t_isTup_int, t_isTup_str, t_isTup_tuple, t_isTup_list, t_isLst_none, t_isLst_bool, t_isLst_int, t_isLst_str, t_isLst_tuple, t_isLst_list, t_nc0, t_nc1, t_nc2, t_nc3, t_nc4, t_nc5, t_nc6, t_nc7, t_nc8, t_nc9, t_nc10, t_nc11, t_nc12, t_nc13, t_nc14, t_nc15, t_nc16, t_nc17, t_nc18, t_nc19, t_nc20, t_nc21, t_nc22, t_nc23, t_nc24, t_nc25, t_nc26, t_nc27, t_nc28, t_nc29, t_nc30, t_nc31, t_nc32, List.map_cons, List.map_nil, List.length_cons, List.length_nil, List.cons_append, List.nil_append, List.append_nil, List.set_cons_zero, List.set_cons_succ, List.getElem?_cons_zero, List.getElem?_cons_succ, List.getElem?_nil, List.any_cons, List.any_nil, R.hard_ok, noLst, noLsts, gam0, List.replicate, wipeE, if_true, if_false, Bool.false_eq_true, Bool.true_eq_false, Bool.not_true, Bool.not_false, Bool.true_or, Bool.false_or, Bool.or_true, Bool.or_false, Bool.true_and, Bool.false_and, Bool.and_true, Bool.and_false, Bool.and_self, Bool.or_self, decide_true, decide_false, Nat.reduceBEq, Nat.reduceAdd, Nat.reduceSub, Nat.reduceLT, Int.reduceLT, Int.reduceLE, Int.reduceNeg, Int.reduceAdd, Int.reduceSub, Int.reduceMul, Nat.reduceEqDiff, Int.reduceEq, Nat.reduceLeDiff, ↓reduceIte, List.isEmpty_cons, ev_sE, ev_zE, ev_seq6, ev_end4, ev_endF1, ev_endF2, ev_runF, c_ok, c_same, c_bool, c_int, c_T, c_tup, c_lst, c_rt, c_nx, c_gam, c_da, c_ol, c_t, c_n, c_xf, c_tx, c_fx, c_xt, ↓cond_true, ↓cond_false, c_if, c_andT, c_orT, c_andE, c_orE, c_ifE, c_ch, c_seqK, c_seqK', c_endR, c_endR', c_isN, k_comp, k_comp2, k_all, k_fil, v_allM, v_anyM, v_sumM, ev_m1, ev_m1k, ev_m1k2, v_start, v_ends, v_find, v_count, ev_bad, ev_bad1, ev_many, ev_try, ev_try1, ev_try2, ev_try3, ev_try4, ev_tryM, ev_tryM1, ev_tryM2, ev_tryM3, ev_noXn1, ev_noXn2, ev_setE, ev_setEk, ev_lenK, ev_lenKk, ev_sortK, ev_sortKk, v_min2, v_max2, v_abs, ev_idx, ev_idxL, ev_idxS, ev_catE, ev_catEk, ev_rg1, v_startX, v_endsX, Bool.and_assoc, Bool.or_assoc, cond_true, cond_false, Bool.not_not, v_startB, ev_m1T, cut_to, cut_from, cut_mid, k_ixT, k_ixL, enumF, v_eqNilI, v_neNilI, v_eqNilT, v_neNilT, empty_filter, List.any_filter, List.all_filter, List.isEmpty_map, fin_eq, beg_cut, List.filter_filter, cut_to1, cut_mid1, ix0_app, head_filterT, head_filterI, v_neOT, head_filterT0, v_isB, beq_false, beq_true, beq_self_eq_true, v_eqNilT0, v_neNilT0, ev_rev2, v_revL, v_revX, ev_cL, ev_comp2, ev_comp2j, k_two, k_flat, k_flatF, flat_map, ev_retF, ev_retFk, ev_retO, ev_retOk, ev_usrF, ev_usrFk, ev_ownD, ev_ownD0, ev_empD, ev_dataD, ev_dataDk, ev_putD, ev_putD1, mark_F, mark_T, ev_popK, ev_popk, ev_extK, ev_extk, ev_forK, ev_forKk, ev_forF, ev_forFk, v_notBB, nxt_nx, nxt_rt, nxt_ct, nxt_bk, nxt_xn, c_nxt, fo_cons, fo_cons2, ev_m2, ev_m2T, ev_m2j, v_find3T, v_start3T, $as,*])
/-! ### what is no part: the law -/
theorem sb_hit (x : Nat) (w s : List Nat) : sb (x :: w) (x :: s) = sb w s := by
  have h : aft x (x :: w) = some w := by unfold aft; rw [if_pos rfl]
  show (match aft x (x :: w) with
    | none => false
    | some v => sb v s) = _
  rw [h]
theorem sb_miss {x c : Nat} (hx : x ≠ c) (w s : List Nat) : sb (x :: w) (c :: s) = sb w (c :: s) := by
  have h : aft c (x :: w) = aft c w := by
    conv => lhs; unfold aft
    rw [if_neg hx]
  show (match aft c (x :: w) with
    | none => false
    | some v => sb v s) = match aft c w with
    | none => false
    | some v => sb v s
  rw [h]
theorem sb_nil (w : List Nat) : sb w [] = true := by cases w <;> rfl
theorem within_loop {w0 part : List Nat} : ∀ (w : List Nat) (h : Nat) (s3 : Sl), h ≤ part.length →
    ∃ (h' : Nat) (s3' : Sl), h' ≤ part.length ∧ (h' = part.length ↔ sb w (part.drop h) = true) ∧ forL (.nm 3) b__law_within_1 (w.map fun c => T [c]) [.da (T w0), .da (T part), .da (.int (h : Int)), s3] = .ok (.nx [.da (T w0), .da (T part), .da (.int (h' : Int)), s3'])
  | [], h, s3, hh => by
    refine ⟨h, s3, hh, ?_, rfl⟩
    constructor
    · intro e; rw [e, List.drop_length]; rfl
    · intro e
      cases hd : part.drop h with
      | nil => have := List.drop_eq_nil_iff.mp hd; omega
      | cons c s => rw [hd] at e; unfold sb aft at e; cases e
  | x :: w, h, s3, hh => by
    rw [List.map_cons, fo_cons]
    show ∃ (h' : Nat) (s3' : Sl), h' ≤ part.length ∧ (h' = part.length ↔ sb (x :: w) (part.drop h) = true) ∧ nxt (b__law_within_1 [.da (T w0), .da (T part), .da (.int (h : Int)), .da (T [x])]) _ = _
    by_cases hl : h < part.length
    · have hix : ixD (T part) (.int (h : Int)) = .ok (T [part[h]]) := v_ixX (List.getElem?_eq_getElem hl)
      have hd : part.drop h = part[h] :: part.drop (h + 1) := List.drop_eq_getElem_cons hl
      have d1 : decide ((h : Int) < (part.length : Int)) = true := decide_eq_true (by omega)
      by_cases hx : part[h] = x
      · obtain ⟨h', s', a1, a2, a3⟩ := within_loop (w0 := w0) w (h + 1) (.da (T [x])) hl
        refine ⟨h', s', a1, ?_, ?_⟩
        · rw [a2, hd, hx, sb_hit]
        · have d2 : decide ([part[h]] = [x]) = true := decide_eq_true (by rw [hx])
          simp_arith [b__law_within_1, v_lenX, d1, hix, v_eqX, d2]
          exact a3
      · obtain ⟨h', s', a1, a2, a3⟩ := within_loop (w0 := w0) w h (.da (T [x])) hh
        refine ⟨h', s', a1, ?_, ?_⟩
        · rw [a2, hd, sb_miss (fun e => hx e.symm)]
        · have d2 : decide ([part[h]] = [x]) = false := decide_eq_false (by simpa using hx)
          simp_arith [b__law_within_1, v_lenX, d1, hix, v_eqX, d2]
          exact a3
    · have d1 : decide ((h : Int) < (part.length : Int)) = false := decide_eq_false (by omega)
      obtain ⟨h', s', a1, a2, a3⟩ := within_loop (w0 := w0) w h (.da (T [x])) hh
      have hd : part.drop h = [] := List.drop_eq_nil_iff.mpr (by omega)
      refine ⟨h', s', a1, ?_, ?_⟩
      · rw [a2, hd, sb_nil, sb_nil]
      · simp_arith [b__law_within_1, v_lenX, d1]
        exact a3
theorem s_within (w part : List Nat) : S__law_within [T w, T part] = .ok (.bool (sb w part)) := by
  obtain ⟨h', s', a1, a2, a3⟩ := within_loop (w0 := w) (part := part) w 0 .un (Nat.zero_le _)
  have a3 : forL (.nm 3) b__law_within_1 (w.map fun c => T [c]) [.da (T w), .da (T part), .da (.int 0), .un] = _ := a3
  have d : decide ((h' : Int) = (part.length : Int)) = sb w part := by
    rw [List.drop_zero] at a2
    refine Bool.eq_iff_iff.mpr ?_
    rw [decide_eq_true_iff, ← a2]
    omega
  have hs : seqEK (.ok (T w)) = .ok (w.map fun c => T [c]) := by
    show R.ok (RB.signs (S_ w)) = _
    rw [signs_T]
  simp_arith [S__law_within, g__law_within, hs, a3, v_lenX, d]
theorem rw_len (A : List Nat) : ∀ k, (rw_ A k).length = A.length ^ k
  | 0 => rfl
  | k + 1 => by
    show ((rw_ A k).flatMap _).length = _
    rw [List.length_flatMap]
    have : ∀ l : List (List Nat), (l.map fun p => (A.map fun c => p ++ [c]).length).sum = l.length * A.length := by
      intro l
      induction l with
      | nil => simp
      | cons a l ih => rw [List.map_cons, List.sum_cons, ih, List.length_map, List.length_cons, Nat.add_mul]; omega
    rw [this, rw_len A k, Nat.pow_succ]
theorem rw_each (A : List Nat) : ∀ k, ∀ s ∈ rw_ A k, s.length = k
  | 0, s, h => by rw [List.mem_singleton.mp h]; rfl
  | k + 1, s, h => by
    obtain ⟨p, hp, h⟩ := List.mem_flatMap.mp h
    obtain ⟨c, _, rfl⟩ := List.mem_map.mp h
    rw [List.length_append, rw_each A k p hp]; rfl
/-- the rows of the next turn -/
theorem more_loop {n : Nat} (hn : n ≤ 4) {s0 s2 s3 s6 : Sl} : ∀ (ps : List (List Nat)) (acc : List (List Nat)) (s4 : Sl), (∀ p ∈ ps, p.length ≤ 1000) → acc.length + ps.length * n ≤ 16777216 →
    ∃ s4', forL (.nm 4) b__law_missing_2 (ps.map T) [s0, .da (.int (n : Int)), s2, s3, s4, .da (.list (acc.map T)), s6] = .ok (.nx [s0, .da (.int (n : Int)), s2, s3, s4', .da (.list ((acc ++ ps.flatMap fun p => (al n).map fun c => p ++ [c]).map T)), s6])
  | [], acc, s4, _, _ => ⟨s4, by rw [List.flatMap_nil, List.append_nil]; rfl⟩
  | p :: ps, acc, s4, hp, hl => by
    rw [List.length_cons, Nat.add_mul] at hl
    have hal := al_len n hn
    have hA : [97, 98, 99, 100].take n = al n := abcd_take n hn
    obtain ⟨s4', e⟩ := more_loop hn (s0 := s0) (s2 := s2) (s3 := s3) (s6 := s6) ps (acc ++ (al n).map fun c => p ++ [c]) (.da (T p)) (fun q hq => hp q (List.mem_cons_of_mem _ hq)) (by rw [List.length_append, List.length_map]; omega)
    refine ⟨s4', ?_⟩
    rw [List.map_cons, fo_cons]
    show nxt (b__law_missing_2 [s0, .da (.int (n : Int)), s2, s3, .da (T p), .da (.list (acc.map T)), s6]) _ = _
    have hpl := hp p List.mem_cons_self
    have hs : seqEK (.ok (T (al n))) = .ok ((al n).map fun c => T [c]) := by
      show R.ok (RB.signs (S_ (al n))) = _
      rw [signs_T]
    have hc : ∀ c : Nat, addD (T p) (T [c]) = .ok (T (p ++ [c])) := fun c => v_catX (by rw [List.length_singleton]; omega)
    have hcl : addD (.list (acc.map T)) (.list ((al n).map fun c => T (p ++ [c]))) = .ok (.list (acc.map T ++ (al n).map fun c => T (p ++ [c]))) := v_catL (by rw [List.length_map, List.length_map]; omega)
    have hb : b__law_missing_2 [s0, .da (.int (n : Int)), s2, s3, .da (T p), .da (.list (acc.map T)), s6] = .ok (.nx [s0, .da (.int (n : Int)), s2, s3, .da (T p), .da (.list ((acc ++ (al n).map fun c => p ++ [c]).map T)), s6]) := by
      simp_arith [b__law_missing_2, c_abcd, hA, hs, hc, hcl]
      rw [List.map_append, List.map_map]; rfl
    rw [hb, nxt_nx, e, List.flatMap_cons, List.append_assoc]
/-- one turn, at which no text is none -/
theorem turn_loop {n : Nat} (hn : n ≤ 4) (h1 : 1 ≤ n) {w v : List Nat} : ∀ (m k j : Nat) (s3 s4 s5 s6 : Sl), k + m = 13 → k + j < 13 → (∀ i, k ≤ i → i < k + j → F (al n) i w = none) → F (al n) (k + j) w = some v → n ^ (k + j) ≤ 4000000 →
    ∃ fl, fl = Fl.rt (T v) ∧ forL (.nm 3) b__law_missing_3 ((List.range' k m).map fun t => PyData.int ((t : Nat) : Int)) [.da (T w), .da (.int (n : Int)), .da (.list ((rw_ (al n) k).map T)), s3, s4, s5, s6] = .ok fl
  | 0, k, j, _, _, _, _, hm, hj, _, _, _ => by omega
  | m + 1, k, 0, s3, s4, s5, s6, hm, hj, hF, hv, hb => by
    refine ⟨_, rfl, ?_⟩
    rw [List.range'_succ, List.map_cons, fo_cons]
    show nxt (b__law_missing_3 [.da (T w), .da (.int (n : Int)), .da (.list ((rw_ (al n) k).map T)), .da (.int (k : Int)), s4, s5, s6]) _ = _
    obtain ⟨s', e⟩ := f_find (enc := T) (i := 4) (body := b__law_missing_1) (Γ := [.da (T w), .da (.int (n : Int)), .da (.list ((rw_ (al n) k).map T)), .da (.int (k : Int)), .un, s5, s6]) (fun s => !sb w s) T (rw_ (al n) k) s4 fun p hp => by
      simp_arith [b__law_missing_1, s_within]
    have hv : (rw_ (al n) k).find? (fun s => !sb w s) = some v := hv
    rw [hv] at e
    have e : forL (.nm 4) b__law_missing_1 ((rw_ (al n) k).map T) [.da (T w), .da (.int (n : Int)), .da (.list ((rw_ (al n) k).map T)), .da (.int (k : Int)), s4, s5, s6] = .ok (.rt (T v)) := e
    simp_arith [b__law_missing_3, e]
  | m + 1, k, j + 1, s3, s4, s5, s6, hm, hj, hF, hv, hb => by
    rw [List.range'_succ, List.map_cons, fo_cons]
    show ∃ fl, fl = _ ∧ nxt (b__law_missing_3 [.da (T w), .da (.int (n : Int)), .da (.list ((rw_ (al n) k).map T)), .da (.int (k : Int)), s4, s5, s6]) _ = _
    obtain ⟨s', e⟩ := f_find (enc := T) (i := 4) (body := b__law_missing_1) (Γ := [.da (T w), .da (.int (n : Int)), .da (.list ((rw_ (al n) k).map T)), .da (.int (k : Int)), .un, s5, s6]) (fun s => !sb w s) T (rw_ (al n) k) s4 fun p hp => by
      simp_arith [b__law_missing_1, s_within]
    have h0 : (rw_ (al n) k).find? (fun s => !sb w s) = none := hF k (Nat.le_refl _) (by omega)
    rw [h0] at e
    have e : forL (.nm 4) b__law_missing_1 ((rw_ (al n) k).map T) [.da (T w), .da (.int (n : Int)), .da (.list ((rw_ (al n) k).map T)), .da (.int (k : Int)), s4, s5, s6] = .ok (.nx [.da (T w), .da (.int (n : Int)), .da (.list ((rw_ (al n) k).map T)), .da (.int (k : Int)), s', s5, s6]) := e
    have hpow : n ^ (k + 1) ≤ n ^ (k + (j + 1)) := Nat.pow_le_pow_right h1 (by omega)
    obtain ⟨s4', e2⟩ := more_loop hn (s0 := .da (T w)) (s2 := .da (.list ((rw_ (al n) k).map T))) (s3 := .da (.int (k : Int))) (s6 := s6) (rw_ (al n) k) [] s' (fun p hp => by rw [rw_each _ _ p hp]; omega) (by
      rw [rw_len, al_len n hn, ← Nat.pow_succ]
      simp only [List.length_nil]
      have : n ^ k.succ = n ^ (k + 1) := rfl
      omega)
    have e2 : forL (.nm 4) b__law_missing_2 ((rw_ (al n) k).map T) [.da (T w), .da (.int (n : Int)), .da (.list ((rw_ (al n) k).map T)), .da (.int (k : Int)), s', .da (.list []), s6] = .ok (.nx [.da (T w), .da (.int (n : Int)), .da (.list ((rw_ (al n) k).map T)), .da (.int (k : Int)), s4', .da (.list ((rw_ (al n) (k + 1)).map T)), s6]) := e2
    have hb3 : b__law_missing_3 [.da (T w), .da (.int (n : Int)), .da (.list ((rw_ (al n) k).map T)), .da (.int (k : Int)), s4, s5, s6] = .ok (.nx [.da (T w), .da (.int (n : Int)), .da (.list ((rw_ (al n) (k + 1)).map T)), .da (.int (k : Int)), s4', .da (.list ((rw_ (al n) (k + 1)).map T)), s6]) := by
      simp_arith [b__law_missing_3, e, e2]
    rw [hb3, nxt_nx]
    refine turn_loop hn h1 m (k + 1) j _ _ _ _ (by omega) (by omega) (fun i a b => hF i (by omega) (by omega)) ?_ ?_
    · rw [show k + 1 + j = k + (j + 1) by omega]; exact hv
    · rw [show k + 1 + j = k + (j + 1) by omega]; exact hb
theorem s_law_missing {n : Nat} (h1 : 1 ≤ n) (hn : n ≤ 4) {w : List Nat} (hm : (miss (al n) w).length ≤ 12) (hb : n ^ (miss (al n) w).length ≤ 4000000) : S__law_missing [T w, .int (n : Int)] = .ok (T (miss (al n) w)) := by
  obtain ⟨m1, m2⟩ := miss_spec (al_ne h1 hn) _ w (Nat.lt_succ_self _)
  obtain ⟨fl, rfl, e⟩ := turn_loop hn h1 (w := w) (v := miss (al n) w) 13 0 (miss (al n) w).length .un .un .un .un (by omega) (by omega) (fun i _ h => m1 i (by omega)) (by rw [Nat.zero_add]; exact m2) (by rw [Nat.zero_add]; exact hb)
  have e : forL (.nm 3) b__law_missing_3 ((List.range' 0 13).map fun t => PyData.int ((t : Nat) : Int)) [.da (T w), .da (.int (n : Int)), .da (.list [T []]), .un, .un, .un, .un] = _ := e
  have hr : rangeD [.int 13] = .ok ((List.range' 0 13).map fun t => PyData.int ((t : Nat) : Int)) := v_rgR (n := 13) (by decide)
  simp_arith [S__law_missing, g__law_missing, c_nil, hr]
  rw [e]
  simp_arith []
end K39

set_option Elab.async false
set_option linter.all false
set_option maxRecDepth 100000
set_option maxHeartbeats 8000000
namespace K39
open PySem RB Lib
local macro_rules | `(tactic| simp_arith [$as,*]) => `(tactic| simp only [view, freeze, ev_seq, ev_seq1, ev_seq2, ev_seq3, ev_seq4, ev_seq5, ev_ret, ev_ret1, ev_ret2, ev_retN, ev_nil, ev_bk, ev_ct, ev_if, ev_ifT, ev_ifF, ev_ifX, ev_set, ev_set0, ev_set1, ev_set3, ev_drop, ev_drop1, ev_drop2, ev_own, ev_own0, ev_own1, ev_unp, ev_unp1, ev_unp2, ev_unp3, ev_app, ev_app0, ev_app1, ev_app2, ev_put, ev_put1, ev_put2, ev_aug, ev_aug1, ev_aug2, ev_for, ev_for0, ev_forN, ev_con, ev_var, ev_var1, ev_op2, ev_op2k, ev_op1, ev_op1k, ev_nilL, ev_consL, ev_consk, ev_tup, ev_tupk, ev_dat, ev_datk, ev_call, ev_callk, ev_callF, ev_callFk, ev_usr, ev_usrk, ev_usr0, ev_test, ev_testk, ev_b, ev_bk1, ev_isN, ev_isNk, ev_notN, ev_notNk, ev_andT, ev_andT1, ev_andT0, ev_orT, ev_orT1, ev_orT0, ev_notT, ev_notTk, ev_andE, ev_andE1, ev_andE0, ev_orE, ev_orE1, ev_orE0, ev_notE, ev_notEk, ev_ifE, ev_ifE1, ev_ifE0, ev_ch, ev_ch0, ev_ch1, ev_ch2, ev_isi, ev_isi1, ev_isi2, ev_isi3, ev_isi4, ev_isi5, ev_isi6, ev_sl, ev_slk, ev_slL, ev_slT, ev_slS, ev_par0, ev_par, ev_park, ev_seqE, ev_seqEL, ev_seqET, ev_seqES, ev_rg, ev_rgk, ev_en, ev_enL, ev_enT, ev_enS, ev_zi, ev_ziLL, ev_ziTT, ev_ziLT, ev_ziTL, ev_ziSS, ev_comp, ev_compk, v_add, v_sub, v_neg, v_eq, v_ne, v_lt, v_le, v_gt, v_ge, v_mulL, v_mulR, v_p9, v_p18, v_mod, v_div, v_int, v_lenL, v_lenT, v_lenS, v_tupL, v_tupT, v_itL, v_itT, v_ixL, v_ixT, v_sum, v_all, v_any, v_range1, v_range2, v_catT, v_catL, i_1, ev_run, ev_end1, ev_end2, ev_end3, ev_vN, ev_vC, ev_sU, ev_sD, ev_sO, ev_fN, ev_fC, ev_zU, ev_zD, ev_zO, fl1, fl2, fl3, fl4, fl5, sg0, sg1, se0, se1, t_N1, t_N2, t_N3, t_N4, t_N5, t_N6, ev_tru, ev_truL, ev_truT, ev_truB, ev_truN, ev_truI, ev_par2, ev_par2k, ev_par3, ev_par3k, v_lenX, v_catX, v_slX, v_ixX, v_eqX, v_neX, v_inX, v_ninX, v_repX, ev_seqEX, ev_isiX, t_N7, t_X1, t_X2, t_X3, t_X4, t_X5, t_X6, ev_truX, t_isInt_none, t_isInt_bool, t_isInt_int, t_isInt_str, t_isInt_tuple, t_isInt_list, t_isBool_none, t_isBool_bool, t_isBool_int, t_isBool_str, t_isBool_tuple, t_isBool_list, t_isStr_none, t_isStr_bool, t_isStr_int, t_isStr_str, t_isStr_tuple, t_isStr_list, t_isTup_none, t_isTup_bool, t_isTup_int, t_isTup_str, t_isTup_tuple, t_isTup_list, t_isLst_none, t_isLst_bool, t_isLst_int, t_isLst_str, t_isLst_tuple, t_isLst_list, t_nc0, t_nc1, t_nc2, t_nc3, t_nc4, t_nc5, t_nc6, t_nc7, t_nc8, t_nc9, t_nc10, t_nc11, t_nc12, t_nc13, t_nc14, t_nc15, t_nc16, t_nc17, t_nc18, t_nc19, t_nc20, t_nc21, t_nc22, t_nc23, t_nc24, t_nc25, t_nc26, t_nc27, t_nc28, t_nc29, t_nc30, t_nc31, t_nc32, List.map_cons, List.map_nil, List.length_cons, List.length_nil, List.cons_append, List.nil_append, List.append_nil, List.set_cons_zero, List.set_cons_succ, List.getElem?_cons_zero, List.getElem?_cons_succ, List.getElem?_nil, List.any_cons, List.any_nil, R.hard_ok, noLst, noLsts, gam0, List.replicate, wipeE, if_true, if_false, Bool.false_eq_true, Bool.true_eq_false, Bool.not_true, Bool.not_false, Bool.true_or, Bool.false_or, Bool.or_true, Bool.or_false, Bool.true_and, Bool.false_and, Bool.and_true, Bool.and_false, Bool.and_self, Bool.or_self, decide_true, decide_false, Nat.reduceBEq, Nat.reduceAdd, Nat.reduceSub, Nat.reduceLT, Int.reduceLT, Int.reduceLE, Int.reduceNeg, Int.reduceAdd, Int.reduceSub, Int.reduceMul, Nat.reduceEqDiff, Int.reduceEq, Nat.reduceLeDiff, ↓reduceIte, List.isEmpty_cons, ev_sE, ev_zE, ev_seq6, ev_end4, ev_endF1, ev_endF2, ev_runF, c_ok, c_same, c_bool, c_int, c_T, c_tup, c_lst, c_rt, c_nx, c_gam, c_da, c_ol, c_t, c_n, c_xf, c_tx, c_fx, c_xt, ↓cond_true, ↓cond_false, c_if, c_andT, c_orT, c_andE, c_orE, c_ifE, c_ch, c_seqK, c_seqK', c_endR, c_endR', c_isN, k_comp, k_comp2, k_all, k_fil, v_allM, v_anyM, v_sumM, ev_m1, ev_m1k, ev_m1k2, v_start, v_ends, v_find, v_count, ev_bad, ev_bad1, ev_many, ev_try, ev_try1, ev_try2, ev_try3, ev_try4, ev_tryM, ev_tryM1, ev_tryM2, ev_tryM3, ev_noXn1, ev_noXn2, ev_setE, ev_setEk, ev_lenK, ev_lenKk, ev_sortK, ev_sortKk, v_min2, v_max2, v_abs, ev_idx, ev_idxL, ev_idxS, ev_catE, ev_catEk, ev_rg1, v_startX, v_endsX, Bool.and_assoc, Bool.or_assoc, cond_true, cond_false, Bool.not_not, v_startB, ev_m1T, cut_to, cut_from, cut_mid, k_ixT, k_ixL, enumF, v_eqNilI, v_neNilI, v_eqNilT, v_neNilT, empty_filter, List.any_filter, List.all_filter, List.isEmpty_map, fin_eq, beg_cut, List.filter_filter, cut_to1, cut_mid1, ix0_app, head_filterT, head_filterI, v_neOT, head_filterT0, v_isB, beq_false, beq_true, beq_self_eq_true, v_eqNilT0, v_neNilT0, ev_rev2, v_revL, v_revX, ev_cL, ev_comp2, ev_comp2j, k_two, k_flat, k_flatF, flat_map, ev_retF, ev_retFk, ev_retO, ev_retOk, ev_usrF, ev_usrFk, ev_ownD, ev_ownD0, ev_empD, ev_dataD, ev_dataDk, ev_putD, ev_putD1, mark_F, mark_T, ev_popK, ev_popk, ev_extK, ev_extk, ev_forK, ev_forKk, ev_forF, ev_forFk, v_notBB, nxt_nx, nxt_rt, nxt_ct, nxt_bk, nxt_xn, c_nxt, fo_cons, fo_cons2, ev_m2, ev_m2T, ev_m2j, v_find3T, v_start3T, $as,*])
/-! ### what is no part: the program -/
theorem aft_none {c : Nat} {w : List Nat} : ∀ (m p : Nat), p + m = w.length → (∀ k : Nat, p ≤ k → k < w.length → w.getD k 0 ≠ c) → aft c (w.drop p) = none
  | 0, p, e, _ => by rw [List.drop_eq_nil_iff.mpr (by omega)]; rfl
  | m + 1, p, e, h => by
    have hp : p < w.length := by omega
    rw [List.drop_eq_getElem_cons hp]
    have h0 := h p (Nat.le_refl _) hp
    rw [List.getD_eq_getElem?_getD, List.getElem?_eq_getElem hp, Option.getD_some] at h0
    unfold aft
    rw [if_neg h0]
    exact aft_none m (p + 1) (by omega) fun k a b => h k (by omega) b
theorem aft_some {c k : Nat} {w : List Nat} (hk : k < w.length) (hc : w.getD k 0 = c) : ∀ (m p : Nat), p + m = k → (∀ j : Nat, p ≤ j → j < k → w.getD j 0 ≠ c) → aft c (w.drop p) = some (w.drop (k + 1))
  | 0, p, e, _ => by
    have : p = k := by omega
    subst this
    rw [List.drop_eq_getElem_cons hk]
    rw [List.getD_eq_getElem?_getD, List.getElem?_eq_getElem hk, Option.getD_some] at hc
    unfold aft
    rw [if_pos hc]
  | m + 1, p, e, h => by
    have hp : p < w.length := by omega
    have h0 := h p (Nat.le_refl _) (by omega)
    rw [List.getD_eq_getElem?_getD, List.getElem?_eq_getElem hp, Option.getD_some] at h0
    rw [List.drop_eq_getElem_cons hp]
    unfold aft
    rw [if_neg h0]
    exact aft_some hk hc m (p + 1) (by omega) fun j a b => h j (by omega) b
def RS (A w : List Nat) (p : Nat) : List D := (List.range (w.length + 1)).map fun q => T (if p ≤ q then miss A (w.drop q) else [])
theorem RS_len (A w : List Nat) (p : Nat) : (RS A w p).length = w.length + 1 := by unfold RS; rw [List.length_map, List.length_range]
theorem RS_set (A w : List Nat) {p : Nat} (hp : p ≤ w.length) : (RS A w (p + 1)).set p (T (miss A (w.drop p))) = RS A w p := by
  unfold RS
  refine List.ext_getElem (by simp) fun i h1 h2 => ?_
  rw [List.getElem_set]
  by_cases hi : p = i
  · subst hi
    rw [if_pos rfl]; simp
  · rw [if_neg hi]
    simp only [List.getElem_map, List.getElem_range]
    by_cases hl : p ≤ i
    · rw [if_pos hl, if_pos (by omega)]
    · rw [if_neg hl, if_neg (by omega)]
theorem RS_at (A w : List Nat) {p k : Nat} (h : p ≤ k) (hk : k ≤ w.length) : ixD (.list (RS A w p)) (.int (k : Int)) = .ok (T (miss A (w.drop k))) := v_ixL (by
  unfold RS
  rw [List.getElem?_map, List.getElem?_range (by omega)]
  show some (T (if p ≤ k then _ else _)) = _
  rw [if_pos h])
theorem in_step {n : Nat} {w : List Nat} (hw : w.length ≤ 100) {p c : Nat} (hp : p ≤ w.length) {best : List Nat} (hm : ∀ v : List Nat, v.length ≤ 100 → (miss (al n) v).length ≤ 1000) {s6 s7 : Sl} :
    ∃ s6' s7', b_missing_1 [.da (T w), .da (.int (n : Int)), .ol (RS (al n) w (p + 1)), .da (.int (p : Int)), .da (T best), .da (T [c]), s6, s7] = .ok (.nx [.da (T w), .da (.int (n : Int)), .ol (RS (al n) w (p + 1)), .da (.int (p : Int)), .da (T (stB (cnd (miss (al n)) (w.drop p)) best c)), .da (T [c]), s6', s7']) := by
  have fin : ∀ f : List Nat, f = cnd (miss (al n)) (w.drop p) c → stB (cnd (miss (al n)) (w.drop p)) best c = cond (decide (best = []) || decide ((f.length : Int) < (best.length : Int))) f best := fun f ef => by
    subst ef
    unfold stB
    by_cases h : best = [] ∨ (cnd (miss (al n)) (w.drop p) c).length < best.length
    · rw [if_pos h]
      have : (decide (best = []) || decide (((cnd (miss (al n)) (w.drop p) c).length : Int) < (best.length : Int))) = true := by
        rcases h with h | h
        · rw [decide_eq_true h]; rfl
        · rw [decide_eq_true (show ((cnd (miss (al n)) (w.drop p) c).length : Int) < (best.length : Int) by omega), Bool.or_true]
      rw [this]; rfl
    · rw [if_neg h]
      have : (decide (best = []) || decide (((cnd (miss (al n)) (w.drop p) c).length : Int) < (best.length : Int))) = false := by
        rw [decide_eq_false (fun z => h (.inl z)), decide_eq_false (fun z => h (.inr (by omega)))]; rfl
      rw [this]; rfl
  rcases find_ok w c p hp with ⟨h1, h2⟩ | ⟨k, h1, h2, h3, h4, h5⟩
  · have ef : [c] = cnd (miss (al n)) (w.drop p) c := by
      unfold cnd
      rw [aft_none (w.length - p) p (by omega) h2]
    have hf := fin _ ef
    simp_arith [b_missing_1, h1, c_nil, v_lenX, v_eqX]
    exact ⟨.da (.int (-1)), .da (T [c]), by rw [hf]; rfl⟩
  · have ef : c :: miss (al n) (w.drop (k + 1)) = cnd (miss (al n)) (w.drop p) c := by
      unfold cnd
      rw [aft_some h3 h4 (k - p) p (by omega) h5]
    have hf := fin _ ef
    have hix : ixD (.list (RS (al n) w (p + 1))) (.int ((k : Int) + 1)) = .ok (T (miss (al n) (w.drop (k + 1)))) := RS_at (al n) w (k := k + 1) (by omega) (by omega)
    have hmk := hm (w.drop (k + 1)) (by rw [List.length_drop]; omega)
    have hc : addD (T [c]) (T (miss (al n) (w.drop (k + 1)))) = .ok (T ([c] ++ miss (al n) (w.drop (k + 1)))) := v_catX (by rw [List.length_singleton]; omega)
    have d0 : decide ((k : Int) < 0) = false := decide_eq_false (by omega)
    simp_arith [b_missing_1, h1, c_nil, v_lenX, v_eqX, d0, hix, hc]
    exact ⟨.da (.int (k : Int)), .da (T (c :: miss (al n) (w.drop (k + 1)))), by rw [hf]; rfl⟩
theorem in_loop {n : Nat} {w : List Nat} (hw : w.length ≤ 100) {p : Nat} (hp : p ≤ w.length) (hm : ∀ v : List Nat, v.length ≤ 100 → (miss (al n) v).length ≤ 1000) : ∀ (cs best : List Nat) (s5 s6 s7 : Sl),
    ∃ s5' s6' s7', forL (.nm 5) b_missing_1 (cs.map fun c => T [c]) [.da (T w), .da (.int (n : Int)), .ol (RS (al n) w (p + 1)), .da (.int (p : Int)), .da (T best), s5, s6, s7] = .ok (.nx [.da (T w), .da (.int (n : Int)), .ol (RS (al n) w (p + 1)), .da (.int (p : Int)), .da (T (cs.foldl (stB (cnd (miss (al n)) (w.drop p))) best)), s5', s6', s7'])
  | [], best, s5, s6, s7 => ⟨s5, s6, s7, rfl⟩
  | c :: cs, best, s5, s6, s7 => by
    obtain ⟨s6', s7', e⟩ := in_step (n := n) (best := best) (c := c) (s6 := s6) (s7 := s7) hw hp hm
    obtain ⟨a, b, d, e2⟩ := in_loop hw hp hm cs (stB (cnd (miss (al n)) (w.drop p)) best c) (.da (T [c])) s6' s7'
    refine ⟨a, b, d, ?_⟩
    rw [List.map_cons, fo_cons]
    show nxt (b_missing_1 [.da (T w), .da (.int (n : Int)), .ol (RS (al n) w (p + 1)), .da (.int (p : Int)), .da (T best), .da (T [c]), s6, s7]) _ = _
    rw [e, nxt_nx, e2]; rfl
theorem out_step {n : Nat} {w : List Nat} (hw : w.length ≤ 100) {p : Nat} (hp : p ≤ w.length) (hm : ∀ v : List Nat, v.length ≤ 100 → (miss (al n) v).length ≤ 1000) {s4 s5 s6 s7 : Sl} :
    ∃ s4' s5' s6' s7', b_missing_2 [.da (T w), .da (.int (n : Int)), .ol (RS (al n) w (p + 1)), .da (.int (p : Int)), s4, s5, s6, s7] = .ok (.nx [.da (T w), .da (.int (n : Int)), .ol (RS (al n) w p), .da (.int (p : Int)), s4', s5', s6', s7']) := by
  obtain ⟨a, b, d, e⟩ := in_loop (n := n) hw hp hm (al n) [] s5 s6 s7
  have hA : AZ.take n = al n := rfl
  have hs : seqEK (.ok (T (al n))) = .ok ((al n).map fun c => T [c]) := by
    show R.ok (RB.signs (S_ (al n))) = _
    rw [signs_T]
  have hmi : (al n).foldl (stB (cnd (miss (al n)) (w.drop p))) [] = miss (al n) (w.drop p) := (miss_eq (al n) (w.drop p)).symm
  rw [hmi] at e
  have hlt : p < (RS (al n) w (p + 1)).length := by rw [RS_len]; omega
  have hno : noLst (T (miss (al n) (w.drop p))) = true := rfl
  refine ⟨.da (T (miss (al n) (w.drop p))), a, b, d, ?_⟩
  simp_arith [b_missing_2, c_nil, c_az, hA, hs, e, ev_put2 _ _ _ _ _ hlt hno, RS_set (al n) w hp]
def dn : Nat → List D
  | 0 => []
  | k + 1 => .int (k : Int) :: dn k
theorem out_loop {n : Nat} {w : List Nat} (hw : w.length ≤ 100) (hm : ∀ v : List Nat, v.length ≤ 100 → (miss (al n) v).length ≤ 1000) : ∀ (k : Nat) (s3 s4 s5 s6 s7 : Sl), k ≤ w.length + 1 →
    ∃ s3' s4' s5' s6' s7', forL (.nm 3) b_missing_2 (dn k) [.da (T w), .da (.int (n : Int)), .ol (RS (al n) w k), s3, s4, s5, s6, s7] = .ok (.nx [.da (T w), .da (.int (n : Int)), .ol (RS (al n) w 0), s3', s4', s5', s6', s7'])
  | 0, s3, s4, s5, s6, s7, _ => ⟨s3, s4, s5, s6, s7, rfl⟩
  | k + 1, s3, s4, s5, s6, s7, hk => by
    obtain ⟨a, b, d, f, e⟩ := out_step (n := n) (s4 := s4) (s5 := s5) (s6 := s6) (s7 := s7) hw (show k ≤ w.length by omega) hm
    obtain ⟨q3, q4, q5, q6, q7, e2⟩ := out_loop (n := n) hw hm k (.da (.int (k : Int))) a b d f (by omega)
    refine ⟨q3, q4, q5, q6, q7, ?_⟩
    show forL (.nm 3) b_missing_2 (.int (k : Int) :: dn k) _ = _
    rw [fo_cons]
    show nxt (b_missing_2 [.da (T w), .da (.int (n : Int)), .ol (RS (al n) w (k + 1)), .da (.int (k : Int)), s4, s5, s6, s7]) _ = _
    rw [e, nxt_nx, e2]
theorem dn_rg {n : Nat} (h : n ≤ 10000) : rangeD [.int (n : Int), .int (-1), .int (-1)] = .ok (dn (n + 1)) := by
  have e : ∀ k : Nat, (List.range k).map (fun i => PyData.int (((k : Int) - 1) + (i : Nat) * (-1))) = dn k := fun k => by
    induction k with
    | zero => rfl
    | succ k ih =>
      rw [List.range_succ_eq_map, List.map_cons, List.map_map]
      show PyData.int (((k + 1 : Nat) : Int) - 1 + ((0 : Nat) : Int) * (-1)) :: _ = PyData.int (k : Int) :: dn k
      rw [← ih]
      congr 2
      · omega
      · funext i
        show PyData.int (((k + 1 : Nat) : Int) - 1 + ((i + 1 : Nat) : Int) * (-1)) = _
        congr 1
        omega
  show (if (-1 : Int) = -1 ∧ -(2 ^ 61) ≤ (n : Int) ∧ (n : Int) ≤ 2 ^ 61 ∧ -(2 ^ 61) ≤ (-1 : Int) ∧ (-1 : Int) ≤ 2 ^ 61 ∧ ((n : Int) - -1).toNat ≤ 16777216 then R.ok (rngC (n : Int) (-1) ((n : Int) - -1).toNat) else .stuck) = _
  rw [if_pos ⟨rfl, by omega, by omega, by omega, by omega, by omega⟩]
  have : ((n : Int) - -1).toNat = n + 1 := by omega
  rw [this, ← e]
  unfold rngC
  congr 2
  funext i
  congr 1
  omega
theorem RS_init (A w : List Nat) : RS A w (w.length + 1) = List.replicate (w.length + 1) (T []) := by
  unfold RS
  refine List.ext_getElem (by simp) fun i h1 h2 => ?_
  simp only [List.length_map, List.length_range] at h1
  simp only [List.getElem_map, List.getElem_range, List.getElem_replicate]
  rw [if_neg (by omega)]
theorem rep_1 {n : Nat} (h : n ≤ 100000) (f : RB.Env → R (List D)) (g : RB.Env → R D) (ε : RB.Env) (d : D) (hf : f ε = .ok [d]) (hg : g ε = .ok (.int (n : Int))) : repF f g ε = .ok (List.replicate n d) := by
  unfold repF
  rw [hf, hg, R.ok_bind, R.ok_bind]
  show (if -(2 ^ 62) ≤ (n : Int) ∧ (n : Int) ≤ 2 ^ 62 ∧ [d].length * (n : Int).toNat ≤ 1000000 then R.ok (List.replicate (n : Int).toNat [d]).flatten else .stuck) = _
  rw [if_pos ⟨by omega, by omega, by rw [List.length_singleton]; omega⟩, Int.toNat_natCast]
  congr 1
  have : ∀ k : Nat, (List.replicate k [d]).flatten = List.replicate k d := fun k => by
    induction k with
    | zero => rfl
    | succ k ih => rw [List.replicate_succ, List.flatten_cons, ih]; rfl
  exact this n
theorem miss_le {n : Nat} (h1 : 1 ≤ n) (h : n ≤ 4) (v : List Nat) : (miss (al n) v).length ≤ v.length + 1 := by
  have hp := al_len n h
  have e := miss_en (al_ne h1 h) (al_nd n h) v 0
  have f := en_few (A := al n) v [] 0
  rw [hp] at f
  simp only [List.length_nil] at f
  have : (en (al n) [] 0 v).length ≤ (en (al n) [] 0 v).length * n := Nat.le_mul_of_pos_right _ h1
  omega
theorem s_missing {n : Nat} (h1 : 1 ≤ n) (h : n ≤ 4) {w : List Nat} (hw : ST w) : S_missing [T w, .int (n : Int)] = .ok (T (miss (al n) w)) := by
  have hl := hw.len
  have hm : ∀ v : List Nat, v.length ≤ 100 → (miss (al n) v).length ≤ 1000 := fun v hv => by have := miss_le h1 h v; omega
  obtain ⟨a, b, c, d, f, e⟩ := out_loop (n := n) (w := w) (by omega) hm (w.length + 1) .un .un .un .un .un (Nat.le_refl _)
  rw [RS_init] at e
  have hix : ixD (.list (RS (al n) w 0)) (.int 0) = .ok (T (miss (al n) w)) := RS_at (al n) w (p := 0) (k := 0) (Nat.le_refl _) (Nat.zero_le _)
  have hrep : repF (evL [con (T [])]) (op2E addD (callE lenG [var 0]) (con (.int 1))) [some (T w), some (.int (n : Int)), none, none, none, none, none, none] = .ok (List.replicate (w.length + 1) (T [])) := by
    refine rep_1 (by omega) _ _ _ _ (by simp_arith []) ?_
    simp_arith [v_lenX]
    rfl
  generalize List.replicate (w.length + 1) (T []) = R0 at e hrep
  simp_arith [S_missing, g_missing, s_want_short hw, s_want_signs h1 h, c_nil, hrep, v_lenX, dn_rg (show w.length ≤ 10000 by omega), e, hix]
end K39

set_option Elab.async false
set_option linter.all false
set_option maxRecDepth 100000
set_option maxHeartbeats 8000000
namespace K39
open PySem RB Lib
local macro_rules | `(tactic| simp_arith [$as,*]) => `(tactic| simp only [view, freeze, ev_seq, ev_seq1, ev_seq2, ev_seq3, ev_seq4, ev_seq5, ev_ret, ev_ret1, ev_ret2, ev_retN, ev_nil, ev_bk, ev_ct, ev_if, ev_ifT, ev_ifF, ev_ifX, ev_set, ev_set0, ev_set1, ev_set3, ev_drop, ev_drop1, ev_drop2, ev_own, ev_own0, ev_own1, ev_unp, ev_unp1, ev_unp2, ev_unp3, ev_app, ev_app0, ev_app1, ev_app2, ev_put, ev_put1, ev_put2, ev_aug, ev_aug1, ev_aug2, ev_for, ev_for0, ev_forN, ev_con, ev_var, ev_var1, ev_op2, ev_op2k, ev_op1, ev_op1k, ev_nilL, ev_consL, ev_consk, ev_tup, ev_tupk, ev_dat, ev_datk, ev_call, ev_callk, ev_callF, ev_callFk, ev_usr, ev_usrk, ev_usr0, ev_test, ev_testk, ev_b, ev_bk1, ev_isN, ev_isNk, ev_notN, ev_notNk, ev_andT, ev_andT1, ev_andT0, ev_orT, ev_orT1, ev_orT0, ev_notT, ev_notTk, ev_andE, ev_andE1, ev_andE0, ev_orE, ev_orE1, ev_orE0, ev_notE, ev_notEk, ev_ifE, ev_ifE1, ev_ifE0, ev_ch, ev_ch0, ev_ch1, ev_ch2, ev_isi, ev_isi1, ev_isi2, ev_isi3, ev_isi4, ev_isi5, ev_isi6, ev_sl, ev_slk, ev_slL, ev_slT, ev_slS, ev_par0, ev_par, ev_park, ev_seqE, ev_seqEL, ev_seqET, ev_seqES, ev_rg, ev_rgk, ev_en, ev_enL, ev_enT, ev_enS, ev_zi, ev_ziLL, ev_ziTT, ev_ziLT, ev_ziTL, ev_ziSS, ev_comp, ev_compk, v_add, v_sub, v_neg, v_eq, v_ne, v_lt, v_le, v_gt, v_ge, v_mulL, v_mulR, v_p9, v_p18, v_mod, v_div, v_int, v_lenL, v_lenT, v_lenS, v_tupL, v_tupT, v_itL, v_itT, v_ixL, v_ixT, v_sum, v_all, v_any, v_range1, v_range2, v_catT, v_catL, i_1, ev_run, ev_end1, ev_end2, ev_end3, ev_vN, ev_vC, ev_sU, ev_sD, ev_sO, ev_fN, ev_fC, ev_zU, ev_zD, ev_zO, fl1, fl2, fl3, fl4, fl5, sg0, sg1, se0, se1, t_N1, t_N2, t_N3, t_N4, t_N5, t_N6, ev_tru, ev_truL, ev_truT, ev_truB, ev_truN, ev_truI, ev_par2, ev_par2k, ev_par3, ev_par3k, v_lenX, v_catX, v_slX, v_ixX, v_eqX, v_neX, v_inX, v_ninX, v_repX, ev_seqEX, ev_isiX, t_N7, t_X1, t_X2, t_X3, t_X4, t_X5, t_X6, ev_truX, t_isInt_none, t_isInt_bool, t_isInt_int, t_isInt_str, t_isInt_tuple, t_isInt_list, t_isBool_none, t_isBool_bool, t_isBool_int, t_isBool_str, t_isBool_tuple, t_isBool_list, t_isStr_none, t_isStr_bool, t_isStr_int, t_isStr_str, t_isStr_tuple, t_isStr_list, t_isTup_none, t_isTup_bool, t_isTup_int, t_isTup_str, t_isTup_tuple, t_isTup_list, t_isLst_none, t_isLst_bool, t_isLst_int, t_isLst_str, t_isLst_tuple, t_isLst_list, t_nc0, t_nc1, t_nc2, t_nc3, t_nc4, t_nc5, t_nc6, t_nc7, t_nc8, t_nc9, t_nc10, t_nc11, t_nc12, t_nc13, t_nc14, t_nc15, t_nc16, t_nc17, t_nc18, t_nc19, t_nc20, t_nc21, t_nc22, t_nc23, t_nc24, t_nc25, t_nc26, t_nc27, t_nc28, t_nc29, t_nc30, t_nc31, t_nc32, List.map_cons, List.map_nil, List.length_cons, List.length_nil, List.cons_append, List.nil_append, List.append_nil, List.set_cons_zero, List.set_cons_succ, List.getElem?_cons_zero, List.getElem?_cons_succ, List.getElem?_nil, List.any_cons, List.any_nil, R.hard_ok, noLst, noLsts, gam0, List.replicate, wipeE, if_true, if_false, Bool.false_eq_true, Bool.true_eq_false, Bool.not_true, Bool.not_false, Bool.true_or, Bool.false_or, Bool.or_true, Bool.or_false, Bool.true_and, Bool.false_and, Bool.and_true, Bool.and_false, Bool.and_self, Bool.or_self, decide_true, decide_false, Nat.reduceBEq, Nat.reduceAdd, Nat.reduceSub, Nat.reduceLT, Int.reduceLT, Int.reduceLE, Int.reduceNeg, Int.reduceAdd, Int.reduceSub, Int.reduceMul, Nat.reduceEqDiff, Int.reduceEq, Nat.reduceLeDiff, ↓reduceIte, List.isEmpty_cons, ev_sE, ev_zE, ev_seq6, ev_end4, ev_endF1, ev_endF2, ev_runF, c_ok, c_same, c_bool, c_int, c_T, c_tup, c_lst, c_rt, c_nx, c_gam, c_da, c_ol, c_t, c_n, c_xf, c_tx, c_fx, c_xt, ↓cond_true, ↓cond_false, c_if, c_andT, c_orT, c_andE, c_orE, c_ifE, c_ch, c_seqK, c_seqK', c_endR, c_endR', c_isN, k_comp, k_comp2, k_all, k_fil, v_allM, v_anyM, v_sumM, ev_m1, ev_m1k, ev_m1k2, v_start, v_ends, v_find, v_count, ev_bad, ev_bad1, ev_many, ev_try, ev_try1, ev_try2, ev_try3, ev_try4, ev_tryM, ev_tryM1, ev_tryM2, ev_tryM3, ev_noXn1, ev_noXn2, ev_setE, ev_setEk, ev_lenK, ev_lenKk, ev_sortK, ev_sortKk, v_min2, v_max2, v_abs, ev_idx, ev_idxL, ev_idxS, ev_catE, ev_catEk, ev_rg1, v_startX, v_endsX, Bool.and_assoc, Bool.or_assoc, cond_true, cond_false, Bool.not_not, v_startB, ev_m1T, cut_to, cut_from, cut_mid, k_ixT, k_ixL, enumF, v_eqNilI, v_neNilI, v_eqNilT, v_neNilT, empty_filter, List.any_filter, List.all_filter, List.isEmpty_map, fin_eq, beg_cut, List.filter_filter, cut_to1, cut_mid1, ix0_app, head_filterT, head_filterI, v_neOT, head_filterT0, v_isB, beq_false, beq_true, beq_self_eq_true, v_eqNilT0, v_neNilT0, ev_rev2, v_revL, v_revX, ev_cL, ev_comp2, ev_comp2j, k_two, k_flat, k_flatF, flat_map, ev_retF, ev_retFk, ev_retO, ev_retOk, ev_usrF, ev_usrFk, ev_ownD, ev_ownD0, ev_empD, ev_dataD, ev_dataDk, ev_putD, ev_putD1, mark_F, mark_T, ev_popK, ev_popk, ev_extK, ev_extk, ev_forK, ev_forKk, ev_forF, ev_forFk, v_notBB, nxt_nx, nxt_rt, nxt_ct, nxt_bk, nxt_xn, c_nxt, fo_cons, fo_cons2, ev_m2, ev_m2T, ev_m2j, v_find3T, v_start3T, $as,*])
/-! ### what is taken for arches -/
def chk (n : Nat) (w : List Nat) (a b : Nat) : Bool := (al n).all fun c => decide (c ∈ (w.take b).drop a)
def okA (n : Nat) (w : List Nat) : Nat → List Int → Bool
  | _, [] => true
  | st, x :: xs => (decide ((st : Int) ≤ x) && decide (x < (w.length : Int))) && (chk n w st (x.toNat + 1) && okA n w (x.toNat + 1) xs)
def okL (n : Nat) (w : List Nat) : Nat → List Int → Bool
  | _, [] => true
  | st, x :: xs => chk n w st (x.toNat + 1) && okL n w (x.toNat + 1) xs
def btw (w : List Nat) (x : Int) : Bool := decide (0 ≤ x) && decide (x ≤ (w.length : Int) - 1)
def lb (st : Nat) : List Int → Bool
  | [] => true
  | x :: _ => decide ((st : Int) ≤ x)
def asc (xs : List Int) : Bool := adj (fun a b : Int => decide (a < b)) xs
theorem btw_iff (w : List Nat) (x : Int) : btw w x = true ↔ 0 ≤ x ∧ x < (w.length : Int) := by
  unfold btw
  rw [Bool.and_eq_true, decide_eq_true_iff, decide_eq_true_iff]
  omega
theorem okA_eq (n : Nat) (w : List Nat) : ∀ (xs : List Int) (st : Nat), okA n w st xs = true ↔ (xs.all (btw w) = true ∧ lb st xs = true ∧ asc xs = true ∧ okL n w st xs = true)
  | [], st => by simp [okA, lb, asc, adj, okL]
  | x :: xs, st => by
    have ih := okA_eq n w xs (x.toNat + 1)
    unfold okA okL lb
    rw [Bool.and_eq_true, Bool.and_eq_true, Bool.and_eq_true, ih, List.all_cons, Bool.and_eq_true, btw_iff, decide_eq_true_iff, decide_eq_true_iff, Bool.and_eq_true]
    have ha : 0 ≤ x → (asc (x :: xs) = true ↔ lb (x.toNat + 1) xs = true ∧ asc xs = true) := fun hx => by
      unfold asc
      cases xs with
      | nil => simp [adj, lb]
      | cons y ys =>
        rw [adj_cons, Bool.and_eq_true]
        unfold lb
        rw [decide_eq_true_iff, decide_eq_true_iff]
        have : x < y ↔ ((x.toNat + 1 : Nat) : Int) ≤ y := by omega
        rw [this]
    constructor
    · rintro ⟨⟨h1, h2⟩, h3, h4, h5, h6, h7⟩
      have hx : 0 ≤ x := by omega
      exact ⟨⟨⟨hx, h2⟩, h4⟩, h1, (ha hx).mpr ⟨h5, h6⟩, h3, h7⟩
    · rintro ⟨⟨⟨hx, h2⟩, h4⟩, h1, h5, h3, h7⟩
      obtain ⟨h5, h6⟩ := (ha hx).mp h5
      exact ⟨⟨h1, h2⟩, h3, h4, h5, h6, h7⟩
/-! the law's look -/
theorem lr_loop {n : Nat} (hn : n ≤ 4) {w : List Nat} {s2 s5 : Sl} : ∀ (xs : List Int) (st : Nat) (s4 : Sl),
    ∃ fl, forL (.nm 4) b__law_right_1 (xs.map .int) [.da (T w), .da (.int (n : Int)), s2, .da (.int ((st : Int) - 1)), s4, s5] = .ok fl ∧ (okA n w st xs = false → fl = .rt (.bool false)) ∧ (okA n w st xs = true → ∃ s3' s4', fl = .nx [.da (T w), .da (.int (n : Int)), s2, s3', s4', s5])
  | [], st, s4 => ⟨_, rfl, fun h => (nomatch h), fun _ => ⟨_, _, rfl⟩⟩
  | x :: xs, st, s4 => by
    have hA : [97, 98, 99, 100].take n = al n := abcd_take n hn
    have hs : seqEK (.ok (T (al n))) = .ok ((al n).map fun c => T [c]) := by
      show R.ok (RB.signs (S_ (al n))) = _
      rw [signs_T]
    rw [List.map_cons, fo_cons]
    show ∃ fl, nxt (b__law_right_1 [.da (T w), .da (.int (n : Int)), s2, .da (.int ((st : Int) - 1)), .da (.int x), s5]) _ = .ok fl ∧ _
    by_cases h1 : (st : Int) ≤ x ∧ x < (w.length : Int)
    · have d1 : decide (x ≤ (st : Int) - 1) = false := decide_eq_false (by omega)
      have d2 : decide ((w.length : Int) ≤ x) = false := decide_eq_false (by omega)
      have e1 : (st : Int) - 1 + 1 = (st : Int) := by omega
      have e2 : x + 1 = ((x.toNat + 1 : Nat) : Int) := by omega
      have hl : (decide ((st : Int) ≤ x) && decide (x < (w.length : Int))) = true := by rw [decide_eq_true h1.1, decide_eq_true h1.2]; rfl
      have hchk : (al n).any (fun c => !decide (c ∈ (w.take (x.toNat + 1)).drop st)) = !chk n w st (x.toNat + 1) := by
        unfold chk
        rw [List.all_eq_not_any_not, Bool.not_not]
      have hb : b__law_right_1 [.da (T w), .da (.int (n : Int)), s2, .da (.int ((st : Int) - 1)), .da (.int x), s5] = .ok (cond (chk n w st (x.toNat + 1)) (.nx [.da (T w), .da (.int (n : Int)), s2, .da (.int x), .da (.int x), s5]) (.rt (.bool false))) := by
        simp_arith [b__law_right_1, v_lenX, d1, d2, e1, e2, cut_nn, c_abcd, hA, hs, v_nin1, v_slX, hchk]
        cases chk n w st (x.toNat + 1) <;> rfl
      rw [hb]
      unfold okA
      rw [hl]
      cases hc : chk n w st (x.toNat + 1) with
      | true =>
        obtain ⟨fl, e, f1, f2⟩ := lr_loop hn (w := w) (s2 := s2) (s5 := s5) xs (x.toNat + 1) (.da (.int x))
        refine ⟨fl, ?_, fun h => f1 (by simpa using h), fun h => f2 (by simpa using h)⟩
        have e3 : ((x.toNat + 1 : Nat) : Int) - 1 = x := by omega
        rw [e3] at e
        rw [cond_true, nxt_nx, e]
      | false => exact ⟨_, rfl, fun _ => rfl, fun h => (nomatch h)⟩
    · have hl : (decide ((st : Int) ≤ x) && decide (x < (w.length : Int))) = false := by
        rw [Bool.and_eq_false_iff, decide_eq_false_iff_not, decide_eq_false_iff_not]
        omega
      have d1 : (decide (x ≤ (st : Int) - 1) || decide ((w.length : Int) ≤ x)) = true := by
        rw [Bool.or_eq_true, decide_eq_true_iff, decide_eq_true_iff]
        omega
      have hb : b__law_right_1 [.da (T w), .da (.int (n : Int)), s2, .da (.int ((st : Int) - 1)), .da (.int x), s5] = .ok (.rt (.bool false)) := by
        by_cases q : x ≤ (st : Int) - 1
        · simp_arith [b__law_right_1, v_lenX, decide_eq_true q]
        · have q2 : (w.length : Int) ≤ x := by omega
          simp_arith [b__law_right_1, v_lenX, decide_eq_false q, decide_eq_true q2]
      rw [hb]
      unfold okA
      rw [hl]
      exact ⟨_, rfl, fun _ => rfl, fun h => (nomatch h)⟩
theorem s_law_right {n : Nat} (hn : n ≤ 4) {w : List Nat} (xs : List Int) : S__law_right [T w, .int (n : Int), .tuple (xs.map .int)] = .ok (.bool (okA n w 0 xs)) := by
  obtain ⟨fl, e, f1, f2⟩ := lr_loop hn (w := w) (s2 := .da (.tuple (xs.map .int))) (s5 := .un) xs 0 .un
  have e : forL (.nm 4) b__law_right_1 (xs.map .int) [.da (T w), .da (.int (n : Int)), .da (.tuple (xs.map .int)), .da (.int (-1)), .un, .un] = .ok fl := e
  cases ho : okA n w 0 xs with
  | false => simp_arith [S__law_right, g__law_right, e, f1 ho]
  | true =>
    obtain ⟨a, b, rfl⟩ := f2 ho
    simp_arith [S__law_right, g__law_right, e]
/-! the program's look -/
theorem s_rising {c : D} {xs : List Int} (h : SeqD c (xs.map .int)) (hl : xs.length ≤ 1000) : S_is_rising [c] = .ok (.bool (asc xs)) := by
  have i0 : ∀ k : _root_.Fin (xs.length - 1), ixD c (.int (k.val : Int)) = .ok (.int (xs[k.val]'(by have := k.isLt; omega))) := fun k => k_ixI h _
  have i1 : ∀ k : _root_.Fin (xs.length - 1), ixD c (.int ((k.val : Int) + 1)) = .ok (.int (xs[k.val + 1]'(by have := k.isLt; omega))) := fun k => by
    have := k_ixI h (i := k.val + 1) (by have := k.isLt; omega)
    exact this
  have hq := v_lenQ h
  rw [List.length_map] at hq
  simp_arith [S_is_rising, g_is_rising, hq, rg_less (show xs.length ≤ 10000 by omega), i0, i1]
  unfold asc
  rw [← adj_all]
theorem s_set {c : D} {xs : List Int} (h : SeqD c (xs.map .int)) (hl : xs.length ≤ 1000) (w : List Nat) : S_is_number_set [c, .int 0, .int ((w.length : Int) - 1)] = .ok (.bool (xs.all (btw w) && asc xs)) := by
  have hs := v_seqQ h
  simp_arith [S_is_number_set, g_is_number_set, s_is_row h, hs, s_is_between, s_rising h hl]
  rfl
theorem pr_loop {n : Nat} (hn : n ≤ 4) {w : List Nat} {s2 s5 : Sl} : ∀ (xs : List Int) (st : Nat) (s4 : Sl), (∀ x ∈ xs, btw w x = true) →
    ∃ fl, forL (.nm 4) b_is_arches_1 (xs.map .int) [.da (T w), .da (.int (n : Int)), s2, .da (.int (st : Int)), s4, s5] = .ok fl ∧ (okL n w st xs = false → fl = .rt (.bool false)) ∧ (okL n w st xs = true → ∃ s3' s4', fl = .nx [.da (T w), .da (.int (n : Int)), s2, s3', s4', s5])
  | [], st, s4, _ => ⟨_, rfl, fun h => (nomatch h), fun _ => ⟨_, _, rfl⟩⟩
  | x :: xs, st, s4, hx => by
    have hA : AZ.take n = al n := rfl
    have hs : seqEK (.ok (T (al n))) = .ok ((al n).map fun c => T [c]) := by
      show R.ok (RB.signs (S_ (al n))) = _
      rw [signs_T]
    have hx0 := (btw_iff w x).mp (hx x List.mem_cons_self)
    have e2 : x + 1 = ((x.toNat + 1 : Nat) : Int) := by omega
    rw [List.map_cons, fo_cons]
    show ∃ fl, nxt (b_is_arches_1 [.da (T w), .da (.int (n : Int)), s2, .da (.int (st : Int)), .da (.int x), s5]) _ = .ok fl ∧ _
    have hchk : (al n).all (fun c => decide (c ∈ (w.take (x.toNat + 1)).drop st)) = chk n w st (x.toNat + 1) := rfl
    have hb : b_is_arches_1 [.da (T w), .da (.int (n : Int)), s2, .da (.int (st : Int)), .da (.int x), s5] = .ok (cond (chk n w st (x.toNat + 1)) (.nx [.da (T w), .da (.int (n : Int)), s2, .da (.int ((x.toNat + 1 : Nat) : Int)), .da (.int x), s5]) (.rt (.bool false))) := by
      simp_arith [b_is_arches_1, e2, cut_nn, c_az, hA, hs, v_in1, v_slX, hchk]
      cases chk n w st (x.toNat + 1) <;> rfl
    rw [hb]
    unfold okL
    cases hc : chk n w st (x.toNat + 1) with
    | true =>
      obtain ⟨fl, e, f1, f2⟩ := pr_loop hn (w := w) (s2 := s2) (s5 := s5) xs (x.toNat + 1) (.da (.int x)) fun y hy => hx y (List.mem_cons_of_mem _ hy)
      refine ⟨fl, ?_, fun h => f1 (by simpa using h), fun h => f2 (by simpa using h)⟩
      rw [cond_true, nxt_nx, ← e]
    | false => exact ⟨_, rfl, fun _ => rfl, fun h => (nomatch h)⟩
theorem s_is_arches {n : Nat} (h1 : 1 ≤ n) (hn : n ≤ 4) {w : List Nat} (hw : ST w) {c : D} {xs : List Int} (h : SeqD c (xs.map .int)) (hl : xs.length ≤ 1000) : S_is_arches [T w, .int (n : Int), c] = .ok (.bool (okA n w 0 xs)) := by
  have hset := s_set h hl w
  have key := okA_eq n w xs 0
  cases hb : xs.all (btw w) && asc xs with
  | false =>
    rw [hb] at hset
    have : okA n w 0 xs = false := by
      cases q : okA n w 0 xs with
      | false => rfl
      | true =>
        obtain ⟨a, _, b, _⟩ := key.mp q
        rw [a, b] at hb; cases hb
    simp_arith [S_is_arches, g_is_arches, s_want_short hw, s_want_signs h1 hn, v_lenX, hset, this]
  | true =>
    rw [hb] at hset
    rw [Bool.and_eq_true] at hb
    have hall := List.all_eq_true.mp hb.1
    have hs := v_seqQ h
    obtain ⟨fl, e, f1, f2⟩ := pr_loop hn (w := w) (s2 := .da c) (s5 := .un) xs 0 .un hall
    have e : forL (.nm 4) b_is_arches_1 (xs.map .int) [.da (T w), .da (.int (n : Int)), .da c, .da (.int 0), .un, .un] = .ok fl := e
    have hlb : lb 0 xs = true := by
      cases xs with
      | nil => rfl
      | cons x xs =>
        have := (btw_iff w x).mp (hall x List.mem_cons_self)
        exact decide_eq_true (by omega)
    have heq : okA n w 0 xs = okL n w 0 xs := Bool.eq_iff_iff.mpr (key.trans ⟨fun z => z.2.2.2, fun z => ⟨hb.1, hlb, hb.2, z⟩⟩)
    rw [heq]
    cases ho : okL n w 0 xs with
    | false => simp_arith [S_is_arches, g_is_arches, s_want_short hw, s_want_signs h1 hn, v_lenX, hset, hs, e, f1 ho]
    | true =>
      obtain ⟨a, b, rfl⟩ := f2 ho
      simp_arith [S_is_arches, g_is_arches, s_want_short hw, s_want_signs h1 hn, v_lenX, hset, hs, e]
end K39

set_option Elab.async false
set_option linter.all false
set_option maxRecDepth 100000
set_option maxHeartbeats 4000000
namespace RB
open PySem PySem.Spec L2 Lib
theorem v_revTu (xs : List D) : revT (.tuple xs) = .ok (.tuple xs.reverse) := Eq.trans rfl rfl
theorem ev_tupL (f : RB.Env → R (List D)) (ε : RB.Env) : tupL f ε = tupK (f ε) := Eq.trans rfl rfl
theorem rgLK_of {a b : Int} (c : L2.RgOk a b) : rgLK (.int a) (.int b) = .ok (rgD a b) := by
  show (if L2.RgOk a b then R.ok (rgD a b) else .stuck) = _
  exact if_pos c
theorem v_rg1R {n : Nat} (h : n ≤ 1000) : rg1K (.ok (.int (n : Int))) = .ok (((List.range n).map fun k => ((k : Nat) : Int)).map .int) := by
  have c : L2.RgOk 0 (n : Int) := L2.RgOk.of_le (by omega) (by omega) (by omega) (by omega)
  have e := rgLK_of c
  have h1 : rg1K (.ok (.int (n : Int))) = (rgLK (.int 0) (.int (n : Int))).hard := by
    unfold rg1K
    generalize PyData.int (n : Int) = y
    exact R.ok_bind y _
  have h2 : (rgLK (.int 0) (.int (n : Int))).hard = .ok (rgD 0 (n : Int)) := (congrArg R.hard e).trans (R.hard_ok _)
  refine h1.trans (h2.trans (congrArg R.ok ?_))
  unfold rgD
  rw [Int.sub_zero, Int.toNat_natCast, List.map_map]
  refine List.map_congr_left fun k _ => ?_
  show PyData.int (0 + _) = PyData.int _
  rw [Int.zero_add]
end RB

set_option Elab.async false
set_option linter.all false
set_option maxRecDepth 100000
set_option maxHeartbeats 8000000
namespace K39
open PySem RB Lib
local macro_rules | `(tactic| simp_arith [$as,*]) => `(tactic| simp only [view, freeze, ev_seq, ev_seq1, ev_seq2, ev_seq3, ev_seq4, ev_seq5, ev_ret, ev_ret1, ev_ret2, ev_retN, ev_nil, ev_bk, ev_ct, ev_if, ev_ifT, ev_ifF, ev_ifX, ev_set, ev_set0, ev_set1, ev_set3, ev_drop, ev_drop1, ev_drop2, ev_own, ev_own0, ev_own1, ev_unp, ev_unp1, ev_unp2, ev_unp3, ev_app, ev_app0, ev_app1, ev_app2, ev_put, ev_put1, ev_put2, ev_aug, ev_aug1, ev_aug2, ev_for, ev_for0, ev_forN, ev_con, ev_var, ev_var1, ev_op2, ev_op2k, ev_op1, ev_op1k, ev_nilL, ev_consL, ev_consk, ev_tup, ev_tupk, ev_dat, ev_datk, ev_call, ev_callk, ev_callF, ev_callFk, ev_usr, ev_usrk, ev_usr0, ev_test, ev_testk, ev_b, ev_bk1, ev_isN, ev_isNk, ev_notN, ev_notNk, ev_andT, ev_andT1, ev_andT0, ev_orT, ev_orT1, ev_orT0, ev_notT, ev_notTk, ev_andE, ev_andE1, ev_andE0, ev_orE, ev_orE1, ev_orE0, ev_notE, ev_notEk, ev_ifE, ev_ifE1, ev_ifE0, ev_ch, ev_ch0, ev_ch1, ev_ch2, ev_isi, ev_isi1, ev_isi2, ev_isi3, ev_isi4, ev_isi5, ev_isi6, ev_sl, ev_slk, ev_slL, ev_slT, ev_slS, ev_par0, ev_par, ev_park, ev_seqE, ev_seqEL, ev_seqET, ev_seqES, ev_rg, ev_rgk, ev_en, ev_enL, ev_enT, ev_enS, ev_zi, ev_ziLL, ev_ziTT, ev_ziLT, ev_ziTL, ev_ziSS, ev_comp, ev_compk, v_add, v_sub, v_neg, v_eq, v_ne, v_lt, v_le, v_gt, v_ge, v_mulL, v_mulR, v_p9, v_p18, v_mod, v_div, v_int, v_lenL, v_lenT, v_lenS, v_tupL, v_tupT, v_itL, v_itT, v_ixL, v_ixT, v_sum, v_all, v_any, v_range1, v_range2, v_catT, v_catL, i_1, ev_run, ev_end1, ev_end2, ev_end3, ev_vN, ev_vC, ev_sU, ev_sD, ev_sO, ev_fN, ev_fC, ev_zU, ev_zD, ev_zO, fl1, fl2, fl3, fl4, fl5, sg0, sg1, se0, se1, t_N1, t_N2, t_N3, t_N4, t_N5, t_N6, ev_tru, ev_truL, ev_truT, ev_truB, ev_truN, ev_truI, ev_par2, ev_par2k, ev_par3, ev_par3k, v_lenX, v_catX, v_slX, v_ixX, v_eqX, v_neX, v_inX, v_ninX, v_repX, ev_seqEX, ev_isiX, t_N7, t_X1, t_X2, t_X3, t_X4, t_X5, t_X6, ev_truX, t_isInt_none, t_isInt_bool, t_isInt_int, t_isInt_str, t_isInt_tuple, t_isInt_list, t_isBool_none, t_isBool_bool, t_isBool_int, t_isBool_str, t_isBool_tuple, t_isBool_list, t_isStr_none, t_isStr_bool, t_isStr_int, t_isStr_str, t_isStr_tuple, t_isStr_list, t_isTup_none, t_isTup_bool, t_isTup_int, t_isTup_str, t_isTup_tuple, t_isTup_list, t_isLst_none, t_isLst_bool, t_isLst_int, t_isLst_str, t_isLst_tuple, t_isLst_list, t_nc0, t_nc1, t_nc2, t_nc3, t_nc4, t_nc5, t_nc6, t_nc7, t_nc8, t_nc9, t_nc10, t_nc11, t_nc12, t_nc13, t_nc14, t_nc15, t_nc16, t_nc17, t_nc18, t_nc19, t_nc20, t_nc21, t_nc22, t_nc23, t_nc24, t_nc25, t_nc26, t_nc27, t_nc28, t_nc29, t_nc30, t_nc31, t_nc32, List.map_cons, List.map_nil, List.length_cons, List.length_nil, List.cons_append, List.nil_append, List.append_nil, List.set_cons_zero, List.set_cons_succ, List.getElem?_cons_zero, List.getElem?_cons_succ, List.getElem?_nil, List.any_cons, List.any_nil, R.hard_ok, noLst, noLsts, gam0, List.replicate, wipeE, if_true, if_false, Bool.false_eq_true, Bool.true_eq_false, Bool.not_true, Bool.not_false, Bool.true_or, Bool.false_or, Bool.or_true, Bool.or_false, Bool.true_and, Bool.false_and, Bool.and_true, Bool.and_false, Bool.and_self, Bool.or_self, decide_true, decide_false, Nat.reduceBEq, Nat.reduceAdd, Nat.reduceSub, Nat.reduceLT, Int.reduceLT, Int.reduceLE, Int.reduceNeg, Int.reduceAdd, Int.reduceSub, Int.reduceMul, Nat.reduceEqDiff, Int.reduceEq, Nat.reduceLeDiff, ↓reduceIte, List.isEmpty_cons, ev_sE, ev_zE, ev_seq6, ev_end4, ev_endF1, ev_endF2, ev_runF, c_ok, c_same, c_bool, c_int, c_T, c_tup, c_lst, c_rt, c_nx, c_gam, c_da, c_ol, c_t, c_n, c_xf, c_tx, c_fx, c_xt, ↓cond_true, ↓cond_false, c_if, c_andT, c_orT, c_andE, c_orE, c_ifE, c_ch, c_seqK, c_seqK', c_endR, c_endR', c_isN, k_comp, k_comp2, k_all, k_fil, v_allM, v_anyM, v_sumM, ev_m1, ev_m1k, ev_m1k2, v_start, v_ends, v_find, v_count, ev_bad, ev_bad1, ev_many, ev_try, ev_try1, ev_try2, ev_try3, ev_try4, ev_tryM, ev_tryM1, ev_tryM2, ev_tryM3, ev_noXn1, ev_noXn2, ev_setE, ev_setEk, ev_lenK, ev_lenKk, ev_sortK, ev_sortKk, v_min2, v_max2, v_abs, ev_idx, ev_idxL, ev_idxS, ev_catE, ev_catEk, ev_rg1, v_startX, v_endsX, Bool.and_assoc, Bool.or_assoc, cond_true, cond_false, Bool.not_not, v_startB, ev_m1T, cut_to, cut_from, cut_mid, k_ixT, k_ixL, enumF, v_eqNilI, v_neNilI, v_eqNilT, v_neNilT, empty_filter, List.any_filter, List.all_filter, List.isEmpty_map, fin_eq, beg_cut, List.filter_filter, cut_to1, cut_mid1, ix0_app, head_filterT, head_filterI, v_neOT, head_filterT0, v_isB, beq_false, beq_true, beq_self_eq_true, v_eqNilT0, v_neNilT0, ev_rev2, v_revL, v_revX, ev_cL, ev_comp2, ev_comp2j, k_two, k_flat, k_flatF, flat_map, ev_retF, ev_retFk, ev_retO, ev_retOk, ev_usrF, ev_usrFk, ev_ownD, ev_ownD0, ev_empD, ev_dataD, ev_dataDk, ev_putD, ev_putD1, mark_F, mark_T, ev_popK, ev_popk, ev_extK, ev_extk, ev_forK, ev_forKk, ev_forF, ev_forFk, v_notBB, nxt_nx, nxt_rt, nxt_ct, nxt_bk, nxt_xn, c_nxt, fo_cons, fo_cons2, ev_m2, ev_m2T, ev_m2j, v_find3T, v_start3T, $as,*])
/-! ### one sign -/
theorem aft_cnt0 : ∀ {w : List Nat}, aft 97 w = none → w.count 97 = 0
  | [], _ => rfl
  | x :: w, h => by
    unfold aft at h
    split at h
    · cases h
    · next hx => rw [List.count_cons_of_ne (fun e => hx e)]; exact aft_cnt0 h
theorem aft_cnt : ∀ {w v : List Nat}, aft 97 w = some v → w.count 97 = v.count 97 + 1
  | [], _, h => nomatch h
  | x :: w, v, h => by
    unfold aft at h
    split at h
    · next hx =>
      injection h with h
      subst h; subst hx
      rw [List.count_cons_self]
    · next hx => rw [List.count_cons_of_ne (fun e => hx e)]; exact aft_cnt h
theorem miss_one : ∀ (n : Nat) (w : List Nat), w.length < n → miss (al 1) w = List.replicate (w.count 97 + 1) 97
  | 0, _, h => absurd h (Nat.not_lt_zero _)
  | n + 1, w, h => by
    rw [miss_eq]
    have : bst (al 1) (cnd (miss (al 1)) w) = cnd (miss (al 1)) w 97 := rfl
    rw [this]
    unfold cnd
    cases e : aft 97 w with
    | none => rw [aft_cnt0 e]; rfl
    | some v =>
      have := (aft_suf e).2
      show 97 :: miss (al 1) v = _
      rw [miss_one n v (by omega), aft_cnt e, List.replicate_succ (n := v.count 97 + 1)]
theorem ends_one (w : List Nat) : (ends 1 w).length = w.count 97 := by
  have h := miss_en (al_ne (n := 1) (by decide) (by decide)) (al_nd 1 (by decide)) w 0
  rw [miss_one _ w (Nat.lt_succ_self _), List.length_replicate] at h
  unfold ends
  omega
theorem v_intB (b : Bool) : on1 intG [.bool b] = .ok (.int (cond b 1 0)) := by cases b <;> rfl
theorem ones_loop {s0 s1 s2 s3 s4 s5 s6 s7 s8 : Sl} : ∀ (w : List Nat) (k : Nat) (s10 : Sl), ∃ s10', forL (.nm 10) b_law_2 (w.map fun c => T [c]) [s0, s1, s2, s3, s4, s5, s6, s7, s8, .da (.int (k : Int)), s10] = .ok (.nx [s0, s1, s2, s3, s4, s5, s6, s7, s8, .da (.int ((k + w.count 97 : Nat) : Int)), s10'])
  | [], k, s10 => ⟨s10, rfl⟩
  | x :: w, k, s10 => by
    have c_a : PyData.str "a" = T [97] := congrArg PyData.str (by decide +kernel)
    rw [List.map_cons, fo_cons]
    show ∃ s10', nxt (b_law_2 [s0, s1, s2, s3, s4, s5, s6, s7, s8, .da (.int (k : Int)), .da (T [x])]) _ = _
    by_cases hx : x = 97
    · subst hx
      have d : decide (([97] : List Nat) = [97]) = true := rfl
      obtain ⟨a, e⟩ := ones_loop (s0 := s0) (s1 := s1) (s2 := s2) (s3 := s3) (s4 := s4) (s5 := s5) (s6 := s6) (s7 := s7) (s8 := s8) w (k + 1) (.da (T [97]))
      refine ⟨a, ?_⟩
      have hb : b_law_2 [s0, s1, s2, s3, s4, s5, s6, s7, s8, .da (.int (k : Int)), .da (T [97])] = .ok (.nx [s0, s1, s2, s3, s4, s5, s6, s7, s8, .da (.int ((k + 1 : Nat) : Int)), .da (T [97])]) := by
        simp_arith [b_law_2, c_a, v_eqX, v_intB, d]
        rfl
      rw [hb, nxt_nx, e, List.count_cons_self, show k + 1 + w.count 97 = k + (w.count 97 + 1) by omega]
    · have d : decide ([x] = [97]) = false := decide_eq_false (by simpa using hx)
      obtain ⟨a, e⟩ := ones_loop (s0 := s0) (s1 := s1) (s2 := s2) (s3 := s3) (s4 := s4) (s5 := s5) (s6 := s6) (s7 := s7) (s8 := s8) w k (.da (T [x]))
      refine ⟨a, ?_⟩
      have hb : b_law_2 [s0, s1, s2, s3, s4, s5, s6, s7, s8, .da (.int (k : Int)), .da (T [x])] = .ok (.nx [s0, s1, s2, s3, s4, s5, s6, s7, s8, .da (.int (k : Int)), .da (T [x])]) := by
        simp_arith [b_law_2, c_a, v_eqX, v_intB, d, Int.add_zero]
      rw [hb, nxt_nx, e, List.count_cons_of_ne (fun e => hx e)]
/-! ### the values -/
def Val (n : Nat) (w : List Nat) (d : D) : Prop := ∃ b d', S_is_arches [T w, .int (n : Int), d] = .ok (.bool b) ∧ S__law_tupled [d] = .ok d' ∧ S__law_right [T w, .int (n : Int), d'] = .ok (.bool b)
variable {n : Nat} {w : List Nat}
theorem val_T (h1 : 1 ≤ n) (hn : n ≤ 4) (hw : ST w) {xs : List Int} (hl : xs.length ≤ 1000) : Val n w (.tuple (xs.map .int)) :=
  ⟨_, _, s_is_arches h1 hn hw (.inl rfl) hl, by simp_arith [S__law_tupled, g__law_tupled], s_law_right hn xs⟩
theorem val_L (h1 : 1 ≤ n) (hn : n ≤ 4) (hw : ST w) {xs : List Int} (hl : xs.length ≤ 1000) : Val n w (.list (xs.map .int)) :=
  ⟨_, _, s_is_arches h1 hn hw (.inr rfl) hl, by simp_arith [S__law_tupled, g__law_tupled], s_law_right hn xs⟩
theorem val_none (h1 : 1 ≤ n) (hn : n ≤ 4) (hw : ST w) : Val n w .none := by
  have hrow : S_is_row [.none] = .ok (.bool false) := by simp_arith [S_is_row, g_is_row]
  refine ⟨false, .none, ?_, ?_, ?_⟩
  · simp_arith [S_is_arches, g_is_arches, S_is_number_set, g_is_number_set, s_want_short hw, s_want_signs h1 hn, v_lenX, hrow]
  · simp_arith [S__law_tupled, g__law_tupled]
  · simp_arith [S__law_right, g__law_right]
theorem val_int (h1 : 1 ≤ n) (hn : n ≤ 4) (hw : ST w) (i : Int) : Val n w (.int i) := by
  have hrow : S_is_row [.int i] = .ok (.bool false) := by simp_arith [S_is_row, g_is_row]
  refine ⟨false, .int i, ?_, ?_, ?_⟩
  · simp_arith [S_is_arches, g_is_arches, S_is_number_set, g_is_number_set, s_want_short hw, s_want_signs h1 hn, v_lenX, hrow]
  · simp_arith [S__law_tupled, g__law_tupled]
  · simp_arith [S__law_right, g__law_right]
theorem val_true (h1 : 1 ≤ n) (hn : n ≤ 4) (hw : ST w) : Val n w (.tuple [.bool true]) := by
  have hrow : S_is_row [.tuple [.bool true]] = .ok (.bool true) := s_is_row (.inl rfl)
  have hi : S_is_int [.bool true] = .ok (.bool false) := rfl
  have hbt : ∀ a b : Int, S_is_between [.bool true, .int a, .int b] = .ok (.bool false) := fun a b => by simp_arith [S_is_between, g_is_between, hi]
  have h1' : seqC [((R.ok true : R Bool), (R.ok (PyData.bool false) : R D))] = .ok [.bool false] := rfl
  have h2 : on1 allG [.list [.bool false]] = .ok (.bool false) := rfl
  refine ⟨false, .tuple [.bool true], ?_, ?_, ?_⟩
  · simp_arith [S_is_arches, g_is_arches, S_is_number_set, g_is_number_set, s_want_short hw, s_want_signs h1 hn, v_lenX, hrow, k_compD, hbt, h1', h2]
  · simp_arith [S__law_tupled, g__law_tupled]
  · simp_arith [S__law_right, g__law_right, b__law_right_1]
theorem val_loop {ds : List D} (hd : ∀ d ∈ ds, Val n w d) {s0 s1 s4 s5 s6 s7 s8 s9 s10 : Sl} : ∃ s8', forL (.nm 8) b_law_1 ds [s0, s1, .da (.int (n : Int)), .da (T w), s4, s5, s6, s7, s8, s9, s10] = .ok (.nx [s0, s1, .da (.int (n : Int)), .da (T w), s4, s5, s6, s7, s8', s9, s10]) := by
  obtain ⟨s', e⟩ := f_passD (i := 8) (body := b_law_1) (Γ := [s0, s1, .da (.int (n : Int)), .da (T w), s4, s5, s6, s7, s8, s9, s10]) ds s8 fun d h => by
    obtain ⟨b, d', e1, e2, e3⟩ := hd d h
    have hs := same_bool 5 b b
    rw [beq_self_eq_true] at hs
    simp_arith [b_law_1, e1, e2, e3, hs]
  exact ⟨s', e⟩
theorem law_true : ∀ ns : List Int, ns.length ≤ 63 → S_law [.list (ns.map .int)] = .ok (.bool true) := by
  intro ns _
  obtain ⟨xs, hx1, hx2, ex⟩ := s_law_numbers ns 0 4 (by decide)
  have ex : S__law_numbers [.list (ns.map .int), .int 0, .int 4] = .ok (.list (xs.map .int)) := ex
  have i0 : ixD (.list (xs.map .int)) (.int 0) = .ok (.int (xs[0]'(by omega))) := ix_nums (n := 0) (by omega)
  have i1 : ixD (.list (xs.map .int)) (.int 1) = .ok (.int (xs[1]'(by omega))) := ix_nums (n := 1) (by omega)
  have p0 := (hx2 (xs[0]'(by omega)) (List.getElem_mem _)).1
  have p1 := (hx2 (xs[1]'(by omega)) (List.getElem_mem _)).1
  generalize xs[0]'(by omega) = x0 at i0 p0
  generalize xs[1]'(by omega) = x1 at i1 p1
  obtain ⟨n, hn, hn2, hn3⟩ : ∃ n : Nat, 2 + x0 % 2 = (n : Int) ∧ 2 ≤ n ∧ n ≤ 3 := ⟨(2 + x0 % 2).toNat, by omega, by omega, by omega⟩
  obtain ⟨m, hm, hm2, hm3⟩ : ∃ m : Nat, (n : Int) + x0 / 2 % 2 = (m : Int) ∧ 2 ≤ m ∧ m ≤ 4 := ⟨((n : Int) + x0 / 2 % 2).toNat, by omega, by omega, by omega⟩
  obtain ⟨w, w1, w2, ew⟩ := s_law_text (x := x1) (most := 12) (signs := m) p1 (by decide) (by omega) (by omega)
  have hw : ST w := ⟨List.all_eq_true.mpr fun c hc => decide_eq_true (mem_AZ (w2 c hc).1 (by have := (w2 c hc).2; omega)), by omega⟩
  have ew : S__law_text [.int x1, .int 12, .int (m : Int)] = .ok (T w) := ew
  have hlen := hw.len
  have hn1 : 1 ≤ n := by omega
  have hn4 : n ≤ 4 := by omega
  have few := en_few (A := al n) w [] 0
  rw [al_len n hn4] at few
  have few : (ends n w).length * n ≤ w.length + 0 := few
  have few2 : (ends n w).length * 2 ≤ (ends n w).length * n := Nat.mul_le_mul_left _ hn2
  have hml := miss_en (al_ne hn1 hn4) (al_nd n hn4) w 0
  have hml : (miss (al n) w).length = (ends n w).length + 1 := hml
  have lm := s_law_missing hn1 hn4 (w := w) (by omega) (by
    have h3 : n ^ (miss (al n) w).length ≤ 3 ^ (miss (al n) w).length := Nat.pow_le_pow_left hn3 _
    have h4 : 3 ^ (miss (al n) w).length ≤ 3 ^ 7 := Nat.pow_le_pow_right (by decide) (by omega)
    have : (3 : Nat) ^ 7 = 2187 := by decide
    omega)
  obtain ⟨E, hE⟩ : ∃ E : List Int, E = (ends n w).map fun k => ((k : Nat) : Int) := ⟨_, rfl⟩
  have hEN : eN (ends n w) = E.map .int := by rw [hE, List.map_map]; rfl
  have hEl : E.length = (ends n w).length := by rw [hE, List.length_map]
  have a1 := s_arches hn1 hn4 hw
  have a2 := s_law_arches (n := n) hn4 (w := w) (by omega)
  rw [hEN] at a1 a2
  have sE : S__law_same 6 [.tuple (E.map .int), .tuple (E.map .int)] = .ok (.bool true) := same_refl 6 _ (sameB_map _ (by omega) fun _ _ => rfl)
  have sM : S__law_same 6 [T (miss (al n) w), T (miss (al n) w)] = .ok (.bool true) := by
    rw [show T (miss (al n) w) = .str (S_ (miss (al n) w)) from rfl, same_str]; simp
  have d1 : decide ((((miss (al n) w).length : Nat) : Int) = (E.length : Int) + 1) = true := decide_eq_true (by omega)
  have hmin : ∀ k : Int, on1 minG [.list [.int (k + 1), .int ((w.length : Int) - 1)]] = .ok (.int (min (k + 1) ((w.length : Int) - 1))) := fun k => v_minIs (x := k + 1) (xs := [(w.length : Int) - 1])
  have hcat : addD (.tuple (E.map .int)) (.tuple ((E.take 1).map .int)) = .ok (.tuple ((E ++ E.take 1).map .int)) := by
    rw [List.map_append]
    exact v_catT (by rw [List.length_map, List.length_map, List.length_take]; omega)
  have cut1 : ∀ l : List D, cutD l (some 1) none = l.drop 1 := fun l => cut_from l 1
  have cut2 : ∀ l : List D, cutD l none (some 1) = l.take 1 := fun l => cut_to l 1
  have hlate : (E.map fun x => PyData.int (min (x + 1) ((w.length : Int) - 1))) = (E.map fun x => min (x + 1) ((w.length : Int) - 1)).map .int := by rw [List.map_map]; rfl
  have a1' : S_missing [T w, .int 1] = .ok (T (List.replicate (w.count 97 + 1) 97)) := by
    have := s_missing (n := 1) (by decide) (by decide) hw
    rw [miss_one _ w (Nat.lt_succ_self _)] at this
    exact this
  have a2' : S_arches [T w, .int 1] = .ok (.tuple (eN (ends 1 w))) := s_arches (n := 1) (by decide) (by decide) hw
  have stE : ST [] := ⟨rfl, by decide⟩
  have st8 : ST [97, 98, 99, 100, 97, 98, 99, 100] := ⟨by decide, by decide⟩
  have m4 : miss (al 4) [] = [97] := by decide
  have a3' : S_missing [T [], .int 4] = .ok (T [97]) := by
    have := s_missing (n := 4) (by decide) (by decide) stE
    rw [m4] at this
    exact this
  have c8 : PyData.str "abcdabcd" = T [97, 98, 99, 100, 97, 98, 99, 100] := congrArg PyData.str (by decide +kernel)
  have c_a : PyData.str "a" = T [97] := congrArg PyData.str (by decide +kernel)
  have m8 := miss_le (n := 4) (by decide) (by decide) [97, 98, 99, 100, 97, 98, 99, 100]
  have m8' := miss_en (al_ne (n := 4) (by decide) (by decide)) (al_nd 4 (by decide)) [97, 98, 99, 100, 97, 98, 99, 100] 0
  have e8 : (en (al 4) [] 0 [97, 98, 99, 100, 97, 98, 99, 100]).length = 2 := by decide
  rw [e8] at m8'
  have a4' : S_missing [T [97, 98, 99, 100, 97, 98, 99, 100], .int 4] = _ := s_missing (n := 4) (by decide) (by decide) st8
  have a5' : S__law_missing [T [97, 98, 99, 100, 97, 98, 99, 100], .int 4] = _ := s_law_missing (n := 4) (by decide) (by decide) (w := [97, 98, 99, 100, 97, 98, 99, 100]) (by omega) (by rw [m8']; decide)
  have sT : ∀ u : List Nat, S__law_same 6 [T u, T u] = .ok (.bool true) := fun u => by
    rw [show T u = .str (S_ u) from rfl, same_str]; simp
  have sI : ∀ i : Int, S__law_same 6 [.int i, .int i] = .ok (.bool true) := fun i => by rw [same_int, decide_eq_true rfl]
  have hw8 : (eN (ends 1 w)).length = w.count 97 := by unfold eN; rw [List.length_map, ends_one]
  have hcw : w.count 97 ≤ 12 := Nat.le_trans List.count_le_length hlen
  have hrep : mulB (T [97]) (.int ((w.count 97 : Int) + 1)) = .ok (T (List.replicate (w.count 97 + 1) 97)) := by
    rw [v_repX (by omega) (by omega) (by simp; omega)]
    have : ((w.count 97 : Int) + 1).toNat = w.count 97 + 1 := by omega
    rw [this]
    congr 2
    have : ∀ k : Nat, (List.replicate k [97]).flatten = List.replicate k 97 := fun k => by
      induction k with
      | zero => rfl
      | succ k ih => rw [List.replicate_succ, List.flatten_cons, ih]; rfl
    exact this _
  have hsw : seqEK (.ok (T w)) = .ok (w.map fun c => T [c]) := by
    show R.ok (RB.signs (S_ w)) = _
    rw [signs_T]
  have hcut : ∀ c : D, c ∈ ([.tuple (E.map .int), .tuple ((E.drop 1).map .int), .tuple (E.reverse.map .int), .tuple ((E.map fun x => min (x + 1) ((w.length : Int) - 1)).map .int), .tuple [], .none, .int 7, .tuple (((List.range w.length).map fun k => ((k : Nat) : Int)).map .int), .tuple ((E ++ E.take 1).map .int), .tuple [.int (w.length : Int)], .tuple [.int ((w.length : Int) - 1)], .tuple [.bool true], .tuple [.int (-1)], .list (E.map .int)] : List D) → Val n w c := fun c hc => by
    simp only [List.mem_cons, List.not_mem_nil, or_false] at hc
    rcases hc with rfl | rfl | rfl | rfl | rfl | rfl | rfl | rfl | rfl | rfl | rfl | rfl | rfl | rfl
    · exact val_T hn1 hn4 hw (by omega)
    · exact val_T hn1 hn4 hw (by rw [List.length_drop]; omega)
    · exact val_T hn1 hn4 hw (by rw [List.length_reverse]; omega)
    · exact val_T hn1 hn4 hw (by rw [List.length_map]; omega)
    · exact val_T hn1 hn4 hw (xs := []) (by decide)
    · exact val_none hn1 hn4 hw
    · exact val_int hn1 hn4 hw 7
    · exact val_T hn1 hn4 hw (by rw [List.length_map, List.length_range]; omega)
    · exact val_T hn1 hn4 hw (by rw [List.length_append, List.length_take]; omega)
    · exact val_T hn1 hn4 hw (xs := [(w.length : Int)]) (by show 1 ≤ 1000; omega)
    · exact val_T hn1 hn4 hw (xs := [(w.length : Int) - 1]) (by show 1 ≤ 1000; omega)
    · exact val_true hn1 hn4 hw
    · exact val_T hn1 hn4 hw (xs := [-1]) (by decide)
    · exact val_L hn1 hn4 hw (by omega)
  simp only [S_law, g_law, view, freeze, ev_seq, ev_seq1, ev_seq2, ev_seq3, ev_seq4, ev_seq5, ev_ret, ev_ret1, ev_ret2, ev_retN, ev_nil, ev_bk, ev_ct, ev_if, ev_ifT, ev_ifF, ev_ifX, ev_set, ev_set0, ev_set1, ev_set3, ev_drop, ev_drop1, ev_drop2, ev_own, ev_own0, ev_own1, ev_unp, ev_unp1, ev_unp2, ev_unp3, ev_app, ev_app0, ev_app1, ev_app2, ev_put, ev_put1, ev_put2, ev_aug, ev_aug1, ev_aug2, ev_for, ev_for0, ev_forN, ev_con, ev_var, ev_var1, ev_op2, ev_op2k, ev_op1, ev_op1k, ev_nilL, ev_consL, ev_consk, ev_tup, ev_tupk, ev_dat, ev_datk, ev_call, ev_callk, ev_callF, ev_callFk, ev_usr, ev_usrk, ev_usr0, ev_test, ev_testk, ev_b, ev_bk1, ev_isN, ev_isNk, ev_notN, ev_notNk, ev_andT, ev_andT1, ev_andT0, ev_orT, ev_orT1, ev_orT0, ev_notT, ev_notTk, ev_andE, ev_andE1, ev_andE0, ev_orE, ev_orE1, ev_orE0, ev_notE, ev_notEk, ev_ifE, ev_ifE1, ev_ifE0, ev_ch, ev_ch0, ev_ch1, ev_ch2, ev_isi, ev_isi1, ev_isi2, ev_isi3, ev_isi4, ev_isi5, ev_isi6, ev_sl, ev_slk, ev_slL, ev_slT, ev_slS, ev_par0, ev_par, ev_park, ev_seqE, ev_seqEL, ev_seqET, ev_seqES, ev_rg, ev_rgk, ev_en, ev_enL, ev_enT, ev_enS, ev_zi, ev_ziLL, ev_ziTT, ev_ziLT, ev_ziTL, ev_ziSS, ev_comp, ev_compk, v_add, v_sub, v_neg, v_eq, v_ne, v_lt, v_le, v_gt, v_ge, v_mulL, v_mulR, v_p9, v_p18, v_mod, v_div, v_int, v_lenL, v_lenT, v_lenS, v_tupL, v_tupT, v_itL, v_itT, v_ixL, v_ixT, v_sum, v_all, v_any, v_range1, v_range2, v_catT, v_catL, i_1, ev_run, ev_end1, ev_end2, ev_end3, ev_vN, ev_vC, ev_sU, ev_sD, ev_sO, ev_fN, ev_fC, ev_zU, ev_zD, ev_zO, fl1, fl2, fl3, fl4, fl5, sg0, sg1, se0, se1, t_N1, t_N2, t_N3, t_N4, t_N5, t_N6, ev_tru, ev_truL, ev_truT, ev_truB, ev_truN, ev_truI, ev_par2, ev_par2k, ev_par3, ev_par3k, v_lenX, v_catX, v_slX, v_ixX, v_eqX, v_neX, v_inX, v_ninX, v_repX, ev_seqEX, ev_isiX, t_N7, t_X1, t_X2, t_X3, t_X4, t_X5, t_X6, ev_truX, t_isInt_none, t_isInt_bool, t_isInt_int, t_isInt_str, t_isInt_tuple, t_isInt_list, t_isBool_none, t_isBool_bool, t_isBool_int, t_isBool_str, t_isBool_tuple, t_isBool_list, t_isStr_none, t_isStr_bool, t_isStr_int, t_isStr_str, t_isStr_tuple, t_isStr_list, t_isTup_none, t_isTup_bool, t_isTup_int, t_isTup_str, t_isTup_tuple, t_isTup_list, t_isLst_none, t_isLst_bool, t_isLst_int, t_isLst_str, t_isLst_tuple, t_isLst_list, t_nc0, t_nc1, t_nc2, t_nc3, t_nc4, t_nc5, t_nc6, t_nc7, t_nc8, t_nc9, t_nc10, t_nc11, t_nc12, t_nc13, t_nc14, t_nc15, t_nc16, t_nc17, t_nc18, t_nc19, t_nc20, t_nc21, t_nc22, t_nc23, t_nc24, t_nc25, t_nc26, t_nc27, t_nc28, t_nc29, t_nc30, t_nc31, t_nc32, List.map_cons, List.map_nil, List.length_cons, List.length_nil, List.cons_append, List.nil_append, List.append_nil, List.set_cons_zero, List.set_cons_succ, List.getElem?_cons_zero, List.getElem?_cons_succ, List.getElem?_nil, List.any_cons, List.any_nil, R.hard_ok, noLst, noLsts, gam0, List.replicate, wipeE, if_true, if_false, Bool.false_eq_true, Bool.true_eq_false, Bool.not_true, Bool.not_false, Bool.true_or, Bool.false_or, Bool.or_true, Bool.or_false, Bool.true_and, Bool.false_and, Bool.and_true, Bool.and_false, Bool.and_self, Bool.or_self, decide_true, decide_false, Nat.reduceBEq, Nat.reduceAdd, Nat.reduceSub, Nat.reduceLT, Int.reduceLT, Int.reduceLE, Int.reduceNeg, Int.reduceAdd, Int.reduceSub, Int.reduceMul, Nat.reduceEqDiff, Int.reduceEq, Nat.reduceLeDiff, ↓reduceIte, List.isEmpty_cons, ev_sE, ev_zE, ev_seq6, ev_end4, ev_endF1, ev_endF2, ev_runF, c_ok, c_same, c_bool, c_int, c_T, c_tup, c_lst, c_rt, c_nx, c_gam, c_da, c_ol, c_t, c_n, c_xf, c_tx, c_fx, c_xt, ↓cond_true, ↓cond_false, c_if, c_andT, c_orT, c_andE, c_orE, c_ifE, c_ch, c_seqK, c_seqK', c_endR, c_endR', c_isN, k_comp, k_comp2, k_all, k_fil, v_allM, v_anyM, v_sumM, ev_m1, ev_m1k, ev_m1k2, v_start, v_ends, v_find, v_count, ev_bad, ev_bad1, ev_many, ev_try, ev_try1, ev_try2, ev_try3, ev_try4, ev_tryM, ev_tryM1, ev_tryM2, ev_tryM3, ev_noXn1, ev_noXn2, ev_setE, ev_setEk, ev_lenK, ev_lenKk, ev_sortK, ev_sortKk, v_min2, v_max2, v_abs, ev_idx, ev_idxL, ev_idxS, ev_catE, ev_catEk, ev_rg1, v_startX, v_endsX, Bool.and_assoc, Bool.or_assoc, cond_true, cond_false, Bool.not_not, v_startB, ev_m1T, cut_to, cut_from, cut_mid, k_ixT, k_ixL, enumF, v_eqNilI, v_neNilI, v_eqNilT, v_neNilT, empty_filter, List.any_filter, List.all_filter, List.isEmpty_map, fin_eq, beg_cut, List.filter_filter, cut_to1, cut_mid1, ix0_app, head_filterT, head_filterI, v_neOT, head_filterT0, v_isB, beq_false, beq_true, beq_self_eq_true, v_eqNilT0, v_neNilT0, ev_rev2, v_revL, v_revX, ev_cL, ev_comp2, ev_comp2j, k_two, k_flat, k_flatF, flat_map, ev_retF, ev_retFk, ev_retO, ev_retOk, ev_usrF, ev_usrFk, ev_ownD, ev_ownD0, ev_empD, ev_dataD, ev_dataDk, ev_putD, ev_putD1, mark_F, mark_T, ev_popK, ev_popk, ev_extK, ev_extk, ev_forK, ev_forKk, ev_forF, ev_forFk, ex, i0, i1, v_mod (show (0 : Int) < 2 by decide), v_div (show (0 : Int) < 2 by decide) (show (2 : Int) < 1073741824 by decide), hn, hm, ew, a1, a2, lm, s_missing hn1 hn4 hw, sE, sM, v_lenX, List.length_map, d1, hmin, hlate, v_revTu, ← List.map_reverse, ev_tupL, v_rg1R (show w.length ≤ 1000 by omega), cut1, cut2, ← List.map_drop, ← List.map_take, hcat]
  refine end_loop (val_loop hcut) fun a8 => ?_
  simp only [view, freeze, ev_seq, ev_seq1, ev_seq2, ev_seq3, ev_seq4, ev_seq5, ev_ret, ev_ret1, ev_ret2, ev_retN, ev_nil, ev_bk, ev_ct, ev_if, ev_ifT, ev_ifF, ev_ifX, ev_set, ev_set0, ev_set1, ev_set3, ev_drop, ev_drop1, ev_drop2, ev_own, ev_own0, ev_own1, ev_unp, ev_unp1, ev_unp2, ev_unp3, ev_app, ev_app0, ev_app1, ev_app2, ev_put, ev_put1, ev_put2, ev_aug, ev_aug1, ev_aug2, ev_for, ev_for0, ev_forN, ev_con, ev_var, ev_var1, ev_op2, ev_op2k, ev_op1, ev_op1k, ev_nilL, ev_consL, ev_consk, ev_tup, ev_tupk, ev_dat, ev_datk, ev_call, ev_callk, ev_callF, ev_callFk, ev_usr, ev_usrk, ev_usr0, ev_test, ev_testk, ev_b, ev_bk1, ev_isN, ev_isNk, ev_notN, ev_notNk, ev_andT, ev_andT1, ev_andT0, ev_orT, ev_orT1, ev_orT0, ev_notT, ev_notTk, ev_andE, ev_andE1, ev_andE0, ev_orE, ev_orE1, ev_orE0, ev_notE, ev_notEk, ev_ifE, ev_ifE1, ev_ifE0, ev_ch, ev_ch0, ev_ch1, ev_ch2, ev_isi, ev_isi1, ev_isi2, ev_isi3, ev_isi4, ev_isi5, ev_isi6, ev_sl, ev_slk, ev_slL, ev_slT, ev_slS, ev_par0, ev_par, ev_park, ev_seqE, ev_seqEL, ev_seqET, ev_seqES, ev_rg, ev_rgk, ev_en, ev_enL, ev_enT, ev_enS, ev_zi, ev_ziLL, ev_ziTT, ev_ziLT, ev_ziTL, ev_ziSS, ev_comp, ev_compk, v_add, v_sub, v_neg, v_eq, v_ne, v_lt, v_le, v_gt, v_ge, v_mulL, v_mulR, v_p9, v_p18, v_mod, v_div, v_int, v_lenL, v_lenT, v_lenS, v_tupL, v_tupT, v_itL, v_itT, v_ixL, v_ixT, v_sum, v_all, v_any, v_range1, v_range2, v_catT, v_catL, i_1, ev_run, ev_end1, ev_end2, ev_end3, ev_vN, ev_vC, ev_sU, ev_sD, ev_sO, ev_fN, ev_fC, ev_zU, ev_zD, ev_zO, fl1, fl2, fl3, fl4, fl5, sg0, sg1, se0, se1, t_N1, t_N2, t_N3, t_N4, t_N5, t_N6, ev_tru, ev_truL, ev_truT, ev_truB, ev_truN, ev_truI, ev_par2, ev_par2k, ev_par3, ev_par3k, v_lenX, v_catX, v_slX, v_ixX, v_eqX, v_neX, v_inX, v_ninX, v_repX, ev_seqEX, ev_isiX, t_N7, t_X1, t_X2, t_X3, t_X4, t_X5, t_X6, ev_truX, t_isInt_none, t_isInt_bool, t_isInt_int, t_isInt_str, t_isInt_tuple, t_isInt_list, t_isBool_none, t_isBool_bool, t_isBool_int, t_isBool_str, t_isBool_tuple, t_isBool_list, t_isStr_none, t_isStr_bool, t_isStr_int, t_isStr_str, t_isStr_tuple, t_isStr_list, t_isTup_none, t_isTup_bool, t_isTup_int, t_isTup_str, t_isTup_tuple, t_isTup_list, t_isLst_none, t_isLst_bool, t_isLst_int, t_isLst_str, t_isLst_tuple, t_isLst_list, t_nc0, t_nc1, t_nc2, t_nc3, t_nc4, t_nc5, t_nc6, t_nc7, t_nc8, t_nc9, t_nc10, t_nc11, t_nc12, t_nc13, t_nc14, t_nc15, t_nc16, t_nc17, t_nc18, t_nc19, t_nc20, t_nc21, t_nc22, t_nc23, t_nc24, t_nc25, t_nc26, t_nc27, t_nc28, t_nc29, t_nc30, t_nc31, t_nc32, List.map_cons, List.map_nil, List.length_cons, List.length_nil, List.cons_append, List.nil_append, List.append_nil, List.set_cons_zero, List.set_cons_succ, List.getElem?_cons_zero, List.getElem?_cons_succ, List.getElem?_nil, List.any_cons, List.any_nil, R.hard_ok, noLst, noLsts, gam0, List.replicate, wipeE, if_true, if_false, Bool.false_eq_true, Bool.true_eq_false, Bool.not_true, Bool.not_false, Bool.true_or, Bool.false_or, Bool.or_true, Bool.or_false, Bool.true_and, Bool.false_and, Bool.and_true, Bool.and_false, Bool.and_self, Bool.or_self, decide_true, decide_false, Nat.reduceBEq, Nat.reduceAdd, Nat.reduceSub, Nat.reduceLT, Int.reduceLT, Int.reduceLE, Int.reduceNeg, Int.reduceAdd, Int.reduceSub, Int.reduceMul, Nat.reduceEqDiff, Int.reduceEq, Nat.reduceLeDiff, ↓reduceIte, List.isEmpty_cons, ev_sE, ev_zE, ev_seq6, ev_end4, ev_endF1, ev_endF2, ev_runF, c_ok, c_same, c_bool, c_int, c_T, c_tup, c_lst, c_rt, c_nx, c_gam, c_da, c_ol, c_t, c_n, c_xf, c_tx, c_fx, c_xt, ↓cond_true, ↓cond_false, c_if, c_andT, c_orT, c_andE, c_orE, c_ifE, c_ch, c_seqK, c_seqK', c_endR, c_endR', c_isN, k_comp, k_comp2, k_all, k_fil, v_allM, v_anyM, v_sumM, ev_m1, ev_m1k, ev_m1k2, v_start, v_ends, v_find, v_count, ev_bad, ev_bad1, ev_many, ev_try, ev_try1, ev_try2, ev_try3, ev_try4, ev_tryM, ev_tryM1, ev_tryM2, ev_tryM3, ev_noXn1, ev_noXn2, ev_setE, ev_setEk, ev_lenK, ev_lenKk, ev_sortK, ev_sortKk, v_min2, v_max2, v_abs, ev_idx, ev_idxL, ev_idxS, ev_catE, ev_catEk, ev_rg1, v_startX, v_endsX, Bool.and_assoc, Bool.or_assoc, cond_true, cond_false, Bool.not_not, v_startB, ev_m1T, cut_to, cut_from, cut_mid, k_ixT, k_ixL, enumF, v_eqNilI, v_neNilI, v_eqNilT, v_neNilT, empty_filter, List.any_filter, List.all_filter, List.isEmpty_map, fin_eq, beg_cut, List.filter_filter, cut_to1, cut_mid1, ix0_app, head_filterT, head_filterI, v_neOT, head_filterT0, v_isB, beq_false, beq_true, beq_self_eq_true, v_eqNilT0, v_neNilT0, ev_rev2, v_revL, v_revX, ev_cL, ev_comp2, ev_comp2j, k_two, k_flat, k_flatF, flat_map, ev_retF, ev_retFk, ev_retO, ev_retOk, ev_usrF, ev_usrFk, ev_ownD, ev_ownD0, ev_empD, ev_dataD, ev_dataDk, ev_putD, ev_putD1, mark_F, mark_T, ev_popK, ev_popk, ev_extK, ev_extk, ev_forK, ev_forKk, ev_forF, ev_forFk, hsw]
  refine end_loop (ones_loop w 0 _) fun a10 => ?_
  have e0 : ((0 + w.count 97 : Nat) : Int) = (w.count 97 : Int) := by omega
  simp only [view, freeze, ev_seq, ev_seq1, ev_seq2, ev_seq3, ev_seq4, ev_seq5, ev_ret, ev_ret1, ev_ret2, ev_retN, ev_nil, ev_bk, ev_ct, ev_if, ev_ifT, ev_ifF, ev_ifX, ev_set, ev_set0, ev_set1, ev_set3, ev_drop, ev_drop1, ev_drop2, ev_own, ev_own0, ev_own1, ev_unp, ev_unp1, ev_unp2, ev_unp3, ev_app, ev_app0, ev_app1, ev_app2, ev_put, ev_put1, ev_put2, ev_aug, ev_aug1, ev_aug2, ev_for, ev_for0, ev_forN, ev_con, ev_var, ev_var1, ev_op2, ev_op2k, ev_op1, ev_op1k, ev_nilL, ev_consL, ev_consk, ev_tup, ev_tupk, ev_dat, ev_datk, ev_call, ev_callk, ev_callF, ev_callFk, ev_usr, ev_usrk, ev_usr0, ev_test, ev_testk, ev_b, ev_bk1, ev_isN, ev_isNk, ev_notN, ev_notNk, ev_andT, ev_andT1, ev_andT0, ev_orT, ev_orT1, ev_orT0, ev_notT, ev_notTk, ev_andE, ev_andE1, ev_andE0, ev_orE, ev_orE1, ev_orE0, ev_notE, ev_notEk, ev_ifE, ev_ifE1, ev_ifE0, ev_ch, ev_ch0, ev_ch1, ev_ch2, ev_isi, ev_isi1, ev_isi2, ev_isi3, ev_isi4, ev_isi5, ev_isi6, ev_sl, ev_slk, ev_slL, ev_slT, ev_slS, ev_par0, ev_par, ev_park, ev_seqE, ev_seqEL, ev_seqET, ev_seqES, ev_rg, ev_rgk, ev_en, ev_enL, ev_enT, ev_enS, ev_zi, ev_ziLL, ev_ziTT, ev_ziLT, ev_ziTL, ev_ziSS, ev_comp, ev_compk, v_add, v_sub, v_neg, v_eq, v_ne, v_lt, v_le, v_gt, v_ge, v_mulL, v_mulR, v_p9, v_p18, v_mod, v_div, v_int, v_lenL, v_lenT, v_lenS, v_tupL, v_tupT, v_itL, v_itT, v_ixL, v_ixT, v_sum, v_all, v_any, v_range1, v_range2, v_catT, v_catL, i_1, ev_run, ev_end1, ev_end2, ev_end3, ev_vN, ev_vC, ev_sU, ev_sD, ev_sO, ev_fN, ev_fC, ev_zU, ev_zD, ev_zO, fl1, fl2, fl3, fl4, fl5, sg0, sg1, se0, se1, t_N1, t_N2, t_N3, t_N4, t_N5, t_N6, ev_tru, ev_truL, ev_truT, ev_truB, ev_truN, ev_truI, ev_par2, ev_par2k, ev_par3, ev_par3k, v_lenX, v_catX, v_slX, v_ixX, v_eqX, v_neX, v_inX, v_ninX, v_repX, ev_seqEX, ev_isiX, t_N7, t_X1, t_X2, t_X3, t_X4, t_X5, t_X6, ev_truX, t_isInt_none, t_isInt_bool, t_isInt_int, t_isInt_str, t_isInt_tuple, t_isInt_list, t_isBool_none, t_isBool_bool, t_isBool_int, t_isBool_str, t_isBool_tuple, t_isBool_list, t_isStr_none, t_isStr_bool, t_isStr_int, t_isStr_str, t_isStr_tuple, t_isStr_list, t_isTup_none, t_isTup_bool, t_isTup_int, t_isTup_str, t_isTup_tuple, t_isTup_list, t_isLst_none, t_isLst_bool, t_isLst_int, t_isLst_str, t_isLst_tuple, t_isLst_list, t_nc0, t_nc1, t_nc2, t_nc3, t_nc4, t_nc5, t_nc6, t_nc7, t_nc8, t_nc9, t_nc10, t_nc11, t_nc12, t_nc13, t_nc14, t_nc15, t_nc16, t_nc17, t_nc18, t_nc19, t_nc20, t_nc21, t_nc22, t_nc23, t_nc24, t_nc25, t_nc26, t_nc27, t_nc28, t_nc29, t_nc30, t_nc31, t_nc32, List.map_cons, List.map_nil, List.length_cons, List.length_nil, List.cons_append, List.nil_append, List.append_nil, List.set_cons_zero, List.set_cons_succ, List.getElem?_cons_zero, List.getElem?_cons_succ, List.getElem?_nil, List.any_cons, List.any_nil, R.hard_ok, noLst, noLsts, gam0, List.replicate, wipeE, if_true, if_false, Bool.false_eq_true, Bool.true_eq_false, Bool.not_true, Bool.not_false, Bool.true_or, Bool.false_or, Bool.or_true, Bool.or_false, Bool.true_and, Bool.false_and, Bool.and_true, Bool.and_false, Bool.and_self, Bool.or_self, decide_true, decide_false, Nat.reduceBEq, Nat.reduceAdd, Nat.reduceSub, Nat.reduceLT, Int.reduceLT, Int.reduceLE, Int.reduceNeg, Int.reduceAdd, Int.reduceSub, Int.reduceMul, Nat.reduceEqDiff, Int.reduceEq, Nat.reduceLeDiff, ↓reduceIte, List.isEmpty_cons, ev_sE, ev_zE, ev_seq6, ev_end4, ev_endF1, ev_endF2, ev_runF, c_ok, c_same, c_bool, c_int, c_T, c_tup, c_lst, c_rt, c_nx, c_gam, c_da, c_ol, c_t, c_n, c_xf, c_tx, c_fx, c_xt, ↓cond_true, ↓cond_false, c_if, c_andT, c_orT, c_andE, c_orE, c_ifE, c_ch, c_seqK, c_seqK', c_endR, c_endR', c_isN, k_comp, k_comp2, k_all, k_fil, v_allM, v_anyM, v_sumM, ev_m1, ev_m1k, ev_m1k2, v_start, v_ends, v_find, v_count, ev_bad, ev_bad1, ev_many, ev_try, ev_try1, ev_try2, ev_try3, ev_try4, ev_tryM, ev_tryM1, ev_tryM2, ev_tryM3, ev_noXn1, ev_noXn2, ev_setE, ev_setEk, ev_lenK, ev_lenKk, ev_sortK, ev_sortKk, v_min2, v_max2, v_abs, ev_idx, ev_idxL, ev_idxS, ev_catE, ev_catEk, ev_rg1, v_startX, v_endsX, Bool.and_assoc, Bool.or_assoc, cond_true, cond_false, Bool.not_not, v_startB, ev_m1T, cut_to, cut_from, cut_mid, k_ixT, k_ixL, enumF, v_eqNilI, v_neNilI, v_eqNilT, v_neNilT, empty_filter, List.any_filter, List.all_filter, List.isEmpty_map, fin_eq, beg_cut, List.filter_filter, cut_to1, cut_mid1, ix0_app, head_filterT, head_filterI, v_neOT, head_filterT0, v_isB, beq_false, beq_true, beq_self_eq_true, v_eqNilT0, v_neNilT0, ev_rev2, v_revL, v_revX, ev_cL, ev_comp2, ev_comp2j, k_two, k_flat, k_flatF, flat_map, ev_retF, ev_retFk, ev_retO, ev_retOk, ev_usrF, ev_usrFk, ev_ownD, ev_ownD0, ev_empD, ev_dataD, ev_dataDk, ev_putD, ev_putD1, mark_F, mark_T, ev_popK, ev_popk, ev_extK, ev_extk, ev_forK, ev_forKk, ev_forF, ev_forFk, a1', a2', c_a, hrep, sT, v_lenL, hw8, e0, sI, c_nil, a3', c8, a4', a5']
end K39

set_option Elab.async false
set_option linter.all false
set_option maxRecDepth 100000
set_option maxHeartbeats 0
namespace K39
open PySem PySem.Spec PyProof.Rows L2 RB
abbrev Rw : PySem.W.OpenRow := PySem.W.OpenLaw.row PySem.Challenge.rw_readsback_k39_whole_arches_and_what_is_m
abbrev hk : PySem.W.Hook := He.hookD 6 fa fn
def ob (s : PySem.W.SharedT) : He.AlD := He.obsDG 6 fa fn (HandSHeadRun.getT s)
theorem ob_eq (s : PySem.W.SharedT) : ob s = hk.obs s.abs := He.obsDG_eq (HandSHeadRun.getT_eq s)
def loose0 : List Str := ["LetterError", "BadValue", "LETTERS", "is_int", "is_between", "is_row", "has_only", "is_letters", "is_letters_of", "is_rising", "is_number_set", "want_int", "LONGEST", "is_short", "want_short", "arches", "missing", "is_arches", "_law_cell", "_law_numbers"]
def loose1 : List Str := ["_law_same", "_law_listed", "_law_text", "_law_within", "_law_arches", "_law_missing", "_law_right", "_law_tupled"]
def loose : List Str := loose0 ++ loose1
theorem run (w : World) : HandSHeadRun.RunEq Rw (PySem.W.view Rw.prog [32]) hk ob 6000 loose w := by
  intro os
  kernel_rfl
end K39
open PySem PySem.W PySem.Calls PyProof.Rows
theorem PySem.Challenge.cw_readsback_k39_whole_arches_and_what_is_m_holds : PySem.Challenge.rw_readsback_k39_whole_arches_and_what_is_m.Holds := by
  w_on; o_law
  refine HandSHeadRun.head_any (r := OpenLaw.row PySem.Challenge.rw_readsback_k39_whole_arches_and_what_is_m) (q := view (OpenLaw.row PySem.Challenge.rw_readsback_k39_whole_arches_and_what_is_m).prog [32]) (H := K39.hk) (ob := K39.ob) (M := 6000) (loose := K39.loose) (d := HandSHeadRun.topDef (OpenLaw.row PySem.Challenge.rw_readsback_k39_whole_arches_and_what_is_m).prog 32) (kwd := []) K39.ob_eq
    (by kernel_rfl) (fun s => by kernel_rfl) K39.run (by kernel_rfl) (by kernel_rfl) (by kernel_rfl) (by rfl) (by first | assumption | decide +kernel) (by decide +kernel) ⟨rfl, rfl, rfl, rfl, rfl, by decide +kernel⟩ ?hw ?hc
  case hw => w_witness2
  case hc =>
    refine RB.walk_ofR (l := PySem.Challenge.rw_readsback_k39_whole_arches_and_what_is_m) (n := 63) (k := 8) (x := "script") (S := K39.S_law) rfl (by decide) (by kernel_rfl) ⟨rfl, by decide, by decide⟩ ?F K39.law_true
    intro w mg fa h Y G hmg0
    obtain ⟨K, KX, c⟩ := Y
    have hmg : mg ("law" : PySem.Str) = some (.ref fa) := by
      have e : (HandSHeadRun.topDef (OpenLaw.row PySem.Challenge.rw_readsback_k39_whole_arches_and_what_is_m).prog 32).name = ("law" : PySem.Str) := by kernel_rfl
      rw [← e]
      exact hmg0
    obtain ⟨fd, F⟩ := c.def_ 23 (d := K39.d_law) rfl
    have e := hmg.symm.trans (K39.q_law KX G c)
    cases e
    have b := L2.FunD.bindsA (ps := ["script"]) F fun _ _ _ _ _ _ us hl => match us, hl with | [_], _ => rfl
    exact ⟨K, fd, KX, fun s v => b s [v] rfl, fun base KB GB => K39.fn_law KX G c F⟩

