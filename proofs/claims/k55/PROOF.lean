import PyProof.Rows.All
import Wide.All
import OpenK.AllK
import Wide.FinOn
import PyProof.EqAt
import PyProof.EqKinds
import PyProof.TupleCall
import HandS.ForMost
import HandS.ForExc
import HandS.Walk
import HandS.IsInst
import HandS.Wide
import HandS.Flow
import HandS.Style
import HandS.TupAny
import HandS.TupMul
import KE.DataMinMax
import KE.SortData
import HandS.Rev
import HandS.RevRange
import KE.GoesNew
import KE.GoesEnum
import KE.KStateDown
import HandS.Defaults
import HandS.Head0
import HandS.Head1
import HandS.Head2
import HandS.HeadEnd
import HandS.HeadHook1
import HandS.HeadHook2
import KE.DatumOrd
import PySem.Challenge.RW_readsback_k55_whole_check_signs
set_option Elab.async false
set_option linter.all false
set_option maxRecDepth 100000
set_option maxHeartbeats 4000000
namespace RB
open PySem PySem.Spec PyProof.Rows L2

/-! ### what a call computes: a value, an error of the program's own, or nothing that is promised -/
inductive Exn where
  | bad (k : Int) | many | text (k : Int)
inductive R (α : Type) where
  | ok (a : α) | exn (e : Exn) | stuck
namespace R
variable {α β γ : Type}
def bind (x : R α) (f : α → R β) : R β := match x with
  | .ok a => f a
  | .exn e => .exn e
  | .stuck => .stuck
instance : Monad R where
  pure := .ok
  bind := bind
@[simp] theorem ok_bind (a : α) (f : α → R β) : (R.ok a >>= f) = f a := rfl
@[simp] theorem exn_bind (e : Exn) (f : α → R β) : (R.exn e >>= f) = .exn e := rfl
@[simp] theorem stuck_bind (f : α → R β) : ((R.stuck : R α) >>= f) = .stuck := rfl
@[simp] theorem pure_ok (a : α) : (pure a : R α) = .ok a := rfl
theorem bind_assoc' (x : R α) (f : α → R β) (g : β → R γ) : ((x >>= f) >>= g) = (x >>= fun a => f a >>= g) := by cases x <;> rfl
def wp (x : R α) (P : α → Prop) (E : Exn → Prop) : Prop := match x with
  | .ok a => P a
  | .exn e => E e
  | .stuck => False
theorem wp_bind {x : R α} {f : α → R β} {P : β → Prop} {E : Exn → Prop} (h : (x >>= f).wp P E) : x.wp (fun a => (f a).wp P E) E := by
  cases x <;> exact h
theorem wp_mono {x : R α} {P Q : α → Prop} {E E' : Exn → Prop} (h : x.wp P E) (hp : ∀ a, P a → Q a) (he : ∀ e, E e → E' e) : x.wp Q E' := by
  cases x with
  | ok a => exact hp a h
  | exn e => exact he e h
  | stuck => exact h
/-- an error is not promised -/
def hard (x : R α) : R α := match x with
  | .ok a => .ok a
  | _ => .stuck
@[simp] theorem hard_ok (a : α) : (R.ok a).hard = .ok a := rfl
theorem hard_wp {x : R α} {P : α → Prop} {E E' : Exn → Prop} (h : x.hard.wp P E) : x.wp P E' := by
  cases x with
  | ok a => exact h
  | exn e => exact h.elim
  | stuck => exact h.elim
end R

/-! ### data and where it lies -/
abbrev D := PyData
def keyD : Key → D
  | .inl i => .int i
  | .inr s => .str s
/-- at a stands u and will not change: frozen, or known -/
def FA (H : Hp) (F : Addr → Prop) (a : Addr) (u : HO) : Prop := (H a = some u ∧ F a) ∨ ∃ o, H a = some (.frz o u)
def KL (K : PySem.W.Frag) (a : Addr) (xs : List V) : Prop :=
  ∃ (o : Obj) (its : Array Value) (n : Nat), K.lookup a = some o ∧ o.cls = .type "list" ∧ o.dict = none ∧ o.data = .seq its n ∧ its.size ≤ sizeLine ∧ Vals xs its.toList
def LAt (K : PySem.W.Frag) (H : Hp) (F : Addr → Prop) (a : Addr) (xs : List V) : Prop := FA H F a (.lst xs) ∨ KL K a xs
theorem LAt.sql {K : PySem.W.Frag} {H : Hp} {F : Addr → Prop} {a : Addr} {xs : List V} (h : LAt K H F a xs) : SqL K H a xs := by
  rcases h with (⟨h, _⟩ | h) | h
  · exact .inl (.inl h)
  · exact .inl (.inr h)
  · exact .inr h
/-- a text of a size and of signs that Python has -/
def okS (x : Str) : Prop := x.length ≤ sizeLine ∧ x.cps.all (· < 0x110000) = true
instance (x : Str) : Decidable (okS x) := by unfold okS; infer_instance
mutual
inductive Den (K : PySem.W.Frag) (H : Hp) (F : Addr → Prop) : V → D → Prop
  | non : Den K H F .non .none
  | bl (b : Bool) : Den K H F (.bl b) (.bool b)
  | int (i : Int) : Den K H F (.int i) (.int i)
  | str (x : Str) (h : okS x) : Den K H F (.str x) (.str x)
  | tup {a : Addr} {vs : List V} {ds : List D} : SqT K H a vs → DenL K H F vs ds → vs.length ≤ sizeLine → Den K H F (.ref a) (.tuple ds)
  | lst {a : Addr} {vs : List V} {ds : List D} : LAt K H F a vs → DenL K H F vs ds → vs.length ≤ sizeLine → Den K H F (.ref a) (.list ds)
  | dK {a : Addr} {kvs : List (Key × V)} {ds : List D} : FA H F a (.dK kvs) → DenL K H F (kvs.map (·.2)) ds → Den K H F (.ref a) (.dict ((kvs.map fun p => keyD p.1).zip ds))
  | dT {a : Addr} {kvs : List (List Key × V)} {ds : List D} : FA H F a (.dT kvs) → DenL K H F (kvs.map (·.2)) ds → Den K H F (.ref a) (.dict ((kvs.map fun p => .tuple (p.1.map keyD)).zip ds))
inductive DenL (K : PySem.W.Frag) (H : Hp) (F : Addr → Prop) : List V → List D → Prop
  | nil : DenL K H F [] []
  | cons {v : V} {vs : List V} {d : D} {ds : List D} : Den K H F v d → DenL K H F vs ds → DenL K H F (v :: vs) (d :: ds)
end

/-- what data leans on stays -/
structure Pres (H : Hp) (F : Addr → Prop) (H' : Hp) (F' : Addr → Prop) : Prop where
  tup : ∀ a xs, H a = some (.tup xs) → H' a = some (.tup xs)
  frz : ∀ a o u, H a = some (.frz o u) → H' a = some (.frz o u)
  fro : ∀ a u, F a → H a = some u → F' a ∧ H' a = some u
theorem FA.pres {H H' : Hp} {F F' : Addr → Prop} {a : Addr} {u : HO} (p : Pres H F H' F') (h : FA H F a u) : FA H' F' a u := by
  rcases h with ⟨h, f⟩ | ⟨o, h⟩
  · obtain ⟨f', h'⟩ := p.fro a u f h
    exact .inl ⟨h', f'⟩
  · exact .inr ⟨o, p.frz a o u h⟩
theorem LAt.pres {K : PySem.W.Frag} {H H' : Hp} {F F' : Addr → Prop} {a : Addr} {xs : List V} (p : Pres H F H' F') (h : LAt K H F a xs) : LAt K H' F' a xs := by
  rcases h with h | h
  · exact .inl (h.pres p)
  · exact .inr h
theorem sqt_pres {K : PySem.W.Frag} {H H' : Hp} {F F' : Addr → Prop} {a : Addr} {xs : List V} (p : Pres H F H' F') (h : SqT K H a xs) : SqT K H' a xs := by
  rcases h with (h | ⟨o, h⟩) | h
  · exact .inl (.inl (p.tup a xs h))
  · exact .inl (.inr ⟨o, p.frz a o _ h⟩)
  · exact .inr h
mutual
theorem Den.pres {K : PySem.W.Frag} {H H' : Hp} {F F' : Addr → Prop} (p : Pres H F H' F') : ∀ {v : V} {d : D}, Den K H F v d → Den K H' F' v d
  | _, _, .non => .non
  | _, _, .bl b => .bl b
  | _, _, .int i => .int i
  | _, _, .str x h => .str x h
  | _, _, .tup h hs z => .tup (sqt_pres p h) (DenL.pres p hs) z
  | _, _, .lst h hs z => .lst (h.pres p) (DenL.pres p hs) z
  | _, _, .dK h hs => .dK (h.pres p) (DenL.pres p hs)
  | _, _, .dT h hs => .dT (h.pres p) (DenL.pres p hs)
theorem DenL.pres {K : PySem.W.Frag} {H H' : Hp} {F F' : Addr → Prop} (p : Pres H F H' F') : ∀ {vs : List V} {ds : List D}, DenL K H F vs ds → DenL K H' F' vs ds
  | _, _, .nil => .nil
  | _, _, .cons h hs => .cons (Den.pres p h) (DenL.pres p hs)
end
section
variable {K : PySem.W.Frag} {H : Hp} {F : Addr → Prop}
theorem DenL.length : ∀ {vs : List V} {ds : List D}, DenL K H F vs ds → vs.length = ds.length
  | _, _, .nil => rfl
  | _, _, .cons _ hs => by rw [List.length_cons, List.length_cons, DenL.length hs]
theorem DenL.get : ∀ {vs : List V} {ds : List D} {i : Nat} {v : V}, DenL K H F vs ds → vs[i]? = some v → ∃ d, ds[i]? = some d ∧ Den K H F v d
  | _, _, _, _, .nil, e => by simp at e
  | _, _, 0, _, .cons h _, e => by simp at e; subst e; exact ⟨_, rfl, h⟩
  | _, _, i + 1, v, .cons _ hs, e => by
    obtain ⟨d, h1, h2⟩ := DenL.get (i := i) (v := v) hs (by simpa using e)
    exact ⟨d, by simpa using h1, h2⟩
theorem DenL.getD : ∀ {vs : List V} {ds : List D} {i : Nat} {d : D}, DenL K H F vs ds → ds[i]? = some d → ∃ v, vs[i]? = some v ∧ Den K H F v d
  | _, _, _, _, .nil, e => by simp at e
  | _, _, 0, _, .cons h _, e => by simp at e; subst e; exact ⟨_, rfl, h⟩
  | _, _, i + 1, d, .cons _ hs, e => by
    obtain ⟨v, h1, h2⟩ := DenL.getD (i := i) (d := d) hs (by simpa using e)
    exact ⟨v, by simpa using h1, h2⟩
theorem DenL.append : ∀ {vs ws : List V} {ds es : List D}, DenL K H F vs ds → DenL K H F ws es → DenL K H F (vs ++ ws) (ds ++ es)
  | _, _, _, _, .nil, s => s
  | _, _, _, _, .cons h hs, s => .cons h (DenL.append hs s)
theorem DenL.take : ∀ {vs : List V} {ds : List D} (n : Nat), DenL K H F vs ds → DenL K H F (vs.take n) (ds.take n)
  | _, _, 0, _ => .nil
  | _, _, _ + 1, .nil => .nil
  | _, _, n + 1, .cons h hs => .cons h (DenL.take n hs)
theorem DenL.drop : ∀ {vs : List V} {ds : List D} (n : Nat), DenL K H F vs ds → DenL K H F (vs.drop n) (ds.drop n)
  | _, _, 0, h => h
  | _, _, _ + 1, .nil => .nil
  | _, _, n + 1, .cons _ hs => DenL.drop n hs
theorem DenL.set {v : V} {d : D} (h : Den K H F v d) : ∀ {vs : List V} {ds : List D} (i : Nat), DenL K H F vs ds → DenL K H F (vs.set i v) (ds.set i d)
  | _, _, _, .nil => .nil
  | _, _, 0, .cons _ hs => .cons h hs
  | _, _, i + 1, .cons q hs => .cons q (DenL.set h i hs)
theorem DenL.reverse : ∀ {vs : List V} {ds : List D}, DenL K H F vs ds → DenL K H F vs.reverse ds.reverse
  | _, _, .nil => .nil
  | _, _, .cons h hs => by
    rw [List.reverse_cons, List.reverse_cons]
    exact (DenL.reverse hs).append (.cons h .nil)
theorem DenL.ints : ∀ {vs : List V} {ns : List Int}, DenL K H F vs (ns.map .int) → vs = ns.map V.int
  | _, [], h => by cases h; rfl
  | _, n :: ns, h => by
    cases h with
    | cons h hs =>
      cases h
      rw [DenL.ints hs]; rfl
theorem DenL.of_ints : ∀ (ns : List Int), DenL K H F (ns.map V.int) (ns.map .int)
  | [] => .nil
  | n :: ns => .cons (.int n) (DenL.of_ints ns)
end

/-- the heap grows: all stands as it stood; what is frozen anew is new -/
structure Grow (H : Hp) (F : Addr → Prop) (H' : Hp) (F' : Addr → Prop) : Prop where
  same : ∀ a u, H a = some u → H' a = some u
  fro : ∀ a, F a → F' a
  new : ∀ a, F' a → F a ∨ H a = none
  ok : ∀ a, F' a → ∃ u, H' a = some u
def FOk (H : Hp) (F : Addr → Prop) : Prop := ∀ a, F a → ∃ u, H a = some u
section
variable {K : PySem.W.Frag} {H H1 H2 H' : Hp} {F F1 F2 F' : Addr → Prop}
theorem Grow.pres (g : Grow H F H' F') : Pres H F H' F' := ⟨fun a xs h => g.same a _ h, fun a o u h => g.same a _ h, fun a u f h => ⟨g.fro a f, g.same a u h⟩⟩
theorem Grow.refl (h : FOk H F) : Grow H F H F := ⟨fun _ _ h => h, fun _ h => h, fun _ h => .inl h, h⟩
theorem Grow.back (g : Grow H F H' F') {c : Addr} (q : H' c = none) : H c = none := by
  cases e : H c with
  | none => rfl
  | some u => rw [g.same c u e] at q; cases q
theorem Grow.trans (a : Grow H F H1 F1) (b : Grow H1 F1 H2 F2) : Grow H F H2 F2 :=
  ⟨fun c u h => b.same c u (a.same c u h), fun c h => b.fro c (a.fro c h), fun c h => by
    rcases b.new c h with q | q
    · exact a.new c q
    · exact .inr (Grow.back a q), b.ok⟩
theorem Den.grow {v : V} {d : D} (h : Den K H F v d) (g : Grow H F H' F') : Den K H' F' v d := h.pres g.pres
theorem DenL.grow {vs : List V} {ds : List D} (h : DenL K H F vs ds) (g : Grow H F H' F') : DenL K H' F' vs ds := h.pres g.pres
/-- a new object -/
theorem grow_new {p : Addr} {o : HO} (ok : FOk H F) (hp : H p = none) : Grow H F (upd H p o) F :=
  ⟨fun a u h => by rw [upd_ne (ne_of_none h hp)]; exact h, fun _ h => h, fun _ h => .inl h, fun a f => by
    obtain ⟨u, h⟩ := ok a f
    exact ⟨u, by rw [upd_ne (ne_of_none h hp)]; exact h⟩⟩
/-- a new object that is frozen at once -/
def frz1 (F : Addr → Prop) (p : Addr) : Addr → Prop := fun a => F a ∨ a = p
theorem grow_newF {p : Addr} {o : HO} (ok : FOk H F) (hp : H p = none) : Grow H F (upd H p o) (frz1 F p) :=
  ⟨fun a u h => by rw [upd_ne (ne_of_none h hp)]; exact h, fun _ h => .inl h, fun a h => by
    rcases h with h | h
    · exact .inl h
    · subst h; exact .inr hp, fun a f => by
    rcases f with f | f
    · obtain ⟨u, h⟩ := ok a f
      exact ⟨u, by rw [upd_ne (ne_of_none h hp)]; exact h⟩
    · subst f; exact ⟨o, upd_same⟩⟩
/-- p is frozen -/
theorem grow_freeze {H0 : Hp} {F0 : Addr → Prop} {p : Addr} {o : HO} (g : Grow H0 F0 H F) (hp : H0 p = none) (h : H p = some o) : Grow H0 F0 H (frz1 F p) :=
  ⟨g.same, fun a f => .inl (g.fro a f), fun a f => by
    rcases f with f | f
    · exact g.new a f
    · subst f; exact .inr hp, fun a f => by
    rcases f with f | f
    · exact g.ok a f
    · subst f; exact ⟨o, h⟩⟩
theorem pres_freeze {p : Addr} : Pres H F H (frz1 F p) := ⟨fun _ _ h => h, fun _ _ _ h => h, fun a u f h => ⟨.inl f, h⟩⟩
end

/-! ### readings by data -/
abbrev Env := List (Option D)
structure RE (K : PySem.W.Frag) (σ : L2.St) (ε : Env) (H : Hp) (F : Addr → Prop) : Prop where
  at_ : ∀ (i : Nat) (d : D), ε[i]? = some (some d) → ∃ v, σ[i]? = some (some v) ∧ Den K H F v d
  ok : FOk H F
  len : ε.length ≤ σ.length
theorem RE.grow {K : PySem.W.Frag} {σ : L2.St} {ε : Env} {H H' : Hp} {F F' : Addr → Prop} (r : RE K σ ε H F) (g : Grow H F H' F') : RE K σ ε H' F' :=
  ⟨fun i d e => by
    obtain ⟨v, h1, h2⟩ := r.at_ i d e
    exact ⟨v, h1, h2.grow g⟩, g.ok, r.len⟩
/-- which exception the program's own error is -/
def ExnOf (mg : Str → Option Value) (e : Exn) (cls : Value) (x : Option Addr) (H : Hp) : Prop := match e with
  | .bad k => ∃ C d, mg "BadValue" = some (.ref C) ∧ cls = .ref C ∧ x = some d ∧ H d = some (.xd [("at", .int k)])
  | .many => ∃ C, mg "TooMany" = some (.ref C) ∧ cls = .ref C
  | .text k => ∃ C d, mg "BadText" = some (.ref C) ∧ cls = .ref C ∧ x = some d ∧ H d = some (.xd [("at", .int k)])

section
variable (K : PySem.W.Frag) (mg : Str → Option Value) (W : WX)
def tE (f : Env → R D) : TE := fun σ H Q => ∃ ε F, RE K σ ε H F ∧ (f ε).wp (fun d => ∀ v H' F', Grow H F H' F' → Den K H' F' v d → Q v H') fun e => ∀ cls x H' F', Grow H F H' F' → ExnOf mg e cls x H' → W cls x σ H'
def tB_ (f : Env → R Bool) : TT := fun σ H Q => ∃ ε F, RE K σ ε H F ∧ (f ε).wp (fun b => ∀ H' F', Grow H F H' F' → Q b H') fun e => ∀ cls x H' F', Grow H F H' F' → ExnOf mg e cls x H' → W cls x σ H'
/-- a new list that nothing else knows -/
def tF (f : Env → R (List D)) : TE := fun σ H Q => ∃ ε F, RE K σ ε H F ∧ (f ε).wp (fun ds => ∀ p vs H' F', Grow H F H' F' → H p = none → H' p = some (.lst vs) → ¬ F' p → DenL K H' F' vs ds → vs.length ≤ sizeLine → Q (.ref p) H') fun e => ∀ cls x H' F', Grow H F H' F' → ExnOf mg e cls x H' → W cls x σ H'
def evL : List (Env → R D) → Env → R (List D)
  | [], _ => .ok []
  | f :: fs, ε => f ε >>= fun d => evL fs ε >>= fun ds => .ok (d :: ds)
def tEs (fs : List (Env → R D)) : TA := fun σ H Q => ∃ ε F, RE K σ ε H F ∧ (evL fs ε).wp (fun ds => ∀ vs H' F', Grow H F H' F' → DenL K H' F' vs ds → Q vs H') fun e => ∀ cls x H' F', Grow H F H' F' → ExnOf mg e cls x H' → W cls x σ H'
end
theorem evL_len : ∀ {fs : List (Env → R D)} {ε : Env} {P : List D → Prop} {E : Exn → Prop}, (evL fs ε).wp P E → (evL fs ε).wp (fun ds => ds.length = fs.length ∧ P ds) E
  | [], _, _, _, h => ⟨rfl, h⟩
  | f :: fs, ε, P, E, h => by
    have h1 := R.wp_bind h
    show ((f ε) >>= fun d => evL fs ε >>= fun ds => R.ok (d :: ds)).wp _ _
    cases e1 : f ε with
    | ok d =>
      rw [e1] at h1
      have h2 : (evL fs ε >>= fun ds => R.ok (d :: ds)).wp P E := h1
      have h3 := evL_len (R.wp_bind h2)
      rw [R.ok_bind]
      cases e2 : evL fs ε with
      | ok ds =>
        rw [e2] at h3
        obtain ⟨h4, h5⟩ := h3
        exact ⟨by rw [List.length_cons, List.length_cons, h4], h5⟩
      | exn e => rw [e2] at h3; exact h3
      | stuck => rw [e2] at h3; exact h3
    | exn e => rw [e1] at h1; exact h1
    | stuck => rw [e1] at h1; exact h1

theorem PE.imp {X : Cx} {e : Expr} {t t' : TE} (h : PE X e t) (q : ∀ σ H Q, t' σ H Q → t σ H Q) : PE X e t' := ⟨fun pins s σ H Q I w => h.run pins s σ H Q I (q σ H Q w)⟩
theorem PT.imp {X : Cx} {e : Expr} {t t' : TT} (h : PT X e t) (q : ∀ σ H Q, t' σ H Q → t σ H Q) : PT X e t' := ⟨fun pins s σ H Q I w => h.run pins s σ H Q I (q σ H Q w)⟩
theorem PW.imp {X : Cx} {e : Expr} {t t' : TT} (h : PW X e t) (q : ∀ σ H Q, t' σ H Q → t σ H Q) : PW X e t' := ⟨fun wh pins s σ H Q I w => h.run wh pins s σ H Q I (q σ H Q w)⟩
theorem PA.imp {X : Cx} {e : List Expr} {t t' : TA} (h : PA X e t) (q : ∀ σ H Q, t' σ H Q → t σ H Q) : PA X e t' := ⟨fun pos pins s σ H Q I w => h.run pos pins s σ H Q I (q σ H Q w)⟩
theorem PS.imp {X : Cx} {e : Stmt} {t t' : TS} (h : PS X e t) (q : ∀ D σ H, t' D σ H → t D σ H) : PS X e t' := ⟨fun pins s σ H Q I w => h.run pins s σ H Q I (q Q σ H w)⟩
theorem PSs.imp {X : Cx} {e : List Stmt} {t t' : TS} (h : PSs X e t) (q : ∀ D σ H, t' D σ H → t D σ H) : PSs X e t' := ⟨fun pins s σ H Q I w => h.run pins s σ H Q I (q Q σ H w)⟩
theorem PI.imp {X : Cx} {tg e : Expr} {t t' : TI} (h : PI X tg e t) (q : ∀ σ H Q, t' σ H Q → t σ H Q) : PI X tg e t' := ⟨fun pins s σ H Q I w => h.run pins s σ H Q I (q σ H Q w)⟩
theorem PG.imp {X : Cx} {e : Expr} {t t' : TG} (h : PG X e t) (q : ∀ v σ H Q, t' v σ H Q → t v σ H Q) : PG X e t' := ⟨fun pins s σ H v u Q I r w => h.run pins s σ H v u Q I r (q v σ H Q w)⟩
theorem PTs.imp {X : Cx} {e : List Expr} {t t' : TT} (h : PTs X e t) (q : ∀ σ H Q, t' σ H Q → t σ H Q) : PTs X e t' := ⟨fun pins s σ H Q I w => h.run pins s σ H Q I (q σ H Q w)⟩

abbrev Ex (X : Cx) (W : WX) (e : Expr) (f : Env → R D) : Prop := PE X e (tE X.K X.mg W f)
abbrev Fx (X : Cx) (W : WX) (e : Expr) (f : Env → R (List D)) : Prop := PE X e (tF X.K X.mg W f)
abbrev Tx (X : Cx) (W : WX) (e : Expr) (f : Env → R Bool) : Prop := PT X e (tB_ X.K X.mg W f)
abbrev Wx (X : Cx) (W : WX) (e : Expr) (f : Env → R Bool) : Prop := PW X e (tB_ X.K X.mg W f)
abbrev Exs (X : Cx) (W : WX) (es : List Expr) (fs : List (Env → R D)) : Prop := PA X es (tEs X.K X.mg W fs)

section
variable {X : Cx} {W : WX}
/-- a new list, as data -/
theorem Fx.ex {e : Expr} {f : Env → R (List D)} (h : Fx X W e f) : Ex X W e (fun ε => f ε >>= fun ds => .ok (.list ds)) := by
  refine PE.imp h fun σ H Q ⟨ε, F, re, q⟩ => ⟨ε, F, re, ?_⟩
  refine R.wp_mono (R.wp_bind q) (fun ds k p vs H' F' g hp hp' nf hd hz => ?_) (fun e k => k)
  exact k _ _ _ (grow_freeze g hp hp') (.lst (.inl (.inl ⟨hp', .inr rfl⟩)) (hd.pres pres_freeze) hz)
/-! ### names, constants -/
def var (i : Nat) : Env → R D := fun ε => match ε[i]? with
  | some (some d) => .ok d
  | _ => .stuck
theorem ex_var (i : Nat) {x : Str} {pos : Pos} (hN : X.N[i]? = some x := by rfl) (hv : Vis X.env.scope x := by first | exact Or.inl rfl | exact Or.inr (Or.inl rfl) | exact Or.inr (Or.inr rfl))
    (hd : (x == ("__debug__" : Str)) = false := by decide) (hcd : (x == ("__classdict__" : Str)) = false := by decide) : Ex X W (.Name x pos) (var i) := by
  refine PE.imp (pe_var hN hv hd hcd) fun σ H Q ⟨ε, F, re, q⟩ => ?_
  unfold var at q
  split at q
  · rename_i d e
    obtain ⟨v, h1, h2⟩ := re.at_ i d e
    exact ⟨v, h1, q v H F (.refl re.ok) h2⟩
  · exact q.elim
def con (d : D) : Env → R D := fun _ => .ok d
theorem ex_con {e : Expr} {v : V} {d : D} (h : PE X e (tC v)) (hd : ∀ K H F, Den K H F v d) : Ex X W e (con d) :=
  PE.imp h fun σ H Q ⟨ε, F, re, q⟩ => q v H F (.refl re.ok) (hd _ _ _)
theorem ex_int {i j pos} : Ex X W (.Constant (.int i) j pos) (con (.int i)) := ex_con pe_int fun _ _ _ => .int _
theorem ex_bl {b j pos} : Ex X W (.Constant (.bool b) j pos) (con (.bool b)) := ex_con pe_bl fun _ _ _ => .bl _
theorem ex_non {j pos} : Ex X W (.Constant .none j pos) (con .none) := ex_con pe_non fun _ _ _ => .non
theorem ex_str {x j pos} (h : okS x := by decide +kernel) : Ex X W (.Constant (.str x) j pos) (con (.str x)) := ex_con pe_str fun _ _ _ => .str _ h
theorem ex_globI {x : Str} {i : Int} {pos : Pos} (hm : ∃ t, X.mg x = some (.int i t)) (hg : Gl X x := by rfl) (hd : (x == ("__debug__" : Str)) = false := by decide) : Ex X W (.Name x pos) (con (.int i)) := by
  obtain ⟨t, hm⟩ := hm
  exact ex_con (pe_glob hg hm (v := .int i) ⟨t, rfl⟩ hd) fun _ _ _ => .int _
theorem ex_globS {x : Str} {z : Str} {pos : Pos} (hm : ∃ t, X.mg x = some (.str z t)) (hz : okS z := by decide +kernel) (hg : Gl X x := by rfl) (hd : (x == ("__debug__" : Str)) = false := by decide) : Ex X W (.Name x pos) (con (.str z)) := by
  obtain ⟨t, hm⟩ := hm
  exact ex_con (pe_glob hg hm (v := .str z) ⟨t, rfl⟩ hd) fun _ _ _ => .str _ hz

/-! ### arguments, displays -/
theorem exs_nil : Exs X W [] [] := PA.imp pa_nil fun σ H Q ⟨ε, F, re, q⟩ => q [] H F (.refl re.ok) .nil
theorem exs_cons {e : Expr} {es : List Expr} {f : Env → R D} {fs : List (Env → R D)} (ha : Ex X W e f) (hr : Exs X W es fs) (hs : starEach (e :: es) X.env = (false, eval e X.env) :: starEach es X.env := by rfl) : Exs X W (e :: es) (f :: fs) := by
  refine PA.imp (pa_cons ha hr hs) fun σ H Q ⟨ε, F, re, q⟩ => ⟨ε, F, re, ?_⟩
  refine R.wp_mono (R.wp_bind q) (fun d k v H1 F1 g1 d1 => ⟨ε, F1, re.grow g1, ?_⟩) (fun e k => k)
  refine R.wp_mono (R.wp_bind k) (fun ds k vs H2 F2 g2 d2 => k _ _ _ (g1.trans g2) (.cons (d1.grow g2) d2)) (fun e k cls x H' F' g => k cls x H' F' (g1.trans g))
def tupE (fs : List (Env → R D)) : Env → R D := fun ε => evL fs ε >>= fun ds => .ok (.tuple ds)
theorem small_fs {n m : Nat} (h : n = m) (hm : m ≤ 1000) : n ≤ sizeLine := Nat.le_of_lt (small1000 (h ▸ hm))
theorem ex_tup {es : List Expr} {fs : List (Env → R D)} {k : Nat} {pos : Pos} (h : Exs X W es fs) (hl : fs.length ≤ 1000 := by decide) : Ex X W (.Tuple es k pos) (tupE fs) := by
  refine PE.imp (pe_tup h) fun σ H Q ⟨ε, F, re, q⟩ => ⟨ε, F, re, ?_⟩
  refine R.wp_mono (evL_len (R.wp_bind q)) (fun ds ⟨hn, k⟩ vs H1 F1 g1 d1 => ?_) (fun e k => k)
  have hz : vs.length ≤ sizeLine := small_fs (d1.length.trans hn) hl
  refine ⟨hz, fun p hp => ?_⟩
  have g2 := grow_new (o := .tup vs) g1.ok hp
  exact k _ _ _ (g1.trans g2) (.tup (.of upd_same) (d1.grow g2) hz)
theorem fx_lst {es : List Expr} {fs : List (Env → R D)} {pos : Pos} (h : Exs X W es fs) (hl : fs.length ≤ 1000 := by decide) : Fx X W (.List es pos) (evL fs) := by
  refine PE.imp (pe_lst h) fun σ H Q ⟨ε, F, re, q⟩ => ⟨ε, F, re, ?_⟩
  refine R.wp_mono (evL_len q) (fun ds ⟨hn, k⟩ vs H1 F1 g1 d1 => ?_) (fun e k => k)
  have hz : vs.length ≤ sizeLine := small_fs (d1.length.trans hn) hl
  refine ⟨hz, fun p hp => ?_⟩
  have g2 := grow_new (o := .lst vs) g1.ok hp
  have h0 : H p = none := g1.back hp
  refine k p vs _ _ (g1.trans g2) h0 upd_same (fun f => ?_) (d1.grow g2) hz
  obtain ⟨u, e⟩ := g1.ok p f
  rw [e] at hp; cases hp
end
end RB

set_option Elab.async false
set_option linter.all false
set_option maxRecDepth 100000
set_option maxHeartbeats 4000000
namespace RB
open PySem PySem.Spec PyProof.Rows L2

/-! ### operations on values -/
abbrev Fin1 (K : PySem.W.Frag) (H : Hp) (F : Addr → Prop) (Q : VK) : D → Prop := fun d => ∀ v H' F', Grow H F H' F' → Den K H' F' v d → Q v H'
abbrev FinL (K : PySem.W.Frag) (H : Hp) (F : Addr → Prop) (Q : VK) : List D → Prop := fun ds => ∀ p vs H' F', Grow H F H' F' → H p = none → H' p = some (.lst vs) → ¬ F' p → DenL K H' F' vs ds → vs.length ≤ sizeLine → Q (.ref p) H'
abbrev NoE : Exn → Prop := fun _ => False
def G2 (K : PySem.W.Frag) (r : R2) (g : D → D → R D) : Prop := ∀ x y dx dy H F Q, FOk H F → Den K H F x dx → Den K H F y dy → (g dx dy).wp (Fin1 K H F Q) NoE → r x y H Q
def G1 (K : PySem.W.Frag) (r : V → Hp → VK → Prop) (g : D → R D) : Prop := ∀ x dx H F Q, FOk H F → Den K H F x dx → (g dx).wp (Fin1 K H F Q) NoE → r x H Q
def GC (K : PySem.W.Frag) (r : List V → Hp → VK → Prop) (g : List D → R D) : Prop := ∀ vs ds H F Q, FOk H F → DenL K H F vs ds → (g ds).wp (Fin1 K H F Q) NoE → r vs H Q
def GCF (K : PySem.W.Frag) (r : List V → Hp → VK → Prop) (g : List D → R (List D)) : Prop := ∀ vs ds H F Q, FOk H F → DenL K H F vs ds → (g ds).wp (FinL K H F Q) NoE → r vs H Q
def op2E (g : D → D → R D) (fa fb : Env → R D) : Env → R D := fun ε => fa ε >>= fun x => fb ε >>= fun y => (g x y).hard
def op1E (g : D → R D) (fa : Env → R D) : Env → R D := fun ε => fa ε >>= fun x => (g x).hard
def callE (g : List D → R D) (fs : List (Env → R D)) : Env → R D := fun ε => evL fs ε >>= fun ds => (g ds).hard
def callF (g : List D → R (List D)) (fs : List (Env → R D)) : Env → R (List D) := fun ε => evL fs ε >>= fun ds => (g ds).hard
theorem fin_grow {K : PySem.W.Frag} {H H1 : Hp} {F F1 : Addr → Prop} {Q : VK} {d : D} (g : Grow H F H1 F1) (k : Fin1 K H F Q d) : Fin1 K H1 F1 Q d := fun v H' F' g2 hd => k v H' F' (g.trans g2) hd
theorem finL_grow {K : PySem.W.Frag} {H H1 : Hp} {F F1 : Addr → Prop} {Q : VK} {d : List D} (g : Grow H F H1 F1) (k : FinL K H F Q d) : FinL K H1 F1 Q d := fun p vs H' F' g2 hp hp' nf hd hz => k p vs H' F' (g.trans g2) (g.back hp) hp' nf hd hz
section
variable {X : Cx} {W : WX} {a b c : Expr} {fa fb fc : Env → R D} {pos : Pos}
/-- a, then b, then what is wanted of both values -/
theorem two {ta tb : TE} (ha : ∀ σ H Q, tE X.K X.mg W fa σ H Q → ta σ H Q) (hb : ∀ σ H Q, tE X.K X.mg W fb σ H Q → tb σ H Q) {g : D → D → R D} {σ : L2.St} {H : Hp} {Q : VK} {P : V → V → Hp → Prop}
    (h : tE X.K X.mg W (op2E g fa fb) σ H Q) (hR : ∀ x y dx dy H1 F1, FOk H1 F1 → Den X.K H1 F1 x dx → Den X.K H1 F1 y dy → (g dx dy).wp (Fin1 X.K H1 F1 Q) NoE → P x y H1) :
    ta σ H fun x H1 => tb σ H1 fun y H2 => P x y H2 := by
  obtain ⟨ε, F, re, q⟩ := h
  refine ha _ _ _ ⟨ε, F, re, ?_⟩
  refine R.wp_mono (R.wp_bind q) (fun dx k v H1 F1 g1 d1 => hb _ _ _ ⟨ε, F1, re.grow g1, ?_⟩) (fun e k => k)
  refine R.wp_mono (R.wp_bind k) (fun dy k w H2 F2 g2 d2 => ?_) (fun e k cls x H' F' g => k cls x H' F' (g1.trans g))
  refine hR _ _ _ _ _ _ g2.ok (d1.grow g2) d2 ?_
  cases e : g dx dy with
  | ok d => rw [e] at k; exact fin_grow (g1.trans g2) k
  | exn _ => rw [e] at k; exact k.elim
  | stuck => rw [e] at k; exact k.elim
theorem hardN {α : Type} {x : R α} {P P' : α → Prop} {E : Exn → Prop} (h : x.hard.wp P E) (k : ∀ a, P a → P' a) : x.wp P' NoE := by
  cases x with
  | ok a => exact k a h
  | exn e => exact h.elim
  | stuck => exact h.elim
theorem ex_op {op : Operator} {r : R2} {g : D → D → R D} (ho : OpR X (binaryOp op) r) (hg : G2 X.K r g) (ha : Ex X W a fa) (hb : Ex X W b fb) : Ex X W (.BinOp a op b pos) (op2E g fa fb) :=
  PE.imp (pe_op ho ha hb) fun σ H Q h => two (fun _ _ _ h => h) (fun _ _ _ h => h) h fun x y dx dy H1 F1 ok d1 d2 k => hg x y dx dy H1 F1 Q ok d1 d2 k
theorem ex_cmp {op : CmpOp} {r : R2} {g : D → D → R D} (ho : OpR X (compareOp op) r) (hg : G2 X.K r g) (ha : Ex X W a fa) (hb : Ex X W b fb) (hm : behindInMarks op b = false := by first | exact nobehind _ (by decide) (by decide) | rfl) : Ex X W (.Compare a [op] [b] pos) (op2E g fa fb) :=
  PE.imp (pe_cmpR ho ha hb hm) fun σ H Q h => two (fun _ _ _ h => h) (fun _ _ _ h => h) h fun x y dx dy H1 F1 ok d1 d2 k => hg x y dx dy H1 F1 Q ok d1 d2 k
theorem ex_ix {r : R2} {g : D → D → R D} (hr : IxR X r) (hg : G2 X.K r g) (ha : Ex X W a fa) (hb : Ex X W b fb) (hs : PlainIx b := by exact fun _ _ => rfl) : Ex X W (.Subscript a b pos) (op2E g fa fb) :=
  PE.imp (pe_ix hr ha hb hs) fun σ H Q h => two (fun _ _ _ h => h) (fun _ _ _ h => h) h fun x y dx dy H1 F1 ok d1 d2 k => hg x y dx dy H1 F1 Q ok d1 d2 k
theorem ex_un {op : UnaryOp} {r : V → Hp → VK → Prop} {g : D → R D} (ho : UnR X (unaryOp op) r) (hg : G1 X.K r g) (ha : Ex X W a fa) : Ex X W (.UnaryOp op a pos) (op1E g fa) := by
  refine PE.imp (pe_un ho ha) fun σ H Q ⟨ε, F, re, q⟩ => ⟨ε, F, re, ?_⟩
  exact R.wp_mono (R.wp_bind q) (fun dx k v H1 F1 g1 d1 => hg _ _ _ _ _ g1.ok d1 (hardN k fun d k => fin_grow g1 k)) (fun e k => k)
/-! ### tests -/
def boolD : D → R Bool
  | .bool b => .ok b
  | _ => .stuck
def testE (f : Env → R D) : Env → R Bool := fun ε => f ε >>= boolD
def bE (f : Env → R Bool) : Env → R D := fun ε => f ε >>= fun b => .ok (.bool b)
theorem tB_of {f : Env → R D} {σ : L2.St} {H : Hp} {Q : Bool → Hp → Prop} (h : tB_ X.K X.mg W (testE f) σ H Q) : tE X.K X.mg W f σ H fun x H' => ∃ k, x = .bl k ∧ Q k H' := by
  obtain ⟨ε, F, re, q⟩ := h
  refine ⟨ε, F, re, R.wp_mono (R.wp_bind q) (fun d k v H1 F1 g1 d1 => ?_) (fun e k => k)⟩
  cases d1 with
  | bl b => exact ⟨b, rfl, k _ _ g1⟩
  | _ => exact k.elim
/-- an expression whose value is a bool, as a test -/
theorem tx_val {f : Env → R D} (h : Ex X W a f) (he : ∀ whole, isTrue a X.env whole = (do let v ← whole; standAt a.pos; holding [v] (truthy v)) := by intro _; rfl) : Tx X W a (testE f) :=
  PT.imp (pt_val h he) fun σ H Q q => tB_of q
theorem tx_cmp {op : CmpOp} {r : R2} {g : D → D → R D} (ho : OpR X (compareOp op) r) (hg : G2 X.K r g) (ha : Ex X W a fa) (hb : Ex X W b fb) (hm : behindInMarks op b = false := by first | exact nobehind _ (by decide) (by decide) | rfl) : Tx X W (.Compare a [op] [b] pos) (testE (op2E g fa fb)) :=
  PT.imp (pt_cmpR ho ha hb hm) fun σ H Q q => two (fun _ _ _ h => h) (fun _ _ _ h => h) (tB_of q) fun x y dx dy H1 F1 ok d1 d2 k => hg x y dx dy H1 F1 _ ok d1 d2 k
def isN : D → Bool
  | .none => true
  | _ => false
theorem Den.isN {K : PySem.W.Frag} {H : Hp} {F : Addr → Prop} {v : V} {d : D} (h : Den K H F v d) : decide (v = .non) = isN d := by
  cases h <;> simp [RB.isN]
def isNE (f : Env → R D) : Env → R Bool := fun ε => f ε >>= fun d => .ok (isN d)
def notNE (f : Env → R D) : Env → R Bool := fun ε => f ε >>= fun d => .ok (!isN d)
theorem ex_isN {j pos'} (ha : Ex X W a fa) : Ex X W (.Compare a [.Is] [.Constant .none j pos'] pos) (bE (isNE fa)) := by
  refine PE.imp (pe_cmp (pc_isN ha) rfl) fun σ H Q ⟨ε, F, re, q⟩ => ⟨ε, F, re, R.wp_mono (R.wp_bind (R.wp_bind q)) (fun d k v H1 F1 g1 d1 => ?_) (fun e k => k)⟩
  show Q (.bl (decide (v = .non))) H1
  rw [d1.isN]
  exact k _ _ _ g1 (.bl _)
theorem ex_notN {j pos'} (ha : Ex X W a fa) : Ex X W (.Compare a [.IsNot] [.Constant .none j pos'] pos) (bE (notNE fa)) := by
  refine PE.imp (pe_cmp (pc_notN ha) rfl) fun σ H Q ⟨ε, F, re, q⟩ => ⟨ε, F, re, R.wp_mono (R.wp_bind (R.wp_bind q)) (fun d k v H1 F1 g1 d1 => ?_) (fun e k => k)⟩
  show Q (.bl (!decide (v = .non))) H1
  rw [d1.isN]
  exact k _ _ _ g1 (.bl _)
theorem tx_isN {j pos'} (ha : Ex X W a fa) : Tx X W (.Compare a [.Is] [.Constant .none j pos'] pos) (isNE fa) := by
  refine PT.imp (pt_cmp (pc_isN ha) rfl) fun σ H Q ⟨ε, F, re, q⟩ => ⟨ε, F, re, R.wp_mono (R.wp_bind q) (fun d k v H1 F1 g1 d1 => ?_) (fun e k => k)⟩
  exact ⟨_, rfl, by rw [d1.isN]; exact k _ _ g1⟩
theorem tx_notN {j pos'} (ha : Ex X W a fa) : Tx X W (.Compare a [.IsNot] [.Constant .none j pos'] pos) (notNE fa) := by
  refine PT.imp (pt_cmp (pc_notN ha) rfl) fun σ H Q ⟨ε, F, re, q⟩ => ⟨ε, F, re, R.wp_mono (R.wp_bind q) (fun d k v H1 F1 g1 d1 => ?_) (fun e k => k)⟩
  exact ⟨_, rfl, by rw [d1.isN]; exact k _ _ g1⟩
/-! ### and, or, not -/
variable {ta tb : Env → R Bool} {rest : List Expr}
def andT (f g : Env → R Bool) : Env → R Bool := fun ε => f ε >>= fun c => if c = true then g ε else .ok false
def orT (f g : Env → R Bool) : Env → R Bool := fun ε => f ε >>= fun c => if c = true then .ok true else g ε
def notT (f : Env → R Bool) : Env → R Bool := fun ε => f ε >>= fun c => .ok (!c)
def andE (f g : Env → R D) : Env → R D := fun ε => f ε >>= boolD >>= fun c => if c = true then g ε else .ok (.bool false)
def orE (f g : Env → R D) : Env → R D := fun ε => f ε >>= boolD >>= fun c => if c = true then .ok (.bool true) else g ε
def notE (f : Env → R D) : Env → R D := fun ε => f ε >>= boolD >>= fun c => .ok (.bool (!c))
theorem exnG {K : PySem.W.Frag} {mg : Str → Option Value} {σ : L2.St} {H H1 : Hp} {F F1 : Addr → Prop} {e : Exn} (g1 : Grow H F H1 F1) (k : ∀ cls x H' F', Grow H F H' F' → ExnOf mg e cls x H' → W cls x σ H') : ∀ cls x H' F', Grow H1 F1 H' F' → ExnOf mg e cls x H' → W cls x σ H' :=
  fun cls x H' F' g => k cls x H' F' (g1.trans g)
theorem wx_and1 (ha : Tx X W a ta) : Wx X W (.BoolOp .And [a] pos) ta := pw_and1 ha
theorem wx_or1 (ha : Tx X W a ta) : Wx X W (.BoolOp .Or [a] pos) ta := pw_or1 ha
theorem wx_and (ha : Tx X W a ta) (hb : Wx X W (.BoolOp .And (b :: rest) pos) tb) : Wx X W (.BoolOp .And (a :: b :: rest) pos) (andT ta tb) := by
  refine PW.imp (pw_and ha hb) fun σ H Q ⟨ε, F, re, q⟩ => ⟨ε, F, re, R.wp_mono (R.wp_bind q) (fun c k H1 F1 g1 => ?_) (fun e k => k)⟩
  cases c with
  | true => exact ⟨ε, F1, re.grow g1, R.wp_mono k (fun b k H' F' g => k H' F' (g1.trans g)) fun e k => exnG (K := X.K) g1 k⟩
  | false => exact k H1 F1 g1
theorem wx_or (ha : Tx X W a ta) (hb : Wx X W (.BoolOp .Or (b :: rest) pos) tb) : Wx X W (.BoolOp .Or (a :: b :: rest) pos) (orT ta tb) := by
  refine PW.imp (pw_or ha hb) fun σ H Q ⟨ε, F, re, q⟩ => ⟨ε, F, re, R.wp_mono (R.wp_bind q) (fun c k H1 F1 g1 => ?_) (fun e k => k)⟩
  cases c with
  | false => exact ⟨ε, F1, re.grow g1, R.wp_mono k (fun b k H' F' g => k H' F' (g1.trans g)) fun e k => exnG (K := X.K) g1 k⟩
  | true => exact k H1 F1 g1
theorem tx_w {e : Expr} (h : Wx X W e ta) : Tx X W e ta := h.pt
theorem tx_not (ha : Tx X W a ta) : Tx X W (.UnaryOp .Not a pos) (notT ta) := by
  refine PT.imp (pt_not ha) fun σ H Q ⟨ε, F, re, q⟩ => ⟨ε, F, re, R.wp_mono (R.wp_bind q) (fun c k H1 F1 g1 => k H1 F1 g1) (fun e k => k)⟩
theorem ex_and (ha : Ex X W a fa) (hb : Ex X W (.BoolOp .And (b :: rest) pos) fb) : Ex X W (.BoolOp .And (a :: b :: rest) pos) (andE fa fb) := by
  refine PE.imp (pe_and ha hb) fun σ H Q ⟨ε, F, re, q⟩ => ⟨ε, F, re, R.wp_mono (R.wp_bind (R.wp_bind q)) (fun c k v H1 F1 g1 d1 => ?_) (fun e k => k)⟩
  cases d1 with
  | bl b =>
    refine ⟨b, rfl, ?_⟩
    cases b with
    | true => exact ⟨ε, F1, re.grow g1, R.wp_mono k (fun b k => fin_grow g1 k) fun e k => exnG (K := X.K) g1 k⟩
    | false => exact k _ _ _ g1 (.bl _)
  | _ => exact k.elim
theorem ex_or (ha : Ex X W a fa) (hb : Ex X W (.BoolOp .Or (b :: rest) pos) fb) : Ex X W (.BoolOp .Or (a :: b :: rest) pos) (orE fa fb) := by
  refine PE.imp (pe_or ha hb) fun σ H Q ⟨ε, F, re, q⟩ => ⟨ε, F, re, R.wp_mono (R.wp_bind (R.wp_bind q)) (fun c k v H1 F1 g1 d1 => ?_) (fun e k => k)⟩
  cases d1 with
  | bl b =>
    refine ⟨b, rfl, ?_⟩
    cases b with
    | false => exact ⟨ε, F1, re.grow g1, R.wp_mono k (fun b k => fin_grow g1 k) fun e k => exnG (K := X.K) g1 k⟩
    | true => exact k _ _ _ g1 (.bl _)
  | _ => exact k.elim
theorem ex_one {op} (h : Ex X W a fa) : Ex X W (.BoolOp op [a] pos) fa := pe_one h
theorem ex_not (ha : Ex X W a fa) : Ex X W (.UnaryOp .Not a pos) (notE fa) := by
  refine PE.imp (pe_not ha) fun σ H Q ⟨ε, F, re, q⟩ => ⟨ε, F, re, R.wp_mono (R.wp_bind (R.wp_bind q)) (fun c k v H1 F1 g1 d1 => ?_) (fun e k => k)⟩
  cases d1 with
  | bl b => exact ⟨b, rfl, k _ _ _ g1 (.bl _)⟩
  | _ => exact k.elim
def ifE (t : Env → R Bool) (f g : Env → R D) : Env → R D := fun ε => t ε >>= fun c => if c = true then f ε else g ε
theorem ex_if (hc : Tx X W c ta) (ha : Ex X W a fa) (hb : Ex X W b fb) : Ex X W (.IfExp c a b pos) (ifE ta fa fb) := by
  refine PE.imp (pe_ifExp hc ha hb) fun σ H Q ⟨ε, F, re, q⟩ => ⟨ε, F, re, R.wp_mono (R.wp_bind q) (fun c k H1 F1 g1 => ?_) (fun e k => k)⟩
  cases c with
  | true => exact ⟨ε, F1, re.grow g1, R.wp_mono k (fun b k => fin_grow g1 k) fun e k => exnG (K := X.K) g1 k⟩
  | false => exact ⟨ε, F1, re.grow g1, R.wp_mono k (fun b k => fin_grow g1 k) fun e k => exnG (K := X.K) g1 k⟩
/-- a < b < c -/
def chainE (g g' : D → D → R D) (fa fb fc : Env → R D) : Env → R D := fun ε => fa ε >>= fun x => fb ε >>= fun y => (g x y).hard >>= boolD >>= fun k => if k = true then fc ε >>= fun z => (g' y z).hard else .ok (.bool false)
theorem chain_core {op op' : CmpOp} {r r' : R2} {g g' : D → D → R D} {Q : VK} {σ : L2.St} {H : Hp} (hg : G2 X.K r g) (hg' : G2 X.K r' g') (h : tE X.K X.mg W (chainE g g' fa fb fc) σ H Q) :
    tChain r r' (tE X.K X.mg W fa) (tE X.K X.mg W fb) (tE X.K X.mg W fc) σ H Q := by
  obtain ⟨ε, F, re, q⟩ := h
  refine ⟨ε, F, re, R.wp_mono (R.wp_bind q) (fun dx k v H1 F1 g1 d1 => ⟨ε, F1, re.grow g1, ?_⟩) (fun e k => k)⟩
  refine R.wp_mono (R.wp_bind k) (fun dy k w H2 F2 g2 d2 => ?_) (fun e k => exnG (K := X.K) g1 k)
  refine hg _ _ _ _ _ F2 _ g2.ok (d1.grow g2) d2 ?_
  have k2 := R.wp_bind (R.wp_bind k)
  refine hardN k2 fun d k v H3 F3 g3 d3 => ?_
  cases d3 with
  | bl b =>
    refine ⟨b, rfl, ?_⟩
    cases b with
    | true =>
      refine ⟨ε, F3, re.grow (g1.trans (g2.trans g3)), R.wp_mono (R.wp_bind k) (fun dz k z H4 F4 g4 d4 => ?_) (fun e k => exnG (K := X.K) (g1.trans (g2.trans g3)) k)⟩
      refine hg' _ _ _ _ _ F4 _ g4.ok (d2.grow (g3.trans g4)) d4 (hardN k fun d k => fin_grow (g1.trans (g2.trans (g3.trans g4))) k)
    | false => exact k _ _ _ (g1.trans (g2.trans g3)) (.bl _)
  | _ => exact k.elim
theorem ex_chain {op op' : CmpOp} {r r' : R2} {g g' : D → D → R D} (ho : OpR X (compareOp op) r) (ho' : OpR X (compareOp op') r') (hg : G2 X.K r g) (hg' : G2 X.K r' g') (ha : Ex X W a fa) (hb : Ex X W b fb) (hc : Ex X W c fc) (hm : lastMarks [op, op'] [b, c] = false := by rfl) :
    Ex X W (.Compare a [op, op'] [b, c] pos) (chainE g g' fa fb fc) := PE.imp (pe_chain ho ho' ha hb hc hm) fun σ H Q h => chain_core (op := op) (op' := op') hg hg' h
/-! ### calls of built-ins -/
variable {x : Str} {p : Pos} {e : Expr} {es : List Expr} {fs : List (Env → R D)} {id T : String}
theorem ex_callB {r : List V → Hp → VK → Prop} {g : List D → R D} (hc : CallR X (.builtin id) r) (hg : GC X.K r g) (hm : X.mg x = none) (ha : Exs X W (e :: es) fs) (hv : bootBuiltins x = some (.builtin id) := by decide +kernel) (hgl : Gl X x := by rfl)
    (hn : x ≠ "__name__" := by decide) (hdb : (x == ("__debug__" : Str)) = false := by decide) (he : starEach (e :: es) X.env = (false, eval e X.env) :: starEach es X.env := by rfl) (hpl : (backTo pos (starEach es X.env)).any (·.1) = false := by rfl) :
    Ex X W (.Call (.Name x p) (e :: es) [] pos) (callE g fs) := by
  refine PE.imp (pe_callB hc hgl hm hv ha hn hdb he hpl) fun σ H Q ⟨ε, F, re, q⟩ => ⟨ε, F, re, R.wp_mono (R.wp_bind q) (fun ds k vs H1 F1 g1 d1 => ?_) (fun e k => k)⟩
  exact hg _ _ _ _ _ g1.ok d1 (hardN k fun d k => fin_grow g1 k)
theorem fx_callB {r : List V → Hp → VK → Prop} {g : List D → R (List D)} (hc : CallR X (.builtin id) r) (hg : GCF X.K r g) (hm : X.mg x = none) (ha : Exs X W (e :: es) fs) (hv : bootBuiltins x = some (.builtin id) := by decide +kernel) (hgl : Gl X x := by rfl)
    (hn : x ≠ "__name__" := by decide) (hdb : (x == ("__debug__" : Str)) = false := by decide) (he : starEach (e :: es) X.env = (false, eval e X.env) :: starEach es X.env := by rfl) (hpl : (backTo pos (starEach es X.env)).any (·.1) = false := by rfl) :
    Fx X W (.Call (.Name x p) (e :: es) [] pos) (callF g fs) := by
  refine PE.imp (pe_callB hc hgl hm hv ha hn hdb he hpl) fun σ H Q ⟨ε, F, re, q⟩ => ⟨ε, F, re, R.wp_mono (R.wp_bind q) (fun ds k vs H1 F1 g1 d1 => ?_) (fun e k => k)⟩
  exact hg _ _ _ _ _ g1.ok d1 (hardN k fun d k => finL_grow g1 k)
theorem ex_callT {r : List V → Hp → VK → Prop} {g : List D → R D} (hc : CallR X (.type T) r) (hg : GC X.K r g) (hm : X.mg x = none) (ha : Exs X W (e :: es) fs) (hv : bootBuiltins x = some (.type T) := by decide +kernel) (hgl : Gl X x := by rfl)
    (hn : x ≠ "__name__" := by decide) (hdb : (x == ("__debug__" : Str)) = false := by decide) (he : starEach (e :: es) X.env = (false, eval e X.env) :: starEach es X.env := by rfl) (hpl : (backTo pos (starEach es X.env)).any (·.1) = false := by rfl) :
    Ex X W (.Call (.Name x p) (e :: es) [] pos) (callE g fs) := by
  refine PE.imp (pe_callTy hc hgl hm hv ha hn hdb he hpl) fun σ H Q ⟨ε, F, re, q⟩ => ⟨ε, F, re, R.wp_mono (R.wp_bind q) (fun ds k vs H1 F1 g1 d1 => ?_) (fun e k => k)⟩
  exact hg _ _ _ _ _ g1.ok d1 (hardN k fun d k => fin_grow g1 k)
theorem fx_callT {r : List V → Hp → VK → Prop} {g : List D → R (List D)} (hc : CallR X (.type T) r) (hg : GCF X.K r g) (hm : X.mg x = none) (ha : Exs X W (e :: es) fs) (hv : bootBuiltins x = some (.type T) := by decide +kernel) (hgl : Gl X x := by rfl)
    (hn : x ≠ "__name__" := by decide) (hdb : (x == ("__debug__" : Str)) = false := by decide) (he : starEach (e :: es) X.env = (false, eval e X.env) :: starEach es X.env := by rfl) (hpl : (backTo pos (starEach es X.env)).any (·.1) = false := by rfl) :
    Fx X W (.Call (.Name x p) (e :: es) [] pos) (callF g fs) := by
  refine PE.imp (pe_callTy hc hgl hm hv ha hn hdb he hpl) fun σ H Q ⟨ε, F, re, q⟩ => ⟨ε, F, re, R.wp_mono (R.wp_bind q) (fun ds k vs H1 F1 g1 d1 => ?_) (fun e k => k)⟩
  exact hg _ _ _ _ _ g1.ok d1 (hardN k fun d k => finL_grow g1 k)
end
end RB

set_option Elab.async false
set_option linter.all false
set_option maxRecDepth 100000
set_option maxHeartbeats 4000000
namespace RB
open PySem PySem.Spec PyProof.Rows L2

theorem OpR.or {X : Cx} {f : Value → Value → Sem Value} {r r' : R2} (h : OpR X f r) (h' : OpR X f r') : OpR X f (fun x y H Q => r x y H Q ∨ r' x y H Q) := by
  intro pins s σ H x y v u Q I rx ry q
  rcases q with q | q
  · exact h pins s σ H x y v u Q I rx ry q
  · exact h' pins s σ H x y v u Q I rx ry q
theorem okS_append {a b : Str} (ha : okS a) (hb : okS b) (h : a.length + b.length ≤ sizeLine) : okS (a ++ b) := by
  refine ⟨?_, ?_⟩
  · show (a.cps ++ b.cps).size ≤ _
    rw [Array.size_append]; exact h
  · show (a.cps ++ b.cps).all _ = true
    have h1 := ha.2
    have h2 := hb.2
    rw [Array.all_eq_true'] at h1 h2 ⊢
    intro x hx
    rcases Array.mem_append.mp hx with q | q
    · exact h1 x q
    · exact h2 x q
theorem okS_sign {z : Str} {c i : Nat} (h : okS z) (e : z.cps[i]? = some c) : okS ⟨#[c]⟩ := by
  refine ⟨?_, ?_⟩
  · show 1 ≤ sizeLine
    decide
  · have h2 := h.2
    rw [Array.all_eq_true'] at h2
    have := h2 c (Array.mem_of_getElem? e)
    simpa using this
section
variable {K : PySem.W.Frag} {X : Cx}
theorem fin_same {H : Hp} {F : Addr → Prop} {Q : VK} {d : D} {v : V} (k : Fin1 K H F Q d) (ok : FOk H F) (h : Den K H F v d) : Q v H := k v H F (.refl ok) h
/-- a new tuple -/
theorem fin_tup {H : Hp} {F : Addr → Prop} {Q : VK} {ds : List D} {vs : List V} (k : Fin1 K H F Q (.tuple ds)) (ok : FOk H F) (h : DenL K H F vs ds) (hz : vs.length ≤ sizeLine) : ∀ p, H p = none → Q (.ref p) (upd H p (.tup vs)) := fun p hp => by
  have g := grow_new (o := .tup vs) ok hp
  exact k _ _ _ g (.tup (.of upd_same) (h.grow g) hz)
/-- a new list -/
theorem fin_lst {H : Hp} {F : Addr → Prop} {Q : VK} {ds : List D} {vs : List V} (k : Fin1 K H F Q (.list ds)) (ok : FOk H F) (h : DenL K H F vs ds) (hz : vs.length ≤ sizeLine) : ∀ p, H p = none → Q (.ref p) (upd H p (.lst vs)) := fun p hp => by
  have g := grow_newF (o := .lst vs) ok hp
  exact k _ _ _ g (.lst (.inl (.inl ⟨upd_same, .inr rfl⟩)) (h.grow g) hz)
theorem finF {H : Hp} {F : Addr → Prop} {Q : VK} {ds : List D} {vs : List V} (k : FinL K H F Q ds) (ok : FOk H F) (h : DenL K H F vs ds) (hz : vs.length ≤ sizeLine) : ∀ p, H p = none → Q (.ref p) (upd H p (.lst vs)) := fun p hp => by
  have g := grow_new (o := .lst vs) ok hp
  refine k p vs _ _ g hp upd_same (fun f => ?_) (h.grow g) hz
  obtain ⟨u, e⟩ := ok p f
  rw [e] at hp; cases hp
/-! ### + - * // % ** -/
/-- list + list, of any lists that are read -/
def rCatL (K : PySem.W.Frag) : R2 := fun x y H Q => ∃ l b xs zs, x = .ref l ∧ y = .ref b ∧ SqL K H l xs ∧ SqL K H b zs ∧ xs.length + zs.length ≤ sizeLine ∧ ∀ p, H p = none → Q (.ref p) (upd H p (.lst (xs ++ zs)))
theorem op_catL : OpR X (binaryOp .Add) (rCatL X.K) := by
  intro pins s σ H x y v u Q I rx ry ⟨l, b, xs, zs, ex, ey, hl, hb, hz, q⟩
  subst ex ey
  cases rx
  cases ry
  obtain ⟨its, r, ⟨⟨c1, d1, t1, sl1⟩, n1, g1, e1, e2, e3⟩, z1⟩ := I.list hl
  obtain ⟨its2, r2, ⟨⟨c2, d2, t2, sl2⟩, n2, g2, e4, e5, e6⟩, z2⟩ := I.list hb
  simp only at e1 e2 e3 e4 e5 e6
  subst e1 e2 e3 e4 e5 e6
  have l1 := r.length
  have l2 := r2.length
  refine concat_meets ⟨_, g1, rfl⟩ ⟨_, g2, rfl⟩ noFill_list_add seq_list_add PySem.F.slot_list_add PySem.F.entry_list_add (PySem.F.args_list_add_2 _ _)
    (list_addW l b its.toArray its2.toArray n1 n2 _ _ _ _ (by rw [List.size_toArray, List.size_toArray]; omega)) ⟨g1, g2, ?_⟩
  rw [show its.toArray ++ its2.toArray = (its ++ its2).toArray by simp]
  exact ⟨.ref _, _, I.lnew (t' := s.toks) (r.append r2) (by rw [List.length_append]; omega), rfl, q _ I.fresh⟩
def rAddA (K : PySem.W.Frag) : R2 := fun x y H Q => (rI0 (fun i j => .int (i + j)) x y H Q) ∨ (∃ i k, x = .int i ∧ y = .bl k ∧ Q (.int (i + b2i k)) H) ∨ (∃ i j, x = .str i ∧ y = .str j ∧ i.length + j.length ≤ sizeLine ∧ Q (.str (i ++ j)) H) ∨ rCatA K x y H Q ∨ rCatL K x y H Q
theorem op_addA : OpR X (binaryOp .Add) (rAddA X.K) := op_add.or (op_add_ib.or (op_add_str.or (op_catA.or op_catL)))
def addD : D → D → R D
  | .int i, .int j => .ok (.int (i + j))
  | .int i, .bool j => .ok (.int (i + b2i j))
  | .str a, .str b => if a.length + b.length ≤ sizeLine then .ok (.str (a ++ b)) else .stuck
  | .tuple a, .tuple b => if a.length + b.length ≤ sizeLine then .ok (.tuple (a ++ b)) else .stuck
  | .list a, .list b => if a.length + b.length ≤ sizeLine then .ok (.list (a ++ b)) else .stuck
  | _, _ => .stuck
theorem ite_wp {α : Type} {c : Prop} [Decidable c] {x : R α} {P : α → Prop} {E : Exn → Prop} (h : (if c then x else R.stuck).wp P E) : c ∧ x.wp P E := by
  by_cases hc : c
  · rw [if_pos hc] at h; exact ⟨hc, h⟩
  · rw [if_neg hc] at h; exact h.elim
theorem g_add : G2 K (rAddA K) addD := by
  intro x y dx dy H F Q ok hx hy k
  cases hx with
  | int i =>
    cases hy with
    | int j => exact .inl ⟨i, j, rfl, rfl, fin_same k ok (.int _)⟩
    | bl j => exact .inr (.inl ⟨i, j, rfl, rfl, fin_same k ok (.int _)⟩)
    | _ => exact k.elim
  | str a ha =>
    cases hy with
    | str b hb =>
      obtain ⟨h, k⟩ := ite_wp (x := R.ok _) k
      exact .inr (.inr (.inl ⟨a, b, rfl, rfl, h, fin_same k ok (.str _ (okS_append ha hb h))⟩))
    | _ => exact k.elim
  | @tup a vs ds h1 h2 h3 =>
    cases hy with
    | @tup b ws es h4 h5 h6 =>
      obtain ⟨h, k⟩ := ite_wp (x := R.ok _) k
      have l1 := h2.length
      have l2 := h5.length
      refine .inr (.inr (.inr (.inl ⟨a, b, vs, ws, rfl, rfl, h1, h4, by omega, fun e => ?_, fun _ e => ?_, fun _ _ => ?_⟩)))
      · subst e; cases h2
        exact fin_same k ok (.tup h4 h5 h6)
      · subst e; cases h5
        rw [List.append_nil] at k
        exact fin_same k ok (.tup h1 h2 h3)
      · exact fin_tup k ok (h2.append h5) (by rw [List.length_append]; omega)
    | _ => exact k.elim
  | @lst a vs ds h1 h2 h3 =>
    cases hy with
    | @lst b ws es h4 h5 h6 =>
      obtain ⟨h, k⟩ := ite_wp (x := R.ok _) k
      have l1 := h2.length
      have l2 := h5.length
      exact .inr (.inr (.inr (.inr ⟨a, b, vs, ws, rfl, rfl, h1.sql, h4.sql, by omega, fin_lst k ok (h2.append h5) (by rw [List.length_append]; omega)⟩)))
    | _ => exact k.elim
  | _ => exact k.elim
/-- list + list as a new list -/
def catF (f g : Env → R (List D)) : Env → R (List D) := fun ε => f ε >>= fun a => g ε >>= fun b => if a.length + b.length ≤ sizeLine then .ok (a ++ b) else .stuck
def subD : D → D → R D
  | .int i, .int j => .ok (.int (i - j))
  | _, _ => .stuck
theorem g_sub : G2 K (rI0 fun i j => .int (i - j)) subD := by
  intro x y dx dy H F Q ok hx hy k
  cases hx with
  | int i =>
    cases hy with
    | int j => exact ⟨i, j, rfl, rfl, fin_same k ok (.int _)⟩
    | _ => exact k.elim
  | _ => exact k.elim
def mulFits (i j : Int) : Bool := (decide (-(2 ^ 64) < i) && decide (i < 2 ^ 64)) || (decide (-(2 ^ 64) < j) && decide (j < 2 ^ 64)) || decide (i.natAbs.log2 + j.natAbs.log2 < 1000000)
def rMulA (K : PySem.W.Frag) : R2 := fun x y H Q => rI CMul (fun i j => .int (i * j)) x y H Q ∨ rI CMulW (fun i j => .int (i * j)) x y H Q ∨ rRepT K x y H Q
theorem op_mulA : OpR X (binaryOp .Mult) (rMulA X.K) := op_mul.or (op_mulW.or op_repT)
def mulD : D → D → R D
  | .int i, .int j => if mulFits i j = true then .ok (.int (i * j)) else .stuck
  | .tuple a, .int k => if a ≠ [] ∧ 2 ≤ k ∧ k ≤ 1000 ∧ a.length ≤ 1000 then .ok (.tuple (List.replicate k.toNat a).flatten) else .stuck
  | _, _ => .stuck
theorem denL_rep {H : Hp} {F : Addr → Prop} {vs : List V} {ds : List D} (h : DenL K H F vs ds) : ∀ n : Nat, DenL K H F (List.replicate n vs).flatten (List.replicate n ds).flatten
  | 0 => .nil
  | n + 1 => by
    rw [List.replicate_succ, List.replicate_succ, List.flatten_cons, List.flatten_cons]
    exact h.append (denL_rep h n)
theorem len_rep {α : Type} (xs : List α) (n : Nat) : (List.replicate n xs).flatten.length = n * xs.length := by
  induction n with
  | zero => simp
  | succ n ih => rw [List.replicate_succ, List.flatten_cons, List.length_append, ih, Nat.succ_mul]; omega
theorem g_mul : G2 K (rMulA K) mulD := by
  intro x y dx dy H F Q ok hx hy k
  cases hx with
  | int i =>
    cases hy with
    | int j =>
      obtain ⟨h, k⟩ := ite_wp (x := R.ok _) k
      unfold mulFits at h
      simp only [Bool.or_eq_true, Bool.and_eq_true, decide_eq_true_eq] at h
      have q := fin_same k ok (.int _)
      rcases h with (h | h) | h
      · exact .inl ⟨i, j, rfl, rfl, .inl h, q⟩
      · exact .inl ⟨i, j, rfl, rfl, .inr h, q⟩
      · exact .inr (.inl ⟨i, j, rfl, rfl, h, q⟩)
    | _ => exact k.elim
  | @tup a vs ds h1 h2 h3 =>
    cases hy with
    | int j =>
      obtain ⟨⟨e1, e2, e3, e4⟩, k⟩ := ite_wp (x := R.ok _) k
      have l1 := h2.length
      refine .inr (.inr ⟨a, j, vs, rfl, rfl, h1, fun e => e1 ?_, e2, e3, by omega, fin_tup k ok (denL_rep h2 _) ?_⟩)
      · subst e; cases h2; rfl
      · rw [len_rep, sizeLine_eq]
        have : j.toNat ≤ 1000 := by omega
        have : j.toNat * vs.length ≤ 1000 * 1000 := Nat.mul_le_mul this (by omega)
        omega
    | _ => exact k.elim
  | _ => exact k.elim
def rDivA : R2 := fun x y H Q => rI CDivN (fun i j => .int (i.fdiv j)) x y H Q ∨ rI CDivW (fun i j => .int (i / j)) x y H Q
theorem op_divA : OpR X (binaryOp .FloorDiv) rDivA := op_fdivN.or op_fdivW
def divD : D → D → R D
  | .int i, .int j => if 0 < j ∧ (j.natAbs < 1073741824 ∨ j.natAbs.log2 < 9000) then .ok (.int (i / j)) else .stuck
  | _, _ => .stuck
theorem g_div : G2 K rDivA divD := by
  intro x y dx dy H F Q ok hx hy k
  cases hx with
  | int i =>
    cases hy with
    | int j =>
      obtain ⟨⟨h1, h2⟩, k⟩ := ite_wp (x := R.ok _) k
      rcases h2 with h2 | h2
      · exact .inl ⟨i, j, rfl, rfl, ⟨by omega, h2⟩, by
          show Q (.int (i.fdiv j)) H
          rw [Int.fdiv_eq_ediv_of_nonneg i (by omega)]
          exact fin_same k ok (.int _)⟩
      · exact .inr ⟨i, j, rfl, rfl, ⟨h1, h2⟩, fin_same k ok (.int _)⟩
    | _ => exact k.elim
  | _ => exact k.elim
def modD : D → D → R D
  | .int i, .int j => if 0 < j then .ok (.int (i % j)) else .stuck
  | _, _ => .stuck
theorem g_mod : G2 K (rI (fun _ j => 0 < j) fun i j => .int (i % j)) modD := by
  intro x y dx dy H F Q ok hx hy k
  cases hx with
  | int i =>
    cases hy with
    | int j =>
      obtain ⟨h1, k⟩ := ite_wp (x := R.ok _) k
      exact ⟨i, j, rfl, rfl, h1, fin_same k ok (.int _)⟩
    | _ => exact k.elim
  | _ => exact k.elim
def powD : D → D → R D
  | .int i, .int j => if 0 ≤ j ∧ j ≤ 1000000 ∧ i.natAbs < 2 ^ 64 then .ok (.int (i ^ j.toNat)) else .stuck
  | _, _ => .stuck
theorem g_pow : G2 K (rI CPow fun i j => .int (i ^ j.toNat)) powD := by
  intro x y dx dy H F Q ok hx hy k
  cases hx with
  | int i =>
    cases hy with
    | int j =>
      obtain ⟨h1, k⟩ := ite_wp (x := R.ok _) k
      exact ⟨i, j, rfl, rfl, h1, fin_same k ok (.int _)⟩
    | _ => exact k.elim
  | _ => exact k.elim
def negD : D → R D
  | .int i => .ok (.int (-i))
  | _ => .stuck
theorem g_neg : G1 K (rU fun i => .int (-i)) negD := by
  intro x dx H F Q ok hx k
  cases hx with
  | int i => exact ⟨i, rfl, fin_same k ok (.int _)⟩
  | _ => exact k.elim
/-! ### comparisons -/
mutual
theorem Den.dp {H : Hp} {F : Addr → Prop} : ∀ {v : V} {d : D}, Den K H F v d → (∀ kvs, d ≠ .dict kvs) → d.canLay0 = true → Dp K H v d
  | _, _, .non, _, _ => .non
  | _, _, .bl b, _, _ => .bl b
  | _, _, .int i, _, _ => .int i
  | _, _, .str x _, _, _ => .str x
  | _, _, .tup h hs _, _, c => .tup h (DenL.dp hs (by unfold PyData.canLay0 at c; exact c))
  | _, _, .lst h hs _, _, c => .lst h.sql (DenL.dp hs (by unfold PyData.canLay0 at c; exact c))
  | _, _, .dK _ _, n, _ => absurd rfl (n _)
  | _, _, .dT _ _, n, _ => absurd rfl (n _)
theorem DenL.dp {H : Hp} {F : Addr → Prop} : ∀ {vs : List V} {ds : List D}, DenL K H F vs ds → PyData.canLayAll0 ds = true → DpAll K H vs ds
  | _, _, .nil, _ => .nil
  | _, _, .cons h hs, c => by
    unfold PyData.canLayAll0 at c
    rw [Bool.and_eq_true] at c
    exact .cons (Den.dp h (fun kvs e => by rw [e] at c; unfold PyData.canLay0 at c; exact absurd c.1 Bool.false_ne_true) c.1) (DenL.dp hs c.2)
end
mutual
/-- no dict within -/
def plain : D → Bool
  | .none | .bool _ | .int _ | .str _ => true
  | .list xs | .tuple xs => plainL xs
  | .dict _ => false
def plainL : List D → Bool
  | [] => true
  | x :: xs => plain x && plainL xs
end
mutual
theorem Den.lay {H : Hp} {F : Addr → Prop} : ∀ {v : V} {d : D}, Den K H F v d → plain d = true → d.canLay0 = true
  | _, _, .non, _ => by unfold PyData.canLay0; rfl
  | _, _, .bl b, _ => by unfold PyData.canLay0; rfl
  | _, _, .int i, _ => by unfold PyData.canLay0; rfl
  | _, _, .str x h, _ => by unfold PyData.canLay0; exact h.2
  | _, _, .tup h hs _, c => by unfold PyData.canLay0; exact DenL.lay hs (by unfold plain at c; exact c)
  | _, _, .lst h hs _, c => by unfold PyData.canLay0; exact DenL.lay hs (by unfold plain at c; exact c)
  | _, _, .dK _ _, n => by unfold plain at n; cases n
  | _, _, .dT _ _, n => by unfold plain at n; cases n
theorem DenL.lay {H : Hp} {F : Addr → Prop} : ∀ {vs : List V} {ds : List D}, DenL K H F vs ds → plainL ds = true → PyData.canLayAll0 ds = true
  | _, _, .nil, _ => by unfold PyData.canLayAll0; rfl
  | _, _, .cons h hs, c => by
    unfold plainL at c
    rw [Bool.and_eq_true] at c
    unfold PyData.canLayAll0
    rw [Den.lay h c.1, DenL.lay hs c.2]
    rfl
end
def cmpOk (d : D) : Bool := plain d && decide (d.depth ≤ 64)
theorem cmp_of {H : Hp} {F : Addr → Prop} {v : V} {d : D} (h : Den K H F v d) (c : cmpOk d = true) : Dp K H v d ∧ SeqAt.shaped d = true := by
  unfold cmpOk at c
  rw [Bool.and_eq_true] at c
  have l := h.lay c.1
  refine ⟨h.dp (fun kvs e => ?_) l, ?_⟩
  · rw [e] at c; unfold plain at c; exact absurd c.1 Bool.false_ne_true
  · unfold SeqAt.shaped
    rw [l, c.2]; rfl
def eqD (a b : D) : R D := if cmpOk a = true ∧ cmpOk b = true then .ok (.bool (PyData.eqv a b)) else .stuck
def neD (a b : D) : R D := if cmpOk a = true ∧ cmpOk b = true then .ok (.bool (!PyData.eqv a b)) else .stuck
theorem g_eq : G2 K (rEqD K) eqD := by
  intro x y dx dy H F Q ok hx hy k
  obtain ⟨⟨h1, h2⟩, k⟩ := ite_wp (x := R.ok _) k
  obtain ⟨p1, s1⟩ := cmp_of hx h1
  obtain ⟨p2, s2⟩ := cmp_of hy h2
  exact ⟨dx, dy, p1, p2, s1, s2, fin_same k ok (.bl _)⟩
theorem g_ne : G2 K (rNeD K) neD := by
  intro x y dx dy H F Q ok hx hy k
  obtain ⟨⟨h1, h2⟩, k⟩ := ite_wp (x := R.ok _) k
  obtain ⟨p1, s1⟩ := cmp_of hx h1
  obtain ⟨p2, s2⟩ := cmp_of hy h2
  exact ⟨dx, dy, p1, p2, s1, s2, fin_same k ok (.bl _)⟩
/-! is, of bools -/
def isBD : D → D → R D
  | .bool a, .bool b => .ok (.bool (a == b))
  | _, _ => .stuck
def notBD : D → D → R D
  | .bool a, .bool b => .ok (.bool (!(a == b)))
  | _, _ => .stuck
theorem dec_b (a b : Bool) : decide (a = b) = (a == b) := by cases a <;> cases b <;> rfl
theorem g_isB : G2 K rIsB isBD := by
  intro x y dx dy H F Q ok hx hy k
  cases hx with
  | bl a =>
    cases hy with
    | bl b => exact ⟨a, b, rfl, rfl, by rw [dec_b]; exact fin_same k ok (.bl _)⟩
    | _ => exact k.elim
  | _ => exact k.elim
theorem g_notB : G2 K rNotB notBD := by
  intro x y dx dy H F Q ok hx hy k
  cases hx with
  | bl a =>
    cases hy with
    | bl b => exact ⟨a, b, rfl, rfl, by rw [dec_b]; exact fin_same k ok (.bl _)⟩
    | _ => exact k.elim
  | _ => exact k.elim
/-! order of ints and of texts -/
def ltS (a b : Str) : Bool := decide (a.cps.toList < b.cps.toList)
def cmpD (p : Int → Int → Bool) (q : Str → Str → Bool) : D → D → R D
  | .int i, .int j => .ok (.bool (p i j))
  | .str a, .str b => .ok (.bool (q a b))
  | _, _ => .stuck
def rCmpA (p : Int → Int → Bool) (q : Str → Str → Bool) : R2 := fun x y H Q => rI0 (fun i j => .bl (p i j)) x y H Q ∨ (∃ i j, x = .str i ∧ y = .str j ∧ Q (.bl (q i j)) H)
theorem g_cmp {p : Int → Int → Bool} {q : Str → Str → Bool} : G2 K (rCmpA p q) (cmpD p q) := by
  intro x y dx dy H F Q ok hx hy k
  cases hx with
  | int i =>
    cases hy with
    | int j => exact .inl ⟨i, j, rfl, rfl, fin_same k ok (.bl _)⟩
    | _ => exact k.elim
  | str i =>
    cases hy with
    | str j => exact .inr ⟨i, j, rfl, rfl, fin_same k ok (.bl _)⟩
    | _ => exact k.elim
  | _ => exact k.elim
abbrev ltD := cmpD (fun i j => decide (i < j)) ltS
abbrev leD := cmpD (fun i j => decide (i ≤ j)) fun a b => !ltS b a
abbrev gtD := cmpD (fun i j => decide (j < i)) fun a b => ltS b a
abbrev geD := cmpD (fun i j => decide (j ≤ i)) fun a b => !ltS a b
theorem op_ltA : OpR X (compareOp .Lt) (rCmpA (fun i j => decide (i < j)) ltS) := op_lt.or op_lt_str
theorem op_leA : OpR X (compareOp .LtE) (rCmpA (fun i j => decide (i ≤ j)) fun a b => !ltS b a) := op_le.or op_le_str
theorem op_gtA : OpR X (compareOp .Gt) (rCmpA (fun i j => decide (j < i)) fun a b => ltS b a) := op_gt.or op_gt_str
theorem op_geA : OpR X (compareOp .GtE) (rCmpA (fun i j => decide (j ≤ i)) fun a b => !ltS a b) := op_ge.or op_ge_str
/-! ### places -/
def ixD : D → D → R D
  | .list xs, .int i => match atI xs i with
    | some d => .ok d
    | none => .stuck
  | .tuple xs, .int i => match atI xs i with
    | some d => .ok d
    | none => .stuck
  | .str z, .int i => match atI z.cps.toList i with
    | some c => .ok (.str ⟨#[c]⟩)
    | none => .stuck
  | _, _ => .stuck
theorem DenL.atI {H : Hp} {F : Addr → Prop} {vs : List V} {ds : List D} {i : Int} {d : D} (h : DenL K H F vs ds) (e : L2.atI ds i = some d) : ∃ v, L2.atI vs i = some v ∧ Den K H F v d := by
  unfold L2.atI at e ⊢
  rw [← h.length] at e
  cases q : ixN vs.length i with
  | none => rw [q] at e; cases e
  | some j =>
    rw [q] at e
    exact h.getD e
theorem atI_sign {z : Str} {i : Int} {c : Nat} (e : atI z.cps.toList i = some c) : ∃ j : Nat, z.cps[j]? = some c := by
  unfold atI at e
  cases q : ixN z.cps.toList.length i with
  | none => rw [q] at e; cases e
  | some j =>
    rw [q] at e
    exact ⟨j, by rw [← Array.getElem?_toList]; exact e⟩
theorem g_ix : G2 K (rIx K) ixD := by
  intro x y dx dy H F Q ok hx hy k
  cases hx with
  | @lst a vs ds h1 h2 h3 =>
    cases hy with
    | int i =>
      unfold ixD at k
      simp only at k
      split at k
      · rename_i d e
        obtain ⟨v, e1, h⟩ := h2.atI e
        exact .inl ⟨a, vs, i, v, rfl, rfl, h1.sql, e1, fin_same k ok h⟩
      · exact k.elim
    | _ => exact k.elim
  | @tup a vs ds h1 h2 h3 =>
    cases hy with
    | int i =>
      unfold ixD at k
      simp only at k
      split at k
      · rename_i d e
        obtain ⟨v, e1, h⟩ := h2.atI e
        exact .inr (.inl ⟨a, vs, i, v, rfl, rfl, h1, e1, fin_same k ok h⟩)
      · exact k.elim
    | _ => exact k.elim
  | @str z hz =>
    cases hy with
    | int i =>
      unfold ixD at k
      simp only at k
      split at k
      · rename_i c e
        obtain ⟨j, ej⟩ := atI_sign e
        exact .inr (.inr ⟨z, i, c, rfl, rfl, hz.1, e, fin_same k ok (.str _ (okS_sign hz ej))⟩)
      · exact k.elim
    | _ => exact k.elim
  | _ => cases hy <;> exact k.elim
end
end RB

set_option Elab.async false
set_option linter.all false
set_option maxRecDepth 100000
set_option maxHeartbeats 4000000
namespace RB
open PySem PySem.Spec PyProof.Rows L2
open Classical in
/-- x where P holds -/
noncomputable def given_ {α : Type} (P : Prop) (x : R α) : R α := if P then x else .stuck
theorem given_pos {α : Type} {P : Prop} {x : R α} (h : P) : given_ P x = x := by unfold given_; rw [if_pos h]
theorem given_wp {α : Type} {c : Prop} {x : R α} {P : α → Prop} {E : Exn → Prop} (h : (given_ c x).wp P E) : c ∧ x.wp P E := by
  unfold given_ at h
  by_cases hc : c
  · rw [if_pos hc] at h; exact ⟨hc, h⟩
  · rw [if_neg hc] at h; exact h.elim
def intsOf : List D → R (List Int)
  | [] => .ok []
  | .int i :: r => intsOf r >>= fun is => .ok (i :: is)
  | _ => .stuck
def boolsOf : List D → R (List Bool)
  | [] => .ok []
  | .bool i :: r => boolsOf r >>= fun is => .ok (i :: is)
  | _ => .stuck
@[simp] theorem intsOf_map : ∀ ns : List Int, intsOf (ns.map .int) = .ok ns
  | [] => rfl
  | n :: ns => by rw [List.map_cons, intsOf, intsOf_map ns]; rfl
@[simp] theorem boolsOf_map : ∀ ns : List Bool, boolsOf (ns.map .bool) = .ok ns
  | [] => rfl
  | n :: ns => by rw [List.map_cons, boolsOf, boolsOf_map ns]; rfl
section
variable {K : PySem.W.Frag} {X : Cx} {H : Hp} {F : Addr → Prop}
theorem ints_of : ∀ {ds : List D} {vs : List V} {ns : List Int}, DenL K H F vs ds → intsOf ds = .ok ns → vs = ns.map V.int
  | [], _, ns, h, e => by cases h; cases e; rfl
  | d :: r, _, ns, h, e => by
    cases h with
    | cons h hs =>
      cases h with
      | int i =>
        rw [intsOf] at e
        cases q : intsOf r with
        | ok is =>
          rw [q] at e
          cases e
          rw [ints_of hs q]; rfl
        | exn _ => rw [q] at e; cases e
        | stuck => rw [q] at e; cases e
      | _ => cases e
theorem bools_of : ∀ {ds : List D} {vs : List V} {ns : List Bool}, DenL K H F vs ds → boolsOf ds = .ok ns → vs = ns.map V.bl
  | [], _, ns, h, e => by cases h; cases e; rfl
  | d :: r, _, ns, h, e => by
    cases h with
    | cons h hs =>
      cases h with
      | bl i =>
        rw [boolsOf] at e
        cases q : boolsOf r with
        | ok is =>
          rw [q] at e
          cases e
          rw [bools_of hs q]; rfl
        | exn _ => rw [q] at e; cases e
        | stuck => rw [q] at e; cases e
      | _ => cases e
/-- one argument -/
theorem denL1 {vs : List V} {d : D} (h : DenL K H F vs [d]) : ∃ v, vs = [v] ∧ Den K H F v d := by
  cases h with
  | cons h hs => cases hs; exact ⟨_, rfl, h⟩
theorem denL2 {vs : List V} {d e : D} (h : DenL K H F vs [d, e]) : ∃ v w, vs = [v, w] ∧ Den K H F v d ∧ Den K H F w e := by
  cases h with
  | cons h hs =>
    obtain ⟨w, rfl, h2⟩ := denL1 hs
    exact ⟨_, _, rfl, h, h2⟩
end
section
variable {K : PySem.W.Frag} {X : Cx}
/-! ### len, int, tuple, list, sum, all, any -/
def lenG : List D → R D
  | [.str z] => .ok (.int z.length)
  | [.list xs] => .ok (.int xs.length)
  | [.tuple xs] => .ok (.int xs.length)
  | _ => .stuck
theorem g_len : GC K (fun xs H Q => ∃ x n, xs = [x] ∧ LenV K x H n ∧ Q (.int n) H) lenG := by
  intro vs ds H F Q ok h k
  match ds, h, k with
  | [d], h, k =>
    obtain ⟨v, rfl, hd⟩ := denL1 h
    cases hd with
    | str z hz => exact ⟨_, _, rfl, ⟨hz.1, rfl⟩, fin_same k ok (.int _)⟩
    | @lst a vs ds h1 h2 h3 => exact ⟨_, vs.length, rfl, .inl ⟨vs, h1.sql, rfl⟩, by rw [h2.length]; exact fin_same k ok (.int _)⟩
    | @tup a vs ds h1 h2 h3 => exact ⟨_, vs.length, rfl, .inr ⟨vs, h1, rfl⟩, by rw [h2.length]; exact fin_same k ok (.int _)⟩
    | _ => exact k.elim
  | [], _, k => exact k.elim
  | .none :: _ :: _, _, k => exact k.elim
  | .bool _ :: _ :: _, _, k => exact k.elim
  | .int _ :: _ :: _, _, k => exact k.elim
  | .str _ :: _ :: _, _, k => exact k.elim
  | .list _ :: _ :: _, _, k => exact k.elim
  | .tuple _ :: _ :: _, _, k => exact k.elim
  | .dict _ :: _ :: _, _, k => exact k.elim
def on1 (g : D → R D) : List D → R D
  | [d] => g d
  | _ => .stuck
def on1L (g : D → R (List D)) : List D → R (List D)
  | [d] => g d
  | _ => .stuck
theorem g_on1 {r : List V → Hp → VK → Prop} {g : D → R D} (h : ∀ v d H F Q, FOk H F → Den K H F v d → (g d).wp (Fin1 K H F Q) NoE → r [v] H Q) : GC K r (on1 g) := by
  intro vs ds H F Q ok hd k
  match ds, hd, k with
  | [d], hd, k =>
    obtain ⟨v, e, hd'⟩ := denL1 hd
    subst e
    exact h v d H F Q ok hd' k
  | [], _, k => exact k.elim
  | _ :: _ :: _, _, k => exact k.elim
theorem g_on1L {r : List V → Hp → VK → Prop} {g : D → R (List D)} (h : ∀ v d H F Q, FOk H F → Den K H F v d → (g d).wp (FinL K H F Q) NoE → r [v] H Q) : GCF K r (on1L g) := by
  intro vs ds H F Q ok hd k
  match ds, hd, k with
  | [d], hd, k =>
    obtain ⟨v, e, hd'⟩ := denL1 hd
    subst e
    exact h v d H F Q ok hd' k
  | [], _, k => exact k.elim
  | _ :: _ :: _, _, k => exact k.elim
def intG : D → R D
  | .int i => .ok (.int i)
  | .bool k => .ok (.int (if k then 1 else 0))
  | _ => .stuck
theorem g_int : GC K (fun xs H Q => (∃ i, xs = [.int i] ∧ Q (.int i) H) ∨ ∃ k, xs = [.bl k] ∧ Q (.int (if k then 1 else 0)) H) (on1 intG) := g_on1 fun v d H F Q ok hd k => by
  cases hd with
  | int i => exact .inl ⟨i, rfl, fin_same k ok (.int _)⟩
  | bl b => exact .inr ⟨b, rfl, fin_same k ok (.int _)⟩
  | _ => exact k.elim
def tupG : D → R D
  | .list xs => .ok (.tuple xs)
  | .tuple xs => .ok (.tuple xs)
  | _ => .stuck
theorem g_tuple : GC K (fun xs H Q => ∃ p ys, xs = [.ref p] ∧ ((SqL K H p ys ∧ ∀ l, H l = none → Q (.ref l) (upd H l (.tup ys))) ∨ (SqT K H p ys ∧ Q (.ref p) H))) (on1 tupG) := g_on1 fun v d H F Q ok hd k => by
  cases hd with
  | @lst a vs ds h1 h2 h3 => exact ⟨a, vs, rfl, .inl ⟨h1.sql, fin_tup k ok h2 h3⟩⟩
  | @tup a vs ds h1 h2 h3 => exact ⟨a, vs, rfl, .inr ⟨h1, fin_same k ok (.tup h1 h2 h3)⟩⟩
  | _ => exact k.elim
def itemsG : D → R (List D)
  | .list xs => .ok xs
  | .tuple xs => .ok xs
  | _ => .stuck
theorem g_list : GCF K (fun xs H Q => ∃ p ys, xs = [.ref p] ∧ (SqL K H p ys ∨ SqT K H p ys) ∧ ∀ l, H l = none → Q (.ref l) (upd H l (.lst ys))) (on1L itemsG) := g_on1L fun v d H F Q ok hd k => by
  cases hd with
  | @lst a vs ds h1 h2 h3 => exact ⟨a, vs, rfl, .inl h1.sql, finF k ok h2 h3⟩
  | @tup a vs ds h1 h2 h3 => exact ⟨a, vs, rfl, .inr h1, finF k ok h2 h3⟩
  | _ => exact k.elim
def listOfD : D → R (List D)
  | .list xs => .ok xs
  | _ => .stuck
def sumG : D → R D := fun d => listOfD d >>= fun xs => intsOf xs >>= fun ns => .ok (.int ns.sum)
theorem wp_ok {α β : Type} {x : R α} {f : α → R β} {P : β → Prop} {E : Exn → Prop} (h : (x >>= f).wp P E) (hE : ∀ e, ¬ E e) : ∃ a, x = .ok a ∧ (f a).wp P E := by
  cases x with
  | ok a => exact ⟨a, rfl, h⟩
  | exn e => exact absurd h (hE e)
  | stuck => exact h.elim
theorem g_sum : GC K (rSum K) (on1 sumG) := g_on1 fun v d H F Q ok hd k => by
  cases hd with
  | @lst a vs ds h1 h2 h3 =>
    obtain ⟨ns, e, k⟩ := wp_ok (x := intsOf ds) k (fun _ h => h)
    have := ints_of h2 e
    subst this
    exact ⟨a, ns, rfl, h1.sql, fin_same k ok (.int _)⟩
  | _ => exact k.elim
def allG : D → R D := fun d => listOfD d >>= fun xs => boolsOf xs >>= fun ns => .ok (.bool (ns.all id))
def anyG : D → R D := fun d => listOfD d >>= fun xs => boolsOf xs >>= fun ns => .ok (.bool (ns.any id))
theorem g_all : GC K (rAll K) (on1 allG) := g_on1 fun v d H F Q ok hd k => by
  cases hd with
  | @lst a vs ds h1 h2 h3 =>
    obtain ⟨ns, e, k⟩ := wp_ok (x := boolsOf ds) k (fun _ h => h)
    have := bools_of h2 e
    subst this
    exact ⟨a, ns, rfl, h1.sql, fin_same k ok (.bl _)⟩
  | _ => exact k.elim
theorem g_any : GC K (rAny K) (on1 anyG) := g_on1 fun v d H F Q ok hd k => by
  cases hd with
  | @lst a vs ds h1 h2 h3 =>
    obtain ⟨ns, e, k⟩ := wp_ok (x := boolsOf ds) k (fun _ h => h)
    have := bools_of h2 e
    subst this
    exact ⟨a, ns, rfl, h1.sql, fin_same k ok (.bl _)⟩
  | _ => exact k.elim
/-! ### min, max, sorted over data that is alike -/
def OrdOk (xs : List D) : Prop := PySem.W.AlikeAll xs ∧ plainL xs = true ∧ PyData.depthAll xs ≤ 64
noncomputable def minG : D → R D
  | .list (x :: xs) => given_ (OrdOk (x :: xs)) (.ok (PySem.W.minD x xs))
  | .tuple (x :: xs) => given_ (OrdOk (x :: xs)) (.ok (PySem.W.minD x xs))
  | _ => .stuck
noncomputable def maxG : D → R D
  | .list (x :: xs) => given_ (OrdOk (x :: xs)) (.ok (PySem.W.maxD x xs))
  | .tuple (x :: xs) => given_ (OrdOk (x :: xs)) (.ok (PySem.W.maxD x xs))
  | _ => .stuck
/-- one of the items, told by its data -/
def rPick (K : PySem.W.Frag) (f : D → List D → D) : List V → Hp → VK → Prop := fun xs H Q => ∃ a vs d ds F, xs = [V.ref a] ∧ (SqL K H a vs ∨ SqT K H a vs) ∧ DenL K H F vs (d :: ds) ∧ OrdOk (d :: ds) ∧ ∀ v, Den K H F v (f d ds) → Q v H
theorem plainL_lay {H : Hp} {F : Addr → Prop} {vs : List V} {ds : List D} (h : DenL K H F vs ds) (c : plainL ds = true) : DpAll K H vs ds := h.dp (h.lay c)
theorem pick_den {pins : List (Addr × Obj)} {σ : L2.St} {H : Hp} {F : Addr → Prop} {s : Shared} {h' : Heap} {vs : List V} {ds : List D} {its : List Value} {i : Nat} {v : Value} {d : D} {bs : List Addr} (I : Inv X pins σ H s) (hk : ∀ b o, s.heap.get? b = some o → h'.get? b = some o)
    (hd : DenL X.K H F vs ds) (c : plainL ds = true) (rv : Vals vs its) (e : its.toArray[i]? = some v) (r : Reads h' v d bs) : ∃ x, RelV x v ∧ Den X.K H F x d := by
  have e' : its[i]? = some v := by simpa using e
  have hi : i < vs.length := by
    rw [rv.length]
    exact (List.getElem?_eq_some_iff.mp e').1
  obtain ⟨u, e2, ru⟩ := rv.get (List.getElem?_eq_getElem hi)
  rw [e'] at e2; cases e2
  obtain ⟨d', e3, hd'⟩ := hd.get (List.getElem?_eq_getElem hi)
  have pl : plain d' = true := by
    have : ∀ {l : List D} {i : Nat} {x : D}, plainL l = true → l[i]? = some x → plain x = true := by
      intro l
      induction l with
      | nil => intro i x _ e; simp at e
      | cons y l ih =>
        intro i x c e
        unfold plainL at c
        rw [Bool.and_eq_true] at c
        cases i with
        | zero => simp at e; subst e; exact c.1
        | succ i => exact ih c.2 (by simpa using e)
    exact this c e3
  have lay := hd'.lay pl
  obtain ⟨as, r'⟩ := Dp.reads I d' _ _ (hd'.dp (fun kvs q => by subst q; unfold plain at pl; cases pl) lay) ru
  have := PySem.SeqAt.Reads.unique d' d v as bs lay (PySem.W.reads_keeps hk r') r
  subst this
  exact ⟨_, ru, hd'⟩
theorem cr_minD (hc : X.calm = true) (hu : X.A.units + 66 < cLine) : CallR X (.builtin "min") (rPick X.K PySem.W.minD) := by
  intro pins s σ H vs us Q I r ⟨a, ws, d, ds, F, e, hs, hd, ⟨o1, o2, o3⟩, q⟩
  subst e
  rw [Vals.ref1 r]
  have hz : X.A.units + 1 + PyData.depthAll (d :: ds) < cLine := by omega
  rcases hs with hs | hs
  · obtain ⟨its, rv, hl, _⟩ := I.list hs
    obtain ⟨as, ra⟩ := Dp.readsAll I _ _ its (plainL_lay hd o2) rv
    refine PySem.W.min_list_data (I.ok.hd hc) hl.isList ra o1 hz fun i v h' tk bs e r1 hk => ?_
    obtain ⟨x, rx, dx⟩ := pick_den I hk hd o2 rv e r1
    exact ⟨x, H, I.kept hk, rx, q x dx⟩
  · obtain ⟨its, rv, hl, _⟩ := I.tuple hs
    obtain ⟨as, ra⟩ := Dp.readsAll I _ _ its (plainL_lay hd o2) rv
    refine PySem.W.min_tuple_data (I.ok.hd hc) hl ra o1 hz fun i v h' tk bs e r1 hk => ?_
    obtain ⟨x, rx, dx⟩ := pick_den I hk hd o2 rv e r1
    exact ⟨x, H, I.kept hk, rx, q x dx⟩
theorem cr_maxD (hc : X.calm = true) (hu : X.A.units + 66 < cLine) : CallR X (.builtin "max") (rPick X.K PySem.W.maxD) := by
  intro pins s σ H vs us Q I r ⟨a, ws, d, ds, F, e, hs, hd, ⟨o1, o2, o3⟩, q⟩
  subst e
  rw [Vals.ref1 r]
  have hz : X.A.units + 1 + PyData.depthAll (d :: ds) < cLine := by omega
  rcases hs with hs | hs
  · obtain ⟨its, rv, hl, _⟩ := I.list hs
    obtain ⟨as, ra⟩ := Dp.readsAll I _ _ its (plainL_lay hd o2) rv
    refine PySem.W.max_list_data (I.ok.hd hc) hl.isList ra o1 hz fun i v h' tk bs e r1 hk => ?_
    obtain ⟨x, rx, dx⟩ := pick_den I hk hd o2 rv e r1
    exact ⟨x, H, I.kept hk, rx, q x dx⟩
  · obtain ⟨its, rv, hl, _⟩ := I.tuple hs
    obtain ⟨as, ra⟩ := Dp.readsAll I _ _ its (plainL_lay hd o2) rv
    refine PySem.W.max_tuple_data (I.ok.hd hc) hl ra o1 hz fun i v h' tk bs e r1 hk => ?_
    obtain ⟨x, rx, dx⟩ := pick_den I hk hd o2 rv e r1
    exact ⟨x, H, I.kept hk, rx, q x dx⟩
theorem g_min : GC K (rPick K PySem.W.minD) (on1 minG) := g_on1 fun v d H F Q ok hd k => by
  cases hd with
  | @lst a vs ds h1 h2 h3 =>
    cases ds with
    | nil => exact k.elim
    | cons d ds =>
      obtain ⟨o, k⟩ := given_wp (x := R.ok _) k
      exact ⟨a, vs, d, ds, F, rfl, .inl h1.sql, h2, o, fun v hv => fin_same k ok hv⟩
  | @tup a vs ds h1 h2 h3 =>
    cases ds with
    | nil => exact k.elim
    | cons d ds =>
      obtain ⟨o, k⟩ := given_wp (x := R.ok _) k
      exact ⟨a, vs, d, ds, F, rfl, .inr h1, h2, o, fun v hv => fin_same k ok hv⟩
  | _ => exact k.elim
theorem g_max : GC K (rPick K PySem.W.maxD) (on1 maxG) := g_on1 fun v d H F Q ok hd k => by
  cases hd with
  | @lst a vs ds h1 h2 h3 =>
    cases ds with
    | nil => exact k.elim
    | cons d ds =>
      obtain ⟨o, k⟩ := given_wp (x := R.ok _) k
      exact ⟨a, vs, d, ds, F, rfl, .inl h1.sql, h2, o, fun v hv => fin_same k ok hv⟩
  | @tup a vs ds h1 h2 h3 =>
    cases ds with
    | nil => exact k.elim
    | cons d ds =>
      obtain ⟨o, k⟩ := given_wp (x := R.ok _) k
      exact ⟨a, vs, d, ds, F, rfl, .inr h1, h2, o, fun v hv => fin_same k ok hv⟩
  | _ => exact k.elim
/-! ### isinstance -/
def tyN : D → Option String
  | .none => some "NoneType"
  | .bool _ => some "bool"
  | .int _ => some "int"
  | .str _ => some "str"
  | .list _ => some "list"
  | .tuple _ => some "tuple"
  | .dict _ => none
theorem Den.tyx {H : Hp} {F : Addr → Prop} {v : V} {d : D} {t : String} (h : Den K H F v d) (e : tyN d = some t) : TyX K H v (.type t) := by
  cases h with
  | non => cases e; exact .base .non
  | bl b => cases e; exact .base (.bl _)
  | int i => cases e; exact .base (.int _)
  | str x _ => cases e; exact .base (.str _)
  | lst h1 h2 h3 =>
    cases e
    rcases h1 with (⟨h, _⟩ | ⟨o, h⟩) | ⟨o, its, n, h, c, _⟩
    · exact .base (.lst h)
    · exact .base (.frz h)
    · exact .kList h c
  | tup h1 h2 h3 =>
    cases e
    rcases h1 with (h | ⟨o, h⟩) | ⟨o, its, n, h, c, _⟩
    · exact .base (.tup h)
    · exact .fTuple h
    · exact .kTuple h c
  | dK _ _ => cases e
  | dT _ _ => cases e
/-- what isinstance answers of a type's name T -/
def IsiOk (T : String) (p : D → Bool) : Prop := ∀ t d, tyN d = some t → kitB t T = some (p d)
def isInt : D → Bool
  | .int _ => true
  | .bool _ => true
  | _ => false
def isBool : D → Bool
  | .bool _ => true
  | _ => false
def isStr : D → Bool
  | .str _ => true
  | _ => false
def isTup : D → Bool
  | .tuple _ => true
  | _ => false
def isLst : D → Bool
  | .list _ => true
  | _ => false
theorem isi_int : IsiOk "int" isInt := fun t d e => by cases d <;> cases e <;> first | exact (show kitB _ _ = some true by decide +kernel) | exact (show kitB _ _ = some false by decide +kernel)
theorem isi_bool : IsiOk "bool" isBool := fun t d e => by cases d <;> cases e <;> first | exact (show kitB _ _ = some true by decide +kernel) | exact (show kitB _ _ = some false by decide +kernel)
theorem isi_str : IsiOk "str" isStr := fun t d e => by cases d <;> cases e <;> first | exact (show kitB _ _ = some true by decide +kernel) | exact (show kitB _ _ = some false by decide +kernel)
theorem isi_tup : IsiOk "tuple" isTup := fun t d e => by cases d <;> cases e <;> first | exact (show kitB _ _ = some true by decide +kernel) | exact (show kitB _ _ = some false by decide +kernel)
theorem isi_lst : IsiOk "list" isLst := fun t d e => by cases d <;> cases e <;> first | exact (show kitB _ _ = some true by decide +kernel) | exact (show kitB _ _ = some false by decide +kernel)
def noDct : D → R D
  | .dict _ => .stuck
  | d => .ok d
theorem noDct_ok {d d' : D} (h : noDct d = .ok d') : d' = d ∧ ∃ t, tyN d = some t := by
  cases d <;> cases h <;> exact ⟨rfl, _, rfl⟩
def isiE (p : D → Bool) (f : Env → R D) : Env → R Bool := fun ε => f ε >>= fun d => (noDct d).hard >>= fun d => .ok (p d)
section
variable {W : WX} {a : Expr} {fa : Env → R D} {pos p1 p2 p3 p4 pT : Pos} {k : Nat} {T T' : Str} {S S' : String}
theorem wp_hard {α β : Type} {x : R α} {f : α → R β} {P : β → Prop} {E : Exn → Prop} (h : (x.hard >>= f).wp P E) : ∃ a, x = .ok a ∧ (f a).wp P E := by
  cases x with
  | ok a => exact ⟨a, rfl, h⟩
  | exn e => exact h.elim
  | stuck => exact h.elim
theorem ex_isi {p : D → Bool} (hm : X.mg "isinstance" = none) (hT : X.mg T = none) (hp : IsiOk S p) (ha : Ex X W a fa) (hv : bootBuiltins T = some (.type S) := by decide +kernel) (hg : Gl X "isinstance" := by rfl) (hgT : Gl X T := by rfl) (hn : T ≠ "__name__" := by decide) (hd : (T == ("__debug__" : Str)) = false := by decide)
    (he : starEach (a :: [.Name T p2]) X.env = (false, eval a X.env) :: starEach [.Name T p2] X.env := by rfl) (hpl : (backTo pos (starEach [.Name T p2] X.env)).any (·.1) = false := by rfl) (he2 : starEach [.Name T p2] X.env = (false, eval (.Name T p2) X.env) :: starEach [] X.env := by rfl) :
    Ex X W (.Call (.Name "isinstance" p1) [a, .Name T p2] [] pos) (bE (isiE p fa)) := by
  refine PE.imp (pe_callB call_isi hg hm (by decide +kernel) (pa_cons ha (pa_cons (pe_bltn (v := .ty S) hgT hT hv rfl hn hd) pa_nil he2) he) (by decide) (by decide) he hpl) fun σ H Q ⟨ε, F, re, q⟩ => ⟨ε, F, re, ?_⟩
  refine R.wp_mono (R.wp_bind (R.wp_bind q)) (fun d k v H1 F1 g1 d1 => ?_) (fun e k => k)
  obtain ⟨d', e, k2⟩ := wp_hard k
  obtain ⟨e2, t, e3⟩ := noDct_ok e
  subst e2
  exact ⟨v, .ty S, _, _, _, rfl, .ty S, d1.tyx e3, kit_ty (hp t d' e3), k2 _ _ _ g1 (.bl _)⟩
theorem ex_isi2 {p p' : D → Bool} (hm : X.mg "isinstance" = none) (hT : X.mg T = none) (hT' : X.mg T' = none) (hp : IsiOk S p) (hp' : IsiOk S' p') (ha : Ex X W a fa) (hv : bootBuiltins T = some (.type S) := by decide +kernel) (hv' : bootBuiltins T' = some (.type S') := by decide +kernel) (hg : Gl X "isinstance" := by rfl) (hgT : Gl X T := by rfl) (hgT' : Gl X T' := by rfl)
    (hn : T ≠ "__name__" := by decide) (hd : (T == ("__debug__" : Str)) = false := by decide) (hn' : T' ≠ "__name__" := by decide) (hd' : (T' == ("__debug__" : Str)) = false := by decide)
    (he : starEach (a :: [.Tuple [.Name T p2, .Name T' p3] k p4]) X.env = (false, eval a X.env) :: starEach [.Tuple [.Name T p2, .Name T' p3] k p4] X.env := by rfl) (hpl : (backTo pos (starEach [.Tuple [.Name T p2, .Name T' p3] k p4] X.env)).any (·.1) = false := by rfl)
    (he2 : starEach [.Tuple [.Name T p2, .Name T' p3] k p4] X.env = (false, eval (.Tuple [.Name T p2, .Name T' p3] k p4) X.env) :: starEach [] X.env := by rfl)
    (he3 : starEach [.Name T p2, .Name T' p3] X.env = (false, eval (.Name T p2) X.env) :: starEach [.Name T' p3] X.env := by rfl) (he4 : starEach [.Name T' p3] X.env = (false, eval (.Name T' p3) X.env) :: starEach [] X.env := by rfl) :
    Ex X W (.Call (.Name "isinstance" p1) [a, .Tuple [.Name T p2, .Name T' p3] k p4] [] pos) (bE (isiE (fun d => p d || p' d) fa)) := by
  refine PE.imp (pe_callB call_isiT hg hm (by decide +kernel) (pa_cons ha (pa_cons (pe_tup (pa_cons (pe_bltn (v := .ty S) hgT hT hv rfl hn hd) (pa_cons (pe_bltn (v := .ty S') hgT' hT' hv' rfl hn' hd') pa_nil he4) he3)) pa_nil he2) he) (by decide) (by decide) he hpl) fun σ H Q ⟨ε, F, re, q⟩ => ⟨ε, F, re, ?_⟩
  refine R.wp_mono (R.wp_bind (R.wp_bind q)) (fun d k v H1 F1 g1 d1 => ?_) (fun e k => k)
  obtain ⟨d', e, k2⟩ := wp_hard k
  obtain ⟨e2, t, e3⟩ := noDct_ok e
  subst e2
  refine ⟨by show 2 ≤ sizeLine; decide, fun q hq => ?_⟩
  have g2 := grow_new (o := .tup [.ty S, .ty S']) g1.ok hq
  refine ⟨v, q, _, _, _, (p d' || p' d'), rfl, upd_same, .cons (.ty S) (.cons (.ty S') .nil), (d1.grow g2).tyx e3, ?_, k2 _ _ _ (g1.trans g2) (.bl _)⟩
  refine kitAny_cons (kit_ty (hp t d' e3)) (fun e => kitAny_cons (kit_ty (hp' t d' e3)) (fun e' => ?_) fun e' => ?_) fun e => ?_
  · rw [e, e']; exact kitAny_nil
  · rw [e']; simp
  · rw [e]; rfl
end
end
end RB

set_option Elab.async false
set_option linter.all false
set_option maxRecDepth 100000
set_option maxHeartbeats 4000000
namespace RB
open PySem PySem.Spec PyProof.Rows L2

/-! ### pairs: enumerate and zip over lists, tuples, texts -/
def Itp (n : Nat) (Ext : Hp → Prop) (f g : Nat → Option V) : It :=
  ⟨fun i H => i < n ∧ Ext H, fun i H v H' => ∃ T x y, v = .ref T ∧ H T = none ∧ H' = upd H T (.tup [x, y]) ∧ f i = some x ∧ g i = some y, fun i H => i = n ∧ Ext H⟩
theorem walk_p {n : Nat} {Ext : Hp → Prop} {f g : Nat → Option V} : Walk (Itp n Ext f g) n Ext (YPair f g) :=
  ⟨fun _ _ hi q => ⟨hi, q⟩, fun _ q => ⟨rfl, q⟩, fun _ _ _ _ _ _ y => y⟩
def YV (P1 P2 : Nat → Value → Prop) (i : Nat) (h₀ : Heap) (v : Value) (h : Heap) : Prop := ∃ T x y, v = .ref T ∧ h₀.objs.size ≤ T ∧ P1 i x ∧ P2 i y ∧ h.IsTuple T #[x, y]
theorem turn_pair {P : Program} {w : World} {K : PySem.W.Frag} {tg : Expr} {n : Nat} {Ext : Hp → Prop} {f g : Nat → Option V} {fp : List Addr} {it : Addr} {tn : Nat → Heap → Prop} (mem : it ∈ fp)
    (obj : ∀ i h, tn i h → ∀ b ∈ fp, ∃ o, h.get? b = some o ∧ ∀ v, o.data ≠ .cell v) (keep : ∀ i h h', tn i h → (∀ b ∈ fp, ∀ o, h.get? b = some o → h'.get? b = some o) → tn i h')
    (self : ∀ (A : Around) (i : Nat) (s : Shared) (Q : Value → Shared → Prop) (E : Value → Shared → Prop), tn i s.heap → Q (.ref it) s → wpAny (model P w) A (pyIter (.ref it)) Q E s)
    (hG : ∀ (X : Cx) (pins : List (Addr × Obj)) (s : Shared) (σ : L2.St) (H : Hp), X.prog = P → X.w = w → X.K = K → X.calm = true → Inv X pins σ H s → (∀ b ∈ fp, FpOk X pins H b) → Ext H → ∃ (fpA wr : List Addr) (P1 P2 : Nat → Value → Prop) (ex : Heap → Prop),
      ex s.heap ∧ (∀ b ∈ wr, b ∈ fp) ∧ GoesN P w X.A tg it fpA wr n (YV P1 P2) (fun i h => tn i h ∧ ex h) ∧ (∀ i u, P1 i u → ∃ x, f i = some x ∧ RelV x u) ∧ (∀ i u, P2 i u → ∃ x, g i = some x ∧ RelV x u)) :
    Turn P w K tg (Itp n Ext f g) fp it tn where
  mem := mem
  obj := obj
  keep := keep
  self := self
  item := by
    intro X hP hw hK hc i pins s σ H E I hf st hg
    obtain ⟨hi, he⟩ := hg
    obtain ⟨fpA, wr, P1, P2, ex, hex, hwr, G, k1, k2⟩ := hG X pins s σ H hP hw hK hc I hf he
    refine G.goes i s (fun u s2 => ∃ x H', L2.Inv X pins σ H' s2 ∧ RelV x u ∧ (Itp n Ext f g).yld i H x H' ∧ tn (i + 1) s2.heap ∧ ∀ b ∈ fp, H' b = none) E hi ⟨st, hex⟩ fun v h' tk ⟨T, x, y, ev, hT, p1, p2, hI⟩ st' hk _ => ?_
    obtain ⟨a, ea, ra⟩ := k1 i x p1
    obtain ⟨b, eb, rb⟩ := k2 i y p2
    have new : ObjOk X.prog X.w (upd H T (.tup [a, b])) h' T (.tup [a, b]) := ⟨by show 2 ≤ sizeLine; decide, [x, y], .cons ra (.cons rb .nil), hI⟩
    have J := I.turnedNew (t' := tk) (ch := fp) (fun c o hb e => hk c o (fun z => hb (hwr c z)) e) hf hT new
    refine ⟨.ref T, _, J, ev, ⟨T, a, b, rfl, I.hok.fresh hT, rfl, ea, eb⟩, st'.1, fun c hc => ?_⟩
    obtain ⟨o, ho, _⟩ := obj i s.heap st c hc
    rw [upd_ne (Nat.ne_of_lt (Nat.lt_of_lt_of_le (Heap.lt_size ho) hT))]
    exact (hf c hc).1
  done := by
    intro X hP hw hK hc i pins s σ H E I hf st hg
    obtain ⟨hi, he⟩ := hg
    subst hi
    obtain ⟨fpA, wr, P1, P2, ex, hex, hwr, G, k1, k2⟩ := hG X pins s σ H hP hw hK hc I hf he
    refine G.stops s (fun s1 => L2.Inv X pins σ H s1) E ⟨st, hex⟩ fun h' tk hk _ => ?_
    exact I.turnedL (ch := fp) (fun c o hb e => hk c o (fun z => hb (hwr c z)) e) hf

/-- what an iterator at it draws: n values, told by xs, while Ext holds of the heap -/
structure Drw (P : Program) (w : World) (K : PySem.W.Frag) (Ext : Hp → Prop) (it : Addr) (n : Nat) (xs : Nat → Option V) (ds : Nat → Heap → Prop) : Prop where
  obj : ∀ i h, ds i h → ∃ o, h.get? it = some o ∧ ∀ v, o.data ≠ .cell v
  keep : ∀ i h h', ds i h → (∀ o, h.get? it = some o → h'.get? it = some o) → ds i h'
  draw : ∀ (X : Cx) (pins : List (Addr × Obj)) (s : Shared) (σ : L2.St) (H : Hp), X.prog = P → X.w = w → X.K = K → X.calm = true → L2.Inv X pins σ H s → FpOk X pins H it → Ext H → ∃ (fp : List Addr) (Pt : Nat → Value → Prop) (ex : Heap → Prop),
    ex s.heap ∧ (∀ b ∈ fp, ∀ c, FpOk X pins H c → b ≠ c) ∧ (∀ A : Around, A.handled = none → Draws P w A it (it :: fp) n Pt (fun i h => ds i h ∧ ex h)) ∧ ∀ i u, Pt i u → ∃ x, xs i = some x ∧ RelV x u
section
variable {P : Program} {w : World} {K : PySem.W.Frag}
theorem fp_ne {X : Cx} {pins : List (Addr × Obj)} {s : Shared} {σ : L2.St} {H : Hp} {a c : Addr} {u : HO} (e : H a = some u) (f : FpOk X pins H c) : a ≠ c := fun z => by
  subst z
  rw [f.1] at e; cases e
theorem fp_neK {X : Cx} {pins : List (Addr × Obj)} {s : Shared} {σ : L2.St} {H : Hp} {a c : Addr} {o : Obj} (I : L2.Inv X pins σ H s) (e : X.K.lookup a = some o) (f : FpOk X pins H c) : a ≠ c := fun z => by
  subst z
  have hb := I.ok.mod.kin _ _ e
  rcases f.2.2.2.1 with q | q
  · exact I.ok.noex _ _ hb q
  · exact absurd (Nat.lt_of_lt_of_le (Heap.lt_size (I.ok.bs _ _ hb).1) q) (Nat.lt_irrefl _)
theorem sql_ne {X : Cx} {pins : List (Addr × Obj)} {s : Shared} {σ : L2.St} {H : Hp} {a c : Addr} {xs : List V} (I : L2.Inv X pins σ H s) (h : SqL X.K H a xs) (f : FpOk X pins H c) : a ≠ c := by
  rcases h with (h | ⟨o, h⟩) | ⟨o, its, n, h, _⟩
  · exact fp_ne (s := s) (σ := σ) h f
  · exact fp_ne (s := s) (σ := σ) h f
  · exact fp_neK I h f
theorem sqt_ne {X : Cx} {pins : List (Addr × Obj)} {s : Shared} {σ : L2.St} {H : Hp} {a c : Addr} {xs : List V} (I : L2.Inv X pins σ H s) (h : SqT X.K H a xs) (f : FpOk X pins H c) : a ≠ c := by
  rcases h with (h | ⟨o, h⟩) | ⟨o, its, n, h, _⟩
  · exact fp_ne (s := s) (σ := σ) h f
  · exact fp_ne (s := s) (σ := σ) h f
  · exact fp_neK I h f
theorem vals_get {vs : List V} {its : List Value} {i : Nat} {u : Value} (r : Vals vs its) (e : its.toArray[i]? = some u) : ∃ x, vs[i]? = some x ∧ RelV x u := by
  have e' : its[i]? = some u := by simpa using e
  have hi : i < vs.length := by
    rw [r.length]
    exact (List.getElem?_eq_some_iff.mp e').1
  obtain ⟨u', e2, ru⟩ := r.get (List.getElem?_eq_getElem hi)
  rw [e'] at e2; cases e2
  exact ⟨_, List.getElem?_eq_getElem hi, ru⟩
theorem drw_list {it a : Addr} {vs : List V} : Drw P w K (fun H => SqL K H a vs) it vs.length (fun i => vs[i]?) (fun i h => h.IsListIter it a i) where
  obj := fun i h ⟨o, ho, hc, hd⟩ => ⟨o, ho, fun v q => by rw [hd] at q; cases q⟩
  keep := fun i h h' st k => st.at fun o q => k o q
  draw := fun X pins s σ H hP hw hK hc I hf he => by
    subst hP hw hK
    obtain ⟨its, rv, p, hz⟩ := I.list he
    have hne := sql_ne I he hf
    refine ⟨[a], _, fun h => h.IsList a its.toArray, p.isList, fun b hb c fc => ?_, fun A hA => ?_, fun i u e => vals_get rv e⟩
    · rw [List.mem_singleton.mp hb]; exact sql_ne I he fc
    · have D := Draws.list (prog := X.prog) (w := X.w) hA it a hne its.toArray
      have e : its.toArray.size = vs.length := by rw [List.size_toArray]; exact rv.length.symm
      rw [← e]
      exact D
theorem drw_tup {it a : Addr} {vs : List V} : Drw P w K (fun H => SqT K H a vs) it vs.length (fun i => vs[i]?) (fun i h => h.IsTupleIter it a i) where
  obj := fun i h ⟨o, ho, hc, hd⟩ => ⟨o, ho, fun v q => by rw [hd] at q; cases q⟩
  keep := fun i h h' st k => st.at fun o q => k o q
  draw := fun X pins s σ H hP hw hK hc I hf he => by
    subst hP hw hK
    obtain ⟨its, rv, p, hz⟩ := I.tuple he
    have hne := sqt_ne I he hf
    refine ⟨[a], _, fun h => h.IsTuple a its.toArray, p, fun b hb c fc => ?_, fun A hA => ?_, fun i u e => vals_get rv e⟩
    · rw [List.mem_singleton.mp hb]; exact sqt_ne I he fc
    · have D := Draws.tuple (prog := X.prog) (w := X.w) hA it a hne its.toArray
      have e : its.toArray.size = vs.length := by rw [List.size_toArray]; exact rv.length.symm
      rw [← e]
      exact D
def signV (x : Str) (i : Nat) : Option V := x.cps[i]?.map fun c => V.str ⟨#[c]⟩
theorem drw_str {it : Addr} {x : Str} {t : Tok} : Drw P w K (fun _ => True) it x.cps.size (signV x) (fun i h => h.IsStrIter it (strIterType x) x t i) where
  obj := fun i h ⟨o, ho, hc, hd⟩ => ⟨o, ho, fun v q => by rw [hd] at q; cases q⟩
  keep := fun i h h' ⟨o, ho, r⟩ k => ⟨o, k o ho, r⟩
  draw := fun X pins s σ H hP hw hK hc I hf he => by
    subst hP hw hK
    refine ⟨[], (fun i v => ∃ c u, x.cps[i]? = some c ∧ v = .str ⟨#[c]⟩ u), fun _ => True, trivial, fun b hb => (nomatch hb), fun A hA => ?_, fun i u ⟨c, u', e, e2⟩ => ?_⟩
    · have D := Draws.text (prog := X.prog) (w := X.w) hA it x t
      exact ⟨fun i h st => D.live i h st.1, fun i h h' st k => ⟨D.frame i h h' st.1 k, trivial⟩, fun i s Q E hi st hQ => D.item i s Q E hi st.1 fun x h' tk p st' sb => hQ x h' tk p ⟨st', trivial⟩ sb, fun s Q E st hE => D.done s Q E st.1 hE⟩
    · exact ⟨.str ⟨#[c]⟩, by unfold signV; rw [e]; rfl, ⟨u', e2⟩⟩
def tnE (e it : Addr) (ds : Nat → Heap → Prop) (i : Nat) (h : Heap) : Prop := (∃ old, IsEnum h e it (0 + (i : Int)) old) ∧ ds i h
theorem turn_enumD {elts : List Expr} {kk : Nat} {tpos : Pos} {Ext : Hp → Prop} {e it : Addr} {n : Nat} {xs : Nat → Option V} {ds : Nat → Heap → Prop} (D : Drw P w K Ext it n xs ds) (hne : e ≠ it) :
    Turn P w K (.Tuple elts kk tpos) (Itp n Ext (fun i => some (.int i)) xs) [e, it] e (tnE e it ds) := by
  refine turn_pair (by simp) (fun i h st b hb => ?_) (fun i h h' st k => ?_) (fun A i s Q E st h => ?_) (fun X pins s σ H hP hw hK hc I hf he => ?_)
  · obtain ⟨⟨old, he⟩, hd⟩ := st
    have e' : b = e ∨ b = it := by simpa using hb
    rcases e' with z | z
    · rw [z]; exact ⟨_, he, fun v q => nomatch q⟩
    · rw [z]; exact D.obj i h hd
  · obtain ⟨⟨old, he⟩, hd⟩ := st
    exact ⟨⟨old, k e (by simp) _ he⟩, D.keep i h h' hd fun o q => k it (by simp) o q⟩
  · obtain ⟨⟨_, he⟩, _⟩ := st
    exact wpAny_pyIter_enum he h
  · subst hP hw hK
    obtain ⟨fp, Pt, ex, hex, hsep, hD, hp⟩ := D.draw X pins s σ H rfl rfl rfl hc I (hf it (by simp)) he
    have hef : e ∉ it :: fp := fun z => by
      rcases List.mem_cons.mp z with q | q
      · exact hne q
      · exact hsep e q e (hf e (by simp)) rfl
    have G := GoesN.enumFrom (elts := elts) (x1 := kk) (pos := tpos) 0 (hD X.A.in1 (I.ok.hd hc)) e hne hef (List.mem_cons_self)
    refine ⟨e :: it :: fp, [e, it], (fun i u => ∃ t, u = .int (0 + (i : Int)) t), Pt, ex, hex, fun b hb => hb, ?_, fun i u ⟨t, q⟩ => ⟨.int i, rfl, ⟨t, by rw [q]; congr 1; omega⟩⟩, hp⟩
    have G2 := G.mono (Y' := YV (fun i u => ∃ t, u = .int (0 + (i : Int)) t) Pt) fun i h₀ v h _ ⟨T, t, x, a, b, c, d⟩ => ⟨T, _, x, a, b, ⟨t, rfl⟩, c, d⟩
    exact ⟨G2.sub, fun i h h' st k => by
        have := G2.frame i h h' ⟨st.1.1, st.1.2, st.2⟩ k
        exact ⟨⟨this.1, this.2.1⟩, this.2.2⟩, fun i s Q E hi st hQ => G2.goes i s Q E hi ⟨st.1.1, st.1.2, st.2⟩ fun v h' tk y st' k l => hQ v h' tk y ⟨⟨st'.1, st'.2.1⟩, st'.2.2⟩ k l,
      fun s Q E st hQ => G2.stops s Q E ⟨st.1.1, st.1.2, st.2⟩ hQ, fun i s Q E st hQ => G2.self i s Q E ⟨st.1.1, st.1.2, st.2⟩ hQ⟩
theorem notIn_fp {N j i : Nat} {fp : List Addr} (h : (N + j : Nat) ∉ (fp : List Nat)) (hji : j ≠ i) : (N + j : Nat) ∉ ((N + i : Nat) :: fp : List Nat) := fun hm => by
  rcases List.mem_cons.mp hm with q | q
  · omega
  · exact h q
def tnZ (z TI TO i1 i2 : Addr) (ds1 ds2 : Nat → Heap → Prop) (i : Nat) (h : Heap) : Prop := IsZip h z TI TO .none ∧ IsTupOf2 h TI (.ref i1) (.ref i2) ∧ (∃ a1 a2, IsTupOf2 h TO a1 a2) ∧ ds1 i h ∧ ds2 i h
theorem turn_zipD {elts : List Expr} {kk : Nat} {tpos : Pos} {Ext1 Ext2 : Hp → Prop} {N : Nat} {n1 n2 : Nat} {xs ys : Nat → Option V} {ds1 ds2 : Nat → Heap → Prop} (D1 : Drw P w K Ext1 N n1 xs ds1) (D2 : Drw P w K Ext2 (N + 1) n2 ys ds2) :
    Turn P w K (.Tuple elts kk tpos) (Itp (min n1 n2) (fun H => Ext1 H ∧ Ext2 H) xs ys) [N + 4, N + 2, N + 3, N, N + 1] (N + 4) (tnZ (N + 4) (N + 2) (N + 3) N (N + 1) ds1 ds2) := by
  refine turn_pair (by simp) (fun i h st b hb => ?_) (fun i h h' st k => ?_) (fun A i s Q E st h => ?_) (fun X pins s σ H hP hw hK hc I hf he => ?_)
  · obtain ⟨hz, hTI, ⟨a1, a2, hTO⟩, h1, h2⟩ := st
    have e' : b = N + 4 ∨ b = N + 2 ∨ b = N + 3 ∨ b = N ∨ b = N + 1 := by simpa using hb
    rcases e' with q | q | q | q | q
    · rw [q]; exact ⟨_, hz, fun v q => nomatch q⟩
    · rw [q]; exact ⟨_, hTI, fun v q => nomatch q⟩
    · rw [q]; exact ⟨_, hTO, fun v q => nomatch q⟩
    · rw [q]; exact D1.obj i h h1
    · rw [q]; exact D2.obj i h h2
  · obtain ⟨hz, hTI, ⟨a1, a2, hTO⟩, h1, h2⟩ := st
    exact ⟨k _ (by simp) _ hz, k _ (by simp) _ hTI, ⟨a1, a2, k _ (by simp) _ hTO⟩, D1.keep i h h' h1 fun o q => k _ (by simp) o q, D2.keep i h h' h2 fun o q => k _ (by simp) o q⟩
  · exact wpAny_pyIter_zip st.1 h
  · subst hP hw hK
    obtain ⟨fp1, Pt1, ex1, hex1, hsep1, hD1, hp1⟩ := D1.draw X pins s σ H rfl rfl rfl hc I (hf _ (by simp)) he.1
    obtain ⟨fp2, Pt2, ex2, hex2, hsep2, hD2, hp2⟩ := D2.draw X pins s σ H rfl rfl rfl hc I (hf _ (by simp)) he.2
    have q1 : ∀ j : Nat, FpOk X pins H (N + j : Nat) → (N + j : Nat) ∉ (fp1 : List Nat) := fun j h z => hsep1 _ z _ h rfl
    have q2 : ∀ j : Nat, FpOk X pins H (N + j : Nat) → (N + j : Nat) ∉ (fp2 : List Nat) := fun j h z => hsep2 _ z _ h rfl
    have S : ZipSep2 (N + 4) (N + 2) (N + 3) N (N + 1) (N :: fp1) ((N + 1) :: fp2) :=
      { TIz := show (N + 2 : Nat) ≠ N + 4 by omega, TOz := show (N + 3 : Nat) ≠ N + 4 by omega, TITO := show (N + 2 : Nat) ≠ N + 3 by omega, TIi1 := show (N + 2 : Nat) ≠ N by omega, TIi2 := show (N + 2 : Nat) ≠ N + 1 by omega,
        mem1 := List.mem_cons_self, mem2 := List.mem_cons_self, zf1 := notIn_fp (j := 4) (i := 0) (q1 4 (hf _ (by simp))) (by decide), Tf1 := notIn_fp (j := 3) (i := 0) (q1 3 (hf _ (by simp))) (by decide),
        zf2 := notIn_fp (j := 4) (i := 1) (q2 4 (hf _ (by simp))) (by decide), Tf2 := notIn_fp (j := 3) (i := 1) (q2 3 (hf _ (by simp))) (by decide), sep1_2 := notIn_fp (j := 0) (i := 1) (q2 0 (hf _ (by simp))) (by decide), sep2_1 := notIn_fp (j := 1) (i := 0) (q1 1 (hf _ (by simp))) (by decide) }
    have G := GoesN.zip2 (elts := elts) (x1 := kk) (pos := tpos) S (hD1 X.A.in1 (I.ok.hd hc)) (hD2 X.A.in1 (I.ok.hd hc))
    refine ⟨(N + 4) :: (N + 2) :: (N + 3) :: ((N :: fp1) ++ ((N + 1) :: fp2)), [N + 4, N + 3, N, N + 1], Pt1, Pt2, (fun h => ex1 h ∧ ex2 h), ⟨hex1, hex2⟩, fun b hb => ?_, ?_, hp1, hp2⟩
    · have e' : b = N + 4 ∨ b = N + 3 ∨ b = N ∨ b = N + 1 := by simpa using hb
      rcases e' with q | q | q | q <;> rw [q] <;> simp
    · exact ⟨G.sub, fun i h h' st k => by
        have := G.frame i h h' ⟨st.1.1, st.1.2.1, st.1.2.2.1, ⟨st.1.2.2.2.1, st.2.1⟩, ⟨st.1.2.2.2.2, st.2.2⟩⟩ k
        exact ⟨⟨this.1, this.2.1, this.2.2.1, this.2.2.2.1.1, this.2.2.2.2.1⟩, this.2.2.2.1.2, this.2.2.2.2.2⟩,
        fun i s Q E hi st hQ => G.goes i s Q E hi ⟨st.1.1, st.1.2.1, st.1.2.2.1, ⟨st.1.2.2.2.1, st.2.1⟩, ⟨st.1.2.2.2.2, st.2.2⟩⟩ fun v h' tk y this k l => hQ v h' tk y ⟨⟨this.1, this.2.1, this.2.2.1, this.2.2.2.1.1, this.2.2.2.2.1⟩, this.2.2.2.1.2, this.2.2.2.2.2⟩ k l,
        fun s Q E st hQ => G.stops s Q E ⟨st.1.1, st.1.2.1, st.1.2.2.1, ⟨st.1.2.2.2.1, st.2.1⟩, ⟨st.1.2.2.2.2, st.2.2⟩⟩ hQ, fun i s Q E st hQ => G.self i s Q E ⟨st.1.1, st.1.2.1, st.1.2.2.1, ⟨st.1.2.2.2.1, st.2.1⟩, ⟨st.1.2.2.2.2, st.2.2⟩⟩ hQ⟩
end
end RB

set_option Elab.async false
set_option linter.all false
set_option maxRecDepth 100000
set_option maxHeartbeats 4000000
namespace RB
open PySem PySem.Spec PyProof.Rows L2

/-! ### what is walked, as data -/
theorem Pres.trans {H H1 H2 : Hp} {F F1 F2 : Addr → Prop} (a : Pres H F H1 F1) (b : Pres H1 F1 H2 F2) : Pres H F H2 F2 :=
  ⟨fun c xs h => b.tup c xs (a.tup c xs h), fun c o u h => b.frz c o u (a.frz c o u h), fun c u f h => let ⟨f1, h1⟩ := a.fro c u f h; b.fro c u f1 h1⟩
theorem Pres.refl {H : Hp} {F : Addr → Prop} : Pres H F H F := ⟨fun _ _ h => h, fun _ _ _ h => h, fun _ _ f h => ⟨f, h⟩⟩
def WalkD (K : PySem.W.Frag) (J : It) (H : Hp) (F : Addr → Prop) (ds : List D) : Prop := ∃ (G : Hp → Prop) (Y : Nat → Hp → V → Hp → Prop), Walk J ds.length G Y ∧ (∀ H1 F1, Pres H F H1 F1 → G H1) ∧
  ∀ (i : Nat) H1 F1 x H2, i < ds.length → Pres H F H1 F1 → FOk H1 F1 → Y i H1 x H2 → ∃ d, ds[i]? = some d ∧ Grow H1 F1 H2 F1 ∧ Den K H2 F1 x d
section
variable {K : PySem.W.Frag} {H : Hp} {F : Addr → Prop}
theorem walkD_at {J : It} {vs : List V} {ds : List D} {G : Hp → Prop} (w : Walk J vs.length G (YAt vs)) (hG : ∀ H1 F1, Pres H F H1 F1 → G H1) (h : DenL K H F vs ds) : WalkD K J H F ds := by
  refine ⟨G, YAt vs, by rw [← h.length]; exact w, hG, fun i H1 F1 x H2 hi p ok ⟨e, y⟩ => ?_⟩
  subst e
  obtain ⟨d, h1, h2⟩ := h.get y
  exact ⟨d, h1, .refl ok, h2.pres p⟩
theorem walkD_fn {J : It} {f : Nat → V} {ds : List D} {n : Nat} (hn : n = ds.length) (w : Walk J n (fun _ => True) (YFn f)) (h : ∀ i : Nat, i < n → ∃ d, ds[i]? = some d ∧ ∀ K H F, Den K H F (f i) d) : WalkD K J H F ds := by
  subst hn
  refine ⟨_, _, w, fun _ _ _ => trivial, fun i H1 F1 x H2 hi p ok ⟨e, y⟩ => ?_⟩
  subst e y
  obtain ⟨d, h1, h2⟩ := h i hi
  exact ⟨d, h1, .refl ok, h2 _ _ _⟩
/-- the numbers lo, lo + 1, .. -/
def rng (lo : Int) (n : Nat) : List D := (List.range n).map fun i => .int (lo + (i : Nat))
theorem rng_len (lo : Int) (n : Nat) : (rng lo n).length = n := by unfold rng; simp
theorem rng_get {lo : Int} {n i : Nat} (h : i < n) : (rng lo n)[i]? = some (.int (lo + (i : Nat))) := by
  unfold rng
  rw [List.getElem?_map, List.getElem?_range h]; rfl
/-- lo, lo + c, .. -/
def rngC (lo c : Int) (n : Nat) : List D := (List.range n).map fun i => .int (lo + (i : Nat) * c)
theorem rngC_len (lo c : Int) (n : Nat) : (rngC lo c n).length = n := by unfold rngC; simp
theorem rngC_get {lo c : Int} {n i : Nat} (h : i < n) : (rngC lo c n)[i]? = some (.int (lo + (i : Nat) * c)) := by
  unfold rngC
  rw [List.getElem?_map, List.getElem?_range h]; rfl
/-- the signs of a text -/
def signs (z : Str) : List D := z.cps.toList.map fun c => .str ⟨#[c]⟩
theorem signs_len (z : Str) : (signs z).length = z.cps.size := by unfold signs; simp
theorem signs_get {z : Str} {i c : Nat} (h : z.cps[i]? = some c) : (signs z)[i]? = some (.str ⟨#[c]⟩) := by
  unfold signs
  rw [List.getElem?_map, Array.getElem?_toList, h]; rfl
theorem walkD_str {z : Str} (hz : okS z) : WalkD K (Its z) H F (signs z) := by
  refine ⟨(fun _ => True), _, by rw [signs_len]; exact walk_str, fun _ _ _ => trivial, fun i H1 F1 x H2 hi p ok y => ?_⟩
  obtain ⟨e, c, y, ex⟩ := y
  subst e ex
  exact ⟨_, signs_get y, .refl ok, .str _ (okS_sign hz y)⟩
def seqD : D → R (List D)
  | .list xs => .ok xs
  | .tuple xs => .ok xs
  | .str z => .ok (signs z)
  | _ => .stuck
/-- what a source is at the values' level, for enumerate and zip -/
def Src (K : PySem.W.Frag) (H : Hp) (F : Addr → Prop) (v : V) (ds : List D) : Prop := ∃ (xs : Nat → Option V) (Ext : Hp → Prop), (∀ H1 F1, Pres H F H1 F1 → Ext H1) ∧
  (∀ (i : Nat) x H1 F1, Pres H F H1 F1 → xs i = some x → ∃ d, ds[i]? = some d ∧ Den K H1 F1 x d) ∧
  ∀ (X : Cx) (pins : List (Addr × Obj)) (s : Shared) (σ : L2.St) (u : Value), X.K = K → L2.Inv X pins σ H s → RelV v u → ∃ (o : Obj) (Hb : Heap → Prop), Begins u o Hb ∧ Hb s.heap ∧
    ∀ it : Addr, ∃ dsx : Nat → Heap → Prop, Drw X.prog X.w X.K Ext it ds.length xs dsx ∧ ∀ h : Heap, h.get? it = some o → dsx 0 h
theorem src_of {v : V} {d : D} {ds : List D} (h : Den K H F v d) (e : seqD d = .ok ds) : Src K H F v ds ∧ ds.length ≤ sizeLine := by
  cases h with
  | @lst a vs es h1 h2 h3 =>
    cases e
    refine ⟨⟨fun i => vs[i]?, fun H => SqL K H a vs, fun H1 F1 p => (h1.pres p).sql, fun i x H1 F1 p e => ?_, fun X pins s σ u hK I r => ?_⟩, by rw [← h2.length]; exact h3⟩
    · obtain ⟨d, e1, e2⟩ := h2.get e
      exact ⟨d, e1, e2.pres p⟩
    · subst hK
      cases r
      obtain ⟨its, rv, p, hz⟩ := I.list h1.sql
      refine ⟨_, _, begins_list a its.toArray, p.isList, fun it => ⟨fun i h => h.IsListIter it a i, by rw [← h2.length]; exact drw_list, fun h e => ⟨_, e, rfl, rfl⟩⟩⟩
  | @tup a vs es h1 h2 h3 =>
    cases e
    refine ⟨⟨fun i => vs[i]?, fun H => SqT K H a vs, fun H1 F1 p => sqt_pres p h1, fun i x H1 F1 p e => ?_, fun X pins s σ u hK I r => ?_⟩, by rw [← h2.length]; exact h3⟩
    · obtain ⟨d, e1, e2⟩ := h2.get e
      exact ⟨d, e1, e2.pres p⟩
    · subst hK
      cases r
      obtain ⟨its, rv, p, hz⟩ := I.tuple h1
      refine ⟨_, _, begins_tuple a its.toArray, p, fun it => ⟨fun i h => h.IsTupleIter it a i, by rw [← h2.length]; exact drw_tup, fun h e => ⟨_, e, rfl, rfl⟩⟩⟩
  | str z hz =>
    cases e
    refine ⟨⟨signV z, fun _ => True, fun _ _ _ => trivial, fun i x H1 F1 p e => ?_, fun X pins s σ u hK I r => ?_⟩, by rw [signs_len]; exact hz.1⟩
    · unfold signV at e
      cases q : z.cps[i]? with
      | none => rw [q] at e; cases e
      | some c =>
        rw [q] at e; cases e
        exact ⟨_, signs_get q, .str _ (okS_sign hz q)⟩
    · obtain ⟨t, rfl⟩ := r
      exact ⟨_, _, begins_text z t, trivial, fun it => ⟨fun i h => h.IsStrIter it (strIterType z) z t i, by rw [signs_len]; exact drw_str, fun h e => ⟨_, e, rfl, rfl⟩⟩⟩
  | _ => cases e
theorem walkD_pair {n : Nat} {Ext : Hp → Prop} {f g : Nat → Option V} {ds : List D} (hn : n = ds.length) (hE : ∀ H1 F1, Pres H F H1 F1 → Ext H1)
    (hd : ∀ (i : Nat) x y H1 F1, i < n → Pres H F H1 F1 → f i = some x → g i = some y → ∃ a b, ds[i]? = some (.tuple [a, b]) ∧ Den K H1 F1 x a ∧ Den K H1 F1 y b) : WalkD K (Itp n Ext f g) H F ds := by
  subst hn
  refine ⟨Ext, _, walk_p, hE, fun i H1 F1 v H2 hi p ok y => ?_⟩
  obtain ⟨T, x, z, ev, hT, eH, e1, e2⟩ := y
  subst ev eH
  obtain ⟨a, b, e3, d1, d2⟩ := hd i x z H1 F1 hi p e1 e2
  have g2 := grow_new (o := .tup [x, z]) ok hT
  exact ⟨_, e3, g2, .tup (.of upd_same) (.cons (d1.grow g2) (.cons (d2.grow g2) .nil)) (by show 2 ≤ sizeLine; decide)⟩
end
section
variable (K : PySem.W.Frag) (mg : Str → Option Value) (W : WX)
def tI (f : Env → R (List D)) : TI := fun σ H Q => ∃ ε F, RE K σ ε H F ∧ (f ε).wp (fun ds => ∀ J H' F', Grow H F H' F' → WalkD K J H' F' ds → ds.length ≤ sizeLine → Q J H') fun e => ∀ cls x H' F', Grow H F H' F' → ExnOf mg e cls x H' → W cls x σ H'
end
abbrev Ix (X : Cx) (W : WX) (tg e : Expr) (f : Env → R (List D)) : Prop := PI X tg e (tI X.K X.mg W f)
theorem PI.or {X : Cx} {tg e : Expr} {t t' : TI} (h : PI X tg e t) (h' : PI X tg e t') : PI X tg e (fun σ H Q => t σ H Q ∨ t' σ H Q) :=
  ⟨fun pins s σ H Q I q => q.elim (h.run pins s σ H Q I) (h'.run pins s σ H Q I)⟩
section
variable {X : Cx} {W : WX} {tg a b c : Expr} {fa fb fc : Env → R D} {p pos tpos : Pos} {elts : List Expr} {kk : Nat}
def seqE (f : Env → R D) : Env → R (List D) := fun ε => f ε >>= seqD
/-- a list, a tuple, a text -/
theorem ix_seq (ha : Ex X W a fa) : Ix X W tg a (seqE fa) := by
  refine PI.imp (PI.or (pi_list ha) (PI.or (pi_tup ha) (pi_str ha))) fun σ H Q ⟨ε, F, re, q⟩ => ?_
  have q := R.wp_bind q
  cases e : fa ε with
  | ok d =>
    rw [e] at q
    have q : (seqD d).wp _ _ := q
    cases d with
    | list ds =>
      refine .inl ⟨ε, F, re, ?_⟩
      rw [e]
      intro v H1 F1 g1 d1
      cases d1 with
      | @lst a vs _ h1 h2 h3 => exact ⟨a, rfl, ⟨vs, h1.sql⟩, q _ H1 F1 g1 (walkD_at walk_list (fun H2 F2 p => (h1.pres p).sql) h2) (by rw [← h2.length]; exact h3)⟩
    | tuple ds =>
      refine .inr (.inl ⟨ε, F, re, ?_⟩)
      rw [e]
      intro v H1 F1 g1 d1
      cases d1 with
      | @tup a vs _ h1 h2 h3 => exact ⟨a, rfl, ⟨vs, h1⟩, q _ H1 F1 g1 (walkD_at walk_tup (fun H2 F2 p => sqt_pres p h1) h2) (by rw [← h2.length]; exact h3)⟩
    | str z =>
      refine .inr (.inr ⟨ε, F, re, ?_⟩)
      rw [e]
      intro v H1 F1 g1 d1
      cases d1 with
      | str _ hz => exact ⟨z, rfl, q _ H1 F1 g1 (walkD_str hz) (by rw [signs_len]; exact hz.1)⟩
    | _ => exact q.elim
  | exn x => rw [e] at q; exact .inl ⟨ε, F, re, by rw [e]; exact q⟩
  | stuck => rw [e] at q; exact q.elim
def rangeD : List D → R (List D)
  | [.int j] => if -(2 ^ 62) ≤ j ∧ j.toNat ≤ 16777216 then .ok (rng 0 j.toNat) else .stuck
  | [.int i, .int j] => if -(2 ^ 61) ≤ i ∧ i ≤ 2 ^ 61 ∧ -(2 ^ 61) ≤ j ∧ (j - i).toNat ≤ 16777216 then .ok (rng i (j - i).toNat) else .stuck
  | [.int i, .int j, .int c] => if c = -1 ∧ -(2 ^ 61) ≤ i ∧ i ≤ 2 ^ 61 ∧ -(2 ^ 61) ≤ j ∧ j ≤ 2 ^ 61 ∧ (i - j).toNat ≤ 16777216 then .ok (rngC i (-1) (i - j).toNat) else .stuck
  | _ => .stuck
def rangeE (fs : List (Env → R D)) : Env → R (List D) := fun ε => evL fs ε >>= fun ds => (rangeD ds).hard
theorem le_line {n : Nat} (h : n ≤ 16777216) : n ≤ sizeLine := by rw [sizeLine_eq]; exact h
theorem hard_ok' {α : Type} {x : R α} {P : α → Prop} {E : Exn → Prop} (h : x.hard.wp P E) : ∃ a, x = .ok a ∧ P a := by
  cases x with
  | ok a => exact ⟨a, rfl, h⟩
  | exn e => exact h.elim
  | stuck => exact h.elim
theorem range_1 {d : D} {xs : List D} (e : rangeD [d] = .ok xs) : ∃ j, d = .int j ∧ -(2 ^ 62) ≤ j ∧ j.toNat ≤ 16777216 ∧ xs = rng 0 j.toNat := by
  cases d with
  | int j =>
    unfold rangeD at e
    by_cases h : -(2 ^ 62) ≤ j ∧ j.toNat ≤ 16777216
    · simp only [if_pos h] at e
      cases e
      exact ⟨j, rfl, h.1, h.2, rfl⟩
    · simp only [if_neg h] at e
      cases e
  | _ => cases e
theorem range_2 {d d' : D} {xs : List D} (e : rangeD [d, d'] = .ok xs) : ∃ i j, d = .int i ∧ d' = .int j ∧ (-(2 ^ 61) ≤ i ∧ i ≤ 2 ^ 61 ∧ -(2 ^ 61) ≤ j ∧ (j - i).toNat ≤ 16777216) ∧ xs = rng i (j - i).toNat := by
  cases d with
  | int i =>
    cases d' with
    | int j =>
      unfold rangeD at e
      by_cases h : -(2 ^ 61) ≤ i ∧ i ≤ 2 ^ 61 ∧ -(2 ^ 61) ≤ j ∧ (j - i).toNat ≤ 16777216
      · simp only [if_pos h] at e
        cases e
        exact ⟨i, j, rfl, rfl, h, rfl⟩
      · simp only [if_neg h] at e
        cases e
    | _ => cases e
  | _ => cases e
theorem range_3 {d d' d'' : D} {xs : List D} (e : rangeD [d, d', d''] = .ok xs) : ∃ i j, d = .int i ∧ d' = .int j ∧ d'' = .int (-1) ∧ (-(2 ^ 61) ≤ i ∧ i ≤ 2 ^ 61 ∧ -(2 ^ 61) ≤ j ∧ j ≤ 2 ^ 61 ∧ (i - j).toNat ≤ 16777216) ∧ xs = rngC i (-1) (i - j).toNat := by
  cases d with
  | int i =>
    cases d' with
    | int j =>
      cases d'' with
      | int c =>
        unfold rangeD at e
        by_cases h : c = -1 ∧ -(2 ^ 61) ≤ i ∧ i ≤ 2 ^ 61 ∧ -(2 ^ 61) ≤ j ∧ j ≤ 2 ^ 61 ∧ (i - j).toNat ≤ 16777216
        · simp only [if_pos h] at e
          cases e
          exact ⟨i, j, rfl, rfl, by rw [h.1], h.2, rfl⟩
        · simp only [if_neg h] at e
          cases e
      | _ => cases e
    | _ => cases e
  | _ => cases e
theorem ix_range1 (hm : X.mg "range" = none) (ha : Exs X W [a] [fa]) (hg : Gl X "range" := by rfl) (hs : starEach [a] X.env = [(false, eval a X.env)] := by rfl) : Ix X W tg (.Call (.Name "range" p) [a] [] pos) (rangeE [fa]) := by
  refine PI.imp (pi_range1 hg hm ha hs) fun σ H Q ⟨ε, F, re, q⟩ => ⟨ε, F, re, R.wp_mono (evL_len (R.wp_bind q)) (fun ds ⟨hl, k⟩ vs H1 F1 g1 d1 => ?_) (fun e k => k)⟩
  obtain ⟨xs, e, k⟩ := hard_ok' k
  match ds, hl, d1, e with
  | [d], _, d1, e =>
    obtain ⟨v, ev, d2⟩ := denL1 d1
    obtain ⟨j, e1, h1, h2, e2⟩ := range_1 e
    subst ev e1 e2
    cases d2
    refine ⟨j, rfl, h1, by omega, k _ H1 F1 g1 (walkD_fn (rng_len _ _).symm walk_range fun i hi => ⟨_, rng_get hi, fun _ _ _ => .int _⟩) ?_⟩
    rw [rng_len]; exact le_line h2
theorem ix_range2 (hm : X.mg "range" = none) (ha : Exs X W [a, b] [fa, fb]) (hg : Gl X "range" := by rfl) (hs : starEach [a, b] X.env = [(false, eval a X.env), (false, eval b X.env)] := by rfl) (hs2 : starEach [b] X.env = [(false, eval b X.env)] := by rfl) : Ix X W tg (.Call (.Name "range" p) [a, b] [] pos) (rangeE [fa, fb]) := by
  refine PI.imp (pi_range2 hg hm ha hs hs2) fun σ H Q ⟨ε, F, re, q⟩ => ⟨ε, F, re, R.wp_mono (evL_len (R.wp_bind q)) (fun ds ⟨hl, k⟩ vs H1 F1 g1 d1 => ?_) (fun e k => k)⟩
  obtain ⟨xs, e, k⟩ := hard_ok' k
  match ds, hl, d1, e with
  | [d, d'], _, d1, e =>
    obtain ⟨v, w, ev, d2, d3⟩ := denL2 d1
    obtain ⟨i, j, e1, e2, h, e3⟩ := range_2 e
    subst ev e1 e2 e3
    cases d2
    cases d3
    refine ⟨i, j, rfl, by omega, k _ H1 F1 g1 (walkD_fn (rng_len _ _).symm walk_range fun i hi => ⟨_, rng_get hi, fun _ _ _ => .int _⟩) ?_⟩
    rw [rng_len]; exact le_line h.2.2.2
theorem ix_range3 (hm : X.mg "range" = none) (ha : Exs X W [a, b, c] [fa, fb, fc]) (hg : Gl X "range" := by rfl) (hs : starEach [a, b, c] X.env = (false, eval a X.env) :: starEach [b, c] X.env := by rfl) (hpl : (backTo pos (starEach [b, c] X.env)).any (·.1) = false := by rfl) : Ix X W tg (.Call (.Name "range" p) [a, b, c] [] pos) (rangeE [fa, fb, fc]) := by
  refine PI.imp (pi_range3 hg hm ha hs hpl) fun σ H Q ⟨ε, F, re, q⟩ => ⟨ε, F, re, R.wp_mono (evL_len (R.wp_bind q)) (fun ds ⟨hl, k⟩ vs H1 F1 g1 d1 => ?_) (fun e k => k)⟩
  obtain ⟨xs, e, k⟩ := hard_ok' k
  match ds, hl, d1, e with
  | [d, d', d''], _, .cons d1 d2, e =>
    obtain ⟨v, w, ev, d3, d4⟩ := denL2 d2
    obtain ⟨i, j, e1, e2, e3, h, e4⟩ := range_3 e
    subst ev e1 e2 e3 e4
    cases d1
    cases d3
    cases d4
    refine ⟨i, j, -1, (i - j).toNat, rfl, RgC.neg (by omega) (by omega) (by omega) (by omega), k _ H1 F1 g1 (walkD_fn (rngC_len _ _ _).symm walk_rangeC fun i hi => ⟨_, rngC_get hi, fun _ _ _ => .int _⟩) ?_⟩
    rw [rngC_len]; exact le_line h.2.2.2.2
/-! ### enumerate, zip -/
def enumD (ds : List D) : List D := (List.range ds.length).map fun i => .tuple [.int (i : Nat), ds.getD i .none]
theorem enumD_len (ds : List D) : (enumD ds).length = ds.length := by unfold enumD; simp
theorem enumD_get {ds : List D} {i : Nat} {d : D} (h : ds[i]? = some d) : (enumD ds)[i]? = some (.tuple [.int (i : Nat), d]) := by
  have hi : i < ds.length := (List.getElem?_eq_some_iff.mp h).1
  unfold enumD
  rw [List.getElem?_map, List.getElem?_range hi, Option.map_some, List.getD_eq_getElem?_getD, h]; rfl
def zipD (ds es : List D) : List D := (ds.zip es).map fun q => .tuple [q.1, q.2]
theorem zipD_len (ds es : List D) : (zipD ds es).length = min ds.length es.length := by unfold zipD; simp
theorem zipD_get {ds es : List D} {i : Nat} {d e : D} (h : ds[i]? = some d) (h' : es[i]? = some e) : (zipD ds es)[i]? = some (.tuple [d, e]) := by
  have q : (ds.zip es)[i]? = some (d, e) := List.getElem?_zip_eq_some.mpr ⟨h, h'⟩
  unfold zipD
  rw [List.getElem?_map, q]; rfl
theorem meets_enum1 {v : Value} {o : Obj} {Hb : Heap → Prop} (B : Begins v o Hb) : Meets (Builtin.«enumerate.__new__» ⟨[.type "enumerate", v], []⟩) (fun _ Rr s => Hb s.heap ∧
      Rr (.ok (.ret (.ref (s.heap.push o).objs.size))) { s with heap := (s.heap.push o).push { cls := .type "enumerate", data := .fields #[.none, .bool false, .ref s.heap.objs.size, rawInt 0, .none, .none] } }) :=
  .of_wp fun prog w A Rr s h => by
    obtain ⟨hp, g, d, tk, os⟩ := s; obtain ⟨h1, h⟩ := h
    have hsub := sub_enumerate
    have q1 : ∀ {A' : Around} {E : Value → Shared → Prop} {Q : Value → Shared → Prop}, Q (.ref hp.objs.size) ⟨hp.push o, g, d, tk, os⟩ → wpAny (model prog w) A' (pyIter v) Q E ⟨hp, g, d, tk, os⟩ := fun q => B.iter prog w _ _ ⟨hp, g, d, tk, os⟩ _ h1 q
    wp_walk using q1
    refine wpAny_stack_any fun st => wpAny_pure ?_
    split
    · rename_i c _ _ _ _ _
      cases (c == Value.type "enumerate") <;> (wp_walk using q1; exact ⟨_, rfl, h⟩)
    · (wp_walk using q1; exact ⟨_, rfl, h⟩)
theorem enum1_begins {prog : Program} {w : World} {A : Around} {E : Value → Shared → Prop} {s : Shared} {v : Value} {o : Obj} {Hb : Heap → Prop} {Q : Value → Shared → Prop} (B : Begins v o Hb) (h1 : Hb s.heap)
    (h : ∀ h', IsEnum h' (s.heap.objs.size + 1) s.heap.objs.size 0 .none → h'.get? s.heap.objs.size = some o → (∀ b o, s.heap.get? b = some o → h'.get? b = some o) → Q (.ref (s.heap.objs.size + 1)) { s with heap := h' }) :
    wpAny (model prog w) A (call (.type "enumerate") [v]) Q E s := by
  refine callType_new F.called_enumerate (by decide) (F.typeCall_enumerate_1 _) (F.newCall_enumerate_1 _) (fun obj => F.args_object_init_2 obj _) F.entry_enumerate_new (meets_enum1 B) ⟨h1, ?_⟩
  have hz : (s.heap.push o).objs.size = s.heap.objs.size + 1 := Heap.size_push ..
  show _ ∧ _
  rw [hz]
  have he := Heap.get?_push_size (s.heap.push o) (o := { cls := .type "enumerate", data := .fields #[.none, .bool false, .ref s.heap.objs.size, rawInt 0, .none, .none] }) rfl
  rw [hz] at he
  exact ⟨⟨_, he, rfl⟩, h _ he (Heap.get?_push_of_some _ (Heap.get?_push_size _ B.free)) fun b o x => Heap.get?_push_of_some _ (Heap.get?_push_of_some _ x)⟩
def enumE (f : Env → R D) : Env → R (List D) := fun ε => f ε >>= seqD >>= fun ds => .ok (enumD ds)
theorem boot_enum : bootBuiltins "enumerate" = some (.type "enumerate") := by decide +kernel
theorem ix_enum (hm : X.mg "enumerate" = none) (ha : Exs X W [a] [fa]) (hg : Gl X "enumerate" := by rfl) (hs : starEach [a] X.env = [(false, eval a X.env)] := by rfl) : Ix X W (.Tuple elts kk tpos) (.Call (.Name "enumerate" p) [a] [] pos) (enumE fa) := by
  refine ⟨fun pins s σ H Q I ⟨ε, F, re, q⟩ => ?_⟩
  have h : tEs X.K X.mg W [fa] σ H fun vs H1 => ∃ v ds F1, vs = [v] ∧ FOk H1 F1 ∧ Src X.K H1 F1 v ds ∧ ds.length ≤ sizeLine ∧ ∀ J H' F', Grow H1 F1 H' F' → WalkD X.K J H' F' (enumD ds) → Q J H' := by
    refine ⟨ε, F, re, ?_⟩
    show (fa ε >>= fun d => R.ok [d]).wp _ _
    have q := R.wp_bind (R.wp_bind q)
    cases e : fa ε with
    | ok d =>
      rw [e] at q
      intro vs H1 F1 g1 dv
      obtain ⟨v, ev, d1⟩ := denL1 dv
      cases e2 : seqD d with
      | ok ds =>
        have q : (seqD d).wp _ _ := q
        rw [e2] at q
        obtain ⟨sr, hz⟩ := src_of d1 e2
        exact ⟨v, ds, F1, ev, g1.ok, sr, hz, fun J H' F' g w => q J H' F' (g1.trans g) w (by rw [enumD_len]; exact hz)⟩
      | exn x => have q : (seqD d).wp _ _ := q; rw [e2] at q; cases d <;> cases e2
      | stuck => have q : (seqD d).wp _ _ := q; rw [e2] at q; exact q.elim
    | exn x => rw [e] at q; exact q
    | stuck => rw [e] at q; exact q.elim
  refine Call_ (ld_blt I hg hm boot_enum (PyProof.Rows.callWith_type1 (thn (ha.run pos pins s σ H _ I h) fun us s1 ⟨vs, H1, I1, r1, v, ds, F1, ev, ok, ⟨xs, Ext, k1, k2, k3⟩, hz, q⟩ => ?_) hs rfl))
  subst ev
  obtain ⟨u, rfl, ru⟩ := Vals.one r1
  obtain ⟨o, Hb, B, hb, hD⟩ := k3 X pins s1 σ u rfl I1 ru
  refine enum1_begins B hb fun h' he ho hk => wpAny_pyIter_enum he ?_
  obtain ⟨dsx, Dw, d0⟩ := hD s1.heap.objs.size
  have I2 : L2.Inv X pins σ H1 { s1 with heap := h' } := I1.kept (t' := s1.toks) hk
  refine ⟨s1.heap.objs.size + 1, [s1.heap.objs.size + 1, s1.heap.objs.size], _, _, H1, rfl, I2, turn_enumD Dw (Nat.succ_ne_self _), ⟨⟨.none, he⟩, d0 _ ho⟩, fun b hb => ?_, q _ H1 F1 (.refl ok) (walkD_pair (enumD_len ds).symm k1 fun i x y H2 F2 hi p ex ey => ?_)⟩
  · have e' : b = s1.heap.objs.size + 1 ∨ b = s1.heap.objs.size := by simpa using hb
    have hle : s1.heap.objs.size ≤ b := by
      rcases e' with z | z
      · rw [z]; exact Nat.le_add_right _ _
      · rw [z]; exact Nat.le_refl _
    exact I1.fpOk hle (I1.hok.fresh hle)
  · obtain ⟨d, e1, e2⟩ := k2 i y H2 F2 p ey
    cases ex
    exact ⟨_, d, enumD_get e1, .int _, e2⟩
def zipE (f g : Env → R D) : Env → R (List D) := fun ε => f ε >>= fun x => g ε >>= fun y => (seqD x).hard >>= fun ds => (seqD y).hard >>= fun es => .ok (zipD ds es)
theorem ix_zip (hm : X.mg "zip" = none) (ha : Exs X W [a, b] [fa, fb]) (hg : Gl X "zip" := by rfl) (hs : starEach [a, b] X.env = (false, eval a X.env) :: starEach [b] X.env := by rfl) (hpl : (backTo pos (starEach [b] X.env)).any (·.1) = false := by rfl) :
    Ix X W (.Tuple elts kk tpos) (.Call (.Name "zip" p) [a, b] [] pos) (zipE fa fb) := by
  refine ⟨fun pins s σ H Q I ⟨ε, F, re, q⟩ => ?_⟩
  have h : tEs X.K X.mg W [fa, fb] σ H fun vs H1 => ∃ v w ds es F1, vs = [v, w] ∧ FOk H1 F1 ∧ Src X.K H1 F1 v ds ∧ Src X.K H1 F1 w es ∧ ds.length ≤ sizeLine ∧ ∀ J H' F', Grow H1 F1 H' F' → WalkD X.K J H' F' (zipD ds es) → Q J H' := by
    refine ⟨ε, F, re, ?_⟩
    show (fa ε >>= fun d => evL [fb] ε >>= fun ds => R.ok (d :: ds)).wp _ _
    have q := R.wp_bind q
    cases e : fa ε with
    | ok d =>
      rw [e] at q
      have q : (fb ε >>= _).wp _ _ := q
      show (evL [fb] ε >>= fun ds => R.ok (d :: ds)).wp _ _
      have q := R.wp_bind q
      cases e' : fb ε with
      | ok d' =>
        have e2 : evL [fb] ε = .ok [d'] := by
          show (fb ε >>= _) = _
          rw [e']; rfl
        rw [e2]
        rw [e'] at q
        have q : ((seqD d).hard >>= _).wp _ _ := q
        obtain ⟨ds, e1, q⟩ := wp_hard q
        obtain ⟨es, e2, q⟩ := wp_hard q
        intro vs H1 F1 g1 dv
        obtain ⟨v, w, ev, d1, d2⟩ := denL2 dv
        obtain ⟨s1, z1⟩ := src_of d1 e1
        obtain ⟨s2, z2⟩ := src_of d2 e2
        exact ⟨v, w, ds, es, F1, ev, g1.ok, s1, s2, z1, fun J H' F' g wk => q J H' F' (g1.trans g) wk (by rw [zipD_len]; exact Nat.le_trans (Nat.min_le_left _ _) z1)⟩
      | exn x =>
        have e2 : evL [fb] ε = .exn x := by
          show (fb ε >>= _) = _
          rw [e']; rfl
        rw [e2]; rw [e'] at q; exact q
      | stuck => rw [e'] at q; exact q.elim
    | exn x => rw [e] at q; exact q
    | stuck => rw [e] at q; exact q.elim
  refine Call_ (ld_blt I hg hm PyProof.Rows.boot_zip (PyProof.Rows.callWith_type1 (thn (ha.run pos pins s σ H _ I h) fun us s1 ⟨vs, H1, I1, r1, v, w, ds, es, F1, ev, ok, ⟨xs, Ext, k1, k2, k3⟩, ⟨ys, Ext', l1, l2, l3⟩, hz, q⟩ => ?_) hs hpl))
  subst ev
  obtain ⟨u, u', rfl, ru, ru'⟩ := Vals.two r1
  obtain ⟨o, Hb, B, hb, hD⟩ := k3 X pins s1 σ u rfl I1 ru
  obtain ⟨o', Hb', B', hb', hD'⟩ := l3 X pins s1 σ u' rfl I1 ru'
  refine zip_begins2 B B' hb hb' fun h' z1 z2 z3 ho ho' hsz hk => wpAny_pyIter_zip z1 ?_
  obtain ⟨dsx, Dw, d0⟩ := hD s1.heap.objs.size
  obtain ⟨dsy, Dw', d0'⟩ := hD' (s1.heap.objs.size + 1)
  have I2 : L2.Inv X pins σ H1 { s1 with heap := h' } := I1.kept (t' := s1.toks) hk
  have T := turn_zipD (elts := elts) (kk := kk) (tpos := tpos) (N := s1.heap.objs.size) Dw Dw'
  refine ⟨s1.heap.objs.size + 4, [s1.heap.objs.size + 4, s1.heap.objs.size + 2, s1.heap.objs.size + 3, s1.heap.objs.size, s1.heap.objs.size + 1], _, _, H1, rfl, I2, T, ⟨z1, z2, ⟨_, _, z3⟩, d0 _ ho, d0' _ ho'⟩, fun b hb => ?_,
    q _ H1 F1 (.refl ok) (walkD_pair (zipD_len ds es).symm (fun H2 F2 p => ⟨k1 H2 F2 p, l1 H2 F2 p⟩) fun i x y H2 F2 hi p ex ey => ?_)⟩
  · have e' : b = s1.heap.objs.size + 4 ∨ b = s1.heap.objs.size + 2 ∨ b = s1.heap.objs.size + 3 ∨ b = s1.heap.objs.size ∨ b = s1.heap.objs.size + 1 := by simpa using hb
    have hle : s1.heap.objs.size ≤ b := by
      rcases e' with z | z | z | z | z
      · rw [z]; exact Nat.le_add_right _ _
      · rw [z]; exact Nat.le_add_right _ _
      · rw [z]; exact Nat.le_add_right _ _
      · rw [z]; exact Nat.le_refl _
      · rw [z]; exact Nat.le_add_right _ _
    exact I1.fpOk hle (I1.hok.fresh hle)
  · obtain ⟨d, e1, e2⟩ := k2 i x H2 F2 p ex
    obtain ⟨d', e3, e4⟩ := l2 i y H2 F2 p ey
    exact ⟨d, d', zipD_get e1 e3, e2, e4⟩
end
end RB

set_option Elab.async false
set_option linter.all false
set_option maxRecDepth 100000
set_option maxHeartbeats 4000000
namespace RB
open PySem PySem.Spec PyProof.Rows L2

/-! ### targets -/
inductive Tg where
  | nm (i : Nat)
  | tup (ts : List Tg)
mutual
def tgR (K : PySem.W.Frag) : Tg → TG
  | .nm i => gName i
  | .tup ts => gTup K (tgLen ts) (tgsR K ts)
def tgsR (K : PySem.W.Frag) : List Tg → TGs
  | [] => gNil
  | t :: ts => gCons (tgR K t) (tgsR K ts)
def tgLen : List Tg → Nat
  | [] => 0
  | _ :: ts => tgLen ts + 1
end
mutual
/-- which name gets which part -/
def flatT : Tg → D → R (List (Nat × D))
  | .nm i, d => .ok [(i, d)]
  | .tup ts, .tuple ds => flatTs ts ds
  | .tup _, _ => .stuck
def flatTs : List Tg → List D → R (List (Nat × D))
  | [], [] => .ok []
  | t :: ts, d :: ds => flatT t d >>= fun a => flatTs ts ds >>= fun b => .ok (a ++ b)
  | _, _ => .stuck
end
mutual
def slotsT : Tg → List Nat
  | .nm i => [i]
  | .tup ts => slotsTs ts
def slotsTs : List Tg → List Nat
  | [] => []
  | t :: ts => slotsT t ++ slotsTs ts
end
def setV (σ : L2.St) : List (Nat × V) → L2.St
  | [] => σ
  | p :: ps => setV (σ.set p.1 (some p.2)) ps
def setE (ε : Env) : List (Nat × D) → Env
  | [] => ε
  | p :: ps => setE (ε.set p.1 (some p.2)) ps
theorem setV_append (σ : L2.St) : ∀ (a b : List (Nat × V)), setV σ (a ++ b) = setV (setV σ a) b
  | [], _ => rfl
  | p :: ps, b => setV_append (σ.set p.1 (some p.2)) ps b
/-- the parts at their values -/
inductive PairD (K : PySem.W.Frag) (H : Hp) (F : Addr → Prop) : List (Nat × V) → List (Nat × D) → Prop
  | nil : PairD K H F [] []
  | cons {i : Nat} {v : V} {d : D} {vs : List (Nat × V)} {ds : List (Nat × D)} : Den K H F v d → PairD K H F vs ds → PairD K H F ((i, v) :: vs) ((i, d) :: ds)
theorem PairD.append {K : PySem.W.Frag} {H : Hp} {F : Addr → Prop} : ∀ {a b : List (Nat × V)} {c d : List (Nat × D)}, PairD K H F a c → PairD K H F b d → PairD K H F (a ++ b) (c ++ d)
  | _, _, _, _, .nil, h => h
  | _, _, _, _, .cons h hs, h' => .cons h (hs.append h')
theorem tgLen_eq : ∀ {ts : List Tg} {ds : List D} {as : List (Nat × D)}, flatTs ts ds = .ok as → ds.length = tgLen ts
  | [], [], _, _ => rfl
  | [], _ :: _, _, e => by unfold flatTs at e; cases e
  | _ :: _, [], _, e => by unfold flatTs at e; cases e
  | t :: ts, d :: ds, as, e => by
    unfold flatTs at e
    cases h1 : flatT t d with
    | ok a =>
      rw [h1] at e
      cases h2 : flatTs ts ds with
      | ok b =>
        have := tgLen_eq h2
        unfold tgLen
        rw [List.length_cons, this]
      | exn _ => rw [h2] at e; cases e
      | stuck => rw [h2] at e; cases e
    | exn _ => rw [h1] at e; cases e
    | stuck => rw [h1] at e; cases e
mutual
theorem tg_run {K : PySem.W.Frag} {H : Hp} {F : Addr → Prop} : ∀ (t : Tg) (v : V) (d : D) (as : List (Nat × D)) (σ : L2.St) (Q : L2.St → Hp → Prop), Den K H F v d → flatT t d = .ok as → (∀ vs, PairD K H F vs as → Q (setV σ vs) H) → tgR K t v σ H Q
  | .nm i, v, d, as, σ, Q, h, e, k => by
    unfold flatT at e
    cases e
    exact k [(i, v)] (.cons h .nil)
  | .tup ts, v, d, as, σ, Q, h, e, k => by
    cases h with
    | @tup a vs ds h1 h2 h3 =>
      unfold flatT at e
      unfold tgR
      have hl := tgLen_eq e
      exact ⟨a, vs, rfl, h1, by rw [h2.length]; exact hl, tgs_run ts vs ds as σ Q h2 e k⟩
    | _ => unfold flatT at e; cases e
theorem tgs_run {K : PySem.W.Frag} {H : Hp} {F : Addr → Prop} : ∀ (ts : List Tg) (vs : List V) (ds : List D) (as : List (Nat × D)) (σ : L2.St) (Q : L2.St → Hp → Prop), DenL K H F vs ds → flatTs ts ds = .ok as → (∀ vs, PairD K H F vs as → Q (setV σ vs) H) → tgsR K ts vs σ H Q
  | [], vs, ds, as, σ, Q, h, e, k => by
    cases h with
    | nil => unfold flatTs at e; cases e; unfold tgsR; exact ⟨rfl, k [] .nil⟩
    | cons _ _ => unfold flatTs at e; cases e
  | t :: ts, vs, ds, as, σ, Q, h, e, k => by
    cases h with
    | nil => unfold flatTs at e; cases e
    | @cons v vs d ds h hs =>
      unfold flatTs at e
      cases h1 : flatT t d with
      | ok a =>
        rw [h1] at e
        cases h2 : flatTs ts ds with
        | ok b =>
          rw [h2] at e
          cases e
          unfold tgsR
          refine ⟨v, vs, rfl, tg_run t v d a σ _ h h1 fun ws p => tgs_run ts vs ds b (setV σ ws) Q hs h2 fun us p' => ?_⟩
          rw [← setV_append]
          exact k _ (p.append p')
        | exn _ => rw [h2] at e; cases e
        | stuck => rw [h2] at e; cases e
      | exn _ => rw [h1] at e; cases e
      | stuck => rw [h1] at e; cases e
end
section
variable {K : PySem.W.Frag} {H : Hp} {F : Addr → Prop}
theorem RE.set {σ : L2.St} {ε : Env} (r : RE K σ ε H F) {i : Nat} {v : V} {d : D} (h : Den K H F v d) : RE K (σ.set i (some v)) (ε.set i (some d)) H F := ⟨fun j d' e => by
  by_cases hj : i = j
  · subst hj
    by_cases hi : i < ε.length
    · rw [List.getElem?_set_self hi] at e
      cases e
      have := r.len
      exact ⟨v, List.getElem?_set_self (by omega), h⟩
    · rw [List.getElem?_eq_none (by rw [List.length_set]; omega)] at e; cases e
  · rw [List.getElem?_set_ne hj] at e
    obtain ⟨w, h1, h2⟩ := r.at_ j d' e
    exact ⟨w, by rw [List.getElem?_set_ne hj]; exact h1, h2⟩, r.ok, by rw [List.length_set, List.length_set]; exact r.len⟩
theorem RE.setAll {vs : List (Nat × V)} {as : List (Nat × D)} (p : PairD K H F vs as) : ∀ {σ : L2.St} {ε : Env}, RE K σ ε H F → RE K (setV σ vs) (setE ε as) H F := by
  induction p with
  | nil => intro σ ε r; exact r
  | cons h hs ih =>
    intro σ ε r
    exact ih (r.set h)
theorem wipe_set {x : Option V} {i : Nat} : ∀ {vs : List Nat} {σ : L2.St}, i ∈ vs → wipe (σ.set i x) vs = wipe σ vs
  | [], _, h => nomatch h
  | w :: ws, σ, h => by
    unfold wipe
    by_cases e : i ∈ ws
    · rw [wipe_set e]
    · have hw : i = w := by
        rcases List.mem_cons.mp h with q | q
        · exact q
        · exact absurd q e
      subst hw
      have : ∀ (l : List Nat) (σ : L2.St), i ∉ l → wipe (σ.set i x) l = (wipe σ l).set i x := by
        intro l
        induction l with
        | nil => intro σ _; rfl
        | cons a l ih =>
          intro σ hn
          unfold wipe
          have h1 : i ≠ a := fun z => hn (by rw [z]; exact List.mem_cons_self)
          rw [ih σ (fun z => hn (List.mem_cons_of_mem _ z)), List.set_comm _ _ h1]
      rw [this ws σ e, List.set_set]
theorem wipe_setV {vs : List Nat} : ∀ {ws : List (Nat × V)} {σ : L2.St}, (∀ p ∈ ws, p.1 ∈ vs) → wipe (setV σ ws) vs = wipe σ vs
  | [], _, _ => rfl
  | p :: ws, σ, h => by
    show wipe (setV (σ.set p.1 (some p.2)) ws) vs = _
    rw [wipe_setV (fun q hq => h q (List.mem_cons_of_mem _ hq)), wipe_set (h p List.mem_cons_self)]
theorem setV_len : ∀ {ws : List (Nat × V)} {σ : L2.St}, (setV σ ws).length = σ.length
  | [], _ => rfl
  | p :: ws, σ => by
    show (setV (σ.set p.1 (some p.2)) ws).length = _
    rw [setV_len, List.length_set]
theorem setE_len : ∀ {ws : List (Nat × D)} {σ : Env}, (setE σ ws).length = σ.length
  | [], _ => rfl
  | p :: ws, σ => by
    show (setE (σ.set p.1 (some p.2)) ws).length = _
    rw [setE_len, List.length_set]
/-- the block's own names are unset -/
def wipeE (ε : Env) : List Nat → Env
  | [] => ε
  | v :: vs => (wipeE ε vs).set v none
theorem wipeE_len (ε : Env) : ∀ vs : List Nat, (wipeE ε vs).length = ε.length
  | [] => rfl
  | v :: vs => by unfold wipeE; rw [List.length_set, wipeE_len ε vs]
theorem wipeE_some {ε : Env} {i : Nat} {d : D} : ∀ {vs : List Nat}, (wipeE ε vs)[i]? = some (some d) → ε[i]? = some (some d) ∧ i ∉ vs
  | [], h => ⟨h, by simp⟩
  | v :: vs, h => by
    unfold wipeE at h
    by_cases hi : v = i
    · subst hi
      by_cases hv : v < (wipeE ε vs).length
      · rw [List.getElem?_set_self hv] at h; cases h
      · rw [List.getElem?_eq_none (by simpa using hv)] at h; cases h
    · rw [List.getElem?_set_ne hi] at h
      obtain ⟨h1, h2⟩ := wipeE_some h
      exact ⟨h1, by simp only [List.mem_cons, not_or]; exact ⟨fun e => hi e.symm, h2⟩⟩
theorem RE.wipe {σ : L2.St} {ε : Env} (r : RE K σ ε H F) (vs : List Nat) : RE K (L2.wipe σ vs) (wipeE ε vs) H F := ⟨fun i d e => by
  obtain ⟨e1, hn⟩ := wipeE_some e
  obtain ⟨v, h1, h2⟩ := r.at_ i d e1
  exact ⟨v, by rw [wipe_out hn]; exact h1, h2⟩, r.ok, by rw [wipe_length, wipeE_len]; exact r.len⟩
mutual
theorem flat_slots : ∀ (t : Tg) (d : D) (as : List (Nat × D)), flatT t d = .ok as → ∀ p ∈ as, p.1 ∈ slotsT t
  | .nm i, d, as, e, p, hp => by
    unfold flatT at e
    cases e
    rw [List.mem_singleton.mp hp]
    unfold slotsT
    exact List.mem_cons_self
  | .tup ts, d, as, e, p, hp => by
    cases d with
    | tuple ds => unfold flatT at e; unfold slotsT; exact flats_slots ts ds as e p hp
    | _ => unfold flatT at e; cases e
theorem flats_slots : ∀ (ts : List Tg) (ds : List D) (as : List (Nat × D)), flatTs ts ds = .ok as → ∀ p ∈ as, p.1 ∈ slotsTs ts
  | [], [], as, e, p, hp => by unfold flatTs at e; cases e; cases hp
  | [], _ :: _, as, e, p, hp => by unfold flatTs at e; cases e
  | _ :: _, [], as, e, p, hp => by unfold flatTs at e; cases e
  | t :: ts, d :: ds, as, e, p, hp => by
    unfold flatTs at e
    cases h1 : flatT t d with
    | ok a =>
      rw [h1] at e
      cases h2 : flatTs ts ds with
      | ok b =>
        rw [h2] at e
        cases e
        unfold slotsTs
        rcases List.mem_append.mp hp with q | q
        · exact List.mem_append_left _ (flat_slots t d a h1 p q)
        · exact List.mem_append_right _ (flats_slots ts ds b h2 p q)
      | exn _ => rw [h2] at e; cases e
      | stuck => rw [h2] at e; cases e
    | exn _ => rw [h1] at e; cases e
    | stuck => rw [h1] at e; cases e
end
theorem PairD.slots {vs : List (Nat × V)} {as : List (Nat × D)} (p : PairD K H F vs as) : ∀ q ∈ vs, ∃ r ∈ as, r.1 = q.1 := by
  induction p with
  | nil => intro q hq; cases hq
  | cons h hs ih =>
    intro q hq
    rcases List.mem_cons.mp hq with z | z
    · exact ⟨_, List.mem_cons_self, by rw [z]⟩
    · obtain ⟨r, h1, h2⟩ := ih q z
      exact ⟨r, List.mem_cons_of_mem _ h1, h2⟩
end
abbrev Gx (X : Cx) (e : Expr) (t : Tg) : Prop := PG X e (tgR X.K t)
abbrev Txs (X : Cx) (W : WX) (es : List Expr) (f : Env → R Bool) : Prop := PTs X es (tB_ X.K X.mg W f)
abbrev W0 : WX := fun _ _ _ _ => False
section
variable {X : Cx} {W : WX}
theorem gx_nm (i : Nat) {x : Str} {pos : Pos} (hN : X.N.Nodup) (hi : X.N[i]? = some x := by rfl) (hx : Loc X.env.scope x := by first | exact Or.inl rfl | exact Or.inr rfl) (hf : X.fn x = true ∨ X.env.scope.names.lookup x = some .local := by first | exact .inl rfl | exact .inr rfl) : Gx X (.Name x pos) (.nm i) :=
  pg_name hN hi hx hf
abbrev Gxs (X : Cx) (es : List Expr) (ts : List Tg) : Prop := PGs X es (tgsR X.K ts)
theorem gxs_nil : Gxs X [] [] := pgs_nil
theorem gxs_cons {e : Expr} {es : List Expr} {t : Tg} {ts : List Tg} (h1 : Gx X e t) (h2 : Gxs X es ts) (hs : (assignEach (e :: es) X.env).map (·.2) = assign e X.env :: (assignEach es X.env).map (·.2) := by rfl) : Gxs X (e :: es) (t :: ts) := pgs_cons h1 h2 hs
theorem gx_tup {es : List Expr} {k : Nat} {ts : List Tg} {pos : Pos} (h : Gxs X es ts) (hc : X.calm = true := by rfl) (hn : (assignEach es X.env).length = tgLen ts := by rfl) (hst : (assignEach es X.env).findIdx? (·.1) = none := by rfl) : Gx X (.Tuple es k pos) (.tup ts) := by
  unfold Gx tgR
  exact pg_tup hc h hn hst
theorem txs_nil : Txs X W [] (fun _ => .ok true) := PTs.imp pts_nil fun σ H Q ⟨ε, F, re, q⟩ => q H F (.refl re.ok)
theorem txs_one {c : Expr} {f : Env → R Bool} (h : Tx X W c f) : Txs X W [c] f := pts_one h
/-! ### comprehensions -/
def compL (t : Tg) (ifs : Env → R Bool) (elt : Env → R D) (ε : Env) : List D → R (List D)
  | [] => .ok []
  | d :: ds => (flatT t d).hard >>= fun as => (ifs (setE ε as)).hard >>= fun b =>
    if b = true then (elt (setE ε as)).hard >>= fun y => compL t ifs elt ε ds >>= fun ys => .ok (y :: ys) else compL t ifs elt ε ds
/-- [elt for t in it if ifs]; vs: the block's own names -/
def compE (vs : List Nat) (it : Env → R (List D)) (t : Tg) (ifs : Env → R Bool) (elt : Env → R D) : Env → R (List D) := fun ε => it ε >>= fun ds => compL t ifs elt (wipeE ε vs) ds
theorem compL_noexn {t : Tg} {ifs : Env → R Bool} {elt : Env → R D} {ε : Env} : ∀ {ds : List D} {e : Exn}, compL t ifs elt ε ds ≠ .exn e
  | [], e, h => by unfold compL at h; cases h
  | d :: ds, e, h => by
    unfold compL at h
    cases h1 : flatT t d with
    | ok as =>
      rw [h1] at h
      have h : ((ifs (setE ε as)).hard >>= _) = R.exn e := h
      cases h2 : ifs (setE ε as) with
      | ok b =>
        rw [h2] at h
        cases b with
        | true =>
          have h : ((elt (setE ε as)).hard >>= _) = R.exn e := h
          cases h3 : elt (setE ε as) with
          | ok y =>
            rw [h3] at h
            have h : (compL t ifs elt ε ds >>= _) = R.exn e := h
            cases h4 : compL t ifs elt ε ds with
            | ok ys => rw [h4] at h; cases h
            | exn x => exact compL_noexn h4
            | stuck => rw [h4] at h; cases h
          | exn x => rw [h3] at h; cases h
          | stuck => rw [h3] at h; cases h
        | false => exact compL_noexn (ds := ds) h
      | exn x => rw [h2] at h; cases h
      | stuck => rw [h2] at h; cases h
    | exn x => rw [h1] at h; cases h
    | stuck => rw [h1] at h; cases h
theorem tE_of {K : PySem.W.Frag} {mg : Str → Option Value} {W : WX} {f : Env → R D} {σ : L2.St} {H : Hp} {F : Addr → Prop} {ε : Env} {d : D} {Q : VK} (re : RE K σ ε H F) (e : f ε = .ok d) (q : Fin1 K H F Q d) : tE K mg W f σ H Q :=
  ⟨ε, F, re, by rw [e]; exact q⟩
theorem compL_ok {t : Tg} {ifs : Env → R Bool} {elt : Env → R D} {ε : Env} {ds : List D} {P : List D → Prop} {E : Exn → Prop} (h : (compL t ifs elt ε ds).wp P E) : ∃ tot, compL t ifs elt ε ds = .ok tot ∧ P tot := by
  cases e : compL t ifs elt ε ds with
  | ok a => rw [e] at h; exact ⟨a, rfl, h⟩
  | exn x => exact absurd e compL_noexn
  | stuck => rw [e] at h; exact h.elim
theorem hard_bind {α β : Type} {x : R α} {f : α → R β} {b : β} (h : (x.hard >>= f) = .ok b) : ∃ a, x = .ok a ∧ f a = .ok b := by
  cases x with
  | ok a => exact ⟨a, rfl, h⟩
  | exn e => cases h
  | stuck => cases h
theorem ok_bind' {α β : Type} {x : R α} {f : α → R β} {b : β} (h : (x >>= f) = .ok b) : ∃ a, x = .ok a ∧ f a = .ok b := by
  cases x with
  | ok a => exact ⟨a, rfl, h⟩
  | exn e => cases h
  | stuck => cases h
theorem wipe_wipe (σ : L2.St) (vs : List Nat) : wipe (wipe σ vs) vs = wipe σ vs := by
  have : ∀ l : List Nat, (∀ i ∈ l, i ∈ vs) → wipe (wipe σ l) vs = wipe σ vs := by
    intro l
    induction l with
    | nil => intro _; rfl
    | cons a l ih =>
      intro h
      show wipe ((wipe σ l).set a none) vs = _
      rw [wipe_set (h a List.mem_cons_self), ih fun i hi => h i (List.mem_cons_of_mem _ hi)]
  exact this vs fun _ h => h
theorem Grow.notF {H H' : Hp} {F F' : Addr → Prop} {a : Addr} {u : HO} (g : Grow H F H' F') (h : H a = some u) (nf : ¬ F a) : ¬ F' a := fun f => by
  rcases g.new a f with q | q
  · exact nf q
  · rw [h] at q; cases q
theorem pres_upd {H : Hp} {F : Addr → Prop} {p : Addr} {vs : List V} {o : HO} (h : H p = some (.lst vs)) (nf : ¬ F p) : Pres H F (upd H p o) F :=
  ⟨fun a xs e => by rw [upd_ne (fun z => by rw [z, h] at e; cases e)]; exact e, fun a o' u e => by rw [upd_ne (fun z => by rw [z, h] at e; cases e)]; exact e,
    fun a u f e => ⟨f, by rw [upd_ne (fun (z : a = p) => nf (z ▸ f))]; exact e⟩⟩
theorem grow_upd {H1 H : Hp} {F1 F : Addr → Prop} {p : Addr} {o : HO} (g : Grow H1 F1 H F) (hp : H1 p = none) : Grow H1 F1 (upd H p o) F :=
  ⟨fun a u e => by rw [upd_ne (ne_of_none e hp)]; exact g.same a u e, g.fro, g.new, fun a f => by
    by_cases z : a = p
    · subst z; exact ⟨o, upd_same⟩
    · obtain ⟨u, e⟩ := g.ok a f
      exact ⟨u, by rw [upd_ne z]; exact e⟩⟩
/-- one turn of a comprehension's block: the target, the tests, the element -/
theorem comp_turn {K : PySem.W.Frag} {mg : Str → Option Value} {σ : L2.St} {H : Hp} {F : Addr → Prop} {ε : Env} {t : Tg} {fi : Env → R Bool} {fe : Env → R D} {vs : List Nat} {x : V} {d : D} {ds : List D} {rest : List D} {P : V → Hp → Prop} {P' : Hp → Prop}
    (re : RE K (wipe σ vs) ε H F) (dx : Den K H F x d) (hsl : ∀ i ∈ slotsT t, i ∈ vs) (e : compL t fi fe ε (d :: ds) = .ok rest)
    (h1 : ∀ y ys, rest = y :: ys → compL t fi fe ε ds = .ok ys → ∀ v H' F', Grow H F H' F' → Den K H' F' v y → P v H') (h2 : compL t fi fe ε ds = .ok rest → ∀ H' F', Grow H F H' F' → P' H') :
    tgR K t x (wipe σ vs) H fun σ2 H2 => wipe σ2 vs = wipe σ vs ∧ tB_ K mg W0 fi σ2 H2 fun b H3 => if b = true then tE K mg W0 fe σ2 H3 P else P' H3 := by
  unfold compL at e
  obtain ⟨as, e1, e⟩ := hard_bind e
  obtain ⟨b, e2, e⟩ := hard_bind e
  refine tg_run t x d as _ _ dx e1 fun ws p => ⟨?_, setE ε as, F, re.setAll p, ?_⟩
  · rw [wipe_setV, wipe_wipe]
    intro q hq
    obtain ⟨r, hr, e⟩ := p.slots q hq
    rw [← e]
    exact hsl _ (flat_slots t d as e1 r hr)
  · rw [e2]
    intro H3 F3 g3
    cases b with
    | true =>
      rw [if_pos rfl] at e ⊢
      obtain ⟨y, e3, e⟩ := hard_bind e
      obtain ⟨ys, e4, e⟩ := ok_bind' e
      cases e
      exact tE_of ((re.setAll p).grow g3) e3 fun v H4 F4 g4 d4 => h1 y ys rfl e4 v H4 F4 (g3.trans g4) d4
    | false =>
      rw [if_neg (by decide)] at e ⊢
      exact h2 e H3 F3 g3
theorem drop_get {α : Type} {ds : List α} {i : Nat} {d : α} (h : ds[i]? = some d) : ds.drop i = d :: ds.drop (i + 1) := by
  obtain ⟨h1, h2⟩ := List.getElem?_eq_some_iff.mp h
  rw [List.drop_eq_getElem_cons h1, h2]
theorem lc_read {K : PySem.W.Frag} {mg : Str → Option Value} {it : Env → R (List D)} {t : Tg} {fi : Env → R Bool} {fe : Env → R D} {vs : List Nat} {σ : L2.St} {H : Hp} {F : Addr → Prop} {ε : Env} {Q : VK} {E : Exn → Prop} (re : RE K σ ε H F) (hsl : ∀ i ∈ slotsT t, i ∈ vs)
    (q : (compE vs it t fi fe ε).wp (FinL K H F Q) E) :
    (it ε).wp (fun ds => ∀ J H1 F1, Grow H F H1 F1 → WalkD K J H1 F1 ds → ds.length ≤ sizeLine → ∀ Dd, H1 Dd = none → ∃ W : Nat → Nat → Hp → Prop, (∃ m, W 0 m (upd H1 Dd (.lst []))) ∧ ∀ i m H, W i m H →
      (J.stop i H ∧ Q (.ref Dd) H) ∨ (J.go i H ∧ ∃ Nx : Hp → Prop, (∀ H', Nx H' → ∃ m', m' < m ∧ W (i + 1) m' H') ∧ ∀ x H', J.yld i H x H' → tgR K t x (wipe σ vs) H' fun σ2 H2 => wipe σ2 vs = wipe σ vs ∧ tB_ K mg W0 fi σ2 H2 fun b H3 =>
        if b = true then tE K mg W0 fe σ2 H3 fun y H4 => ∃ acc, H4 Dd = some (.lst acc) ∧ acc.length < sizeLine ∧ Nx (upd H4 Dd (.lst (acc ++ [y]))) else Nx H3)) E := by
  refine R.wp_mono (R.wp_bind q) (fun ds k J H1 F1 g1 ⟨G, Y, wk, wG, wY⟩ hz Dd hD => ?_) (fun e k => k)
  obtain ⟨tot, etot, k⟩ := compL_ok k
  have reb := (re.grow g1).wipe vs
  have nD : ¬ F1 Dd := fun f => by
    obtain ⟨u, e⟩ := g1.ok Dd f
    rw [hD] at e; cases e
  refine lc_it wk (fun i H2 => ∃ F2 ws done rest, Grow H1 F1 H2 F2 ∧ H2 Dd = some (.lst ws) ∧ ¬ F2 Dd ∧ DenL K H2 F2 ws done ∧ compL t fi fe (wipeE ε vs) (ds.drop i) = .ok rest ∧ done ++ rest = tot ∧ ws.length ≤ i)
    ⟨F1, [], [], tot, grow_new g1.ok hD, upd_same, nD, .nil, by rw [List.drop_zero]; exact etot, rfl, Nat.le_refl _⟩ (fun i H2 hi ⟨F2, ws, done, rest, g2, _⟩ => wG H2 F2 g2.pres) (fun i x H2 H3 hi ⟨F2, ws, done, rest, g2, e1, e2, e3, e4, e5, e6⟩ y => ?_) fun H2 ⟨F2, ws, done, rest, g2, e1, e2, e3, e4, e5, e6⟩ => ?_
  · obtain ⟨d, ed, g3, dx⟩ := wY i H2 F2 x H3 hi g2.pres g2.ok y
    rw [drop_get ed] at e4
    have e1' := g3.same _ _ e1
    refine comp_turn (ds := ds.drop (i + 1)) (reb.grow (g2.trans g3)) dx hsl e4 (fun yd ys er ec v H4 F4 g4 dv => ?_) fun ec H4 F4 g4 => ?_
    · have e1'' := g4.same _ _ e1'
      have nf := g4.notF e1' e2
      have p4 := pres_upd (o := .lst (ws ++ [v])) e1'' nf
      refine ⟨ws, e1'', by omega, F4, ws ++ [v], done ++ [yd], ys, grow_upd (g2.trans (g3.trans g4)) hD, upd_same, nf, ((e3.grow (g3.trans g4)).append (.cons dv .nil)).pres p4, ec, ?_, by rw [List.length_append, List.length_singleton]; omega⟩
      rw [← e5, er, List.append_assoc]; rfl
    · exact ⟨F4, ws, done, rest, g2.trans (g3.trans g4), g4.same _ _ e1', g4.notF e1' e2, e3.grow (g3.trans g4), ec, e5, by omega⟩
  · rw [List.drop_length] at e4
    unfold compL at e4
    cases e4
    rw [List.append_nil] at e5
    subst e5
    exact k Dd ws H2 F2 (g1.trans g2) (g1.back hD) e1 e2 e3 (by omega)
theorem fx_lc {elt tg iter : Expr} {ifs : List Expr} {scope : Scope} {own : List (Str × Nat)} {pos : Pos} {it : Env → R (List D)} {t : Tg} {fi : Env → R Bool} {fe : Env → R D} (hN : X.N.Nodup) (hi : Ix X W tg iter it) (ok : BlkOk X.N X.env.scope scope own)
    (hsl : ∀ i ∈ slotsT t, i ∈ own.map (·.2))
    (hg : ∀ (s : Shared) (H : Hp) (C : Addr) (cl : List (Str × Addr)) (fp : List Addr), Gx (X.blk s H scope (compEnvC scope cl C X.env) fp) tg t) (ht : ∀ (s : Shared) (H : Hp) (C : Addr) (cl : List (Str × Addr)) (fp : List Addr), Txs (X.blk s H scope (compEnvC scope cl C X.env) fp) W0 ifs fi)
    (he : ∀ (s : Shared) (H : Hp) (C : Addr) (cl : List (Str × Addr)) (fp : List Addr), Ex (X.blk s H scope (compEnvC scope cl C X.env) fp) W0 elt fe) (hc : X.calm = true := by rfl) (hs : ∀ x, foldedSetIterable iter X.env x = pure x := by intro _; rfl) :
    Fx X W (.ListComp elt [⟨tg, iter, ifs, 0⟩] scope pos) (compE (own.map (·.2)) it t fi fe) := by
  refine PE.imp (pe_lc (g := tgR X.K t) (tt := tB_ X.K X.mg W0 fi) (te := tE X.K X.mg W0 fe) hc hN hi ok hg ht he hs) fun σ H Q ⟨ε, F, re, q⟩ => ⟨ε, F, re, ?_⟩
  exact lc_read re hsl q
/-! two for -/
def comp2L (t : Tg) (fi : Env → R Bool) (it1 : Env → R (List D)) (vs1 : List Nat) (t1 : Tg) (fi1 : Env → R Bool) (fe : Env → R D) (ε : Env) : List D → R (List D)
  | [] => .ok []
  | d :: ds => (flatT t d).hard >>= fun as => (fi (setE ε as)).hard >>= fun b =>
    if b = true then (it1 (setE ε as)).hard >>= fun es => compL t1 fi1 fe (wipeE (setE ε as) vs1) es >>= fun ys => comp2L t fi it1 vs1 t1 fi1 fe ε ds >>= fun zs => .ok (ys ++ zs) else comp2L t fi it1 vs1 t1 fi1 fe ε ds
/-- [elt for t in it if fi for t1 in it1 if fi1] -/
def comp2E (vs vs1 : List Nat) (it : Env → R (List D)) (t : Tg) (fi : Env → R Bool) (it1 : Env → R (List D)) (t1 : Tg) (fi1 : Env → R Bool) (fe : Env → R D) : Env → R (List D) := fun ε => it ε >>= fun ds =>
  (comp2L t fi it1 vs1 t1 fi1 fe (wipeE ε vs) ds).hard >>= fun tot => if tot.length ≤ 16777216 then .ok tot else .stuck
/-- an inner loop of a comprehension -/
theorem lc_in {J : It} {n : Nat} {G : Hp → Prop} {Y : Nat → Hp → V → Hp → Prop} (w : Walk J n G Y) {g : TG} {tt : TT} {te : TE} {vs : List Nat} {σ : L2.St} {H1 : Hp} {Dd : Addr} {Qd : Hp → Prop} (Pv : Nat → Hp → Prop) (h0 : Pv 0 H1) (hG : ∀ i H, i ≤ n → Pv i H → G H)
    (hs : ∀ i x H H', i < n → Pv i H → Y i H x H' → g x (wipe σ vs) H' fun σ2 H2 => wipe σ2 vs = wipe σ vs ∧ tt σ2 H2 fun b H3 => if b = true then te σ2 H3 fun y H4 => ∃ acc, H4 Dd = some (.lst acc) ∧ acc.length < sizeLine ∧ Pv (i + 1) (upd H4 Dd (.lst (acc ++ [y]))) else Pv (i + 1) H3)
    (hd : ∀ H, Pv n H → Qd H) :
    ∃ W : Nat → Nat → Hp → Prop, (∃ m, W 0 m H1) ∧ ∀ i m H, W i m H → (J.stop i H ∧ Qd H) ∨ (J.go i H ∧ ∃ Nx : Hp → Prop, (∀ H', Nx H' → ∃ m', m' < m ∧ W (i + 1) m' H') ∧ ∀ x H', J.yld i H x H' → g x (wipe σ vs) H' fun σ2 H2 => wipe σ2 vs = wipe σ vs ∧ tt σ2 H2 fun b H3 =>
        if b = true then te σ2 H3 fun y H4 => ∃ acc, H4 Dd = some (.lst acc) ∧ acc.length < sizeLine ∧ Nx (upd H4 Dd (.lst (acc ++ [y]))) else Nx H3) := by
  refine ⟨fun i m H => m = n - i ∧ i ≤ n ∧ Pv i H, ⟨n, by simp, Nat.zero_le _, h0⟩, ?_⟩
  intro i m H ⟨hm, hi, p⟩
  subst hm
  have q := hG i H hi p
  by_cases hlt : i < n
  · exact .inr ⟨w.goes i H hlt q, Pv (i + 1), fun H' p' => ⟨n - (i + 1), by omega, rfl, hlt, p'⟩, fun x H' y => hs i x H H' hlt p (w.yields i H x H' hlt q y)⟩
  · have e : i = n := by omega
    subst e
    exact .inl ⟨w.stops H q, hd H p⟩
theorem RE.of_set {K : PySem.W.Frag} {σ : L2.St} {ε : Env} {H : Hp} {F : Addr → Prop} (re : RE K σ ε H F) : RE K σ ε H F := re
theorem lc2_read {K : PySem.W.Frag} {mg : Str → Option Value} {it it1 : Env → R (List D)} {t t1 : Tg} {fi fi1 : Env → R Bool} {fe : Env → R D} {vs vs1 : List Nat} {σ : L2.St} {H : Hp} {F : Addr → Prop} {ε : Env} {Q : VK} {E : Exn → Prop} (re : RE K σ ε H F) (hsl : ∀ i ∈ slotsT t, i ∈ vs) (hsl1 : ∀ i ∈ slotsT t1, i ∈ vs1)
    (q : (comp2E vs vs1 it t fi it1 t1 fi1 fe ε).wp (FinL K H F Q) E) :
    (it ε).wp (fun ds => ∀ J H1 F1, Grow H F H1 F1 → WalkD K J H1 F1 ds → ds.length ≤ sizeLine → ∀ Dd, H1 Dd = none → ∃ W : Nat → Nat → Hp → Prop, (∃ m, W 0 m (upd H1 Dd (.lst []))) ∧ ∀ i m H, W i m H →
      (J.stop i H ∧ Q (.ref Dd) H) ∨ (J.go i H ∧ ∃ Nx : Hp → Prop, (∀ H', Nx H' → ∃ m', m' < m ∧ W (i + 1) m' H') ∧ ∀ x H', J.yld i H x H' → tgR K t x (wipe σ vs) H' fun σ2 H2 => wipe σ2 vs = wipe σ vs ∧ tB_ K mg W0 fi σ2 H2 fun b H3 =>
        if b = true then tI K mg W0 it1 σ2 H3 fun J1 H4 => ∃ W1 : Nat → Nat → Hp → Prop, (∃ m, W1 0 m H4) ∧ ∀ j k H, W1 j k H →
          (J1.stop j H ∧ Nx H) ∨ (J1.go j H ∧ ∃ Nx1 : Hp → Prop, (∀ H', Nx1 H' → ∃ k', k' < k ∧ W1 (j + 1) k' H') ∧ ∀ x H', J1.yld j H x H' → tgR K t1 x (wipe σ2 vs1) H' fun σ3 H5 => wipe σ3 vs1 = wipe σ2 vs1 ∧ tB_ K mg W0 fi1 σ3 H5 fun b H6 =>
            if b = true then tE K mg W0 fe σ3 H6 fun y H7 => ∃ acc, H7 Dd = some (.lst acc) ∧ acc.length < sizeLine ∧ Nx1 (upd H7 Dd (.lst (acc ++ [y]))) else Nx1 H6)
        else Nx H3)) E := by
  refine R.wp_mono (R.wp_bind q) (fun ds k J H1 F1 g1 ⟨G, Y, wk, wG, wY⟩ hz Dd hD => ?_) (fun e k => k)
  obtain ⟨tot, etot, k⟩ := wp_hard k
  obtain ⟨htot, k⟩ := ite_wp (x := R.ok _) k
  have htot' : tot.length ≤ sizeLine := le_line htot
  have reb := (re.grow g1).wipe vs
  have nD : ¬ F1 Dd := fun f => by
    obtain ⟨u, e⟩ := g1.ok Dd f
    rw [hD] at e; cases e
  refine ⟨fun i m H2 => m = ds.length - i ∧ i ≤ ds.length ∧ ∃ F2 ws done rest, Grow H1 F1 H2 F2 ∧ H2 Dd = some (.lst ws) ∧ ¬ F2 Dd ∧ DenL K H2 F2 ws done ∧ comp2L t fi it1 vs1 t1 fi1 fe (wipeE ε vs) (ds.drop i) = .ok rest ∧ done ++ rest = tot,
    ⟨ds.length, by simp, Nat.zero_le _, F1, [], [], tot, grow_new g1.ok hD, upd_same, nD, .nil, by rw [List.drop_zero]; exact etot, rfl⟩, ?_⟩
  intro i m H2 ⟨hm, hi, F2, ws, done, rest, g2, e1, e2, e3, e4, e5⟩
  subst hm
  by_cases hlt : i < ds.length
  case neg =>
    have : i = ds.length := by omega
    subst this
    refine .inl ⟨wk.stops H2 (wG H2 F2 g2.pres), ?_⟩
    rw [List.drop_length] at e4
    unfold comp2L at e4
    cases e4
    rw [List.append_nil] at e5
    subst e5
    exact k Dd ws H2 F2 (g1.trans g2) (g1.back hD) e1 e2 e3 (by rw [e3.length]; exact htot')
  refine .inr ⟨wk.goes i H2 hlt (wG H2 F2 g2.pres), fun H3 => ∃ F3 ws done rest, Grow H1 F1 H3 F3 ∧ H3 Dd = some (.lst ws) ∧ ¬ F3 Dd ∧ DenL K H3 F3 ws done ∧ comp2L t fi it1 vs1 t1 fi1 fe (wipeE ε vs) (ds.drop (i + 1)) = .ok rest ∧ done ++ rest = tot,
    fun H' h => ⟨ds.length - (i + 1), by omega, rfl, hlt, h⟩, fun x H3 yx => ?_⟩
  obtain ⟨d, ed, g3, dx⟩ := wY i H2 F2 x H3 hlt g2.pres g2.ok (wk.yields i H2 x H3 hlt (wG H2 F2 g2.pres) yx)
  rw [drop_get ed] at e4
  unfold comp2L at e4
  obtain ⟨as, a1, e4⟩ := hard_bind e4
  obtain ⟨b, a2, e4⟩ := hard_bind e4
  have e1' := g3.same _ _ e1
  have re2 := fun {us : List (Nat × V)} (p : PairD K H3 F2 us as) => (reb.grow (g2.trans g3)).setAll p
  refine tg_run t x d as _ _ dx a1 fun us p => ⟨?_, setE (wipeE ε vs) as, F2, re2 p, ?_⟩
  · rw [wipe_setV, wipe_wipe]
    intro q hq
    obtain ⟨r, hr, e⟩ := p.slots q hq
    rw [← e]
    exact hsl _ (flat_slots t d as a1 r hr)
  rw [a2]
  intro H4 F4 g4
  cases b with
  | false =>
    rw [if_neg (by decide)] at e4 ⊢
    exact ⟨F4, ws, done, rest, g2.trans (g3.trans g4), g4.same _ _ e1', g4.notF e1' e2, e3.grow (g3.trans g4), e4, e5⟩
  | true =>
    rw [if_pos rfl] at e4 ⊢
    obtain ⟨es, a3, e4⟩ := hard_bind e4
    obtain ⟨ys, a4, e4⟩ := ok_bind' e4
    obtain ⟨zs, a5, e4⟩ := ok_bind' e4
    cases e4
    refine ⟨_, F4, (re2 p).grow g4, ?_⟩
    rw [a3]
    intro J1 H5 F5 g5 ⟨G1, Y1, wk1, wG1, wY1⟩ hz1
    have g05 := g2.trans (g3.trans (g4.trans g5))
    have e15 := (g4.trans g5).same _ _ e1'
    have n5 := (g4.trans g5).notF e1' e2
    have re5 := (((re2 p).grow g4).grow g5).wipe vs1
    refine lc_in wk1 (fun j H6 => ∃ F6 ws' done' rest', Grow H1 F1 H6 F6 ∧ Pres H5 F5 H6 F6 ∧ H6 Dd = some (.lst ws') ∧ ¬ F6 Dd ∧ DenL K H6 F6 ws' done' ∧ compL t1 fi1 fe (wipeE (setE (wipeE ε vs) as) vs1) (es.drop j) = .ok rest' ∧ done' ++ (rest' ++ zs) = tot) ?_ ?_ ?_ ?_
    · exact ⟨F5, ws, done, ys, g05, .refl, e15, n5, e3.grow (g3.trans (g4.trans g5)), by rw [List.drop_zero]; exact a4, e5⟩
    · intro j H6 hj ⟨F6, ws', done', rest', _, p6, _⟩
      exact wG1 H6 F6 p6
    · intro j x1 H6 H7 hj ⟨F6, ws', done', rest', g6, p6, b1, b2, b3, b4, b5⟩ yy
      obtain ⟨d1, ed1, g7, dx1⟩ := wY1 j H6 F6 x1 H7 hj p6 g6.ok yy
      rw [drop_get ed1] at b4
      have b1' := g7.same _ _ b1
      have re7 : RE K (wipe (setV (wipe σ vs) us) vs1) (wipeE (setE (wipeE ε vs) as) vs1) H7 F6 := ⟨fun i d e => by
        obtain ⟨v, h1, h2⟩ := re5.at_ i d e
        exact ⟨v, h1, (h2.pres p6).grow g7⟩, g7.ok, re5.len⟩
      refine comp_turn (ds := es.drop (j + 1)) re7 dx1 hsl1 b4 (fun yd ys' er ec v H8 F8 g8 dv => ?_) fun ec H8 F8 g8 => ?_
      · have b1'' := g8.same _ _ b1'
        have nf := g8.notF b1' b2
        have p8 := pres_upd (o := .lst (ws' ++ [v])) b1'' nf
        have lb : ws'.length < sizeLine := by
          rw [b3.length]
          have : tot.length = done'.length + (rest'.length + zs.length) := by rw [← b5]; simp
          rw [er, List.length_cons] at this
          omega
        refine ⟨ws', b1'', lb, F8, ws' ++ [v], done' ++ [yd], ys', grow_upd (g6.trans (g7.trans g8)) hD, p6.trans ((g7.trans g8).pres.trans p8), upd_same, nf, ((b3.grow (g7.trans g8)).append (.cons dv .nil)).pres p8, ec, ?_⟩
        rw [← b5, er, List.append_assoc]; rfl
      · exact ⟨F8, ws', done', rest', g6.trans (g7.trans g8), p6.trans (g7.trans g8).pres, g8.same _ _ b1', g8.notF b1' b2, b3.grow (g7.trans g8), ec, b5⟩
    · intro H6 ⟨F6, ws', done', rest', g6, p6, b1, b2, b3, b4, b5⟩
      rw [List.drop_length] at b4
      unfold compL at b4
      cases b4
      exact ⟨F6, ws', done', zs, g6, b1, b2, b3, a5, b5⟩
theorem fx_lc2 {elt tg iter tg1 iter1 : Expr} {ifs ifs1 : List Expr} {scope : Scope} {own : List (Str × Nat)} {vs1 : List Nat} {pos : Pos} {it it1 : Env → R (List D)} {t t1 : Tg} {fi fi1 : Env → R Bool} {fe : Env → R D} (hN : X.N.Nodup) (hi : Ix X W tg iter it) (ok : BlkOk X.N X.env.scope scope own) (hv : ∀ i ∈ vs1, i ∈ own.map (·.2))
    (hsl : ∀ i ∈ slotsT t, i ∈ own.map (·.2)) (hsl1 : ∀ i ∈ slotsT t1, i ∈ vs1)
    (hg : ∀ (s : Shared) (H : Hp) (C : Addr) (cl : List (Str × Addr)) (fp : List Addr), Gx (X.blk s H scope (compEnvC scope cl C X.env) fp) tg t) (ht : ∀ (s : Shared) (H : Hp) (C : Addr) (cl : List (Str × Addr)) (fp : List Addr), Txs (X.blk s H scope (compEnvC scope cl C X.env) fp) W0 ifs fi)
    (hi1 : ∀ (s : Shared) (H : Hp) (C : Addr) (cl : List (Str × Addr)) (fp : List Addr), Ix (X.blk s H scope (compEnvC scope cl C X.env) fp) W0 tg1 iter1 it1)
    (hg1 : ∀ (s : Shared) (H : Hp) (C : Addr) (cl : List (Str × Addr)) (fp : List Addr), Gx (X.blk s H scope (compEnvC scope cl C X.env) fp) tg1 t1) (ht1 : ∀ (s : Shared) (H : Hp) (C : Addr) (cl : List (Str × Addr)) (fp : List Addr), Txs (X.blk s H scope (compEnvC scope cl C X.env) fp) W0 ifs1 fi1)
    (he : ∀ (s : Shared) (H : Hp) (C : Addr) (cl : List (Str × Addr)) (fp : List Addr), Ex (X.blk s H scope (compEnvC scope cl C X.env) fp) W0 elt fe) (hc : X.calm = true := by rfl) (hs : ∀ x, foldedSetIterable iter X.env x = pure x := by intro _; rfl) (hs1 : ∀ env x, foldedSetIterable iter1 env x = pure x := by intro _ _; rfl) :
    Fx X W (.ListComp elt [⟨tg, iter, ifs, 0⟩, ⟨tg1, iter1, ifs1, 0⟩] scope pos) (comp2E (own.map (·.2)) vs1 it t fi it1 t1 fi1 fe) := by
  refine PE.imp (pe_lc2 (g := tgR X.K t) (tt := tB_ X.K X.mg W0 fi) (g1 := tgR X.K t1) (tt1 := tB_ X.K X.mg W0 fi1) (wi1 := tI X.K X.mg W0 it1) (te := tE X.K X.mg W0 fe) hc hN hi ok hv hg ht hi1 hg1 ht1 he hs hs1) fun σ H Q ⟨ε, F, re, q⟩ => ⟨ε, F, re, ?_⟩
  exact lc2_read re hsl hsl1 q
/-! ### calls of the program's own defs -/
def spD (K : PySem.W.Frag) (mg : Str → Option Value) (n : Nat) (S : List D → R D) : Sp := fun vs H Q E => vs.length = n ∧ ∃ ds F, FOk H F ∧ DenL K H F vs ds ∧
  (S ds).wp (Fin1 K H F Q) fun e => ∀ cls x H' F', Grow H F H' F' → ExnOf mg e cls x H' → E cls x H'
/-- the def that the module's name x holds computes S of n arguments -/
def Cal (P : Program) (w : World) (K : PySem.W.Frag) (mg : Str → Option Value) (base : Heap) (k : Nat) (x : Str) (n : Nat) (S : List D → R D) : Prop :=
  ∃ f fd ps, mg x = some (.ref f) ∧ PySem.W.keepIn K (.ref f) = true ∧ Binds K fd ps [] ∧ ps.length = n ∧ FnOk P w K mg base (L2.CX P w) k f fd ps (spD K mg n S)
def usrE (S : List D → R D) (fs : List (Env → R D)) : Env → R D := fun ε => evL fs ε >>= S
theorem ex_usr {x : Str} {p pos : Pos} {e : Expr} {es : List Expr} {fs : List (Env → R D)} {S : List D → R D} {j k n : Nat} (C : Cal X.prog X.w X.K X.mg X.base k x n S) (hr : Room j X.A) (hk : k ≤ j) (tk : Takes X W) (ha : Exs X W (e :: es) fs) (hn : fs.length = n := by rfl) (hg : Gl X x := by rfl)
    (hdb : (x == ("__debug__" : Str)) = false := by decide) (he : starEach (e :: es) X.env = (false, eval e X.env) :: starEach es X.env := by rfl) (hpl : (backTo pos (starEach es X.env)).any (·.1) = false := by rfl) : Ex X W (.Call (.Name x p) (e :: es) [] pos) (usrE S fs) := by
  obtain ⟨f, fd, ps, h1, h2, h3, h4, F⟩ := C
  refine PE.imp (pe_callS F (hr.mono hk) hg h1 h2 h3 (passAt tk) ha hdb he hpl) fun σ H Q ⟨ε, F, re, q⟩ => ⟨ε, F, re, ?_⟩
  refine R.wp_mono (evL_len (R.wp_bind q)) (fun ds ⟨hl, k⟩ vs H1 F1 g1 d1 => ?_) (fun e k => k)
  refine ⟨by rw [d1.length, hl, hn], ds, F1, g1.ok, d1, R.wp_mono k (fun d k => fin_grow g1 k) fun e k cls x H' F' g => k cls x H' F' (g1.trans g)⟩
def usr0 (S : List D → R D) : Env → R D := fun _ => (S []).hard
theorem ex_usr0 {x : Str} {p pos : Pos} {S : List D → R D} {j k : Nat} (C : Cal X.prog X.w X.K X.mg X.base k x 0 S) (hr : Room j X.A) (hk : k ≤ j) (hg : Gl X x := by rfl) (hdb : (x == ("__debug__" : Str)) = false := by decide) (hx : Passes (L2.CX X.prog X.w) X E0 := by exact passL) : Ex X W (.Call (.Name x p) [] [] pos) (usr0 S) := by
  obtain ⟨f, fd, ps, h1, h2, h3, h4, F⟩ := C
  refine PE.imp (pe_call0 F (hr.mono hk) hg h1 h2 h3 .nil hx hdb) fun σ H Q ⟨ε, F, re, q⟩ => ?_
  exact ⟨rfl, [], F, re.ok, .nil, by
    unfold usr0 at q
    cases e : S [] with
    | ok d => rw [e] at q; exact q
    | exn _ => rw [e] at q; exact q.elim
    | stuck => rw [e] at q; exact q.elim⟩
end
end RB

set_option Elab.async false
set_option linter.all false
set_option maxRecDepth 100000
set_option maxHeartbeats 4000000
namespace RB
open PySem PySem.Spec PyProof.Rows L2

/-! ### the slots of a def: data, or a list of its own that it changes -/
inductive Sl where
  | un
  | da (d : D)
  | ol (ds : List D)
abbrev Gam := List Sl
inductive Fl where
  | nx (Γ : Gam)
  | rt (d : D)
  | bk (Γ : Gam)
  | ct (Γ : Gam)
  | xn (e : Exn) (Γ : Gam)
def viewF (L : List Nat) : Nat → Gam → Env
  | _, [] => []
  | k, .un :: r => none :: viewF L (k + 1) r
  | k, .da d :: r => some d :: viewF L (k + 1) r
  | k, .ol ds :: r => (if k ∈ L then some (.list ds) else none) :: viewF L (k + 1) r
/-- what an expression sees: the data, and the own lists at L -/
abbrev view (L : List Nat) (Γ : Gam) : Env := viewF L 0 Γ
def frzF (L : List Nat) : Nat → Gam → Gam
  | _, [] => []
  | k, .un :: r => .un :: frzF L (k + 1) r
  | k, .da d :: r => .da d :: frzF L (k + 1) r
  | k, .ol ds :: r => (if k ∈ L then .da (.list ds) else .ol ds) :: frzF L (k + 1) r
/-- the own lists at L are data from now on -/
abbrev freeze (L : List Nat) (Γ : Gam) : Gam := frzF L 0 Γ
mutual
/-- no list within: nothing that may be changed -/
def noLst : D → Bool
  | .none | .bool _ | .int _ | .str _ => true
  | .tuple xs => noLsts xs
  | .list _ | .dict _ => false
def noLsts : List D → Bool
  | [] => true
  | x :: xs => noLst x && noLsts xs
end
mutual
theorem Den.free {K : PySem.W.Frag} {H : Hp} {F F' : Addr → Prop} : ∀ {v : V} {d : D}, Den K H F v d → noLst d = true → Den K H F' v d
  | _, _, .non, _ => .non
  | _, _, .bl b, _ => .bl b
  | _, _, .int i, _ => .int i
  | _, _, .str x h, _ => .str x h
  | _, _, .tup h hs z, n => .tup h (DenL.free hs (by unfold noLst at n; exact n)) z
  | _, _, .lst _ _ _, n => by unfold noLst at n; cases n
  | _, _, .dK _ _, n => by unfold noLst at n; cases n
  | _, _, .dT _ _, n => by unfold noLst at n; cases n
theorem DenL.free {K : PySem.W.Frag} {H : Hp} {F F' : Addr → Prop} : ∀ {vs : List V} {ds : List D}, DenL K H F vs ds → noLsts ds = true → DenL K H F' vs ds
  | _, _, .nil, _ => .nil
  | _, _, .cons h hs, n => by
    unfold noLsts at n
    rw [Bool.and_eq_true] at n
    exact .cons (Den.free h n.1) (DenL.free hs n.2)
end
theorem viewF_get {L : List Nat} : ∀ {Γ : Gam} {k i : Nat}, (viewF L k Γ)[i]? = (Γ[i]?).map fun s => match s with
    | .un => none
    | .da d => some d
    | .ol ds => if k + i ∈ L then some (.list ds) else none
  | [], k, i => rfl
  | s :: r, k, 0 => by cases s <;> rfl
  | s :: r, k, i + 1 => by
    have h := viewF_get (L := L) (Γ := r) (k := k + 1) (i := i)
    have e : k + 1 + i = k + (i + 1) := by omega
    rw [e] at h
    cases s <;> exact h
theorem frzF_get {L : List Nat} : ∀ {Γ : Gam} {k i : Nat}, (frzF L k Γ)[i]? = (Γ[i]?).map fun s => match s with
    | .un => Sl.un
    | .da d => .da d
    | .ol ds => if k + i ∈ L then .da (.list ds) else .ol ds
  | [], k, i => rfl
  | s :: r, k, 0 => by cases s <;> rfl
  | s :: r, k, i + 1 => by
    have h := frzF_get (L := L) (Γ := r) (k := k + 1) (i := i)
    have e : k + 1 + i = k + (i + 1) := by omega
    rw [e] at h
    cases s <;> exact h
theorem viewF_len {L : List Nat} : ∀ {Γ : Gam} {k : Nat}, (viewF L k Γ).length = Γ.length
  | [], _ => rfl
  | s :: r, k => by cases s <;> (unfold viewF; rw [List.length_cons, List.length_cons, viewF_len])
theorem frzF_len {L : List Nat} : ∀ {Γ : Gam} {k : Nat}, (frzF L k Γ).length = Γ.length
  | [], _ => rfl
  | s :: r, k => by cases s <;> (unfold frzF; rw [List.length_cons, List.length_cons, frzF_len])

def SlR (K : PySem.W.Frag) (H : Hp) (F : Addr → Prop) (o : Option V) : Sl → Prop
  | .un => True
  | .da d => ∃ v, o = some v ∧ Den K H F v d
  | .ol ds => ∃ a vs, o = some (.ref a) ∧ H a = some (.lst vs) ∧ ¬ F a ∧ DenL K H F vs ds ∧ vs.length ≤ sizeLine
def OwnAt (σ : L2.St) (Γ : Gam) (i : Nat) (a : Addr) : Prop := σ[i]? = some (some (.ref a)) ∧ ∃ ds, Γ[i]? = some (.ol ds)
structure Rel (K : PySem.W.Frag) (H0 : Hp) (F0 : Addr → Prop) (σ : L2.St) (Γ : Gam) (H : Hp) (F : Addr → Prop) : Prop where
  len : σ.length = Γ.length
  at_ : ∀ (i : Nat) (s : Sl), Γ[i]? = some s → ∃ o, σ[i]? = some o ∧ SlR K H F o s
  dist : ∀ i j a, OwnAt σ Γ i a → OwnAt σ Γ j a → i = j
  new : ∀ i a, OwnAt σ Γ i a → H0 a = none
  gr : Grow H0 F0 H F
/-- F and the own lists at L -/
def FL (F : Addr → Prop) (σ : L2.St) (Γ : Gam) (L : List Nat) : Addr → Prop := fun a => F a ∨ ∃ i, i ∈ L ∧ OwnAt σ Γ i a
/-- F without them -/
def FM (F : Addr → Prop) (σ : L2.St) (Γ : Gam) (L : List Nat) : Addr → Prop := fun a => F a ∧ ¬ ∃ i, i ∈ L ∧ OwnAt σ Γ i a
section
variable {K : PySem.W.Frag} {H0 H H' : Hp} {F0 F F' : Addr → Prop} {σ : L2.St} {Γ : Gam} {L : List Nat}
theorem Rel.own (r : Rel K H0 F0 σ Γ H F) {i : Nat} {a : Addr} (o : OwnAt σ Γ i a) : ∃ ds vs, Γ[i]? = some (.ol ds) ∧ H a = some (.lst vs) ∧ ¬ F a ∧ DenL K H F vs ds ∧ vs.length ≤ sizeLine := by
  obtain ⟨o1, ds, o2⟩ := o
  obtain ⟨o, e, b, vs, e1, e2, e3, e4, e5⟩ := r.at_ i _ o2
  rw [o1] at e; cases e
  cases e1
  exact ⟨ds, vs, o2, e2, e3, e4, e5⟩
theorem Rel.view (r : Rel K H0 F0 σ Γ H F) (L : List Nat) : RE K σ (view L Γ) H (FL F σ Γ L) ∧ Grow H0 F0 H (FL F σ Γ L) := by
  have ok : FOk H (FL F σ Γ L) := fun a f => by
    rcases f with f | ⟨i, _, o⟩
    · exact r.gr.ok a f
    · obtain ⟨_, vs, _, e, _⟩ := r.own o
      exact ⟨_, e⟩
  have pr : Pres H F H (FL F σ Γ L) := ⟨fun _ _ h => h, fun _ _ _ h => h, fun a u f h => ⟨.inl f, h⟩⟩
  refine ⟨⟨fun i d e => ?_, ok, by rw [viewF_len, r.len]; exact Nat.le_refl _⟩, r.gr.same, fun a f => .inl (r.gr.fro a f), fun a f => ?_, ok⟩
  · rw [viewF_get] at e
    cases q : Γ[i]? with
    | none => rw [q] at e; cases e
    | some s =>
      rw [q] at e
      obtain ⟨o, e1, hs⟩ := r.at_ i s q
      cases s with
      | un => cases e
      | da d' =>
        cases e
        obtain ⟨v, e2, hd⟩ := hs
        subst e2
        exact ⟨v, e1, hd.pres pr⟩
      | ol ds =>
        by_cases hL : 0 + i ∈ L
        · simp only [Option.map_some, if_pos hL] at e
          cases e
          obtain ⟨a, vs, e2, e3, e4, e5, e6⟩ := hs
          subst e2
          exact ⟨.ref a, e1, .lst (.inl (.inl ⟨e3, .inr ⟨i, by simpa using hL, e1, ds, q⟩⟩)) (e5.pres pr) e6⟩
        · simp only [Option.map_some, if_neg hL] at e
          cases e
  · rcases f with f | ⟨i, _, o⟩
    · exact r.gr.new a f
    · exact .inr (r.new i a o)
theorem pres_FM (r : Rel K H0 F0 σ Γ H F) (g : Grow H (FL F σ Γ L) H' F') : Pres H F H' (FM F' σ Γ L) :=
  ⟨fun a xs h => g.same a _ h, fun a o u h => g.same a _ h, fun a u f h => ⟨⟨g.fro a (.inl f), fun ⟨i, _, o⟩ => by
    obtain ⟨_, _, _, _, n, _⟩ := r.own o
    exact n f⟩, g.same a u h⟩⟩
theorem pres_F (g : Grow H (FL F σ Γ L) H' F') : Pres H F H' F' := ⟨fun a xs h => g.same a _ h, fun a o u h => g.same a _ h, fun a u f h => ⟨g.fro a (.inl f), g.same a u h⟩⟩
/-- behind an expression that saw the own lists at L: they are own still -/
theorem Rel.back (r : Rel K H0 F0 σ Γ H F) (g : Grow H (FL F σ Γ L) H' F') : Rel K H0 F0 σ Γ H' (FM F' σ Γ L) := by
  have pr := pres_FM r g
  refine ⟨r.len, fun i s e => ?_, r.dist, r.new, fun a u h => g.same a u (r.gr.same a u h), fun a f => (⟨g.fro a (.inl (r.gr.fro a f)), fun ⟨i, _, o⟩ => ?_⟩ : FM F' σ Γ L a), fun a f => ?_, fun a f => g.ok a f.1⟩
  · obtain ⟨o, e1, hs⟩ := r.at_ i s e
    refine ⟨o, e1, ?_⟩
    cases s with
    | un => trivial
    | da d => obtain ⟨v, e2, hd⟩ := hs; exact ⟨v, e2, hd.pres pr⟩
    | ol ds =>
      obtain ⟨a, vs, e2, e3, e4, e5, e6⟩ := hs
      refine ⟨a, vs, e2, g.same a _ e3, fun f => ?_, e5.pres pr, e6⟩
      have ow : OwnAt σ Γ i a := ⟨by rw [e1, e2], ds, e⟩
      rcases g.new a f.1 with q | q
      · rcases q with q | ⟨j, hj, o⟩
        · exact e4 q
        · exact f.2 ⟨j, hj, o⟩
      · rw [e3] at q; cases q
  · obtain ⟨_, _, _, _, n, _⟩ := r.own o
    exact n (r.gr.fro a f)
  · rcases g.new a f.1 with q | q
    · rcases q with q | ⟨j, hj, o⟩
      · exact r.gr.new a q
      · exact absurd ⟨j, hj, o⟩ f.2
    · exact .inr (r.gr.back q)
/-- .. they are data from now on -/
theorem Rel.frz (r : Rel K H0 F0 σ Γ H F) (g : Grow H (FL F σ Γ L) H' F') : Rel K H0 F0 σ (freeze L Γ) H' F' := by
  have pr : Pres H F H' F' := ⟨fun a xs h => g.same a _ h, fun a o u h => g.same a _ h, fun a u f h => ⟨g.fro a (.inl f), g.same a u h⟩⟩
  have ow : ∀ {i a}, OwnAt σ (freeze L Γ) i a → OwnAt σ Γ i a ∧ i ∉ L := fun {i a} ⟨o1, ds, o2⟩ => by
    rw [frzF_get] at o2
    cases q : Γ[i]? with
    | none => rw [q] at o2; cases o2
    | some s =>
      rw [q] at o2
      cases s with
      | un => cases o2
      | da d => cases o2
      | ol es =>
        by_cases hL : 0 + i ∈ L
        · simp only [Option.map_some, if_pos hL] at o2; cases o2
        · exact ⟨⟨o1, es, q⟩, by simpa using hL⟩
  refine ⟨by rw [frzF_len]; exact r.len, fun i s e => ?_, fun i j a o1 o2 => r.dist i j a (ow o1).1 (ow o2).1, fun i a o => r.new i a (ow o).1, fun a u h => g.same a u (r.gr.same a u h), fun a f => g.fro a (.inl (r.gr.fro a f)), fun a f => ?_, g.ok⟩
  · rw [frzF_get] at e
    cases q : Γ[i]? with
    | none => rw [q] at e; cases e
    | some s' =>
      rw [q] at e
      obtain ⟨o, e1, hs⟩ := r.at_ i s' q
      refine ⟨o, e1, ?_⟩
      cases s' with
      | un => cases e; trivial
      | da d => cases e; obtain ⟨v, e2, hd⟩ := hs; exact ⟨v, e2, hd.pres pr⟩
      | ol ds =>
        obtain ⟨a, vs, e2, e3, e4, e5, e6⟩ := hs
        have ow' : OwnAt σ Γ i a := ⟨by rw [e1, e2], ds, q⟩
        by_cases hL : 0 + i ∈ L
        · simp only [Option.map_some, if_pos hL] at e
          cases e
          exact ⟨.ref a, e2, .lst (.inl (.inl ⟨g.same a _ e3, g.fro a (.inr ⟨i, by simpa using hL, ow'⟩)⟩)) (e5.pres pr) e6⟩
        · simp only [Option.map_some, if_neg hL] at e
          cases e
          refine ⟨a, vs, e2, g.same a _ e3, fun f => ?_, e5.pres pr, e6⟩
          rcases g.new a f with z | z
          · rcases z with z | ⟨j, hj, o⟩
            · exact e4 z
            · have := r.dist i j a ow' o
              subst this
              exact hL (by simpa using hj)
          · rw [e3] at z; cases z
  · rcases g.new a f with q | q
    · rcases q with q | ⟨j, hj, o⟩
      · exact r.gr.new a q
      · exact .inr (r.new j a o)
    · exact .inr (r.gr.back q)
theorem own_set {i j : Nat} {x : Option V} {s : Sl} {a : Addr} (o : OwnAt (σ.set i x) (Γ.set i s) j a) (hj : i ≠ j) : OwnAt σ Γ j a := by
  obtain ⟨o1, ds, o2⟩ := o
  rw [List.getElem?_set_ne hj] at o1 o2
  exact ⟨o1, ds, o2⟩
theorem Rel.setda (r : Rel K H0 F0 σ Γ H F) {i : Nat} {v : V} {d : D} (h : Den K H F v d) : Rel K H0 F0 (σ.set i (some v)) (Γ.set i (.da d)) H F := by
  have ow : ∀ {j a}, OwnAt (σ.set i (some v)) (Γ.set i (.da d)) j a → OwnAt σ Γ j a := fun {j a} o => by
    by_cases hj : i = j
    · subst hj
      obtain ⟨_, ds, o2⟩ := o
      by_cases hi : i < Γ.length
      · rw [List.getElem?_set_self hi] at o2; cases o2
      · rw [List.getElem?_eq_none (by rw [List.length_set]; omega)] at o2; cases o2
    · exact own_set o hj
  refine ⟨by rw [List.length_set, List.length_set]; exact r.len, fun j s e => ?_, fun j l a o1 o2 => r.dist j l a (ow o1) (ow o2), fun j a o => r.new j a (ow o), r.gr⟩
  by_cases hj : i = j
  · subst hj
    by_cases hi : i < Γ.length
    · rw [List.getElem?_set_self hi] at e
      cases e
      exact ⟨some v, List.getElem?_set_self (by rw [r.len]; exact hi), v, rfl, h⟩
    · rw [List.getElem?_eq_none (by rw [List.length_set]; omega)] at e; cases e
  · rw [List.getElem?_set_ne hj] at e ⊢
    exact r.at_ j s e
theorem Rel.setol (r : Rel K H0 F0 σ Γ H F) {i : Nat} {p : Addr} {vs : List V} {ds : List D} (h1 : H p = some (.lst vs)) (h2 : ¬ F p) (h3 : H0 p = none) (h4 : ∀ j, ¬ OwnAt σ Γ j p) (h : DenL K H F vs ds) (hz : vs.length ≤ sizeLine) : Rel K H0 F0 (σ.set i (some (.ref p))) (Γ.set i (.ol ds)) H F := by
  have ow : ∀ {j a}, OwnAt (σ.set i (some (.ref p))) (Γ.set i (.ol ds)) j a → (j = i ∧ a = p) ∨ OwnAt σ Γ j a := fun {j a} o => by
    by_cases hj : i = j
    · subst hj
      obtain ⟨o1, _, o2⟩ := o
      by_cases hi : i < σ.length
      · rw [List.getElem?_set_self hi] at o1
        cases o1
        exact .inl ⟨rfl, rfl⟩
      · rw [List.getElem?_eq_none (by rw [List.length_set]; omega)] at o1; cases o1
    · exact .inr (own_set o hj)
  refine ⟨by rw [List.length_set, List.length_set]; exact r.len, fun j s e => ?_, fun j l a o1 o2 => ?_, fun j a o => ?_, r.gr⟩
  · by_cases hj : i = j
    · subst hj
      by_cases hi : i < Γ.length
      · rw [List.getElem?_set_self hi] at e
        cases e
        exact ⟨some (.ref p), List.getElem?_set_self (by rw [r.len]; exact hi), p, vs, rfl, h1, h2, h, hz⟩
      · rw [List.getElem?_eq_none (by rw [List.length_set]; omega)] at e; cases e
    · rw [List.getElem?_set_ne hj] at e ⊢
      exact r.at_ j s e
  · rcases ow o1 with ⟨q1, q2⟩ | q1
    · rcases ow o2 with ⟨q3, q4⟩ | q3
      · rw [q1, q3]
      · rw [q2] at q3; exact absurd q3 (h4 _)
    · rcases ow o2 with ⟨q3, q4⟩ | q3
      · rw [q4] at q1; exact absurd q1 (h4 _)
      · exact r.dist j l a q1 q3
  · rcases ow o with ⟨_, q⟩ | q
    · rw [q]; exact h3
    · exact r.new j a q
theorem Rel.grow (r : Rel K H0 F0 σ Γ H F) (g : Grow H F H' F') : Rel K H0 F0 σ Γ H' F' := by
  refine ⟨r.len, fun i s e => ?_, r.dist, r.new, r.gr.trans g⟩
  obtain ⟨o, e1, hs⟩ := r.at_ i s e
  refine ⟨o, e1, ?_⟩
  cases s with
  | un => trivial
  | da d => obtain ⟨v, e2, hd⟩ := hs; exact ⟨v, e2, hd.grow g⟩
  | ol ds =>
    obtain ⟨a, vs, e2, e3, e4, e5, e6⟩ := hs
    exact ⟨a, vs, e2, g.same a _ e3, g.notF e3 e4, e5.grow g, e6⟩
/-- an own list is changed -/
theorem Rel.upd (r : Rel K H0 F0 σ Γ H F) {i : Nat} {p : Addr} {vs : List V} {ds : List D} (o : OwnAt σ Γ i p) (h : DenL K H F vs ds) (hz : vs.length ≤ sizeLine) : Rel K H0 F0 σ (Γ.set i (.ol ds)) (L2.upd H p (.lst vs)) F := by
  obtain ⟨es, ws, q1, q2, q3, q4, q5⟩ := r.own o
  have pr := pres_upd (o := .lst vs) q2 q3
  have ow : ∀ {j a}, OwnAt σ (Γ.set i (.ol ds)) j a → OwnAt σ Γ j a := fun {j a} o' => by
    obtain ⟨o1, es', o2⟩ := o'
    by_cases hj : i = j
    · subst hj
      exact ⟨o1, es, q1⟩
    · rw [List.getElem?_set_ne hj] at o2
      exact ⟨o1, es', o2⟩
  refine ⟨by rw [List.length_set]; exact r.len, fun j s e => ?_, fun j l a o1 o2 => r.dist j l a (ow o1) (ow o2), fun j a o => r.new j a (ow o), grow_upd r.gr (r.new i p o)⟩
  by_cases hj : i = j
  · subst hj
    have hi : i < Γ.length := (List.getElem?_eq_some_iff.mp q1).1
    rw [List.getElem?_set_self hi] at e
    cases e
    exact ⟨_, o.1, p, vs, rfl, upd_same, q3, h.pres pr, hz⟩
  · rw [List.getElem?_set_ne hj] at e
    obtain ⟨x, e1, hs⟩ := r.at_ j s e
    refine ⟨x, e1, ?_⟩
    cases s with
    | un => trivial
    | da d => obtain ⟨v, e2, hd⟩ := hs; exact ⟨v, e2, hd.pres pr⟩
    | ol fs =>
      obtain ⟨a, us, e2, e3, e4, e5, e6⟩ := hs
      have ne : a ≠ p := fun z => hj (r.dist i j p o (by rw [← z]; exact ⟨by rw [e1, e2], fs, e⟩))
      exact ⟨a, us, e2, by rw [upd_ne ne]; exact e3, e4, e5.pres pr, e6⟩
end
def setG (Γ : Gam) : List (Nat × D) → Gam
  | [] => Γ
  | p :: ps => setG (Γ.set p.1 (.da p.2)) ps
theorem Rel.setAll {K : PySem.W.Frag} {H0 H : Hp} {F0 F : Addr → Prop} {vs : List (Nat × V)} {as : List (Nat × D)} (p : PairD K H F vs as) : ∀ {σ : L2.St} {Γ : Gam}, Rel K H0 F0 σ Γ H F → Rel K H0 F0 (setV σ vs) (setG Γ as) H F := by
  induction p with
  | nil => intro σ Γ r; exact r
  | cons h hs ih => intro σ Γ r; exact ih (r.setda h)

/-! ### statements -/
section
variable (K : PySem.W.Frag) (mg : Str → Option Value) (W : WX) (H0 : Hp) (F0 : Addr → Prop)
def FlOk (H : Hp) (F : Addr → Prop) (E : Ends) : Fl → Prop
  | .nx Γ => ∀ σ H' F', Rel K H0 F0 σ Γ H' F' → Pres H F H' F' → E.nx σ H'
  | .rt d => ∀ v H' F', Grow H0 F0 H' F' → Den K H' F' v d → E.rt v H'
  | .bk Γ => ∀ σ H' F', Rel K H0 F0 σ Γ H' F' → Pres H F H' F' → E.bk σ H'
  | .ct Γ => ∀ σ H' F', Rel K H0 F0 σ Γ H' F' → Pres H F H' F' → E.ct σ H'
  | .xn e Γ => ∀ cls x σ H' F', Rel K H0 F0 σ Γ H' F' → Pres H F H' F' → ExnOf mg e cls x H' → W cls x σ H'
def tS (g : Gam → R Fl) : TS := fun E σ H => ∃ Γ F, Rel K H0 F0 σ Γ H F ∧ ∃ fl, g Γ = .ok fl ∧ FlOk K mg W H0 F0 H F E fl
end
abbrev Sx (X : Cx) (W : WX) (H0 : Hp) (F0 : Addr → Prop) (st : Stmt) (g : Gam → R Fl) : Prop := PS X st (tS X.K X.mg W H0 F0 g)
abbrev Ssx (X : Cx) (W : WX) (H0 : Hp) (F0 : Addr → Prop) (st : List Stmt) (g : Gam → R Fl) : Prop := PSs X st (tS X.K X.mg W H0 F0 g)
def lift {α : Type} (r : R α) (Γ : Gam) (k : α → R Fl) : R Fl := match r with
  | .ok a => k a
  | .exn e => .ok (.xn e Γ)
  | .stuck => .stuck
@[simp] theorem lift_ok {α : Type} (a : α) (Γ : Gam) (k : α → R Fl) : lift (.ok a) Γ k = k a := rfl
theorem lift_cases {α : Type} {r : R α} {Γ : Gam} {k : α → R Fl} {fl : Fl} (h : lift r Γ k = .ok fl) : (∃ a, r = .ok a ∧ k a = .ok fl) ∨ ∃ e, r = .exn e ∧ fl = .xn e Γ := by
  cases r with
  | ok a => exact .inl ⟨a, rfl, h⟩
  | exn e => cases h; exact .inr ⟨e, rfl, rfl⟩
  | stuck => cases h
def nilS : Gam → R Fl := fun Γ => .ok (.nx Γ)
def seqS (g h : Gam → R Fl) : Gam → R Fl := fun Γ => g Γ >>= fun fl => match fl with
  | .nx Γ' => h Γ'
  | fl => .ok fl
def retS (L : List Nat) (f : Env → R D) : Gam → R Fl := fun Γ => lift (f (view L Γ)) Γ fun d => .ok (.rt d)
def retN : Gam → R Fl := fun _ => .ok (.rt .none)
def ifS (L : List Nat) (t : Env → R Bool) (g h : Gam → R Fl) : Gam → R Fl := fun Γ => lift (t (view L Γ)) Γ fun b => if b = true then g Γ else h Γ
/-- behind a value d that was told by an expression that saw L: kept, or frozen -/
def keepG (L : List Nat) (d : D) (Γ : Gam) : Gam := if L = [] ∨ noLst d = true then Γ else freeze L Γ
def keepGs (L : List Nat) (d : List D) (Γ : Gam) : Gam := if L = [] ∨ noLsts d = true then Γ else freeze L Γ
def setS (L : List Nat) (i : Nat) (f : Env → R D) : Gam → R Fl := fun Γ => lift (f (view L Γ)) Γ fun d => .ok (.nx ((keepG L d Γ).set i (.da d)))
/-- x = a new list, own -/
def ownS (L : List Nat) (i : Nat) (f : Env → R (List D)) : Gam → R Fl := fun Γ => lift (f (view L Γ)) Γ fun ds => .ok (.nx ((keepGs L ds Γ).set i (.ol ds)))
def unpS (L : List Nat) (t : Tg) (f : Env → R D) : Gam → R Fl := fun Γ => lift (f (view L Γ)) Γ fun d => (flatT t d).hard >>= fun as => .ok (.nx (setG (keepG L d Γ) as))
def dropS (L : List Nat) (f : Env → R D) : Gam → R Fl := fun Γ => lift (f (view L Γ)) Γ fun _ => .ok (.nx Γ)
def forL (t : Tg) (body : Gam → R Fl) : List D → Gam → R Fl
  | [], Γ => .ok (.nx Γ)
  | d :: ds, Γ => (flatT t d).hard >>= fun as => body (setG Γ as) >>= fun fl => match fl with
    | .nx Γ' => forL t body ds Γ'
    | .ct Γ' => forL t body ds Γ'
    | .bk Γ' => .ok (.nx Γ')
    | fl => .ok fl
def forS (L : List Nat) (it : Env → R (List D)) (t : Tg) (body : Gam → R Fl) : Gam → R Fl := fun Γ => lift (it (view L Γ)) Γ fun ds => forL t body ds (freeze L Γ)
def whileN (L : List Nat) (t : Env → R Bool) (body : Gam → R Fl) : Nat → Gam → R Fl
  | 0, _ => .stuck
  | n + 1, Γ => lift (t (view L Γ)) Γ fun b => if b = true then body Γ >>= fun fl => match fl with
      | .nx Γ' => whileN L t body n Γ'
      | .ct Γ' => whileN L t body n Γ'
      | .bk Γ' => .ok (.nx Γ')
      | fl => .ok fl
    else .ok (.nx Γ)
open Classical in
noncomputable def whileS (L : List Nat) (t : Env → R Bool) (body : Gam → R Fl) : Gam → R Fl := fun Γ => if h : ∃ n fl, whileN L t body n Γ = .ok fl then .ok (Classical.choose (Classical.choose_spec h)) else .stuck
def bkS : Gam → R Fl := fun Γ => .ok (.bk Γ)
def ctS : Gam → R Fl := fun Γ => .ok (.ct Γ)
def listAt (i : Nat) (Γ : Gam) : R (List D) := match Γ[i]? with
  | some (.ol ds) => .ok ds
  | _ => .stuck
/-- xs.append(e), xs the own list at i -/
def appS (L : List Nat) (i : Nat) (f : Env → R D) : Gam → R Fl := fun Γ => listAt i Γ >>= fun ys => lift (f (view L Γ)) Γ fun d => if ys.length < 16777216 ∧ (i ∈ L → noLst d = true) then .ok (.nx ((keepG L d Γ).set i (.ol (ys ++ [d])))) else .stuck
def putAt (ys : List D) (k d : D) : R (List D) := match k with
  | .int k => match ixN ys.length k with
    | some j => if noLst d = true then .ok (ys.set j d) else .stuck
    | none => .stuck
  | _ => .stuck
/-- xs[k] = e -/
def putS (L : List Nat) (i : Nat) (fe fk : Env → R D) : Gam → R Fl := fun Γ => listAt i Γ >>= fun ys => lift (fe (view L Γ)) Γ fun d => lift (fk (view L Γ)) Γ fun k => putAt ys k d >>= fun zs => .ok (.nx (Γ.set i (.ol zs)))
/-- x op= e -/
def augS (L : List Nat) (i : Nat) (g : D → D → R D) (f : Env → R D) : Gam → R Fl := fun Γ => match Γ[i]? with
  | some (.da x) => lift (f (view L Γ)) Γ fun y => (g x y).hard >>= fun z => if noLst z = true then .ok (.nx (Γ.set i (.da z))) else .stuck
  | _ => .stuck
theorem FlOk.from {K : PySem.W.Frag} {mg : Str → Option Value} {W : WX} {H0 H H1 : Hp} {F0 F F1 : Addr → Prop} {E : Ends} {fl : Fl} (k : FlOk K mg W H0 F0 H F E fl) (p : Pres H F H1 F1) : FlOk K mg W H0 F0 H1 F1 E fl := by
  cases fl with
  | nx Γ => exact fun σ H' F' r q => k σ H' F' r (p.trans q)
  | rt d => exact k
  | bk Γ => exact fun σ H' F' r q => k σ H' F' r (p.trans q)
  | ct Γ => exact fun σ H' F' r q => k σ H' F' r (p.trans q)
  | xn e Γ => exact fun c x σ H' F' r q => k c x σ H' F' r (p.trans q)
section
variable {X : Cx} {W : WX} {H0 : Hp} {F0 : Addr → Prop} {pos : Pos}
/-- an expression at the statements' level -/
theorem tE_lift {K : PySem.W.Frag} {mg : Str → Option Value} {σ : L2.St} {Γ : Gam} {H : Hp} {F : Addr → Prop} {L : List Nat} {f : Env → R D} {k : D → R Fl} {fl : Fl} {E : Ends} {Q : VK} (r : Rel K H0 F0 σ Γ H F) (e : lift (f (view L Γ)) Γ k = .ok fl) (h : FlOk K mg W H0 F0 H F E fl)
    (q : ∀ d, k d = .ok fl → ∀ v H' F', Grow H (FL F σ Γ L) H' F' → Den K H' F' v d → Q v H') : tE K mg W f σ H Q := by
  obtain ⟨re, g0⟩ := r.view L
  refine ⟨_, _, re, ?_⟩
  rcases lift_cases e with ⟨a, e1, e2⟩ | ⟨x, e1, e2⟩
  · rw [e1]; exact fun v H' F' g hd => q a e2 v H' F' g hd
  · rw [e1]; subst e2; exact fun cls y H' F' g ho => h cls y σ H' _ (r.back g) (pres_FM r g) ho
theorem tB_lift {K : PySem.W.Frag} {mg : Str → Option Value} {σ : L2.St} {Γ : Gam} {H : Hp} {F : Addr → Prop} {L : List Nat} {f : Env → R Bool} {k : Bool → R Fl} {fl : Fl} {E : Ends} {Q : Bool → Hp → Prop} (r : Rel K H0 F0 σ Γ H F) (e : lift (f (view L Γ)) Γ k = .ok fl) (h : FlOk K mg W H0 F0 H F E fl)
    (q : ∀ d, k d = .ok fl → ∀ H' F', Rel K H0 F0 σ Γ H' F' → Pres H F H' F' → Q d H') : tB_ K mg W f σ H Q := by
  obtain ⟨re, g0⟩ := r.view L
  refine ⟨_, _, re, ?_⟩
  rcases lift_cases e with ⟨a, e1, e2⟩ | ⟨x, e1, e2⟩
  · rw [e1]; exact fun H' F' g => q a e2 H' _ (r.back g) (pres_FM r g)
  · rw [e1]; subst e2; exact fun cls y H' F' g ho => h cls y σ H' _ (r.back g) (pres_FM r g) ho
/-- .. its value kept in a slot -/
theorem Rel.keep {K : PySem.W.Frag} {σ : L2.St} {Γ : Gam} {H H' : Hp} {F F' : Addr → Prop} {L : List Nat} {v : V} {d : D} (r : Rel K H0 F0 σ Γ H F) (g : Grow H (FL F σ Γ L) H' F') (hd : Den K H' F' v d) : ∃ F2, Rel K H0 F0 σ (keepG L d Γ) H' F2 ∧ Den K H' F2 v d ∧ Pres H F H' F2 := by
  unfold keepG
  by_cases c : L = [] ∨ noLst d = true
  · rw [if_pos c]
    rcases c with c | c
    · refine ⟨_, r.back g, ?_, pres_FM r g⟩
      subst c
      exact hd.pres ⟨fun _ _ h => h, fun _ _ _ h => h, fun a u f h => ⟨⟨f, fun ⟨i, hi, _⟩ => nomatch hi⟩, h⟩⟩
    · exact ⟨_, r.back g, hd.free c, pres_FM r g⟩
  · rw [if_neg c]
    exact ⟨_, r.frz g, hd, pres_F g⟩
theorem ss_nil : Ssx X W H0 F0 [] nilS := PSs.imp pss_nil fun E σ H ⟨Γ, F, r, fl, e, h⟩ => by
  cases e
  exact h σ H F r .refl
theorem seq_read {K : PySem.W.Frag} {mg : Str → Option Value} {g h : Gam → R Fl} {E : Ends} {σ : L2.St} {H : Hp} (q : tS K mg W H0 F0 (seqS g h) E σ H) : tS K mg W H0 F0 g { E with nx := tS K mg W H0 F0 h E } σ H := by
  obtain ⟨Γ, F, r, fl, e, k⟩ := q
  obtain ⟨f1, e1, e2⟩ := ok_bind' e
  refine ⟨Γ, F, r, f1, e1, ?_⟩
  cases f1 with
  | nx Γ' => exact fun σ' H' F' r' p => ⟨Γ', F', r', fl, e2, k.from p⟩
  | rt d => cases e2; exact k
  | bk Γ' => cases e2; exact k
  | ct Γ' => cases e2; exact k
  | xn e Γ' => cases e2; exact k
theorem ss_cons {st : Stmt} {sts : List Stmt} {g h : Gam → R Fl} (h1 : Sx X W H0 F0 st g) (h2 : Ssx X W H0 F0 sts h) : Ssx X W H0 F0 (st :: sts) (seqS g h) := PSs.imp (pss_cons h1 h2) fun E σ H q => seq_read q
theorem ss_one {st : Stmt} {g : Gam → R Fl} (h1 : Sx X W H0 F0 st g) : Ssx X W H0 F0 [st] g := pss_one h1
theorem st_ret (L : List Nat) {e : Expr} {f : Env → R D} (he : Ex X W e f) : Sx X W H0 F0 (.Return (some e) pos) (retS L f) := PS.imp (ps_ret he) fun E σ H ⟨Γ, F, r, fl, e, k⟩ =>
  tE_lift r e k fun d e2 v H' F' g hd => by
    cases e2
    exact k v H' F' ((r.view L).2.trans g) hd
theorem st_retN : Sx X W H0 F0 (.Return none pos) retN := PS.imp ps_retN fun E σ H ⟨Γ, F, r, fl, e, k⟩ => by
  cases e
  exact k .non H F r.gr .non
theorem st_if (L : List Nat) {c : Expr} {a b : List Stmt} {t : Env → R Bool} {g h : Gam → R Fl} (hc : Tx X W c t) (ha : Ssx X W H0 F0 a g) (hb : Ssx X W H0 F0 b h) : Sx X W H0 F0 (.If c a b pos) (ifS L t g h) := PS.imp (ps_if hc ha hb) fun E σ H ⟨Γ, F, r, fl, e, k⟩ =>
  tB_lift r e k fun d e2 H' F' r' p => by
    cases d with
    | true => exact ⟨Γ, F', r', fl, e2, k.from p⟩
    | false => exact ⟨Γ, F', r', fl, e2, k.from p⟩
theorem st_asg (L : List Nat) (i : Nat) {st : Stmt} {f : Env → R D} (h : PS X st (tAsg (tE X.K X.mg W f) (gName i))) : Sx X W H0 F0 st (setS L i f) := PS.imp h fun E σ H ⟨Γ, F, r, fl, e, k⟩ =>
  tE_lift r e k fun d e2 v H' F' g hd => by
    cases e2
    obtain ⟨F2, r2, d2, p2⟩ := r.keep g hd
    exact k _ H' F2 (r2.setda d2) p2
theorem st_set (L : List Nat) (i : Nat) {x : Str} {e : Expr} {f : Env → R D} {pos' : Pos} (he : Ex X W e f) (hN : X.N.Nodup) (hi : X.N[i]? = some x := by rfl) (hx : Loc X.env.scope x := by first | exact Or.inl rfl | exact Or.inr rfl) (hs : swapsWith e (some (.Name x pos')) pos.line X.env = pure false := by rfl)
    (hf : X.fn x = true ∨ X.env.scope.names.lookup x = some .local := by first | exact .inl rfl | exact .inr rfl) : Sx X W H0 F0 (.Assign [.Name x pos'] e pos) (setS L i f) := st_asg L i (ps_set hN hi hx he hs hf)
theorem st_asgF (L : List Nat) (i : Nat) {st : Stmt} {f : Env → R (List D)} (h : PS X st (tAsg (tF X.K X.mg W f) (gName i))) : Sx X W H0 F0 st (ownS L i f) := PS.imp h fun E σ H ⟨Γ, F, r, fl, e, k⟩ => by
  obtain ⟨re, g0⟩ := r.view L
  refine ⟨_, _, re, ?_⟩
  rcases lift_cases e with ⟨ds, e1, e2⟩ | ⟨x, e1, e2⟩
  · rw [e1]
    cases e2
    intro p vs H' F' g hp hp' nf hd hz
    have no : ∀ {Γ' : Gam}, (∀ j a, OwnAt σ Γ' j a → OwnAt σ Γ j a) → ∀ j, ¬ OwnAt σ Γ' j p := fun hh j o => by
      obtain ⟨_, _, _, z, _⟩ := r.own (hh j p o)
      rw [hp] at z; cases z
    have n0 : H0 p = none := r.gr.back hp
    have fin : ∀ {Γ' F2}, Rel X.K H0 F0 σ Γ' H' F2 → (∀ j, ¬ OwnAt σ Γ' j p) → ¬ F2 p → DenL X.K H' F2 vs ds → Pres H F H' F2 → FlOk X.K X.mg W H0 F0 H F E (.nx (Γ'.set i (.ol ds))) → E.nx (σ.set i (some (.ref p))) H' := fun {Γ' F2} r2 n2 nf2 d2 p2 k => k _ H' F2 (r2.setol hp' nf2 n0 n2 d2 hz) p2
    unfold keepGs at k
    by_cases c : L = [] ∨ noLsts ds = true
    · rw [if_pos c] at k
      refine fin (r.back g) (no fun _ _ o => o) (fun f => nf f.1) ?_ (pres_FM r g) k
      rcases c with c | c
      · subst c
        exact hd.pres ⟨fun _ _ h => h, fun _ _ _ h => h, fun a u f h => ⟨⟨f, fun ⟨i, hi, _⟩ => nomatch hi⟩, h⟩⟩
      · exact hd.free c
    · rw [if_neg c] at k
      refine fin (r.frz g) (no fun j a ⟨o1, ds', o2⟩ => ?_) nf hd (pres_F g) k
      rw [frzF_get] at o2
      cases q : Γ[j]? with
      | none => rw [q] at o2; cases o2
      | some s =>
        rw [q] at o2
        cases s with
        | un => cases o2
        | da d => cases o2
        | ol es => exact ⟨o1, es, q⟩
  · rw [e1]; subst e2; exact fun cls y H' F' g ho => k cls y σ H' _ (r.back g) (pres_FM r g) ho
theorem st_own (L : List Nat) (i : Nat) {x : Str} {e : Expr} {f : Env → R (List D)} {pos' : Pos} (he : Fx X W e f) (hN : X.N.Nodup) (hi : X.N[i]? = some x := by rfl) (hx : Loc X.env.scope x := by first | exact Or.inl rfl | exact Or.inr rfl) (hs : swapsWith e (some (.Name x pos')) pos.line X.env = pure false := by rfl)
    (hf : X.fn x = true ∨ X.env.scope.names.lookup x = some .local := by first | exact .inl rfl | exact .inr rfl) : Sx X W H0 F0 (.Assign [.Name x pos'] e pos) (ownS L i f) := st_asgF L i (ps_set hN hi hx he hs hf)
theorem st_drop (L : List Nat) {e : Expr} {f : Env → R D} (he : Ex X W e f) (hs : swapsWith e none pos.line X.env = pure false := by rfl) : Sx X W H0 F0 (.Expr e pos) (dropS L f) := PS.imp (ps_expr he hs) fun E σ H ⟨Γ, F, r, fl, e, k⟩ =>
  tE_lift r e k fun d e2 v H' F' g hd => by
    cases e2
    exact k _ H' _ (r.back g) (pres_FM r g)
theorem st_doc {x j pos'} : Sx X W H0 F0 (.Expr (.Constant (.str x) j pos) pos') nilS := PS.imp ps_doc fun E σ H ⟨Γ, F, r, fl, e, k⟩ => by
  cases e
  exact k σ H F r .refl
theorem st_pass : Sx X W H0 F0 (.Pass pos) nilS := PS.imp ps_pass fun E σ H ⟨Γ, F, r, fl, e, k⟩ => by
  cases e
  exact k σ H F r .refl
theorem st_break : Sx X W H0 F0 (.Break pos) bkS := PS.imp ps_break fun E σ H ⟨Γ, F, r, fl, e, k⟩ => by
  cases e
  exact k σ H F r .refl
theorem st_continue : Sx X W H0 F0 (.Continue pos) ctS := PS.imp ps_continue fun E σ H ⟨Γ, F, r, fl, e, k⟩ => by
  cases e
  exact k σ H F r .refl
theorem st_unp (L : List Nat) {tg e : Expr} {t : Tg} {f : Env → R D} (he : Ex X W e f) (hg : Gx X tg t) (hs : swapsWithSole [tg] e pos.line X.env = pure false := by rfl) (hw : swappedStores [tg] e X.env = pure none := by rfl) (h1 : (assignEach [tg] X.env).map (·.2) = [assign tg X.env] := by rfl) : Sx X W H0 F0 (.Assign [tg] e pos) (unpS L t f) :=
  PS.imp (ps_asg he hg hs hw h1) fun E σ H ⟨Γ, F, r, fl, e, k⟩ => tE_lift r e k fun d e2 v H' F' g hd => by
    obtain ⟨as, e3, e4⟩ := hard_bind e2
    cases e4
    obtain ⟨F2, r2, d2, p2⟩ := r.keep g hd
    exact tg_run t v d as σ _ d2 e3 fun vs p => k _ H' F2 (r2.setAll p) p2
theorem forL_step {t : Tg} {body : Gam → R Fl} {d : D} {ds : List D} {Γ : Gam} {fl : Fl} (e : forL t body (d :: ds) Γ = .ok fl) : ∃ as f1, flatT t d = .ok as ∧ body (setG Γ as) = .ok f1 ∧ (match f1 with
    | .nx Γ' => forL t body ds Γ'
    | .ct Γ' => forL t body ds Γ'
    | .bk Γ' => .ok (.nx Γ')
    | fl => .ok fl) = .ok fl := by
  unfold forL at e
  obtain ⟨as, e1, e⟩ := hard_bind e
  obtain ⟨f1, e2, e⟩ := ok_bind' e
  exact ⟨as, f1, e1, e2, e⟩
theorem st_for (L : List Nat) {tg iter : Expr} {body : List Stmt} {it : Env → R (List D)} {t : Tg} {gb : Gam → R Fl} (hp : PassesOwn (model X.prog X.w) X.A X.env X.xe) (hi : Ix X W tg iter it) (hg : Gx X tg t) (hb : Ssx X W H0 F0 body gb) (hc : X.calm = true := by rfl)
    (hs : ∀ x, foldedSetIterable iter X.env x = pure x := by intro _; rfl) : Sx X W H0 F0 (.For tg iter body [] pos) (forS L it t gb) := by
  refine PS.imp (ps_for hp hc hi hg hb hs) fun E σ H ⟨Γ, F, r, fl, e, k⟩ => ?_
  obtain ⟨re, g0⟩ := r.view L
  refine ⟨_, _, re, ?_⟩
  rcases lift_cases e with ⟨ds, e1, e2⟩ | ⟨x, e1, e2⟩
  · rw [e1]
    intro J H1 F1 g1 ⟨G, Y, wk, wG, wY⟩ hz
    have r1 := r.frz g1
    have p1 := pres_F g1
    refine for_it wk (fun i σ2 H2 => ∃ Γ2 F2, Rel X.K H0 F0 σ2 Γ2 H2 F2 ∧ Pres H1 F1 H2 F2 ∧ forL t gb (ds.drop i) Γ2 = .ok fl) ⟨_, F1, r1, .refl, by rw [List.drop_zero]; exact e2⟩ (fun i σ2 H2 hi ⟨Γ2, F2, _, p2, _⟩ => wG H2 F2 p2) (fun i x σ2 H2 H3 hi ⟨Γ2, F2, r2, p2, e3⟩ y => ?_) fun σ2 H2 ⟨Γ2, F2, r2, p2, e3⟩ => ?_
    · obtain ⟨d, ed, g3, dx⟩ := wY i H2 F2 x H3 hi p2 r2.gr.ok y
      rw [drop_get ed] at e3
      obtain ⟨as, f1, e4, e5, e6⟩ := forL_step e3
      have r3 := r2.grow g3
      refine tg_run t x d as σ2 _ dx e4 fun us p => ⟨_, F2, r3.setAll p, f1, e5, ?_⟩
      have p3 := p2.trans g3.pres
      cases f1 with
      | nx Γ' => exact fun σ' H' F' r' q => ⟨Γ', F', r', p3.trans q, e6⟩
      | ct Γ' => exact fun σ' H' F' r' q => ⟨Γ', F', r', p3.trans q, e6⟩
      | bk Γ' => cases e6; exact fun σ' H' F' r' q => k σ' H' F' r' (p1.trans (p3.trans q))
      | rt d => cases e6; exact k
      | xn e Γ' => cases e6; exact fun c x σ' H' F' r' q => k c x σ' H' F' r' (p1.trans (p3.trans q))
    · rw [List.drop_length] at e3
      cases e3
      exact k σ2 H2 F2 r2 (p1.trans p2)
  · rw [e1]; subst e2; exact fun cls y H' F' g ho => k cls y σ H' _ (r.back g) (pres_FM r g) ho
end
end RB

set_option Elab.async false
set_option linter.all false
set_option maxRecDepth 100000
set_option maxHeartbeats 4000000
namespace RB
open PySem PySem.Spec PyProof.Rows L2
section
variable {K : PySem.W.Frag} {H0 H H' : Hp} {F0 F F' : Addr → Prop} {σ : L2.St} {Γ : Gam} {L : List Nat}
theorem own_keep {i : Nat} {a : Addr} {d : D} (o : OwnAt σ Γ i a) (h : i ∈ L → noLst d = true) : OwnAt σ (keepG L d Γ) i a := by
  unfold keepG
  by_cases c : L = [] ∨ noLst d = true
  · rw [if_pos c]; exact o
  · rw [if_neg c]
    obtain ⟨o1, ds, o2⟩ := o
    refine ⟨o1, ds, ?_⟩
    have hn : ¬ (0 + i ∈ L) := fun z => c (.inr (h (by simpa using z)))
    rw [frzF_get, o2, Option.map_some]
    simp only [if_neg hn]
theorem listAt_ok {i : Nat} {ys : List D} (e : listAt i Γ = .ok ys) : Γ[i]? = some (.ol ys) := by
  unfold listAt at e
  split at e
  · rename_i ds h; cases e; exact h
  · cases e
theorem Rel.ownOf (r : Rel K H0 F0 σ Γ H F) {i : Nat} {ys : List D} (e : Γ[i]? = some (.ol ys)) : ∃ a vs, OwnAt σ Γ i a ∧ H a = some (.lst vs) ∧ ¬ F a ∧ DenL K H F vs ys ∧ vs.length ≤ sizeLine := by
  obtain ⟨o, e1, a, vs, e2, e3, e4, e5, e6⟩ := r.at_ i _ e
  exact ⟨a, vs, ⟨by rw [e1, e2], ys, e⟩, e3, e4, e5, e6⟩
end
section
variable {X : Cx} {W : WX} {H0 : Hp} {F0 : Addr → Prop} {pos apos cpos : Pos}
theorem r_own {K : PySem.W.Frag} {H0 H : Hp} {F0 F : Addr → Prop} {σ : L2.St} {Γ : Gam} {i : Nat} {a : Addr} (r : Rel K H0 F0 σ Γ H F) (o : OwnAt σ Γ i a) {es : List D} (e : Γ[i]? = some (.ol es)) : ∃ vs, H a = some (.lst vs) ∧ ¬ F a ∧ DenL K H F vs es ∧ vs.length ≤ sizeLine := by
  obtain ⟨ds, vs, h1, h2, h3, h4, h5⟩ := r.own o
  rw [e] at h1; cases h1
  exact ⟨vs, h2, h3, h4, h5⟩
theorem keepG_at {L : List Nat} {Γ : Gam} {i : Nat} {d : D} {ys : List D} (e : Γ[i]? = some (.ol ys)) (h : i ∈ L → noLst d = true) : (keepG L d Γ)[i]? = some (.ol ys) := by
  unfold keepG
  by_cases c : L = [] ∨ noLst d = true
  · rw [if_pos c]; exact e
  · rw [if_neg c]
    have hn : ¬ (0 + i ∈ L) := fun z => c (.inr (h (by simpa using z)))
    rw [frzF_get, e, Option.map_some]
    simp only [if_neg hn]
theorem st_app (L : List Nat) (i : Nat) {x : Str} {px : Pos} {e : Expr} {f : Env → R D} (he : Exs X W [e] [f]) (hN : X.N[i]? = some x := by rfl) (hv : Vis X.env.scope x := by first | exact Or.inl rfl | exact Or.inr (Or.inl rfl) | exact Or.inr (Or.inr rfl))
    (hd : (x == ("__debug__" : Str)) = false := by decide) (hcd : (x == ("__classdict__" : Str)) = false := by decide)
    (hbase : attributeBase (.Name x px) "append" X.env (eval (.Name x px) X.env) = eval (.Name x px) X.env := by rfl)
    (hfew : ((backTo cpos (starEach [e] X.env)).all (fun x => !x.1) && (backToKw cpos (keywordEach [] X.env)).all (fun x => x.1.isSome)
      && decide ([e].length + ([] : List Keyword).length + (if ([] : List Keyword).isEmpty then 0 else 1) < 30)) = true := by rfl)
    (hline : (apos.endLine == cpos.line) = true := by rfl) (hse : starEach [e] X.env = (false, eval e X.env) :: starEach [] X.env := by rfl)
    (hs : swapsWith (.Call (.Attribute (.Name x px) "append" apos) [e] [] cpos) none pos.line X.env = pure false := by rfl) : Sx X W H0 F0 (.Expr (.Call (.Attribute (.Name x px) "append" apos) [e] [] cpos) pos) (appS L i f) := by
  have h : PE X (.Call (.Attribute (.Name x px) "append" apos) [e] [] cpos) (tBM X.K "list" rAppend (tVar i) (tEs X.K X.mg W [f])) := pe_bm PySem.F.plainAttrs_list PySem.F.slot_list_append PySem.F.type_list_append mt_append (pe_var hN hv hd hcd) he hbase hfew hline hse rfl
  refine PS.imp (ps_expr h hs) fun E σ H ⟨Γ, F, r, fl, e, k⟩ => ?_
  obtain ⟨ys, e1, e⟩ := ok_bind' e
  have e1 := listAt_ok e1
  obtain ⟨a, vs, ow, ha, hn, hden, hz⟩ := r.ownOf e1
  obtain ⟨re, g0⟩ := r.view L
  refine ⟨.ref a, ow.1, .inl ⟨rfl, vs, SqL.of ha⟩, _, _, re, ?_⟩
  rcases lift_cases e with ⟨d, e2, e3⟩ | ⟨x, e2, e3⟩
  · by_cases c : ys.length < 16777216 ∧ (i ∈ L → noLst d = true)
    · rw [if_pos c] at e3
      cases e3
      show R.wp (f (view L Γ) >>= fun d => R.ok [] >>= fun ds => R.ok (d :: ds)) _ _
      rw [e2]
      intro vs' H' F' g hd
      cases hd with
      | cons hd hnil =>
      cases hnil
      obtain ⟨F2, r2, d2, p2⟩ := r.keep g hd
      have o2 := own_keep ow c.2
      obtain ⟨ws, h2, n2, hden2, hz2⟩ := r_own r2 o2 (keepG_at e1 c.2)
      have hl : ws.length < sizeLine := by rw [hden2.length]; exact c.1
      refine ⟨a, ws, _, rfl, rfl, h2, hl, ?_⟩
      exact k _ _ F2 (r2.upd o2 (hden2.append (.cons d2 .nil)) (by rw [List.length_append, List.length_singleton]; exact hl)) (p2.trans (pres_upd h2 n2))
    · rw [if_neg c] at e3; cases e3
  · show R.wp (f (view L Γ) >>= fun d => R.ok [] >>= fun ds => R.ok (d :: ds)) _ _
    rw [e2]
    subst e3
    exact fun cls y H' F' g ho => k cls y σ H' _ (r.back g) (pres_FM r g) ho
theorem putAt_ok {ys zs : List D} {k d : D} (e : putAt ys k d = .ok zs) : ∃ (m : Int) (j : Nat), k = .int m ∧ ixN ys.length m = some j ∧ noLst d = true ∧ zs = ys.set j d := by
  unfold putAt at e
  cases k with
  | int m =>
    cases q : ixN ys.length m with
    | none => simp only [q] at e; cases e
    | some j =>
      simp only [q] at e
      by_cases c : noLst d = true
      · simp only [if_pos c] at e; cases e; exact ⟨m, j, rfl, q, c, rfl⟩
      · simp only [if_neg c] at e; cases e
  | _ => cases e
theorem lift_bind {α : Type} {r : R α} {Γ : Gam} {k : α → R Fl} {fl : Fl} (h : lift r Γ k = .ok fl) : True := trivial
theorem st_put (L : List Nat) (i : Nat) {x : Str} {px : Pos} {ei e : Expr} {fe fi : Env → R D} {tpos : Pos} (he : Ex X W e fe) (hi : Ex X W ei fi) (hN : X.N[i]? = some x := by rfl) (hv : Vis X.env.scope x := by first | exact Or.inl rfl | exact Or.inr (Or.inl rfl) | exact Or.inr (Or.inr rfl))
    (hd : (x == ("__debug__" : Str)) = false := by decide) (hcd : (x == ("__classdict__" : Str)) = false := by decide)
    (ha : ∀ v, assign (.Subscript (.Name x px) ei tpos) X.env v = (do
      let ov ← holding [v] (eval (.Name x px) X.env)
      let iv ← holding [v, ov] (eval ei X.env)
      standAt tpos
      holding [v, ov, iv] (setItem ov iv v)
      release [v, ov, iv] []) := by intro _; rfl)
    (hs : swapsWithSole [.Subscript (.Name x px) ei tpos] e pos.line X.env = pure false := by rfl) (hw : swappedStores [.Subscript (.Name x px) ei tpos] e X.env = pure none := by rfl)
    (h1 : (assignEach [.Subscript (.Name x px) ei tpos] X.env).map (·.2) = [assign (.Subscript (.Name x px) ei tpos) X.env] := by rfl) : Sx X W H0 F0 (.Assign [.Subscript (.Name x px) ei tpos] e pos) (putS L i fe fi) := by
  refine PS.imp (ps_asg he (pg_sub (pe_var hN hv hd hcd) hi set_list ha) hs hw h1) fun E σ H ⟨Γ, F, r, fl, e, k⟩ => ?_
  obtain ⟨ys, e1, e⟩ := ok_bind' e
  have e1 := listAt_ok e1
  obtain ⟨re, g0⟩ := r.view L
  refine ⟨_, _, re, ?_⟩
  rcases lift_cases e with ⟨d, e2, e3⟩ | ⟨y, e2, e3⟩
  · rw [e2]
    intro v H1 F1 g1 hd1
    have r1 := r.back g1
    have p1 := pres_FM r g1
    obtain ⟨a, vs, ow, ha, hn, hden, hz⟩ := r1.ownOf e1
    refine ⟨.ref a, ow.1, ?_⟩
    obtain ⟨re1, _⟩ := r1.view L
    refine ⟨_, _, re1, ?_⟩
    rcases lift_cases e3 with ⟨m, e4, e5⟩ | ⟨y, e4, e5⟩
    · rw [e4]
      obtain ⟨zs, e6, e7⟩ := ok_bind' e5
      cases e7
      obtain ⟨mi, j, rfl, hj, nl, rfl⟩ := putAt_ok e6
      intro w H2 F2 g2 hw2
      cases hw2
      have r2 := r1.back g2
      have p2 := pres_FM r1 g2
      obtain ⟨ws, h2, n2, hden2, hz2⟩ := r_own r2 ow e1
      refine ⟨a, ws, mi, j, rfl, rfl, h2, by rw [hden2.length]; exact hj, ?_⟩
      have dv : Den X.K H2 (FM F2 σ Γ L) v d := ((hd1.pres (F' := F2) ⟨fun a xs h => g2.same a _ h, fun a o u h => g2.same a _ h, fun a u f h => by
        refine ⟨?_, g2.same a u h⟩
        by_cases hq : ∃ i, i ∈ L ∧ OwnAt σ Γ i a
        · exact g2.fro a (.inr hq)
        · exact g2.fro a (.inl ⟨f, hq⟩)⟩).free nl)
      exact k _ _ _ (r2.upd ow (DenL.set dv j hden2) (by rw [List.length_set]; exact hz2)) (p1.trans (p2.trans (pres_upd h2 n2)))
    · rw [e4]
      subst e5
      exact fun cls y H' F' g ho => k cls y σ H' _ (r1.back g) (p1.trans (pres_FM r1 g)) ho
  · rw [e2]
    subst e3
    exact fun cls y H' F' g ho => k cls y σ H' _ (r.back g) (pres_FM r g) ho
theorem st_never {st : Stmt} : Sx X W H0 F0 st (fun _ => .stuck) := ⟨fun pins s σ H E I ⟨Γ, F, r, fl, e, k⟩ => nomatch e⟩
theorem sts_never {st : List Stmt} : Ssx X W H0 F0 st (fun _ => .stuck) := ⟨fun pins s σ H E I ⟨Γ, F, r, fl, e, k⟩ => nomatch e⟩
end
section
variable {X : Cx} {W : WX} {H0 : Hp} {F0 : Addr → Prop} {pos apos cpos : Pos}
def addI : D → D → R D
  | .int i, .int j => .ok (.int (i + j))
  | _, _ => .stuck
def subI : D → D → R D
  | .int i, .int j => .ok (.int (i - j))
  | _, _ => .stuck
def IpI (X : Cx) (op : Operator) (g : D → D → R D) : Prop := ∃ f : Int → Int → Int, OpR X (inplaceOp op) (rI0 fun i j => .int (f i j)) ∧ ∀ x y z, g x y = .ok z → ∃ i j, x = .int i ∧ y = .int j ∧ z = .int (f i j)
theorem ip_addI : IpI X .Add addI := ⟨_, iop_add, fun x y z e => by
  unfold addI at e
  split at e
  · cases e; exact ⟨_, _, rfl, rfl, rfl⟩
  · cases e⟩
theorem ip_subI : IpI X .Sub subI := ⟨_, iop_sub, fun x y z e => by
  unfold subI at e
  split at e
  · cases e; exact ⟨_, _, rfl, rfl, rfl⟩
  · cases e⟩
theorem st_aug (L : List Nat) (i : Nat) {x : Str} {e : Expr} {op : Operator} {f : Env → R D} {g : D → D → R D} {pos' : Pos} (ho : IpI X op g) (he : Ex X W e f) (hN : X.N.Nodup) (hi : X.N[i]? = some x := by rfl) (hx : Loc X.env.scope x := by first | exact Or.inl rfl | exact Or.inr rfl)
    (hf : X.fn x = true ∨ X.env.scope.names.lookup x = some .local := by first | exact .inl rfl | exact .inr rfl) : Sx X W H0 F0 (.AugAssign (.Name x pos') op e pos) (augS L i g f) := by
  obtain ⟨fo, ho, hg⟩ := ho
  refine PS.imp (ps_aug hN hi hx he ho hf) fun E σ H ⟨Γ, F, r, fl, e, k⟩ => ?_
  unfold augS at e
  split at e
  · rename_i d q
    obtain ⟨o, e1, v, e2, hd⟩ := r.at_ i _ q
    subst e2
    refine ⟨v, e1, tE_lift r e k fun y e3 w H' F' g1 hw => ?_⟩
    obtain ⟨z, e4, e5⟩ := hard_bind e3
    by_cases c : noLst z = true
    · rw [if_pos c] at e5
      cases e5
      obtain ⟨a, b, rfl, rfl, rfl⟩ := hg _ _ _ e4
      cases hd
      cases hw
      refine ⟨a, b, rfl, rfl, ?_⟩
      exact k _ _ _ ((r.back g1).setda (.int _)) (pres_FM r g1)
    · rw [if_neg c] at e5; cases e5
  · cases e
theorem whileN_le {L : List Nat} {t : Env → R Bool} {body : Gam → R Fl} {fl : Fl} : ∀ {n m : Nat} {Γ : Gam}, n ≤ m → whileN L t body n Γ = .ok fl → whileN L t body m Γ = .ok fl
  | 0, _, _, _, e => by cases e
  | n + 1, 0, _, h, _ => absurd h (Nat.not_succ_le_zero n)
  | n + 1, m + 1, Γ, h, e => by
    unfold whileN at e ⊢
    cases q : t (view L Γ) with
    | exn x => rw [q] at e; exact e
    | stuck => rw [q] at e; cases e
    | ok b =>
      rw [q] at e
      rw [lift_ok] at e ⊢
      cases b with
      | false => exact e
      | true =>
        rw [if_pos rfl] at e ⊢
        obtain ⟨f1, e1, e2⟩ := ok_bind' e
        rw [e1]
        have h' := Nat.le_of_succ_le_succ h
        cases f1 with
        | nx Γ' => exact whileN_le h' e2
        | ct Γ' => exact whileN_le h' e2
        | bk Γ' => exact e2
        | rt d => exact e2
        | xn x Γ' => exact e2
theorem whileS_ok {L : List Nat} {t : Env → R Bool} {body : Gam → R Fl} {fl : Fl} {Γ : Gam} (e : whileS L t body Γ = .ok fl) : ∃ n, whileN L t body n Γ = .ok fl := by
  unfold whileS at e
  by_cases h : ∃ n fl, whileN L t body n Γ = .ok fl
  · rw [dif_pos h] at e
    cases e
    exact ⟨_, Classical.choose_spec (Classical.choose_spec h)⟩
  · rw [dif_neg h] at e; cases e
theorem whileS_of {L : List Nat} {t : Env → R Bool} {body : Gam → R Fl} {fl : Fl} {Γ : Gam} {n : Nat} (e : whileN L t body n Γ = .ok fl) : whileS L t body Γ = .ok fl := by
  have h : ∃ n fl, whileN L t body n Γ = .ok fl := ⟨n, fl, e⟩
  have q : whileS L t body Γ = .ok (Classical.choose (Classical.choose_spec h)) := by unfold whileS; rw [dif_pos h]
  obtain ⟨m, e2⟩ := whileS_ok q
  rw [q]
  have a := whileN_le (Nat.le_max_left n m) e
  have b := whileN_le (Nat.le_max_right n m) e2
  rw [a] at b
  exact b.symm
theorem st_while (L : List Nat) {c : Expr} {body : List Stmt} {t : Env → R Bool} {gb : Gam → R Fl} (hp : PassesOwn (model X.prog X.w) X.A X.env X.xe) (hc : Tx X W c t) (hb : Ssx X W H0 F0 body gb) : Sx X W H0 F0 (.While c body [] pos) (whileS L t gb) := by
  refine PS.imp (ps_while hp hc hb) fun E σ H ⟨Γ, F, r, fl, e, k⟩ => ?_
  obtain ⟨n, e⟩ := whileS_ok e
  refine ⟨fun m σ2 H2 => ∃ Γ2 F2, Rel X.K H0 F0 σ2 Γ2 H2 F2 ∧ whileN L t gb m Γ2 = .ok fl ∧ FlOk X.K X.mg W H0 F0 H2 F2 E fl, ⟨n, Γ, F, r, e, k⟩, fun m σ2 H2 ⟨Γ2, F2, r2, e2, k2⟩ => ?_⟩
  cases m with
  | zero => cases e2
  | succ m =>
    unfold whileN at e2
    refine tB_lift r2 e2 k2 fun b e3 H3 F3 r3 p3 => ?_
    have k3 := k2.from p3
    cases b with
    | false =>
      rw [if_neg (by decide)] at e3 ⊢
      cases e3
      exact k3 σ2 H3 F3 r3 .refl
    | true =>
      rw [if_pos rfl] at e3 ⊢
      obtain ⟨f1, e4, e5⟩ := ok_bind' e3
      refine ⟨fun σ' H' => ∃ Γ' F', Rel X.K H0 F0 σ' Γ' H' F' ∧ whileN L t gb m Γ' = .ok fl ∧ FlOk X.K X.mg W H0 F0 H' F' E fl, fun σ' H' q => ⟨m, Nat.lt_succ_self m, q⟩, Γ2, F3, r3, f1, e4, ?_⟩
      cases f1 with
      | nx Γ' => exact fun σ' H' F' r' p => ⟨Γ', F', r', e5, k3.from p⟩
      | ct Γ' => exact fun σ' H' F' r' p => ⟨Γ', F', r', e5, k3.from p⟩
      | bk Γ' => cases e5; exact k3
      | rt d => cases e5; exact k3
      | xn x Γ' => cases e5; exact k3
/-- y = [..] -/
theorem sw_t {elt : Expr} {gs : List Comprehension} {scope : Scope} {pos py : Pos} {y : Str} {l : Nat} {env : Env} : True := trivial
theorem st_lc (L : List Nat) (i : Nat) {y : Str} {py : Pos} {elt tg iter : Expr} {ifs : List Expr} {scope : Scope} {own : List (Str × Nat)} {spos : Pos} {it : Env → R (List D)} {t : Tg} {fi : Env → R Bool} {fe : Env → R D} (hN : X.N.Nodup) (hi : Ix X W tg iter it) (ok : BlkOk X.N X.env.scope scope own)
    (hsl : ∀ i ∈ slotsT t, i ∈ own.map (·.2))
    (hg : ∀ (s : Shared) (H : Hp) (C : Addr) (cl : List (Str × Addr)) (fp : List Addr), Gx (X.blk s H scope (compEnvC scope cl C X.env) fp) tg t) (ht : ∀ (s : Shared) (H : Hp) (C : Addr) (cl : List (Str × Addr)) (fp : List Addr), Txs (X.blk s H scope (compEnvC scope cl C X.env) fp) W0 ifs fi)
    (he : ∀ (s : Shared) (H : Hp) (C : Addr) (cl : List (Str × Addr)) (fp : List Addr), Ex (X.blk s H scope (compEnvC scope cl C X.env) fp) W0 elt fe)
    (hsw : swapsWith (.ListComp elt [⟨tg, iter, ifs, 0⟩] scope pos) (some (.Name y py)) spos.line X.env = pure true) (hy : X.N[i]? = some y := by rfl) (hyl : X.env.scope.names.lookup y = some .local := by rfl) (hc : X.calm = true := by rfl) (hs : ∀ x, foldedSetIterable iter X.env x = pure x := by intro _; rfl) :
    Sx X W H0 F0 (.Assign [.Name y py] (.ListComp elt [⟨tg, iter, ifs, 0⟩] scope pos) spos) (ownS L i (compE (own.map (·.2)) it t fi fe)) := by
  refine st_asgF L i (PS.imp (ps_setLc (g := tgR X.K t) (tt := tB_ X.K X.mg W0 fi) (te := tE X.K X.mg W0 fe) hc hN hy hyl hsw hi ok hg ht he hs) fun E σ H ⟨ε, F, re, q⟩ => ⟨ε, F, re, ?_⟩)
  exact lc_read (Q := fun x H1 => gName i x σ H1 E.nx) re hsl q
theorem st_lc2 (L : List Nat) (i : Nat) {y : Str} {py : Pos} {elt tg iter tg1 iter1 : Expr} {ifs ifs1 : List Expr} {scope : Scope} {own : List (Str × Nat)} {vs1 : List Nat} {spos : Pos} {it it1 : Env → R (List D)} {t t1 : Tg} {fi fi1 : Env → R Bool} {fe : Env → R D} (hN : X.N.Nodup) (hi : Ix X W tg iter it) (ok : BlkOk X.N X.env.scope scope own) (hv : ∀ i ∈ vs1, i ∈ own.map (·.2))
    (hsl : ∀ i ∈ slotsT t, i ∈ own.map (·.2)) (hsl1 : ∀ i ∈ slotsT t1, i ∈ vs1)
    (hg : ∀ (s : Shared) (H : Hp) (C : Addr) (cl : List (Str × Addr)) (fp : List Addr), Gx (X.blk s H scope (compEnvC scope cl C X.env) fp) tg t) (ht : ∀ (s : Shared) (H : Hp) (C : Addr) (cl : List (Str × Addr)) (fp : List Addr), Txs (X.blk s H scope (compEnvC scope cl C X.env) fp) W0 ifs fi)
    (hi1 : ∀ (s : Shared) (H : Hp) (C : Addr) (cl : List (Str × Addr)) (fp : List Addr), Ix (X.blk s H scope (compEnvC scope cl C X.env) fp) W0 tg1 iter1 it1)
    (hg1 : ∀ (s : Shared) (H : Hp) (C : Addr) (cl : List (Str × Addr)) (fp : List Addr), Gx (X.blk s H scope (compEnvC scope cl C X.env) fp) tg1 t1) (ht1 : ∀ (s : Shared) (H : Hp) (C : Addr) (cl : List (Str × Addr)) (fp : List Addr), Txs (X.blk s H scope (compEnvC scope cl C X.env) fp) W0 ifs1 fi1)
    (he : ∀ (s : Shared) (H : Hp) (C : Addr) (cl : List (Str × Addr)) (fp : List Addr), Ex (X.blk s H scope (compEnvC scope cl C X.env) fp) W0 elt fe)
    (hsw : swapsWith (.ListComp elt [⟨tg, iter, ifs, 0⟩, ⟨tg1, iter1, ifs1, 0⟩] scope pos) (some (.Name y py)) spos.line X.env = pure true) (hy : X.N[i]? = some y := by rfl) (hyl : X.env.scope.names.lookup y = some .local := by rfl) (hc : X.calm = true := by rfl) (hs : ∀ x, foldedSetIterable iter X.env x = pure x := by intro _; rfl) (hs1 : ∀ env x, foldedSetIterable iter1 env x = pure x := by intro _ _; rfl) :
    Sx X W H0 F0 (.Assign [.Name y py] (.ListComp elt [⟨tg, iter, ifs, 0⟩, ⟨tg1, iter1, ifs1, 0⟩] scope pos) spos) (ownS L i (comp2E (own.map (·.2)) vs1 it t fi it1 t1 fi1 fe)) := by
  refine st_asgF L i (PS.imp (ps_setLc2 (g := tgR X.K t) (tt := tB_ X.K X.mg W0 fi) (g1 := tgR X.K t1) (tt1 := tB_ X.K X.mg W0 fi1) (wi1 := tI X.K X.mg W0 it1) (te := tE X.K X.mg W0 fe) hc hN hy hyl hsw hi ok hv hg ht hi1 hg1 ht1 he hs hs1) fun E σ H ⟨ε, F, re, q⟩ => ⟨ε, F, re, ?_⟩)
  exact lc2_read (Q := fun x H1 => gName i x σ H1 E.nx) re hsl hsl1 q
end
end RB

set_option Elab.async false
set_option linter.all false
set_option maxRecDepth 100000
set_option maxHeartbeats 4000000
namespace RB
open PySem PySem.Spec PyProof.Rows L2
/-! ### defs -/
def gam0 (n : Nat) (ds : List D) : Gam := ds.map Sl.da ++ List.replicate (n - ds.length) Sl.un
def endR : R Fl → R D
  | .ok (.nx _) => .ok .none
  | .ok (.rt d) => .ok d
  | .ok (.xn e _) => .exn e
  | _ => .stuck
/-- a body over n slots, as a function -/
def runS (n : Nat) (g : Gam → R Fl) : List D → R D := fun ds => endR (g (gam0 n ds))
abbrev WD (E : XK) : WX := fun cls d _ H => E cls d H
theorem rel_start {K : PySem.W.Frag} {H : Hp} {F : Addr → Prop} {N : List Str} {vs : List V} {ds : List D} (ok : FOk H F) (h : DenL K H F vs ds) : Rel K H F (start N vs) (gam0 N.length ds) H F := by
  have hl := h.length
  have ow : ∀ {i a}, ¬ OwnAt (start N vs) (gam0 N.length ds) i a := fun {i a} ⟨_, es, o2⟩ => by
    unfold gam0 at o2
    by_cases hi : i < ds.length
    · rw [List.getElem?_append_left (by rw [List.length_map]; exact hi), List.getElem?_map] at o2
      cases q : ds[i]? with
      | none => rw [q] at o2; cases o2
      | some d => rw [q] at o2; cases o2
    · rw [List.getElem?_append_right (by rw [List.length_map]; omega)] at o2
      rw [List.getElem?_replicate] at o2
      split at o2
      · cases o2
      · cases o2
  refine ⟨by simp only [L2.start, gam0, List.length_append, List.length_map, List.length_replicate, hl], fun i s e => ?_, fun i j a o => absurd o ow, fun i a o => absurd o ow, .refl ok⟩
  unfold gam0 at e
  by_cases hi : i < ds.length
  · rw [List.getElem?_append_left (by rw [List.length_map]; exact hi), List.getElem?_map] at e
    cases q : ds[i]? with
    | none => rw [q] at e; cases e
    | some d =>
      rw [q] at e
      cases e
      obtain ⟨v, e1, hd⟩ := h.getD q
      refine ⟨some v, ?_, v, rfl, hd⟩
      unfold L2.start
      rw [List.getElem?_append_left (by rw [List.length_map, hl]; exact hi), List.getElem?_map, e1]
      rfl
  · rw [List.getElem?_append_right (by rw [List.length_map]; omega), List.getElem?_replicate] at e
    split at e
    · cases e
      rename_i hq
      rw [List.length_map] at hq
      refine ⟨none, ?_, trivial⟩
      unfold L2.start
      rw [List.getElem?_append_right (by rw [List.length_map]; omega), List.getElem?_replicate, List.length_map, hl, if_pos hq]
    · cases e
section
variable {P : Program} {w : World} {K : PySem.W.Frag} {mg : Str → Option Value} {base : Heap}
theorem cal_mk {x qual : Str} {st : Stmt} {f : Addr} {fd : FuncData} {N ps : List Str} {k : Nat} {g : Gam → R Fl} (n : Nat) (F : Fun K x qual st f fd) (S : FnScope N ps (defScope st)) (hm : mg x = some (.ref f))
    (hb : ∀ (kV doc pm : Value) (an : Option Addr) (cdv ct : Value) (us : List Value), us.length = ps.length → bindArgs (PySem.W.fnOf x qual (defArgs st) (defBody st) (defScope st) .none kV doc pm an cdv ct) ⟨us, []⟩ = pure (ps.zip us))
    (hbody : ∀ (cdv : Value) (A : Around) (outer : List PySem.Env) (s : Shared) (H : Hp) (E : XK) (F0 : Addr → Prop), Room k (A.deeper (envOfC qual (defScope st) s.heap.objs.size f cdv)) →
      Ssx (cxOf (L2.CX P w) P w K mg base N qual (defScope st) f cdv A outer s H E) (WD E) H F0 (defBody st) g) (hn : ps.length = n := by rfl) : Cal P w K mg base (k + 1) x n (runS N.length g) := by
  subst hn
  refine ⟨f, fd, ps, hm, F.kp, F.binds hb, rfl, F.okX S (fun vs H Q E h => h.1) fun cdv A outer s H vs Q E hr ⟨hl, ds, F1, ok, hd, q⟩ => ⟨_, hbody cdv A outer s H E F1 hr, ?_⟩⟩
  unfold runS at q
  refine ⟨_, F1, rel_start ok hd, ?_⟩
  show ∃ fl, g (gam0 N.length ds) = .ok fl ∧ _
  cases e : g (gam0 N.length ds) with
  | exn x => rw [e] at q; exact q.elim
  | stuck => rw [e] at q; exact q.elim
  | ok fl =>
    refine ⟨fl, rfl, ?_⟩
    rw [e] at q
    cases fl with
    | nx Γ => exact fun σ H' F' r p => q .non H' F' r.gr .non
    | rt d => exact fun v H' F' g hd => q v H' F' g hd
    | bk Γ => exact q.elim
    | ct Γ => exact q.elim
    | xn e Γ => exact fun cls y σ H' F' r p ho => q cls y H' F' r.gr ho
theorem Cal.le {k j n : Nat} {x : Str} {S : List D → R D} (C : Cal P w K mg base k x n S) (h : k ≤ j) : Cal P w K mg base j x n S := by
  obtain ⟨f, fd, ps, h1, h3, h4, h5, F⟩ := C
  exact ⟨f, fd, ps, h1, h3, h4, h5, F.mono h⟩
/-- what the def answers, when its answer is wanted only there -/
theorem Cal.imp {k n : Nat} {x : Str} {S S' : List D → R D} (C : Cal P w K mg base k x n S) (h : ∀ ds d, S' ds = .ok d → S ds = .ok d) (h2 : ∀ ds e, S' ds = .exn e → S ds = .exn e) : Cal P w K mg base k x n S' := by
  obtain ⟨f, fd, ps, h1, h3, h4, h5, F⟩ := C
  refine ⟨f, fd, ps, h1, h3, h4, h5, ?_⟩
  exact F.imp fun vs H Q E ⟨hl, ds, F1, ok, hd, q⟩ => ⟨hl, ds, F1, ok, hd, by
    cases e : S' ds with
    | ok d => rw [h ds d e]; rw [e] at q; exact q
    | exn x => rw [h2 ds x e]; rw [e] at q; exact q
    | stuck => rw [e] at q; exact q.elim⟩
end
section
variable {X : Cx} {W : WX}
theorem fx_data {f : Env → R (List D)} {e : Expr} (h : Fx X W e f) : Ex X W e (fun ε => f ε >>= fun ds => .ok (.list ds)) := h.ex
end
def dataF (f : Env → R (List D)) : Env → R D := fun ε => f ε >>= fun ds => .ok (.list ds)
theorem tF_data {K : PySem.W.Frag} {mg : Str → Option Value} {W : WX} {f : Env → R (List D)} {σ : L2.St} {H : Hp} {Q : VK} (h : tE K mg W (dataF f) σ H Q) : tF K mg W f σ H Q := by
  obtain ⟨ε, F, re, q⟩ := h
  refine ⟨ε, F, re, ?_⟩
  refine R.wp_mono (R.wp_bind q) (fun ds k p vs H' F' g hp hp' nf hd hz => ?_) (fun e k => k)
  exact k _ _ _ (grow_freeze g hp hp') (.lst (.inl (.inl ⟨hp', .inr rfl⟩)) (hd.pres pres_freeze) hz)
section
variable {X : Cx} {W : WX} {H0 : Hp} {F0 : Addr → Prop} {pos : Pos}
/-- y = [..], y data -/
theorem st_lcD (L : List Nat) (i : Nat) {y : Str} {py : Pos} {elt tg iter : Expr} {ifs : List Expr} {scope : Scope} {own : List (Str × Nat)} {spos : Pos} {it : Env → R (List D)} {t : Tg} {fi : Env → R Bool} {fe : Env → R D} (hN : X.N.Nodup) (hi : Ix X W tg iter it) (ok : BlkOk X.N X.env.scope scope own)
    (hsl : ∀ i ∈ slotsT t, i ∈ own.map (·.2))
    (hg : ∀ (s : Shared) (H : Hp) (C : Addr) (cl : List (Str × Addr)) (fp : List Addr), Gx (X.blk s H scope (compEnvC scope cl C X.env) fp) tg t) (ht : ∀ (s : Shared) (H : Hp) (C : Addr) (cl : List (Str × Addr)) (fp : List Addr), Txs (X.blk s H scope (compEnvC scope cl C X.env) fp) W0 ifs fi)
    (he : ∀ (s : Shared) (H : Hp) (C : Addr) (cl : List (Str × Addr)) (fp : List Addr), Ex (X.blk s H scope (compEnvC scope cl C X.env) fp) W0 elt fe)
    (hsw : swapsWith (.ListComp elt [⟨tg, iter, ifs, 0⟩] scope pos) (some (.Name y py)) spos.line X.env = pure true) (hy : X.N[i]? = some y := by rfl) (hyl : X.env.scope.names.lookup y = some .local := by rfl) (hc : X.calm = true := by rfl) (hs : ∀ x, foldedSetIterable iter X.env x = pure x := by intro _; rfl) :
    Sx X W H0 F0 (.Assign [.Name y py] (.ListComp elt [⟨tg, iter, ifs, 0⟩] scope pos) spos) (setS L i (dataF (compE (own.map (·.2)) it t fi fe))) := by
  refine st_asg L i (PS.imp (ps_setLc (g := tgR X.K t) (tt := tB_ X.K X.mg W0 fi) (te := tE X.K X.mg W0 fe) hc hN hy hyl hsw hi ok hg ht he hs) fun E σ H h => ?_)
  obtain ⟨ε, F, re, q⟩ := tF_data h
  exact ⟨ε, F, re, lc_read (Q := fun x H1 => gName i x σ H1 E.nx) re hsl q⟩
theorem st_lc2D (L : List Nat) (i : Nat) {y : Str} {py : Pos} {elt tg iter tg1 iter1 : Expr} {ifs ifs1 : List Expr} {scope : Scope} {own : List (Str × Nat)} {vs1 : List Nat} {spos : Pos} {it it1 : Env → R (List D)} {t t1 : Tg} {fi fi1 : Env → R Bool} {fe : Env → R D} (hN : X.N.Nodup) (hi : Ix X W tg iter it) (ok : BlkOk X.N X.env.scope scope own) (hv : ∀ i ∈ vs1, i ∈ own.map (·.2))
    (hsl : ∀ i ∈ slotsT t, i ∈ own.map (·.2)) (hsl1 : ∀ i ∈ slotsT t1, i ∈ vs1)
    (hg : ∀ (s : Shared) (H : Hp) (C : Addr) (cl : List (Str × Addr)) (fp : List Addr), Gx (X.blk s H scope (compEnvC scope cl C X.env) fp) tg t) (ht : ∀ (s : Shared) (H : Hp) (C : Addr) (cl : List (Str × Addr)) (fp : List Addr), Txs (X.blk s H scope (compEnvC scope cl C X.env) fp) W0 ifs fi)
    (hi1 : ∀ (s : Shared) (H : Hp) (C : Addr) (cl : List (Str × Addr)) (fp : List Addr), Ix (X.blk s H scope (compEnvC scope cl C X.env) fp) W0 tg1 iter1 it1)
    (hg1 : ∀ (s : Shared) (H : Hp) (C : Addr) (cl : List (Str × Addr)) (fp : List Addr), Gx (X.blk s H scope (compEnvC scope cl C X.env) fp) tg1 t1) (ht1 : ∀ (s : Shared) (H : Hp) (C : Addr) (cl : List (Str × Addr)) (fp : List Addr), Txs (X.blk s H scope (compEnvC scope cl C X.env) fp) W0 ifs1 fi1)
    (he : ∀ (s : Shared) (H : Hp) (C : Addr) (cl : List (Str × Addr)) (fp : List Addr), Ex (X.blk s H scope (compEnvC scope cl C X.env) fp) W0 elt fe)
    (hsw : swapsWith (.ListComp elt [⟨tg, iter, ifs, 0⟩, ⟨tg1, iter1, ifs1, 0⟩] scope pos) (some (.Name y py)) spos.line X.env = pure true) (hy : X.N[i]? = some y := by rfl) (hyl : X.env.scope.names.lookup y = some .local := by rfl) (hc : X.calm = true := by rfl) (hs : ∀ x, foldedSetIterable iter X.env x = pure x := by intro _; rfl) (hs1 : ∀ env x, foldedSetIterable iter1 env x = pure x := by intro _ _; rfl) :
    Sx X W H0 F0 (.Assign [.Name y py] (.ListComp elt [⟨tg, iter, ifs, 0⟩, ⟨tg1, iter1, ifs1, 0⟩] scope pos) spos) (setS L i (dataF (comp2E (own.map (·.2)) vs1 it t fi it1 t1 fi1 fe))) := by
  refine st_asg L i (PS.imp (ps_setLc2 (g := tgR X.K t) (tt := tB_ X.K X.mg W0 fi) (g1 := tgR X.K t1) (tt1 := tB_ X.K X.mg W0 fi1) (wi1 := tI X.K X.mg W0 it1) (te := tE X.K X.mg W0 fe) hc hN hy hyl hsw hi ok hv hg ht hi1 hg1 ht1 he hs hs1) fun E σ H h => ?_)
  obtain ⟨ε, F, re, q⟩ := tF_data h
  exact ⟨ε, F, re, lc2_read (Q := fun x H1 => gName i x σ H1 E.nx) re hsl hsl1 q⟩
end
end RB

set_option Elab.async false
set_option linter.all false
set_option maxRecDepth 100000
set_option maxHeartbeats 4000000
namespace RB
open PySem PySem.Spec PyProof.Rows L2
/-! ### slices -/
def cutD {α : Type} (xs : List α) (lo hi : Option Int) : List α := (xs.drop (HT.sIx xs.length 0 lo)).take (HT.sIx xs.length xs.length hi - HT.sIx xs.length 0 lo)
def sliceD (d : D) (lo hi : Option Int) : R D := match d with
  | .list xs => .ok (.list (cutD xs lo hi))
  | .tuple xs => .ok (.tuple (cutD xs lo hi))
  | .str z => .ok (.str (cutS z lo hi))
  | _ => .stuck
theorem okS_cut {z : Str} (h : okS z) (lo hi : Option Int) : okS (cutS z lo hi) := by
  refine ⟨Nat.le_trans (cutS_length z lo hi) h.1, ?_⟩
  have h2 := h.2
  rw [← Array.all_toList, List.all_eq_true] at h2
  show (((z.cps.toList.drop (HT.sIx z.length 0 lo)).take (HT.sIx z.length z.length hi - HT.sIx z.length 0 lo)).toArray).all _ = true
  rw [← Array.all_toList, List.all_eq_true]
  intro c hc
  exact h2 c (List.mem_of_mem_drop (List.mem_of_mem_take (by simpa using hc)))
def rSlAll (K : PySem.W.Frag) : V → Option Int → Option Int → Hp → VK → Prop := fun x lo hi H Q => rSlL K x lo hi H Q ∨ rSlA K x lo hi H Q ∨ rSlS x lo hi H Q
theorem sl_all' {X : Cx} : L2.SlR X (rSlAll X.K) := (sl_list (X := X)).or ((sl_tupA (X := X)).or (sl_str (X := X)))
theorem cut_len {α : Type} (xs : List α) (lo hi : Option Int) : (cutD xs lo hi).length ≤ xs.length := by
  unfold cutD
  rw [List.length_take, List.length_drop]
  omega
theorem cut_whole {α : Type} {xs : List α} {lo hi : Option Int} (h : HT.sIx xs.length 0 lo = 0 ∧ HT.sIx xs.length xs.length hi = xs.length) : cutD xs lo hi = xs := by
  unfold cutD
  rw [h.1, h.2, List.drop_zero, Nat.sub_zero, List.take_length]
theorem g_slice {K : PySem.W.Frag} {x : V} {d : D} {lo hi : Option Int} {H : Hp} {F : Addr → Prop} {Q : VK} (ok : FOk H F) (h : Den K H F x d) (k : (sliceD d lo hi).wp (Fin1 K H F Q) NoE) : rSlAll K x lo hi H Q := by
  cases h with
  | str z hz => exact .inr (.inr ⟨z, rfl, hz.1, fin_same k ok (.str _ (okS_cut hz _ _))⟩)
  | @lst a vs ds h1 h2 h3 =>
    refine .inl ⟨a, vs, rfl, h1.sql, ?_⟩
    have e : DenL K H F (cutV vs lo hi) (cutD ds lo hi) := by
      unfold cutV cutD
      rw [h2.length]
      exact (h2.drop _).take _
    exact fin_lst k ok e (Nat.le_trans (cutV_length vs lo hi) h3)
  | @tup a vs ds h1 h2 h3 =>
    refine .inr (.inl ⟨a, vs, rfl, h1, fun hw => ?_, fun hw => ?_⟩)
    · rw [h2.length] at hw
      have k' : Fin1 K H F Q (.tuple (cutD ds lo hi)) := k
      rw [cut_whole hw] at k'
      exact fin_same k' ok (.tup h1 h2 h3)
    · have e : DenL K H F (cutV vs lo hi) (cutD ds lo hi) := by
        unfold cutV cutD
        rw [h2.length]
        exact (h2.drop _).take _
      exact fin_tup k ok e (Nat.le_trans (cutV_length vs lo hi) h3)
  | _ => exact k.elim
/-- a part of a slice -/
def partE : Option (Env → R D) → Env → R (Option Int)
  | none, _ => .ok none
  | some f, ε => f ε >>= fun d => match d with
    | .int i => .ok (some i)
    | _ => .stuck
def tP (K : PySem.W.Frag) (mg : Str → Option Value) (W : WX) (o : Option (Env → R D)) : TO := fun σ H Q => ∃ ε F, RE K σ ε H F ∧ (partE o ε).wp (fun d => ∀ H' F', Grow H F H' F' → Q d H') fun e => ∀ cls x H' F', Grow H F H' F' → ExnOf mg e cls x H' → W cls x σ H'
abbrev Px (X : Cx) (W : WX) (e : Option Expr) (o : Option (Env → R D)) : Prop := PO X e (tP X.K X.mg W o)
theorem PO.imp {X : Cx} {e : Option Expr} {t t' : TO} (h : PO X e t) (i : ∀ σ H Q, t' σ H Q → t σ H Q) : PO X e t' := ⟨fun pins s σ H Q I hw => h.run pins s σ H Q I (i _ _ _ hw)⟩
section
variable {X : Cx} {W : WX} {e : Expr} {f : Env → R D} {pos p2 : Pos}
theorem px_none : Px X W none none := PO.imp po_none fun σ H Q ⟨ε, F, re, q⟩ => q H F (.refl re.ok)
theorem px_some (h : Ex X W e f) : Px X W (some e) (some f) := PO.imp (po_some h) fun σ H Q ⟨ε, F, re, q⟩ => by
  refine ⟨ε, F, re, R.wp_mono (R.wp_bind q) (fun d k v H1 F1 g1 d1 => ?_) (fun e k => k)⟩
  cases d1 with
  | int i => exact ⟨i, rfl, k H1 F1 g1⟩
  | _ => exact k.elim
def sliceE (f : Env → R D) (lo hi : Option (Env → R D)) : Env → R D := fun ε => f ε >>= fun d => partE lo ε >>= fun l => partE hi ε >>= fun u => (sliceD d l u).hard
theorem ex_slice {lo hi : Option Expr} {fl fh : Option (Env → R D)} (he : Ex X W e f) (hl : Px X W lo fl) (hu : Px X W hi fh) : Ex X W (.Subscript e (.Slice lo hi none p2) pos) (sliceE f fl fh) := by
  refine PE.imp (pe_slice sl_all' he hl hu) fun σ H Q ⟨ε, F, re, q⟩ => ?_
  refine ⟨ε, F, re, R.wp_mono (R.wp_bind q) (fun d k v H1 F1 g1 d1 => ?_) (fun e k => k)⟩
  refine ⟨ε, F1, re.grow g1, R.wp_mono (R.wp_bind k) (fun l k H2 F2 g2 => ?_) (fun e k => exnG (K := X.K) g1 k)⟩
  refine ⟨ε, F2, re.grow (g1.trans g2), R.wp_mono (R.wp_bind k) (fun u k H3 F3 g3 => ?_) (fun e k => exnG (K := X.K) (g1.trans g2) k)⟩
  exact g_slice g3.ok (d1.grow (g2.trans g3)) (hardN k fun d k => fin_grow (g1.trans (g2.trans g3)) k)
def revD : D → R D
  | .list xs => .ok (.list xs.reverse)
  | _ => .stuck
def revE (f : Env → R D) : Env → R D := fun ε => f ε >>= fun d => (revD d).hard
theorem ex_revL {k : Nat} {p1 p3 p4 : Pos} (he : Ex X W e f) : Ex X W (.Subscript e (.Slice none none (some (.UnaryOp .USub (.Constant (.int 1) k p1) p2)) p3) pos) (revE f) := by
  refine PE.imp (pe_revL he) fun σ H Q ⟨ε, F, re, q⟩ => ?_
  refine ⟨ε, F, re, R.wp_mono (R.wp_bind q) (fun d k v H1 F1 g1 d1 => ?_) (fun e k => k)⟩
  cases d1 with
  | @lst a vs ds h1 h2 h3 =>
    have k' : Fin1 X.K H F Q (.list ds.reverse) := k
    exact ⟨a, vs, rfl, h1.sql, fin_lst (fin_grow g1 k') g1.ok h2.reverse (by rw [List.length_reverse]; exact h3)⟩
  | _ => exact k.elim
end
end RB

set_option Elab.async false
set_option linter.all false
set_option maxRecDepth 100000
set_option maxHeartbeats 4000000
namespace RB
open PySem PySem.Spec PyProof.Rows L2
section
variable {P : Program} {w : World} {K : PySem.W.Frag} {mg : Str → Option Value} {base : Heap}
theorem fn_mkD {x qual : Str} {pr : Arguments} {bd : List Stmt} {sc : Scope} {dvs : List V} {kws : List (Str × V)} {f : Addr} {fd : FuncData} {N ps : List Str} {k : Nat} {g : Gam → R Fl} (F : FunD K x qual pr bd sc dvs kws f fd) (S : FnScope N ps sc)
    (hbody : ∀ (cdv : Value) (A : Around) (outer : List PySem.Env) (s : Shared) (H : Hp) (E : XK) (F0 : Addr → Prop), Room k (A.deeper (envOfC qual sc s.heap.objs.size f cdv)) →
      Ssx (cxOf (L2.CX P w) P w K mg base N qual sc f cdv A outer s H E) (WD E) H F0 bd g) : FnOk P w K mg base (L2.CX P w) (k + 1) f fd ps (spD K mg ps.length (runS N.length g)) := by
  refine F.ok S (fun vs H Q E h => h.1) fun cdv A outer s H vs Q E hr ⟨hl, ds, F1, ok, hd, q⟩ => ⟨_, hbody cdv A outer s H E F1 hr, ?_⟩
  unfold runS at q
  refine ⟨_, F1, rel_start ok hd, ?_⟩
  show ∃ fl, g (gam0 N.length ds) = .ok fl ∧ _
  cases e : g (gam0 N.length ds) with
  | exn x => rw [e] at q; exact q.elim
  | stuck => rw [e] at q; exact q.elim
  | ok fl =>
    refine ⟨fl, rfl, ?_⟩
    rw [e] at q
    cases fl with
    | nx Γ => exact fun σ H' F' r p => q .non H' F' r.gr .non
    | rt d => exact fun v H' F' g hd => q v H' F' g hd
    | bk Γ => exact q.elim
    | ct Γ => exact q.elim
    | xn e Γ => exact fun cls y σ H' F' r p ho => q cls y H' F' r.gr ho
theorem cal_mkD {x qual : Str} {pr : Arguments} {bd : List Stmt} {sc : Scope} {f : Addr} {fd : FuncData} {N ps : List Str} {k : Nat} {g : Gam → R Fl} (n : Nat) (F : FunD K x qual pr bd sc [] [] f fd) (S : FnScope N ps sc) (hm : mg x = some (.ref f))
    (hb : ∀ (kV doc pm : Value) (an : Option Addr) (cdv ct : Value) (us : List Value), us.length = ps.length → bindArgs (PySem.W.fnOf x qual pr bd sc .none kV doc pm an cdv ct) ⟨us, []⟩ = pure (ps.zip us))
    (hbody : ∀ (cdv : Value) (A : Around) (outer : List PySem.Env) (s : Shared) (H : Hp) (E : XK) (F0 : Addr → Prop), Room k (A.deeper (envOfC qual sc s.heap.objs.size f cdv)) →
      Ssx (cxOf (L2.CX P w) P w K mg base N qual sc f cdv A outer s H E) (WD E) H F0 bd g) (hn : ps.length = n := by rfl) : Cal P w K mg base (k + 1) x n (runS N.length g) := by
  subst hn
  exact ⟨f, fd, ps, hm, F.kp, F.bindsN hb, rfl, fn_mkD F S hbody⟩
theorem law_den {H : Hp} {a : Addr} {ns : List Int} (h : SqL K H a (ns.map V.int)) (hz : ns.length ≤ 63) : ∃ F, FOk H F ∧ Den K H F (.ref a) (.list (ns.map .int)) := by
  have hz' : (ns.map V.int).length ≤ sizeLine := by rw [List.length_map]; exact Nat.le_trans hz (by decide)
  refine ⟨fun b => b = a ∧ ∃ u, H b = some u, fun b f => f.2, .lst ?_ (DenL.of_ints ns) hz'⟩
  rcases h with (h | ⟨o, h⟩) | h
  · exact .inl (.inl ⟨h, rfl, _, h⟩)
  · exact .inl (.inr ⟨o, h⟩)
  · exact .inr h
theorem law_sp {H : Hp} {a : Addr} {ns : List Int} {S : List D → R D} (h : SqL K H a (ns.map V.int)) (hz : ns.length ≤ 63) (hS : S [.list (ns.map .int)] = .ok (.bool true)) : spD K mg 1 S [.ref a] H (fun v _ => v = .bl true) fun _ _ _ => False := by
  obtain ⟨F, ok, hd⟩ := law_den h hz
  refine ⟨rfl, _, F, ok, .cons hd .nil, ?_⟩
  rw [hS]
  intro v H' F' g hv
  cases hv
  rfl
theorem walk_ofR {l : PySem.W.OpenLaw} {n k : Nat} {q : Program} {loose : List Str} {XP : (Str → Option Value) → Heap → Prop} {YP : World → Heap → Prop} {d : DefRec} {x : Str} {S : List D → R D}
    (hn : l.most = some n) (hn2 : n ≤ 63) (hdf : d.params.defaults = []) (hr : Room k callerA)
    (F : ∀ (w : World) (mg : Str → Option Value) (fa : Addr) (h : Heap), YP w h → h.Ns mainGlobals mg → mg d.name = some (.ref fa) → ∃ (K : PySem.W.Frag) (fd : FuncData), K.In h ∧ (∀ (s : Shared) (u : Value), BindsTo s fd ⟨[u], []⟩ [(x, u)]) ∧
      ∀ base : Heap, K.In base → base.Ns mainGlobals mg → FnOk l.prog w K mg base (L2.CX l.prog w) k fa fd [x] (spD K mg 1 S))
    (hS : ∀ ns : List Int, ns.length ≤ n → S [.list (ns.map .int)] = .ok (.bool true)) :
    PySem.W.WalkO q loose XP YP l.row.toRowW d [] (fun f vs => PySem.call f vs) := by
  refine Att.attach_call hn hdf fun w s0 s1 mg mb fa o pm cd doc a vs ns G Y ho hd hcd hmg hobj hints hlen hg => ?_
  obtain ⟨K, fd, KX, hb, hF⟩ := F w mg fa _ Y G.T.g hmg
  refine law_call KX G.T.g G.T.b G.T.builtins G.T.nolimit hg hobj hints (Nat.le_trans hlen (Nat.le_trans hn2 (by decide))) hr hF hb (fun H _ hs => law_sp hs (Nat.le_trans hlen hn2) (hS ns hlen)) fun H e s' c => ?_
  obtain ⟨_, _, _, _, _, _, _, _, _, _, _, _, z⟩ := c
  exact z
end
end RB

set_option Elab.async false
set_option linter.all false
set_option maxRecDepth 100000
set_option maxHeartbeats 4000000
namespace RB
open PySem PySem.Spec PyProof.Rows L2
theorem hu64 {k : Nat} {A : Around} (r : Room k A) : A.units + 64 < cLine := by have := r.un; omega
theorem hu66 {k : Nat} {A : Around} (r : Room k A) : A.units + 66 < cLine := by have := r.un; omega
end RB

set_option Elab.async false
set_option linter.all false
set_option maxRecDepth 100000
set_option maxHeartbeats 4000000
namespace RB
open PySem PySem.Spec PyProof.Rows L2
/-! ### the equations by which one computes -/
def seqK (r : R Fl) (h : Gam → R Fl) : R Fl := r >>= fun fl => match fl with
  | .nx Γ' => h Γ'
  | fl => .ok fl
theorem ev_seq (g h : Gam → R Fl) (Γ : Gam) : seqS g h Γ = seqK (g Γ) h := Eq.trans rfl rfl
theorem ev_seq1 (h : Gam → R Fl) (Γ : Gam) : seqK (.ok (.nx Γ)) h = h Γ := Eq.trans rfl rfl
theorem ev_seq2 (h : Gam → R Fl) (d : D) : seqK (.ok (.rt d)) h = .ok (.rt d) := Eq.trans rfl rfl
theorem ev_seq3 (h : Gam → R Fl) (Γ : Gam) : seqK (.ok (.bk Γ)) h = .ok (.bk Γ) := Eq.trans rfl rfl
theorem ev_seq4 (h : Gam → R Fl) (Γ : Gam) : seqK (.ok (.ct Γ)) h = .ok (.ct Γ) := Eq.trans rfl rfl
theorem ev_seq5 (h : Gam → R Fl) (e : Exn) (Γ : Gam) : seqK (.ok (.xn e Γ)) h = .ok (.xn e Γ) := Eq.trans rfl rfl
def retK (r : R D) (Γ : Gam) : R Fl := lift r Γ fun d => .ok (.rt d)
theorem ev_ret (L : List Nat) (f : Env → R D) (Γ : Gam) : retS L f Γ = retK (f (view L Γ)) Γ := Eq.trans rfl rfl
theorem ev_ret1 (d : D) (Γ : Gam) : retK (.ok d) Γ = .ok (.rt d) := Eq.trans rfl rfl
theorem ev_ret2 (e : Exn) (Γ : Gam) : retK (.exn e) Γ = .ok (.xn e Γ) := Eq.trans rfl rfl
theorem ev_retN (Γ : Gam) : retN Γ = .ok (.rt .none) := Eq.trans rfl rfl
theorem ev_nil (Γ : Gam) : nilS Γ = .ok (.nx Γ) := Eq.trans rfl rfl
theorem ev_bk (Γ : Gam) : bkS Γ = .ok (.bk Γ) := Eq.trans rfl rfl
theorem ev_ct (Γ : Gam) : ctS Γ = .ok (.ct Γ) := Eq.trans rfl rfl
def ifK (r : R Bool) (g h : Gam → R Fl) (Γ : Gam) : R Fl := lift r Γ fun b => if b = true then g Γ else h Γ
theorem ev_if (L : List Nat) (t : Env → R Bool) (g h : Gam → R Fl) (Γ : Gam) : ifS L t g h Γ = ifK (t (view L Γ)) g h Γ := Eq.trans rfl rfl
theorem ev_ifT (g h : Gam → R Fl) (Γ : Gam) : ifK (.ok true) g h Γ = g Γ := Eq.trans rfl rfl
theorem ev_ifF (g h : Gam → R Fl) (Γ : Gam) : ifK (.ok false) g h Γ = h Γ := Eq.trans rfl rfl
theorem ev_ifX (g h : Gam → R Fl) (e : Exn) (Γ : Gam) : ifK (.exn e) g h Γ = .ok (.xn e Γ) := Eq.trans rfl rfl
def setK (L : List Nat) (i : Nat) (r : R D) (Γ : Gam) : R Fl := lift r Γ fun d => .ok (.nx ((keepG L d Γ).set i (.da d)))
theorem ev_set (L : List Nat) (i : Nat) (f : Env → R D) (Γ : Gam) : setS L i f Γ = setK L i (f (view L Γ)) Γ := Eq.trans rfl rfl
theorem ev_set0 (i : Nat) (d : D) (Γ : Gam) : setK [] i (.ok d) Γ = .ok (.nx (Γ.set i (.da d))) := by
  show R.ok (Fl.nx ((keepG [] d Γ).set i (.da d))) = _
  unfold keepG
  rw [if_pos (.inl rfl)]
theorem ev_set1 (L : List Nat) (i : Nat) (d : D) (Γ : Gam) (h : noLst d = true) : setK L i (.ok d) Γ = .ok (.nx (Γ.set i (.da d))) := by
  show R.ok (Fl.nx ((keepG L d Γ).set i (.da d))) = _
  unfold keepG
  rw [if_pos (.inr h)]
theorem ev_set2 (L : List Nat) (i : Nat) (d : D) (Γ : Gam) (h : noLst d = false) : setK L i (.ok d) Γ = .ok (.nx ((if L = [] then Γ else freeze L Γ).set i (.da d))) := by
  show R.ok (Fl.nx ((keepG L d Γ).set i (.da d))) = _
  unfold keepG
  rw [h]
  by_cases q : L = []
  · rw [if_pos (.inl q), if_pos q]
  · rw [if_neg (by simp [q]), if_neg q]
theorem ev_set3 (L : List Nat) (i : Nat) (e : Exn) (Γ : Gam) : setK L i (.exn e) Γ = .ok (.xn e Γ) := Eq.trans rfl rfl
def dropK (r : R D) (Γ : Gam) : R Fl := lift r Γ fun _ => .ok (.nx Γ)
theorem ev_drop (L : List Nat) (f : Env → R D) (Γ : Gam) : dropS L f Γ = dropK (f (view L Γ)) Γ := Eq.trans rfl rfl
theorem ev_drop1 (d : D) (Γ : Gam) : dropK (.ok d) Γ = .ok (.nx Γ) := Eq.trans rfl rfl
theorem ev_drop2 (e : Exn) (Γ : Gam) : dropK (.exn e) Γ = .ok (.xn e Γ) := Eq.trans rfl rfl
def ownK (L : List Nat) (i : Nat) (r : R (List D)) (Γ : Gam) : R Fl := lift r Γ fun ds => .ok (.nx ((keepGs L ds Γ).set i (.ol ds)))
theorem ev_own (L : List Nat) (i : Nat) (f : Env → R (List D)) (Γ : Gam) : ownS L i f Γ = ownK L i (f (view L Γ)) Γ := Eq.trans rfl rfl
theorem ev_own0 (i : Nat) (d : List D) (Γ : Gam) : ownK [] i (.ok d) Γ = .ok (.nx (Γ.set i (.ol d))) := by
  show R.ok (Fl.nx ((keepGs [] d Γ).set i (.ol d))) = _
  unfold keepGs
  rw [if_pos (.inl rfl)]
theorem ev_own1 (L : List Nat) (i : Nat) (d : List D) (Γ : Gam) (h : noLsts d = true) : ownK L i (.ok d) Γ = .ok (.nx (Γ.set i (.ol d))) := by
  show R.ok (Fl.nx ((keepGs L d Γ).set i (.ol d))) = _
  unfold keepGs
  rw [if_pos (.inr h)]
def unpK (L : List Nat) (t : Tg) (r : R D) (Γ : Gam) : R Fl := lift r Γ fun d => (flatT t d).hard >>= fun as => .ok (.nx (setG (keepG L d Γ) as))
theorem ev_unp (L : List Nat) (t : Tg) (f : Env → R D) (Γ : Gam) : unpS L t f Γ = unpK L t (f (view L Γ)) Γ := Eq.trans rfl rfl
def unpK2 (L : List Nat) (d : D) (r : R (List (Nat × D))) (Γ : Gam) : R Fl := r.hard >>= fun as => .ok (.nx (setG (keepG L d Γ) as))
theorem ev_unp1 (L : List Nat) (t : Tg) (d : D) (Γ : Gam) : unpK L t (.ok d) Γ = unpK2 L d (flatT t d) Γ := Eq.trans rfl rfl
theorem ev_unp2 (d : D) (as : List (Nat × D)) (Γ : Gam) : unpK2 [] d (.ok as) Γ = .ok (.nx (setG Γ as)) := by
  show R.ok (Fl.nx (setG (keepG [] d Γ) as)) = _
  unfold keepG
  rw [if_pos (.inl rfl)]
theorem ev_unp3 (L : List Nat) (d : D) (as : List (Nat × D)) (Γ : Gam) (h : noLst d = true) : unpK2 L d (.ok as) Γ = .ok (.nx (setG Γ as)) := by
  show R.ok (Fl.nx (setG (keepG L d Γ) as)) = _
  unfold keepG
  rw [if_pos (.inr h)]
def appK (L : List Nat) (i : Nat) (s : Option Sl) (r : R D) (Γ : Gam) : R Fl := match s with
  | some (.ol ys) => lift r Γ fun d => if ys.length < 16777216 ∧ (i ∈ L → noLst d = true) then .ok (.nx ((keepG L d Γ).set i (.ol (ys ++ [d])))) else .stuck
  | _ => .stuck
theorem ev_app (L : List Nat) (i : Nat) (f : Env → R D) (Γ : Gam) : appS L i f Γ = appK L i Γ[i]? (f (view L Γ)) Γ := by
  unfold appS appK listAt
  cases Γ[i]? with
  | none => rfl
  | some s => cases s <;> rfl
theorem ev_app0 (i : Nat) (ys : List D) (d : D) (Γ : Gam) (h : ys.length < 16777216) : appK [] i (some (.ol ys)) (.ok d) Γ = .ok (.nx (Γ.set i (.ol (ys ++ [d])))) := by
  show (if ys.length < 16777216 ∧ (i ∈ [] → noLst d = true) then R.ok (Fl.nx ((keepG [] d Γ).set i (.ol (ys ++ [d])))) else .stuck) = _
  rw [if_pos ⟨h, fun z => nomatch z⟩]
  unfold keepG
  rw [if_pos (.inl rfl)]
theorem ev_app1 (L : List Nat) (i : Nat) (ys : List D) (d : D) (Γ : Gam) (h : ys.length < 16777216) (h2 : noLst d = true) : appK L i (some (.ol ys)) (.ok d) Γ = .ok (.nx (Γ.set i (.ol (ys ++ [d])))) := by
  show (if ys.length < 16777216 ∧ (i ∈ L → noLst d = true) then R.ok (Fl.nx ((keepG L d Γ).set i (.ol (ys ++ [d])))) else .stuck) = _
  rw [if_pos ⟨h, fun _ => h2⟩]
  unfold keepG
  rw [if_pos (.inr h2)]
theorem ev_app2 (L : List Nat) (i : Nat) (ys : List D) (d : D) (Γ : Gam) (h : ys.length < 16777216) (h2 : noLst d = false) (h3 : (L.any fun j => i == j) = false) (h4 : L.isEmpty = false) : appK L i (some (.ol ys)) (.ok d) Γ = .ok (.nx ((freeze L Γ).set i (.ol (ys ++ [d])))) := by
  show (if ys.length < 16777216 ∧ (i ∈ L → noLst d = true) then R.ok (Fl.nx ((keepG L d Γ).set i (.ol (ys ++ [d])))) else .stuck) = _
  have hn : i ∉ L := fun z => by
    rw [List.any_eq_false] at h3
    exact h3 i z (by simp)
  rw [if_pos ⟨h, fun z => absurd z hn⟩]
  unfold keepG
  rw [if_neg (by
    rw [h2]
    intro z
    rcases z with z | z
    · rw [z] at h4; cases h4
    · cases z)]
def putK (L : List Nat) (i : Nat) (s : Option Sl) (r : R D) (f : Env → R D) (Γ : Gam) : R Fl := match s with
  | some (.ol ys) => lift r Γ fun d => lift (f (view L Γ)) Γ fun k => putAt ys k d >>= fun zs => .ok (.nx (Γ.set i (.ol zs)))
  | _ => .stuck
theorem ev_put (L : List Nat) (i : Nat) (fe fk : Env → R D) (Γ : Gam) : putS L i fe fk Γ = putK L i Γ[i]? (fe (view L Γ)) fk Γ := by
  unfold putS putK listAt
  cases Γ[i]? with
  | none => rfl
  | some s => cases s <;> rfl
def putK2 (i : Nat) (ys : List D) (d : D) (r : R D) (Γ : Gam) : R Fl := lift r Γ fun k => putAt ys k d >>= fun zs => .ok (.nx (Γ.set i (.ol zs)))
theorem ev_put1 (L : List Nat) (i : Nat) (ys : List D) (d : D) (f : Env → R D) (Γ : Gam) : putK L i (some (.ol ys)) (.ok d) f Γ = putK2 i ys d (f (view L Γ)) Γ := Eq.trans rfl rfl
theorem ev_put2 (i : Nat) (ys : List D) (d : D) (k : Nat) (Γ : Gam) (h : k < ys.length) (h2 : noLst d = true) : putK2 i ys d (.ok (.int (k : Int))) Γ = .ok (.nx (Γ.set i (.ol (ys.set k d)))) := by
  show ((putAt ys (.int (k : Int)) d) >>= fun zs => R.ok (Fl.nx (Γ.set i (.ol zs)))) = _
  have e : ixN ys.length (k : Int) = some k := by
    unfold ixN
    rw [if_pos (by omega), if_pos (by omega), Int.toNat_natCast]
  unfold putAt
  simp only [e, if_pos h2]
  rfl
def augK (i : Nat) (g : D → D → R D) (s : Option Sl) (r : R D) (Γ : Gam) : R Fl := match s with
  | some (.da x) => lift r Γ fun y => (g x y).hard >>= fun z => if noLst z = true then .ok (.nx (Γ.set i (.da z))) else .stuck
  | _ => .stuck
theorem ev_aug (L : List Nat) (i : Nat) (g : D → D → R D) (f : Env → R D) (Γ : Gam) : augS L i g f Γ = augK i g Γ[i]? (f (view L Γ)) Γ := by
  unfold augS augK
  cases Γ[i]? with
  | none => rfl
  | some s => cases s <;> rfl
theorem ev_aug1 (i : Nat) (a b : Int) (Γ : Gam) : augK i addI (some (.da (.int a))) (.ok (.int b)) Γ = .ok (.nx (Γ.set i (.da (.int (a + b))))) := Eq.trans rfl rfl
theorem ev_aug2 (i : Nat) (a b : Int) (Γ : Gam) : augK i subI (some (.da (.int a))) (.ok (.int b)) Γ = .ok (.nx (Γ.set i (.da (.int (a - b))))) := Eq.trans rfl rfl
def forK (L : List Nat) (r : R (List D)) (t : Tg) (b : Gam → R Fl) (Γ : Gam) : R Fl := lift r Γ fun ds => forL t b ds (freeze L Γ)
theorem ev_for (L : List Nat) (it : Env → R (List D)) (t : Tg) (b : Gam → R Fl) (Γ : Gam) : forS L it t b Γ = forK L (it (view L Γ)) t b Γ := Eq.trans rfl rfl
theorem frz0 : ∀ (Γ : Gam) (k : Nat), frzF [] k Γ = Γ
  | [], _ => rfl
  | .un :: r, k => by rw [frzF, frz0 r]
  | .da _ :: r, k => by rw [frzF, frz0 r]
  | .ol _ :: r, k => by rw [frzF, frz0 r, if_neg (by simp)]
theorem ev_for0 (ds : List D) (t : Tg) (b : Gam → R Fl) (Γ : Gam) : forK [] (.ok ds) t b Γ = forL t b ds Γ := by
  show forL t b ds (freeze [] Γ) = _
  rw [freeze, frz0]
theorem ev_for1 (L : List Nat) (ds : List D) (t : Tg) (b : Gam → R Fl) (Γ : Gam) : forK L (.ok ds) t b Γ = forL t b ds (frzF L 0 Γ) := Eq.trans rfl rfl
theorem ev_forN (t : Tg) (b : Gam → R Fl) (Γ : Gam) : forL t b [] Γ = .ok (.nx Γ) := Eq.trans rfl rfl
/-! expressions -/
theorem ev_con (d : D) (ε : Env) : con d ε = .ok d := Eq.trans rfl rfl
def varK (o : Option (Option D)) : R D := match o with
  | some (some d) => .ok d
  | _ => .stuck
theorem ev_var (i : Nat) (ε : Env) : var i ε = varK ε[i]? := Eq.trans rfl rfl
theorem ev_var1 (d : D) : varK (some (some d)) = .ok d := Eq.trans rfl rfl
def op2K (g : D → D → R D) (x y : R D) : R D := x >>= fun x => y >>= fun y => (g x y).hard
theorem ev_op2 (g : D → D → R D) (fa fb : Env → R D) (ε : Env) : op2E g fa fb ε = op2K g (fa ε) (fb ε) := Eq.trans rfl rfl
theorem ev_op2k (g : D → D → R D) (x y : D) : op2K g (.ok x) (.ok y) = (g x y).hard := Eq.trans rfl rfl
def op1K (g : D → R D) (x : R D) : R D := x >>= fun x => (g x).hard
theorem ev_op1 (g : D → R D) (fa : Env → R D) (ε : Env) : op1E g fa ε = op1K g (fa ε) := Eq.trans rfl rfl
theorem ev_op1k (g : D → R D) (x : D) : op1K g (.ok x) = (g x).hard := Eq.trans rfl rfl
def consK (x : R D) (xs : R (List D)) : R (List D) := x >>= fun d => xs >>= fun ds => .ok (d :: ds)
theorem ev_nilL (ε : Env) : evL [] ε = .ok [] := Eq.trans rfl rfl
theorem ev_consL (f : Env → R D) (fs : List (Env → R D)) (ε : Env) : evL (f :: fs) ε = consK (f ε) (evL fs ε) := Eq.trans rfl rfl
theorem ev_consk (x : D) (xs : List D) : consK (.ok x) (.ok xs) = .ok (x :: xs) := Eq.trans rfl rfl
def tupK (r : R (List D)) : R D := r >>= fun ds => .ok (.tuple ds)
theorem ev_tup (fs : List (Env → R D)) (ε : Env) : tupE fs ε = tupK (evL fs ε) := Eq.trans rfl rfl
theorem ev_tupk (xs : List D) : tupK (.ok xs) = .ok (.tuple xs) := Eq.trans rfl rfl
def datK (r : R (List D)) : R D := r >>= fun ds => .ok (.list ds)
theorem ev_dat (f : Env → R (List D)) (ε : Env) : dataF f ε = datK (f ε) := Eq.trans rfl rfl
theorem ev_datk (xs : List D) : datK (.ok xs) = .ok (.list xs) := Eq.trans rfl rfl
def callK (g : List D → R D) (r : R (List D)) : R D := r >>= fun ds => (g ds).hard
theorem ev_call (g : List D → R D) (fs : List (Env → R D)) (ε : Env) : callE g fs ε = callK g (evL fs ε) := Eq.trans rfl rfl
theorem ev_callk (g : List D → R D) (ds : List D) : callK g (.ok ds) = (g ds).hard := Eq.trans rfl rfl
def callFK (g : List D → R (List D)) (r : R (List D)) : R (List D) := r >>= fun ds => (g ds).hard
theorem ev_callF (g : List D → R (List D)) (fs : List (Env → R D)) (ε : Env) : callF g fs ε = callFK g (evL fs ε) := Eq.trans rfl rfl
theorem ev_callFk (g : List D → R (List D)) (ds : List D) : callFK g (.ok ds) = (g ds).hard := Eq.trans rfl rfl
def usrK (S : List D → R D) (r : R (List D)) : R D := r >>= S
theorem ev_usr (S : List D → R D) (fs : List (Env → R D)) (ε : Env) : usrE S fs ε = usrK S (evL fs ε) := Eq.trans rfl rfl
theorem ev_usrk (S : List D → R D) (ds : List D) : usrK S (.ok ds) = S ds := Eq.trans rfl rfl
theorem ev_usr0 (S : List D → R D) (ε : Env) : usr0 S ε = (S []).hard := Eq.trans rfl rfl
def testK (r : R D) : R Bool := r >>= boolD
theorem ev_test (f : Env → R D) (ε : Env) : testE f ε = testK (f ε) := Eq.trans rfl rfl
theorem ev_testk (b : Bool) : testK (.ok (.bool b)) = .ok b := Eq.trans rfl rfl
def bK (r : R Bool) : R D := r >>= fun b => .ok (.bool b)
theorem ev_b (f : Env → R Bool) (ε : Env) : bE f ε = bK (f ε) := Eq.trans rfl rfl
theorem ev_bk1 (b : Bool) : bK (.ok b) = .ok (.bool b) := Eq.trans rfl rfl
def isNK (r : R D) : R Bool := r >>= fun d => .ok (isN d)
theorem ev_isN (f : Env → R D) (ε : Env) : isNE f ε = isNK (f ε) := Eq.trans rfl rfl
theorem ev_isNk (d : D) : isNK (.ok d) = .ok (isN d) := Eq.trans rfl rfl
def notNK (r : R D) : R Bool := r >>= fun d => .ok (!isN d)
theorem ev_notN (f : Env → R D) (ε : Env) : notNE f ε = notNK (f ε) := Eq.trans rfl rfl
theorem ev_notNk (d : D) : notNK (.ok d) = .ok (!isN d) := Eq.trans rfl rfl
def andTK (r : R Bool) (g : Env → R Bool) (ε : Env) : R Bool := r >>= fun c => if c = true then g ε else .ok false
theorem ev_andT (f g : Env → R Bool) (ε : Env) : andT f g ε = andTK (f ε) g ε := Eq.trans rfl rfl
theorem ev_andT1 (g : Env → R Bool) (ε : Env) : andTK (.ok true) g ε = g ε := Eq.trans rfl rfl
theorem ev_andT0 (g : Env → R Bool) (ε : Env) : andTK (.ok false) g ε = .ok false := Eq.trans rfl rfl
def orTK (r : R Bool) (g : Env → R Bool) (ε : Env) : R Bool := r >>= fun c => if c = true then .ok true else g ε
theorem ev_orT (f g : Env → R Bool) (ε : Env) : orT f g ε = orTK (f ε) g ε := Eq.trans rfl rfl
theorem ev_orT1 (g : Env → R Bool) (ε : Env) : orTK (.ok true) g ε = .ok true := Eq.trans rfl rfl
theorem ev_orT0 (g : Env → R Bool) (ε : Env) : orTK (.ok false) g ε = g ε := Eq.trans rfl rfl
def notTK (r : R Bool) : R Bool := r >>= fun c => .ok (!c)
theorem ev_notT (f : Env → R Bool) (ε : Env) : notT f ε = notTK (f ε) := Eq.trans rfl rfl
theorem ev_notTk (b : Bool) : notTK (.ok b) = .ok (!b) := Eq.trans rfl rfl
def andEK (r : R D) (g : Env → R D) (ε : Env) : R D := r >>= boolD >>= fun c => if c = true then g ε else .ok (.bool false)
theorem ev_andE (f g : Env → R D) (ε : Env) : andE f g ε = andEK (f ε) g ε := Eq.trans rfl rfl
theorem ev_andE1 (g : Env → R D) (ε : Env) : andEK (.ok (.bool true)) g ε = g ε := Eq.trans rfl rfl
theorem ev_andE0 (g : Env → R D) (ε : Env) : andEK (.ok (.bool false)) g ε = .ok (.bool false) := Eq.trans rfl rfl
def orEK (r : R D) (g : Env → R D) (ε : Env) : R D := r >>= boolD >>= fun c => if c = true then .ok (.bool true) else g ε
theorem ev_orE (f g : Env → R D) (ε : Env) : orE f g ε = orEK (f ε) g ε := Eq.trans rfl rfl
theorem ev_orE1 (g : Env → R D) (ε : Env) : orEK (.ok (.bool true)) g ε = .ok (.bool true) := Eq.trans rfl rfl
theorem ev_orE0 (g : Env → R D) (ε : Env) : orEK (.ok (.bool false)) g ε = g ε := Eq.trans rfl rfl
def notEK (r : R D) : R D := r >>= boolD >>= fun c => .ok (.bool (!c))
theorem ev_notE (f : Env → R D) (ε : Env) : notE f ε = notEK (f ε) := Eq.trans rfl rfl
theorem ev_notEk (b : Bool) : notEK (.ok (.bool b)) = .ok (.bool (!b)) := Eq.trans rfl rfl
def ifEK (r : R Bool) (f g : Env → R D) (ε : Env) : R D := r >>= fun c => if c = true then f ε else g ε
theorem ev_ifE (t : Env → R Bool) (f g : Env → R D) (ε : Env) : ifE t f g ε = ifEK (t ε) f g ε := Eq.trans rfl rfl
theorem ev_ifE1 (f g : Env → R D) (ε : Env) : ifEK (.ok true) f g ε = f ε := Eq.trans rfl rfl
theorem ev_ifE0 (f g : Env → R D) (ε : Env) : ifEK (.ok false) f g ε = g ε := Eq.trans rfl rfl
def chK (g' : D → D → R D) (y : R D) (r : R D) (fc : Env → R D) (ε : Env) : R D := y >>= fun y => r.hard >>= boolD >>= fun k => if k = true then fc ε >>= fun z => (g' y z).hard else .ok (.bool false)
def chK0 (g g' : D → D → R D) (x y : R D) (fc : Env → R D) (ε : Env) : R D := x >>= fun x => y >>= fun y => (g x y).hard >>= boolD >>= fun k => if k = true then fc ε >>= fun z => (g' y z).hard else .ok (.bool false)
theorem ev_ch (g g' : D → D → R D) (fa fb fc : Env → R D) (ε : Env) : chainE g g' fa fb fc ε = chK0 g g' (fa ε) (fb ε) fc ε := Eq.trans rfl rfl
theorem ev_ch0 (g g' : D → D → R D) (x y : D) (fc : Env → R D) (ε : Env) : chK0 g g' (.ok x) (.ok y) fc ε = chK g' (.ok y) (g x y) fc ε := Eq.trans rfl rfl
theorem ev_ch1 (g' : D → D → R D) (y : D) (fc : Env → R D) (ε : Env) : chK g' (.ok y) (.ok (.bool true)) fc ε = op2K g' (.ok y) (fc ε) := Eq.trans rfl rfl
theorem ev_ch2 (g' : D → D → R D) (y : D) (fc : Env → R D) (ε : Env) : chK g' (.ok y) (.ok (.bool false)) fc ε = .ok (.bool false) := Eq.trans rfl rfl
def isiK (p : D → Bool) (r : R D) : R Bool := r >>= fun d => (noDct d).hard >>= fun d => .ok (p d)
theorem ev_isi (p : D → Bool) (f : Env → R D) (ε : Env) : isiE p f ε = isiK p (f ε) := Eq.trans rfl rfl
theorem ev_isi1 (p : D → Bool) : isiK p (.ok .none) = .ok (p .none) := Eq.trans rfl rfl
theorem ev_isi2 (p : D → Bool) (b : Bool) : isiK p (.ok (.bool b)) = .ok (p (.bool b)) := Eq.trans rfl rfl
theorem ev_isi3 (p : D → Bool) (i : Int) : isiK p (.ok (.int i)) = .ok (p (.int i)) := Eq.trans rfl rfl
theorem ev_isi4 (p : D → Bool) (x : Str) : isiK p (.ok (.str x)) = .ok (p (.str x)) := Eq.trans rfl rfl
theorem ev_isi5 (p : D → Bool) (x : List D) : isiK p (.ok (.tuple x)) = .ok (p (.tuple x)) := Eq.trans rfl rfl
theorem ev_isi6 (p : D → Bool) (x : List D) : isiK p (.ok (.list x)) = .ok (p (.list x)) := Eq.trans rfl rfl
def slK (r : R D) (lo hi : R (Option Int)) : R D := r >>= fun d => lo >>= fun l => hi >>= fun u => (sliceD d l u).hard
theorem ev_sl (f : Env → R D) (lo hi : Option (Env → R D)) (ε : Env) : sliceE f lo hi ε = slK (f ε) (partE lo ε) (partE hi ε) := Eq.trans rfl rfl
theorem ev_slk (d : D) (l u : Option Int) : slK (.ok d) (.ok l) (.ok u) = (sliceD d l u).hard := Eq.trans rfl rfl
theorem ev_slL (x : List D) (l u : Option Int) : sliceD (.list x) l u = .ok (.list (cutD x l u)) := Eq.trans rfl rfl
theorem ev_slT (x : List D) (l u : Option Int) : sliceD (.tuple x) l u = .ok (.tuple (cutD x l u)) := Eq.trans rfl rfl
theorem ev_slS (x : Str) (l u : Option Int) : sliceD (.str x) l u = .ok (.str (cutS x l u)) := Eq.trans rfl rfl
def parK (r : R D) : R (Option Int) := r >>= fun d => match d with
  | .int i => .ok (some i)
  | _ => .stuck
theorem ev_par0 (ε : Env) : partE none ε = .ok none := Eq.trans rfl rfl
theorem ev_par (f : Env → R D) (ε : Env) : partE (some f) ε = parK (f ε) := Eq.trans rfl rfl
theorem ev_park (i : Int) : parK (.ok (.int i)) = .ok (some i) := Eq.trans rfl rfl
def seqEK (r : R D) : R (List D) := r >>= seqD
theorem ev_seqE (f : Env → R D) (ε : Env) : seqE f ε = seqEK (f ε) := Eq.trans rfl rfl
theorem ev_seqEL (x : List D) : seqEK (.ok (.list x)) = .ok x := Eq.trans rfl rfl
theorem ev_seqET (x : List D) : seqEK (.ok (.tuple x)) = .ok x := Eq.trans rfl rfl
theorem ev_seqES (x : Str) : seqEK (.ok (.str x)) = .ok (signs x) := Eq.trans rfl rfl
def rgK (r : R (List D)) : R (List D) := r >>= fun ds => (rangeD ds).hard
theorem ev_rg (fs : List (Env → R D)) (ε : Env) : rangeE fs ε = rgK (evL fs ε) := Eq.trans rfl rfl
theorem ev_rgk (ds : List D) : rgK (.ok ds) = (rangeD ds).hard := Eq.trans rfl rfl
def enK (r : R D) : R (List D) := r >>= seqD >>= fun ds => .ok (enumD ds)
theorem ev_en (f : Env → R D) (ε : Env) : enumE f ε = enK (f ε) := Eq.trans rfl rfl
theorem ev_enL (x : List D) : enK (.ok (.list x)) = .ok (enumD x) := Eq.trans rfl rfl
theorem ev_enT (x : List D) : enK (.ok (.tuple x)) = .ok (enumD x) := Eq.trans rfl rfl
theorem ev_enS (x : Str) : enK (.ok (.str x)) = .ok (enumD (signs x)) := Eq.trans rfl rfl
def ziK (x y : R D) : R (List D) := x >>= fun x => y >>= fun y => (seqD x).hard >>= fun ds => (seqD y).hard >>= fun es => .ok (zipD ds es)
theorem ev_zi (f g : Env → R D) (ε : Env) : zipE f g ε = ziK (f ε) (g ε) := Eq.trans rfl rfl
theorem ev_ziLL (x y : List D) : ziK (.ok (.list x)) (.ok (.list y)) = .ok (zipD x y) := Eq.trans rfl rfl
theorem ev_ziTT (x y : List D) : ziK (.ok (.tuple x)) (.ok (.tuple y)) = .ok (zipD x y) := Eq.trans rfl rfl
theorem ev_ziLT (x y : List D) : ziK (.ok (.list x)) (.ok (.tuple y)) = .ok (zipD x y) := Eq.trans rfl rfl
theorem ev_ziTL (x y : List D) : ziK (.ok (.tuple x)) (.ok (.list y)) = .ok (zipD x y) := Eq.trans rfl rfl
theorem ev_ziSS (x y : Str) : ziK (.ok (.str x)) (.ok (.str y)) = .ok (zipD (signs x) (signs y)) := Eq.trans rfl rfl
def compK (vs : List Nat) (r : R (List D)) (t : Tg) (fi : Env → R Bool) (fe : Env → R D) (ε : Env) : R (List D) := r >>= fun ds => compL t fi fe (wipeE ε vs) ds
theorem ev_comp (vs : List Nat) (it : Env → R (List D)) (t : Tg) (fi : Env → R Bool) (fe : Env → R D) (ε : Env) : compE vs it t fi fe ε = compK vs (it ε) t fi fe ε := Eq.trans rfl rfl
theorem ev_compk (vs : List Nat) (ds : List D) (t : Tg) (fi : Env → R Bool) (fe : Env → R D) (ε : Env) : compK vs (.ok ds) t fi fe ε = compL t fi fe (wipeE ε vs) ds := Eq.trans rfl rfl
/-! values -/
theorem v_add (i j : Int) : addD (.int i) (.int j) = .ok (.int (i + j)) := Eq.trans rfl rfl
theorem v_sub (i j : Int) : subD (.int i) (.int j) = .ok (.int (i - j)) := Eq.trans rfl rfl
theorem v_neg (i : Int) : negD (.int i) = .ok (.int (-i)) := Eq.trans rfl rfl
theorem v_eq (i j : Int) : eqD (.int i) (.int j) = .ok (.bool (decide (i = j))) := by
  unfold eqD
  rw [if_pos ⟨rfl, rfl⟩]
  rfl
theorem v_ne (i j : Int) : neD (.int i) (.int j) = .ok (.bool (!decide (i = j))) := by
  unfold neD
  rw [if_pos ⟨rfl, rfl⟩]
  rfl
theorem v_lt (i j : Int) : ltD (.int i) (.int j) = .ok (.bool (decide (i < j))) := Eq.trans rfl rfl
theorem v_le (i j : Int) : leD (.int i) (.int j) = .ok (.bool (decide (i ≤ j))) := Eq.trans rfl rfl
theorem v_gt (i j : Int) : gtD (.int i) (.int j) = .ok (.bool (decide (j < i))) := Eq.trans rfl rfl
theorem v_ge (i j : Int) : geD (.int i) (.int j) = .ok (.bool (decide (j ≤ i))) := Eq.trans rfl rfl
theorem v_mul {i j : Int} (h : mulFits i j = true) : mulD (.int i) (.int j) = .ok (.int (i * j)) := by
  show (if mulFits i j = true then _ else _) = _
  rw [if_pos h]
def small64 (i : Int) : Prop := -18446744073709551616 < i ∧ i < 18446744073709551616
theorem v_mulL {i j : Int} (h : -18446744073709551616 < i) (h2 : i < 18446744073709551616) : mulD (.int i) (.int j) = .ok (.int (i * j)) := v_mul (by
  unfold mulFits
  rw [decide_eq_true (show -(2 ^ 64) < i by omega), decide_eq_true (show i < 2 ^ 64 by omega)]; rfl)
theorem v_mulR {i j : Int} (h : -18446744073709551616 < j) (h2 : j < 18446744073709551616) : mulD (.int i) (.int j) = .ok (.int (i * j)) := v_mul (by
  unfold mulFits
  rw [decide_eq_true (show -(2 ^ 64) < j by omega), decide_eq_true (show j < 2 ^ 64 by omega)]; simp)
theorem v_p9 : powD (.int 10) (.int 9) = .ok (.int 1000000000) := Eq.trans rfl rfl
theorem v_p18 : powD (.int 10) (.int 18) = .ok (.int 1000000000000000000) := Eq.trans rfl rfl
theorem v_mod {i j : Int} (h : 0 < j) : modD (.int i) (.int j) = .ok (.int (i % j)) := by
  show (if 0 < j then R.ok (PyData.int (i % j)) else R.stuck) = _
  rw [if_pos h]
theorem v_div {i j : Int} (h : 0 < j) (h2 : j < 1073741824) : divD (.int i) (.int j) = .ok (.int (i / j)) := by
  show (if 0 < j ∧ (j.natAbs < 1073741824 ∨ j.natAbs.log2 < 9000) then R.ok (PyData.int (i / j)) else R.stuck) = _
  rw [if_pos ⟨h, .inl (by omega)⟩]
theorem v_int (i : Int) : on1 intG [.int i] = .ok (.int i) := Eq.trans rfl rfl
theorem v_lenL (x : List D) : lenG [.list x] = .ok (.int x.length) := Eq.trans rfl rfl
theorem v_lenT (x : List D) : lenG [.tuple x] = .ok (.int x.length) := Eq.trans rfl rfl
theorem v_lenS (x : Str) : lenG [.str x] = .ok (.int x.length) := Eq.trans rfl rfl
theorem v_tupL (x : List D) : on1 tupG [.list x] = .ok (.tuple x) := Eq.trans rfl rfl
theorem v_tupT (x : List D) : on1 tupG [.tuple x] = .ok (.tuple x) := Eq.trans rfl rfl
theorem v_itL (x : List D) : on1L itemsG [.list x] = .ok x := Eq.trans rfl rfl
theorem v_itT (x : List D) : on1L itemsG [.tuple x] = .ok x := Eq.trans rfl rfl
theorem v_ixL {x : List D} {i : Nat} {d : D} (h : x[i]? = some d) : ixD (.list x) (.int (i : Int)) = .ok d := by
  have e : L2.atI x (i : Int) = some d := L2.atI_nat h
  show (match L2.atI x (i : Int) with
    | some d => R.ok d
    | none => .stuck) = _
  rw [e]
theorem v_ixT {x : List D} {i : Nat} {d : D} (h : x[i]? = some d) : ixD (.tuple x) (.int (i : Int)) = .ok d := by
  have e : L2.atI x (i : Int) = some d := L2.atI_nat h
  show (match L2.atI x (i : Int) with
    | some d => R.ok d
    | none => .stuck) = _
  rw [e]
theorem v_sum (ns : List Int) : on1 sumG [.list (ns.map .int)] = .ok (.int ns.sum) := by
  show (intsOf (ns.map .int) >>= fun ns => R.ok (PyData.int ns.sum)) = _
  rw [intsOf_map]; rfl
theorem v_all (ns : List Bool) : on1 allG [.list (ns.map .bool)] = .ok (.bool (ns.all id)) := by
  show (boolsOf (ns.map .bool) >>= fun ns => R.ok (PyData.bool (ns.all id))) = _
  rw [boolsOf_map]; rfl
theorem v_any (ns : List Bool) : on1 anyG [.list (ns.map .bool)] = .ok (.bool (ns.any id)) := by
  show (boolsOf (ns.map .bool) >>= fun ns => R.ok (PyData.bool (ns.any id))) = _
  rw [boolsOf_map]; rfl
theorem v_range1 {n : Nat} (h : n ≤ 16777216) : rangeD [.int (n : Int)] = .ok (rng 0 n) := by
  show (if -(2 ^ 62) ≤ (n : Int) ∧ (n : Int).toNat ≤ 16777216 then R.ok (rng 0 (n : Int).toNat) else R.stuck) = _
  rw [if_pos ⟨by omega, by omega⟩, Int.toNat_natCast]
theorem v_rangeI {n : Int} (h : n ≤ 16777216) (h0 : 0 ≤ n) : rangeD [.int n] = .ok (rng 0 n.toNat) := by
  show (if -(2 ^ 62) ≤ (n : Int) ∧ (n : Int).toNat ≤ 16777216 then R.ok (rng 0 (n : Int).toNat) else R.stuck) = _
  rw [if_pos ⟨by omega, by omega⟩]
theorem v_range2 {a b : Int} (h : -1000000000 ≤ a) (h1 : a ≤ 1000000000) (h2 : -1000000000 ≤ b) (h3 : b - a ≤ 16777216) : rangeD [.int a, .int b] = .ok (rng a (b - a).toNat) := by
  show (if -(2 ^ 61) ≤ a ∧ a ≤ 2 ^ 61 ∧ -(2 ^ 61) ≤ b ∧ (b - a).toNat ≤ 16777216 then R.ok (rng a (b - a).toNat) else R.stuck) = _
  rw [if_pos ⟨by omega, by omega, by omega, by omega⟩]
theorem v_catT {a b : List D} (h : a.length + b.length ≤ 16777216) : addD (.tuple a) (.tuple b) = .ok (.tuple (a ++ b)) := by
  show (if a.length + b.length ≤ sizeLine then R.ok (PyData.tuple (a ++ b)) else R.stuck) = _
  rw [if_pos (by rw [sizeLine_eq]; exact h)]
theorem v_catL {a b : List D} (h : a.length + b.length ≤ 16777216) : addD (.list a) (.list b) = .ok (.list (a ++ b)) := by
  show (if a.length + b.length ≤ sizeLine then R.ok (PyData.list (a ++ b)) else R.stuck) = _
  rw [if_pos (by rw [sizeLine_eq]; exact h)]
theorem i_1 (i : Int) : isInt (.int i) = true := Eq.trans rfl rfl
theorem ev_run (n : Nat) (g : Gam → R Fl) (ds : List D) : runS n g ds = endR (g (gam0 n ds)) := Eq.trans rfl rfl
theorem ev_end1 (Γ : Gam) : endR (.ok (.nx Γ)) = .ok .none := Eq.trans rfl rfl
theorem ev_end2 (d : D) : endR (.ok (.rt d)) = .ok d := Eq.trans rfl rfl
theorem ev_end3 (e : Exn) (Γ : Gam) : endR (.ok (.xn e Γ)) = .exn e := Eq.trans rfl rfl
theorem ev_vN (L : List Nat) (k : Nat) : viewF L k [] = [] := Eq.trans rfl rfl
def slV (L : List Nat) (k : Nat) : Sl → Option D
  | .un => none
  | .da d => some d
  | .ol ds => if (L.any fun j => k == j) = true then some (.list ds) else none
theorem any_mem {L : List Nat} {k : Nat} : (L.any fun j => k == j) = true ↔ k ∈ L := by
  rw [List.any_eq_true]
  exact ⟨fun ⟨x, hx, e⟩ => by
    have : k = x := by simpa using e
    rw [this]; exact hx, fun h => ⟨k, h, by simp⟩⟩
theorem ev_vC (L : List Nat) (k : Nat) (s : Sl) (r : Gam) : viewF L k (s :: r) = slV L k s :: viewF L (k + 1) r := by
  cases s with
  | un => rfl
  | da d => rfl
  | ol ds =>
    show (if k ∈ L then some (PyData.list ds) else none) :: _ = (if (L.any fun j => k == j) = true then some (PyData.list ds) else none) :: _
    by_cases h : k ∈ L
    · rw [if_pos h, if_pos (any_mem.mpr h)]
    · rw [if_neg h, if_neg fun z => h (any_mem.mp z)]
theorem ev_sU (L : List Nat) (k : Nat) : slV L k .un = none := Eq.trans rfl rfl
theorem ev_sD (L : List Nat) (k : Nat) (d : D) : slV L k (.da d) = some d := Eq.trans rfl rfl
theorem ev_sO (L : List Nat) (k : Nat) (ds : List D) : slV L k (.ol ds) = if (L.any fun j => k == j) = true then some (.list ds) else none := Eq.trans rfl rfl
def slZ (L : List Nat) (k : Nat) : Sl → Sl
  | .un => .un
  | .da d => .da d
  | .ol ds => if (L.any fun j => k == j) = true then .da (.list ds) else .ol ds
theorem ev_fN (L : List Nat) (k : Nat) : frzF L k [] = [] := Eq.trans rfl rfl
theorem ev_fC (L : List Nat) (k : Nat) (s : Sl) (r : Gam) : frzF L k (s :: r) = slZ L k s :: frzF L (k + 1) r := by
  cases s with
  | un => rfl
  | da d => rfl
  | ol ds =>
    show (if k ∈ L then Sl.da (PyData.list ds) else .ol ds) :: _ = (if (L.any fun j => k == j) = true then Sl.da (PyData.list ds) else .ol ds) :: _
    by_cases h : k ∈ L
    · rw [if_pos h, if_pos (any_mem.mpr h)]
    · rw [if_neg h, if_neg fun z => h (any_mem.mp z)]
theorem ev_zU (L : List Nat) (k : Nat) : slZ L k .un = .un := Eq.trans rfl rfl
theorem ev_zD (L : List Nat) (k : Nat) (d : D) : slZ L k (.da d) = .da d := Eq.trans rfl rfl
theorem ev_zO (L : List Nat) (k : Nat) (ds : List D) : slZ L k (.ol ds) = if (L.any fun j => k == j) = true then .da (.list ds) else .ol ds := Eq.trans rfl rfl
theorem fl1 (i : Nat) (d : D) : flatT (.nm i) d = .ok [(i, d)] := Eq.trans rfl rfl
theorem fl2 (ts : List Tg) (ds : List D) : flatT (.tup ts) (.tuple ds) = flatTs ts ds := by rw [flatT]
def flK (a b : R (List (Nat × D))) : R (List (Nat × D)) := a >>= fun a => b >>= fun b => .ok (a ++ b)
theorem fl3 : flatTs [] [] = .ok [] := by rw [flatTs]
theorem fl4 (t : Tg) (ts : List Tg) (d : D) (ds : List D) : flatTs (t :: ts) (d :: ds) = flK (flatT t d) (flatTs ts ds) := by rw [flatTs]; rfl
theorem fl5 (a b : List (Nat × D)) : flK (.ok a) (.ok b) = .ok (a ++ b) := Eq.trans rfl rfl
theorem sg0 (Γ : Gam) : setG Γ [] = Γ := Eq.trans rfl rfl
theorem sg1 (Γ : Gam) (p : Nat × D) (ps : List (Nat × D)) : setG Γ (p :: ps) = setG (Γ.set p.1 (.da p.2)) ps := Eq.trans rfl rfl
theorem se0 (ε : Env) : setE ε [] = ε := Eq.trans rfl rfl
theorem se1 (ε : Env) (p : Nat × D) (ps : List (Nat × D)) : setE ε (p :: ps) = setE (ε.set p.1 (some p.2)) ps := Eq.trans rfl rfl
theorem t_N1 : isN .none = true := Eq.trans rfl rfl
theorem t_N2 (b : Bool) : isN (.bool b) = false := Eq.trans rfl rfl
theorem t_N3 (b : Int) : isN (.int b) = false := Eq.trans rfl rfl
theorem t_N4 (b : Str) : isN (.str b) = false := Eq.trans rfl rfl
theorem t_N5 (b : List D) : isN (.tuple b) = false := Eq.trans rfl rfl
theorem t_N6 (b : List D) : isN (.list b) = false := Eq.trans rfl rfl
end RB

set_option Elab.async false
set_option linter.all false
set_option maxRecDepth 100000
set_option maxHeartbeats 4000000
namespace RB
open PySem PySem.Spec PyProof.Rows L2
/-! ### plain lemmas about what is computed -/
/-! loops -/
/-- a loop whose turns all go on: a fold -/
theorem forL_fold {α : Type} {t : Tg} {body : Gam → R Fl} (rep : α → Gam → Prop) (step : α → D → α) : ∀ (ds : List D) (s : α) (Γ : Gam), rep s Γ →
    (∀ d ∈ ds, ∀ s Γ, rep s Γ → ∃ as, flatT t d = .ok as ∧ ∃ Γ', body (setG Γ as) = .ok (.nx Γ') ∧ rep (step s d) Γ') → ∃ Γ', forL t body ds Γ = .ok (.nx Γ') ∧ rep (ds.foldl step s) Γ'
  | [], s, Γ, h, _ => ⟨Γ, rfl, h⟩
  | d :: ds, s, Γ, h, H => by
    obtain ⟨as, e1, Γ', e2, h'⟩ := H d List.mem_cons_self s Γ h
    obtain ⟨Γ2, e3, h2⟩ := forL_fold rep step ds (step s d) Γ' h' fun x hx => H x (List.mem_cons_of_mem _ hx)
    refine ⟨Γ2, ?_, h2⟩
    unfold forL
    rw [e1, R.hard_ok, R.ok_bind, e2, R.ok_bind]
    exact e3
/-- .. the invariant knows how far it is -/
theorem forL_inv {t : Tg} {body : Gam → R Fl} : ∀ (ds : List D) (I : Nat → Gam → Prop) (Γ : Gam), I 0 Γ →
    (∀ i d, ds[i]? = some d → ∀ Γ, I i Γ → ∃ as, flatT t d = .ok as ∧ ∃ Γ', body (setG Γ as) = .ok (.nx Γ') ∧ I (i + 1) Γ') → ∃ Γ', forL t body ds Γ = .ok (.nx Γ') ∧ I ds.length Γ'
  | [], I, Γ, h, _ => ⟨Γ, rfl, h⟩
  | d :: ds, I, Γ, h, H => by
    obtain ⟨as, e1, Γ', e2, h'⟩ := H 0 d rfl Γ h
    obtain ⟨Γ2, e3, h2⟩ := forL_inv ds (fun i => I (i + 1)) Γ' h' fun i x hx => H (i + 1) x hx
    refine ⟨Γ2, ?_, h2⟩
    unfold forL
    rw [e1, R.hard_ok, R.ok_bind, e2, R.ok_bind]
    exact e3
/-- a loop that may return: hit tells what of which item -/
theorem forL_find {t : Tg} {body : Gam → R Fl} (I : Gam → Prop) (hit : D → Option D) : ∀ (ds : List D) (Γ : Gam), I Γ →
    (∀ d ∈ ds, ∀ Γ, I Γ → ∃ as, flatT t d = .ok as ∧ ((∃ r, hit d = some r ∧ body (setG Γ as) = .ok (.rt r)) ∨ (hit d = none ∧ ∃ Γ', body (setG Γ as) = .ok (.nx Γ') ∧ I Γ'))) →
    (∃ r, ds.findSome? hit = some r ∧ forL t body ds Γ = .ok (.rt r)) ∨ (ds.findSome? hit = none ∧ ∃ Γ', forL t body ds Γ = .ok (.nx Γ') ∧ I Γ')
  | [], Γ, h, _ => .inr ⟨rfl, Γ, rfl, h⟩
  | d :: ds, Γ, h, H => by
    obtain ⟨as, e1, q⟩ := H d List.mem_cons_self Γ h
    rcases q with ⟨r, e2, e3⟩ | ⟨e2, Γ', e3, h'⟩
    · refine .inl ⟨r, by rw [List.findSome?_cons, e2], ?_⟩
      unfold forL
      rw [e1, R.hard_ok, R.ok_bind, e3, R.ok_bind]
    · have ih := forL_find I hit ds Γ' h' fun x hx => H x (List.mem_cons_of_mem _ hx)
      have e4 : forL t body (d :: ds) Γ = forL t body ds Γ' := by
        rw [forL, e1, R.hard_ok, R.ok_bind, e3, R.ok_bind]
      rw [e4, List.findSome?_cons, e2]
      exact ih
/-! comprehensions -/
theorem compL_eq {t : Tg} {fi : Env → R Bool} {fe : Env → R D} {ε : Env} (f : D → Option D) : ∀ ds : List D,
    (∀ d ∈ ds, ∃ as, flatT t d = .ok as ∧ ((fi (setE ε as) = .ok true ∧ ∃ y, fe (setE ε as) = .ok y ∧ f d = some y) ∨ (fi (setE ε as) = .ok false ∧ f d = none))) → compL t fi fe ε ds = .ok (ds.filterMap f)
  | [], _ => rfl
  | d :: ds, H => by
    obtain ⟨as, e1, q⟩ := H d List.mem_cons_self
    have ih := compL_eq f ds fun x hx => H x (List.mem_cons_of_mem _ hx)
    rw [compL, e1, R.hard_ok, R.ok_bind]
    rcases q with ⟨e2, y, e3, e4⟩ | ⟨e2, e4⟩
    · rw [e2, R.hard_ok, R.ok_bind, if_pos rfl, e3, R.hard_ok, R.ok_bind, ih, R.ok_bind, List.filterMap_cons, e4]
    · rw [e2, R.hard_ok, R.ok_bind, if_neg (by decide), ih, List.filterMap_cons, e4]
theorem compL_map {t : Tg} {fi : Env → R Bool} {fe : Env → R D} {ε : Env} (f : D → D) : ∀ ds : List D,
    (∀ d ∈ ds, ∃ as, flatT t d = .ok as ∧ fi (setE ε as) = .ok true ∧ fe (setE ε as) = .ok (f d)) → compL t fi fe ε ds = .ok (ds.map f)
  | [], _ => rfl
  | d :: ds, H => by
    obtain ⟨as, e1, e2, e3⟩ := H d List.mem_cons_self
    have ih := compL_map f ds fun x hx => H x (List.mem_cons_of_mem _ hx)
    rw [compL, e1, R.hard_ok, R.ok_bind, e2, R.hard_ok, R.ok_bind, if_pos rfl, e3, R.hard_ok, R.ok_bind, ih, R.ok_bind, List.map_cons]
theorem rng_mem {lo : Int} {n : Nat} {d : D} (h : d ∈ rng lo n) : ∃ i : Nat, i < n ∧ d = .int (lo + (i : Nat)) := by
  unfold rng at h
  obtain ⟨i, hi, e⟩ := List.mem_map.mp h
  exact ⟨i, List.mem_range.mp hi, e.symm⟩
theorem atI_of {α : Type} {xs : List α} {i : Nat} {x : α} (h : xs[i]? = some x) : L2.atI xs (i : Int) = some x := L2.atI_nat h
end RB

set_option Elab.async false
set_option linter.all false
set_option maxRecDepth 100000
set_option maxHeartbeats 4000000
noncomputable section
namespace Lib
open PySem PySem.Spec PyProof.Rows L2 RB
def g_is_int : Gam → R Fl := retS [] (andE (bE (isiE isInt (var 0))) (notE (bE (isiE isBool (var 0)))))
def S_is_int : List D → R D := runS 1 g_is_int
def g_is_between : Gam → R Fl := retS [] (andE (usrE S_is_int [var 0]) (chainE leD leD (var 1) (var 0) (var 2)))
def S_is_between : List D → R D := runS 3 g_is_between
def g_is_row : Gam → R Fl := retS [] (bE (isiE (fun d => isLst d || isTup d) (var 0)))
def S_is_row : List D → R D := runS 1 g_is_row
def g_is_row_of : Gam → R Fl := retS [] (andE (usrE S_is_row [var 0]) (chainE leD leD (var 1) (callE lenG [var 0]) (var 2)))
def S_is_row_of : List D → R D := runS 3 g_is_row_of
def g_want_int : Gam → R Fl := ifS [] (notT (testE (usrE S_is_between [var 0, var 1, var 2])))
  ((fun _ => .stuck))
  (nilS)
def S_want_int : List D → R D := runS 4 g_want_int
def g__law_cell : Gam → R Fl := seqS (ifS [] (testE (op2E ltD (var 1) (callE lenG [var 0])))
  (retS [] (callE (on1 intG) [op2E ixD (var 0) (var 1)]))
  (nilS))
  (retS [] (con (.int 0)))
def S__law_cell : List D → R D := runS 2 g__law_cell
def b__law_numbers_1 : Gam → R Fl := ifS [] (testE (op2E geD (var 3) (op2E powD (con (.int 10)) (con (.int 18)))))
  (seqS (appS [] 4 (op2E modD (callE (on1 intG) [var 5]) (op2E powD (con (.int 10)) (con (.int 9)))))
  (setS [] 5 (op2E divD (var 5) (op2E powD (con (.int 10)) (con (.int 9))))))
  (seqS (setS [] 7 (op2E modD (callE (on1 intG) [op2E addD (op2E addD (op2E mulD (var 3) (con (.int 48271))) (op2E mulD (op2E addD (var 6) (con (.int 1))) (con (.int 69621)))) (var 1)]) (con (.int 2147483647))))
  (appS [] 4 (op2E modD (op2E modD (callE (on1 intG) [op2E addD (op2E mulD (var 7) (con (.int 16807))) (op2E mulD (op2E addD (var 6) (con (.int 3))) (con (.int 40692)))]) (con (.int 2147483399))) (op2E powD (con (.int 10)) (con (.int 9))))))
def g__law_numbers : Gam → R Fl := seqS (setS [] 3 (usrE S__law_cell [var 0, var 1]))
  (seqS (ownS [] 4 (evL []))
  (seqS (setS [] 5 (var 3))
  (seqS (forS [] (rangeE [var 2]) (.nm 6)
  (b__law_numbers_1))
  (retS [4] (var 4)))))
def S__law_numbers : List D → R D := runS 8 g__law_numbers
def b__law_same_1 (self : List D → R D) : Gam → R Fl := ifS [] (notT (testE (usrE self [op2E ixD (var 0) (var 2), op2E ixD (var 1) (var 2)])))
  (retS [] (con (.bool false)))
  (nilS)
def g__law_same (self : List D → R D) : Gam → R Fl := seqS (ifS [] (orT (testE (bE (isiE isTup (var 1)))) (testE (bE (isiE isTup (var 0)))))
  (seqS (ifS [] (orT (notT (testE (bE (isiE isTup (var 0))))) (orT (notT (testE (bE (isiE isTup (var 1))))) (testE (op2E neD (callE lenG [var 0]) (callE lenG [var 1])))))
  (retS [] (con (.bool false)))
  (nilS))
  (seqS (forS [] (rangeE [callE lenG [var 1]]) (.nm 2)
  (b__law_same_1 self))
  (retS [] (con (.bool true)))))
  (nilS))
  (seqS (ifS [] (orT (isNE (var 0)) (isNE (var 1)))
  (retS [] (andE (bE (isNE (var 0))) (bE (isNE (var 1)))))
  (nilS))
  (seqS (ifS [] (orT (testE (op2E neD (bE (isiE isBool (var 0))) (bE (isiE isBool (var 1))))) (testE (op2E neD (bE (isiE isStr (var 0))) (bE (isiE isStr (var 1))))))
  (retS [] (con (.bool false)))
  (nilS))
  (retS [] (andE (bE (isiE (fun d => isInt d || isStr d) (var 0))) (andE (bE (isiE (fun d => isInt d || isStr d) (var 1))) (op2E eqD (var 0) (var 1)))))))
def S__law_same : Nat → List D → R D
  | 0 => runS 3 fun _ => .stuck
  | n + 1 => runS 3 (g__law_same (S__law_same n))
def b__law_power_1 : Gam → R Fl := setS [] 2 (op2E mulD (var 2) (var 0))
def g__law_power : Gam → R Fl := seqS (setS [] 2 (con (.int 1)))
  (seqS (forS [] (rangeE [var 1]) (.nm 3)
  (b__law_power_1))
  (retS [] (var 2)))
def S__law_power : List D → R D := runS 4 g__law_power
end Lib
end

set_option Elab.async false
set_option linter.all false
set_option maxRecDepth 100000
set_option maxHeartbeats 4000000
namespace Lib
open PySem RB
theorem s_is_int (i : Int) : S_is_int [.int i] = .ok (.bool true) := rfl
theorem s_is_between (i a b : Int) : S_is_between [.int i, .int a, .int b] = .ok (.bool (decide (a ≤ i) && decide (i ≤ b))) := by
  simp only [S_is_between, g_is_between, view, freeze, ev_seq, ev_seq1, ev_seq2, ev_seq3, ev_seq4, ev_seq5, ev_ret, ev_ret1, ev_ret2, ev_retN, ev_nil, ev_bk, ev_ct, ev_if, ev_ifT, ev_ifF, ev_ifX, ev_set, ev_set0, ev_set1, ev_set3, ev_drop, ev_drop1, ev_drop2, ev_own, ev_own0, ev_own1, ev_unp, ev_unp1, ev_unp2, ev_unp3, ev_app, ev_app0, ev_app1, ev_app2, ev_put, ev_put1, ev_put2, ev_aug, ev_aug1, ev_aug2, ev_for, ev_for0, ev_forN, ev_con, ev_var, ev_var1, ev_op2, ev_op2k, ev_op1, ev_op1k, ev_nilL, ev_consL, ev_consk, ev_tup, ev_tupk, ev_dat, ev_datk, ev_call, ev_callk, ev_callF, ev_callFk, ev_usr, ev_usrk, ev_usr0, ev_test, ev_testk, ev_b, ev_bk1, ev_isN, ev_isNk, ev_notN, ev_notNk, ev_andT, ev_andT1, ev_andT0, ev_orT, ev_orT1, ev_orT0, ev_notT, ev_notTk, ev_andE, ev_andE1, ev_andE0, ev_orE, ev_orE1, ev_orE0, ev_notE, ev_notEk, ev_ifE, ev_ifE1, ev_ifE0, ev_ch, ev_ch0, ev_ch1, ev_ch2, ev_isi, ev_isi1, ev_isi2, ev_isi3, ev_isi4, ev_isi5, ev_isi6, ev_sl, ev_slk, ev_slL, ev_slT, ev_slS, ev_par0, ev_par, ev_park, ev_seqE, ev_seqEL, ev_seqET, ev_seqES, ev_rg, ev_rgk, ev_en, ev_enL, ev_enT, ev_enS, ev_zi, ev_ziLL, ev_ziTT, ev_ziLT, ev_ziTL, ev_ziSS, ev_comp, ev_compk, v_add, v_sub, v_neg, v_eq, v_ne, v_lt, v_le, v_gt, v_ge, v_mulL, v_mulR, v_p9, v_p18, v_mod, v_div, v_int, v_lenL, v_lenT, v_lenS, v_tupL, v_tupT, v_itL, v_itT, v_ixL, v_ixT, v_sum, v_all, v_any, v_range1, v_range2, v_catT, v_catL, i_1, ev_run, ev_end1, ev_end2, ev_end3, ev_vN, ev_vC, ev_sU, ev_sD, ev_sO, ev_fN, ev_fC, ev_zU, ev_zD, ev_zO, fl1, fl2, fl3, fl4, fl5, sg0, sg1, se0, se1, List.map_cons, List.map_nil, List.length_cons, List.length_nil, List.cons_append, List.nil_append, List.append_nil, List.set_cons_zero, List.set_cons_succ, List.getElem?_cons_zero, List.getElem?_cons_succ, List.getElem?_nil, List.any_cons, List.any_nil, R.hard_ok, noLst, noLsts, t_N1, t_N2, t_N3, t_N4, t_N5, t_N6, isInt, isBool, isStr, isTup, isLst, gam0, List.replicate, wipeE, if_true, if_false, Bool.false_eq_true, Bool.true_eq_false, Bool.not_true, Bool.not_false, Bool.true_or, Bool.false_or, Bool.or_true, Bool.or_false, Bool.true_and, Bool.false_and, Bool.and_true, Bool.and_false, Bool.and_self, Bool.or_self, decide_true, decide_false, Nat.reduceBEq, Nat.reduceAdd, Nat.reduceSub, Nat.reduceLT, Int.reduceLT, Int.reduceLE, Int.reduceNeg, Int.reduceAdd, Int.reduceSub, Int.reduceMul, Nat.reduceEqDiff, Int.reduceEq, Nat.reduceLeDiff, ↓reduceIte, List.isEmpty_cons, s_is_int]
  by_cases h : a ≤ i <;> simp only [h, view, freeze, ev_seq, ev_seq1, ev_seq2, ev_seq3, ev_seq4, ev_seq5, ev_ret, ev_ret1, ev_ret2, ev_retN, ev_nil, ev_bk, ev_ct, ev_if, ev_ifT, ev_ifF, ev_ifX, ev_set, ev_set0, ev_set1, ev_set3, ev_drop, ev_drop1, ev_drop2, ev_own, ev_own0, ev_own1, ev_unp, ev_unp1, ev_unp2, ev_unp3, ev_app, ev_app0, ev_app1, ev_app2, ev_put, ev_put1, ev_put2, ev_aug, ev_aug1, ev_aug2, ev_for, ev_for0, ev_forN, ev_con, ev_var, ev_var1, ev_op2, ev_op2k, ev_op1, ev_op1k, ev_nilL, ev_consL, ev_consk, ev_tup, ev_tupk, ev_dat, ev_datk, ev_call, ev_callk, ev_callF, ev_callFk, ev_usr, ev_usrk, ev_usr0, ev_test, ev_testk, ev_b, ev_bk1, ev_isN, ev_isNk, ev_notN, ev_notNk, ev_andT, ev_andT1, ev_andT0, ev_orT, ev_orT1, ev_orT0, ev_notT, ev_notTk, ev_andE, ev_andE1, ev_andE0, ev_orE, ev_orE1, ev_orE0, ev_notE, ev_notEk, ev_ifE, ev_ifE1, ev_ifE0, ev_ch, ev_ch0, ev_ch1, ev_ch2, ev_isi, ev_isi1, ev_isi2, ev_isi3, ev_isi4, ev_isi5, ev_isi6, ev_sl, ev_slk, ev_slL, ev_slT, ev_slS, ev_par0, ev_par, ev_park, ev_seqE, ev_seqEL, ev_seqET, ev_seqES, ev_rg, ev_rgk, ev_en, ev_enL, ev_enT, ev_enS, ev_zi, ev_ziLL, ev_ziTT, ev_ziLT, ev_ziTL, ev_ziSS, ev_comp, ev_compk, v_add, v_sub, v_neg, v_eq, v_ne, v_lt, v_le, v_gt, v_ge, v_mulL, v_mulR, v_p9, v_p18, v_mod, v_div, v_int, v_lenL, v_lenT, v_lenS, v_tupL, v_tupT, v_itL, v_itT, v_ixL, v_ixT, v_sum, v_all, v_any, v_range1, v_range2, v_catT, v_catL, i_1, ev_run, ev_end1, ev_end2, ev_end3, ev_vN, ev_vC, ev_sU, ev_sD, ev_sO, ev_fN, ev_fC, ev_zU, ev_zD, ev_zO, fl1, fl2, fl3, fl4, fl5, sg0, sg1, se0, se1, List.map_cons, List.map_nil, List.length_cons, List.length_nil, List.cons_append, List.nil_append, List.append_nil, List.set_cons_zero, List.set_cons_succ, List.getElem?_cons_zero, List.getElem?_cons_succ, List.getElem?_nil, List.any_cons, List.any_nil, R.hard_ok, noLst, noLsts, t_N1, t_N2, t_N3, t_N4, t_N5, t_N6, isInt, isBool, isStr, isTup, isLst, gam0, List.replicate, wipeE, if_true, if_false, Bool.false_eq_true, Bool.true_eq_false, Bool.not_true, Bool.not_false, Bool.true_or, Bool.false_or, Bool.or_true, Bool.or_false, Bool.true_and, Bool.false_and, Bool.and_true, Bool.and_false, Bool.and_self, Bool.or_self, decide_true, decide_false, Nat.reduceBEq, Nat.reduceAdd, Nat.reduceSub, Nat.reduceLT, Int.reduceLT, Int.reduceLE, Int.reduceNeg, Int.reduceAdd, Int.reduceSub, Int.reduceMul, Nat.reduceEqDiff, Int.reduceEq, Nat.reduceLeDiff, ↓reduceIte, List.isEmpty_cons]
theorem s_law_cell (ns : List Int) (p : Nat) : ∃ c : Int, S__law_cell [.list (ns.map .int), .int (p : Int)] = .ok (.int c) := by
  simp only [S__law_cell, g__law_cell, view, freeze, ev_seq, ev_seq1, ev_seq2, ev_seq3, ev_seq4, ev_seq5, ev_ret, ev_ret1, ev_ret2, ev_retN, ev_nil, ev_bk, ev_ct, ev_if, ev_ifT, ev_ifF, ev_ifX, ev_set, ev_set0, ev_set1, ev_set3, ev_drop, ev_drop1, ev_drop2, ev_own, ev_own0, ev_own1, ev_unp, ev_unp1, ev_unp2, ev_unp3, ev_app, ev_app0, ev_app1, ev_app2, ev_put, ev_put1, ev_put2, ev_aug, ev_aug1, ev_aug2, ev_for, ev_for0, ev_forN, ev_con, ev_var, ev_var1, ev_op2, ev_op2k, ev_op1, ev_op1k, ev_nilL, ev_consL, ev_consk, ev_tup, ev_tupk, ev_dat, ev_datk, ev_call, ev_callk, ev_callF, ev_callFk, ev_usr, ev_usrk, ev_usr0, ev_test, ev_testk, ev_b, ev_bk1, ev_isN, ev_isNk, ev_notN, ev_notNk, ev_andT, ev_andT1, ev_andT0, ev_orT, ev_orT1, ev_orT0, ev_notT, ev_notTk, ev_andE, ev_andE1, ev_andE0, ev_orE, ev_orE1, ev_orE0, ev_notE, ev_notEk, ev_ifE, ev_ifE1, ev_ifE0, ev_ch, ev_ch0, ev_ch1, ev_ch2, ev_isi, ev_isi1, ev_isi2, ev_isi3, ev_isi4, ev_isi5, ev_isi6, ev_sl, ev_slk, ev_slL, ev_slT, ev_slS, ev_par0, ev_par, ev_park, ev_seqE, ev_seqEL, ev_seqET, ev_seqES, ev_rg, ev_rgk, ev_en, ev_enL, ev_enT, ev_enS, ev_zi, ev_ziLL, ev_ziTT, ev_ziLT, ev_ziTL, ev_ziSS, ev_comp, ev_compk, v_add, v_sub, v_neg, v_eq, v_ne, v_lt, v_le, v_gt, v_ge, v_mulL, v_mulR, v_p9, v_p18, v_mod, v_div, v_int, v_lenL, v_lenT, v_lenS, v_tupL, v_tupT, v_itL, v_itT, v_ixL, v_ixT, v_sum, v_all, v_any, v_range1, v_range2, v_catT, v_catL, i_1, ev_run, ev_end1, ev_end2, ev_end3, ev_vN, ev_vC, ev_sU, ev_sD, ev_sO, ev_fN, ev_fC, ev_zU, ev_zD, ev_zO, fl1, fl2, fl3, fl4, fl5, sg0, sg1, se0, se1, List.map_cons, List.map_nil, List.length_cons, List.length_nil, List.cons_append, List.nil_append, List.append_nil, List.set_cons_zero, List.set_cons_succ, List.getElem?_cons_zero, List.getElem?_cons_succ, List.getElem?_nil, List.any_cons, List.any_nil, R.hard_ok, noLst, noLsts, t_N1, t_N2, t_N3, t_N4, t_N5, t_N6, isInt, isBool, isStr, isTup, isLst, gam0, List.replicate, wipeE, if_true, if_false, Bool.false_eq_true, Bool.true_eq_false, Bool.not_true, Bool.not_false, Bool.true_or, Bool.false_or, Bool.or_true, Bool.or_false, Bool.true_and, Bool.false_and, Bool.and_true, Bool.and_false, Bool.and_self, Bool.or_self, decide_true, decide_false, Nat.reduceBEq, Nat.reduceAdd, Nat.reduceSub, Nat.reduceLT, Int.reduceLT, Int.reduceLE, Int.reduceNeg, Int.reduceAdd, Int.reduceSub, Int.reduceMul, Nat.reduceEqDiff, Int.reduceEq, Nat.reduceLeDiff, ↓reduceIte, List.isEmpty_cons, List.length_map]
  by_cases h : p < ns.length
  · refine ⟨ns[p], ?_⟩
    have e : (ns.map PyData.int)[p]? = some (.int ns[p]) := by simp [h]
    have h' : (p : Int) < (ns.length : Int) := by omega
    simp only [h', view, freeze, ev_seq, ev_seq1, ev_seq2, ev_seq3, ev_seq4, ev_seq5, ev_ret, ev_ret1, ev_ret2, ev_retN, ev_nil, ev_bk, ev_ct, ev_if, ev_ifT, ev_ifF, ev_ifX, ev_set, ev_set0, ev_set1, ev_set3, ev_drop, ev_drop1, ev_drop2, ev_own, ev_own0, ev_own1, ev_unp, ev_unp1, ev_unp2, ev_unp3, ev_app, ev_app0, ev_app1, ev_app2, ev_put, ev_put1, ev_put2, ev_aug, ev_aug1, ev_aug2, ev_for, ev_for0, ev_forN, ev_con, ev_var, ev_var1, ev_op2, ev_op2k, ev_op1, ev_op1k, ev_nilL, ev_consL, ev_consk, ev_tup, ev_tupk, ev_dat, ev_datk, ev_call, ev_callk, ev_callF, ev_callFk, ev_usr, ev_usrk, ev_usr0, ev_test, ev_testk, ev_b, ev_bk1, ev_isN, ev_isNk, ev_notN, ev_notNk, ev_andT, ev_andT1, ev_andT0, ev_orT, ev_orT1, ev_orT0, ev_notT, ev_notTk, ev_andE, ev_andE1, ev_andE0, ev_orE, ev_orE1, ev_orE0, ev_notE, ev_notEk, ev_ifE, ev_ifE1, ev_ifE0, ev_ch, ev_ch0, ev_ch1, ev_ch2, ev_isi, ev_isi1, ev_isi2, ev_isi3, ev_isi4, ev_isi5, ev_isi6, ev_sl, ev_slk, ev_slL, ev_slT, ev_slS, ev_par0, ev_par, ev_park, ev_seqE, ev_seqEL, ev_seqET, ev_seqES, ev_rg, ev_rgk, ev_en, ev_enL, ev_enT, ev_enS, ev_zi, ev_ziLL, ev_ziTT, ev_ziLT, ev_ziTL, ev_ziSS, ev_comp, ev_compk, v_add, v_sub, v_neg, v_eq, v_ne, v_lt, v_le, v_gt, v_ge, v_mulL, v_mulR, v_p9, v_p18, v_mod, v_div, v_int, v_lenL, v_lenT, v_lenS, v_tupL, v_tupT, v_itL, v_itT, v_ixL, v_ixT, v_sum, v_all, v_any, v_range1, v_range2, v_catT, v_catL, i_1, ev_run, ev_end1, ev_end2, ev_end3, ev_vN, ev_vC, ev_sU, ev_sD, ev_sO, ev_fN, ev_fC, ev_zU, ev_zD, ev_zO, fl1, fl2, fl3, fl4, fl5, sg0, sg1, se0, se1, List.map_cons, List.map_nil, List.length_cons, List.length_nil, List.cons_append, List.nil_append, List.append_nil, List.set_cons_zero, List.set_cons_succ, List.getElem?_cons_zero, List.getElem?_cons_succ, List.getElem?_nil, List.any_cons, List.any_nil, R.hard_ok, noLst, noLsts, t_N1, t_N2, t_N3, t_N4, t_N5, t_N6, isInt, isBool, isStr, isTup, isLst, gam0, List.replicate, wipeE, if_true, if_false, Bool.false_eq_true, Bool.true_eq_false, Bool.not_true, Bool.not_false, Bool.true_or, Bool.false_or, Bool.or_true, Bool.or_false, Bool.true_and, Bool.false_and, Bool.and_true, Bool.and_false, Bool.and_self, Bool.or_self, decide_true, decide_false, Nat.reduceBEq, Nat.reduceAdd, Nat.reduceSub, Nat.reduceLT, Int.reduceLT, Int.reduceLE, Int.reduceNeg, Int.reduceAdd, Int.reduceSub, Int.reduceMul, Nat.reduceEqDiff, Int.reduceEq, Nat.reduceLeDiff, ↓reduceIte, List.isEmpty_cons, v_ixL e]
  · refine ⟨0, ?_⟩
    have h' : ¬ (p : Int) < (ns.length : Int) := by omega
    simp only [h', view, freeze, ev_seq, ev_seq1, ev_seq2, ev_seq3, ev_seq4, ev_seq5, ev_ret, ev_ret1, ev_ret2, ev_retN, ev_nil, ev_bk, ev_ct, ev_if, ev_ifT, ev_ifF, ev_ifX, ev_set, ev_set0, ev_set1, ev_set3, ev_drop, ev_drop1, ev_drop2, ev_own, ev_own0, ev_own1, ev_unp, ev_unp1, ev_unp2, ev_unp3, ev_app, ev_app0, ev_app1, ev_app2, ev_put, ev_put1, ev_put2, ev_aug, ev_aug1, ev_aug2, ev_for, ev_for0, ev_forN, ev_con, ev_var, ev_var1, ev_op2, ev_op2k, ev_op1, ev_op1k, ev_nilL, ev_consL, ev_consk, ev_tup, ev_tupk, ev_dat, ev_datk, ev_call, ev_callk, ev_callF, ev_callFk, ev_usr, ev_usrk, ev_usr0, ev_test, ev_testk, ev_b, ev_bk1, ev_isN, ev_isNk, ev_notN, ev_notNk, ev_andT, ev_andT1, ev_andT0, ev_orT, ev_orT1, ev_orT0, ev_notT, ev_notTk, ev_andE, ev_andE1, ev_andE0, ev_orE, ev_orE1, ev_orE0, ev_notE, ev_notEk, ev_ifE, ev_ifE1, ev_ifE0, ev_ch, ev_ch0, ev_ch1, ev_ch2, ev_isi, ev_isi1, ev_isi2, ev_isi3, ev_isi4, ev_isi5, ev_isi6, ev_sl, ev_slk, ev_slL, ev_slT, ev_slS, ev_par0, ev_par, ev_park, ev_seqE, ev_seqEL, ev_seqET, ev_seqES, ev_rg, ev_rgk, ev_en, ev_enL, ev_enT, ev_enS, ev_zi, ev_ziLL, ev_ziTT, ev_ziLT, ev_ziTL, ev_ziSS, ev_comp, ev_compk, v_add, v_sub, v_neg, v_eq, v_ne, v_lt, v_le, v_gt, v_ge, v_mulL, v_mulR, v_p9, v_p18, v_mod, v_div, v_int, v_lenL, v_lenT, v_lenS, v_tupL, v_tupT, v_itL, v_itT, v_ixL, v_ixT, v_sum, v_all, v_any, v_range1, v_range2, v_catT, v_catL, i_1, ev_run, ev_end1, ev_end2, ev_end3, ev_vN, ev_vC, ev_sU, ev_sD, ev_sO, ev_fN, ev_fC, ev_zU, ev_zD, ev_zO, fl1, fl2, fl3, fl4, fl5, sg0, sg1, se0, se1, List.map_cons, List.map_nil, List.length_cons, List.length_nil, List.cons_append, List.nil_append, List.append_nil, List.set_cons_zero, List.set_cons_succ, List.getElem?_cons_zero, List.getElem?_cons_succ, List.getElem?_nil, List.any_cons, List.any_nil, R.hard_ok, noLst, noLsts, t_N1, t_N2, t_N3, t_N4, t_N5, t_N6, isInt, isBool, isStr, isTup, isLst, gam0, List.replicate, wipeE, if_true, if_false, Bool.false_eq_true, Bool.true_eq_false, Bool.not_true, Bool.not_false, Bool.true_or, Bool.false_or, Bool.or_true, Bool.or_false, Bool.true_and, Bool.false_and, Bool.and_true, Bool.and_false, Bool.and_self, Bool.or_self, decide_true, decide_false, Nat.reduceBEq, Nat.reduceAdd, Nat.reduceSub, Nat.reduceLT, Int.reduceLT, Int.reduceLE, Int.reduceNeg, Int.reduceAdd, Int.reduceSub, Int.reduceMul, Nat.reduceEqDiff, Int.reduceEq, Nat.reduceLeDiff, ↓reduceIte, List.isEmpty_cons]
theorem s_law_numbers (ns : List Int) (p many : Nat) (hm : many ≤ 1000) : ∃ xs : List Int, xs.length = many ∧ (∀ x ∈ xs, 0 ≤ x ∧ x < 10 ^ 9) ∧ S__law_numbers [.list (ns.map .int), .int (p : Int), .int (many : Int)] = .ok (.list (xs.map .int)) := by
  obtain ⟨c, hc⟩ := s_law_cell ns p
  simp only [S__law_numbers, g__law_numbers, view, freeze, ev_seq, ev_seq1, ev_seq2, ev_seq3, ev_seq4, ev_seq5, ev_ret, ev_ret1, ev_ret2, ev_retN, ev_nil, ev_bk, ev_ct, ev_if, ev_ifT, ev_ifF, ev_ifX, ev_set, ev_set0, ev_set1, ev_set3, ev_drop, ev_drop1, ev_drop2, ev_own, ev_own0, ev_own1, ev_unp, ev_unp1, ev_unp2, ev_unp3, ev_app, ev_app0, ev_app1, ev_app2, ev_put, ev_put1, ev_put2, ev_aug, ev_aug1, ev_aug2, ev_for, ev_for0, ev_forN, ev_con, ev_var, ev_var1, ev_op2, ev_op2k, ev_op1, ev_op1k, ev_nilL, ev_consL, ev_consk, ev_tup, ev_tupk, ev_dat, ev_datk, ev_call, ev_callk, ev_callF, ev_callFk, ev_usr, ev_usrk, ev_usr0, ev_test, ev_testk, ev_b, ev_bk1, ev_isN, ev_isNk, ev_notN, ev_notNk, ev_andT, ev_andT1, ev_andT0, ev_orT, ev_orT1, ev_orT0, ev_notT, ev_notTk, ev_andE, ev_andE1, ev_andE0, ev_orE, ev_orE1, ev_orE0, ev_notE, ev_notEk, ev_ifE, ev_ifE1, ev_ifE0, ev_ch, ev_ch0, ev_ch1, ev_ch2, ev_isi, ev_isi1, ev_isi2, ev_isi3, ev_isi4, ev_isi5, ev_isi6, ev_sl, ev_slk, ev_slL, ev_slT, ev_slS, ev_par0, ev_par, ev_park, ev_seqE, ev_seqEL, ev_seqET, ev_seqES, ev_rg, ev_rgk, ev_en, ev_enL, ev_enT, ev_enS, ev_zi, ev_ziLL, ev_ziTT, ev_ziLT, ev_ziTL, ev_ziSS, ev_comp, ev_compk, v_add, v_sub, v_neg, v_eq, v_ne, v_lt, v_le, v_gt, v_ge, v_mulL, v_mulR, v_p9, v_p18, v_mod, v_div, v_int, v_lenL, v_lenT, v_lenS, v_tupL, v_tupT, v_itL, v_itT, v_ixL, v_ixT, v_sum, v_all, v_any, v_range1, v_range2, v_catT, v_catL, i_1, ev_run, ev_end1, ev_end2, ev_end3, ev_vN, ev_vC, ev_sU, ev_sD, ev_sO, ev_fN, ev_fC, ev_zU, ev_zD, ev_zO, fl1, fl2, fl3, fl4, fl5, sg0, sg1, se0, se1, List.map_cons, List.map_nil, List.length_cons, List.length_nil, List.cons_append, List.nil_append, List.append_nil, List.set_cons_zero, List.set_cons_succ, List.getElem?_cons_zero, List.getElem?_cons_succ, List.getElem?_nil, List.any_cons, List.any_nil, R.hard_ok, noLst, noLsts, t_N1, t_N2, t_N3, t_N4, t_N5, t_N6, isInt, isBool, isStr, isTup, isLst, gam0, List.replicate, wipeE, if_true, if_false, Bool.false_eq_true, Bool.true_eq_false, Bool.not_true, Bool.not_false, Bool.true_or, Bool.false_or, Bool.or_true, Bool.or_false, Bool.true_and, Bool.false_and, Bool.and_true, Bool.and_false, Bool.and_self, Bool.or_self, decide_true, decide_false, Nat.reduceBEq, Nat.reduceAdd, Nat.reduceSub, Nat.reduceLT, Int.reduceLT, Int.reduceLE, Int.reduceNeg, Int.reduceAdd, Int.reduceSub, Int.reduceMul, Nat.reduceEqDiff, Int.reduceEq, Nat.reduceLeDiff, ↓reduceIte, List.isEmpty_cons, hc, v_range1 (Nat.le_trans hm (by decide : 1000 ≤ 16777216))]
  have H := forL_inv (t := .nm 6) (body := b__law_numbers_1) (rng 0 many) (fun i Γ => ∃ (xs : List Int) (rest : Int) (s6 s7 : Sl), Γ = [.da (.list (ns.map .int)), .da (.int p), .da (.int many), .da (.int c), .ol (xs.map .int), .da (.int rest), s6, s7] ∧ xs.length = i ∧ ∀ x ∈ xs, 0 ≤ x ∧ x < 10 ^ 9)
    [.da (.list (ns.map .int)), .da (.int p), .da (.int many), .da (.int c), .ol [], .da (.int c), .un, .un] ⟨[], c, .un, .un, rfl, rfl, by simp⟩ ?_
  · obtain ⟨Γ', e, xs, rest, s6, s7, rfl, hl, hb⟩ := H
    rw [rng_len] at hl
    refine ⟨xs, hl, hb, ?_⟩
    simp only [view, freeze, ev_seq, ev_seq1, ev_seq2, ev_seq3, ev_seq4, ev_seq5, ev_ret, ev_ret1, ev_ret2, ev_retN, ev_nil, ev_bk, ev_ct, ev_if, ev_ifT, ev_ifF, ev_ifX, ev_set, ev_set0, ev_set1, ev_set3, ev_drop, ev_drop1, ev_drop2, ev_own, ev_own0, ev_own1, ev_unp, ev_unp1, ev_unp2, ev_unp3, ev_app, ev_app0, ev_app1, ev_app2, ev_put, ev_put1, ev_put2, ev_aug, ev_aug1, ev_aug2, ev_for, ev_for0, ev_forN, ev_con, ev_var, ev_var1, ev_op2, ev_op2k, ev_op1, ev_op1k, ev_nilL, ev_consL, ev_consk, ev_tup, ev_tupk, ev_dat, ev_datk, ev_call, ev_callk, ev_callF, ev_callFk, ev_usr, ev_usrk, ev_usr0, ev_test, ev_testk, ev_b, ev_bk1, ev_isN, ev_isNk, ev_notN, ev_notNk, ev_andT, ev_andT1, ev_andT0, ev_orT, ev_orT1, ev_orT0, ev_notT, ev_notTk, ev_andE, ev_andE1, ev_andE0, ev_orE, ev_orE1, ev_orE0, ev_notE, ev_notEk, ev_ifE, ev_ifE1, ev_ifE0, ev_ch, ev_ch0, ev_ch1, ev_ch2, ev_isi, ev_isi1, ev_isi2, ev_isi3, ev_isi4, ev_isi5, ev_isi6, ev_sl, ev_slk, ev_slL, ev_slT, ev_slS, ev_par0, ev_par, ev_park, ev_seqE, ev_seqEL, ev_seqET, ev_seqES, ev_rg, ev_rgk, ev_en, ev_enL, ev_enT, ev_enS, ev_zi, ev_ziLL, ev_ziTT, ev_ziLT, ev_ziTL, ev_ziSS, ev_comp, ev_compk, v_add, v_sub, v_neg, v_eq, v_ne, v_lt, v_le, v_gt, v_ge, v_mulL, v_mulR, v_p9, v_p18, v_mod, v_div, v_int, v_lenL, v_lenT, v_lenS, v_tupL, v_tupT, v_itL, v_itT, v_ixL, v_ixT, v_sum, v_all, v_any, v_range1, v_range2, v_catT, v_catL, i_1, ev_run, ev_end1, ev_end2, ev_end3, ev_vN, ev_vC, ev_sU, ev_sD, ev_sO, ev_fN, ev_fC, ev_zU, ev_zD, ev_zO, fl1, fl2, fl3, fl4, fl5, sg0, sg1, se0, se1, List.map_cons, List.map_nil, List.length_cons, List.length_nil, List.cons_append, List.nil_append, List.append_nil, List.set_cons_zero, List.set_cons_succ, List.getElem?_cons_zero, List.getElem?_cons_succ, List.getElem?_nil, List.any_cons, List.any_nil, R.hard_ok, noLst, noLsts, t_N1, t_N2, t_N3, t_N4, t_N5, t_N6, isInt, isBool, isStr, isTup, isLst, gam0, List.replicate, wipeE, if_true, if_false, Bool.false_eq_true, Bool.true_eq_false, Bool.not_true, Bool.not_false, Bool.true_or, Bool.false_or, Bool.or_true, Bool.or_false, Bool.true_and, Bool.false_and, Bool.and_true, Bool.and_false, Bool.and_self, Bool.or_self, decide_true, decide_false, Nat.reduceBEq, Nat.reduceAdd, Nat.reduceSub, Nat.reduceLT, Int.reduceLT, Int.reduceLE, Int.reduceNeg, Int.reduceAdd, Int.reduceSub, Int.reduceMul, Nat.reduceEqDiff, Int.reduceEq, Nat.reduceLeDiff, ↓reduceIte, List.isEmpty_cons, e]
  · intro i d hd Γ ⟨xs, rest, s6, s7, e, hl, hb⟩
    subst e
    have hi : i < many := by
      have := (List.getElem?_eq_some_iff.mp hd).1
      rwa [rng_len] at this
    rw [rng_get hi] at hd
    cases hd
    have hx : (xs.map PyData.int).length < 16777216 := by rw [List.length_map]; omega
    refine ⟨[(6, .int (0 + i))], rfl, ?_⟩
    by_cases h : 1000000000000000000 ≤ c
    · simp only [b__law_numbers_1, view, freeze, ev_seq, ev_seq1, ev_seq2, ev_seq3, ev_seq4, ev_seq5, ev_ret, ev_ret1, ev_ret2, ev_retN, ev_nil, ev_bk, ev_ct, ev_if, ev_ifT, ev_ifF, ev_ifX, ev_set, ev_set0, ev_set1, ev_set3, ev_drop, ev_drop1, ev_drop2, ev_own, ev_own0, ev_own1, ev_unp, ev_unp1, ev_unp2, ev_unp3, ev_app, ev_app0, ev_app1, ev_app2, ev_put, ev_put1, ev_put2, ev_aug, ev_aug1, ev_aug2, ev_for, ev_for0, ev_forN, ev_con, ev_var, ev_var1, ev_op2, ev_op2k, ev_op1, ev_op1k, ev_nilL, ev_consL, ev_consk, ev_tup, ev_tupk, ev_dat, ev_datk, ev_call, ev_callk, ev_callF, ev_callFk, ev_usr, ev_usrk, ev_usr0, ev_test, ev_testk, ev_b, ev_bk1, ev_isN, ev_isNk, ev_notN, ev_notNk, ev_andT, ev_andT1, ev_andT0, ev_orT, ev_orT1, ev_orT0, ev_notT, ev_notTk, ev_andE, ev_andE1, ev_andE0, ev_orE, ev_orE1, ev_orE0, ev_notE, ev_notEk, ev_ifE, ev_ifE1, ev_ifE0, ev_ch, ev_ch0, ev_ch1, ev_ch2, ev_isi, ev_isi1, ev_isi2, ev_isi3, ev_isi4, ev_isi5, ev_isi6, ev_sl, ev_slk, ev_slL, ev_slT, ev_slS, ev_par0, ev_par, ev_park, ev_seqE, ev_seqEL, ev_seqET, ev_seqES, ev_rg, ev_rgk, ev_en, ev_enL, ev_enT, ev_enS, ev_zi, ev_ziLL, ev_ziTT, ev_ziLT, ev_ziTL, ev_ziSS, ev_comp, ev_compk, v_add, v_sub, v_neg, v_eq, v_ne, v_lt, v_le, v_gt, v_ge, v_mulL, v_mulR, v_p9, v_p18, v_mod, v_div, v_int, v_lenL, v_lenT, v_lenS, v_tupL, v_tupT, v_itL, v_itT, v_ixL, v_ixT, v_sum, v_all, v_any, v_range1, v_range2, v_catT, v_catL, i_1, ev_run, ev_end1, ev_end2, ev_end3, ev_vN, ev_vC, ev_sU, ev_sD, ev_sO, ev_fN, ev_fC, ev_zU, ev_zD, ev_zO, fl1, fl2, fl3, fl4, fl5, sg0, sg1, se0, se1, List.map_cons, List.map_nil, List.length_cons, List.length_nil, List.cons_append, List.nil_append, List.append_nil, List.set_cons_zero, List.set_cons_succ, List.getElem?_cons_zero, List.getElem?_cons_succ, List.getElem?_nil, List.any_cons, List.any_nil, R.hard_ok, noLst, noLsts, t_N1, t_N2, t_N3, t_N4, t_N5, t_N6, isInt, isBool, isStr, isTup, isLst, gam0, List.replicate, wipeE, if_true, if_false, Bool.false_eq_true, Bool.true_eq_false, Bool.not_true, Bool.not_false, Bool.true_or, Bool.false_or, Bool.or_true, Bool.or_false, Bool.true_and, Bool.false_and, Bool.and_true, Bool.and_false, Bool.and_self, Bool.or_self, decide_true, decide_false, Nat.reduceBEq, Nat.reduceAdd, Nat.reduceSub, Nat.reduceLT, Int.reduceLT, Int.reduceLE, Int.reduceNeg, Int.reduceAdd, Int.reduceSub, Int.reduceMul, Nat.reduceEqDiff, Int.reduceEq, Nat.reduceLeDiff, ↓reduceIte, List.isEmpty_cons, h, hx, R.ok.injEq, Fl.nx.injEq, Fl.rt.injEq, exists_eq_left', exists_eq_left]
      refine ⟨xs ++ [rest % 1000000000], _, _, _, by rw [List.map_append]; rfl, by simp [hl], fun x hx => ?_⟩
      rcases List.mem_append.mp hx with hx | hx
      · exact hb x hx
      · simp only [List.mem_singleton] at hx; omega
    · simp only [b__law_numbers_1, view, freeze, ev_seq, ev_seq1, ev_seq2, ev_seq3, ev_seq4, ev_seq5, ev_ret, ev_ret1, ev_ret2, ev_retN, ev_nil, ev_bk, ev_ct, ev_if, ev_ifT, ev_ifF, ev_ifX, ev_set, ev_set0, ev_set1, ev_set3, ev_drop, ev_drop1, ev_drop2, ev_own, ev_own0, ev_own1, ev_unp, ev_unp1, ev_unp2, ev_unp3, ev_app, ev_app0, ev_app1, ev_app2, ev_put, ev_put1, ev_put2, ev_aug, ev_aug1, ev_aug2, ev_for, ev_for0, ev_forN, ev_con, ev_var, ev_var1, ev_op2, ev_op2k, ev_op1, ev_op1k, ev_nilL, ev_consL, ev_consk, ev_tup, ev_tupk, ev_dat, ev_datk, ev_call, ev_callk, ev_callF, ev_callFk, ev_usr, ev_usrk, ev_usr0, ev_test, ev_testk, ev_b, ev_bk1, ev_isN, ev_isNk, ev_notN, ev_notNk, ev_andT, ev_andT1, ev_andT0, ev_orT, ev_orT1, ev_orT0, ev_notT, ev_notTk, ev_andE, ev_andE1, ev_andE0, ev_orE, ev_orE1, ev_orE0, ev_notE, ev_notEk, ev_ifE, ev_ifE1, ev_ifE0, ev_ch, ev_ch0, ev_ch1, ev_ch2, ev_isi, ev_isi1, ev_isi2, ev_isi3, ev_isi4, ev_isi5, ev_isi6, ev_sl, ev_slk, ev_slL, ev_slT, ev_slS, ev_par0, ev_par, ev_park, ev_seqE, ev_seqEL, ev_seqET, ev_seqES, ev_rg, ev_rgk, ev_en, ev_enL, ev_enT, ev_enS, ev_zi, ev_ziLL, ev_ziTT, ev_ziLT, ev_ziTL, ev_ziSS, ev_comp, ev_compk, v_add, v_sub, v_neg, v_eq, v_ne, v_lt, v_le, v_gt, v_ge, v_mulL, v_mulR, v_p9, v_p18, v_mod, v_div, v_int, v_lenL, v_lenT, v_lenS, v_tupL, v_tupT, v_itL, v_itT, v_ixL, v_ixT, v_sum, v_all, v_any, v_range1, v_range2, v_catT, v_catL, i_1, ev_run, ev_end1, ev_end2, ev_end3, ev_vN, ev_vC, ev_sU, ev_sD, ev_sO, ev_fN, ev_fC, ev_zU, ev_zD, ev_zO, fl1, fl2, fl3, fl4, fl5, sg0, sg1, se0, se1, List.map_cons, List.map_nil, List.length_cons, List.length_nil, List.cons_append, List.nil_append, List.append_nil, List.set_cons_zero, List.set_cons_succ, List.getElem?_cons_zero, List.getElem?_cons_succ, List.getElem?_nil, List.any_cons, List.any_nil, R.hard_ok, noLst, noLsts, t_N1, t_N2, t_N3, t_N4, t_N5, t_N6, isInt, isBool, isStr, isTup, isLst, gam0, List.replicate, wipeE, if_true, if_false, Bool.false_eq_true, Bool.true_eq_false, Bool.not_true, Bool.not_false, Bool.true_or, Bool.false_or, Bool.or_true, Bool.or_false, Bool.true_and, Bool.false_and, Bool.and_true, Bool.and_false, Bool.and_self, Bool.or_self, decide_true, decide_false, Nat.reduceBEq, Nat.reduceAdd, Nat.reduceSub, Nat.reduceLT, Int.reduceLT, Int.reduceLE, Int.reduceNeg, Int.reduceAdd, Int.reduceSub, Int.reduceMul, Nat.reduceEqDiff, Int.reduceEq, Nat.reduceLeDiff, ↓reduceIte, List.isEmpty_cons, h, hx, R.ok.injEq, Fl.nx.injEq, Fl.rt.injEq, exists_eq_left', exists_eq_left]
      refine ⟨xs ++ [_], _, _, _, by rw [List.map_append]; rfl, by simp [hl], fun x hx => ?_⟩
      rcases List.mem_append.mp hx with hx | hx
      · exact hb x hx
      · simp only [List.mem_singleton] at hx; omega
end Lib

set_option Elab.async false
set_option linter.all false
set_option maxRecDepth 100000
set_option maxHeartbeats 4000000
namespace Lib
open PySem RB
/-! ### _law_same -/
theorem v_neB (a b : Bool) : neD (.bool a) (.bool b) = .ok (.bool (!(a == b))) := by
  unfold neD
  rw [if_pos ⟨rfl, rfl⟩]
  rfl
theorem v_eqB (a b : Bool) : eqD (.bool a) (.bool b) = .ok (.bool (a == b)) := by
  unfold eqD
  rw [if_pos ⟨rfl, rfl⟩]
  rfl
theorem v_eqS (a b : Str) : eqD (.str a) (.str b) = .ok (.bool (a == b)) := by
  unfold eqD
  rw [if_pos ⟨rfl, rfl⟩]
  rfl
theorem same_int (n : Nat) (a b : Int) : S__law_same (n + 1) [.int a, .int b] = .ok (.bool (decide (a = b))) := by
  simp only [S__law_same, g__law_same, view, freeze, ev_seq, ev_seq1, ev_seq2, ev_seq3, ev_seq4, ev_seq5, ev_ret, ev_ret1, ev_ret2, ev_retN, ev_nil, ev_bk, ev_ct, ev_if, ev_ifT, ev_ifF, ev_ifX, ev_set, ev_set0, ev_set1, ev_set3, ev_drop, ev_drop1, ev_drop2, ev_own, ev_own0, ev_own1, ev_unp, ev_unp1, ev_unp2, ev_unp3, ev_app, ev_app0, ev_app1, ev_app2, ev_put, ev_put1, ev_put2, ev_aug, ev_aug1, ev_aug2, ev_for, ev_for0, ev_forN, ev_con, ev_var, ev_var1, ev_op2, ev_op2k, ev_op1, ev_op1k, ev_nilL, ev_consL, ev_consk, ev_tup, ev_tupk, ev_dat, ev_datk, ev_call, ev_callk, ev_callF, ev_callFk, ev_usr, ev_usrk, ev_usr0, ev_test, ev_testk, ev_b, ev_bk1, ev_isN, ev_isNk, ev_notN, ev_notNk, ev_andT, ev_andT1, ev_andT0, ev_orT, ev_orT1, ev_orT0, ev_notT, ev_notTk, ev_andE, ev_andE1, ev_andE0, ev_orE, ev_orE1, ev_orE0, ev_notE, ev_notEk, ev_ifE, ev_ifE1, ev_ifE0, ev_ch, ev_ch0, ev_ch1, ev_ch2, ev_isi, ev_isi1, ev_isi2, ev_isi3, ev_isi4, ev_isi5, ev_isi6, ev_sl, ev_slk, ev_slL, ev_slT, ev_slS, ev_par0, ev_par, ev_park, ev_seqE, ev_seqEL, ev_seqET, ev_seqES, ev_rg, ev_rgk, ev_en, ev_enL, ev_enT, ev_enS, ev_zi, ev_ziLL, ev_ziTT, ev_ziLT, ev_ziTL, ev_ziSS, ev_comp, ev_compk, v_add, v_sub, v_neg, v_eq, v_ne, v_lt, v_le, v_gt, v_ge, v_mulL, v_mulR, v_p9, v_p18, v_mod, v_div, v_int, v_lenL, v_lenT, v_lenS, v_tupL, v_tupT, v_itL, v_itT, v_ixL, v_ixT, v_sum, v_all, v_any, v_range1, v_range2, v_catT, v_catL, i_1, ev_run, ev_end1, ev_end2, ev_end3, ev_vN, ev_vC, ev_sU, ev_sD, ev_sO, ev_fN, ev_fC, ev_zU, ev_zD, ev_zO, fl1, fl2, fl3, fl4, fl5, sg0, sg1, se0, se1, List.map_cons, List.map_nil, List.length_cons, List.length_nil, List.cons_append, List.nil_append, List.append_nil, List.set_cons_zero, List.set_cons_succ, List.getElem?_cons_zero, List.getElem?_cons_succ, List.getElem?_nil, List.any_cons, List.any_nil, R.hard_ok, noLst, noLsts, t_N1, t_N2, t_N3, t_N4, t_N5, t_N6, isInt, isBool, isStr, isTup, isLst, gam0, List.replicate, wipeE, if_true, if_false, Bool.false_eq_true, Bool.true_eq_false, Bool.not_true, Bool.not_false, Bool.true_or, Bool.false_or, Bool.or_true, Bool.or_false, Bool.true_and, Bool.false_and, Bool.and_true, Bool.and_false, Bool.and_self, Bool.or_self, decide_true, decide_false, Nat.reduceBEq, Nat.reduceAdd, Nat.reduceSub, Nat.reduceLT, Int.reduceLT, Int.reduceLE, Int.reduceNeg, Int.reduceAdd, Int.reduceSub, Int.reduceMul, Nat.reduceEqDiff, Int.reduceEq, Nat.reduceLeDiff, ↓reduceIte, List.isEmpty_cons, v_neB, beq_self_eq_true]
theorem same_none (n : Nat) : S__law_same (n + 1) [.none, .none] = .ok (.bool true) := by
  simp only [S__law_same, g__law_same, view, freeze, ev_seq, ev_seq1, ev_seq2, ev_seq3, ev_seq4, ev_seq5, ev_ret, ev_ret1, ev_ret2, ev_retN, ev_nil, ev_bk, ev_ct, ev_if, ev_ifT, ev_ifF, ev_ifX, ev_set, ev_set0, ev_set1, ev_set3, ev_drop, ev_drop1, ev_drop2, ev_own, ev_own0, ev_own1, ev_unp, ev_unp1, ev_unp2, ev_unp3, ev_app, ev_app0, ev_app1, ev_app2, ev_put, ev_put1, ev_put2, ev_aug, ev_aug1, ev_aug2, ev_for, ev_for0, ev_forN, ev_con, ev_var, ev_var1, ev_op2, ev_op2k, ev_op1, ev_op1k, ev_nilL, ev_consL, ev_consk, ev_tup, ev_tupk, ev_dat, ev_datk, ev_call, ev_callk, ev_callF, ev_callFk, ev_usr, ev_usrk, ev_usr0, ev_test, ev_testk, ev_b, ev_bk1, ev_isN, ev_isNk, ev_notN, ev_notNk, ev_andT, ev_andT1, ev_andT0, ev_orT, ev_orT1, ev_orT0, ev_notT, ev_notTk, ev_andE, ev_andE1, ev_andE0, ev_orE, ev_orE1, ev_orE0, ev_notE, ev_notEk, ev_ifE, ev_ifE1, ev_ifE0, ev_ch, ev_ch0, ev_ch1, ev_ch2, ev_isi, ev_isi1, ev_isi2, ev_isi3, ev_isi4, ev_isi5, ev_isi6, ev_sl, ev_slk, ev_slL, ev_slT, ev_slS, ev_par0, ev_par, ev_park, ev_seqE, ev_seqEL, ev_seqET, ev_seqES, ev_rg, ev_rgk, ev_en, ev_enL, ev_enT, ev_enS, ev_zi, ev_ziLL, ev_ziTT, ev_ziLT, ev_ziTL, ev_ziSS, ev_comp, ev_compk, v_add, v_sub, v_neg, v_eq, v_ne, v_lt, v_le, v_gt, v_ge, v_mulL, v_mulR, v_p9, v_p18, v_mod, v_div, v_int, v_lenL, v_lenT, v_lenS, v_tupL, v_tupT, v_itL, v_itT, v_ixL, v_ixT, v_sum, v_all, v_any, v_range1, v_range2, v_catT, v_catL, i_1, ev_run, ev_end1, ev_end2, ev_end3, ev_vN, ev_vC, ev_sU, ev_sD, ev_sO, ev_fN, ev_fC, ev_zU, ev_zD, ev_zO, fl1, fl2, fl3, fl4, fl5, sg0, sg1, se0, se1, List.map_cons, List.map_nil, List.length_cons, List.length_nil, List.cons_append, List.nil_append, List.append_nil, List.set_cons_zero, List.set_cons_succ, List.getElem?_cons_zero, List.getElem?_cons_succ, List.getElem?_nil, List.any_cons, List.any_nil, R.hard_ok, noLst, noLsts, t_N1, t_N2, t_N3, t_N4, t_N5, t_N6, isInt, isBool, isStr, isTup, isLst, gam0, List.replicate, wipeE, if_true, if_false, Bool.false_eq_true, Bool.true_eq_false, Bool.not_true, Bool.not_false, Bool.true_or, Bool.false_or, Bool.or_true, Bool.or_false, Bool.true_and, Bool.false_and, Bool.and_true, Bool.and_false, Bool.and_self, Bool.or_self, decide_true, decide_false, Nat.reduceBEq, Nat.reduceAdd, Nat.reduceSub, Nat.reduceLT, Int.reduceLT, Int.reduceLE, Int.reduceNeg, Int.reduceAdd, Int.reduceSub, Int.reduceMul, Nat.reduceEqDiff, Int.reduceEq, Nat.reduceLeDiff, ↓reduceIte, List.isEmpty_cons]
theorem same_bool (n : Nat) (a b : Bool) : S__law_same (n + 1) [.bool a, .bool b] = .ok (.bool (a == b)) := by
  simp only [S__law_same, g__law_same, view, freeze, ev_seq, ev_seq1, ev_seq2, ev_seq3, ev_seq4, ev_seq5, ev_ret, ev_ret1, ev_ret2, ev_retN, ev_nil, ev_bk, ev_ct, ev_if, ev_ifT, ev_ifF, ev_ifX, ev_set, ev_set0, ev_set1, ev_set3, ev_drop, ev_drop1, ev_drop2, ev_own, ev_own0, ev_own1, ev_unp, ev_unp1, ev_unp2, ev_unp3, ev_app, ev_app0, ev_app1, ev_app2, ev_put, ev_put1, ev_put2, ev_aug, ev_aug1, ev_aug2, ev_for, ev_for0, ev_forN, ev_con, ev_var, ev_var1, ev_op2, ev_op2k, ev_op1, ev_op1k, ev_nilL, ev_consL, ev_consk, ev_tup, ev_tupk, ev_dat, ev_datk, ev_call, ev_callk, ev_callF, ev_callFk, ev_usr, ev_usrk, ev_usr0, ev_test, ev_testk, ev_b, ev_bk1, ev_isN, ev_isNk, ev_notN, ev_notNk, ev_andT, ev_andT1, ev_andT0, ev_orT, ev_orT1, ev_orT0, ev_notT, ev_notTk, ev_andE, ev_andE1, ev_andE0, ev_orE, ev_orE1, ev_orE0, ev_notE, ev_notEk, ev_ifE, ev_ifE1, ev_ifE0, ev_ch, ev_ch0, ev_ch1, ev_ch2, ev_isi, ev_isi1, ev_isi2, ev_isi3, ev_isi4, ev_isi5, ev_isi6, ev_sl, ev_slk, ev_slL, ev_slT, ev_slS, ev_par0, ev_par, ev_park, ev_seqE, ev_seqEL, ev_seqET, ev_seqES, ev_rg, ev_rgk, ev_en, ev_enL, ev_enT, ev_enS, ev_zi, ev_ziLL, ev_ziTT, ev_ziLT, ev_ziTL, ev_ziSS, ev_comp, ev_compk, v_add, v_sub, v_neg, v_eq, v_ne, v_lt, v_le, v_gt, v_ge, v_mulL, v_mulR, v_p9, v_p18, v_mod, v_div, v_int, v_lenL, v_lenT, v_lenS, v_tupL, v_tupT, v_itL, v_itT, v_ixL, v_ixT, v_sum, v_all, v_any, v_range1, v_range2, v_catT, v_catL, i_1, ev_run, ev_end1, ev_end2, ev_end3, ev_vN, ev_vC, ev_sU, ev_sD, ev_sO, ev_fN, ev_fC, ev_zU, ev_zD, ev_zO, fl1, fl2, fl3, fl4, fl5, sg0, sg1, se0, se1, List.map_cons, List.map_nil, List.length_cons, List.length_nil, List.cons_append, List.nil_append, List.append_nil, List.set_cons_zero, List.set_cons_succ, List.getElem?_cons_zero, List.getElem?_cons_succ, List.getElem?_nil, List.any_cons, List.any_nil, R.hard_ok, noLst, noLsts, t_N1, t_N2, t_N3, t_N4, t_N5, t_N6, isInt, isBool, isStr, isTup, isLst, gam0, List.replicate, wipeE, if_true, if_false, Bool.false_eq_true, Bool.true_eq_false, Bool.not_true, Bool.not_false, Bool.true_or, Bool.false_or, Bool.or_true, Bool.or_false, Bool.true_and, Bool.false_and, Bool.and_true, Bool.and_false, Bool.and_self, Bool.or_self, decide_true, decide_false, Nat.reduceBEq, Nat.reduceAdd, Nat.reduceSub, Nat.reduceLT, Int.reduceLT, Int.reduceLE, Int.reduceNeg, Int.reduceAdd, Int.reduceSub, Int.reduceMul, Nat.reduceEqDiff, Int.reduceEq, Nat.reduceLeDiff, ↓reduceIte, List.isEmpty_cons, v_neB, beq_self_eq_true, v_eqB]
theorem same_str (n : Nat) (a b : Str) : S__law_same (n + 1) [.str a, .str b] = .ok (.bool (a == b)) := by
  simp only [S__law_same, g__law_same, view, freeze, ev_seq, ev_seq1, ev_seq2, ev_seq3, ev_seq4, ev_seq5, ev_ret, ev_ret1, ev_ret2, ev_retN, ev_nil, ev_bk, ev_ct, ev_if, ev_ifT, ev_ifF, ev_ifX, ev_set, ev_set0, ev_set1, ev_set3, ev_drop, ev_drop1, ev_drop2, ev_own, ev_own0, ev_own1, ev_unp, ev_unp1, ev_unp2, ev_unp3, ev_app, ev_app0, ev_app1, ev_app2, ev_put, ev_put1, ev_put2, ev_aug, ev_aug1, ev_aug2, ev_for, ev_for0, ev_forN, ev_con, ev_var, ev_var1, ev_op2, ev_op2k, ev_op1, ev_op1k, ev_nilL, ev_consL, ev_consk, ev_tup, ev_tupk, ev_dat, ev_datk, ev_call, ev_callk, ev_callF, ev_callFk, ev_usr, ev_usrk, ev_usr0, ev_test, ev_testk, ev_b, ev_bk1, ev_isN, ev_isNk, ev_notN, ev_notNk, ev_andT, ev_andT1, ev_andT0, ev_orT, ev_orT1, ev_orT0, ev_notT, ev_notTk, ev_andE, ev_andE1, ev_andE0, ev_orE, ev_orE1, ev_orE0, ev_notE, ev_notEk, ev_ifE, ev_ifE1, ev_ifE0, ev_ch, ev_ch0, ev_ch1, ev_ch2, ev_isi, ev_isi1, ev_isi2, ev_isi3, ev_isi4, ev_isi5, ev_isi6, ev_sl, ev_slk, ev_slL, ev_slT, ev_slS, ev_par0, ev_par, ev_park, ev_seqE, ev_seqEL, ev_seqET, ev_seqES, ev_rg, ev_rgk, ev_en, ev_enL, ev_enT, ev_enS, ev_zi, ev_ziLL, ev_ziTT, ev_ziLT, ev_ziTL, ev_ziSS, ev_comp, ev_compk, v_add, v_sub, v_neg, v_eq, v_ne, v_lt, v_le, v_gt, v_ge, v_mulL, v_mulR, v_p9, v_p18, v_mod, v_div, v_int, v_lenL, v_lenT, v_lenS, v_tupL, v_tupT, v_itL, v_itT, v_ixL, v_ixT, v_sum, v_all, v_any, v_range1, v_range2, v_catT, v_catL, i_1, ev_run, ev_end1, ev_end2, ev_end3, ev_vN, ev_vC, ev_sU, ev_sD, ev_sO, ev_fN, ev_fC, ev_zU, ev_zD, ev_zO, fl1, fl2, fl3, fl4, fl5, sg0, sg1, se0, se1, List.map_cons, List.map_nil, List.length_cons, List.length_nil, List.cons_append, List.nil_append, List.append_nil, List.set_cons_zero, List.set_cons_succ, List.getElem?_cons_zero, List.getElem?_cons_succ, List.getElem?_nil, List.any_cons, List.any_nil, R.hard_ok, noLst, noLsts, t_N1, t_N2, t_N3, t_N4, t_N5, t_N6, isInt, isBool, isStr, isTup, isLst, gam0, List.replicate, wipeE, if_true, if_false, Bool.false_eq_true, Bool.true_eq_false, Bool.not_true, Bool.not_false, Bool.true_or, Bool.false_or, Bool.or_true, Bool.or_false, Bool.true_and, Bool.false_and, Bool.and_true, Bool.and_false, Bool.and_self, Bool.or_self, decide_true, decide_false, Nat.reduceBEq, Nat.reduceAdd, Nat.reduceSub, Nat.reduceLT, Int.reduceLT, Int.reduceLE, Int.reduceNeg, Int.reduceAdd, Int.reduceSub, Int.reduceMul, Nat.reduceEqDiff, Int.reduceEq, Nat.reduceLeDiff, ↓reduceIte, List.isEmpty_cons, v_neB, beq_self_eq_true, v_eqS]
theorem same_tup (n : Nat) (xs ys : List D) (hl : xs.length = ys.length) (hz : xs.length ≤ 1000000) (h : ∀ (i : Nat) (x y : D), xs[i]? = some x → ys[i]? = some y → S__law_same n [x, y] = .ok (.bool true)) : S__law_same (n + 1) [.tuple xs, .tuple ys] = .ok (.bool true) := by
  have hz' : ys.length ≤ 16777216 := by omega
  simp only [S__law_same, g__law_same, view, freeze, ev_seq, ev_seq1, ev_seq2, ev_seq3, ev_seq4, ev_seq5, ev_ret, ev_ret1, ev_ret2, ev_retN, ev_nil, ev_bk, ev_ct, ev_if, ev_ifT, ev_ifF, ev_ifX, ev_set, ev_set0, ev_set1, ev_set3, ev_drop, ev_drop1, ev_drop2, ev_own, ev_own0, ev_own1, ev_unp, ev_unp1, ev_unp2, ev_unp3, ev_app, ev_app0, ev_app1, ev_app2, ev_put, ev_put1, ev_put2, ev_aug, ev_aug1, ev_aug2, ev_for, ev_for0, ev_forN, ev_con, ev_var, ev_var1, ev_op2, ev_op2k, ev_op1, ev_op1k, ev_nilL, ev_consL, ev_consk, ev_tup, ev_tupk, ev_dat, ev_datk, ev_call, ev_callk, ev_callF, ev_callFk, ev_usr, ev_usrk, ev_usr0, ev_test, ev_testk, ev_b, ev_bk1, ev_isN, ev_isNk, ev_notN, ev_notNk, ev_andT, ev_andT1, ev_andT0, ev_orT, ev_orT1, ev_orT0, ev_notT, ev_notTk, ev_andE, ev_andE1, ev_andE0, ev_orE, ev_orE1, ev_orE0, ev_notE, ev_notEk, ev_ifE, ev_ifE1, ev_ifE0, ev_ch, ev_ch0, ev_ch1, ev_ch2, ev_isi, ev_isi1, ev_isi2, ev_isi3, ev_isi4, ev_isi5, ev_isi6, ev_sl, ev_slk, ev_slL, ev_slT, ev_slS, ev_par0, ev_par, ev_park, ev_seqE, ev_seqEL, ev_seqET, ev_seqES, ev_rg, ev_rgk, ev_en, ev_enL, ev_enT, ev_enS, ev_zi, ev_ziLL, ev_ziTT, ev_ziLT, ev_ziTL, ev_ziSS, ev_comp, ev_compk, v_add, v_sub, v_neg, v_eq, v_ne, v_lt, v_le, v_gt, v_ge, v_mulL, v_mulR, v_p9, v_p18, v_mod, v_div, v_int, v_lenL, v_lenT, v_lenS, v_tupL, v_tupT, v_itL, v_itT, v_ixL, v_ixT, v_sum, v_all, v_any, v_range1, v_range2, v_catT, v_catL, i_1, ev_run, ev_end1, ev_end2, ev_end3, ev_vN, ev_vC, ev_sU, ev_sD, ev_sO, ev_fN, ev_fC, ev_zU, ev_zD, ev_zO, fl1, fl2, fl3, fl4, fl5, sg0, sg1, se0, se1, List.map_cons, List.map_nil, List.length_cons, List.length_nil, List.cons_append, List.nil_append, List.append_nil, List.set_cons_zero, List.set_cons_succ, List.getElem?_cons_zero, List.getElem?_cons_succ, List.getElem?_nil, List.any_cons, List.any_nil, R.hard_ok, noLst, noLsts, t_N1, t_N2, t_N3, t_N4, t_N5, t_N6, isInt, isBool, isStr, isTup, isLst, gam0, List.replicate, wipeE, if_true, if_false, Bool.false_eq_true, Bool.true_eq_false, Bool.not_true, Bool.not_false, Bool.true_or, Bool.false_or, Bool.or_true, Bool.or_false, Bool.true_and, Bool.false_and, Bool.and_true, Bool.and_false, Bool.and_self, Bool.or_self, decide_true, decide_false, Nat.reduceBEq, Nat.reduceAdd, Nat.reduceSub, Nat.reduceLT, Int.reduceLT, Int.reduceLE, Int.reduceNeg, Int.reduceAdd, Int.reduceSub, Int.reduceMul, Nat.reduceEqDiff, Int.reduceEq, Nat.reduceLeDiff, ↓reduceIte, List.isEmpty_cons, hl, v_range1 hz', decide_eq_true (rfl : (ys.length : Int) = ys.length)]
  obtain ⟨Γ', e, s2, rfl⟩ := forL_inv (t := .nm 2) (body := b__law_same_1 (S__law_same n)) (rng 0 ys.length) (fun i Γ => ∃ s2, Γ = [.da (.tuple xs), .da (.tuple ys), s2]) [.da (.tuple xs), .da (.tuple ys), .un] ⟨_, rfl⟩ fun i d hd Γ ⟨s2, e⟩ => by
    subst e
    have hi : i < ys.length := by
      have := (List.getElem?_eq_some_iff.mp hd).1
      rwa [rng_len] at this
    rw [rng_get hi] at hd
    cases hd
    have e1 : xs[i]? = some (xs[i]'(by omega)) := List.getElem?_eq_getElem (by omega)
    have e2 : ys[i]? = some ys[i] := List.getElem?_eq_getElem hi
    refine ⟨[(2, .int (0 + i))], rfl, ?_⟩
    simp only [b__law_same_1, view, freeze, ev_seq, ev_seq1, ev_seq2, ev_seq3, ev_seq4, ev_seq5, ev_ret, ev_ret1, ev_ret2, ev_retN, ev_nil, ev_bk, ev_ct, ev_if, ev_ifT, ev_ifF, ev_ifX, ev_set, ev_set0, ev_set1, ev_set3, ev_drop, ev_drop1, ev_drop2, ev_own, ev_own0, ev_own1, ev_unp, ev_unp1, ev_unp2, ev_unp3, ev_app, ev_app0, ev_app1, ev_app2, ev_put, ev_put1, ev_put2, ev_aug, ev_aug1, ev_aug2, ev_for, ev_for0, ev_forN, ev_con, ev_var, ev_var1, ev_op2, ev_op2k, ev_op1, ev_op1k, ev_nilL, ev_consL, ev_consk, ev_tup, ev_tupk, ev_dat, ev_datk, ev_call, ev_callk, ev_callF, ev_callFk, ev_usr, ev_usrk, ev_usr0, ev_test, ev_testk, ev_b, ev_bk1, ev_isN, ev_isNk, ev_notN, ev_notNk, ev_andT, ev_andT1, ev_andT0, ev_orT, ev_orT1, ev_orT0, ev_notT, ev_notTk, ev_andE, ev_andE1, ev_andE0, ev_orE, ev_orE1, ev_orE0, ev_notE, ev_notEk, ev_ifE, ev_ifE1, ev_ifE0, ev_ch, ev_ch0, ev_ch1, ev_ch2, ev_isi, ev_isi1, ev_isi2, ev_isi3, ev_isi4, ev_isi5, ev_isi6, ev_sl, ev_slk, ev_slL, ev_slT, ev_slS, ev_par0, ev_par, ev_park, ev_seqE, ev_seqEL, ev_seqET, ev_seqES, ev_rg, ev_rgk, ev_en, ev_enL, ev_enT, ev_enS, ev_zi, ev_ziLL, ev_ziTT, ev_ziLT, ev_ziTL, ev_ziSS, ev_comp, ev_compk, v_add, v_sub, v_neg, v_eq, v_ne, v_lt, v_le, v_gt, v_ge, v_mulL, v_mulR, v_p9, v_p18, v_mod, v_div, v_int, v_lenL, v_lenT, v_lenS, v_tupL, v_tupT, v_itL, v_itT, v_ixL, v_ixT, v_sum, v_all, v_any, v_range1, v_range2, v_catT, v_catL, i_1, ev_run, ev_end1, ev_end2, ev_end3, ev_vN, ev_vC, ev_sU, ev_sD, ev_sO, ev_fN, ev_fC, ev_zU, ev_zD, ev_zO, fl1, fl2, fl3, fl4, fl5, sg0, sg1, se0, se1, List.map_cons, List.map_nil, List.length_cons, List.length_nil, List.cons_append, List.nil_append, List.append_nil, List.set_cons_zero, List.set_cons_succ, List.getElem?_cons_zero, List.getElem?_cons_succ, List.getElem?_nil, List.any_cons, List.any_nil, R.hard_ok, noLst, noLsts, t_N1, t_N2, t_N3, t_N4, t_N5, t_N6, isInt, isBool, isStr, isTup, isLst, gam0, List.replicate, wipeE, if_true, if_false, Bool.false_eq_true, Bool.true_eq_false, Bool.not_true, Bool.not_false, Bool.true_or, Bool.false_or, Bool.or_true, Bool.or_false, Bool.true_and, Bool.false_and, Bool.and_true, Bool.and_false, Bool.and_self, Bool.or_self, decide_true, decide_false, Nat.reduceBEq, Nat.reduceAdd, Nat.reduceSub, Nat.reduceLT, Int.reduceLT, Int.reduceLE, Int.reduceNeg, Int.reduceAdd, Int.reduceSub, Int.reduceMul, Nat.reduceEqDiff, Int.reduceEq, Nat.reduceLeDiff, ↓reduceIte, List.isEmpty_cons, Int.zero_add, v_ixT e1, v_ixT e2, h i _ _ e1 e2, R.ok.injEq, Fl.nx.injEq, Fl.rt.injEq, exists_eq_left', exists_eq_left]
    exact ⟨_, rfl⟩
  simp only [e, view, freeze, ev_seq, ev_seq1, ev_seq2, ev_seq3, ev_seq4, ev_seq5, ev_ret, ev_ret1, ev_ret2, ev_retN, ev_nil, ev_bk, ev_ct, ev_if, ev_ifT, ev_ifF, ev_ifX, ev_set, ev_set0, ev_set1, ev_set3, ev_drop, ev_drop1, ev_drop2, ev_own, ev_own0, ev_own1, ev_unp, ev_unp1, ev_unp2, ev_unp3, ev_app, ev_app0, ev_app1, ev_app2, ev_put, ev_put1, ev_put2, ev_aug, ev_aug1, ev_aug2, ev_for, ev_for0, ev_forN, ev_con, ev_var, ev_var1, ev_op2, ev_op2k, ev_op1, ev_op1k, ev_nilL, ev_consL, ev_consk, ev_tup, ev_tupk, ev_dat, ev_datk, ev_call, ev_callk, ev_callF, ev_callFk, ev_usr, ev_usrk, ev_usr0, ev_test, ev_testk, ev_b, ev_bk1, ev_isN, ev_isNk, ev_notN, ev_notNk, ev_andT, ev_andT1, ev_andT0, ev_orT, ev_orT1, ev_orT0, ev_notT, ev_notTk, ev_andE, ev_andE1, ev_andE0, ev_orE, ev_orE1, ev_orE0, ev_notE, ev_notEk, ev_ifE, ev_ifE1, ev_ifE0, ev_ch, ev_ch0, ev_ch1, ev_ch2, ev_isi, ev_isi1, ev_isi2, ev_isi3, ev_isi4, ev_isi5, ev_isi6, ev_sl, ev_slk, ev_slL, ev_slT, ev_slS, ev_par0, ev_par, ev_park, ev_seqE, ev_seqEL, ev_seqET, ev_seqES, ev_rg, ev_rgk, ev_en, ev_enL, ev_enT, ev_enS, ev_zi, ev_ziLL, ev_ziTT, ev_ziLT, ev_ziTL, ev_ziSS, ev_comp, ev_compk, v_add, v_sub, v_neg, v_eq, v_ne, v_lt, v_le, v_gt, v_ge, v_mulL, v_mulR, v_p9, v_p18, v_mod, v_div, v_int, v_lenL, v_lenT, v_lenS, v_tupL, v_tupT, v_itL, v_itT, v_ixL, v_ixT, v_sum, v_all, v_any, v_range1, v_range2, v_catT, v_catL, i_1, ev_run, ev_end1, ev_end2, ev_end3, ev_vN, ev_vC, ev_sU, ev_sD, ev_sO, ev_fN, ev_fC, ev_zU, ev_zD, ev_zO, fl1, fl2, fl3, fl4, fl5, sg0, sg1, se0, se1, List.map_cons, List.map_nil, List.length_cons, List.length_nil, List.cons_append, List.nil_append, List.append_nil, List.set_cons_zero, List.set_cons_succ, List.getElem?_cons_zero, List.getElem?_cons_succ, List.getElem?_nil, List.any_cons, List.any_nil, R.hard_ok, noLst, noLsts, t_N1, t_N2, t_N3, t_N4, t_N5, t_N6, isInt, isBool, isStr, isTup, isLst, gam0, List.replicate, wipeE, if_true, if_false, Bool.false_eq_true, Bool.true_eq_false, Bool.not_true, Bool.not_false, Bool.true_or, Bool.false_or, Bool.or_true, Bool.or_false, Bool.true_and, Bool.false_and, Bool.and_true, Bool.and_false, Bool.and_self, Bool.or_self, decide_true, decide_false, Nat.reduceBEq, Nat.reduceAdd, Nat.reduceSub, Nat.reduceLT, Int.reduceLT, Int.reduceLE, Int.reduceNeg, Int.reduceAdd, Int.reduceSub, Int.reduceMul, Nat.reduceEqDiff, Int.reduceEq, Nat.reduceLeDiff, ↓reduceIte, List.isEmpty_cons]
/-- what _law_same calls the same as itself -/
def sameB : Nat → D → Bool
  | 0, _ => false
  | n + 1, .tuple xs => decide (xs.length ≤ 1000000) && xs.all (sameB n)
  | _ + 1, .int _ => true
  | _ + 1, .str _ => true
  | _ + 1, .bool _ => true
  | _ + 1, .none => true
  | _ + 1, _ => false
theorem same_refl : ∀ (n : Nat) (d : D), sameB n d = true → S__law_same n [d, d] = .ok (.bool true)
  | 0, _, h => nomatch h
  | n + 1, .tuple xs, h => by
    unfold sameB at h
    rw [Bool.and_eq_true, List.all_eq_true] at h
    exact same_tup n xs xs rfl (of_decide_eq_true h.1) fun i x y e1 e2 => by
      rw [e1] at e2; cases e2
      exact same_refl n x (h.2 x (List.mem_of_getElem? e1))
  | n + 1, .int i, _ => by rw [same_int, decide_eq_true rfl]
  | n + 1, .str i, _ => by rw [same_str]; simp
  | n + 1, .bool i, _ => by rw [same_bool]; simp
  | n + 1, .none, _ => same_none n
  | n + 1, .list _, h => nomatch h
  | n + 1, .dict _, h => nomatch h
/-! ### order -/
theorem lt_tupI (a b : Int) (xs ys : List D) : PySem.W.dataLt (.tuple (.int a :: xs)) (.tuple (.int b :: ys)) = if a = b then PySem.W.dataLt (.tuple xs) (.tuple ys) else decide (a < b) := by
  have q : PySem.W.alike (.int a) (.int b) = true := rfl
  by_cases h : a = b
  · rw [if_pos h]
    have e : PyData.eqv (.int a) (.int b) = true := by subst h; unfold PyData.eqv; simp
    exact PySem.W.dataLt_all_yes q e
  · rw [if_neg h]
    have e : PyData.eqv (.int a) (.int b) = false := by unfold PyData.eqv; simpa using h
    exact (PySem.W.dataLt_all_no q e).trans (PySem.W.dataLt_int a b)
theorem lt_nil : PySem.W.dataLt (.tuple []) (.tuple []) = false := PySem.W.dataLt_self _
theorem min_first {x : D} : ∀ {xs : List D}, (∀ y ∈ xs, PySem.W.dataLt y x = false) → PySem.W.minD x xs = x
  | [], _ => rfl
  | y :: ys, h => by
    unfold PySem.W.minD
    rw [List.foldl_cons, if_neg (by rw [h y List.mem_cons_self]; decide)]
    exact min_first (xs := ys) fun z hz => h z (List.mem_cons_of_mem _ hz)
theorem v_minL {x : D} {xs : List D} (o : OrdOk (x :: xs)) (h : ∀ y ∈ xs, PySem.W.dataLt y x = false) : on1 minG [.list (x :: xs)] = .ok x := by
  show given_ (OrdOk (x :: xs)) (.ok (PySem.W.minD x xs)) = _
  rw [given_pos o, min_first h]
theorem depthAll_le {n : Nat} : ∀ {xs : List D}, (∀ x ∈ xs, x.depth ≤ n) → PyData.depthAll xs ≤ n
  | [], _ => Nat.zero_le _
  | x :: xs, h => by
    unfold PyData.depthAll
    exact Nat.max_le.mpr ⟨h x List.mem_cons_self, depthAll_le fun y hy => h y (List.mem_cons_of_mem _ hy)⟩
theorem plainL_of : ∀ {xs : List D}, (∀ x ∈ xs, RB.plain x = true) → plainL xs = true
  | [], _ => rfl
  | x :: xs, h => by
    unfold plainL
    rw [h x List.mem_cons_self, plainL_of fun y hy => h y (List.mem_cons_of_mem _ hy)]; rfl
theorem v_eqNil (xs : List D) (h : ∀ x ∈ xs, RB.plain x = true ∧ x.depth ≤ 60) : eqD (.list xs) (.list []) = .ok (.bool xs.isEmpty) := by
  unfold eqD
  have e : cmpOk (.list xs) = true := by
    unfold cmpOk
    have h1 : RB.plain (.list xs) = true := by unfold RB.plain; exact plainL_of fun x hx => (h x hx).1
    have h2 : (PyData.list xs).depth ≤ 64 := by
      unfold PyData.depth
      have := depthAll_le (n := 60) fun x hx => (h x hx).2
      omega
    rw [h1, decide_eq_true h2]; rfl
  rw [if_pos ⟨e, rfl⟩]
  cases xs with
  | nil => rfl
  | cons x xs => rfl
theorem v_neNil (xs : List D) (h : ∀ x ∈ xs, RB.plain x = true ∧ x.depth ≤ 60) : neD (.list xs) (.list []) = .ok (.bool (!xs.isEmpty)) := by
  unfold neD
  have e : cmpOk (.list xs) = true := by
    unfold cmpOk
    have h1 : RB.plain (.list xs) = true := by unfold RB.plain; exact plainL_of fun x hx => (h x hx).1
    have h2 : (PyData.list xs).depth ≤ 64 := by
      unfold PyData.depth
      have := depthAll_le (n := 60) fun x hx => (h x hx).2
      omega
    rw [h1, decide_eq_true h2]; rfl
  rw [if_pos ⟨e, rfl⟩]
  cases xs with
  | nil => rfl
  | cons x xs => rfl
/-! ### rng, comprehensions -/
theorem rng0 (n : Nat) : rng 0 n = (List.range n).map fun i => PyData.int (i : Nat) := by
  unfold rng
  exact List.map_congr_left fun i _ => by rw [Int.zero_add]
theorem compL_true {t : Tg} {fi : RB.Env → R Bool} {fe : RB.Env → R D} {ε : RB.Env} (ds : List D) (H : ∀ d ∈ ds, ∃ as, flatT t d = .ok as ∧ fi (setE ε as) = .ok true ∧ fe (setE ε as) = .ok (.bool true)) : compL t fi fe ε ds = .ok ((List.replicate ds.length true).map .bool) := by
  rw [compL_map (fun _ => .bool true) ds H, List.map_replicate, List.map_const']
theorem all_rep (n : Nat) : (List.replicate n true).all id = true := by
  rw [List.all_eq_true]
  intro x hx
  exact (List.mem_replicate.mp hx).2
end Lib

set_option Elab.async false
set_option linter.all false
set_option maxRecDepth 100000
set_option maxHeartbeats 4000000
namespace Lib
open PySem RB
theorem forR_find {i : Nat} {body : Gam → R Fl} (I : Gam → Prop) (g : Nat → Option D) (n : Nat) (Γ : Gam) (h : I Γ)
    (H : ∀ k, k < n → ∀ Γ, I Γ → (∃ r, g k = some r ∧ body (Γ.set i (.da (.int (k : Int)))) = .ok (.rt r)) ∨ (g k = none ∧ ∃ Γ', body (Γ.set i (.da (.int (k : Int)))) = .ok (.nx Γ') ∧ I Γ')) :
    (∃ r, (List.range n).findSome? g = some r ∧ forL (.nm i) body (rng 0 n) Γ = .ok (.rt r)) ∨ ((List.range n).findSome? g = none ∧ ∃ Γ', forL (.nm i) body (rng 0 n) Γ = .ok (.nx Γ') ∧ I Γ') := by
  have q := forL_find (t := .nm i) (body := body) I (fun d => match d with
    | .int a => g a.toNat
    | _ => none) (rng 0 n) Γ h fun d hd Γ hΓ => by
      obtain ⟨k, hk, e⟩ := rng_mem hd
      rw [Int.zero_add] at e
      subst e
      exact ⟨_, rfl, H k hk Γ hΓ⟩
  rw [rng0, List.findSome?_map] at q
  rw [rng0]
  exact q
theorem forR_inv {i : Nat} {body : Gam → R Fl} (n : Nat) (I : Nat → Gam → Prop) (Γ : Gam) (h : I 0 Γ) (H : ∀ k, k < n → ∀ Γ, I k Γ → ∃ Γ', body (Γ.set i (.da (.int (k : Int)))) = .ok (.nx Γ') ∧ I (k + 1) Γ') : ∃ Γ', forL (.nm i) body (rng 0 n) Γ = .ok (.nx Γ') ∧ I n Γ' := by
  have q := forL_inv (t := .nm i) (body := body) (rng 0 n) I Γ h fun k d hd Γ hΓ => by
    have hk : k < n := by
      have := (List.getElem?_eq_some_iff.mp hd).1
      rwa [rng_len] at this
    rw [rng_get hk, Int.zero_add] at hd
    cases hd
    exact ⟨_, rfl, H k hk Γ hΓ⟩
  rw [rng_len] at q
  exact q
theorem compR_eq {i : Nat} {fi : RB.Env → R Bool} {fe : RB.Env → R D} {ε : RB.Env} (g : Nat → Option D) (n : Nat)
    (H : ∀ k, k < n → (fi (ε.set i (some (.int (k : Int)))) = .ok true ∧ ∃ y, fe (ε.set i (some (.int (k : Int)))) = .ok y ∧ g k = some y) ∨ (fi (ε.set i (some (.int (k : Int)))) = .ok false ∧ g k = none)) : compL (.nm i) fi fe ε (rng 0 n) = .ok ((List.range n).filterMap g) := by
  rw [compL_eq (fun d => match d with
    | .int a => g a.toNat
    | _ => none) (rng 0 n) fun d hd => by
      obtain ⟨k, hk, e⟩ := rng_mem hd
      rw [Int.zero_add] at e
      subst e
      exact ⟨_, rfl, H k hk⟩]
  rw [rng0, List.filterMap_map]
  rfl
theorem compR_map {i : Nat} {fe : RB.Env → R D} {ε : RB.Env} (f : Nat → D) (n : Nat)
    (H : ∀ k, k < n → fe (ε.set i (some (.int (k : Int)))) = .ok (f k)) : compL (.nm i) (fun _ => .ok true) fe ε (rng 0 n) = .ok ((List.range n).map f) := by
  rw [compR_eq (fun k => some (f k)) n fun k hk => .inl ⟨rfl, f k, H k hk, rfl⟩]
  congr 1
  induction (List.range n) with
  | nil => rfl
  | cons x xs ih => rw [List.filterMap_cons, List.map_cons, ih]
/-! rows -/
def SeqD (c : D) (xs : List D) : Prop := c = .tuple xs ∨ c = .list xs
theorem s_is_row {c : D} {xs : List D} (h : SeqD c xs) : S_is_row [c] = .ok (.bool true) := by rcases h with rfl | rfl <;> rfl
theorem v_lenQ {c : D} {xs : List D} (h : SeqD c xs) : lenG [c] = .ok (.int xs.length) := by rcases h with rfl | rfl <;> rfl
theorem v_seqQ {c : D} {xs : List D} (h : SeqD c xs) : seqEK (.ok c) = .ok xs := by rcases h with rfl | rfl <;> rfl
theorem v_enQ {c : D} {xs : List D} (h : SeqD c xs) : enK (.ok c) = .ok (enumD xs) := by rcases h with rfl | rfl <;> rfl
theorem v_ziQ {c e : D} {xs ys : List D} (h : SeqD c xs) (h2 : SeqD e ys) : ziK (.ok c) (.ok e) = .ok (zipD xs ys) := by rcases h with rfl | rfl <;> rcases h2 with rfl | rfl <;> rfl
theorem s_is_row_of {c : D} {xs : List D} (h : SeqD c xs) (lo hi : Int) : S_is_row_of [c, .int lo, .int hi] = .ok (.bool (decide (lo ≤ xs.length) && decide ((xs.length : Int) ≤ hi))) := by
  simp only [S_is_row_of, g_is_row_of, view, freeze, ev_seq, ev_seq1, ev_seq2, ev_seq3, ev_seq4, ev_seq5, ev_ret, ev_ret1, ev_ret2, ev_retN, ev_nil, ev_bk, ev_ct, ev_if, ev_ifT, ev_ifF, ev_ifX, ev_set, ev_set0, ev_set1, ev_set3, ev_drop, ev_drop1, ev_drop2, ev_own, ev_own0, ev_own1, ev_unp, ev_unp1, ev_unp2, ev_unp3, ev_app, ev_app0, ev_app1, ev_app2, ev_put, ev_put1, ev_put2, ev_aug, ev_aug1, ev_aug2, ev_for, ev_for0, ev_forN, ev_con, ev_var, ev_var1, ev_op2, ev_op2k, ev_op1, ev_op1k, ev_nilL, ev_consL, ev_consk, ev_tup, ev_tupk, ev_dat, ev_datk, ev_call, ev_callk, ev_callF, ev_callFk, ev_usr, ev_usrk, ev_usr0, ev_test, ev_testk, ev_b, ev_bk1, ev_isN, ev_isNk, ev_notN, ev_notNk, ev_andT, ev_andT1, ev_andT0, ev_orT, ev_orT1, ev_orT0, ev_notT, ev_notTk, ev_andE, ev_andE1, ev_andE0, ev_orE, ev_orE1, ev_orE0, ev_notE, ev_notEk, ev_ifE, ev_ifE1, ev_ifE0, ev_ch, ev_ch0, ev_ch1, ev_ch2, ev_isi, ev_isi1, ev_isi2, ev_isi3, ev_isi4, ev_isi5, ev_isi6, ev_sl, ev_slk, ev_slL, ev_slT, ev_slS, ev_par0, ev_par, ev_park, ev_seqE, ev_seqEL, ev_seqET, ev_seqES, ev_rg, ev_rgk, ev_en, ev_enL, ev_enT, ev_enS, ev_zi, ev_ziLL, ev_ziTT, ev_ziLT, ev_ziTL, ev_ziSS, ev_comp, ev_compk, v_add, v_sub, v_neg, v_eq, v_ne, v_lt, v_le, v_gt, v_ge, v_mulL, v_mulR, v_p9, v_p18, v_mod, v_div, v_int, v_lenL, v_lenT, v_lenS, v_tupL, v_tupT, v_itL, v_itT, v_ixL, v_ixT, v_sum, v_all, v_any, v_range1, v_range2, v_catT, v_catL, i_1, ev_run, ev_end1, ev_end2, ev_end3, ev_vN, ev_vC, ev_sU, ev_sD, ev_sO, ev_fN, ev_fC, ev_zU, ev_zD, ev_zO, fl1, fl2, fl3, fl4, fl5, sg0, sg1, se0, se1, List.map_cons, List.map_nil, List.length_cons, List.length_nil, List.cons_append, List.nil_append, List.append_nil, List.set_cons_zero, List.set_cons_succ, List.getElem?_cons_zero, List.getElem?_cons_succ, List.getElem?_nil, List.any_cons, List.any_nil, R.hard_ok, noLst, noLsts, t_N1, t_N2, t_N3, t_N4, t_N5, t_N6, isInt, isBool, isStr, isTup, isLst, gam0, List.replicate, wipeE, if_true, if_false, Bool.false_eq_true, Bool.true_eq_false, Bool.not_true, Bool.not_false, Bool.true_or, Bool.false_or, Bool.or_true, Bool.or_false, Bool.true_and, Bool.false_and, Bool.and_true, Bool.and_false, Bool.and_self, Bool.or_self, decide_true, decide_false, Nat.reduceBEq, Nat.reduceAdd, Nat.reduceSub, Nat.reduceLT, Int.reduceLT, Int.reduceLE, Int.reduceNeg, Int.reduceAdd, Int.reduceSub, Int.reduceMul, Nat.reduceEqDiff, Int.reduceEq, Nat.reduceLeDiff, ↓reduceIte, List.isEmpty_cons, s_is_row h, v_lenQ h]
  by_cases q : lo ≤ (xs.length : Int) <;> simp only [q, view, freeze, ev_seq, ev_seq1, ev_seq2, ev_seq3, ev_seq4, ev_seq5, ev_ret, ev_ret1, ev_ret2, ev_retN, ev_nil, ev_bk, ev_ct, ev_if, ev_ifT, ev_ifF, ev_ifX, ev_set, ev_set0, ev_set1, ev_set3, ev_drop, ev_drop1, ev_drop2, ev_own, ev_own0, ev_own1, ev_unp, ev_unp1, ev_unp2, ev_unp3, ev_app, ev_app0, ev_app1, ev_app2, ev_put, ev_put1, ev_put2, ev_aug, ev_aug1, ev_aug2, ev_for, ev_for0, ev_forN, ev_con, ev_var, ev_var1, ev_op2, ev_op2k, ev_op1, ev_op1k, ev_nilL, ev_consL, ev_consk, ev_tup, ev_tupk, ev_dat, ev_datk, ev_call, ev_callk, ev_callF, ev_callFk, ev_usr, ev_usrk, ev_usr0, ev_test, ev_testk, ev_b, ev_bk1, ev_isN, ev_isNk, ev_notN, ev_notNk, ev_andT, ev_andT1, ev_andT0, ev_orT, ev_orT1, ev_orT0, ev_notT, ev_notTk, ev_andE, ev_andE1, ev_andE0, ev_orE, ev_orE1, ev_orE0, ev_notE, ev_notEk, ev_ifE, ev_ifE1, ev_ifE0, ev_ch, ev_ch0, ev_ch1, ev_ch2, ev_isi, ev_isi1, ev_isi2, ev_isi3, ev_isi4, ev_isi5, ev_isi6, ev_sl, ev_slk, ev_slL, ev_slT, ev_slS, ev_par0, ev_par, ev_park, ev_seqE, ev_seqEL, ev_seqET, ev_seqES, ev_rg, ev_rgk, ev_en, ev_enL, ev_enT, ev_enS, ev_zi, ev_ziLL, ev_ziTT, ev_ziLT, ev_ziTL, ev_ziSS, ev_comp, ev_compk, v_add, v_sub, v_neg, v_eq, v_ne, v_lt, v_le, v_gt, v_ge, v_mulL, v_mulR, v_p9, v_p18, v_mod, v_div, v_int, v_lenL, v_lenT, v_lenS, v_tupL, v_tupT, v_itL, v_itT, v_ixL, v_ixT, v_sum, v_all, v_any, v_range1, v_range2, v_catT, v_catL, i_1, ev_run, ev_end1, ev_end2, ev_end3, ev_vN, ev_vC, ev_sU, ev_sD, ev_sO, ev_fN, ev_fC, ev_zU, ev_zD, ev_zO, fl1, fl2, fl3, fl4, fl5, sg0, sg1, se0, se1, List.map_cons, List.map_nil, List.length_cons, List.length_nil, List.cons_append, List.nil_append, List.append_nil, List.set_cons_zero, List.set_cons_succ, List.getElem?_cons_zero, List.getElem?_cons_succ, List.getElem?_nil, List.any_cons, List.any_nil, R.hard_ok, noLst, noLsts, t_N1, t_N2, t_N3, t_N4, t_N5, t_N6, isInt, isBool, isStr, isTup, isLst, gam0, List.replicate, wipeE, if_true, if_false, Bool.false_eq_true, Bool.true_eq_false, Bool.not_true, Bool.not_false, Bool.true_or, Bool.false_or, Bool.or_true, Bool.or_false, Bool.true_and, Bool.false_and, Bool.and_true, Bool.and_false, Bool.and_self, Bool.or_self, decide_true, decide_false, Nat.reduceBEq, Nat.reduceAdd, Nat.reduceSub, Nat.reduceLT, Int.reduceLT, Int.reduceLE, Int.reduceNeg, Int.reduceAdd, Int.reduceSub, Int.reduceMul, Nat.reduceEqDiff, Int.reduceEq, Nat.reduceLeDiff, ↓reduceIte, List.isEmpty_cons]
theorem s_want_int {v lo hi at_ : Int} (h1 : lo ≤ v) (h2 : v ≤ hi) : S_want_int [.int v, .int lo, .int hi, .int at_] = .ok .none := by
  simp only [S_want_int, g_want_int, view, freeze, ev_seq, ev_seq1, ev_seq2, ev_seq3, ev_seq4, ev_seq5, ev_ret, ev_ret1, ev_ret2, ev_retN, ev_nil, ev_bk, ev_ct, ev_if, ev_ifT, ev_ifF, ev_ifX, ev_set, ev_set0, ev_set1, ev_set3, ev_drop, ev_drop1, ev_drop2, ev_own, ev_own0, ev_own1, ev_unp, ev_unp1, ev_unp2, ev_unp3, ev_app, ev_app0, ev_app1, ev_app2, ev_put, ev_put1, ev_put2, ev_aug, ev_aug1, ev_aug2, ev_for, ev_for0, ev_forN, ev_con, ev_var, ev_var1, ev_op2, ev_op2k, ev_op1, ev_op1k, ev_nilL, ev_consL, ev_consk, ev_tup, ev_tupk, ev_dat, ev_datk, ev_call, ev_callk, ev_callF, ev_callFk, ev_usr, ev_usrk, ev_usr0, ev_test, ev_testk, ev_b, ev_bk1, ev_isN, ev_isNk, ev_notN, ev_notNk, ev_andT, ev_andT1, ev_andT0, ev_orT, ev_orT1, ev_orT0, ev_notT, ev_notTk, ev_andE, ev_andE1, ev_andE0, ev_orE, ev_orE1, ev_orE0, ev_notE, ev_notEk, ev_ifE, ev_ifE1, ev_ifE0, ev_ch, ev_ch0, ev_ch1, ev_ch2, ev_isi, ev_isi1, ev_isi2, ev_isi3, ev_isi4, ev_isi5, ev_isi6, ev_sl, ev_slk, ev_slL, ev_slT, ev_slS, ev_par0, ev_par, ev_park, ev_seqE, ev_seqEL, ev_seqET, ev_seqES, ev_rg, ev_rgk, ev_en, ev_enL, ev_enT, ev_enS, ev_zi, ev_ziLL, ev_ziTT, ev_ziLT, ev_ziTL, ev_ziSS, ev_comp, ev_compk, v_add, v_sub, v_neg, v_eq, v_ne, v_lt, v_le, v_gt, v_ge, v_mulL, v_mulR, v_p9, v_p18, v_mod, v_div, v_int, v_lenL, v_lenT, v_lenS, v_tupL, v_tupT, v_itL, v_itT, v_ixL, v_ixT, v_sum, v_all, v_any, v_range1, v_range2, v_catT, v_catL, i_1, ev_run, ev_end1, ev_end2, ev_end3, ev_vN, ev_vC, ev_sU, ev_sD, ev_sO, ev_fN, ev_fC, ev_zU, ev_zD, ev_zO, fl1, fl2, fl3, fl4, fl5, sg0, sg1, se0, se1, List.map_cons, List.map_nil, List.length_cons, List.length_nil, List.cons_append, List.nil_append, List.append_nil, List.set_cons_zero, List.set_cons_succ, List.getElem?_cons_zero, List.getElem?_cons_succ, List.getElem?_nil, List.any_cons, List.any_nil, R.hard_ok, noLst, noLsts, t_N1, t_N2, t_N3, t_N4, t_N5, t_N6, isInt, isBool, isStr, isTup, isLst, gam0, List.replicate, wipeE, if_true, if_false, Bool.false_eq_true, Bool.true_eq_false, Bool.not_true, Bool.not_false, Bool.true_or, Bool.false_or, Bool.or_true, Bool.or_false, Bool.true_and, Bool.false_and, Bool.and_true, Bool.and_false, Bool.and_self, Bool.or_self, decide_true, decide_false, Nat.reduceBEq, Nat.reduceAdd, Nat.reduceSub, Nat.reduceLT, Int.reduceLT, Int.reduceLE, Int.reduceNeg, Int.reduceAdd, Int.reduceSub, Int.reduceMul, Nat.reduceEqDiff, Int.reduceEq, Nat.reduceLeDiff, ↓reduceIte, List.isEmpty_cons, s_is_between, h1, h2]
end Lib

set_option Elab.async false
set_option linter.all false
set_option maxRecDepth 100000
set_option maxHeartbeats 4000000
noncomputable section
namespace K55
open PySem PySem.Spec PyProof.Rows L2 RB Lib
def g_want_weights : Gam → R Fl := seqS (ifS [] (orT (notT (testE (usrE S_is_row_of [var 0, con (.int 1), con (.int 12)]))) (notT (testE (callE (on1 allG) [dataF (compE [2] (seqE (var 0)) (.nm 2) (fun _ => .ok true) (usrE S_is_between [var 2, con (.int 0), con (.int 30)]))]))))
  ((fun _ => .stuck))
  (nilS))
  (dropS [] (usrE S_want_int [var 1, con (.int 2), con (.int 31), con (.int 2)]))
def S_want_weights : List D → R D := runS 3 g_want_weights
def b_first_missed_1 : Gam → R Fl := ifS [] (andT (testE (op2E neD (var 2) (var 3))) (testE (op2E eqD (op2E modD (op2E subD (op2E mulD (var 0) (var 2)) (op2E mulD (var 0) (var 3))) (var 1)) (con (.int 0)))))
  (retS [] (tupE [var 2, var 3]))
  (nilS)
def b_first_missed_2 : Gam → R Fl := forS [] (rangeE [var 1]) (.nm 3)
  (b_first_missed_1)
def g_first_missed : Gam → R Fl := seqS (forS [] (rangeE [var 1]) (.nm 2)
  (b_first_missed_2))
  (retS [] (con .none))
def S_first_missed : List D → R D := runS 4 g_first_missed
def b_finds_change_1 : Gam → R Fl := seqS (setS [] 4 (usrE S_first_missed [var 3, var 1]))
  (ifS [] (notNE (var 4))
  (retS [] (op2E addD (tupE [var 2]) (var 4)))
  (nilS))
def g_finds_change : Gam → R Fl := seqS (dropS [] (usrE S_want_weights [var 0, var 1]))
  (seqS (forS [] (enumE (var 0)) (.tup [(.nm 2), (.nm 3)])
  (b_finds_change_1))
  (retS [] (con .none)))
def S_finds_change : List D → R D := runS 5 g_finds_change
def g_check_of : Gam → R Fl := seqS (dropS [] (usrE S_want_weights [var 0, var 1]))
  (seqS (ifS [] (orT (notT (testE (usrE S_is_row_of [var 2, callE lenG [var 0], callE lenG [var 0]]))) (notT (testE (callE (on1 allG) [dataF (compE [3] (seqE (var 2)) (.nm 3) (fun _ => .ok true) (usrE S_is_between [var 3, con (.int 0), op2E subD (var 1) (con (.int 1))]))]))))
  ((fun _ => .stuck))
  (nilS))
  (retS [] (op2E modD (callE (on1 sumG) [dataF (compE [4, 3] (zipE (var 0) (var 2)) (.tup [(.nm 4), (.nm 3)]) (fun _ => .ok true) (op2E mulD (var 4) (var 3)))]) (var 1))))
def S_check_of : List D → R D := runS 5 g_check_of
def b_finds_swap_1 : Gam → R Fl := seqS (setS [] 3 (usrE S_first_missed [op2E subD (op2E ixD (var 0) (var 2)) (op2E ixD (var 0) (op2E addD (var 2) (con (.int 1)))), var 1]))
  (ifS [] (notNE (var 3))
  (retS [] (op2E addD (tupE [var 2]) (var 3)))
  (nilS))
def g_finds_swap : Gam → R Fl := seqS (dropS [] (usrE S_want_weights [var 0, var 1]))
  (seqS (forS [] (rangeE [op2E subD (callE lenG [var 0]) (con (.int 1))]) (.nm 2)
  (b_finds_swap_1))
  (retS [] (con .none)))
def S_finds_swap : List D → R D := runS 4 g_finds_swap
def g__law_divides : Gam → R Fl := retS [] (op2E eqD (dataF (compE [2] (rangeE [con (.int 2), op2E addD (var 1) (con (.int 1))]) (.nm 2) (andT (testE (op2E eqD (op2E modD (callE (on1 intG) [var 0]) (var 2)) (con (.int 0)))) (testE (op2E eqD (op2E modD (callE (on1 intG) [var 1]) (var 2)) (con (.int 0))))) (var 2))) (dataF (evL [])))
def S__law_divides : List D → R D := runS 3 g__law_divides
def b_law_1 : Gam → R Fl := seqS (setS [] 6 (callE (on1 tupG) [dataF (compE [4] (rangeE [callE lenG [var 3]]) (.nm 4) (fun _ => .ok true) (op2E modD (callE (on1 intG) [op2E addD (op2E divD (var 5) (op2E addD (var 4) (con (.int 1)))) (op2E mulD (con (.int 5)) (var 4))]) (var 2)))]))
  (seqS (ifS [] (notT (testE (usrE (S__law_same 6) [usrE S_check_of [var 3, var 2, var 6], op2E modD (callE (on1 intG) [callE (on1 sumG) [dataF (compE [4] (rangeE [callE lenG [var 3]]) (.nm 4) (fun _ => .ok true) (op2E mulD (op2E ixD (var 3) (var 4)) (op2E ixD (var 6) (var 4))))]]) (var 2)])))
  (retS [] (con (.bool false)))
  (nilS))
  (ifS [] (notT (testE (usrE (S__law_same 6) [usrE S_check_of [dataF (callF (on1L itemsG) [var 3]), var 2, dataF (callF (on1L itemsG) [var 6])], usrE S_check_of [var 3, var 2, var 6]])))
  (retS [] (con (.bool false)))
  (nilS)))
def b_law_2 : Gam → R Fl := ifS [] (testE (op2E neD (var 10) (var 11)))
  (seqS (ifS [] (testE (op2E eqD (op2E modD (callE (on1 intG) [op2E mulD (op2E ixD (var 3) (var 9)) (op2E subD (var 10) (var 11))]) (var 2)) (con (.int 0))))
  (appS [] 7 (tupE [var 9, var 10, var 11]))
  (nilS))
  (ifS [] (andT (testE (op2E ltD (op2E addD (var 9) (con (.int 1))) (callE lenG [var 3]))) (testE (op2E eqD (op2E modD (callE (on1 intG) [op2E mulD (op2E subD (op2E ixD (var 3) (var 9)) (op2E ixD (var 3) (op2E addD (var 9) (con (.int 1))))) (op2E subD (var 10) (var 11))]) (var 2)) (con (.int 0)))))
  (appS [] 8 (tupE [var 9, var 10, var 11]))
  (nilS)))
  (nilS)
def b_law_3 : Gam → R Fl := forS [] (rangeE [var 2]) (.nm 11)
  (b_law_2)
def b_law_4 : Gam → R Fl := forS [] (rangeE [var 2]) (.nm 10)
  (b_law_3)
def g_law : Gam → R Fl := seqS (setS [] 1 (usrE S__law_numbers [var 0, con (.int 0), con (.int 4)]))
  (seqS (setS [] 2 (op2E addD (con (.int 2)) (op2E modD (callE (on1 intG) [op2E ixD (var 1) (con (.int 0))]) (con (.int 30)))))
  (seqS (setS [] 3 (callE (on1 tupG) [dataF (compE [4] (rangeE [op2E addD (con (.int 1)) (op2E modD (callE (on1 intG) [op2E divD (op2E ixD (var 1) (con (.int 0))) (con (.int 30))]) (con (.int 12)))]) (.nm 4) (fun _ => .ok true) (op2E modD (callE (on1 intG) [op2E addD (op2E divD (op2E ixD (var 1) (con (.int 1))) (op2E addD (var 4) (con (.int 1)))) (op2E mulD (con (.int 7)) (var 4))]) (con (.int 31))))]))
  (seqS (forS [] (seqE (sliceE (var 1) (some (con (.int 2))) none)) (.nm 5)
  (b_law_1))
  (seqS (ifS [] (orT (notNE (usrE S_finds_change [tupE [con (.int 30)], con (.int 31)])) (notT (testE (usrE (S__law_same 6) [usrE S_check_of [op2E mulD (tupE [con (.int 30)]) (con (.int 12)), con (.int 31), op2E mulD (tupE [con (.int 30)]) (con (.int 12))], con (.int 12)]))))
  (retS [] (con (.bool false)))
  (nilS))
  (seqS (ownS [] 7 (evL []))
  (seqS (ownS [] 8 (evL []))
  (seqS (forS [] (rangeE [callE lenG [var 3]]) (.nm 9)
  (b_law_4))
  (seqS (setS [] 12 (con .none))
  (seqS (ifS [7] (testE (op2E neD (var 7) (dataF (evL []))))
  (setS [7] 12 (callE (on1 minG) [var 7]))
  (nilS))
  (seqS (setS [] 13 (con .none))
  (seqS (ifS [8] (testE (op2E neD (var 8) (dataF (evL []))))
  (setS [8] 13 (callE (on1 minG) [var 8]))
  (nilS))
  (seqS (ifS [] (orT (notT (testE (usrE (S__law_same 6) [usrE S_finds_change [var 3, var 2], var 12]))) (notT (testE (usrE (S__law_same 6) [usrE S_finds_swap [var 3, var 2], var 13]))))
  (retS [] (con (.bool false)))
  (nilS))
  (seqS (ifS [] (testE (op2E neD (bE (isNE (var 12))) (op2E eqD (dataF (compE [14] (seqE (var 3)) (.nm 14) (notT (testE (usrE S__law_divides [var 14, var 2]))) (var 14))) (dataF (evL [])))))
  (retS [] (con (.bool false)))
  (nilS))
  (retS [] (op2E eqD (bE (isNE (var 13))) (op2E eqD (dataF (compE [4] (rangeE [op2E subD (callE lenG [var 3]) (con (.int 1))]) (.nm 4) (notT (testE (usrE S__law_divides [op2E subD (op2E ixD (var 3) (var 4)) (op2E ixD (var 3) (op2E addD (var 4) (con (.int 1)))), var 2]))) (var 4))) (dataF (evL []))))))))))))))))))
def S_law : List D → R D := runS 15 g_law
end K55
end

set_option Elab.async false
set_option linter.all false
set_option maxRecDepth 100000
set_option maxHeartbeats 4000000
namespace K55
open PySem RB Lib
def W (ws : List Int) : Prop := 1 ≤ ws.length ∧ ws.length ≤ 12 ∧ ∀ w ∈ ws, 0 ≤ w ∧ w ≤ 30
theorem s_want_weights {c : D} {ws : List Int} {n : Nat} (h : SeqD c (ws.map .int)) (hw : W ws) (h2 : 2 ≤ n) (h3 : n ≤ 31) : S_want_weights [c, .int (n : Int)] = .ok .none := by
  obtain ⟨w1, w2, w3⟩ := hw
  have H := compL_true (t := .nm 2) (fi := fun _ => .ok true) (fe := usrE S_is_between [var 2, con (.int 0), con (.int 30)]) (ε := [some c, some (.int (n : Int)), none]) (ws.map .int) fun d hd => by
    obtain ⟨w, hw, rfl⟩ := List.mem_map.mp hd
    obtain ⟨a, b⟩ := w3 w hw
    refine ⟨[(2, .int w)], rfl, rfl, ?_⟩
    simp only [view, freeze, ev_seq, ev_seq1, ev_seq2, ev_seq3, ev_seq4, ev_seq5, ev_ret, ev_ret1, ev_ret2, ev_retN, ev_nil, ev_bk, ev_ct, ev_if, ev_ifT, ev_ifF, ev_ifX, ev_set, ev_set0, ev_set1, ev_set3, ev_drop, ev_drop1, ev_drop2, ev_own, ev_own0, ev_own1, ev_unp, ev_unp1, ev_unp2, ev_unp3, ev_app, ev_app0, ev_app1, ev_app2, ev_put, ev_put1, ev_put2, ev_aug, ev_aug1, ev_aug2, ev_for, ev_for0, ev_forN, ev_con, ev_var, ev_var1, ev_op2, ev_op2k, ev_op1, ev_op1k, ev_nilL, ev_consL, ev_consk, ev_tup, ev_tupk, ev_dat, ev_datk, ev_call, ev_callk, ev_callF, ev_callFk, ev_usr, ev_usrk, ev_usr0, ev_test, ev_testk, ev_b, ev_bk1, ev_isN, ev_isNk, ev_notN, ev_notNk, ev_andT, ev_andT1, ev_andT0, ev_orT, ev_orT1, ev_orT0, ev_notT, ev_notTk, ev_andE, ev_andE1, ev_andE0, ev_orE, ev_orE1, ev_orE0, ev_notE, ev_notEk, ev_ifE, ev_ifE1, ev_ifE0, ev_ch, ev_ch0, ev_ch1, ev_ch2, ev_isi, ev_isi1, ev_isi2, ev_isi3, ev_isi4, ev_isi5, ev_isi6, ev_sl, ev_slk, ev_slL, ev_slT, ev_slS, ev_par0, ev_par, ev_park, ev_seqE, ev_seqEL, ev_seqET, ev_seqES, ev_rg, ev_rgk, ev_en, ev_enL, ev_enT, ev_enS, ev_zi, ev_ziLL, ev_ziTT, ev_ziLT, ev_ziTL, ev_ziSS, ev_comp, ev_compk, v_add, v_sub, v_neg, v_eq, v_ne, v_lt, v_le, v_gt, v_ge, v_mulL, v_mulR, v_p9, v_p18, v_mod, v_div, v_int, v_lenL, v_lenT, v_lenS, v_tupL, v_tupT, v_itL, v_itT, v_ixL, v_ixT, v_sum, v_all, v_any, v_range1, v_range2, v_catT, v_catL, i_1, ev_run, ev_end1, ev_end2, ev_end3, ev_vN, ev_vC, ev_sU, ev_sD, ev_sO, ev_fN, ev_fC, ev_zU, ev_zD, ev_zO, fl1, fl2, fl3, fl4, fl5, sg0, sg1, se0, se1, List.map_cons, List.map_nil, List.length_cons, List.length_nil, List.cons_append, List.nil_append, List.append_nil, List.set_cons_zero, List.set_cons_succ, List.getElem?_cons_zero, List.getElem?_cons_succ, List.getElem?_nil, List.any_cons, List.any_nil, R.hard_ok, noLst, noLsts, t_N1, t_N2, t_N3, t_N4, t_N5, t_N6, isInt, isBool, isStr, isTup, isLst, gam0, List.replicate, wipeE, if_true, if_false, Bool.false_eq_true, Bool.true_eq_false, Bool.not_true, Bool.not_false, Bool.true_or, Bool.false_or, Bool.or_true, Bool.or_false, Bool.true_and, Bool.false_and, Bool.and_true, Bool.and_false, Bool.and_self, Bool.or_self, decide_true, decide_false, Nat.reduceBEq, Nat.reduceAdd, Nat.reduceSub, Nat.reduceLT, Int.reduceLT, Int.reduceLE, Int.reduceNeg, Int.reduceAdd, Int.reduceSub, Int.reduceMul, Nat.reduceEqDiff, Int.reduceEq, Nat.reduceLeDiff, ↓reduceIte, List.isEmpty_cons, s_is_between, a, b]
  have e1 : (1 : Int) ≤ ((ws.map PyData.int).length : Int) := by rw [List.length_map]; omega
  have e2 : ((ws.map PyData.int).length : Int) ≤ 12 := by rw [List.length_map]; omega
  have e3 : (2 : Int) ≤ (n : Int) := by omega
  have e4 : (n : Int) ≤ 31 := by omega
  simp only [S_want_weights, g_want_weights, view, freeze, ev_seq, ev_seq1, ev_seq2, ev_seq3, ev_seq4, ev_seq5, ev_ret, ev_ret1, ev_ret2, ev_retN, ev_nil, ev_bk, ev_ct, ev_if, ev_ifT, ev_ifF, ev_ifX, ev_set, ev_set0, ev_set1, ev_set3, ev_drop, ev_drop1, ev_drop2, ev_own, ev_own0, ev_own1, ev_unp, ev_unp1, ev_unp2, ev_unp3, ev_app, ev_app0, ev_app1, ev_app2, ev_put, ev_put1, ev_put2, ev_aug, ev_aug1, ev_aug2, ev_for, ev_for0, ev_forN, ev_con, ev_var, ev_var1, ev_op2, ev_op2k, ev_op1, ev_op1k, ev_nilL, ev_consL, ev_consk, ev_tup, ev_tupk, ev_dat, ev_datk, ev_call, ev_callk, ev_callF, ev_callFk, ev_usr, ev_usrk, ev_usr0, ev_test, ev_testk, ev_b, ev_bk1, ev_isN, ev_isNk, ev_notN, ev_notNk, ev_andT, ev_andT1, ev_andT0, ev_orT, ev_orT1, ev_orT0, ev_notT, ev_notTk, ev_andE, ev_andE1, ev_andE0, ev_orE, ev_orE1, ev_orE0, ev_notE, ev_notEk, ev_ifE, ev_ifE1, ev_ifE0, ev_ch, ev_ch0, ev_ch1, ev_ch2, ev_isi, ev_isi1, ev_isi2, ev_isi3, ev_isi4, ev_isi5, ev_isi6, ev_sl, ev_slk, ev_slL, ev_slT, ev_slS, ev_par0, ev_par, ev_park, ev_seqE, ev_seqEL, ev_seqET, ev_seqES, ev_rg, ev_rgk, ev_en, ev_enL, ev_enT, ev_enS, ev_zi, ev_ziLL, ev_ziTT, ev_ziLT, ev_ziTL, ev_ziSS, ev_comp, ev_compk, v_add, v_sub, v_neg, v_eq, v_ne, v_lt, v_le, v_gt, v_ge, v_mulL, v_mulR, v_p9, v_p18, v_mod, v_div, v_int, v_lenL, v_lenT, v_lenS, v_tupL, v_tupT, v_itL, v_itT, v_ixL, v_ixT, v_sum, v_all, v_any, v_range1, v_range2, v_catT, v_catL, i_1, ev_run, ev_end1, ev_end2, ev_end3, ev_vN, ev_vC, ev_sU, ev_sD, ev_sO, ev_fN, ev_fC, ev_zU, ev_zD, ev_zO, fl1, fl2, fl3, fl4, fl5, sg0, sg1, se0, se1, List.map_cons, List.map_nil, List.length_cons, List.length_nil, List.cons_append, List.nil_append, List.append_nil, List.set_cons_zero, List.set_cons_succ, List.getElem?_cons_zero, List.getElem?_cons_succ, List.getElem?_nil, List.any_cons, List.any_nil, R.hard_ok, noLst, noLsts, t_N1, t_N2, t_N3, t_N4, t_N5, t_N6, isInt, isBool, isStr, isTup, isLst, gam0, List.replicate, wipeE, if_true, if_false, Bool.false_eq_true, Bool.true_eq_false, Bool.not_true, Bool.not_false, Bool.true_or, Bool.false_or, Bool.or_true, Bool.or_false, Bool.true_and, Bool.false_and, Bool.and_true, Bool.and_false, Bool.and_self, Bool.or_self, decide_true, decide_false, Nat.reduceBEq, Nat.reduceAdd, Nat.reduceSub, Nat.reduceLT, Int.reduceLT, Int.reduceLE, Int.reduceNeg, Int.reduceAdd, Int.reduceSub, Int.reduceMul, Nat.reduceEqDiff, Int.reduceEq, Nat.reduceLeDiff, ↓reduceIte, List.isEmpty_cons, s_is_row_of h, e1, e2, v_seqQ h, H, v_all, all_rep, s_want_int e3 e4]
def dot (ws row : List Int) : Int := (List.zipWith (· * ·) ws row).sum
theorem s_check_of {c e : D} {ws row : List Int} {n : Nat} (h : SeqD c (ws.map .int)) (hw : W ws) (h2 : 2 ≤ n) (h3 : n ≤ 31) (hr : SeqD e (row.map .int)) (hl : row.length = ws.length) (hb : ∀ p ∈ row, 0 ≤ p ∧ p < n) :
    S_check_of [c, .int (n : Int), e] = .ok (.int (dot ws row % n)) := by
  have H := compL_true (t := .nm 3) (fi := fun _ => .ok true) (fe := usrE S_is_between [var 3, con (.int 0), op2E subD (var 1) (con (.int 1))]) (ε := [some c, some (.int (n : Int)), some e, none, none]) (row.map .int) fun d hd => by
    obtain ⟨w, hw, rfl⟩ := List.mem_map.mp hd
    obtain ⟨a, b⟩ := hb w hw
    have b' : w ≤ (n : Int) - 1 := by omega
    refine ⟨[(3, .int w)], rfl, rfl, ?_⟩
    simp only [view, freeze, ev_seq, ev_seq1, ev_seq2, ev_seq3, ev_seq4, ev_seq5, ev_ret, ev_ret1, ev_ret2, ev_retN, ev_nil, ev_bk, ev_ct, ev_if, ev_ifT, ev_ifF, ev_ifX, ev_set, ev_set0, ev_set1, ev_set3, ev_drop, ev_drop1, ev_drop2, ev_own, ev_own0, ev_own1, ev_unp, ev_unp1, ev_unp2, ev_unp3, ev_app, ev_app0, ev_app1, ev_app2, ev_put, ev_put1, ev_put2, ev_aug, ev_aug1, ev_aug2, ev_for, ev_for0, ev_forN, ev_con, ev_var, ev_var1, ev_op2, ev_op2k, ev_op1, ev_op1k, ev_nilL, ev_consL, ev_consk, ev_tup, ev_tupk, ev_dat, ev_datk, ev_call, ev_callk, ev_callF, ev_callFk, ev_usr, ev_usrk, ev_usr0, ev_test, ev_testk, ev_b, ev_bk1, ev_isN, ev_isNk, ev_notN, ev_notNk, ev_andT, ev_andT1, ev_andT0, ev_orT, ev_orT1, ev_orT0, ev_notT, ev_notTk, ev_andE, ev_andE1, ev_andE0, ev_orE, ev_orE1, ev_orE0, ev_notE, ev_notEk, ev_ifE, ev_ifE1, ev_ifE0, ev_ch, ev_ch0, ev_ch1, ev_ch2, ev_isi, ev_isi1, ev_isi2, ev_isi3, ev_isi4, ev_isi5, ev_isi6, ev_sl, ev_slk, ev_slL, ev_slT, ev_slS, ev_par0, ev_par, ev_park, ev_seqE, ev_seqEL, ev_seqET, ev_seqES, ev_rg, ev_rgk, ev_en, ev_enL, ev_enT, ev_enS, ev_zi, ev_ziLL, ev_ziTT, ev_ziLT, ev_ziTL, ev_ziSS, ev_comp, ev_compk, v_add, v_sub, v_neg, v_eq, v_ne, v_lt, v_le, v_gt, v_ge, v_mulL, v_mulR, v_p9, v_p18, v_mod, v_div, v_int, v_lenL, v_lenT, v_lenS, v_tupL, v_tupT, v_itL, v_itT, v_ixL, v_ixT, v_sum, v_all, v_any, v_range1, v_range2, v_catT, v_catL, i_1, ev_run, ev_end1, ev_end2, ev_end3, ev_vN, ev_vC, ev_sU, ev_sD, ev_sO, ev_fN, ev_fC, ev_zU, ev_zD, ev_zO, fl1, fl2, fl3, fl4, fl5, sg0, sg1, se0, se1, List.map_cons, List.map_nil, List.length_cons, List.length_nil, List.cons_append, List.nil_append, List.append_nil, List.set_cons_zero, List.set_cons_succ, List.getElem?_cons_zero, List.getElem?_cons_succ, List.getElem?_nil, List.any_cons, List.any_nil, R.hard_ok, noLst, noLsts, t_N1, t_N2, t_N3, t_N4, t_N5, t_N6, isInt, isBool, isStr, isTup, isLst, gam0, List.replicate, wipeE, if_true, if_false, Bool.false_eq_true, Bool.true_eq_false, Bool.not_true, Bool.not_false, Bool.true_or, Bool.false_or, Bool.or_true, Bool.or_false, Bool.true_and, Bool.false_and, Bool.and_true, Bool.and_false, Bool.and_self, Bool.or_self, decide_true, decide_false, Nat.reduceBEq, Nat.reduceAdd, Nat.reduceSub, Nat.reduceLT, Int.reduceLT, Int.reduceLE, Int.reduceNeg, Int.reduceAdd, Int.reduceSub, Int.reduceMul, Nat.reduceEqDiff, Int.reduceEq, Nat.reduceLeDiff, ↓reduceIte, List.isEmpty_cons, s_is_between, a, b']
  have H2 := compL_map (t := .tup [.nm 4, .nm 3]) (fi := fun _ => .ok true) (fe := op2E mulD (var 4) (var 3)) (ε := [some c, some (.int (n : Int)), some e, none, none]) (fun d => match d with
    | .tuple [.int a, .int b] => .int (a * b)
    | _ => .none) (zipD (ws.map .int) (row.map .int)) fun d hd => by
      unfold zipD at hd
      obtain ⟨⟨x, y⟩, hq, rfl⟩ := List.mem_map.mp hd
      have hx := (List.of_mem_zip hq).1
      obtain ⟨a, ha, rfl⟩ := List.mem_map.mp hx
      obtain ⟨b, hb', rfl⟩ := List.mem_map.mp (List.of_mem_zip hq).2
      obtain ⟨a1, a2⟩ := hw.2.2 a ha
      refine ⟨[(4, .int a), (3, .int b)], by simp only [view, freeze, ev_seq, ev_seq1, ev_seq2, ev_seq3, ev_seq4, ev_seq5, ev_ret, ev_ret1, ev_ret2, ev_retN, ev_nil, ev_bk, ev_ct, ev_if, ev_ifT, ev_ifF, ev_ifX, ev_set, ev_set0, ev_set1, ev_set3, ev_drop, ev_drop1, ev_drop2, ev_own, ev_own0, ev_own1, ev_unp, ev_unp1, ev_unp2, ev_unp3, ev_app, ev_app0, ev_app1, ev_app2, ev_put, ev_put1, ev_put2, ev_aug, ev_aug1, ev_aug2, ev_for, ev_for0, ev_forN, ev_con, ev_var, ev_var1, ev_op2, ev_op2k, ev_op1, ev_op1k, ev_nilL, ev_consL, ev_consk, ev_tup, ev_tupk, ev_dat, ev_datk, ev_call, ev_callk, ev_callF, ev_callFk, ev_usr, ev_usrk, ev_usr0, ev_test, ev_testk, ev_b, ev_bk1, ev_isN, ev_isNk, ev_notN, ev_notNk, ev_andT, ev_andT1, ev_andT0, ev_orT, ev_orT1, ev_orT0, ev_notT, ev_notTk, ev_andE, ev_andE1, ev_andE0, ev_orE, ev_orE1, ev_orE0, ev_notE, ev_notEk, ev_ifE, ev_ifE1, ev_ifE0, ev_ch, ev_ch0, ev_ch1, ev_ch2, ev_isi, ev_isi1, ev_isi2, ev_isi3, ev_isi4, ev_isi5, ev_isi6, ev_sl, ev_slk, ev_slL, ev_slT, ev_slS, ev_par0, ev_par, ev_park, ev_seqE, ev_seqEL, ev_seqET, ev_seqES, ev_rg, ev_rgk, ev_en, ev_enL, ev_enT, ev_enS, ev_zi, ev_ziLL, ev_ziTT, ev_ziLT, ev_ziTL, ev_ziSS, ev_comp, ev_compk, v_add, v_sub, v_neg, v_eq, v_ne, v_lt, v_le, v_gt, v_ge, v_mulL, v_mulR, v_p9, v_p18, v_mod, v_div, v_int, v_lenL, v_lenT, v_lenS, v_tupL, v_tupT, v_itL, v_itT, v_ixL, v_ixT, v_sum, v_all, v_any, v_range1, v_range2, v_catT, v_catL, i_1, ev_run, ev_end1, ev_end2, ev_end3, ev_vN, ev_vC, ev_sU, ev_sD, ev_sO, ev_fN, ev_fC, ev_zU, ev_zD, ev_zO, fl1, fl2, fl3, fl4, fl5, sg0, sg1, se0, se1, List.map_cons, List.map_nil, List.length_cons, List.length_nil, List.cons_append, List.nil_append, List.append_nil, List.set_cons_zero, List.set_cons_succ, List.getElem?_cons_zero, List.getElem?_cons_succ, List.getElem?_nil, List.any_cons, List.any_nil, R.hard_ok, noLst, noLsts, t_N1, t_N2, t_N3, t_N4, t_N5, t_N6, isInt, isBool, isStr, isTup, isLst, gam0, List.replicate, wipeE, if_true, if_false, Bool.false_eq_true, Bool.true_eq_false, Bool.not_true, Bool.not_false, Bool.true_or, Bool.false_or, Bool.or_true, Bool.or_false, Bool.true_and, Bool.false_and, Bool.and_true, Bool.and_false, Bool.and_self, Bool.or_self, decide_true, decide_false, Nat.reduceBEq, Nat.reduceAdd, Nat.reduceSub, Nat.reduceLT, Int.reduceLT, Int.reduceLE, Int.reduceNeg, Int.reduceAdd, Int.reduceSub, Int.reduceMul, Nat.reduceEqDiff, Int.reduceEq, Nat.reduceLeDiff, ↓reduceIte, List.isEmpty_cons], rfl, ?_⟩
      simp only [view, freeze, ev_seq, ev_seq1, ev_seq2, ev_seq3, ev_seq4, ev_seq5, ev_ret, ev_ret1, ev_ret2, ev_retN, ev_nil, ev_bk, ev_ct, ev_if, ev_ifT, ev_ifF, ev_ifX, ev_set, ev_set0, ev_set1, ev_set3, ev_drop, ev_drop1, ev_drop2, ev_own, ev_own0, ev_own1, ev_unp, ev_unp1, ev_unp2, ev_unp3, ev_app, ev_app0, ev_app1, ev_app2, ev_put, ev_put1, ev_put2, ev_aug, ev_aug1, ev_aug2, ev_for, ev_for0, ev_forN, ev_con, ev_var, ev_var1, ev_op2, ev_op2k, ev_op1, ev_op1k, ev_nilL, ev_consL, ev_consk, ev_tup, ev_tupk, ev_dat, ev_datk, ev_call, ev_callk, ev_callF, ev_callFk, ev_usr, ev_usrk, ev_usr0, ev_test, ev_testk, ev_b, ev_bk1, ev_isN, ev_isNk, ev_notN, ev_notNk, ev_andT, ev_andT1, ev_andT0, ev_orT, ev_orT1, ev_orT0, ev_notT, ev_notTk, ev_andE, ev_andE1, ev_andE0, ev_orE, ev_orE1, ev_orE0, ev_notE, ev_notEk, ev_ifE, ev_ifE1, ev_ifE0, ev_ch, ev_ch0, ev_ch1, ev_ch2, ev_isi, ev_isi1, ev_isi2, ev_isi3, ev_isi4, ev_isi5, ev_isi6, ev_sl, ev_slk, ev_slL, ev_slT, ev_slS, ev_par0, ev_par, ev_park, ev_seqE, ev_seqEL, ev_seqET, ev_seqES, ev_rg, ev_rgk, ev_en, ev_enL, ev_enT, ev_enS, ev_zi, ev_ziLL, ev_ziTT, ev_ziLT, ev_ziTL, ev_ziSS, ev_comp, ev_compk, v_add, v_sub, v_neg, v_eq, v_ne, v_lt, v_le, v_gt, v_ge, v_mulL, v_mulR, v_p9, v_p18, v_mod, v_div, v_int, v_lenL, v_lenT, v_lenS, v_tupL, v_tupT, v_itL, v_itT, v_ixL, v_ixT, v_sum, v_all, v_any, v_range1, v_range2, v_catT, v_catL, i_1, ev_run, ev_end1, ev_end2, ev_end3, ev_vN, ev_vC, ev_sU, ev_sD, ev_sO, ev_fN, ev_fC, ev_zU, ev_zD, ev_zO, fl1, fl2, fl3, fl4, fl5, sg0, sg1, se0, se1, List.map_cons, List.map_nil, List.length_cons, List.length_nil, List.cons_append, List.nil_append, List.append_nil, List.set_cons_zero, List.set_cons_succ, List.getElem?_cons_zero, List.getElem?_cons_succ, List.getElem?_nil, List.any_cons, List.any_nil, R.hard_ok, noLst, noLsts, t_N1, t_N2, t_N3, t_N4, t_N5, t_N6, isInt, isBool, isStr, isTup, isLst, gam0, List.replicate, wipeE, if_true, if_false, Bool.false_eq_true, Bool.true_eq_false, Bool.not_true, Bool.not_false, Bool.true_or, Bool.false_or, Bool.or_true, Bool.or_false, Bool.true_and, Bool.false_and, Bool.and_true, Bool.and_false, Bool.and_self, Bool.or_self, decide_true, decide_false, Nat.reduceBEq, Nat.reduceAdd, Nat.reduceSub, Nat.reduceLT, Int.reduceLT, Int.reduceLE, Int.reduceNeg, Int.reduceAdd, Int.reduceSub, Int.reduceMul, Nat.reduceEqDiff, Int.reduceEq, Nat.reduceLeDiff, ↓reduceIte, List.isEmpty_cons, v_mulL (show -18446744073709551616 < a by omega) (show a < 18446744073709551616 by omega)]
  have e5 : (zipD (ws.map PyData.int) (row.map PyData.int)).map (fun d => match d with
    | .tuple [.int a, .int b] => PyData.int (a * b)
    | _ => .none) = (List.zipWith (· * ·) ws row).map PyData.int := by
    unfold zipD
    simp only [List.zip_eq_zipWith, List.zipWith_map, List.map_zipWith]
  rw [e5] at H2
  have e1 : ((ws.map PyData.int).length : Int) ≤ ((row.map PyData.int).length : Int) := by rw [List.length_map, List.length_map]; omega
  have e2 : ((row.map PyData.int).length : Int) ≤ ((ws.map PyData.int).length : Int) := by rw [List.length_map, List.length_map]; omega
  have e3 : (0 : Int) < (n : Int) := by omega
  simp only [S_check_of, g_check_of, view, freeze, ev_seq, ev_seq1, ev_seq2, ev_seq3, ev_seq4, ev_seq5, ev_ret, ev_ret1, ev_ret2, ev_retN, ev_nil, ev_bk, ev_ct, ev_if, ev_ifT, ev_ifF, ev_ifX, ev_set, ev_set0, ev_set1, ev_set3, ev_drop, ev_drop1, ev_drop2, ev_own, ev_own0, ev_own1, ev_unp, ev_unp1, ev_unp2, ev_unp3, ev_app, ev_app0, ev_app1, ev_app2, ev_put, ev_put1, ev_put2, ev_aug, ev_aug1, ev_aug2, ev_for, ev_for0, ev_forN, ev_con, ev_var, ev_var1, ev_op2, ev_op2k, ev_op1, ev_op1k, ev_nilL, ev_consL, ev_consk, ev_tup, ev_tupk, ev_dat, ev_datk, ev_call, ev_callk, ev_callF, ev_callFk, ev_usr, ev_usrk, ev_usr0, ev_test, ev_testk, ev_b, ev_bk1, ev_isN, ev_isNk, ev_notN, ev_notNk, ev_andT, ev_andT1, ev_andT0, ev_orT, ev_orT1, ev_orT0, ev_notT, ev_notTk, ev_andE, ev_andE1, ev_andE0, ev_orE, ev_orE1, ev_orE0, ev_notE, ev_notEk, ev_ifE, ev_ifE1, ev_ifE0, ev_ch, ev_ch0, ev_ch1, ev_ch2, ev_isi, ev_isi1, ev_isi2, ev_isi3, ev_isi4, ev_isi5, ev_isi6, ev_sl, ev_slk, ev_slL, ev_slT, ev_slS, ev_par0, ev_par, ev_park, ev_seqE, ev_seqEL, ev_seqET, ev_seqES, ev_rg, ev_rgk, ev_en, ev_enL, ev_enT, ev_enS, ev_zi, ev_ziLL, ev_ziTT, ev_ziLT, ev_ziTL, ev_ziSS, ev_comp, ev_compk, v_add, v_sub, v_neg, v_eq, v_ne, v_lt, v_le, v_gt, v_ge, v_mulL, v_mulR, v_p9, v_p18, v_mod, v_div, v_int, v_lenL, v_lenT, v_lenS, v_tupL, v_tupT, v_itL, v_itT, v_ixL, v_ixT, v_sum, v_all, v_any, v_range1, v_range2, v_catT, v_catL, i_1, ev_run, ev_end1, ev_end2, ev_end3, ev_vN, ev_vC, ev_sU, ev_sD, ev_sO, ev_fN, ev_fC, ev_zU, ev_zD, ev_zO, fl1, fl2, fl3, fl4, fl5, sg0, sg1, se0, se1, List.map_cons, List.map_nil, List.length_cons, List.length_nil, List.cons_append, List.nil_append, List.append_nil, List.set_cons_zero, List.set_cons_succ, List.getElem?_cons_zero, List.getElem?_cons_succ, List.getElem?_nil, List.any_cons, List.any_nil, R.hard_ok, noLst, noLsts, t_N1, t_N2, t_N3, t_N4, t_N5, t_N6, isInt, isBool, isStr, isTup, isLst, gam0, List.replicate, wipeE, if_true, if_false, Bool.false_eq_true, Bool.true_eq_false, Bool.not_true, Bool.not_false, Bool.true_or, Bool.false_or, Bool.or_true, Bool.or_false, Bool.true_and, Bool.false_and, Bool.and_true, Bool.and_false, Bool.and_self, Bool.or_self, decide_true, decide_false, Nat.reduceBEq, Nat.reduceAdd, Nat.reduceSub, Nat.reduceLT, Int.reduceLT, Int.reduceLE, Int.reduceNeg, Int.reduceAdd, Int.reduceSub, Int.reduceMul, Nat.reduceEqDiff, Int.reduceEq, Nat.reduceLeDiff, ↓reduceIte, List.isEmpty_cons, s_want_weights h hw h2 h3, v_lenQ h, s_is_row_of hr, e1, e2, v_seqQ hr, H, v_all, all_rep, v_ziQ h hr, H2, v_sum, v_mod e3, dot]
/-- the first two that f does not tell apart -/
def fm (f : Int) (n : Nat) : Option D := (List.range n).findSome? fun (a : Nat) => (List.range n).findSome? fun (b : Nat) => if (a : Int) ≠ b ∧ (f * a - f * b) % (n : Int) = 0 then some (.tuple [.int (a : Int), .int (b : Int)]) else none
theorem s_first_missed {f : Int} {n : Nat} (h1 : -100 ≤ f) (h2 : f ≤ 100) (hn : 0 < n) (hm : n ≤ 31) : S_first_missed [.int f, .int (n : Int)] = .ok ((fm f n).getD .none) := by
  have hz : n ≤ 16777216 := by omega
  have q := forR_find (i := 2) (body := b_first_missed_2) (fun Γ => ∃ s2 s3, Γ = [.da (.int f), .da (.int (n : Int)), s2, s3]) (fun (a : Nat) => (List.range n).findSome? fun (b : Nat) => if (a : Int) ≠ b ∧ (f * a - f * b) % (n : Int) = 0 then some (.tuple [.int (a : Int), .int (b : Int)]) else none)
    n [.da (.int f), .da (.int (n : Int)), .un, .un] ⟨_, _, rfl⟩ fun a ha Γ ⟨s2, s3, e⟩ => by
      subst e
      have q2 := forR_find (i := 3) (body := b_first_missed_1) (fun Γ => ∃ s3, Γ = [.da (.int f), .da (.int (n : Int)), .da (.int (a : Int)), s3]) (fun (b : Nat) => if (a : Int) ≠ b ∧ (f * a - f * b) % (n : Int) = 0 then some (.tuple [.int (a : Int), .int (b : Int)]) else none)
        n [.da (.int f), .da (.int (n : Int)), .da (.int (a : Int)), s3] ⟨_, rfl⟩ fun b hb Γ ⟨s3, e⟩ => by
          subst e
          by_cases hne : (a : Int) = b
          · refine .inr ⟨if_neg (fun z => z.1 hne), ?_⟩
            simp only [b_first_missed_1, view, freeze, ev_seq, ev_seq1, ev_seq2, ev_seq3, ev_seq4, ev_seq5, ev_ret, ev_ret1, ev_ret2, ev_retN, ev_nil, ev_bk, ev_ct, ev_if, ev_ifT, ev_ifF, ev_ifX, ev_set, ev_set0, ev_set1, ev_set3, ev_drop, ev_drop1, ev_drop2, ev_own, ev_own0, ev_own1, ev_unp, ev_unp1, ev_unp2, ev_unp3, ev_app, ev_app0, ev_app1, ev_app2, ev_put, ev_put1, ev_put2, ev_aug, ev_aug1, ev_aug2, ev_for, ev_for0, ev_forN, ev_con, ev_var, ev_var1, ev_op2, ev_op2k, ev_op1, ev_op1k, ev_nilL, ev_consL, ev_consk, ev_tup, ev_tupk, ev_dat, ev_datk, ev_call, ev_callk, ev_callF, ev_callFk, ev_usr, ev_usrk, ev_usr0, ev_test, ev_testk, ev_b, ev_bk1, ev_isN, ev_isNk, ev_notN, ev_notNk, ev_andT, ev_andT1, ev_andT0, ev_orT, ev_orT1, ev_orT0, ev_notT, ev_notTk, ev_andE, ev_andE1, ev_andE0, ev_orE, ev_orE1, ev_orE0, ev_notE, ev_notEk, ev_ifE, ev_ifE1, ev_ifE0, ev_ch, ev_ch0, ev_ch1, ev_ch2, ev_isi, ev_isi1, ev_isi2, ev_isi3, ev_isi4, ev_isi5, ev_isi6, ev_sl, ev_slk, ev_slL, ev_slT, ev_slS, ev_par0, ev_par, ev_park, ev_seqE, ev_seqEL, ev_seqET, ev_seqES, ev_rg, ev_rgk, ev_en, ev_enL, ev_enT, ev_enS, ev_zi, ev_ziLL, ev_ziTT, ev_ziLT, ev_ziTL, ev_ziSS, ev_comp, ev_compk, v_add, v_sub, v_neg, v_eq, v_ne, v_lt, v_le, v_gt, v_ge, v_mulL, v_mulR, v_p9, v_p18, v_mod, v_div, v_int, v_lenL, v_lenT, v_lenS, v_tupL, v_tupT, v_itL, v_itT, v_ixL, v_ixT, v_sum, v_all, v_any, v_range1, v_range2, v_catT, v_catL, i_1, ev_run, ev_end1, ev_end2, ev_end3, ev_vN, ev_vC, ev_sU, ev_sD, ev_sO, ev_fN, ev_fC, ev_zU, ev_zD, ev_zO, fl1, fl2, fl3, fl4, fl5, sg0, sg1, se0, se1, List.map_cons, List.map_nil, List.length_cons, List.length_nil, List.cons_append, List.nil_append, List.append_nil, List.set_cons_zero, List.set_cons_succ, List.getElem?_cons_zero, List.getElem?_cons_succ, List.getElem?_nil, List.any_cons, List.any_nil, R.hard_ok, noLst, noLsts, t_N1, t_N2, t_N3, t_N4, t_N5, t_N6, isInt, isBool, isStr, isTup, isLst, gam0, List.replicate, wipeE, if_true, if_false, Bool.false_eq_true, Bool.true_eq_false, Bool.not_true, Bool.not_false, Bool.true_or, Bool.false_or, Bool.or_true, Bool.or_false, Bool.true_and, Bool.false_and, Bool.and_true, Bool.and_false, Bool.and_self, Bool.or_self, decide_true, decide_false, Nat.reduceBEq, Nat.reduceAdd, Nat.reduceSub, Nat.reduceLT, Int.reduceLT, Int.reduceLE, Int.reduceNeg, Int.reduceAdd, Int.reduceSub, Int.reduceMul, Nat.reduceEqDiff, Int.reduceEq, Nat.reduceLeDiff, ↓reduceIte, List.isEmpty_cons, hne, R.ok.injEq, Fl.nx.injEq, Fl.rt.injEq, exists_eq_left', exists_eq_left]
            exact ⟨_, rfl⟩
          · have hn' : (0 : Int) < n := by omega
            by_cases hz : (f * a - f * b) % (n : Int) = 0
            · refine .inl ⟨_, if_pos ⟨hne, hz⟩, ?_⟩
              simp only [b_first_missed_1, view, freeze, ev_seq, ev_seq1, ev_seq2, ev_seq3, ev_seq4, ev_seq5, ev_ret, ev_ret1, ev_ret2, ev_retN, ev_nil, ev_bk, ev_ct, ev_if, ev_ifT, ev_ifF, ev_ifX, ev_set, ev_set0, ev_set1, ev_set3, ev_drop, ev_drop1, ev_drop2, ev_own, ev_own0, ev_own1, ev_unp, ev_unp1, ev_unp2, ev_unp3, ev_app, ev_app0, ev_app1, ev_app2, ev_put, ev_put1, ev_put2, ev_aug, ev_aug1, ev_aug2, ev_for, ev_for0, ev_forN, ev_con, ev_var, ev_var1, ev_op2, ev_op2k, ev_op1, ev_op1k, ev_nilL, ev_consL, ev_consk, ev_tup, ev_tupk, ev_dat, ev_datk, ev_call, ev_callk, ev_callF, ev_callFk, ev_usr, ev_usrk, ev_usr0, ev_test, ev_testk, ev_b, ev_bk1, ev_isN, ev_isNk, ev_notN, ev_notNk, ev_andT, ev_andT1, ev_andT0, ev_orT, ev_orT1, ev_orT0, ev_notT, ev_notTk, ev_andE, ev_andE1, ev_andE0, ev_orE, ev_orE1, ev_orE0, ev_notE, ev_notEk, ev_ifE, ev_ifE1, ev_ifE0, ev_ch, ev_ch0, ev_ch1, ev_ch2, ev_isi, ev_isi1, ev_isi2, ev_isi3, ev_isi4, ev_isi5, ev_isi6, ev_sl, ev_slk, ev_slL, ev_slT, ev_slS, ev_par0, ev_par, ev_park, ev_seqE, ev_seqEL, ev_seqET, ev_seqES, ev_rg, ev_rgk, ev_en, ev_enL, ev_enT, ev_enS, ev_zi, ev_ziLL, ev_ziTT, ev_ziLT, ev_ziTL, ev_ziSS, ev_comp, ev_compk, v_add, v_sub, v_neg, v_eq, v_ne, v_lt, v_le, v_gt, v_ge, v_mulL, v_mulR, v_p9, v_p18, v_mod, v_div, v_int, v_lenL, v_lenT, v_lenS, v_tupL, v_tupT, v_itL, v_itT, v_ixL, v_ixT, v_sum, v_all, v_any, v_range1, v_range2, v_catT, v_catL, i_1, ev_run, ev_end1, ev_end2, ev_end3, ev_vN, ev_vC, ev_sU, ev_sD, ev_sO, ev_fN, ev_fC, ev_zU, ev_zD, ev_zO, fl1, fl2, fl3, fl4, fl5, sg0, sg1, se0, se1, List.map_cons, List.map_nil, List.length_cons, List.length_nil, List.cons_append, List.nil_append, List.append_nil, List.set_cons_zero, List.set_cons_succ, List.getElem?_cons_zero, List.getElem?_cons_succ, List.getElem?_nil, List.any_cons, List.any_nil, R.hard_ok, noLst, noLsts, t_N1, t_N2, t_N3, t_N4, t_N5, t_N6, isInt, isBool, isStr, isTup, isLst, gam0, List.replicate, wipeE, if_true, if_false, Bool.false_eq_true, Bool.true_eq_false, Bool.not_true, Bool.not_false, Bool.true_or, Bool.false_or, Bool.or_true, Bool.or_false, Bool.true_and, Bool.false_and, Bool.and_true, Bool.and_false, Bool.and_self, Bool.or_self, decide_true, decide_false, Nat.reduceBEq, Nat.reduceAdd, Nat.reduceSub, Nat.reduceLT, Int.reduceLT, Int.reduceLE, Int.reduceNeg, Int.reduceAdd, Int.reduceSub, Int.reduceMul, Nat.reduceEqDiff, Int.reduceEq, Nat.reduceLeDiff, ↓reduceIte, List.isEmpty_cons, hne, v_mulL (show -18446744073709551616 < f by omega) (show f < 18446744073709551616 by omega), v_mod hn', hz]
            · refine .inr ⟨if_neg (fun z => hz z.2), ?_⟩
              simp only [b_first_missed_1, view, freeze, ev_seq, ev_seq1, ev_seq2, ev_seq3, ev_seq4, ev_seq5, ev_ret, ev_ret1, ev_ret2, ev_retN, ev_nil, ev_bk, ev_ct, ev_if, ev_ifT, ev_ifF, ev_ifX, ev_set, ev_set0, ev_set1, ev_set3, ev_drop, ev_drop1, ev_drop2, ev_own, ev_own0, ev_own1, ev_unp, ev_unp1, ev_unp2, ev_unp3, ev_app, ev_app0, ev_app1, ev_app2, ev_put, ev_put1, ev_put2, ev_aug, ev_aug1, ev_aug2, ev_for, ev_for0, ev_forN, ev_con, ev_var, ev_var1, ev_op2, ev_op2k, ev_op1, ev_op1k, ev_nilL, ev_consL, ev_consk, ev_tup, ev_tupk, ev_dat, ev_datk, ev_call, ev_callk, ev_callF, ev_callFk, ev_usr, ev_usrk, ev_usr0, ev_test, ev_testk, ev_b, ev_bk1, ev_isN, ev_isNk, ev_notN, ev_notNk, ev_andT, ev_andT1, ev_andT0, ev_orT, ev_orT1, ev_orT0, ev_notT, ev_notTk, ev_andE, ev_andE1, ev_andE0, ev_orE, ev_orE1, ev_orE0, ev_notE, ev_notEk, ev_ifE, ev_ifE1, ev_ifE0, ev_ch, ev_ch0, ev_ch1, ev_ch2, ev_isi, ev_isi1, ev_isi2, ev_isi3, ev_isi4, ev_isi5, ev_isi6, ev_sl, ev_slk, ev_slL, ev_slT, ev_slS, ev_par0, ev_par, ev_park, ev_seqE, ev_seqEL, ev_seqET, ev_seqES, ev_rg, ev_rgk, ev_en, ev_enL, ev_enT, ev_enS, ev_zi, ev_ziLL, ev_ziTT, ev_ziLT, ev_ziTL, ev_ziSS, ev_comp, ev_compk, v_add, v_sub, v_neg, v_eq, v_ne, v_lt, v_le, v_gt, v_ge, v_mulL, v_mulR, v_p9, v_p18, v_mod, v_div, v_int, v_lenL, v_lenT, v_lenS, v_tupL, v_tupT, v_itL, v_itT, v_ixL, v_ixT, v_sum, v_all, v_any, v_range1, v_range2, v_catT, v_catL, i_1, ev_run, ev_end1, ev_end2, ev_end3, ev_vN, ev_vC, ev_sU, ev_sD, ev_sO, ev_fN, ev_fC, ev_zU, ev_zD, ev_zO, fl1, fl2, fl3, fl4, fl5, sg0, sg1, se0, se1, List.map_cons, List.map_nil, List.length_cons, List.length_nil, List.cons_append, List.nil_append, List.append_nil, List.set_cons_zero, List.set_cons_succ, List.getElem?_cons_zero, List.getElem?_cons_succ, List.getElem?_nil, List.any_cons, List.any_nil, R.hard_ok, noLst, noLsts, t_N1, t_N2, t_N3, t_N4, t_N5, t_N6, isInt, isBool, isStr, isTup, isLst, gam0, List.replicate, wipeE, if_true, if_false, Bool.false_eq_true, Bool.true_eq_false, Bool.not_true, Bool.not_false, Bool.true_or, Bool.false_or, Bool.or_true, Bool.or_false, Bool.true_and, Bool.false_and, Bool.and_true, Bool.and_false, Bool.and_self, Bool.or_self, decide_true, decide_false, Nat.reduceBEq, Nat.reduceAdd, Nat.reduceSub, Nat.reduceLT, Int.reduceLT, Int.reduceLE, Int.reduceNeg, Int.reduceAdd, Int.reduceSub, Int.reduceMul, Nat.reduceEqDiff, Int.reduceEq, Nat.reduceLeDiff, ↓reduceIte, List.isEmpty_cons, hne, v_mulL (show -18446744073709551616 < f by omega) (show f < 18446744073709551616 by omega), v_mod hn', hz, R.ok.injEq, Fl.nx.injEq, Fl.rt.injEq, exists_eq_left', exists_eq_left]
              exact ⟨_, rfl⟩
      rcases q2 with ⟨r, e1, e2⟩ | ⟨e1, Γ', e2, s3, rfl⟩
      · refine .inl ⟨r, e1, ?_⟩
        simp only [b_first_missed_2, view, freeze, ev_seq, ev_seq1, ev_seq2, ev_seq3, ev_seq4, ev_seq5, ev_ret, ev_ret1, ev_ret2, ev_retN, ev_nil, ev_bk, ev_ct, ev_if, ev_ifT, ev_ifF, ev_ifX, ev_set, ev_set0, ev_set1, ev_set3, ev_drop, ev_drop1, ev_drop2, ev_own, ev_own0, ev_own1, ev_unp, ev_unp1, ev_unp2, ev_unp3, ev_app, ev_app0, ev_app1, ev_app2, ev_put, ev_put1, ev_put2, ev_aug, ev_aug1, ev_aug2, ev_for, ev_for0, ev_forN, ev_con, ev_var, ev_var1, ev_op2, ev_op2k, ev_op1, ev_op1k, ev_nilL, ev_consL, ev_consk, ev_tup, ev_tupk, ev_dat, ev_datk, ev_call, ev_callk, ev_callF, ev_callFk, ev_usr, ev_usrk, ev_usr0, ev_test, ev_testk, ev_b, ev_bk1, ev_isN, ev_isNk, ev_notN, ev_notNk, ev_andT, ev_andT1, ev_andT0, ev_orT, ev_orT1, ev_orT0, ev_notT, ev_notTk, ev_andE, ev_andE1, ev_andE0, ev_orE, ev_orE1, ev_orE0, ev_notE, ev_notEk, ev_ifE, ev_ifE1, ev_ifE0, ev_ch, ev_ch0, ev_ch1, ev_ch2, ev_isi, ev_isi1, ev_isi2, ev_isi3, ev_isi4, ev_isi5, ev_isi6, ev_sl, ev_slk, ev_slL, ev_slT, ev_slS, ev_par0, ev_par, ev_park, ev_seqE, ev_seqEL, ev_seqET, ev_seqES, ev_rg, ev_rgk, ev_en, ev_enL, ev_enT, ev_enS, ev_zi, ev_ziLL, ev_ziTT, ev_ziLT, ev_ziTL, ev_ziSS, ev_comp, ev_compk, v_add, v_sub, v_neg, v_eq, v_ne, v_lt, v_le, v_gt, v_ge, v_mulL, v_mulR, v_p9, v_p18, v_mod, v_div, v_int, v_lenL, v_lenT, v_lenS, v_tupL, v_tupT, v_itL, v_itT, v_ixL, v_ixT, v_sum, v_all, v_any, v_range1, v_range2, v_catT, v_catL, i_1, ev_run, ev_end1, ev_end2, ev_end3, ev_vN, ev_vC, ev_sU, ev_sD, ev_sO, ev_fN, ev_fC, ev_zU, ev_zD, ev_zO, fl1, fl2, fl3, fl4, fl5, sg0, sg1, se0, se1, List.map_cons, List.map_nil, List.length_cons, List.length_nil, List.cons_append, List.nil_append, List.append_nil, List.set_cons_zero, List.set_cons_succ, List.getElem?_cons_zero, List.getElem?_cons_succ, List.getElem?_nil, List.any_cons, List.any_nil, R.hard_ok, noLst, noLsts, t_N1, t_N2, t_N3, t_N4, t_N5, t_N6, isInt, isBool, isStr, isTup, isLst, gam0, List.replicate, wipeE, if_true, if_false, Bool.false_eq_true, Bool.true_eq_false, Bool.not_true, Bool.not_false, Bool.true_or, Bool.false_or, Bool.or_true, Bool.or_false, Bool.true_and, Bool.false_and, Bool.and_true, Bool.and_false, Bool.and_self, Bool.or_self, decide_true, decide_false, Nat.reduceBEq, Nat.reduceAdd, Nat.reduceSub, Nat.reduceLT, Int.reduceLT, Int.reduceLE, Int.reduceNeg, Int.reduceAdd, Int.reduceSub, Int.reduceMul, Nat.reduceEqDiff, Int.reduceEq, Nat.reduceLeDiff, ↓reduceIte, List.isEmpty_cons, v_range1 hz, e2]
      · refine .inr ⟨e1, ?_⟩
        simp only [b_first_missed_2, view, freeze, ev_seq, ev_seq1, ev_seq2, ev_seq3, ev_seq4, ev_seq5, ev_ret, ev_ret1, ev_ret2, ev_retN, ev_nil, ev_bk, ev_ct, ev_if, ev_ifT, ev_ifF, ev_ifX, ev_set, ev_set0, ev_set1, ev_set3, ev_drop, ev_drop1, ev_drop2, ev_own, ev_own0, ev_own1, ev_unp, ev_unp1, ev_unp2, ev_unp3, ev_app, ev_app0, ev_app1, ev_app2, ev_put, ev_put1, ev_put2, ev_aug, ev_aug1, ev_aug2, ev_for, ev_for0, ev_forN, ev_con, ev_var, ev_var1, ev_op2, ev_op2k, ev_op1, ev_op1k, ev_nilL, ev_consL, ev_consk, ev_tup, ev_tupk, ev_dat, ev_datk, ev_call, ev_callk, ev_callF, ev_callFk, ev_usr, ev_usrk, ev_usr0, ev_test, ev_testk, ev_b, ev_bk1, ev_isN, ev_isNk, ev_notN, ev_notNk, ev_andT, ev_andT1, ev_andT0, ev_orT, ev_orT1, ev_orT0, ev_notT, ev_notTk, ev_andE, ev_andE1, ev_andE0, ev_orE, ev_orE1, ev_orE0, ev_notE, ev_notEk, ev_ifE, ev_ifE1, ev_ifE0, ev_ch, ev_ch0, ev_ch1, ev_ch2, ev_isi, ev_isi1, ev_isi2, ev_isi3, ev_isi4, ev_isi5, ev_isi6, ev_sl, ev_slk, ev_slL, ev_slT, ev_slS, ev_par0, ev_par, ev_park, ev_seqE, ev_seqEL, ev_seqET, ev_seqES, ev_rg, ev_rgk, ev_en, ev_enL, ev_enT, ev_enS, ev_zi, ev_ziLL, ev_ziTT, ev_ziLT, ev_ziTL, ev_ziSS, ev_comp, ev_compk, v_add, v_sub, v_neg, v_eq, v_ne, v_lt, v_le, v_gt, v_ge, v_mulL, v_mulR, v_p9, v_p18, v_mod, v_div, v_int, v_lenL, v_lenT, v_lenS, v_tupL, v_tupT, v_itL, v_itT, v_ixL, v_ixT, v_sum, v_all, v_any, v_range1, v_range2, v_catT, v_catL, i_1, ev_run, ev_end1, ev_end2, ev_end3, ev_vN, ev_vC, ev_sU, ev_sD, ev_sO, ev_fN, ev_fC, ev_zU, ev_zD, ev_zO, fl1, fl2, fl3, fl4, fl5, sg0, sg1, se0, se1, List.map_cons, List.map_nil, List.length_cons, List.length_nil, List.cons_append, List.nil_append, List.append_nil, List.set_cons_zero, List.set_cons_succ, List.getElem?_cons_zero, List.getElem?_cons_succ, List.getElem?_nil, List.any_cons, List.any_nil, R.hard_ok, noLst, noLsts, t_N1, t_N2, t_N3, t_N4, t_N5, t_N6, isInt, isBool, isStr, isTup, isLst, gam0, List.replicate, wipeE, if_true, if_false, Bool.false_eq_true, Bool.true_eq_false, Bool.not_true, Bool.not_false, Bool.true_or, Bool.false_or, Bool.or_true, Bool.or_false, Bool.true_and, Bool.false_and, Bool.and_true, Bool.and_false, Bool.and_self, Bool.or_self, decide_true, decide_false, Nat.reduceBEq, Nat.reduceAdd, Nat.reduceSub, Nat.reduceLT, Int.reduceLT, Int.reduceLE, Int.reduceNeg, Int.reduceAdd, Int.reduceSub, Int.reduceMul, Nat.reduceEqDiff, Int.reduceEq, Nat.reduceLeDiff, ↓reduceIte, List.isEmpty_cons, v_range1 hz, e2, R.ok.injEq, Fl.nx.injEq, Fl.rt.injEq, exists_eq_left', exists_eq_left]
        exact ⟨_, _, rfl⟩
  rcases q with ⟨r, e1, e2⟩ | ⟨e1, Γ', e2, s2, s3, rfl⟩
  · simp only [S_first_missed, g_first_missed, view, freeze, ev_seq, ev_seq1, ev_seq2, ev_seq3, ev_seq4, ev_seq5, ev_ret, ev_ret1, ev_ret2, ev_retN, ev_nil, ev_bk, ev_ct, ev_if, ev_ifT, ev_ifF, ev_ifX, ev_set, ev_set0, ev_set1, ev_set3, ev_drop, ev_drop1, ev_drop2, ev_own, ev_own0, ev_own1, ev_unp, ev_unp1, ev_unp2, ev_unp3, ev_app, ev_app0, ev_app1, ev_app2, ev_put, ev_put1, ev_put2, ev_aug, ev_aug1, ev_aug2, ev_for, ev_for0, ev_forN, ev_con, ev_var, ev_var1, ev_op2, ev_op2k, ev_op1, ev_op1k, ev_nilL, ev_consL, ev_consk, ev_tup, ev_tupk, ev_dat, ev_datk, ev_call, ev_callk, ev_callF, ev_callFk, ev_usr, ev_usrk, ev_usr0, ev_test, ev_testk, ev_b, ev_bk1, ev_isN, ev_isNk, ev_notN, ev_notNk, ev_andT, ev_andT1, ev_andT0, ev_orT, ev_orT1, ev_orT0, ev_notT, ev_notTk, ev_andE, ev_andE1, ev_andE0, ev_orE, ev_orE1, ev_orE0, ev_notE, ev_notEk, ev_ifE, ev_ifE1, ev_ifE0, ev_ch, ev_ch0, ev_ch1, ev_ch2, ev_isi, ev_isi1, ev_isi2, ev_isi3, ev_isi4, ev_isi5, ev_isi6, ev_sl, ev_slk, ev_slL, ev_slT, ev_slS, ev_par0, ev_par, ev_park, ev_seqE, ev_seqEL, ev_seqET, ev_seqES, ev_rg, ev_rgk, ev_en, ev_enL, ev_enT, ev_enS, ev_zi, ev_ziLL, ev_ziTT, ev_ziLT, ev_ziTL, ev_ziSS, ev_comp, ev_compk, v_add, v_sub, v_neg, v_eq, v_ne, v_lt, v_le, v_gt, v_ge, v_mulL, v_mulR, v_p9, v_p18, v_mod, v_div, v_int, v_lenL, v_lenT, v_lenS, v_tupL, v_tupT, v_itL, v_itT, v_ixL, v_ixT, v_sum, v_all, v_any, v_range1, v_range2, v_catT, v_catL, i_1, ev_run, ev_end1, ev_end2, ev_end3, ev_vN, ev_vC, ev_sU, ev_sD, ev_sO, ev_fN, ev_fC, ev_zU, ev_zD, ev_zO, fl1, fl2, fl3, fl4, fl5, sg0, sg1, se0, se1, List.map_cons, List.map_nil, List.length_cons, List.length_nil, List.cons_append, List.nil_append, List.append_nil, List.set_cons_zero, List.set_cons_succ, List.getElem?_cons_zero, List.getElem?_cons_succ, List.getElem?_nil, List.any_cons, List.any_nil, R.hard_ok, noLst, noLsts, t_N1, t_N2, t_N3, t_N4, t_N5, t_N6, isInt, isBool, isStr, isTup, isLst, gam0, List.replicate, wipeE, if_true, if_false, Bool.false_eq_true, Bool.true_eq_false, Bool.not_true, Bool.not_false, Bool.true_or, Bool.false_or, Bool.or_true, Bool.or_false, Bool.true_and, Bool.false_and, Bool.and_true, Bool.and_false, Bool.and_self, Bool.or_self, decide_true, decide_false, Nat.reduceBEq, Nat.reduceAdd, Nat.reduceSub, Nat.reduceLT, Int.reduceLT, Int.reduceLE, Int.reduceNeg, Int.reduceAdd, Int.reduceSub, Int.reduceMul, Nat.reduceEqDiff, Int.reduceEq, Nat.reduceLeDiff, ↓reduceIte, List.isEmpty_cons, v_range1 hz, e2, fm, e1, Option.getD_some]
  · simp only [S_first_missed, g_first_missed, view, freeze, ev_seq, ev_seq1, ev_seq2, ev_seq3, ev_seq4, ev_seq5, ev_ret, ev_ret1, ev_ret2, ev_retN, ev_nil, ev_bk, ev_ct, ev_if, ev_ifT, ev_ifF, ev_ifX, ev_set, ev_set0, ev_set1, ev_set3, ev_drop, ev_drop1, ev_drop2, ev_own, ev_own0, ev_own1, ev_unp, ev_unp1, ev_unp2, ev_unp3, ev_app, ev_app0, ev_app1, ev_app2, ev_put, ev_put1, ev_put2, ev_aug, ev_aug1, ev_aug2, ev_for, ev_for0, ev_forN, ev_con, ev_var, ev_var1, ev_op2, ev_op2k, ev_op1, ev_op1k, ev_nilL, ev_consL, ev_consk, ev_tup, ev_tupk, ev_dat, ev_datk, ev_call, ev_callk, ev_callF, ev_callFk, ev_usr, ev_usrk, ev_usr0, ev_test, ev_testk, ev_b, ev_bk1, ev_isN, ev_isNk, ev_notN, ev_notNk, ev_andT, ev_andT1, ev_andT0, ev_orT, ev_orT1, ev_orT0, ev_notT, ev_notTk, ev_andE, ev_andE1, ev_andE0, ev_orE, ev_orE1, ev_orE0, ev_notE, ev_notEk, ev_ifE, ev_ifE1, ev_ifE0, ev_ch, ev_ch0, ev_ch1, ev_ch2, ev_isi, ev_isi1, ev_isi2, ev_isi3, ev_isi4, ev_isi5, ev_isi6, ev_sl, ev_slk, ev_slL, ev_slT, ev_slS, ev_par0, ev_par, ev_park, ev_seqE, ev_seqEL, ev_seqET, ev_seqES, ev_rg, ev_rgk, ev_en, ev_enL, ev_enT, ev_enS, ev_zi, ev_ziLL, ev_ziTT, ev_ziLT, ev_ziTL, ev_ziSS, ev_comp, ev_compk, v_add, v_sub, v_neg, v_eq, v_ne, v_lt, v_le, v_gt, v_ge, v_mulL, v_mulR, v_p9, v_p18, v_mod, v_div, v_int, v_lenL, v_lenT, v_lenS, v_tupL, v_tupT, v_itL, v_itT, v_ixL, v_ixT, v_sum, v_all, v_any, v_range1, v_range2, v_catT, v_catL, i_1, ev_run, ev_end1, ev_end2, ev_end3, ev_vN, ev_vC, ev_sU, ev_sD, ev_sO, ev_fN, ev_fC, ev_zU, ev_zD, ev_zO, fl1, fl2, fl3, fl4, fl5, sg0, sg1, se0, se1, List.map_cons, List.map_nil, List.length_cons, List.length_nil, List.cons_append, List.nil_append, List.append_nil, List.set_cons_zero, List.set_cons_succ, List.getElem?_cons_zero, List.getElem?_cons_succ, List.getElem?_nil, List.any_cons, List.any_nil, R.hard_ok, noLst, noLsts, t_N1, t_N2, t_N3, t_N4, t_N5, t_N6, isInt, isBool, isStr, isTup, isLst, gam0, List.replicate, wipeE, if_true, if_false, Bool.false_eq_true, Bool.true_eq_false, Bool.not_true, Bool.not_false, Bool.true_or, Bool.false_or, Bool.or_true, Bool.or_false, Bool.true_and, Bool.false_and, Bool.and_true, Bool.and_false, Bool.and_self, Bool.or_self, decide_true, decide_false, Nat.reduceBEq, Nat.reduceAdd, Nat.reduceSub, Nat.reduceLT, Int.reduceLT, Int.reduceLE, Int.reduceNeg, Int.reduceAdd, Int.reduceSub, Int.reduceMul, Nat.reduceEqDiff, Int.reduceEq, Nat.reduceLeDiff, ↓reduceIte, List.isEmpty_cons, v_range1 hz, e2, fm, e1, Option.getD_none]
end K55

set_option Elab.async false
set_option linter.all false
set_option maxRecDepth 100000
set_option maxHeartbeats 4000000
namespace K55
open PySem RB Lib
def trip (p a b : Nat) : D := .tuple [.int (p : Int), .int (a : Int), .int (b : Int)]
def hitA (f : Int) (n p a : Nat) : List D := (List.range n).filterMap fun b => if (a : Int) ≠ (b : Nat) ∧ (f * ((a : Int) - (b : Nat))) % (n : Int) = 0 then some (trip p a b) else none
def hitP (f : Int) (n p : Nat) : List D := (List.range n).flatMap fun a => hitA f n p a
def hitsOf (f : Nat → Int) (m n : Nat) : List D := (List.range m).flatMap fun p => hitP (f p) n p
def pre (p : Nat) : D → D
  | .tuple ys => .tuple (.int (p : Int) :: ys)
  | d => d
theorem findSome_congr {α β : Type} {f g : α → Option β} : ∀ {l : List α}, (∀ a ∈ l, f a = g a) → l.findSome? f = l.findSome? g
  | [], _ => rfl
  | a :: l, h => by rw [List.findSome?_cons, List.findSome?_cons, h a List.mem_cons_self, findSome_congr fun b hb => h b (List.mem_cons_of_mem _ hb)]
theorem fm_pre (f : Int) (n p : Nat) : (fm f n).map (pre p) = (hitP f n p).head? := by
  unfold fm hitP
  rw [List.map_findSome?, List.head?_flatMap]
  refine findSome_congr fun a _ => ?_
  unfold hitA
  rw [Function.comp, List.map_findSome?, List.head?_filterMap]
  refine findSome_congr fun b _ => ?_
  show Option.map (pre p) (if _ then _ else _) = _
  rw [Int.mul_sub]
  by_cases h : (a : Int) ≠ b ∧ (f * a - f * b) % (n : Int) = 0
  · rw [if_pos h, if_pos h]; rfl
  · rw [if_neg h, if_neg h]; rfl
theorem fm_tup {f : Int} {n : Nat} {d : D} (h : fm f n = some d) : ∃ ys, d = .tuple ys ∧ ys.length = 2 := by
  unfold fm at h
  obtain ⟨a, _, h⟩ := List.exists_of_findSome?_eq_some h
  obtain ⟨b, _, h⟩ := List.exists_of_findSome?_eq_some h
  by_cases c : (a : Int) ≠ b ∧ (f * a - f * b) % (n : Int) = 0
  · rw [if_pos c] at h; cases h; exact ⟨_, rfl, rfl⟩
  · rw [if_neg c] at h; cases h
theorem s_finds_change {ws : List Int} {n : Nat} (hw : W ws) (h2 : 2 ≤ n) (h3 : n ≤ 31) : S_finds_change [.tuple (ws.map .int), .int (n : Int)] = .ok ((hitsOf (fun p => ws.getD p 0) ws.length n).head?.getD .none) := by
  have e : (hitsOf (fun p => ws.getD p 0) ws.length n).head? = (enumD (ws.map .int)).findSome? fun d => match d with
      | .tuple [.int p, .int w] => (fm w n).map (pre p.toNat)
      | _ => none := by
    unfold hitsOf enumD
    rw [List.head?_flatMap, List.findSome?_map, List.length_map]
    refine findSome_congr fun p hp => ?_
    have hp := List.mem_range.mp hp
    rw [← fm_pre]
    have : (ws.map PyData.int).getD p .none = .int (ws.getD p 0) := by
      rw [List.getD_eq_getElem?_getD, List.getD_eq_getElem?_getD, List.getElem?_map, List.getElem?_eq_getElem hp]
      rfl
    rw [Function.comp, this]
    rfl
  rw [e]
  have q := forL_find (t := .tup [.nm 2, .nm 3]) (body := b_finds_change_1) (fun Γ => ∃ s2 s3 s4, Γ = [.da (.tuple (ws.map .int)), .da (.int (n : Int)), s2, s3, s4]) (fun d => match d with
      | .tuple [.int p, .int w] => (fm w n).map (pre p.toNat)
      | _ => none) (enumD (ws.map .int)) [.da (.tuple (ws.map .int)), .da (.int (n : Int)), .un, .un, .un] ⟨_, _, _, rfl⟩ fun d hd Γ ⟨s2, s3, s4, eΓ⟩ => by
    subst eΓ
    unfold enumD at hd
    obtain ⟨p, hp, rfl⟩ := List.mem_map.mp hd
    have hp := List.mem_range.mp hp
    rw [List.length_map] at hp
    have hwp : ws[p] ∈ ws := List.getElem_mem hp
    obtain ⟨a1, a2⟩ := hw.2.2 _ hwp
    have eg : (ws.map PyData.int).getD p .none = .int ws[p] := by
      rw [List.getD_eq_getElem?_getD, List.getElem?_map, List.getElem?_eq_getElem hp]
      rfl
    rw [eg]
    refine ⟨[(2, .int (p : Int)), (3, .int ws[p])], by simp only [view, freeze, ev_seq, ev_seq1, ev_seq2, ev_seq3, ev_seq4, ev_seq5, ev_ret, ev_ret1, ev_ret2, ev_retN, ev_nil, ev_bk, ev_ct, ev_if, ev_ifT, ev_ifF, ev_ifX, ev_set, ev_set0, ev_set1, ev_set3, ev_drop, ev_drop1, ev_drop2, ev_own, ev_own0, ev_own1, ev_unp, ev_unp1, ev_unp2, ev_unp3, ev_app, ev_app0, ev_app1, ev_app2, ev_put, ev_put1, ev_put2, ev_aug, ev_aug1, ev_aug2, ev_for, ev_for0, ev_forN, ev_con, ev_var, ev_var1, ev_op2, ev_op2k, ev_op1, ev_op1k, ev_nilL, ev_consL, ev_consk, ev_tup, ev_tupk, ev_dat, ev_datk, ev_call, ev_callk, ev_callF, ev_callFk, ev_usr, ev_usrk, ev_usr0, ev_test, ev_testk, ev_b, ev_bk1, ev_isN, ev_isNk, ev_notN, ev_notNk, ev_andT, ev_andT1, ev_andT0, ev_orT, ev_orT1, ev_orT0, ev_notT, ev_notTk, ev_andE, ev_andE1, ev_andE0, ev_orE, ev_orE1, ev_orE0, ev_notE, ev_notEk, ev_ifE, ev_ifE1, ev_ifE0, ev_ch, ev_ch0, ev_ch1, ev_ch2, ev_isi, ev_isi1, ev_isi2, ev_isi3, ev_isi4, ev_isi5, ev_isi6, ev_sl, ev_slk, ev_slL, ev_slT, ev_slS, ev_par0, ev_par, ev_park, ev_seqE, ev_seqEL, ev_seqET, ev_seqES, ev_rg, ev_rgk, ev_en, ev_enL, ev_enT, ev_enS, ev_zi, ev_ziLL, ev_ziTT, ev_ziLT, ev_ziTL, ev_ziSS, ev_comp, ev_compk, v_add, v_sub, v_neg, v_eq, v_ne, v_lt, v_le, v_gt, v_ge, v_mulL, v_mulR, v_p9, v_p18, v_mod, v_div, v_int, v_lenL, v_lenT, v_lenS, v_tupL, v_tupT, v_itL, v_itT, v_ixL, v_ixT, v_sum, v_all, v_any, v_range1, v_range2, v_catT, v_catL, i_1, ev_run, ev_end1, ev_end2, ev_end3, ev_vN, ev_vC, ev_sU, ev_sD, ev_sO, ev_fN, ev_fC, ev_zU, ev_zD, ev_zO, fl1, fl2, fl3, fl4, fl5, sg0, sg1, se0, se1, List.map_cons, List.map_nil, List.length_cons, List.length_nil, List.cons_append, List.nil_append, List.append_nil, List.set_cons_zero, List.set_cons_succ, List.getElem?_cons_zero, List.getElem?_cons_succ, List.getElem?_nil, List.any_cons, List.any_nil, R.hard_ok, noLst, noLsts, t_N1, t_N2, t_N3, t_N4, t_N5, t_N6, isInt, isBool, isStr, isTup, isLst, gam0, List.replicate, wipeE, if_true, if_false, Bool.false_eq_true, Bool.true_eq_false, Bool.not_true, Bool.not_false, Bool.true_or, Bool.false_or, Bool.or_true, Bool.or_false, Bool.true_and, Bool.false_and, Bool.and_true, Bool.and_false, Bool.and_self, Bool.or_self, decide_true, decide_false, Nat.reduceBEq, Nat.reduceAdd, Nat.reduceSub, Nat.reduceLT, Int.reduceLT, Int.reduceLE, Int.reduceNeg, Int.reduceAdd, Int.reduceSub, Int.reduceMul, Nat.reduceEqDiff, Int.reduceEq, Nat.reduceLeDiff, ↓reduceIte, List.isEmpty_cons], ?_⟩
    have hf := s_first_missed (f := ws[p]) (n := n) (by omega) (by omega) (by omega) h3
    cases hm : fm ws[p] n with
    | none =>
      rw [hm] at hf
      refine .inr ⟨by simp only [hm]; rfl, ?_⟩
      simp only [b_finds_change_1, view, freeze, ev_seq, ev_seq1, ev_seq2, ev_seq3, ev_seq4, ev_seq5, ev_ret, ev_ret1, ev_ret2, ev_retN, ev_nil, ev_bk, ev_ct, ev_if, ev_ifT, ev_ifF, ev_ifX, ev_set, ev_set0, ev_set1, ev_set3, ev_drop, ev_drop1, ev_drop2, ev_own, ev_own0, ev_own1, ev_unp, ev_unp1, ev_unp2, ev_unp3, ev_app, ev_app0, ev_app1, ev_app2, ev_put, ev_put1, ev_put2, ev_aug, ev_aug1, ev_aug2, ev_for, ev_for0, ev_forN, ev_con, ev_var, ev_var1, ev_op2, ev_op2k, ev_op1, ev_op1k, ev_nilL, ev_consL, ev_consk, ev_tup, ev_tupk, ev_dat, ev_datk, ev_call, ev_callk, ev_callF, ev_callFk, ev_usr, ev_usrk, ev_usr0, ev_test, ev_testk, ev_b, ev_bk1, ev_isN, ev_isNk, ev_notN, ev_notNk, ev_andT, ev_andT1, ev_andT0, ev_orT, ev_orT1, ev_orT0, ev_notT, ev_notTk, ev_andE, ev_andE1, ev_andE0, ev_orE, ev_orE1, ev_orE0, ev_notE, ev_notEk, ev_ifE, ev_ifE1, ev_ifE0, ev_ch, ev_ch0, ev_ch1, ev_ch2, ev_isi, ev_isi1, ev_isi2, ev_isi3, ev_isi4, ev_isi5, ev_isi6, ev_sl, ev_slk, ev_slL, ev_slT, ev_slS, ev_par0, ev_par, ev_park, ev_seqE, ev_seqEL, ev_seqET, ev_seqES, ev_rg, ev_rgk, ev_en, ev_enL, ev_enT, ev_enS, ev_zi, ev_ziLL, ev_ziTT, ev_ziLT, ev_ziTL, ev_ziSS, ev_comp, ev_compk, v_add, v_sub, v_neg, v_eq, v_ne, v_lt, v_le, v_gt, v_ge, v_mulL, v_mulR, v_p9, v_p18, v_mod, v_div, v_int, v_lenL, v_lenT, v_lenS, v_tupL, v_tupT, v_itL, v_itT, v_ixL, v_ixT, v_sum, v_all, v_any, v_range1, v_range2, v_catT, v_catL, i_1, ev_run, ev_end1, ev_end2, ev_end3, ev_vN, ev_vC, ev_sU, ev_sD, ev_sO, ev_fN, ev_fC, ev_zU, ev_zD, ev_zO, fl1, fl2, fl3, fl4, fl5, sg0, sg1, se0, se1, List.map_cons, List.map_nil, List.length_cons, List.length_nil, List.cons_append, List.nil_append, List.append_nil, List.set_cons_zero, List.set_cons_succ, List.getElem?_cons_zero, List.getElem?_cons_succ, List.getElem?_nil, List.any_cons, List.any_nil, R.hard_ok, noLst, noLsts, t_N1, t_N2, t_N3, t_N4, t_N5, t_N6, isInt, isBool, isStr, isTup, isLst, gam0, List.replicate, wipeE, if_true, if_false, Bool.false_eq_true, Bool.true_eq_false, Bool.not_true, Bool.not_false, Bool.true_or, Bool.false_or, Bool.or_true, Bool.or_false, Bool.true_and, Bool.false_and, Bool.and_true, Bool.and_false, Bool.and_self, Bool.or_self, decide_true, decide_false, Nat.reduceBEq, Nat.reduceAdd, Nat.reduceSub, Nat.reduceLT, Int.reduceLT, Int.reduceLE, Int.reduceNeg, Int.reduceAdd, Int.reduceSub, Int.reduceMul, Nat.reduceEqDiff, Int.reduceEq, Nat.reduceLeDiff, ↓reduceIte, List.isEmpty_cons, hf, Option.getD_none, R.ok.injEq, Fl.nx.injEq, Fl.rt.injEq, exists_eq_left', exists_eq_left]
      exact ⟨_, _, _, rfl⟩
    | some d =>
      rw [hm] at hf
      obtain ⟨ys, rfl, hl⟩ := fm_tup hm
      refine .inl ⟨_, by simp only [hm]; rfl, ?_⟩
      simp only [b_finds_change_1, view, freeze, ev_seq, ev_seq1, ev_seq2, ev_seq3, ev_seq4, ev_seq5, ev_ret, ev_ret1, ev_ret2, ev_retN, ev_nil, ev_bk, ev_ct, ev_if, ev_ifT, ev_ifF, ev_ifX, ev_set, ev_set0, ev_set1, ev_set3, ev_drop, ev_drop1, ev_drop2, ev_own, ev_own0, ev_own1, ev_unp, ev_unp1, ev_unp2, ev_unp3, ev_app, ev_app0, ev_app1, ev_app2, ev_put, ev_put1, ev_put2, ev_aug, ev_aug1, ev_aug2, ev_for, ev_for0, ev_forN, ev_con, ev_var, ev_var1, ev_op2, ev_op2k, ev_op1, ev_op1k, ev_nilL, ev_consL, ev_consk, ev_tup, ev_tupk, ev_dat, ev_datk, ev_call, ev_callk, ev_callF, ev_callFk, ev_usr, ev_usrk, ev_usr0, ev_test, ev_testk, ev_b, ev_bk1, ev_isN, ev_isNk, ev_notN, ev_notNk, ev_andT, ev_andT1, ev_andT0, ev_orT, ev_orT1, ev_orT0, ev_notT, ev_notTk, ev_andE, ev_andE1, ev_andE0, ev_orE, ev_orE1, ev_orE0, ev_notE, ev_notEk, ev_ifE, ev_ifE1, ev_ifE0, ev_ch, ev_ch0, ev_ch1, ev_ch2, ev_isi, ev_isi1, ev_isi2, ev_isi3, ev_isi4, ev_isi5, ev_isi6, ev_sl, ev_slk, ev_slL, ev_slT, ev_slS, ev_par0, ev_par, ev_park, ev_seqE, ev_seqEL, ev_seqET, ev_seqES, ev_rg, ev_rgk, ev_en, ev_enL, ev_enT, ev_enS, ev_zi, ev_ziLL, ev_ziTT, ev_ziLT, ev_ziTL, ev_ziSS, ev_comp, ev_compk, v_add, v_sub, v_neg, v_eq, v_ne, v_lt, v_le, v_gt, v_ge, v_mulL, v_mulR, v_p9, v_p18, v_mod, v_div, v_int, v_lenL, v_lenT, v_lenS, v_tupL, v_tupT, v_itL, v_itT, v_ixL, v_ixT, v_sum, v_all, v_any, v_range1, v_range2, v_catT, v_catL, i_1, ev_run, ev_end1, ev_end2, ev_end3, ev_vN, ev_vC, ev_sU, ev_sD, ev_sO, ev_fN, ev_fC, ev_zU, ev_zD, ev_zO, fl1, fl2, fl3, fl4, fl5, sg0, sg1, se0, se1, List.map_cons, List.map_nil, List.length_cons, List.length_nil, List.cons_append, List.nil_append, List.append_nil, List.set_cons_zero, List.set_cons_succ, List.getElem?_cons_zero, List.getElem?_cons_succ, List.getElem?_nil, List.any_cons, List.any_nil, R.hard_ok, noLst, noLsts, t_N1, t_N2, t_N3, t_N4, t_N5, t_N6, isInt, isBool, isStr, isTup, isLst, gam0, List.replicate, wipeE, if_true, if_false, Bool.false_eq_true, Bool.true_eq_false, Bool.not_true, Bool.not_false, Bool.true_or, Bool.false_or, Bool.or_true, Bool.or_false, Bool.true_and, Bool.false_and, Bool.and_true, Bool.and_false, Bool.and_self, Bool.or_self, decide_true, decide_false, Nat.reduceBEq, Nat.reduceAdd, Nat.reduceSub, Nat.reduceLT, Int.reduceLT, Int.reduceLE, Int.reduceNeg, Int.reduceAdd, Int.reduceSub, Int.reduceMul, Nat.reduceEqDiff, Int.reduceEq, Nat.reduceLeDiff, ↓reduceIte, List.isEmpty_cons, hf, Option.getD_some, v_catT (a := [.int (p : Int)]) (b := ys) (by show 1 + ys.length ≤ 16777216; omega)]
      rfl
  rcases q with ⟨r, e1, e2⟩ | ⟨e1, Γ', e2, s2, s3, s4, rfl⟩
  · simp only [S_finds_change, g_finds_change, view, freeze, ev_seq, ev_seq1, ev_seq2, ev_seq3, ev_seq4, ev_seq5, ev_ret, ev_ret1, ev_ret2, ev_retN, ev_nil, ev_bk, ev_ct, ev_if, ev_ifT, ev_ifF, ev_ifX, ev_set, ev_set0, ev_set1, ev_set3, ev_drop, ev_drop1, ev_drop2, ev_own, ev_own0, ev_own1, ev_unp, ev_unp1, ev_unp2, ev_unp3, ev_app, ev_app0, ev_app1, ev_app2, ev_put, ev_put1, ev_put2, ev_aug, ev_aug1, ev_aug2, ev_for, ev_for0, ev_forN, ev_con, ev_var, ev_var1, ev_op2, ev_op2k, ev_op1, ev_op1k, ev_nilL, ev_consL, ev_consk, ev_tup, ev_tupk, ev_dat, ev_datk, ev_call, ev_callk, ev_callF, ev_callFk, ev_usr, ev_usrk, ev_usr0, ev_test, ev_testk, ev_b, ev_bk1, ev_isN, ev_isNk, ev_notN, ev_notNk, ev_andT, ev_andT1, ev_andT0, ev_orT, ev_orT1, ev_orT0, ev_notT, ev_notTk, ev_andE, ev_andE1, ev_andE0, ev_orE, ev_orE1, ev_orE0, ev_notE, ev_notEk, ev_ifE, ev_ifE1, ev_ifE0, ev_ch, ev_ch0, ev_ch1, ev_ch2, ev_isi, ev_isi1, ev_isi2, ev_isi3, ev_isi4, ev_isi5, ev_isi6, ev_sl, ev_slk, ev_slL, ev_slT, ev_slS, ev_par0, ev_par, ev_park, ev_seqE, ev_seqEL, ev_seqET, ev_seqES, ev_rg, ev_rgk, ev_en, ev_enL, ev_enT, ev_enS, ev_zi, ev_ziLL, ev_ziTT, ev_ziLT, ev_ziTL, ev_ziSS, ev_comp, ev_compk, v_add, v_sub, v_neg, v_eq, v_ne, v_lt, v_le, v_gt, v_ge, v_mulL, v_mulR, v_p9, v_p18, v_mod, v_div, v_int, v_lenL, v_lenT, v_lenS, v_tupL, v_tupT, v_itL, v_itT, v_ixL, v_ixT, v_sum, v_all, v_any, v_range1, v_range2, v_catT, v_catL, i_1, ev_run, ev_end1, ev_end2, ev_end3, ev_vN, ev_vC, ev_sU, ev_sD, ev_sO, ev_fN, ev_fC, ev_zU, ev_zD, ev_zO, fl1, fl2, fl3, fl4, fl5, sg0, sg1, se0, se1, List.map_cons, List.map_nil, List.length_cons, List.length_nil, List.cons_append, List.nil_append, List.append_nil, List.set_cons_zero, List.set_cons_succ, List.getElem?_cons_zero, List.getElem?_cons_succ, List.getElem?_nil, List.any_cons, List.any_nil, R.hard_ok, noLst, noLsts, t_N1, t_N2, t_N3, t_N4, t_N5, t_N6, isInt, isBool, isStr, isTup, isLst, gam0, List.replicate, wipeE, if_true, if_false, Bool.false_eq_true, Bool.true_eq_false, Bool.not_true, Bool.not_false, Bool.true_or, Bool.false_or, Bool.or_true, Bool.or_false, Bool.true_and, Bool.false_and, Bool.and_true, Bool.and_false, Bool.and_self, Bool.or_self, decide_true, decide_false, Nat.reduceBEq, Nat.reduceAdd, Nat.reduceSub, Nat.reduceLT, Int.reduceLT, Int.reduceLE, Int.reduceNeg, Int.reduceAdd, Int.reduceSub, Int.reduceMul, Nat.reduceEqDiff, Int.reduceEq, Nat.reduceLeDiff, ↓reduceIte, List.isEmpty_cons, s_want_weights (.inl rfl) hw h2 h3, e2, e1, Option.getD_some]
  · simp only [S_finds_change, g_finds_change, view, freeze, ev_seq, ev_seq1, ev_seq2, ev_seq3, ev_seq4, ev_seq5, ev_ret, ev_ret1, ev_ret2, ev_retN, ev_nil, ev_bk, ev_ct, ev_if, ev_ifT, ev_ifF, ev_ifX, ev_set, ev_set0, ev_set1, ev_set3, ev_drop, ev_drop1, ev_drop2, ev_own, ev_own0, ev_own1, ev_unp, ev_unp1, ev_unp2, ev_unp3, ev_app, ev_app0, ev_app1, ev_app2, ev_put, ev_put1, ev_put2, ev_aug, ev_aug1, ev_aug2, ev_for, ev_for0, ev_forN, ev_con, ev_var, ev_var1, ev_op2, ev_op2k, ev_op1, ev_op1k, ev_nilL, ev_consL, ev_consk, ev_tup, ev_tupk, ev_dat, ev_datk, ev_call, ev_callk, ev_callF, ev_callFk, ev_usr, ev_usrk, ev_usr0, ev_test, ev_testk, ev_b, ev_bk1, ev_isN, ev_isNk, ev_notN, ev_notNk, ev_andT, ev_andT1, ev_andT0, ev_orT, ev_orT1, ev_orT0, ev_notT, ev_notTk, ev_andE, ev_andE1, ev_andE0, ev_orE, ev_orE1, ev_orE0, ev_notE, ev_notEk, ev_ifE, ev_ifE1, ev_ifE0, ev_ch, ev_ch0, ev_ch1, ev_ch2, ev_isi, ev_isi1, ev_isi2, ev_isi3, ev_isi4, ev_isi5, ev_isi6, ev_sl, ev_slk, ev_slL, ev_slT, ev_slS, ev_par0, ev_par, ev_park, ev_seqE, ev_seqEL, ev_seqET, ev_seqES, ev_rg, ev_rgk, ev_en, ev_enL, ev_enT, ev_enS, ev_zi, ev_ziLL, ev_ziTT, ev_ziLT, ev_ziTL, ev_ziSS, ev_comp, ev_compk, v_add, v_sub, v_neg, v_eq, v_ne, v_lt, v_le, v_gt, v_ge, v_mulL, v_mulR, v_p9, v_p18, v_mod, v_div, v_int, v_lenL, v_lenT, v_lenS, v_tupL, v_tupT, v_itL, v_itT, v_ixL, v_ixT, v_sum, v_all, v_any, v_range1, v_range2, v_catT, v_catL, i_1, ev_run, ev_end1, ev_end2, ev_end3, ev_vN, ev_vC, ev_sU, ev_sD, ev_sO, ev_fN, ev_fC, ev_zU, ev_zD, ev_zO, fl1, fl2, fl3, fl4, fl5, sg0, sg1, se0, se1, List.map_cons, List.map_nil, List.length_cons, List.length_nil, List.cons_append, List.nil_append, List.append_nil, List.set_cons_zero, List.set_cons_succ, List.getElem?_cons_zero, List.getElem?_cons_succ, List.getElem?_nil, List.any_cons, List.any_nil, R.hard_ok, noLst, noLsts, t_N1, t_N2, t_N3, t_N4, t_N5, t_N6, isInt, isBool, isStr, isTup, isLst, gam0, List.replicate, wipeE, if_true, if_false, Bool.false_eq_true, Bool.true_eq_false, Bool.not_true, Bool.not_false, Bool.true_or, Bool.false_or, Bool.or_true, Bool.or_false, Bool.true_and, Bool.false_and, Bool.and_true, Bool.and_false, Bool.and_self, Bool.or_self, decide_true, decide_false, Nat.reduceBEq, Nat.reduceAdd, Nat.reduceSub, Nat.reduceLT, Int.reduceLT, Int.reduceLE, Int.reduceNeg, Int.reduceAdd, Int.reduceSub, Int.reduceMul, Nat.reduceEqDiff, Int.reduceEq, Nat.reduceLeDiff, ↓reduceIte, List.isEmpty_cons, s_want_weights (.inl rfl) hw h2 h3, e2, e1, Option.getD_none]
theorem s_finds_swap {ws : List Int} {n : Nat} (hw : W ws) (h2 : 2 ≤ n) (h3 : n ≤ 31) : S_finds_swap [.tuple (ws.map .int), .int (n : Int)] = .ok ((hitsOf (fun p => ws.getD p 0 - ws.getD (p + 1) 0) (ws.length - 1) n).head?.getD .none) := by
  have e : (hitsOf (fun p => ws.getD p 0 - ws.getD (p + 1) 0) (ws.length - 1) n).head? = (List.range (ws.length - 1)).findSome? fun p => (fm (ws.getD p 0 - ws.getD (p + 1) 0) n).map (pre p) := by
    unfold hitsOf
    rw [List.head?_flatMap]
    exact findSome_congr fun p _ => (fm_pre _ _ _).symm
  rw [e]
  have q := forR_find (i := 2) (body := b_finds_swap_1) (fun Γ => ∃ s2 s3, Γ = [.da (.tuple (ws.map .int)), .da (.int (n : Int)), s2, s3]) (fun p => (fm (ws.getD p 0 - ws.getD (p + 1) 0) n).map (pre p)) (ws.length - 1)
      [.da (.tuple (ws.map .int)), .da (.int (n : Int)), .un, .un] ⟨_, _, rfl⟩ fun p hp Γ ⟨s2, s3, eΓ⟩ => by
    subst eΓ
    have hp0 : p < ws.length := by omega
    have hp1 : p + 1 < ws.length := by omega
    obtain ⟨a1, a2⟩ := hw.2.2 _ (List.getElem_mem hp0)
    obtain ⟨b1, b2⟩ := hw.2.2 _ (List.getElem_mem hp1)
    have g0 : ws.getD p 0 = ws[p] := by rw [List.getD_eq_getElem?_getD, List.getElem?_eq_getElem hp0]; rfl
    have g1 : ws.getD (p + 1) 0 = ws[p + 1] := by rw [List.getD_eq_getElem?_getD, List.getElem?_eq_getElem hp1]; rfl
    have x0 : (ws.map PyData.int)[p]? = some (.int ws[p]) := by rw [List.getElem?_map, List.getElem?_eq_getElem hp0]; rfl
    have x1 : (ws.map PyData.int)[p + 1]? = some (.int ws[p + 1]) := by rw [List.getElem?_map, List.getElem?_eq_getElem hp1]; rfl
    have ec : ((p : Int) + 1) = ((p + 1 : Nat) : Int) := by omega
    rw [g0, g1]
    have hf := s_first_missed (f := ws[p] - ws[p + 1]) (n := n) (by omega) (by omega) (by omega) h3
    cases hm : fm (ws[p] - ws[p + 1]) n with
    | none =>
      rw [hm] at hf
      refine .inr ⟨rfl, ?_⟩
      simp only [b_finds_swap_1, view, freeze, ev_seq, ev_seq1, ev_seq2, ev_seq3, ev_seq4, ev_seq5, ev_ret, ev_ret1, ev_ret2, ev_retN, ev_nil, ev_bk, ev_ct, ev_if, ev_ifT, ev_ifF, ev_ifX, ev_set, ev_set0, ev_set1, ev_set3, ev_drop, ev_drop1, ev_drop2, ev_own, ev_own0, ev_own1, ev_unp, ev_unp1, ev_unp2, ev_unp3, ev_app, ev_app0, ev_app1, ev_app2, ev_put, ev_put1, ev_put2, ev_aug, ev_aug1, ev_aug2, ev_for, ev_for0, ev_forN, ev_con, ev_var, ev_var1, ev_op2, ev_op2k, ev_op1, ev_op1k, ev_nilL, ev_consL, ev_consk, ev_tup, ev_tupk, ev_dat, ev_datk, ev_call, ev_callk, ev_callF, ev_callFk, ev_usr, ev_usrk, ev_usr0, ev_test, ev_testk, ev_b, ev_bk1, ev_isN, ev_isNk, ev_notN, ev_notNk, ev_andT, ev_andT1, ev_andT0, ev_orT, ev_orT1, ev_orT0, ev_notT, ev_notTk, ev_andE, ev_andE1, ev_andE0, ev_orE, ev_orE1, ev_orE0, ev_notE, ev_notEk, ev_ifE, ev_ifE1, ev_ifE0, ev_ch, ev_ch0, ev_ch1, ev_ch2, ev_isi, ev_isi1, ev_isi2, ev_isi3, ev_isi4, ev_isi5, ev_isi6, ev_sl, ev_slk, ev_slL, ev_slT, ev_slS, ev_par0, ev_par, ev_park, ev_seqE, ev_seqEL, ev_seqET, ev_seqES, ev_rg, ev_rgk, ev_en, ev_enL, ev_enT, ev_enS, ev_zi, ev_ziLL, ev_ziTT, ev_ziLT, ev_ziTL, ev_ziSS, ev_comp, ev_compk, v_add, v_sub, v_neg, v_eq, v_ne, v_lt, v_le, v_gt, v_ge, v_mulL, v_mulR, v_p9, v_p18, v_mod, v_div, v_int, v_lenL, v_lenT, v_lenS, v_tupL, v_tupT, v_itL, v_itT, v_ixL, v_ixT, v_sum, v_all, v_any, v_range1, v_range2, v_catT, v_catL, i_1, ev_run, ev_end1, ev_end2, ev_end3, ev_vN, ev_vC, ev_sU, ev_sD, ev_sO, ev_fN, ev_fC, ev_zU, ev_zD, ev_zO, fl1, fl2, fl3, fl4, fl5, sg0, sg1, se0, se1, List.map_cons, List.map_nil, List.length_cons, List.length_nil, List.cons_append, List.nil_append, List.append_nil, List.set_cons_zero, List.set_cons_succ, List.getElem?_cons_zero, List.getElem?_cons_succ, List.getElem?_nil, List.any_cons, List.any_nil, R.hard_ok, noLst, noLsts, t_N1, t_N2, t_N3, t_N4, t_N5, t_N6, isInt, isBool, isStr, isTup, isLst, gam0, List.replicate, wipeE, if_true, if_false, Bool.false_eq_true, Bool.true_eq_false, Bool.not_true, Bool.not_false, Bool.true_or, Bool.false_or, Bool.or_true, Bool.or_false, Bool.true_and, Bool.false_and, Bool.and_true, Bool.and_false, Bool.and_self, Bool.or_self, decide_true, decide_false, Nat.reduceBEq, Nat.reduceAdd, Nat.reduceSub, Nat.reduceLT, Int.reduceLT, Int.reduceLE, Int.reduceNeg, Int.reduceAdd, Int.reduceSub, Int.reduceMul, Nat.reduceEqDiff, Int.reduceEq, Nat.reduceLeDiff, ↓reduceIte, List.isEmpty_cons, v_ixT x0, ec, v_ixT x1, hf, Option.getD_none, R.ok.injEq, Fl.nx.injEq, Fl.rt.injEq, exists_eq_left', exists_eq_left]
      exact ⟨_, _, rfl⟩
    | some d =>
      rw [hm] at hf
      obtain ⟨ys, rfl, hl⟩ := fm_tup hm
      refine .inl ⟨_, rfl, ?_⟩
      simp only [b_finds_swap_1, view, freeze, ev_seq, ev_seq1, ev_seq2, ev_seq3, ev_seq4, ev_seq5, ev_ret, ev_ret1, ev_ret2, ev_retN, ev_nil, ev_bk, ev_ct, ev_if, ev_ifT, ev_ifF, ev_ifX, ev_set, ev_set0, ev_set1, ev_set3, ev_drop, ev_drop1, ev_drop2, ev_own, ev_own0, ev_own1, ev_unp, ev_unp1, ev_unp2, ev_unp3, ev_app, ev_app0, ev_app1, ev_app2, ev_put, ev_put1, ev_put2, ev_aug, ev_aug1, ev_aug2, ev_for, ev_for0, ev_forN, ev_con, ev_var, ev_var1, ev_op2, ev_op2k, ev_op1, ev_op1k, ev_nilL, ev_consL, ev_consk, ev_tup, ev_tupk, ev_dat, ev_datk, ev_call, ev_callk, ev_callF, ev_callFk, ev_usr, ev_usrk, ev_usr0, ev_test, ev_testk, ev_b, ev_bk1, ev_isN, ev_isNk, ev_notN, ev_notNk, ev_andT, ev_andT1, ev_andT0, ev_orT, ev_orT1, ev_orT0, ev_notT, ev_notTk, ev_andE, ev_andE1, ev_andE0, ev_orE, ev_orE1, ev_orE0, ev_notE, ev_notEk, ev_ifE, ev_ifE1, ev_ifE0, ev_ch, ev_ch0, ev_ch1, ev_ch2, ev_isi, ev_isi1, ev_isi2, ev_isi3, ev_isi4, ev_isi5, ev_isi6, ev_sl, ev_slk, ev_slL, ev_slT, ev_slS, ev_par0, ev_par, ev_park, ev_seqE, ev_seqEL, ev_seqET, ev_seqES, ev_rg, ev_rgk, ev_en, ev_enL, ev_enT, ev_enS, ev_zi, ev_ziLL, ev_ziTT, ev_ziLT, ev_ziTL, ev_ziSS, ev_comp, ev_compk, v_add, v_sub, v_neg, v_eq, v_ne, v_lt, v_le, v_gt, v_ge, v_mulL, v_mulR, v_p9, v_p18, v_mod, v_div, v_int, v_lenL, v_lenT, v_lenS, v_tupL, v_tupT, v_itL, v_itT, v_ixL, v_ixT, v_sum, v_all, v_any, v_range1, v_range2, v_catT, v_catL, i_1, ev_run, ev_end1, ev_end2, ev_end3, ev_vN, ev_vC, ev_sU, ev_sD, ev_sO, ev_fN, ev_fC, ev_zU, ev_zD, ev_zO, fl1, fl2, fl3, fl4, fl5, sg0, sg1, se0, se1, List.map_cons, List.map_nil, List.length_cons, List.length_nil, List.cons_append, List.nil_append, List.append_nil, List.set_cons_zero, List.set_cons_succ, List.getElem?_cons_zero, List.getElem?_cons_succ, List.getElem?_nil, List.any_cons, List.any_nil, R.hard_ok, noLst, noLsts, t_N1, t_N2, t_N3, t_N4, t_N5, t_N6, isInt, isBool, isStr, isTup, isLst, gam0, List.replicate, wipeE, if_true, if_false, Bool.false_eq_true, Bool.true_eq_false, Bool.not_true, Bool.not_false, Bool.true_or, Bool.false_or, Bool.or_true, Bool.or_false, Bool.true_and, Bool.false_and, Bool.and_true, Bool.and_false, Bool.and_self, Bool.or_self, decide_true, decide_false, Nat.reduceBEq, Nat.reduceAdd, Nat.reduceSub, Nat.reduceLT, Int.reduceLT, Int.reduceLE, Int.reduceNeg, Int.reduceAdd, Int.reduceSub, Int.reduceMul, Nat.reduceEqDiff, Int.reduceEq, Nat.reduceLeDiff, ↓reduceIte, List.isEmpty_cons, v_ixT x0, ec, v_ixT x1, hf, Option.getD_some, v_catT (a := [.int (p : Int)]) (b := ys) (by show 1 + ys.length ≤ 16777216; omega)]
      rfl
  have el : ((ws.map PyData.int).length : Int) - 1 = ((ws.length - 1 : Nat) : Int) := by
    have := hw.1
    rw [List.length_map]; omega
  have hz : ws.length - 1 ≤ 16777216 := by have := hw.2.1; omega
  rcases q with ⟨r, e1, e2⟩ | ⟨e1, Γ', e2, s2, s3, rfl⟩
  · simp only [S_finds_swap, g_finds_swap, view, freeze, ev_seq, ev_seq1, ev_seq2, ev_seq3, ev_seq4, ev_seq5, ev_ret, ev_ret1, ev_ret2, ev_retN, ev_nil, ev_bk, ev_ct, ev_if, ev_ifT, ev_ifF, ev_ifX, ev_set, ev_set0, ev_set1, ev_set3, ev_drop, ev_drop1, ev_drop2, ev_own, ev_own0, ev_own1, ev_unp, ev_unp1, ev_unp2, ev_unp3, ev_app, ev_app0, ev_app1, ev_app2, ev_put, ev_put1, ev_put2, ev_aug, ev_aug1, ev_aug2, ev_for, ev_for0, ev_forN, ev_con, ev_var, ev_var1, ev_op2, ev_op2k, ev_op1, ev_op1k, ev_nilL, ev_consL, ev_consk, ev_tup, ev_tupk, ev_dat, ev_datk, ev_call, ev_callk, ev_callF, ev_callFk, ev_usr, ev_usrk, ev_usr0, ev_test, ev_testk, ev_b, ev_bk1, ev_isN, ev_isNk, ev_notN, ev_notNk, ev_andT, ev_andT1, ev_andT0, ev_orT, ev_orT1, ev_orT0, ev_notT, ev_notTk, ev_andE, ev_andE1, ev_andE0, ev_orE, ev_orE1, ev_orE0, ev_notE, ev_notEk, ev_ifE, ev_ifE1, ev_ifE0, ev_ch, ev_ch0, ev_ch1, ev_ch2, ev_isi, ev_isi1, ev_isi2, ev_isi3, ev_isi4, ev_isi5, ev_isi6, ev_sl, ev_slk, ev_slL, ev_slT, ev_slS, ev_par0, ev_par, ev_park, ev_seqE, ev_seqEL, ev_seqET, ev_seqES, ev_rg, ev_rgk, ev_en, ev_enL, ev_enT, ev_enS, ev_zi, ev_ziLL, ev_ziTT, ev_ziLT, ev_ziTL, ev_ziSS, ev_comp, ev_compk, v_add, v_sub, v_neg, v_eq, v_ne, v_lt, v_le, v_gt, v_ge, v_mulL, v_mulR, v_p9, v_p18, v_mod, v_div, v_int, v_lenL, v_lenT, v_lenS, v_tupL, v_tupT, v_itL, v_itT, v_ixL, v_ixT, v_sum, v_all, v_any, v_range1, v_range2, v_catT, v_catL, i_1, ev_run, ev_end1, ev_end2, ev_end3, ev_vN, ev_vC, ev_sU, ev_sD, ev_sO, ev_fN, ev_fC, ev_zU, ev_zD, ev_zO, fl1, fl2, fl3, fl4, fl5, sg0, sg1, se0, se1, List.map_cons, List.map_nil, List.length_cons, List.length_nil, List.cons_append, List.nil_append, List.append_nil, List.set_cons_zero, List.set_cons_succ, List.getElem?_cons_zero, List.getElem?_cons_succ, List.getElem?_nil, List.any_cons, List.any_nil, R.hard_ok, noLst, noLsts, t_N1, t_N2, t_N3, t_N4, t_N5, t_N6, isInt, isBool, isStr, isTup, isLst, gam0, List.replicate, wipeE, if_true, if_false, Bool.false_eq_true, Bool.true_eq_false, Bool.not_true, Bool.not_false, Bool.true_or, Bool.false_or, Bool.or_true, Bool.or_false, Bool.true_and, Bool.false_and, Bool.and_true, Bool.and_false, Bool.and_self, Bool.or_self, decide_true, decide_false, Nat.reduceBEq, Nat.reduceAdd, Nat.reduceSub, Nat.reduceLT, Int.reduceLT, Int.reduceLE, Int.reduceNeg, Int.reduceAdd, Int.reduceSub, Int.reduceMul, Nat.reduceEqDiff, Int.reduceEq, Nat.reduceLeDiff, ↓reduceIte, List.isEmpty_cons, s_want_weights (.inl rfl) hw h2 h3, el, v_range1 hz, e2, e1, Option.getD_some]
  · simp only [S_finds_swap, g_finds_swap, view, freeze, ev_seq, ev_seq1, ev_seq2, ev_seq3, ev_seq4, ev_seq5, ev_ret, ev_ret1, ev_ret2, ev_retN, ev_nil, ev_bk, ev_ct, ev_if, ev_ifT, ev_ifF, ev_ifX, ev_set, ev_set0, ev_set1, ev_set3, ev_drop, ev_drop1, ev_drop2, ev_own, ev_own0, ev_own1, ev_unp, ev_unp1, ev_unp2, ev_unp3, ev_app, ev_app0, ev_app1, ev_app2, ev_put, ev_put1, ev_put2, ev_aug, ev_aug1, ev_aug2, ev_for, ev_for0, ev_forN, ev_con, ev_var, ev_var1, ev_op2, ev_op2k, ev_op1, ev_op1k, ev_nilL, ev_consL, ev_consk, ev_tup, ev_tupk, ev_dat, ev_datk, ev_call, ev_callk, ev_callF, ev_callFk, ev_usr, ev_usrk, ev_usr0, ev_test, ev_testk, ev_b, ev_bk1, ev_isN, ev_isNk, ev_notN, ev_notNk, ev_andT, ev_andT1, ev_andT0, ev_orT, ev_orT1, ev_orT0, ev_notT, ev_notTk, ev_andE, ev_andE1, ev_andE0, ev_orE, ev_orE1, ev_orE0, ev_notE, ev_notEk, ev_ifE, ev_ifE1, ev_ifE0, ev_ch, ev_ch0, ev_ch1, ev_ch2, ev_isi, ev_isi1, ev_isi2, ev_isi3, ev_isi4, ev_isi5, ev_isi6, ev_sl, ev_slk, ev_slL, ev_slT, ev_slS, ev_par0, ev_par, ev_park, ev_seqE, ev_seqEL, ev_seqET, ev_seqES, ev_rg, ev_rgk, ev_en, ev_enL, ev_enT, ev_enS, ev_zi, ev_ziLL, ev_ziTT, ev_ziLT, ev_ziTL, ev_ziSS, ev_comp, ev_compk, v_add, v_sub, v_neg, v_eq, v_ne, v_lt, v_le, v_gt, v_ge, v_mulL, v_mulR, v_p9, v_p18, v_mod, v_div, v_int, v_lenL, v_lenT, v_lenS, v_tupL, v_tupT, v_itL, v_itT, v_ixL, v_ixT, v_sum, v_all, v_any, v_range1, v_range2, v_catT, v_catL, i_1, ev_run, ev_end1, ev_end2, ev_end3, ev_vN, ev_vC, ev_sU, ev_sD, ev_sO, ev_fN, ev_fC, ev_zU, ev_zD, ev_zO, fl1, fl2, fl3, fl4, fl5, sg0, sg1, se0, se1, List.map_cons, List.map_nil, List.length_cons, List.length_nil, List.cons_append, List.nil_append, List.append_nil, List.set_cons_zero, List.set_cons_succ, List.getElem?_cons_zero, List.getElem?_cons_succ, List.getElem?_nil, List.any_cons, List.any_nil, R.hard_ok, noLst, noLsts, t_N1, t_N2, t_N3, t_N4, t_N5, t_N6, isInt, isBool, isStr, isTup, isLst, gam0, List.replicate, wipeE, if_true, if_false, Bool.false_eq_true, Bool.true_eq_false, Bool.not_true, Bool.not_false, Bool.true_or, Bool.false_or, Bool.or_true, Bool.or_false, Bool.true_and, Bool.false_and, Bool.and_true, Bool.and_false, Bool.and_self, Bool.or_self, decide_true, decide_false, Nat.reduceBEq, Nat.reduceAdd, Nat.reduceSub, Nat.reduceLT, Int.reduceLT, Int.reduceLE, Int.reduceNeg, Int.reduceAdd, Int.reduceSub, Int.reduceMul, Nat.reduceEqDiff, Int.reduceEq, Nat.reduceLeDiff, ↓reduceIte, List.isEmpty_cons, s_want_weights (.inl rfl) hw h2 h3, el, v_range1 hz, e2, e1, Option.getD_none]
/-! ### no two alike iff nothing divides both -/
theorem nt {w : Int} {n : Nat} (hn : 2 ≤ n) : (∃ a b : Nat, a < n ∧ b < n ∧ (a : Int) ≠ b ∧ (w * ((a : Int) - b)) % n = 0) ↔ ∃ k : Int, 2 ≤ k ∧ k ≤ n ∧ w % k = 0 ∧ (n : Int) % k = 0 := by
  constructor
  · rintro ⟨a, b, ha, hb, hne, hd⟩
    have hd := Int.dvd_of_emod_eq_zero hd
    have hd2 : n ∣ w.natAbs * ((a : Int) - b).natAbs := by
      rw [← Int.natAbs_mul, ← Int.natAbs_natCast n]
      exact Int.natAbs_dvd_natAbs.mpr hd
    have g1 : Nat.gcd n w.natAbs ≠ 1 := fun g => by
      have := Nat.Coprime.dvd_of_dvd_mul_left (show n.Coprime w.natAbs from g) hd2
      have := Nat.eq_zero_of_dvd_of_lt this (by omega)
      omega
    have g0 : Nat.gcd n w.natAbs ≠ 0 := fun g => by
      have := Nat.eq_zero_of_gcd_eq_zero_left g
      omega
    refine ⟨(Nat.gcd n w.natAbs : Nat), by omega, ?_, ?_, ?_⟩
    · have := Nat.le_of_dvd (by omega) (Nat.gcd_dvd_left n w.natAbs)
      omega
    · exact Int.emod_eq_zero_of_dvd (Int.natAbs_dvd_natAbs.mp (by rw [Int.natAbs_natCast]; exact Nat.gcd_dvd_right n w.natAbs))
    · exact Int.emod_eq_zero_of_dvd (Int.natCast_dvd_natCast.mpr (Nat.gcd_dvd_left n w.natAbs))
  · rintro ⟨k, hk, hkn, hw, hn'⟩
    obtain ⟨c, hc⟩ := Int.dvd_of_emod_eq_zero hw
    obtain ⟨e, he⟩ := Int.dvd_of_emod_eq_zero hn'
    have he0 : 0 < e := by
      rcases Int.lt_or_le 0 e with h | h
      · exact h
      · have := Int.mul_le_mul_of_nonneg_left h (show 0 ≤ k by omega)
        rw [Int.mul_zero] at this
        omega
    refine ⟨e.toNat, 0, ?_, by omega, by omega, ?_⟩
    · have : e * 2 ≤ e * k := Int.mul_le_mul_of_nonneg_left hk (by omega)
      have : e * k = n := by rw [he, Int.mul_comm]
      omega
    · have : ((e.toNat : Nat) : Int) = e := by omega
      rw [this, hc]
      refine Int.emod_eq_zero_of_dvd ⟨c, ?_⟩
      rw [he]
      show k * c * (e - 0) = k * e * c
      rw [Int.sub_zero, Int.mul_assoc, Int.mul_comm c e, ← Int.mul_assoc]
/-- nothing but 1 divides both -/
def cop (w : Int) (n : Nat) : Bool := (List.range (n - 1)).all fun i => !(decide (w % ((2 : Int) + (i : Nat)) = 0) && decide ((n : Int) % ((2 : Int) + (i : Nat)) = 0))
theorem cop_iff {w : Int} {n : Nat} (hn : 2 ≤ n) : cop w n = true ↔ ¬ ∃ k : Int, 2 ≤ k ∧ k ≤ n ∧ w % k = 0 ∧ (n : Int) % k = 0 := by
  unfold cop
  rw [List.all_eq_true]
  constructor
  · rintro h ⟨k, h1, h2, h3, h4⟩
    have := h (k - 2).toNat (List.mem_range.mpr (by omega))
    have e : (2 : Int) + ((k - 2).toNat : Nat) = k := by omega
    rw [e, h3, h4] at this
    exact absurd this (by decide)
  · intro h i hi
    have hi := List.mem_range.mp hi
    rw [Bool.not_eq_true', Bool.and_eq_false_iff, decide_eq_false_iff_not, decide_eq_false_iff_not]
    by_cases c : w % ((2 : Int) + (i : Nat)) = 0
    · exact .inr fun d => h ⟨_, by omega, by omega, c, d⟩
    · exact .inl c
theorem s_law_divides {w : Int} {n : Nat} (h2 : 2 ≤ n) (h3 : n ≤ 31) : S__law_divides [.int w, .int (n : Int)] = .ok (.bool (cop w n)) := by
  have er : rangeD [.int 2, .int ((n : Int) + 1)] = .ok (rng 2 (n - 1)) := by
    rw [v_range2 (by omega) (by omega) (by omega) (by omega)]
    congr 2
    omega
  have hq : ∀ ε : RB.Env, ε = [some (.int w), some (.int (n : Int)), none] → compL (.nm 2) (andT (testE (op2E eqD (op2E modD (callE (on1 intG) [var 0]) (var 2)) (con (.int 0)))) (testE (op2E eqD (op2E modD (callE (on1 intG) [var 1]) (var 2)) (con (.int 0))))) (var 2) ε (rng 2 (n - 1)) = .ok ((rng 2 (n - 1)).filterMap fun d => match d with
      | .int k => if w % k = 0 ∧ (n : Int) % k = 0 then some (.int k) else none
      | _ => none) := fun ε eε => by
    refine compL_eq _ _ fun d hd => ?_
    obtain ⟨i, hi, rfl⟩ := rng_mem hd
    subst eε
    refine ⟨_, rfl, ?_⟩
    have hp : (0 : Int) < 2 + (i : Nat) := by omega
    by_cases c1 : w % ((2 : Int) + (i : Nat)) = 0
    · by_cases c2 : (n : Int) % ((2 : Int) + (i : Nat)) = 0
      · refine .inl ⟨?_, _, ?_, if_pos ⟨c1, c2⟩⟩
        · simp only [view, freeze, ev_seq, ev_seq1, ev_seq2, ev_seq3, ev_seq4, ev_seq5, ev_ret, ev_ret1, ev_ret2, ev_retN, ev_nil, ev_bk, ev_ct, ev_if, ev_ifT, ev_ifF, ev_ifX, ev_set, ev_set0, ev_set1, ev_set3, ev_drop, ev_drop1, ev_drop2, ev_own, ev_own0, ev_own1, ev_unp, ev_unp1, ev_unp2, ev_unp3, ev_app, ev_app0, ev_app1, ev_app2, ev_put, ev_put1, ev_put2, ev_aug, ev_aug1, ev_aug2, ev_for, ev_for0, ev_forN, ev_con, ev_var, ev_var1, ev_op2, ev_op2k, ev_op1, ev_op1k, ev_nilL, ev_consL, ev_consk, ev_tup, ev_tupk, ev_dat, ev_datk, ev_call, ev_callk, ev_callF, ev_callFk, ev_usr, ev_usrk, ev_usr0, ev_test, ev_testk, ev_b, ev_bk1, ev_isN, ev_isNk, ev_notN, ev_notNk, ev_andT, ev_andT1, ev_andT0, ev_orT, ev_orT1, ev_orT0, ev_notT, ev_notTk, ev_andE, ev_andE1, ev_andE0, ev_orE, ev_orE1, ev_orE0, ev_notE, ev_notEk, ev_ifE, ev_ifE1, ev_ifE0, ev_ch, ev_ch0, ev_ch1, ev_ch2, ev_isi, ev_isi1, ev_isi2, ev_isi3, ev_isi4, ev_isi5, ev_isi6, ev_sl, ev_slk, ev_slL, ev_slT, ev_slS, ev_par0, ev_par, ev_park, ev_seqE, ev_seqEL, ev_seqET, ev_seqES, ev_rg, ev_rgk, ev_en, ev_enL, ev_enT, ev_enS, ev_zi, ev_ziLL, ev_ziTT, ev_ziLT, ev_ziTL, ev_ziSS, ev_comp, ev_compk, v_add, v_sub, v_neg, v_eq, v_ne, v_lt, v_le, v_gt, v_ge, v_mulL, v_mulR, v_p9, v_p18, v_mod, v_div, v_int, v_lenL, v_lenT, v_lenS, v_tupL, v_tupT, v_itL, v_itT, v_ixL, v_ixT, v_sum, v_all, v_any, v_range1, v_range2, v_catT, v_catL, i_1, ev_run, ev_end1, ev_end2, ev_end3, ev_vN, ev_vC, ev_sU, ev_sD, ev_sO, ev_fN, ev_fC, ev_zU, ev_zD, ev_zO, fl1, fl2, fl3, fl4, fl5, sg0, sg1, se0, se1, List.map_cons, List.map_nil, List.length_cons, List.length_nil, List.cons_append, List.nil_append, List.append_nil, List.set_cons_zero, List.set_cons_succ, List.getElem?_cons_zero, List.getElem?_cons_succ, List.getElem?_nil, List.any_cons, List.any_nil, R.hard_ok, noLst, noLsts, t_N1, t_N2, t_N3, t_N4, t_N5, t_N6, isInt, isBool, isStr, isTup, isLst, gam0, List.replicate, wipeE, if_true, if_false, Bool.false_eq_true, Bool.true_eq_false, Bool.not_true, Bool.not_false, Bool.true_or, Bool.false_or, Bool.or_true, Bool.or_false, Bool.true_and, Bool.false_and, Bool.and_true, Bool.and_false, Bool.and_self, Bool.or_self, decide_true, decide_false, Nat.reduceBEq, Nat.reduceAdd, Nat.reduceSub, Nat.reduceLT, Int.reduceLT, Int.reduceLE, Int.reduceNeg, Int.reduceAdd, Int.reduceSub, Int.reduceMul, Nat.reduceEqDiff, Int.reduceEq, Nat.reduceLeDiff, ↓reduceIte, List.isEmpty_cons, v_mod hp, c1, c2]
        · simp only [view, freeze, ev_seq, ev_seq1, ev_seq2, ev_seq3, ev_seq4, ev_seq5, ev_ret, ev_ret1, ev_ret2, ev_retN, ev_nil, ev_bk, ev_ct, ev_if, ev_ifT, ev_ifF, ev_ifX, ev_set, ev_set0, ev_set1, ev_set3, ev_drop, ev_drop1, ev_drop2, ev_own, ev_own0, ev_own1, ev_unp, ev_unp1, ev_unp2, ev_unp3, ev_app, ev_app0, ev_app1, ev_app2, ev_put, ev_put1, ev_put2, ev_aug, ev_aug1, ev_aug2, ev_for, ev_for0, ev_forN, ev_con, ev_var, ev_var1, ev_op2, ev_op2k, ev_op1, ev_op1k, ev_nilL, ev_consL, ev_consk, ev_tup, ev_tupk, ev_dat, ev_datk, ev_call, ev_callk, ev_callF, ev_callFk, ev_usr, ev_usrk, ev_usr0, ev_test, ev_testk, ev_b, ev_bk1, ev_isN, ev_isNk, ev_notN, ev_notNk, ev_andT, ev_andT1, ev_andT0, ev_orT, ev_orT1, ev_orT0, ev_notT, ev_notTk, ev_andE, ev_andE1, ev_andE0, ev_orE, ev_orE1, ev_orE0, ev_notE, ev_notEk, ev_ifE, ev_ifE1, ev_ifE0, ev_ch, ev_ch0, ev_ch1, ev_ch2, ev_isi, ev_isi1, ev_isi2, ev_isi3, ev_isi4, ev_isi5, ev_isi6, ev_sl, ev_slk, ev_slL, ev_slT, ev_slS, ev_par0, ev_par, ev_park, ev_seqE, ev_seqEL, ev_seqET, ev_seqES, ev_rg, ev_rgk, ev_en, ev_enL, ev_enT, ev_enS, ev_zi, ev_ziLL, ev_ziTT, ev_ziLT, ev_ziTL, ev_ziSS, ev_comp, ev_compk, v_add, v_sub, v_neg, v_eq, v_ne, v_lt, v_le, v_gt, v_ge, v_mulL, v_mulR, v_p9, v_p18, v_mod, v_div, v_int, v_lenL, v_lenT, v_lenS, v_tupL, v_tupT, v_itL, v_itT, v_ixL, v_ixT, v_sum, v_all, v_any, v_range1, v_range2, v_catT, v_catL, i_1, ev_run, ev_end1, ev_end2, ev_end3, ev_vN, ev_vC, ev_sU, ev_sD, ev_sO, ev_fN, ev_fC, ev_zU, ev_zD, ev_zO, fl1, fl2, fl3, fl4, fl5, sg0, sg1, se0, se1, List.map_cons, List.map_nil, List.length_cons, List.length_nil, List.cons_append, List.nil_append, List.append_nil, List.set_cons_zero, List.set_cons_succ, List.getElem?_cons_zero, List.getElem?_cons_succ, List.getElem?_nil, List.any_cons, List.any_nil, R.hard_ok, noLst, noLsts, t_N1, t_N2, t_N3, t_N4, t_N5, t_N6, isInt, isBool, isStr, isTup, isLst, gam0, List.replicate, wipeE, if_true, if_false, Bool.false_eq_true, Bool.true_eq_false, Bool.not_true, Bool.not_false, Bool.true_or, Bool.false_or, Bool.or_true, Bool.or_false, Bool.true_and, Bool.false_and, Bool.and_true, Bool.and_false, Bool.and_self, Bool.or_self, decide_true, decide_false, Nat.reduceBEq, Nat.reduceAdd, Nat.reduceSub, Nat.reduceLT, Int.reduceLT, Int.reduceLE, Int.reduceNeg, Int.reduceAdd, Int.reduceSub, Int.reduceMul, Nat.reduceEqDiff, Int.reduceEq, Nat.reduceLeDiff, ↓reduceIte, List.isEmpty_cons]
      · refine .inr ⟨?_, if_neg fun z => c2 z.2⟩
        simp only [view, freeze, ev_seq, ev_seq1, ev_seq2, ev_seq3, ev_seq4, ev_seq5, ev_ret, ev_ret1, ev_ret2, ev_retN, ev_nil, ev_bk, ev_ct, ev_if, ev_ifT, ev_ifF, ev_ifX, ev_set, ev_set0, ev_set1, ev_set3, ev_drop, ev_drop1, ev_drop2, ev_own, ev_own0, ev_own1, ev_unp, ev_unp1, ev_unp2, ev_unp3, ev_app, ev_app0, ev_app1, ev_app2, ev_put, ev_put1, ev_put2, ev_aug, ev_aug1, ev_aug2, ev_for, ev_for0, ev_forN, ev_con, ev_var, ev_var1, ev_op2, ev_op2k, ev_op1, ev_op1k, ev_nilL, ev_consL, ev_consk, ev_tup, ev_tupk, ev_dat, ev_datk, ev_call, ev_callk, ev_callF, ev_callFk, ev_usr, ev_usrk, ev_usr0, ev_test, ev_testk, ev_b, ev_bk1, ev_isN, ev_isNk, ev_notN, ev_notNk, ev_andT, ev_andT1, ev_andT0, ev_orT, ev_orT1, ev_orT0, ev_notT, ev_notTk, ev_andE, ev_andE1, ev_andE0, ev_orE, ev_orE1, ev_orE0, ev_notE, ev_notEk, ev_ifE, ev_ifE1, ev_ifE0, ev_ch, ev_ch0, ev_ch1, ev_ch2, ev_isi, ev_isi1, ev_isi2, ev_isi3, ev_isi4, ev_isi5, ev_isi6, ev_sl, ev_slk, ev_slL, ev_slT, ev_slS, ev_par0, ev_par, ev_park, ev_seqE, ev_seqEL, ev_seqET, ev_seqES, ev_rg, ev_rgk, ev_en, ev_enL, ev_enT, ev_enS, ev_zi, ev_ziLL, ev_ziTT, ev_ziLT, ev_ziTL, ev_ziSS, ev_comp, ev_compk, v_add, v_sub, v_neg, v_eq, v_ne, v_lt, v_le, v_gt, v_ge, v_mulL, v_mulR, v_p9, v_p18, v_mod, v_div, v_int, v_lenL, v_lenT, v_lenS, v_tupL, v_tupT, v_itL, v_itT, v_ixL, v_ixT, v_sum, v_all, v_any, v_range1, v_range2, v_catT, v_catL, i_1, ev_run, ev_end1, ev_end2, ev_end3, ev_vN, ev_vC, ev_sU, ev_sD, ev_sO, ev_fN, ev_fC, ev_zU, ev_zD, ev_zO, fl1, fl2, fl3, fl4, fl5, sg0, sg1, se0, se1, List.map_cons, List.map_nil, List.length_cons, List.length_nil, List.cons_append, List.nil_append, List.append_nil, List.set_cons_zero, List.set_cons_succ, List.getElem?_cons_zero, List.getElem?_cons_succ, List.getElem?_nil, List.any_cons, List.any_nil, R.hard_ok, noLst, noLsts, t_N1, t_N2, t_N3, t_N4, t_N5, t_N6, isInt, isBool, isStr, isTup, isLst, gam0, List.replicate, wipeE, if_true, if_false, Bool.false_eq_true, Bool.true_eq_false, Bool.not_true, Bool.not_false, Bool.true_or, Bool.false_or, Bool.or_true, Bool.or_false, Bool.true_and, Bool.false_and, Bool.and_true, Bool.and_false, Bool.and_self, Bool.or_self, decide_true, decide_false, Nat.reduceBEq, Nat.reduceAdd, Nat.reduceSub, Nat.reduceLT, Int.reduceLT, Int.reduceLE, Int.reduceNeg, Int.reduceAdd, Int.reduceSub, Int.reduceMul, Nat.reduceEqDiff, Int.reduceEq, Nat.reduceLeDiff, ↓reduceIte, List.isEmpty_cons, v_mod hp, c1, c2]
    · refine .inr ⟨?_, if_neg fun z => c1 z.1⟩
      simp only [view, freeze, ev_seq, ev_seq1, ev_seq2, ev_seq3, ev_seq4, ev_seq5, ev_ret, ev_ret1, ev_ret2, ev_retN, ev_nil, ev_bk, ev_ct, ev_if, ev_ifT, ev_ifF, ev_ifX, ev_set, ev_set0, ev_set1, ev_set3, ev_drop, ev_drop1, ev_drop2, ev_own, ev_own0, ev_own1, ev_unp, ev_unp1, ev_unp2, ev_unp3, ev_app, ev_app0, ev_app1, ev_app2, ev_put, ev_put1, ev_put2, ev_aug, ev_aug1, ev_aug2, ev_for, ev_for0, ev_forN, ev_con, ev_var, ev_var1, ev_op2, ev_op2k, ev_op1, ev_op1k, ev_nilL, ev_consL, ev_consk, ev_tup, ev_tupk, ev_dat, ev_datk, ev_call, ev_callk, ev_callF, ev_callFk, ev_usr, ev_usrk, ev_usr0, ev_test, ev_testk, ev_b, ev_bk1, ev_isN, ev_isNk, ev_notN, ev_notNk, ev_andT, ev_andT1, ev_andT0, ev_orT, ev_orT1, ev_orT0, ev_notT, ev_notTk, ev_andE, ev_andE1, ev_andE0, ev_orE, ev_orE1, ev_orE0, ev_notE, ev_notEk, ev_ifE, ev_ifE1, ev_ifE0, ev_ch, ev_ch0, ev_ch1, ev_ch2, ev_isi, ev_isi1, ev_isi2, ev_isi3, ev_isi4, ev_isi5, ev_isi6, ev_sl, ev_slk, ev_slL, ev_slT, ev_slS, ev_par0, ev_par, ev_park, ev_seqE, ev_seqEL, ev_seqET, ev_seqES, ev_rg, ev_rgk, ev_en, ev_enL, ev_enT, ev_enS, ev_zi, ev_ziLL, ev_ziTT, ev_ziLT, ev_ziTL, ev_ziSS, ev_comp, ev_compk, v_add, v_sub, v_neg, v_eq, v_ne, v_lt, v_le, v_gt, v_ge, v_mulL, v_mulR, v_p9, v_p18, v_mod, v_div, v_int, v_lenL, v_lenT, v_lenS, v_tupL, v_tupT, v_itL, v_itT, v_ixL, v_ixT, v_sum, v_all, v_any, v_range1, v_range2, v_catT, v_catL, i_1, ev_run, ev_end1, ev_end2, ev_end3, ev_vN, ev_vC, ev_sU, ev_sD, ev_sO, ev_fN, ev_fC, ev_zU, ev_zD, ev_zO, fl1, fl2, fl3, fl4, fl5, sg0, sg1, se0, se1, List.map_cons, List.map_nil, List.length_cons, List.length_nil, List.cons_append, List.nil_append, List.append_nil, List.set_cons_zero, List.set_cons_succ, List.getElem?_cons_zero, List.getElem?_cons_succ, List.getElem?_nil, List.any_cons, List.any_nil, R.hard_ok, noLst, noLsts, t_N1, t_N2, t_N3, t_N4, t_N5, t_N6, isInt, isBool, isStr, isTup, isLst, gam0, List.replicate, wipeE, if_true, if_false, Bool.false_eq_true, Bool.true_eq_false, Bool.not_true, Bool.not_false, Bool.true_or, Bool.false_or, Bool.or_true, Bool.or_false, Bool.true_and, Bool.false_and, Bool.and_true, Bool.and_false, Bool.and_self, Bool.or_self, decide_true, decide_false, Nat.reduceBEq, Nat.reduceAdd, Nat.reduceSub, Nat.reduceLT, Int.reduceLT, Int.reduceLE, Int.reduceNeg, Int.reduceAdd, Int.reduceSub, Int.reduceMul, Nat.reduceEqDiff, Int.reduceEq, Nat.reduceLeDiff, ↓reduceIte, List.isEmpty_cons, v_mod hp, c1]
  simp only [S__law_divides, g__law_divides, view, freeze, ev_seq, ev_seq1, ev_seq2, ev_seq3, ev_seq4, ev_seq5, ev_ret, ev_ret1, ev_ret2, ev_retN, ev_nil, ev_bk, ev_ct, ev_if, ev_ifT, ev_ifF, ev_ifX, ev_set, ev_set0, ev_set1, ev_set3, ev_drop, ev_drop1, ev_drop2, ev_own, ev_own0, ev_own1, ev_unp, ev_unp1, ev_unp2, ev_unp3, ev_app, ev_app0, ev_app1, ev_app2, ev_put, ev_put1, ev_put2, ev_aug, ev_aug1, ev_aug2, ev_for, ev_for0, ev_forN, ev_con, ev_var, ev_var1, ev_op2, ev_op2k, ev_op1, ev_op1k, ev_nilL, ev_consL, ev_consk, ev_tup, ev_tupk, ev_dat, ev_datk, ev_call, ev_callk, ev_callF, ev_callFk, ev_usr, ev_usrk, ev_usr0, ev_test, ev_testk, ev_b, ev_bk1, ev_isN, ev_isNk, ev_notN, ev_notNk, ev_andT, ev_andT1, ev_andT0, ev_orT, ev_orT1, ev_orT0, ev_notT, ev_notTk, ev_andE, ev_andE1, ev_andE0, ev_orE, ev_orE1, ev_orE0, ev_notE, ev_notEk, ev_ifE, ev_ifE1, ev_ifE0, ev_ch, ev_ch0, ev_ch1, ev_ch2, ev_isi, ev_isi1, ev_isi2, ev_isi3, ev_isi4, ev_isi5, ev_isi6, ev_sl, ev_slk, ev_slL, ev_slT, ev_slS, ev_par0, ev_par, ev_park, ev_seqE, ev_seqEL, ev_seqET, ev_seqES, ev_rg, ev_rgk, ev_en, ev_enL, ev_enT, ev_enS, ev_zi, ev_ziLL, ev_ziTT, ev_ziLT, ev_ziTL, ev_ziSS, ev_comp, ev_compk, v_add, v_sub, v_neg, v_eq, v_ne, v_lt, v_le, v_gt, v_ge, v_mulL, v_mulR, v_p9, v_p18, v_mod, v_div, v_int, v_lenL, v_lenT, v_lenS, v_tupL, v_tupT, v_itL, v_itT, v_ixL, v_ixT, v_sum, v_all, v_any, v_range1, v_range2, v_catT, v_catL, i_1, ev_run, ev_end1, ev_end2, ev_end3, ev_vN, ev_vC, ev_sU, ev_sD, ev_sO, ev_fN, ev_fC, ev_zU, ev_zD, ev_zO, fl1, fl2, fl3, fl4, fl5, sg0, sg1, se0, se1, List.map_cons, List.map_nil, List.length_cons, List.length_nil, List.cons_append, List.nil_append, List.append_nil, List.set_cons_zero, List.set_cons_succ, List.getElem?_cons_zero, List.getElem?_cons_succ, List.getElem?_nil, List.any_cons, List.any_nil, R.hard_ok, noLst, noLsts, t_N1, t_N2, t_N3, t_N4, t_N5, t_N6, isInt, isBool, isStr, isTup, isLst, gam0, List.replicate, wipeE, if_true, if_false, Bool.false_eq_true, Bool.true_eq_false, Bool.not_true, Bool.not_false, Bool.true_or, Bool.false_or, Bool.or_true, Bool.or_false, Bool.true_and, Bool.false_and, Bool.and_true, Bool.and_false, Bool.and_self, Bool.or_self, decide_true, decide_false, Nat.reduceBEq, Nat.reduceAdd, Nat.reduceSub, Nat.reduceLT, Int.reduceLT, Int.reduceLE, Int.reduceNeg, Int.reduceAdd, Int.reduceSub, Int.reduceMul, Nat.reduceEqDiff, Int.reduceEq, Nat.reduceLeDiff, ↓reduceIte, List.isEmpty_cons, er, hq _ rfl]
  rw [v_eqNil]
  · simp only [view, freeze, ev_seq, ev_seq1, ev_seq2, ev_seq3, ev_seq4, ev_seq5, ev_ret, ev_ret1, ev_ret2, ev_retN, ev_nil, ev_bk, ev_ct, ev_if, ev_ifT, ev_ifF, ev_ifX, ev_set, ev_set0, ev_set1, ev_set3, ev_drop, ev_drop1, ev_drop2, ev_own, ev_own0, ev_own1, ev_unp, ev_unp1, ev_unp2, ev_unp3, ev_app, ev_app0, ev_app1, ev_app2, ev_put, ev_put1, ev_put2, ev_aug, ev_aug1, ev_aug2, ev_for, ev_for0, ev_forN, ev_con, ev_var, ev_var1, ev_op2, ev_op2k, ev_op1, ev_op1k, ev_nilL, ev_consL, ev_consk, ev_tup, ev_tupk, ev_dat, ev_datk, ev_call, ev_callk, ev_callF, ev_callFk, ev_usr, ev_usrk, ev_usr0, ev_test, ev_testk, ev_b, ev_bk1, ev_isN, ev_isNk, ev_notN, ev_notNk, ev_andT, ev_andT1, ev_andT0, ev_orT, ev_orT1, ev_orT0, ev_notT, ev_notTk, ev_andE, ev_andE1, ev_andE0, ev_orE, ev_orE1, ev_orE0, ev_notE, ev_notEk, ev_ifE, ev_ifE1, ev_ifE0, ev_ch, ev_ch0, ev_ch1, ev_ch2, ev_isi, ev_isi1, ev_isi2, ev_isi3, ev_isi4, ev_isi5, ev_isi6, ev_sl, ev_slk, ev_slL, ev_slT, ev_slS, ev_par0, ev_par, ev_park, ev_seqE, ev_seqEL, ev_seqET, ev_seqES, ev_rg, ev_rgk, ev_en, ev_enL, ev_enT, ev_enS, ev_zi, ev_ziLL, ev_ziTT, ev_ziLT, ev_ziTL, ev_ziSS, ev_comp, ev_compk, v_add, v_sub, v_neg, v_eq, v_ne, v_lt, v_le, v_gt, v_ge, v_mulL, v_mulR, v_p9, v_p18, v_mod, v_div, v_int, v_lenL, v_lenT, v_lenS, v_tupL, v_tupT, v_itL, v_itT, v_ixL, v_ixT, v_sum, v_all, v_any, v_range1, v_range2, v_catT, v_catL, i_1, ev_run, ev_end1, ev_end2, ev_end3, ev_vN, ev_vC, ev_sU, ev_sD, ev_sO, ev_fN, ev_fC, ev_zU, ev_zD, ev_zO, fl1, fl2, fl3, fl4, fl5, sg0, sg1, se0, se1, List.map_cons, List.map_nil, List.length_cons, List.length_nil, List.cons_append, List.nil_append, List.append_nil, List.set_cons_zero, List.set_cons_succ, List.getElem?_cons_zero, List.getElem?_cons_succ, List.getElem?_nil, List.any_cons, List.any_nil, R.hard_ok, noLst, noLsts, t_N1, t_N2, t_N3, t_N4, t_N5, t_N6, isInt, isBool, isStr, isTup, isLst, gam0, List.replicate, wipeE, if_true, if_false, Bool.false_eq_true, Bool.true_eq_false, Bool.not_true, Bool.not_false, Bool.true_or, Bool.false_or, Bool.or_true, Bool.or_false, Bool.true_and, Bool.false_and, Bool.and_true, Bool.and_false, Bool.and_self, Bool.or_self, decide_true, decide_false, Nat.reduceBEq, Nat.reduceAdd, Nat.reduceSub, Nat.reduceLT, Int.reduceLT, Int.reduceLE, Int.reduceNeg, Int.reduceAdd, Int.reduceSub, Int.reduceMul, Nat.reduceEqDiff, Int.reduceEq, Nat.reduceLeDiff, ↓reduceIte, List.isEmpty_cons]
    congr 2
    rw [Bool.eq_iff_iff, List.isEmpty_iff, List.filterMap_eq_nil_iff, cop, List.all_eq_true]
    constructor
    · intro h i hi
      have := h (.int (2 + (i : Nat))) (List.mem_map.mpr ⟨i, hi, rfl⟩)
      by_cases c : w % ((2 : Int) + (i : Nat)) = 0 ∧ (n : Int) % ((2 : Int) + (i : Nat)) = 0
      · have this2 : (if w % ((2 : Int) + (i : Nat)) = 0 ∧ (n : Int) % ((2 : Int) + (i : Nat)) = 0 then some (PyData.int ((2 : Int) + (i : Nat))) else none) = none := this
        rw [if_pos c] at this2; cases this2
      · rw [Bool.not_eq_true', Bool.and_eq_false_iff, decide_eq_false_iff_not, decide_eq_false_iff_not]
        by_cases c1 : w % ((2 : Int) + (i : Nat)) = 0
        · exact .inr fun c2 => c ⟨c1, c2⟩
        · exact .inl c1
    · intro h d hd
      obtain ⟨i, hi, rfl⟩ := rng_mem hd
      have := h i (List.mem_range.mpr hi)
      rw [Bool.not_eq_true', Bool.and_eq_false_iff, decide_eq_false_iff_not, decide_eq_false_iff_not] at this
      exact if_neg fun z => this.elim (fun q => q z.1) fun q => q z.2
  · intro x hx
    obtain ⟨d, hd, e⟩ := List.mem_filterMap.mp hx
    obtain ⟨i, hi, rfl⟩ := rng_mem hd
    have e2 : (if w % ((2 : Int) + (i : Nat)) = 0 ∧ (n : Int) % ((2 : Int) + (i : Nat)) = 0 then some (PyData.int ((2 : Int) + (i : Nat))) else none) = some x := e
    by_cases c : w % ((2 : Int) + (i : Nat)) = 0 ∧ (n : Int) % ((2 : Int) + (i : Nat)) = 0
    · rw [if_pos c] at e2; cases e2; exact ⟨rfl, Nat.zero_le _⟩
    · rw [if_neg c] at e2; cases e2
end K55

set_option Elab.async false
set_option linter.all false
set_option maxRecDepth 100000
set_option maxHeartbeats 4000000
namespace K55
open PySem RB Lib
def hitB (f : Int) (n p a b : Nat) : Option D := if (a : Int) ≠ (b : Nat) ∧ (f * ((a : Int) - (b : Nat))) % (n : Int) = 0 then some (trip p a b) else none
def hitC (l : Nat) (f : Int) (n p a b : Nat) : Option D := if p + 1 < l then hitB f n p a b else none
theorem hitA_eq (f : Int) (n p a : Nat) : hitA f n p a = (List.range n).filterMap (hitB f n p a) := rfl
section
variable (sc nm : D) (n : Nat) (ws : List Int) (s4 s5 s6 : Sl)
def Gm (cs ss : List D) (s9 s10 s11 : Sl) : Gam := [.da sc, .da nm, .da (.int (n : Int)), .da (.tuple (ws.map .int)), s4, s5, s6, .ol cs, .ol ss, s9, s10, s11, .un, .un, .un]
def wf (ws : List Int) (p : Nat) : Int := ws.getD p 0
def wg (ws : List Int) (p : Nat) : Int := ws.getD p 0 - ws.getD (p + 1) 0
theorem fm_succ (h : Nat → Option D) (b : Nat) : (List.range (b + 1)).filterMap h = (List.range b).filterMap h ++ (match h b with | some d => [d] | none => []) := by
  rw [List.range_succ, List.filterMap_append]
  congr 1
  cases e : h b with
  | none => rw [List.filterMap_cons, e]; rfl
  | some d => rw [List.filterMap_cons, e]; rfl
theorem law_b (hw : W ws) (h2 : 2 ≤ n) (h3 : n ≤ 31) {p a : Nat} (hp : p < ws.length) (cs ss : List D) (h7 : cs.length ≤ 1000000) (h8 : ss.length ≤ 1000000) (s11 : Sl) :
    ∃ s11', forL (.nm 11) b_law_2 (rng 0 n) (Gm sc nm n ws s4 s5 s6 cs ss (.da (.int (p : Int))) (.da (.int (a : Int))) s11) = .ok (.nx (Gm sc nm n ws s4 s5 s6 (cs ++ (List.range n).filterMap (hitB (wf ws p) n p a)) (ss ++ (List.range n).filterMap (hitC ws.length (wg ws p) n p a)) (.da (.int (p : Int))) (.da (.int (a : Int))) s11')) := by
  have lf : ∀ (h : Nat → Option D) (b : Nat), ((List.range b).filterMap h).length ≤ b := fun h b => by
    have := List.length_filterMap_le h (List.range b)
    rwa [List.length_range] at this
  obtain ⟨Γ', e, s11', rfl⟩ := forR_inv (i := 11) (body := b_law_2) n (fun b Γ => ∃ s11', Γ = Gm sc nm n ws s4 s5 s6 (cs ++ (List.range b).filterMap (hitB (wf ws p) n p a)) (ss ++ (List.range b).filterMap (hitC ws.length (wg ws p) n p a)) (.da (.int (p : Int))) (.da (.int (a : Int))) s11')
    (Gm sc nm n ws s4 s5 s6 cs ss (.da (.int (p : Int))) (.da (.int (a : Int))) s11) ⟨s11, by simp⟩ fun b hb Γ ⟨s11', eΓ⟩ => by
      subst eΓ
      have x7 : (cs ++ (List.range b).filterMap (hitB (wf ws p) n p a)).length < 16777216 := by rw [List.length_append]; have := lf (hitB (wf ws p) n p a) b; omega
      have x8 : (ss ++ (List.range b).filterMap (hitC ws.length (wg ws p) n p a)).length < 16777216 := by rw [List.length_append]; have := lf (hitC ws.length (wg ws p) n p a) b; omega
      obtain ⟨a1, a2⟩ := hw.2.2 _ (List.getElem_mem hp)
      have g0 : wf ws p = ws[p] := by unfold wf; rw [List.getD_eq_getElem?_getD, List.getElem?_eq_getElem hp]; rfl
      have y0 : (ws.map PyData.int)[p]? = some (.int ws[p]) := by rw [List.getElem?_map, List.getElem?_eq_getElem hp]; rfl
      have hn' : (0 : Int) < (n : Int) := by omega
      have ec : ((p : Int) + 1) = ((p + 1 : Nat) : Int) := by omega
      have m0 := fun j => v_mulL (i := ws[p]) (j := j) (by omega) (by omega)
      rw [fm_succ, fm_succ]
      by_cases hne : (a : Int) = (b : Nat)
      · have q1 : hitB (wf ws p) n p a b = none := if_neg fun z => z.1 hne
        have q2 : hitC ws.length (wg ws p) n p a b = none := by unfold hitC; split; exact if_neg fun z => z.1 hne; rfl
        simp only [b_law_2, Gm, view, freeze, ev_seq, ev_seq1, ev_seq2, ev_seq3, ev_seq4, ev_seq5, ev_ret, ev_ret1, ev_ret2, ev_retN, ev_nil, ev_bk, ev_ct, ev_if, ev_ifT, ev_ifF, ev_ifX, ev_set, ev_set0, ev_set1, ev_set3, ev_drop, ev_drop1, ev_drop2, ev_own, ev_own0, ev_own1, ev_unp, ev_unp1, ev_unp2, ev_unp3, ev_app, ev_app0, ev_app1, ev_app2, ev_put, ev_put1, ev_put2, ev_aug, ev_aug1, ev_aug2, ev_for, ev_for0, ev_forN, ev_con, ev_var, ev_var1, ev_op2, ev_op2k, ev_op1, ev_op1k, ev_nilL, ev_consL, ev_consk, ev_tup, ev_tupk, ev_dat, ev_datk, ev_call, ev_callk, ev_callF, ev_callFk, ev_usr, ev_usrk, ev_usr0, ev_test, ev_testk, ev_b, ev_bk1, ev_isN, ev_isNk, ev_notN, ev_notNk, ev_andT, ev_andT1, ev_andT0, ev_orT, ev_orT1, ev_orT0, ev_notT, ev_notTk, ev_andE, ev_andE1, ev_andE0, ev_orE, ev_orE1, ev_orE0, ev_notE, ev_notEk, ev_ifE, ev_ifE1, ev_ifE0, ev_ch, ev_ch0, ev_ch1, ev_ch2, ev_isi, ev_isi1, ev_isi2, ev_isi3, ev_isi4, ev_isi5, ev_isi6, ev_sl, ev_slk, ev_slL, ev_slT, ev_slS, ev_par0, ev_par, ev_park, ev_seqE, ev_seqEL, ev_seqET, ev_seqES, ev_rg, ev_rgk, ev_en, ev_enL, ev_enT, ev_enS, ev_zi, ev_ziLL, ev_ziTT, ev_ziLT, ev_ziTL, ev_ziSS, ev_comp, ev_compk, v_add, v_sub, v_neg, v_eq, v_ne, v_lt, v_le, v_gt, v_ge, v_mulL, v_mulR, v_p9, v_p18, v_mod, v_div, v_int, v_lenL, v_lenT, v_lenS, v_tupL, v_tupT, v_itL, v_itT, v_ixL, v_ixT, v_sum, v_all, v_any, v_range1, v_range2, v_catT, v_catL, i_1, ev_run, ev_end1, ev_end2, ev_end3, ev_vN, ev_vC, ev_sU, ev_sD, ev_sO, ev_fN, ev_fC, ev_zU, ev_zD, ev_zO, fl1, fl2, fl3, fl4, fl5, sg0, sg1, se0, se1, List.map_cons, List.map_nil, List.length_cons, List.length_nil, List.cons_append, List.nil_append, List.append_nil, List.set_cons_zero, List.set_cons_succ, List.getElem?_cons_zero, List.getElem?_cons_succ, List.getElem?_nil, List.any_cons, List.any_nil, R.hard_ok, noLst, noLsts, t_N1, t_N2, t_N3, t_N4, t_N5, t_N6, isInt, isBool, isStr, isTup, isLst, gam0, List.replicate, wipeE, if_true, if_false, Bool.false_eq_true, Bool.true_eq_false, Bool.not_true, Bool.not_false, Bool.true_or, Bool.false_or, Bool.or_true, Bool.or_false, Bool.true_and, Bool.false_and, Bool.and_true, Bool.and_false, Bool.and_self, Bool.or_self, decide_true, decide_false, Nat.reduceBEq, Nat.reduceAdd, Nat.reduceSub, Nat.reduceLT, Int.reduceLT, Int.reduceLE, Int.reduceNeg, Int.reduceAdd, Int.reduceSub, Int.reduceMul, Nat.reduceEqDiff, Int.reduceEq, Nat.reduceLeDiff, ↓reduceIte, List.isEmpty_cons, hne, q1, q2, R.ok.injEq, Fl.nx.injEq, Fl.rt.injEq, exists_eq_left', exists_eq_left]
        exact ⟨_, rfl⟩
      · have tail : ∀ cs', ∃ s11'', (ifS [] (andT (testE (op2E ltD (op2E addD (var 9) (con (.int 1))) (callE lenG [var 3]))) (testE (op2E eqD (op2E modD (callE (on1 intG) [op2E mulD (op2E subD (op2E ixD (var 3) (var 9)) (op2E ixD (var 3) (op2E addD (var 9) (con (.int 1))))) (op2E subD (var 10) (var 11))]) (var 2)) (con (.int 0)))))
            (appS [] 8 (tupE [var 9, var 10, var 11])) nilS) (Gm sc nm n ws s4 s5 s6 cs' (ss ++ (List.range b).filterMap (hitC ws.length (wg ws p) n p a)) (.da (.int (p : Int))) (.da (.int (a : Int))) (.da (.int (b : Int)))) =
            .ok (.nx (Gm sc nm n ws s4 s5 s6 cs' (ss ++ (List.range b).filterMap (hitC ws.length (wg ws p) n p a) ++ (match hitC ws.length (wg ws p) n p a b with | some d => [d] | none => [])) (.da (.int (p : Int))) (.da (.int (a : Int))) s11'')) := fun cs' => by
          by_cases hl : p + 1 < ws.length
          · have hl' : ((p + 1 : Nat) : Int) < ((ws.map PyData.int).length : Int) := by rw [List.length_map]; omega
            obtain ⟨b1, b2⟩ := hw.2.2 _ (List.getElem_mem hl)
            have g1 : wg ws p = ws[p] - ws[p + 1] := by unfold wg; rw [List.getD_eq_getElem?_getD, List.getD_eq_getElem?_getD, List.getElem?_eq_getElem hp, List.getElem?_eq_getElem hl]; rfl
            have y1 : (ws.map PyData.int)[p + 1]? = some (.int ws[p + 1]) := by rw [List.getElem?_map, List.getElem?_eq_getElem hl]; rfl
            have m1 := fun j => v_mulL (i := ws[p] - ws[p + 1]) (j := j) (by omega) (by omega)
            by_cases hz : ((ws[p] - ws[p + 1]) * ((a : Int) - (b : Nat))) % (n : Int) = 0
            · have q2 : hitC ws.length (wg ws p) n p a b = some (trip p a b) := by unfold hitC; rw [if_pos hl, g1]; exact if_pos ⟨hne, hz⟩
              simp only [Gm, view, freeze, ev_seq, ev_seq1, ev_seq2, ev_seq3, ev_seq4, ev_seq5, ev_ret, ev_ret1, ev_ret2, ev_retN, ev_nil, ev_bk, ev_ct, ev_if, ev_ifT, ev_ifF, ev_ifX, ev_set, ev_set0, ev_set1, ev_set3, ev_drop, ev_drop1, ev_drop2, ev_own, ev_own0, ev_own1, ev_unp, ev_unp1, ev_unp2, ev_unp3, ev_app, ev_app0, ev_app1, ev_app2, ev_put, ev_put1, ev_put2, ev_aug, ev_aug1, ev_aug2, ev_for, ev_for0, ev_forN, ev_con, ev_var, ev_var1, ev_op2, ev_op2k, ev_op1, ev_op1k, ev_nilL, ev_consL, ev_consk, ev_tup, ev_tupk, ev_dat, ev_datk, ev_call, ev_callk, ev_callF, ev_callFk, ev_usr, ev_usrk, ev_usr0, ev_test, ev_testk, ev_b, ev_bk1, ev_isN, ev_isNk, ev_notN, ev_notNk, ev_andT, ev_andT1, ev_andT0, ev_orT, ev_orT1, ev_orT0, ev_notT, ev_notTk, ev_andE, ev_andE1, ev_andE0, ev_orE, ev_orE1, ev_orE0, ev_notE, ev_notEk, ev_ifE, ev_ifE1, ev_ifE0, ev_ch, ev_ch0, ev_ch1, ev_ch2, ev_isi, ev_isi1, ev_isi2, ev_isi3, ev_isi4, ev_isi5, ev_isi6, ev_sl, ev_slk, ev_slL, ev_slT, ev_slS, ev_par0, ev_par, ev_park, ev_seqE, ev_seqEL, ev_seqET, ev_seqES, ev_rg, ev_rgk, ev_en, ev_enL, ev_enT, ev_enS, ev_zi, ev_ziLL, ev_ziTT, ev_ziLT, ev_ziTL, ev_ziSS, ev_comp, ev_compk, v_add, v_sub, v_neg, v_eq, v_ne, v_lt, v_le, v_gt, v_ge, v_mulL, v_mulR, v_p9, v_p18, v_mod, v_div, v_int, v_lenL, v_lenT, v_lenS, v_tupL, v_tupT, v_itL, v_itT, v_ixL, v_ixT, v_sum, v_all, v_any, v_range1, v_range2, v_catT, v_catL, i_1, ev_run, ev_end1, ev_end2, ev_end3, ev_vN, ev_vC, ev_sU, ev_sD, ev_sO, ev_fN, ev_fC, ev_zU, ev_zD, ev_zO, fl1, fl2, fl3, fl4, fl5, sg0, sg1, se0, se1, List.map_cons, List.map_nil, List.length_cons, List.length_nil, List.cons_append, List.nil_append, List.append_nil, List.set_cons_zero, List.set_cons_succ, List.getElem?_cons_zero, List.getElem?_cons_succ, List.getElem?_nil, List.any_cons, List.any_nil, R.hard_ok, noLst, noLsts, t_N1, t_N2, t_N3, t_N4, t_N5, t_N6, isInt, isBool, isStr, isTup, isLst, gam0, List.replicate, wipeE, if_true, if_false, Bool.false_eq_true, Bool.true_eq_false, Bool.not_true, Bool.not_false, Bool.true_or, Bool.false_or, Bool.or_true, Bool.or_false, Bool.true_and, Bool.false_and, Bool.and_true, Bool.and_false, Bool.and_self, Bool.or_self, decide_true, decide_false, Nat.reduceBEq, Nat.reduceAdd, Nat.reduceSub, Nat.reduceLT, Int.reduceLT, Int.reduceLE, Int.reduceNeg, Int.reduceAdd, Int.reduceSub, Int.reduceMul, Nat.reduceEqDiff, Int.reduceEq, Nat.reduceLeDiff, ↓reduceIte, List.isEmpty_cons, ec, hl', v_ixT y0, v_ixT y1, m1, v_mod hn', hz, x8, q2]
              exact ⟨_, rfl⟩
            · have q2 : hitC ws.length (wg ws p) n p a b = none := by unfold hitC; rw [if_pos hl, g1]; exact if_neg fun z => hz z.2
              simp only [Gm, view, freeze, ev_seq, ev_seq1, ev_seq2, ev_seq3, ev_seq4, ev_seq5, ev_ret, ev_ret1, ev_ret2, ev_retN, ev_nil, ev_bk, ev_ct, ev_if, ev_ifT, ev_ifF, ev_ifX, ev_set, ev_set0, ev_set1, ev_set3, ev_drop, ev_drop1, ev_drop2, ev_own, ev_own0, ev_own1, ev_unp, ev_unp1, ev_unp2, ev_unp3, ev_app, ev_app0, ev_app1, ev_app2, ev_put, ev_put1, ev_put2, ev_aug, ev_aug1, ev_aug2, ev_for, ev_for0, ev_forN, ev_con, ev_var, ev_var1, ev_op2, ev_op2k, ev_op1, ev_op1k, ev_nilL, ev_consL, ev_consk, ev_tup, ev_tupk, ev_dat, ev_datk, ev_call, ev_callk, ev_callF, ev_callFk, ev_usr, ev_usrk, ev_usr0, ev_test, ev_testk, ev_b, ev_bk1, ev_isN, ev_isNk, ev_notN, ev_notNk, ev_andT, ev_andT1, ev_andT0, ev_orT, ev_orT1, ev_orT0, ev_notT, ev_notTk, ev_andE, ev_andE1, ev_andE0, ev_orE, ev_orE1, ev_orE0, ev_notE, ev_notEk, ev_ifE, ev_ifE1, ev_ifE0, ev_ch, ev_ch0, ev_ch1, ev_ch2, ev_isi, ev_isi1, ev_isi2, ev_isi3, ev_isi4, ev_isi5, ev_isi6, ev_sl, ev_slk, ev_slL, ev_slT, ev_slS, ev_par0, ev_par, ev_park, ev_seqE, ev_seqEL, ev_seqET, ev_seqES, ev_rg, ev_rgk, ev_en, ev_enL, ev_enT, ev_enS, ev_zi, ev_ziLL, ev_ziTT, ev_ziLT, ev_ziTL, ev_ziSS, ev_comp, ev_compk, v_add, v_sub, v_neg, v_eq, v_ne, v_lt, v_le, v_gt, v_ge, v_mulL, v_mulR, v_p9, v_p18, v_mod, v_div, v_int, v_lenL, v_lenT, v_lenS, v_tupL, v_tupT, v_itL, v_itT, v_ixL, v_ixT, v_sum, v_all, v_any, v_range1, v_range2, v_catT, v_catL, i_1, ev_run, ev_end1, ev_end2, ev_end3, ev_vN, ev_vC, ev_sU, ev_sD, ev_sO, ev_fN, ev_fC, ev_zU, ev_zD, ev_zO, fl1, fl2, fl3, fl4, fl5, sg0, sg1, se0, se1, List.map_cons, List.map_nil, List.length_cons, List.length_nil, List.cons_append, List.nil_append, List.append_nil, List.set_cons_zero, List.set_cons_succ, List.getElem?_cons_zero, List.getElem?_cons_succ, List.getElem?_nil, List.any_cons, List.any_nil, R.hard_ok, noLst, noLsts, t_N1, t_N2, t_N3, t_N4, t_N5, t_N6, isInt, isBool, isStr, isTup, isLst, gam0, List.replicate, wipeE, if_true, if_false, Bool.false_eq_true, Bool.true_eq_false, Bool.not_true, Bool.not_false, Bool.true_or, Bool.false_or, Bool.or_true, Bool.or_false, Bool.true_and, Bool.false_and, Bool.and_true, Bool.and_false, Bool.and_self, Bool.or_self, decide_true, decide_false, Nat.reduceBEq, Nat.reduceAdd, Nat.reduceSub, Nat.reduceLT, Int.reduceLT, Int.reduceLE, Int.reduceNeg, Int.reduceAdd, Int.reduceSub, Int.reduceMul, Nat.reduceEqDiff, Int.reduceEq, Nat.reduceLeDiff, ↓reduceIte, List.isEmpty_cons, ec, hl', v_ixT y0, v_ixT y1, m1, v_mod hn', hz, x8, q2]
              exact ⟨_, rfl⟩
          · have hl' : ¬ ((p + 1 : Nat) : Int) < ((ws.map PyData.int).length : Int) := by rw [List.length_map]; omega
            have q2 : hitC ws.length (wg ws p) n p a b = none := by unfold hitC; exact if_neg hl
            simp only [Gm, view, freeze, ev_seq, ev_seq1, ev_seq2, ev_seq3, ev_seq4, ev_seq5, ev_ret, ev_ret1, ev_ret2, ev_retN, ev_nil, ev_bk, ev_ct, ev_if, ev_ifT, ev_ifF, ev_ifX, ev_set, ev_set0, ev_set1, ev_set3, ev_drop, ev_drop1, ev_drop2, ev_own, ev_own0, ev_own1, ev_unp, ev_unp1, ev_unp2, ev_unp3, ev_app, ev_app0, ev_app1, ev_app2, ev_put, ev_put1, ev_put2, ev_aug, ev_aug1, ev_aug2, ev_for, ev_for0, ev_forN, ev_con, ev_var, ev_var1, ev_op2, ev_op2k, ev_op1, ev_op1k, ev_nilL, ev_consL, ev_consk, ev_tup, ev_tupk, ev_dat, ev_datk, ev_call, ev_callk, ev_callF, ev_callFk, ev_usr, ev_usrk, ev_usr0, ev_test, ev_testk, ev_b, ev_bk1, ev_isN, ev_isNk, ev_notN, ev_notNk, ev_andT, ev_andT1, ev_andT0, ev_orT, ev_orT1, ev_orT0, ev_notT, ev_notTk, ev_andE, ev_andE1, ev_andE0, ev_orE, ev_orE1, ev_orE0, ev_notE, ev_notEk, ev_ifE, ev_ifE1, ev_ifE0, ev_ch, ev_ch0, ev_ch1, ev_ch2, ev_isi, ev_isi1, ev_isi2, ev_isi3, ev_isi4, ev_isi5, ev_isi6, ev_sl, ev_slk, ev_slL, ev_slT, ev_slS, ev_par0, ev_par, ev_park, ev_seqE, ev_seqEL, ev_seqET, ev_seqES, ev_rg, ev_rgk, ev_en, ev_enL, ev_enT, ev_enS, ev_zi, ev_ziLL, ev_ziTT, ev_ziLT, ev_ziTL, ev_ziSS, ev_comp, ev_compk, v_add, v_sub, v_neg, v_eq, v_ne, v_lt, v_le, v_gt, v_ge, v_mulL, v_mulR, v_p9, v_p18, v_mod, v_div, v_int, v_lenL, v_lenT, v_lenS, v_tupL, v_tupT, v_itL, v_itT, v_ixL, v_ixT, v_sum, v_all, v_any, v_range1, v_range2, v_catT, v_catL, i_1, ev_run, ev_end1, ev_end2, ev_end3, ev_vN, ev_vC, ev_sU, ev_sD, ev_sO, ev_fN, ev_fC, ev_zU, ev_zD, ev_zO, fl1, fl2, fl3, fl4, fl5, sg0, sg1, se0, se1, List.map_cons, List.map_nil, List.length_cons, List.length_nil, List.cons_append, List.nil_append, List.append_nil, List.set_cons_zero, List.set_cons_succ, List.getElem?_cons_zero, List.getElem?_cons_succ, List.getElem?_nil, List.any_cons, List.any_nil, R.hard_ok, noLst, noLsts, t_N1, t_N2, t_N3, t_N4, t_N5, t_N6, isInt, isBool, isStr, isTup, isLst, gam0, List.replicate, wipeE, if_true, if_false, Bool.false_eq_true, Bool.true_eq_false, Bool.not_true, Bool.not_false, Bool.true_or, Bool.false_or, Bool.or_true, Bool.or_false, Bool.true_and, Bool.false_and, Bool.and_true, Bool.and_false, Bool.and_self, Bool.or_self, decide_true, decide_false, Nat.reduceBEq, Nat.reduceAdd, Nat.reduceSub, Nat.reduceLT, Int.reduceLT, Int.reduceLE, Int.reduceNeg, Int.reduceAdd, Int.reduceSub, Int.reduceMul, Nat.reduceEqDiff, Int.reduceEq, Nat.reduceLeDiff, ↓reduceIte, List.isEmpty_cons, ec, hl', q2]
            exact ⟨_, rfl⟩
        by_cases hz : (ws[p] * ((a : Int) - (b : Nat))) % (n : Int) = 0
        · have q1 : hitB (wf ws p) n p a b = some (trip p a b) := by unfold hitB; rw [g0]; exact if_pos ⟨hne, hz⟩
          obtain ⟨s, t⟩ := tail (cs ++ (List.range b).filterMap (hitB (wf ws p) n p a) ++ [trip p a b])
          refine ⟨_, ?_, s, rfl⟩
          rw [q1, ← List.append_assoc, ← List.append_assoc, ← t]
          simp only [b_law_2, Gm, view, freeze, ev_seq, ev_seq1, ev_seq2, ev_seq3, ev_seq4, ev_seq5, ev_ret, ev_ret1, ev_ret2, ev_retN, ev_nil, ev_bk, ev_ct, ev_if, ev_ifT, ev_ifF, ev_ifX, ev_set, ev_set0, ev_set1, ev_set3, ev_drop, ev_drop1, ev_drop2, ev_own, ev_own0, ev_own1, ev_unp, ev_unp1, ev_unp2, ev_unp3, ev_app, ev_app0, ev_app1, ev_app2, ev_put, ev_put1, ev_put2, ev_aug, ev_aug1, ev_aug2, ev_for, ev_for0, ev_forN, ev_con, ev_var, ev_var1, ev_op2, ev_op2k, ev_op1, ev_op1k, ev_nilL, ev_consL, ev_consk, ev_tup, ev_tupk, ev_dat, ev_datk, ev_call, ev_callk, ev_callF, ev_callFk, ev_usr, ev_usrk, ev_usr0, ev_test, ev_testk, ev_b, ev_bk1, ev_isN, ev_isNk, ev_notN, ev_notNk, ev_andT, ev_andT1, ev_andT0, ev_orT, ev_orT1, ev_orT0, ev_notT, ev_notTk, ev_andE, ev_andE1, ev_andE0, ev_orE, ev_orE1, ev_orE0, ev_notE, ev_notEk, ev_ifE, ev_ifE1, ev_ifE0, ev_ch, ev_ch0, ev_ch1, ev_ch2, ev_isi, ev_isi1, ev_isi2, ev_isi3, ev_isi4, ev_isi5, ev_isi6, ev_sl, ev_slk, ev_slL, ev_slT, ev_slS, ev_par0, ev_par, ev_park, ev_seqE, ev_seqEL, ev_seqET, ev_seqES, ev_rg, ev_rgk, ev_en, ev_enL, ev_enT, ev_enS, ev_zi, ev_ziLL, ev_ziTT, ev_ziLT, ev_ziTL, ev_ziSS, ev_comp, ev_compk, v_add, v_sub, v_neg, v_eq, v_ne, v_lt, v_le, v_gt, v_ge, v_mulL, v_mulR, v_p9, v_p18, v_mod, v_div, v_int, v_lenL, v_lenT, v_lenS, v_tupL, v_tupT, v_itL, v_itT, v_ixL, v_ixT, v_sum, v_all, v_any, v_range1, v_range2, v_catT, v_catL, i_1, ev_run, ev_end1, ev_end2, ev_end3, ev_vN, ev_vC, ev_sU, ev_sD, ev_sO, ev_fN, ev_fC, ev_zU, ev_zD, ev_zO, fl1, fl2, fl3, fl4, fl5, sg0, sg1, se0, se1, List.map_cons, List.map_nil, List.length_cons, List.length_nil, List.cons_append, List.nil_append, List.append_nil, List.set_cons_zero, List.set_cons_succ, List.getElem?_cons_zero, List.getElem?_cons_succ, List.getElem?_nil, List.any_cons, List.any_nil, R.hard_ok, noLst, noLsts, t_N1, t_N2, t_N3, t_N4, t_N5, t_N6, isInt, isBool, isStr, isTup, isLst, gam0, List.replicate, wipeE, if_true, if_false, Bool.false_eq_true, Bool.true_eq_false, Bool.not_true, Bool.not_false, Bool.true_or, Bool.false_or, Bool.or_true, Bool.or_false, Bool.true_and, Bool.false_and, Bool.and_true, Bool.and_false, Bool.and_self, Bool.or_self, decide_true, decide_false, Nat.reduceBEq, Nat.reduceAdd, Nat.reduceSub, Nat.reduceLT, Int.reduceLT, Int.reduceLE, Int.reduceNeg, Int.reduceAdd, Int.reduceSub, Int.reduceMul, Nat.reduceEqDiff, Int.reduceEq, Nat.reduceLeDiff, ↓reduceIte, List.isEmpty_cons, hne, v_ixT y0, m0, v_mod hn', hz, x7, trip]
        · have q1 : hitB (wf ws p) n p a b = none := by unfold hitB; rw [g0]; exact if_neg fun z => hz z.2
          obtain ⟨s, t⟩ := tail (cs ++ (List.range b).filterMap (hitB (wf ws p) n p a))
          refine ⟨_, ?_, s, rfl⟩
          rw [q1, ← List.append_assoc, ← List.append_assoc, List.append_nil, ← t]
          simp only [b_law_2, Gm, view, freeze, ev_seq, ev_seq1, ev_seq2, ev_seq3, ev_seq4, ev_seq5, ev_ret, ev_ret1, ev_ret2, ev_retN, ev_nil, ev_bk, ev_ct, ev_if, ev_ifT, ev_ifF, ev_ifX, ev_set, ev_set0, ev_set1, ev_set3, ev_drop, ev_drop1, ev_drop2, ev_own, ev_own0, ev_own1, ev_unp, ev_unp1, ev_unp2, ev_unp3, ev_app, ev_app0, ev_app1, ev_app2, ev_put, ev_put1, ev_put2, ev_aug, ev_aug1, ev_aug2, ev_for, ev_for0, ev_forN, ev_con, ev_var, ev_var1, ev_op2, ev_op2k, ev_op1, ev_op1k, ev_nilL, ev_consL, ev_consk, ev_tup, ev_tupk, ev_dat, ev_datk, ev_call, ev_callk, ev_callF, ev_callFk, ev_usr, ev_usrk, ev_usr0, ev_test, ev_testk, ev_b, ev_bk1, ev_isN, ev_isNk, ev_notN, ev_notNk, ev_andT, ev_andT1, ev_andT0, ev_orT, ev_orT1, ev_orT0, ev_notT, ev_notTk, ev_andE, ev_andE1, ev_andE0, ev_orE, ev_orE1, ev_orE0, ev_notE, ev_notEk, ev_ifE, ev_ifE1, ev_ifE0, ev_ch, ev_ch0, ev_ch1, ev_ch2, ev_isi, ev_isi1, ev_isi2, ev_isi3, ev_isi4, ev_isi5, ev_isi6, ev_sl, ev_slk, ev_slL, ev_slT, ev_slS, ev_par0, ev_par, ev_park, ev_seqE, ev_seqEL, ev_seqET, ev_seqES, ev_rg, ev_rgk, ev_en, ev_enL, ev_enT, ev_enS, ev_zi, ev_ziLL, ev_ziTT, ev_ziLT, ev_ziTL, ev_ziSS, ev_comp, ev_compk, v_add, v_sub, v_neg, v_eq, v_ne, v_lt, v_le, v_gt, v_ge, v_mulL, v_mulR, v_p9, v_p18, v_mod, v_div, v_int, v_lenL, v_lenT, v_lenS, v_tupL, v_tupT, v_itL, v_itT, v_ixL, v_ixT, v_sum, v_all, v_any, v_range1, v_range2, v_catT, v_catL, i_1, ev_run, ev_end1, ev_end2, ev_end3, ev_vN, ev_vC, ev_sU, ev_sD, ev_sO, ev_fN, ev_fC, ev_zU, ev_zD, ev_zO, fl1, fl2, fl3, fl4, fl5, sg0, sg1, se0, se1, List.map_cons, List.map_nil, List.length_cons, List.length_nil, List.cons_append, List.nil_append, List.append_nil, List.set_cons_zero, List.set_cons_succ, List.getElem?_cons_zero, List.getElem?_cons_succ, List.getElem?_nil, List.any_cons, List.any_nil, R.hard_ok, noLst, noLsts, t_N1, t_N2, t_N3, t_N4, t_N5, t_N6, isInt, isBool, isStr, isTup, isLst, gam0, List.replicate, wipeE, if_true, if_false, Bool.false_eq_true, Bool.true_eq_false, Bool.not_true, Bool.not_false, Bool.true_or, Bool.false_or, Bool.or_true, Bool.or_false, Bool.true_and, Bool.false_and, Bool.and_true, Bool.and_false, Bool.and_self, Bool.or_self, decide_true, decide_false, Nat.reduceBEq, Nat.reduceAdd, Nat.reduceSub, Nat.reduceLT, Int.reduceLT, Int.reduceLE, Int.reduceNeg, Int.reduceAdd, Int.reduceSub, Int.reduceMul, Nat.reduceEqDiff, Int.reduceEq, Nat.reduceLeDiff, ↓reduceIte, List.isEmpty_cons, hne, v_ixT y0, m0, v_mod hn', hz, x7, trip]
  exact ⟨s11', e⟩
end
end K55

set_option Elab.async false
set_option linter.all false
set_option maxRecDepth 100000
set_option maxHeartbeats 4000000
namespace K55
open PySem RB Lib
section
variable (sc nm : D) (n : Nat) (ws : List Int) (s4 s5 s6 : Sl)
def rowB (p m : Nat) : List D := (List.range m).flatMap fun a => (List.range n).filterMap (hitB (wf ws p) n p a)
def rowC (p m : Nat) : List D := (List.range m).flatMap fun a => (List.range n).filterMap (hitC ws.length (wg ws p) n p a)
theorem lf (h : Nat → Option D) (b : Nat) : ((List.range b).filterMap h).length ≤ b := by
  have := List.length_filterMap_le h (List.range b)
  rwa [List.length_range] at this
theorem flat_len (h : Nat → List D) (c : Nat) (H : ∀ a, (h a).length ≤ c) : ∀ m, ((List.range m).flatMap h).length ≤ c * m
  | 0 => Nat.zero_le _
  | m + 1 => by
    rw [List.range_succ, List.flatMap_append, List.length_append, Nat.mul_succ]
    have := flat_len h c H m
    have := H m
    simp only [List.flatMap_cons, List.flatMap_nil, List.append_nil]
    omega
theorem law_a (hw : W ws) (h2 : 2 ≤ n) (h3 : n ≤ 31) {p : Nat} (hp : p < ws.length) (cs ss : List D) (h7 : cs.length ≤ 100000) (h8 : ss.length ≤ 100000) (s10 s11 : Sl) :
    ∃ s10' s11', forL (.nm 10) b_law_3 (rng 0 n) (Gm sc nm n ws s4 s5 s6 cs ss (.da (.int (p : Int))) s10 s11) = .ok (.nx (Gm sc nm n ws s4 s5 s6 (cs ++ rowB n ws p n) (ss ++ rowC n ws p n) (.da (.int (p : Int))) s10' s11')) := by
  obtain ⟨Γ', e, s10', s11', rfl⟩ := forR_inv (i := 10) (body := b_law_3) n (fun a Γ => ∃ s10' s11', Γ = Gm sc nm n ws s4 s5 s6 (cs ++ rowB n ws p a) (ss ++ rowC n ws p a) (.da (.int (p : Int))) s10' s11')
    (Gm sc nm n ws s4 s5 s6 cs ss (.da (.int (p : Int))) s10 s11) ⟨s10, s11, by simp [rowB, rowC]⟩ fun a ha Γ ⟨s10', s11', eΓ⟩ => by
      subst eΓ
      have l1 := flat_len (fun a => (List.range n).filterMap (hitB (wf ws p) n p a)) n (fun a => lf _ n) a
      have l2 := flat_len (fun a => (List.range n).filterMap (hitC ws.length (wg ws p) n p a)) n (fun a => lf _ n) a
      have l3 : n * a ≤ 31 * 31 := Nat.mul_le_mul h3 (by omega)
      obtain ⟨s, t⟩ := law_b sc nm n ws s4 s5 s6 hw h2 h3 hp (a := a) (cs ++ rowB n ws p a) (ss ++ rowC n ws p a) (by rw [List.length_append]; unfold rowB; omega) (by rw [List.length_append]; unfold rowC; omega) s11'
      have hz : n ≤ 16777216 := by omega
      refine ⟨_, ?_, .da (.int (a : Int)), s, rfl⟩
      have e1 : rowB n ws p (a + 1) = rowB n ws p a ++ (List.range n).filterMap (hitB (wf ws p) n p a) := by unfold rowB; rw [List.range_succ, List.flatMap_append]; simp
      have e2 : rowC n ws p (a + 1) = rowC n ws p a ++ (List.range n).filterMap (hitC ws.length (wg ws p) n p a) := by unfold rowC; rw [List.range_succ, List.flatMap_append]; simp
      rw [e1, e2, ← List.append_assoc, ← List.append_assoc, ← t]
      simp only [b_law_3, Gm, view, freeze, ev_seq, ev_seq1, ev_seq2, ev_seq3, ev_seq4, ev_seq5, ev_ret, ev_ret1, ev_ret2, ev_retN, ev_nil, ev_bk, ev_ct, ev_if, ev_ifT, ev_ifF, ev_ifX, ev_set, ev_set0, ev_set1, ev_set3, ev_drop, ev_drop1, ev_drop2, ev_own, ev_own0, ev_own1, ev_unp, ev_unp1, ev_unp2, ev_unp3, ev_app, ev_app0, ev_app1, ev_app2, ev_put, ev_put1, ev_put2, ev_aug, ev_aug1, ev_aug2, ev_for, ev_for0, ev_forN, ev_con, ev_var, ev_var1, ev_op2, ev_op2k, ev_op1, ev_op1k, ev_nilL, ev_consL, ev_consk, ev_tup, ev_tupk, ev_dat, ev_datk, ev_call, ev_callk, ev_callF, ev_callFk, ev_usr, ev_usrk, ev_usr0, ev_test, ev_testk, ev_b, ev_bk1, ev_isN, ev_isNk, ev_notN, ev_notNk, ev_andT, ev_andT1, ev_andT0, ev_orT, ev_orT1, ev_orT0, ev_notT, ev_notTk, ev_andE, ev_andE1, ev_andE0, ev_orE, ev_orE1, ev_orE0, ev_notE, ev_notEk, ev_ifE, ev_ifE1, ev_ifE0, ev_ch, ev_ch0, ev_ch1, ev_ch2, ev_isi, ev_isi1, ev_isi2, ev_isi3, ev_isi4, ev_isi5, ev_isi6, ev_sl, ev_slk, ev_slL, ev_slT, ev_slS, ev_par0, ev_par, ev_park, ev_seqE, ev_seqEL, ev_seqET, ev_seqES, ev_rg, ev_rgk, ev_en, ev_enL, ev_enT, ev_enS, ev_zi, ev_ziLL, ev_ziTT, ev_ziLT, ev_ziTL, ev_ziSS, ev_comp, ev_compk, v_add, v_sub, v_neg, v_eq, v_ne, v_lt, v_le, v_gt, v_ge, v_mulL, v_mulR, v_p9, v_p18, v_mod, v_div, v_int, v_lenL, v_lenT, v_lenS, v_tupL, v_tupT, v_itL, v_itT, v_ixL, v_ixT, v_sum, v_all, v_any, v_range1, v_range2, v_catT, v_catL, i_1, ev_run, ev_end1, ev_end2, ev_end3, ev_vN, ev_vC, ev_sU, ev_sD, ev_sO, ev_fN, ev_fC, ev_zU, ev_zD, ev_zO, fl1, fl2, fl3, fl4, fl5, sg0, sg1, se0, se1, List.map_cons, List.map_nil, List.length_cons, List.length_nil, List.cons_append, List.nil_append, List.append_nil, List.set_cons_zero, List.set_cons_succ, List.getElem?_cons_zero, List.getElem?_cons_succ, List.getElem?_nil, List.any_cons, List.any_nil, R.hard_ok, noLst, noLsts, t_N1, t_N2, t_N3, t_N4, t_N5, t_N6, isInt, isBool, isStr, isTup, isLst, gam0, List.replicate, wipeE, if_true, if_false, Bool.false_eq_true, Bool.true_eq_false, Bool.not_true, Bool.not_false, Bool.true_or, Bool.false_or, Bool.or_true, Bool.or_false, Bool.true_and, Bool.false_and, Bool.and_true, Bool.and_false, Bool.and_self, Bool.or_self, decide_true, decide_false, Nat.reduceBEq, Nat.reduceAdd, Nat.reduceSub, Nat.reduceLT, Int.reduceLT, Int.reduceLE, Int.reduceNeg, Int.reduceAdd, Int.reduceSub, Int.reduceMul, Nat.reduceEqDiff, Int.reduceEq, Nat.reduceLeDiff, ↓reduceIte, List.isEmpty_cons, v_range1 hz]
  exact ⟨s10', s11', e⟩
def allB (m : Nat) : List D := (List.range m).flatMap fun p => rowB n ws p n
def allC (m : Nat) : List D := (List.range m).flatMap fun p => rowC n ws p n
theorem law_p (hw : W ws) (h2 : 2 ≤ n) (h3 : n ≤ 31) (s9 s10 s11 : Sl) :
    ∃ s9' s10' s11', forL (.nm 9) b_law_4 (rng 0 ws.length) (Gm sc nm n ws s4 s5 s6 [] [] s9 s10 s11) = .ok (.nx (Gm sc nm n ws s4 s5 s6 (allB n ws ws.length) (allC n ws ws.length) s9' s10' s11')) := by
  obtain ⟨Γ', e, s9', s10', s11', rfl⟩ := forR_inv (i := 9) (body := b_law_4) ws.length (fun p Γ => ∃ s9' s10' s11', Γ = Gm sc nm n ws s4 s5 s6 (allB n ws p) (allC n ws p) s9' s10' s11')
    (Gm sc nm n ws s4 s5 s6 [] [] s9 s10 s11) ⟨s9, s10, s11, rfl⟩ fun p hp Γ ⟨s9', s10', s11', eΓ⟩ => by
      subst eΓ
      have c31 : n * n ≤ 31 * 31 := Nat.mul_le_mul h3 h3
      have l1 := flat_len (fun p => rowB n ws p n) 961 (fun p => Nat.le_trans (flat_len (fun a => (List.range n).filterMap (hitB (wf ws p) n p a)) n (fun a => lf _ n) n) c31) p
      have l2 := flat_len (fun p => rowC n ws p n) 961 (fun p => Nat.le_trans (flat_len (fun a => (List.range n).filterMap (hitC ws.length (wg ws p) n p a)) n (fun a => lf _ n) n) c31) p
      have l3 := hw.2.1
      obtain ⟨s, s', t⟩ := law_a sc nm n ws s4 s5 s6 hw h2 h3 hp (allB n ws p) (allC n ws p) (by unfold allB; omega) (by unfold allC; omega) s10' s11'
      have hz : n ≤ 16777216 := by omega
      refine ⟨_, ?_, .da (.int (p : Int)), s, s', rfl⟩
      have e1 : allB n ws (p + 1) = allB n ws p ++ rowB n ws p n := by unfold allB; rw [List.range_succ, List.flatMap_append]; simp
      have e2 : allC n ws (p + 1) = allC n ws p ++ rowC n ws p n := by unfold allC; rw [List.range_succ, List.flatMap_append]; simp
      rw [e1, e2, ← t]
      simp only [b_law_4, Gm, view, freeze, ev_seq, ev_seq1, ev_seq2, ev_seq3, ev_seq4, ev_seq5, ev_ret, ev_ret1, ev_ret2, ev_retN, ev_nil, ev_bk, ev_ct, ev_if, ev_ifT, ev_ifF, ev_ifX, ev_set, ev_set0, ev_set1, ev_set3, ev_drop, ev_drop1, ev_drop2, ev_own, ev_own0, ev_own1, ev_unp, ev_unp1, ev_unp2, ev_unp3, ev_app, ev_app0, ev_app1, ev_app2, ev_put, ev_put1, ev_put2, ev_aug, ev_aug1, ev_aug2, ev_for, ev_for0, ev_forN, ev_con, ev_var, ev_var1, ev_op2, ev_op2k, ev_op1, ev_op1k, ev_nilL, ev_consL, ev_consk, ev_tup, ev_tupk, ev_dat, ev_datk, ev_call, ev_callk, ev_callF, ev_callFk, ev_usr, ev_usrk, ev_usr0, ev_test, ev_testk, ev_b, ev_bk1, ev_isN, ev_isNk, ev_notN, ev_notNk, ev_andT, ev_andT1, ev_andT0, ev_orT, ev_orT1, ev_orT0, ev_notT, ev_notTk, ev_andE, ev_andE1, ev_andE0, ev_orE, ev_orE1, ev_orE0, ev_notE, ev_notEk, ev_ifE, ev_ifE1, ev_ifE0, ev_ch, ev_ch0, ev_ch1, ev_ch2, ev_isi, ev_isi1, ev_isi2, ev_isi3, ev_isi4, ev_isi5, ev_isi6, ev_sl, ev_slk, ev_slL, ev_slT, ev_slS, ev_par0, ev_par, ev_park, ev_seqE, ev_seqEL, ev_seqET, ev_seqES, ev_rg, ev_rgk, ev_en, ev_enL, ev_enT, ev_enS, ev_zi, ev_ziLL, ev_ziTT, ev_ziLT, ev_ziTL, ev_ziSS, ev_comp, ev_compk, v_add, v_sub, v_neg, v_eq, v_ne, v_lt, v_le, v_gt, v_ge, v_mulL, v_mulR, v_p9, v_p18, v_mod, v_div, v_int, v_lenL, v_lenT, v_lenS, v_tupL, v_tupT, v_itL, v_itT, v_ixL, v_ixT, v_sum, v_all, v_any, v_range1, v_range2, v_catT, v_catL, i_1, ev_run, ev_end1, ev_end2, ev_end3, ev_vN, ev_vC, ev_sU, ev_sD, ev_sO, ev_fN, ev_fC, ev_zU, ev_zD, ev_zO, fl1, fl2, fl3, fl4, fl5, sg0, sg1, se0, se1, List.map_cons, List.map_nil, List.length_cons, List.length_nil, List.cons_append, List.nil_append, List.append_nil, List.set_cons_zero, List.set_cons_succ, List.getElem?_cons_zero, List.getElem?_cons_succ, List.getElem?_nil, List.any_cons, List.any_nil, R.hard_ok, noLst, noLsts, t_N1, t_N2, t_N3, t_N4, t_N5, t_N6, isInt, isBool, isStr, isTup, isLst, gam0, List.replicate, wipeE, if_true, if_false, Bool.false_eq_true, Bool.true_eq_false, Bool.not_true, Bool.not_false, Bool.true_or, Bool.false_or, Bool.or_true, Bool.or_false, Bool.true_and, Bool.false_and, Bool.and_true, Bool.and_false, Bool.and_self, Bool.or_self, decide_true, decide_false, Nat.reduceBEq, Nat.reduceAdd, Nat.reduceSub, Nat.reduceLT, Int.reduceLT, Int.reduceLE, Int.reduceNeg, Int.reduceAdd, Int.reduceSub, Int.reduceMul, Nat.reduceEqDiff, Int.reduceEq, Nat.reduceLeDiff, ↓reduceIte, List.isEmpty_cons, v_range1 hz]
  exact ⟨s9', s10', s11', e⟩
theorem allB_eq : allB n ws ws.length = hitsOf (wf ws) ws.length n := rfl
theorem allC_eq (h : 1 ≤ ws.length) : allC n ws ws.length = hitsOf (wg ws) (ws.length - 1) n := by
  have e : ws.length = (ws.length - 1) + 1 := by omega
  have e0 : rowC n ws (ws.length - 1) n = [] := by
    unfold rowC
    rw [List.flatMap_eq_nil_iff]
    intro a _
    rw [List.filterMap_eq_nil_iff]
    intro b _
    unfold hitC
    exact if_neg (by omega)
  have e1 : ∀ m, m ≤ ws.length - 1 → (List.range m).flatMap (fun p => rowC n ws p n) = hitsOf (wg ws) m n := by
    intro m
    induction m with
    | zero => intro _; rfl
    | succ m ih =>
      intro hm
      unfold hitsOf
      rw [List.range_succ, List.flatMap_append, List.flatMap_append, ih (by omega)]
      have : rowC n ws m n = hitP (wg ws m) n m := by
        unfold rowC hitP
        congr 1
        funext a
        rw [hitA_eq]
        congr 1
        funext b
        unfold hitC
        exact if_pos (by omega)
      simp only [List.flatMap_cons, List.flatMap_nil, this]
      rfl
  have e2 : List.range ws.length = List.range (ws.length - 1) ++ [ws.length - 1] := by
    rw [← List.range_succ]
    congr 1
  unfold allC
  rw [e2, List.flatMap_append, e1 _ (Nat.le_refl _)]
  simp only [List.flatMap_cons, List.flatMap_nil, e0, List.append_nil]
end
/-! what stands in the list -/
theorem mem_hits {f : Nat → Int} {m n : Nat} {d : D} (h : d ∈ hitsOf f m n) : ∃ p a b, d = trip p a b := by
  obtain ⟨p, _, h⟩ := List.mem_flatMap.mp h
  obtain ⟨a, _, h⟩ := List.mem_flatMap.mp h
  obtain ⟨b, _, h⟩ := List.mem_filterMap.mp h
  by_cases c : (a : Int) ≠ (b : Nat) ∧ (f p * ((a : Int) - (b : Nat))) % (n : Int) = 0
  · rw [if_pos c] at h; cases h; exact ⟨p, a, b, rfl⟩
  · rw [if_neg c] at h; cases h
theorem trip_lt (p a b p' a' b' : Nat) (h : p < p' ∨ (p = p' ∧ (a < a' ∨ (a = a' ∧ b ≤ b')))) : PySem.W.dataLt (trip p' a' b') (trip p a b) = false := by
  unfold trip
  rw [lt_tupI, lt_tupI, lt_tupI, lt_nil]
  rcases h with h | ⟨rfl, h | ⟨rfl, h⟩⟩
  · rw [if_neg (by omega)]; exact decide_eq_false (by omega)
  · rw [if_pos rfl, if_neg (by omega)]; exact decide_eq_false (by omega)
  · rw [if_pos rfl, if_pos rfl]
    split
    · rfl
    · exact decide_eq_false (by omega)
theorem mem_hitA {f : Int} {n p a : Nat} {d : D} (h : d ∈ hitA f n p a) : ∃ b, d = trip p a b := by
  obtain ⟨b, _, h⟩ := List.mem_filterMap.mp h
  by_cases c : (a : Int) ≠ (b : Nat) ∧ (f * ((a : Int) - (b : Nat))) % (n : Int) = 0
  · rw [if_pos c] at h; cases h; exact ⟨b, rfl⟩
  · rw [if_neg c] at h; cases h
theorem mem_hitP {f : Int} {n p : Nat} {d : D} (h : d ∈ hitP f n p) : ∃ a b, d = trip p a b := by
  obtain ⟨a, _, h⟩ := List.mem_flatMap.mp h
  obtain ⟨b, rfl⟩ := mem_hitA h
  exact ⟨a, b, rfl⟩
theorem hits_sorted (f : Nat → Int) (m n : Nat) : (hitsOf f m n).Pairwise fun x y => PySem.W.dataLt y x = false := by
  unfold hitsOf
  rw [List.pairwise_flatMap]
  refine ⟨fun p _ => ?_, List.pairwise_lt_range.imp fun {p p'} hlt x hx y hy => ?_⟩
  · unfold hitP
    rw [List.pairwise_flatMap]
    refine ⟨fun a _ => ?_, List.pairwise_lt_range.imp fun {a a'} hlt x hx y hy => ?_⟩
    · unfold hitA
      rw [List.pairwise_filterMap]
      refine List.pairwise_lt_range.imp fun {b b'} hlt x hx y hy => ?_
      by_cases c : (a : Int) ≠ (b : Nat) ∧ (f p * ((a : Int) - (b : Nat))) % (n : Int) = 0
      · rw [if_pos c] at hx; cases hx
        by_cases c' : (a : Int) ≠ (b' : Nat) ∧ (f p * ((a : Int) - (b' : Nat))) % (n : Int) = 0
        · rw [if_pos c'] at hy; cases hy
          exact trip_lt _ _ _ _ _ _ (.inr ⟨rfl, .inr ⟨rfl, Nat.le_of_lt hlt⟩⟩)
        · rw [if_neg c'] at hy; cases hy
      · rw [if_neg c] at hx; cases hx
    · obtain ⟨b, rfl⟩ := mem_hitA hx
      obtain ⟨b', rfl⟩ := mem_hitA hy
      exact trip_lt _ _ _ _ _ _ (.inr ⟨rfl, .inl hlt⟩)
  · obtain ⟨a, b, rfl⟩ := mem_hitP hx
    obtain ⟨a', b', rfl⟩ := mem_hitP hy
    exact trip_lt _ _ _ _ _ _ (.inl hlt)
theorem v_min_hits {f : Nat → Int} {m n : Nat} (h : hitsOf f m n ≠ []) : on1 minG [.list (hitsOf f m n)] = .ok ((hitsOf f m n).head?.getD .none) := by
  cases e : hitsOf f m n with
  | nil => exact absurd e h
  | cons x xs =>
    have hs := hits_sorted f m n
    have hm := fun d => mem_hits (f := f) (m := m) (n := n) (d := d)
    rw [e] at hs hm
    rw [v_minL ⟨⟨fun y hy z hz => ?_, fun y hy => ?_⟩, plainL_of fun y hy => ?_, depthAll_le (n := 64) fun y hy => ?_⟩ (List.pairwise_cons.mp hs).1]
    · rfl
    · obtain ⟨p, a, b, rfl⟩ := hm y hy
      obtain ⟨p', a', b', rfl⟩ := hm z hz
      rfl
    · obtain ⟨p, a, b, rfl⟩ := hm y hy
      intro z; cases z
    · obtain ⟨p, a, b, rfl⟩ := hm y hy
      rfl
    · obtain ⟨p, a, b, rfl⟩ := hm y hy
      exact (show PyData.depth (trip p a b) ≤ 64 from by simp [trip, PyData.depth, PyData.depthAll])
theorem hits_same (f : Nat → Int) (m n : Nat) : S__law_same 6 [(hitsOf f m n).head?.getD .none, (hitsOf f m n).head?.getD .none] = .ok (.bool true) := by
  refine same_refl 6 _ ?_
  cases e : hitsOf f m n with
  | nil => rfl
  | cons x xs =>
    obtain ⟨p, a, b, rfl⟩ := mem_hits (f := f) (m := m) (n := n) (d := x) (by rw [e]; exact List.mem_cons_self)
    rfl
theorem hits_nil {f : Nat → Int} {m n : Nat} (h2 : 2 ≤ n) : (hitsOf f m n).isEmpty = (List.range m).all fun p => cop (f p) n := by
  rw [Bool.eq_iff_iff, List.isEmpty_iff, List.all_eq_true]
  unfold hitsOf
  rw [List.flatMap_eq_nil_iff]
  refine forall_congr' fun p => imp_congr_right fun _ => ?_
  rw [cop_iff h2, ← nt h2]
  unfold hitP
  rw [List.flatMap_eq_nil_iff]
  constructor
  · rintro h ⟨a, b, ha, hb, hne, hd⟩
    have := h a (List.mem_range.mpr ha)
    unfold hitA at this
    rw [List.filterMap_eq_nil_iff] at this
    have := this b (List.mem_range.mpr hb)
    rw [if_pos ⟨hne, hd⟩] at this
    cases this
  · intro h a ha
    unfold hitA
    rw [List.filterMap_eq_nil_iff]
    intro b hb
    exact if_neg fun z => h ⟨a, b, List.mem_range.mp ha, List.mem_range.mp hb, z.1, z.2⟩
theorem hits_isN (f : Nat → Int) (m n : Nat) : isN ((hitsOf f m n).head?.getD .none) = (hitsOf f m n).isEmpty := by
  cases e : hitsOf f m n with
  | nil => rfl
  | cons x xs =>
    obtain ⟨p, a, b, rfl⟩ := mem_hits (f := f) (m := m) (n := n) (d := x) (by rw [e]; exact List.mem_cons_self)
    rfl
theorem hits_plain (f : Nat → Int) (m n : Nat) : ∀ x ∈ hitsOf f m n, RB.plain x = true ∧ x.depth ≤ 60 := fun x hx => by
  obtain ⟨p, a, b, rfl⟩ := mem_hits hx
  exact ⟨rfl, (show PyData.depth (trip p a b) ≤ 60 from by simp [trip, PyData.depth, PyData.depthAll])⟩
end K55

set_option Elab.async false
set_option linter.all false
set_option maxRecDepth 100000
set_option maxHeartbeats 4000000
namespace K55
open PySem RB Lib
theorem seq_nx {g h : Gam → R Fl} {Γ Γ' : Gam} (e : g Γ = .ok (.nx Γ')) : seqS g h Γ = h Γ' := by rw [ev_seq, e]; rfl
def rowOf (x : Int) (l n : Nat) : List Int := (List.range l).map fun k => (x / ((k : Nat) + 1) + 5 * (k : Nat)) % n
theorem map_int {l : List Nat} {f : Nat → Int} : l.map (fun k => PyData.int (f k)) = (l.map f).map PyData.int := by rw [List.map_map]; rfl
theorem row_ok (x : Int) (l : Nat) {n : Nat} (h2 : 2 ≤ n) : ∀ p ∈ rowOf x l n, 0 ≤ p ∧ p < n := fun p hp => by
  obtain ⟨k, _, rfl⟩ := List.mem_map.mp hp
  exact ⟨Int.emod_nonneg _ (by omega), Int.emod_lt_of_pos _ (by omega)⟩
theorem dot_eq {ws row : List Int} (h : row.length = ws.length) : (List.range ws.length).map (fun k => ws.getD k 0 * row.getD k 0) = List.zipWith (· * ·) ws row := by
  refine List.ext_getElem (by simp [h]) fun i h1 h3 => ?_
  have hi : i < ws.length := by simpa using h1
  rw [List.getElem_map, List.getElem_range, List.getElem_zipWith, List.getD_eq_getElem?_getD, List.getD_eq_getElem?_getD, List.getElem?_eq_getElem hi, List.getElem?_eq_getElem (by omega : i < row.length)]
  rfl
section
variable (sc nm : D) {n : Nat} {ws : List Int} (hw : W ws) (h2 : 2 ≤ n) (h3 : n ≤ 31)
def Gl (sc nm : D) (n : Nat) (ws : List Int) (s5 s6 : Sl) : Gam := [.da sc, .da nm, .da (.int (n : Int)), .da (.tuple (ws.map .int)), .un, s5, s6, .un, .un, .un, .un, .un, .un, .un, .un]
include hw h2 h3
theorem law_row (x : Int) (s5 s6 : Sl) : ∃ s6', b_law_1 (Gl sc nm n ws (.da (.int x)) s6) = .ok (.nx (Gl sc nm n ws (.da (.int x)) s6')) := by
  have hz : ws.length ≤ 16777216 := by have := hw.2.1; omega
  have hn' : (0 : Int) < (n : Int) := by omega
  have H := compR_map (i := 4) (fe := op2E modD (callE (on1 intG) [op2E addD (op2E divD (var 5) (op2E addD (var 4) (con (.int 1)))) (op2E mulD (con (.int 5)) (var 4))]) (var 2)) (ε := [some sc, some nm, some (.int (n : Int)), some (.tuple (ws.map .int)), none, some (.int x), slV [] 6 s6, none, none, none, none, none, none, none, none])
    (fun k => .int ((x / ((k : Nat) + 1) + 5 * (k : Nat)) % n)) ws.length fun k hk => by
      have := hw.2.1
      have d0 := v_div (i := x) (j := (k : Int) + 1) (by omega) (by omega)
      simp only [view, freeze, ev_seq, ev_seq1, ev_seq2, ev_seq3, ev_seq4, ev_seq5, ev_ret, ev_ret1, ev_ret2, ev_retN, ev_nil, ev_bk, ev_ct, ev_if, ev_ifT, ev_ifF, ev_ifX, ev_set, ev_set0, ev_set1, ev_set3, ev_drop, ev_drop1, ev_drop2, ev_own, ev_own0, ev_own1, ev_unp, ev_unp1, ev_unp2, ev_unp3, ev_app, ev_app0, ev_app1, ev_app2, ev_put, ev_put1, ev_put2, ev_aug, ev_aug1, ev_aug2, ev_for, ev_for0, ev_forN, ev_con, ev_var, ev_var1, ev_op2, ev_op2k, ev_op1, ev_op1k, ev_nilL, ev_consL, ev_consk, ev_tup, ev_tupk, ev_dat, ev_datk, ev_call, ev_callk, ev_callF, ev_callFk, ev_usr, ev_usrk, ev_usr0, ev_test, ev_testk, ev_b, ev_bk1, ev_isN, ev_isNk, ev_notN, ev_notNk, ev_andT, ev_andT1, ev_andT0, ev_orT, ev_orT1, ev_orT0, ev_notT, ev_notTk, ev_andE, ev_andE1, ev_andE0, ev_orE, ev_orE1, ev_orE0, ev_notE, ev_notEk, ev_ifE, ev_ifE1, ev_ifE0, ev_ch, ev_ch0, ev_ch1, ev_ch2, ev_isi, ev_isi1, ev_isi2, ev_isi3, ev_isi4, ev_isi5, ev_isi6, ev_sl, ev_slk, ev_slL, ev_slT, ev_slS, ev_par0, ev_par, ev_park, ev_seqE, ev_seqEL, ev_seqET, ev_seqES, ev_rg, ev_rgk, ev_en, ev_enL, ev_enT, ev_enS, ev_zi, ev_ziLL, ev_ziTT, ev_ziLT, ev_ziTL, ev_ziSS, ev_comp, ev_compk, v_add, v_sub, v_neg, v_eq, v_ne, v_lt, v_le, v_gt, v_ge, v_mulL, v_mulR, v_p9, v_p18, v_mod, v_div, v_int, v_lenL, v_lenT, v_lenS, v_tupL, v_tupT, v_itL, v_itT, v_ixL, v_ixT, v_sum, v_all, v_any, v_range1, v_range2, v_catT, v_catL, i_1, ev_run, ev_end1, ev_end2, ev_end3, ev_vN, ev_vC, ev_sU, ev_sD, ev_sO, ev_fN, ev_fC, ev_zU, ev_zD, ev_zO, fl1, fl2, fl3, fl4, fl5, sg0, sg1, se0, se1, List.map_cons, List.map_nil, List.length_cons, List.length_nil, List.cons_append, List.nil_append, List.append_nil, List.set_cons_zero, List.set_cons_succ, List.getElem?_cons_zero, List.getElem?_cons_succ, List.getElem?_nil, List.any_cons, List.any_nil, R.hard_ok, noLst, noLsts, t_N1, t_N2, t_N3, t_N4, t_N5, t_N6, isInt, isBool, isStr, isTup, isLst, gam0, List.replicate, wipeE, if_true, if_false, Bool.false_eq_true, Bool.true_eq_false, Bool.not_true, Bool.not_false, Bool.true_or, Bool.false_or, Bool.or_true, Bool.or_false, Bool.true_and, Bool.false_and, Bool.and_true, Bool.and_false, Bool.and_self, Bool.or_self, decide_true, decide_false, Nat.reduceBEq, Nat.reduceAdd, Nat.reduceSub, Nat.reduceLT, Int.reduceLT, Int.reduceLE, Int.reduceNeg, Int.reduceAdd, Int.reduceSub, Int.reduceMul, Nat.reduceEqDiff, Int.reduceEq, Nat.reduceLeDiff, ↓reduceIte, List.isEmpty_cons, d0, v_mod hn']
  rw [map_int] at H
  have hl : (rowOf x ws.length n).length = ws.length := by unfold rowOf; simp
  have hr := row_ok x ws.length h2
  have c1 := s_check_of (c := .tuple (ws.map .int)) (e := .tuple ((rowOf x ws.length n).map .int)) (.inl rfl) hw h2 h3 (.inl rfl) hl hr
  have c2 := s_check_of (c := .list (ws.map .int)) (e := .list ((rowOf x ws.length n).map .int)) (.inr rfl) hw h2 h3 (.inr rfl) hl hr
  have H2 := compR_map (i := 4) (fe := op2E mulD (op2E ixD (var 3) (var 4)) (op2E ixD (var 6) (var 4))) (ε := [some sc, some nm, some (.int (n : Int)), some (.tuple (ws.map .int)), none, some (.int x), some (.tuple ((rowOf x ws.length n).map .int)), none, none, none, none, none, none, none, none])
    (fun k => .int (ws.getD k 0 * (rowOf x ws.length n).getD k 0)) ws.length fun k hk => by
      have y0 : (ws.map PyData.int)[k]? = some (.int (ws.getD k 0)) := by rw [List.getElem?_map, List.getD_eq_getElem?_getD, List.getElem?_eq_getElem hk]; rfl
      have hk' : k < (rowOf x ws.length n).length := by omega
      have y1 : ((rowOf x ws.length n).map PyData.int)[k]? = some (.int ((rowOf x ws.length n).getD k 0)) := by rw [List.getElem?_map, List.getD_eq_getElem?_getD, List.getElem?_eq_getElem hk']; rfl
      have b := hw.2.2 (ws.getD k 0) (by rw [List.getD_eq_getElem?_getD, List.getElem?_eq_getElem hk]; exact List.getElem_mem hk)
      have m0 := v_mulL (i := ws.getD k 0) (j := (rowOf x ws.length n).getD k 0) (by omega) (by omega)
      simp only [view, freeze, ev_seq, ev_seq1, ev_seq2, ev_seq3, ev_seq4, ev_seq5, ev_ret, ev_ret1, ev_ret2, ev_retN, ev_nil, ev_bk, ev_ct, ev_if, ev_ifT, ev_ifF, ev_ifX, ev_set, ev_set0, ev_set1, ev_set3, ev_drop, ev_drop1, ev_drop2, ev_own, ev_own0, ev_own1, ev_unp, ev_unp1, ev_unp2, ev_unp3, ev_app, ev_app0, ev_app1, ev_app2, ev_put, ev_put1, ev_put2, ev_aug, ev_aug1, ev_aug2, ev_for, ev_for0, ev_forN, ev_con, ev_var, ev_var1, ev_op2, ev_op2k, ev_op1, ev_op1k, ev_nilL, ev_consL, ev_consk, ev_tup, ev_tupk, ev_dat, ev_datk, ev_call, ev_callk, ev_callF, ev_callFk, ev_usr, ev_usrk, ev_usr0, ev_test, ev_testk, ev_b, ev_bk1, ev_isN, ev_isNk, ev_notN, ev_notNk, ev_andT, ev_andT1, ev_andT0, ev_orT, ev_orT1, ev_orT0, ev_notT, ev_notTk, ev_andE, ev_andE1, ev_andE0, ev_orE, ev_orE1, ev_orE0, ev_notE, ev_notEk, ev_ifE, ev_ifE1, ev_ifE0, ev_ch, ev_ch0, ev_ch1, ev_ch2, ev_isi, ev_isi1, ev_isi2, ev_isi3, ev_isi4, ev_isi5, ev_isi6, ev_sl, ev_slk, ev_slL, ev_slT, ev_slS, ev_par0, ev_par, ev_park, ev_seqE, ev_seqEL, ev_seqET, ev_seqES, ev_rg, ev_rgk, ev_en, ev_enL, ev_enT, ev_enS, ev_zi, ev_ziLL, ev_ziTT, ev_ziLT, ev_ziTL, ev_ziSS, ev_comp, ev_compk, v_add, v_sub, v_neg, v_eq, v_ne, v_lt, v_le, v_gt, v_ge, v_mulL, v_mulR, v_p9, v_p18, v_mod, v_div, v_int, v_lenL, v_lenT, v_lenS, v_tupL, v_tupT, v_itL, v_itT, v_ixL, v_ixT, v_sum, v_all, v_any, v_range1, v_range2, v_catT, v_catL, i_1, ev_run, ev_end1, ev_end2, ev_end3, ev_vN, ev_vC, ev_sU, ev_sD, ev_sO, ev_fN, ev_fC, ev_zU, ev_zD, ev_zO, fl1, fl2, fl3, fl4, fl5, sg0, sg1, se0, se1, List.map_cons, List.map_nil, List.length_cons, List.length_nil, List.cons_append, List.nil_append, List.append_nil, List.set_cons_zero, List.set_cons_succ, List.getElem?_cons_zero, List.getElem?_cons_succ, List.getElem?_nil, List.any_cons, List.any_nil, R.hard_ok, noLst, noLsts, t_N1, t_N2, t_N3, t_N4, t_N5, t_N6, isInt, isBool, isStr, isTup, isLst, gam0, List.replicate, wipeE, if_true, if_false, Bool.false_eq_true, Bool.true_eq_false, Bool.not_true, Bool.not_false, Bool.true_or, Bool.false_or, Bool.or_true, Bool.or_false, Bool.true_and, Bool.false_and, Bool.and_true, Bool.and_false, Bool.and_self, Bool.or_self, decide_true, decide_false, Nat.reduceBEq, Nat.reduceAdd, Nat.reduceSub, Nat.reduceLT, Int.reduceLT, Int.reduceLE, Int.reduceNeg, Int.reduceAdd, Int.reduceSub, Int.reduceMul, Nat.reduceEqDiff, Int.reduceEq, Nat.reduceLeDiff, ↓reduceIte, List.isEmpty_cons, v_ixT y0, v_ixT y1, m0]
  rw [map_int, dot_eq hl] at H2
  have el : ((ws.map PyData.int).length : Int) = (ws.length : Int) := by rw [List.length_map]
  have sm : S__law_same 6 [.int (dot ws (rowOf x ws.length n) % n), .int (dot ws (rowOf x ws.length n) % n)] = .ok (.bool true) := by rw [same_int, decide_eq_true rfl]
  unfold rowOf at c1 c2 H2 sm
  unfold dot at c1 c2 sm
  refine ⟨.da (.tuple ((rowOf x ws.length n).map .int)), ?_⟩
  simp only [b_law_1, Gl, rowOf, view, freeze, ev_seq, ev_seq1, ev_seq2, ev_seq3, ev_seq4, ev_seq5, ev_ret, ev_ret1, ev_ret2, ev_retN, ev_nil, ev_bk, ev_ct, ev_if, ev_ifT, ev_ifF, ev_ifX, ev_set, ev_set0, ev_set1, ev_set3, ev_drop, ev_drop1, ev_drop2, ev_own, ev_own0, ev_own1, ev_unp, ev_unp1, ev_unp2, ev_unp3, ev_app, ev_app0, ev_app1, ev_app2, ev_put, ev_put1, ev_put2, ev_aug, ev_aug1, ev_aug2, ev_for, ev_for0, ev_forN, ev_con, ev_var, ev_var1, ev_op2, ev_op2k, ev_op1, ev_op1k, ev_nilL, ev_consL, ev_consk, ev_tup, ev_tupk, ev_dat, ev_datk, ev_call, ev_callk, ev_callF, ev_callFk, ev_usr, ev_usrk, ev_usr0, ev_test, ev_testk, ev_b, ev_bk1, ev_isN, ev_isNk, ev_notN, ev_notNk, ev_andT, ev_andT1, ev_andT0, ev_orT, ev_orT1, ev_orT0, ev_notT, ev_notTk, ev_andE, ev_andE1, ev_andE0, ev_orE, ev_orE1, ev_orE0, ev_notE, ev_notEk, ev_ifE, ev_ifE1, ev_ifE0, ev_ch, ev_ch0, ev_ch1, ev_ch2, ev_isi, ev_isi1, ev_isi2, ev_isi3, ev_isi4, ev_isi5, ev_isi6, ev_sl, ev_slk, ev_slL, ev_slT, ev_slS, ev_par0, ev_par, ev_park, ev_seqE, ev_seqEL, ev_seqET, ev_seqES, ev_rg, ev_rgk, ev_en, ev_enL, ev_enT, ev_enS, ev_zi, ev_ziLL, ev_ziTT, ev_ziLT, ev_ziTL, ev_ziSS, ev_comp, ev_compk, v_add, v_sub, v_neg, v_eq, v_ne, v_lt, v_le, v_gt, v_ge, v_mulL, v_mulR, v_p9, v_p18, v_mod, v_div, v_int, v_lenL, v_lenT, v_lenS, v_tupL, v_tupT, v_itL, v_itT, v_ixL, v_ixT, v_sum, v_all, v_any, v_range1, v_range2, v_catT, v_catL, i_1, ev_run, ev_end1, ev_end2, ev_end3, ev_vN, ev_vC, ev_sU, ev_sD, ev_sO, ev_fN, ev_fC, ev_zU, ev_zD, ev_zO, fl1, fl2, fl3, fl4, fl5, sg0, sg1, se0, se1, List.map_cons, List.map_nil, List.length_cons, List.length_nil, List.cons_append, List.nil_append, List.append_nil, List.set_cons_zero, List.set_cons_succ, List.getElem?_cons_zero, List.getElem?_cons_succ, List.getElem?_nil, List.any_cons, List.any_nil, R.hard_ok, noLst, noLsts, t_N1, t_N2, t_N3, t_N4, t_N5, t_N6, isInt, isBool, isStr, isTup, isLst, gam0, List.replicate, wipeE, if_true, if_false, Bool.false_eq_true, Bool.true_eq_false, Bool.not_true, Bool.not_false, Bool.true_or, Bool.false_or, Bool.or_true, Bool.or_false, Bool.true_and, Bool.false_and, Bool.and_true, Bool.and_false, Bool.and_self, Bool.or_self, decide_true, decide_false, Nat.reduceBEq, Nat.reduceAdd, Nat.reduceSub, Nat.reduceLT, Int.reduceLT, Int.reduceLE, Int.reduceNeg, Int.reduceAdd, Int.reduceSub, Int.reduceMul, Nat.reduceEqDiff, Int.reduceEq, Nat.reduceLeDiff, ↓reduceIte, List.isEmpty_cons, el, v_range1 hz, H, c1, c2, H2, v_sum, v_mod hn', sm]
end
end K55

set_option Elab.async false
set_option linter.all false
set_option maxRecDepth 100000
set_option maxHeartbeats 4000000
namespace K55
open PySem RB Lib
theorem fin_change : S_finds_change [.tuple [.int 30], .int 31] = .ok .none := by
  have h := s_finds_change (ws := [30]) (n := 31) ⟨by decide, by decide, by decide⟩ (by decide) (by decide)
  have e : hitsOf (fun p => [(30 : Int)].getD p 0) [(30 : Int)].length 31 = [] := List.isEmpty_iff.mp (by rw [hits_nil (by decide)]; decide +kernel)
  rw [e] at h
  exact h
def t30 : D := .tuple (List.replicate 12 (.int 30))
theorem fin_check : S_check_of [t30, .int 31, t30] = .ok (.int 12) := by
  have h := s_check_of (c := .tuple ((List.replicate 12 (30 : Int)).map .int)) (e := .tuple ((List.replicate 12 (30 : Int)).map .int)) (ws := List.replicate 12 30) (row := List.replicate 12 30) (n := 31) (.inl rfl) ⟨by decide, by decide, by decide⟩ (by decide) (by decide) (.inl rfl) rfl (by decide)
  exact h
theorem rep12 : mulD (.tuple [.int 30]) (.int 12) = .ok t30 := rfl
theorem no_fst (f : Nat → Int) (m n : Nat) : noLst ((hitsOf f m n).head?.getD .none) = true := by
  cases e : hitsOf f m n with
  | nil => rfl
  | cons x xs =>
    obtain ⟨p, a, b, rfl⟩ := mem_hits (f := f) (m := m) (n := n) (d := x) (by rw [e]; exact List.mem_cons_self)
    rfl
def copF (n : Nat) : D → Option D
  | .int w => if cop w n = true then none else some (.int w)
  | _ => none
theorem cop_list {ws : List Int} {n : Nat} (h2 : 2 ≤ n) (h3 : n ≤ 31) {ε : RB.Env} (hε : ∀ w : Int, ∃ r, (ε.set 14 (some (.int w))) = r ∧ r[14]? = some (some (.int w)) ∧ r[2]? = some (some (.int (n : Int)))) :
    compL (.nm 14) (notT (testE (usrE S__law_divides [var 14, var 2]))) (var 14) ε (ws.map .int) = .ok ((ws.filter fun w => !cop w n).map .int) := by
  rw [compL_eq (copF n) _ fun d hd => by
      obtain ⟨w, hw, rfl⟩ := List.mem_map.mp hd
      obtain ⟨r, e, e1, e2⟩ := hε w
      refine ⟨[(14, .int w)], rfl, ?_⟩
      simp only [se1, se0, e]
      cases c : cop w n with
      | true => exact .inr ⟨by simp only [view, freeze, ev_seq, ev_seq1, ev_seq2, ev_seq3, ev_seq4, ev_seq5, ev_ret, ev_ret1, ev_ret2, ev_retN, ev_nil, ev_bk, ev_ct, ev_if, ev_ifT, ev_ifF, ev_ifX, ev_set, ev_set0, ev_set1, ev_set3, ev_drop, ev_drop1, ev_drop2, ev_own, ev_own0, ev_own1, ev_unp, ev_unp1, ev_unp2, ev_unp3, ev_app, ev_app0, ev_app1, ev_app2, ev_put, ev_put1, ev_put2, ev_aug, ev_aug1, ev_aug2, ev_for, ev_for0, ev_forN, ev_con, ev_var, ev_var1, ev_op2, ev_op2k, ev_op1, ev_op1k, ev_nilL, ev_consL, ev_consk, ev_tup, ev_tupk, ev_dat, ev_datk, ev_call, ev_callk, ev_callF, ev_callFk, ev_usr, ev_usrk, ev_usr0, ev_test, ev_testk, ev_b, ev_bk1, ev_isN, ev_isNk, ev_notN, ev_notNk, ev_andT, ev_andT1, ev_andT0, ev_orT, ev_orT1, ev_orT0, ev_notT, ev_notTk, ev_andE, ev_andE1, ev_andE0, ev_orE, ev_orE1, ev_orE0, ev_notE, ev_notEk, ev_ifE, ev_ifE1, ev_ifE0, ev_ch, ev_ch0, ev_ch1, ev_ch2, ev_isi, ev_isi1, ev_isi2, ev_isi3, ev_isi4, ev_isi5, ev_isi6, ev_sl, ev_slk, ev_slL, ev_slT, ev_slS, ev_par0, ev_par, ev_park, ev_seqE, ev_seqEL, ev_seqET, ev_seqES, ev_rg, ev_rgk, ev_en, ev_enL, ev_enT, ev_enS, ev_zi, ev_ziLL, ev_ziTT, ev_ziLT, ev_ziTL, ev_ziSS, ev_comp, ev_compk, v_add, v_sub, v_neg, v_eq, v_ne, v_lt, v_le, v_gt, v_ge, v_mulL, v_mulR, v_p9, v_p18, v_mod, v_div, v_int, v_lenL, v_lenT, v_lenS, v_tupL, v_tupT, v_itL, v_itT, v_ixL, v_ixT, v_sum, v_all, v_any, v_range1, v_range2, v_catT, v_catL, i_1, ev_run, ev_end1, ev_end2, ev_end3, ev_vN, ev_vC, ev_sU, ev_sD, ev_sO, ev_fN, ev_fC, ev_zU, ev_zD, ev_zO, fl1, fl2, fl3, fl4, fl5, sg0, sg1, se0, se1, List.map_cons, List.map_nil, List.length_cons, List.length_nil, List.cons_append, List.nil_append, List.append_nil, List.set_cons_zero, List.set_cons_succ, List.getElem?_cons_zero, List.getElem?_cons_succ, List.getElem?_nil, List.any_cons, List.any_nil, R.hard_ok, noLst, noLsts, t_N1, t_N2, t_N3, t_N4, t_N5, t_N6, isInt, isBool, isStr, isTup, isLst, gam0, List.replicate, wipeE, if_true, if_false, Bool.false_eq_true, Bool.true_eq_false, Bool.not_true, Bool.not_false, Bool.true_or, Bool.false_or, Bool.or_true, Bool.or_false, Bool.true_and, Bool.false_and, Bool.and_true, Bool.and_false, Bool.and_self, Bool.or_self, decide_true, decide_false, Nat.reduceBEq, Nat.reduceAdd, Nat.reduceSub, Nat.reduceLT, Int.reduceLT, Int.reduceLE, Int.reduceNeg, Int.reduceAdd, Int.reduceSub, Int.reduceMul, Nat.reduceEqDiff, Int.reduceEq, Nat.reduceLeDiff, ↓reduceIte, List.isEmpty_cons, e1, e2, s_law_divides h2 h3, c], by show (if cop w n = true then none else _) = _; rw [c]; rfl⟩
      | false => exact .inl ⟨by simp only [view, freeze, ev_seq, ev_seq1, ev_seq2, ev_seq3, ev_seq4, ev_seq5, ev_ret, ev_ret1, ev_ret2, ev_retN, ev_nil, ev_bk, ev_ct, ev_if, ev_ifT, ev_ifF, ev_ifX, ev_set, ev_set0, ev_set1, ev_set3, ev_drop, ev_drop1, ev_drop2, ev_own, ev_own0, ev_own1, ev_unp, ev_unp1, ev_unp2, ev_unp3, ev_app, ev_app0, ev_app1, ev_app2, ev_put, ev_put1, ev_put2, ev_aug, ev_aug1, ev_aug2, ev_for, ev_for0, ev_forN, ev_con, ev_var, ev_var1, ev_op2, ev_op2k, ev_op1, ev_op1k, ev_nilL, ev_consL, ev_consk, ev_tup, ev_tupk, ev_dat, ev_datk, ev_call, ev_callk, ev_callF, ev_callFk, ev_usr, ev_usrk, ev_usr0, ev_test, ev_testk, ev_b, ev_bk1, ev_isN, ev_isNk, ev_notN, ev_notNk, ev_andT, ev_andT1, ev_andT0, ev_orT, ev_orT1, ev_orT0, ev_notT, ev_notTk, ev_andE, ev_andE1, ev_andE0, ev_orE, ev_orE1, ev_orE0, ev_notE, ev_notEk, ev_ifE, ev_ifE1, ev_ifE0, ev_ch, ev_ch0, ev_ch1, ev_ch2, ev_isi, ev_isi1, ev_isi2, ev_isi3, ev_isi4, ev_isi5, ev_isi6, ev_sl, ev_slk, ev_slL, ev_slT, ev_slS, ev_par0, ev_par, ev_park, ev_seqE, ev_seqEL, ev_seqET, ev_seqES, ev_rg, ev_rgk, ev_en, ev_enL, ev_enT, ev_enS, ev_zi, ev_ziLL, ev_ziTT, ev_ziLT, ev_ziTL, ev_ziSS, ev_comp, ev_compk, v_add, v_sub, v_neg, v_eq, v_ne, v_lt, v_le, v_gt, v_ge, v_mulL, v_mulR, v_p9, v_p18, v_mod, v_div, v_int, v_lenL, v_lenT, v_lenS, v_tupL, v_tupT, v_itL, v_itT, v_ixL, v_ixT, v_sum, v_all, v_any, v_range1, v_range2, v_catT, v_catL, i_1, ev_run, ev_end1, ev_end2, ev_end3, ev_vN, ev_vC, ev_sU, ev_sD, ev_sO, ev_fN, ev_fC, ev_zU, ev_zD, ev_zO, fl1, fl2, fl3, fl4, fl5, sg0, sg1, se0, se1, List.map_cons, List.map_nil, List.length_cons, List.length_nil, List.cons_append, List.nil_append, List.append_nil, List.set_cons_zero, List.set_cons_succ, List.getElem?_cons_zero, List.getElem?_cons_succ, List.getElem?_nil, List.any_cons, List.any_nil, R.hard_ok, noLst, noLsts, t_N1, t_N2, t_N3, t_N4, t_N5, t_N6, isInt, isBool, isStr, isTup, isLst, gam0, List.replicate, wipeE, if_true, if_false, Bool.false_eq_true, Bool.true_eq_false, Bool.not_true, Bool.not_false, Bool.true_or, Bool.false_or, Bool.or_true, Bool.or_false, Bool.true_and, Bool.false_and, Bool.and_true, Bool.and_false, Bool.and_self, Bool.or_self, decide_true, decide_false, Nat.reduceBEq, Nat.reduceAdd, Nat.reduceSub, Nat.reduceLT, Int.reduceLT, Int.reduceLE, Int.reduceNeg, Int.reduceAdd, Int.reduceSub, Int.reduceMul, Nat.reduceEqDiff, Int.reduceEq, Nat.reduceLeDiff, ↓reduceIte, List.isEmpty_cons, e1, e2, s_law_divides h2 h3, c], .int w, by simp only [view, freeze, ev_seq, ev_seq1, ev_seq2, ev_seq3, ev_seq4, ev_seq5, ev_ret, ev_ret1, ev_ret2, ev_retN, ev_nil, ev_bk, ev_ct, ev_if, ev_ifT, ev_ifF, ev_ifX, ev_set, ev_set0, ev_set1, ev_set3, ev_drop, ev_drop1, ev_drop2, ev_own, ev_own0, ev_own1, ev_unp, ev_unp1, ev_unp2, ev_unp3, ev_app, ev_app0, ev_app1, ev_app2, ev_put, ev_put1, ev_put2, ev_aug, ev_aug1, ev_aug2, ev_for, ev_for0, ev_forN, ev_con, ev_var, ev_var1, ev_op2, ev_op2k, ev_op1, ev_op1k, ev_nilL, ev_consL, ev_consk, ev_tup, ev_tupk, ev_dat, ev_datk, ev_call, ev_callk, ev_callF, ev_callFk, ev_usr, ev_usrk, ev_usr0, ev_test, ev_testk, ev_b, ev_bk1, ev_isN, ev_isNk, ev_notN, ev_notNk, ev_andT, ev_andT1, ev_andT0, ev_orT, ev_orT1, ev_orT0, ev_notT, ev_notTk, ev_andE, ev_andE1, ev_andE0, ev_orE, ev_orE1, ev_orE0, ev_notE, ev_notEk, ev_ifE, ev_ifE1, ev_ifE0, ev_ch, ev_ch0, ev_ch1, ev_ch2, ev_isi, ev_isi1, ev_isi2, ev_isi3, ev_isi4, ev_isi5, ev_isi6, ev_sl, ev_slk, ev_slL, ev_slT, ev_slS, ev_par0, ev_par, ev_park, ev_seqE, ev_seqEL, ev_seqET, ev_seqES, ev_rg, ev_rgk, ev_en, ev_enL, ev_enT, ev_enS, ev_zi, ev_ziLL, ev_ziTT, ev_ziLT, ev_ziTL, ev_ziSS, ev_comp, ev_compk, v_add, v_sub, v_neg, v_eq, v_ne, v_lt, v_le, v_gt, v_ge, v_mulL, v_mulR, v_p9, v_p18, v_mod, v_div, v_int, v_lenL, v_lenT, v_lenS, v_tupL, v_tupT, v_itL, v_itT, v_ixL, v_ixT, v_sum, v_all, v_any, v_range1, v_range2, v_catT, v_catL, i_1, ev_run, ev_end1, ev_end2, ev_end3, ev_vN, ev_vC, ev_sU, ev_sD, ev_sO, ev_fN, ev_fC, ev_zU, ev_zD, ev_zO, fl1, fl2, fl3, fl4, fl5, sg0, sg1, se0, se1, List.map_cons, List.map_nil, List.length_cons, List.length_nil, List.cons_append, List.nil_append, List.append_nil, List.set_cons_zero, List.set_cons_succ, List.getElem?_cons_zero, List.getElem?_cons_succ, List.getElem?_nil, List.any_cons, List.any_nil, R.hard_ok, noLst, noLsts, t_N1, t_N2, t_N3, t_N4, t_N5, t_N6, isInt, isBool, isStr, isTup, isLst, gam0, List.replicate, wipeE, if_true, if_false, Bool.false_eq_true, Bool.true_eq_false, Bool.not_true, Bool.not_false, Bool.true_or, Bool.false_or, Bool.or_true, Bool.or_false, Bool.true_and, Bool.false_and, Bool.and_true, Bool.and_false, Bool.and_self, Bool.or_self, decide_true, decide_false, Nat.reduceBEq, Nat.reduceAdd, Nat.reduceSub, Nat.reduceLT, Int.reduceLT, Int.reduceLE, Int.reduceNeg, Int.reduceAdd, Int.reduceSub, Int.reduceMul, Nat.reduceEqDiff, Int.reduceEq, Nat.reduceLeDiff, ↓reduceIte, List.isEmpty_cons, e1], by show (if cop w n = true then none else _) = _; rw [c]; rfl⟩]
  congr 1
  rw [List.filterMap_map]
  clear hε
  induction ws with
  | nil => rfl
  | cons w ws ih =>
    rw [List.filterMap_cons, List.filter_cons]
    have e : (copF n ∘ PyData.int) w = if cop w n = true then none else some (PyData.int w) := rfl
    rw [e, ih]
    cases c : cop w n with
    | true => rfl
    | false => rfl
theorem plain_ints (xs : List Int) : ∀ x ∈ xs.map PyData.int, RB.plain x = true ∧ x.depth ≤ 60 := fun x hx => by
  obtain ⟨i, _, rfl⟩ := List.mem_map.mp hx
  exact ⟨rfl, by simp [PyData.depth]⟩
theorem law_true (ns : List Int) (hlen : ns.length ≤ 63) : S_law [.list (ns.map .int)] = .ok (.bool true) := by
  obtain ⟨xs, hl, hb, e⟩ := s_law_numbers ns 0 4 (by decide)
  match xs, hl with
  | [n0, n1, n2, n3], _ =>
  have hn0 := (hb n0 (by simp)).1
  have e : S__law_numbers [.list (ns.map .int), .int 0, .int 4] = .ok (.list [.int n0, .int n1, .int n2, .int n3]) := e
  obtain ⟨n, hn⟩ : ∃ n : Nat, 2 + n0 % 30 = (n : Int) := ⟨(2 + n0 % 30).toNat, by omega⟩
  have h2 : 2 ≤ n := by omega
  have h3 : n ≤ 31 := by omega
  obtain ⟨m, hm⟩ : ∃ m : Nat, 1 + n0 / 30 % 12 = (m : Int) := ⟨(1 + n0 / 30 % 12).toNat, by omega⟩
  have hmz : m ≤ 16777216 := by omega
  have H := compR_map (i := 4) (fe := op2E modD (callE (on1 intG) [op2E addD (op2E divD (op2E ixD (var 1) (con (.int 1))) (op2E addD (var 4) (con (.int 1)))) (op2E mulD (con (.int 7)) (var 4))]) (con (.int 31)))
    (ε := [some (.list (ns.map .int)), some (.list [.int n0, .int n1, .int n2, .int n3]), some (.int (n : Int)), none, none, none, none, none, none, none, none, none, none, none, none])
    (fun k => .int ((n1 / ((k : Nat) + 1) + 7 * (k : Nat)) % 31)) m fun k hk => by
      have d0 := v_div (i := n1) (j := (k : Int) + 1) (by omega) (by omega)
      have x1 : ixD (.list [.int n0, .int n1, .int n2, .int n3]) (.int 1) = .ok (.int n1) := rfl
      simp only [view, freeze, ev_seq, ev_seq1, ev_seq2, ev_seq3, ev_seq4, ev_seq5, ev_ret, ev_ret1, ev_ret2, ev_retN, ev_nil, ev_bk, ev_ct, ev_if, ev_ifT, ev_ifF, ev_ifX, ev_set, ev_set0, ev_set1, ev_set3, ev_drop, ev_drop1, ev_drop2, ev_own, ev_own0, ev_own1, ev_unp, ev_unp1, ev_unp2, ev_unp3, ev_app, ev_app0, ev_app1, ev_app2, ev_put, ev_put1, ev_put2, ev_aug, ev_aug1, ev_aug2, ev_for, ev_for0, ev_forN, ev_con, ev_var, ev_var1, ev_op2, ev_op2k, ev_op1, ev_op1k, ev_nilL, ev_consL, ev_consk, ev_tup, ev_tupk, ev_dat, ev_datk, ev_call, ev_callk, ev_callF, ev_callFk, ev_usr, ev_usrk, ev_usr0, ev_test, ev_testk, ev_b, ev_bk1, ev_isN, ev_isNk, ev_notN, ev_notNk, ev_andT, ev_andT1, ev_andT0, ev_orT, ev_orT1, ev_orT0, ev_notT, ev_notTk, ev_andE, ev_andE1, ev_andE0, ev_orE, ev_orE1, ev_orE0, ev_notE, ev_notEk, ev_ifE, ev_ifE1, ev_ifE0, ev_ch, ev_ch0, ev_ch1, ev_ch2, ev_isi, ev_isi1, ev_isi2, ev_isi3, ev_isi4, ev_isi5, ev_isi6, ev_sl, ev_slk, ev_slL, ev_slT, ev_slS, ev_par0, ev_par, ev_park, ev_seqE, ev_seqEL, ev_seqET, ev_seqES, ev_rg, ev_rgk, ev_en, ev_enL, ev_enT, ev_enS, ev_zi, ev_ziLL, ev_ziTT, ev_ziLT, ev_ziTL, ev_ziSS, ev_comp, ev_compk, v_add, v_sub, v_neg, v_eq, v_ne, v_lt, v_le, v_gt, v_ge, v_mulL, v_mulR, v_p9, v_p18, v_mod, v_div, v_int, v_lenL, v_lenT, v_lenS, v_tupL, v_tupT, v_itL, v_itT, v_ixL, v_ixT, v_sum, v_all, v_any, v_range1, v_range2, v_catT, v_catL, i_1, ev_run, ev_end1, ev_end2, ev_end3, ev_vN, ev_vC, ev_sU, ev_sD, ev_sO, ev_fN, ev_fC, ev_zU, ev_zD, ev_zO, fl1, fl2, fl3, fl4, fl5, sg0, sg1, se0, se1, List.map_cons, List.map_nil, List.length_cons, List.length_nil, List.cons_append, List.nil_append, List.append_nil, List.set_cons_zero, List.set_cons_succ, List.getElem?_cons_zero, List.getElem?_cons_succ, List.getElem?_nil, List.any_cons, List.any_nil, R.hard_ok, noLst, noLsts, t_N1, t_N2, t_N3, t_N4, t_N5, t_N6, isInt, isBool, isStr, isTup, isLst, gam0, List.replicate, wipeE, if_true, if_false, Bool.false_eq_true, Bool.true_eq_false, Bool.not_true, Bool.not_false, Bool.true_or, Bool.false_or, Bool.or_true, Bool.or_false, Bool.true_and, Bool.false_and, Bool.and_true, Bool.and_false, Bool.and_self, Bool.or_self, decide_true, decide_false, Nat.reduceBEq, Nat.reduceAdd, Nat.reduceSub, Nat.reduceLT, Int.reduceLT, Int.reduceLE, Int.reduceNeg, Int.reduceAdd, Int.reduceSub, Int.reduceMul, Nat.reduceEqDiff, Int.reduceEq, Nat.reduceLeDiff, ↓reduceIte, List.isEmpty_cons, x1, d0, v_mod (show (0 : Int) < 31 by decide)]
  rw [map_int] at H
  generalize hws : (List.range m).map (fun k : Nat => (n1 / ((k : Int) + 1) + 7 * (k : Int)) % 31) = ws at H
  have hwl : ws.length = m := by rw [← hws]; simp
  have hw : W ws := by
    refine ⟨by omega, by omega, fun w hw => ?_⟩
    rw [← hws] at hw
    obtain ⟨k, _, rfl⟩ := List.mem_map.mp hw
    omega
  have x0 : ixD (.list [.int n0, .int n1, .int n2, .int n3]) (.int 0) = .ok (.int n0) := rfl
  have s1 : S_law [.list (ns.map .int)] = endR (g_law [.da (.list (ns.map .int)), .un, .un, .un, .un, .un, .un, .un, .un, .un, .un, .un, .un, .un, .un]) := rfl
  rw [s1]
  suffices g : g_law [.da (.list (ns.map .int)), .un, .un, .un, .un, .un, .un, .un, .un, .un, .un, .un, .un, .un, .un] = .ok (.rt (.bool true)) by rw [g]; rfl
  unfold g_law
  refine (seq_nx (Γ' := [.da (.list (ns.map .int)), .da (.list [.int n0, .int n1, .int n2, .int n3]), .un, .un, .un, .un, .un, .un, .un, .un, .un, .un, .un, .un, .un]) ?_).trans ?_
  · simp only [view, freeze, ev_seq, ev_seq1, ev_seq2, ev_seq3, ev_seq4, ev_seq5, ev_ret, ev_ret1, ev_ret2, ev_retN, ev_nil, ev_bk, ev_ct, ev_if, ev_ifT, ev_ifF, ev_ifX, ev_set, ev_set0, ev_set1, ev_set3, ev_drop, ev_drop1, ev_drop2, ev_own, ev_own0, ev_own1, ev_unp, ev_unp1, ev_unp2, ev_unp3, ev_app, ev_app0, ev_app1, ev_app2, ev_put, ev_put1, ev_put2, ev_aug, ev_aug1, ev_aug2, ev_for, ev_for0, ev_forN, ev_con, ev_var, ev_var1, ev_op2, ev_op2k, ev_op1, ev_op1k, ev_nilL, ev_consL, ev_consk, ev_tup, ev_tupk, ev_dat, ev_datk, ev_call, ev_callk, ev_callF, ev_callFk, ev_usr, ev_usrk, ev_usr0, ev_test, ev_testk, ev_b, ev_bk1, ev_isN, ev_isNk, ev_notN, ev_notNk, ev_andT, ev_andT1, ev_andT0, ev_orT, ev_orT1, ev_orT0, ev_notT, ev_notTk, ev_andE, ev_andE1, ev_andE0, ev_orE, ev_orE1, ev_orE0, ev_notE, ev_notEk, ev_ifE, ev_ifE1, ev_ifE0, ev_ch, ev_ch0, ev_ch1, ev_ch2, ev_isi, ev_isi1, ev_isi2, ev_isi3, ev_isi4, ev_isi5, ev_isi6, ev_sl, ev_slk, ev_slL, ev_slT, ev_slS, ev_par0, ev_par, ev_park, ev_seqE, ev_seqEL, ev_seqET, ev_seqES, ev_rg, ev_rgk, ev_en, ev_enL, ev_enT, ev_enS, ev_zi, ev_ziLL, ev_ziTT, ev_ziLT, ev_ziTL, ev_ziSS, ev_comp, ev_compk, v_add, v_sub, v_neg, v_eq, v_ne, v_lt, v_le, v_gt, v_ge, v_mulL, v_mulR, v_p9, v_p18, v_mod, v_div, v_int, v_lenL, v_lenT, v_lenS, v_tupL, v_tupT, v_itL, v_itT, v_ixL, v_ixT, v_sum, v_all, v_any, v_range1, v_range2, v_catT, v_catL, i_1, ev_run, ev_end1, ev_end2, ev_end3, ev_vN, ev_vC, ev_sU, ev_sD, ev_sO, ev_fN, ev_fC, ev_zU, ev_zD, ev_zO, fl1, fl2, fl3, fl4, fl5, sg0, sg1, se0, se1, List.map_cons, List.map_nil, List.length_cons, List.length_nil, List.cons_append, List.nil_append, List.append_nil, List.set_cons_zero, List.set_cons_succ, List.getElem?_cons_zero, List.getElem?_cons_succ, List.getElem?_nil, List.any_cons, List.any_nil, R.hard_ok, noLst, noLsts, t_N1, t_N2, t_N3, t_N4, t_N5, t_N6, isInt, isBool, isStr, isTup, isLst, gam0, List.replicate, wipeE, if_true, if_false, Bool.false_eq_true, Bool.true_eq_false, Bool.not_true, Bool.not_false, Bool.true_or, Bool.false_or, Bool.or_true, Bool.or_false, Bool.true_and, Bool.false_and, Bool.and_true, Bool.and_false, Bool.and_self, Bool.or_self, decide_true, decide_false, Nat.reduceBEq, Nat.reduceAdd, Nat.reduceSub, Nat.reduceLT, Int.reduceLT, Int.reduceLE, Int.reduceNeg, Int.reduceAdd, Int.reduceSub, Int.reduceMul, Nat.reduceEqDiff, Int.reduceEq, Nat.reduceLeDiff, ↓reduceIte, List.isEmpty_cons, e]
  refine (seq_nx (Γ' := [.da (.list (ns.map .int)), .da (.list [.int n0, .int n1, .int n2, .int n3]), .da (.int (n : Int)), .un, .un, .un, .un, .un, .un, .un, .un, .un, .un, .un, .un]) ?_).trans ?_
  · simp only [view, freeze, ev_seq, ev_seq1, ev_seq2, ev_seq3, ev_seq4, ev_seq5, ev_ret, ev_ret1, ev_ret2, ev_retN, ev_nil, ev_bk, ev_ct, ev_if, ev_ifT, ev_ifF, ev_ifX, ev_set, ev_set0, ev_set1, ev_set3, ev_drop, ev_drop1, ev_drop2, ev_own, ev_own0, ev_own1, ev_unp, ev_unp1, ev_unp2, ev_unp3, ev_app, ev_app0, ev_app1, ev_app2, ev_put, ev_put1, ev_put2, ev_aug, ev_aug1, ev_aug2, ev_for, ev_for0, ev_forN, ev_con, ev_var, ev_var1, ev_op2, ev_op2k, ev_op1, ev_op1k, ev_nilL, ev_consL, ev_consk, ev_tup, ev_tupk, ev_dat, ev_datk, ev_call, ev_callk, ev_callF, ev_callFk, ev_usr, ev_usrk, ev_usr0, ev_test, ev_testk, ev_b, ev_bk1, ev_isN, ev_isNk, ev_notN, ev_notNk, ev_andT, ev_andT1, ev_andT0, ev_orT, ev_orT1, ev_orT0, ev_notT, ev_notTk, ev_andE, ev_andE1, ev_andE0, ev_orE, ev_orE1, ev_orE0, ev_notE, ev_notEk, ev_ifE, ev_ifE1, ev_ifE0, ev_ch, ev_ch0, ev_ch1, ev_ch2, ev_isi, ev_isi1, ev_isi2, ev_isi3, ev_isi4, ev_isi5, ev_isi6, ev_sl, ev_slk, ev_slL, ev_slT, ev_slS, ev_par0, ev_par, ev_park, ev_seqE, ev_seqEL, ev_seqET, ev_seqES, ev_rg, ev_rgk, ev_en, ev_enL, ev_enT, ev_enS, ev_zi, ev_ziLL, ev_ziTT, ev_ziLT, ev_ziTL, ev_ziSS, ev_comp, ev_compk, v_add, v_sub, v_neg, v_eq, v_ne, v_lt, v_le, v_gt, v_ge, v_mulL, v_mulR, v_p9, v_p18, v_mod, v_div, v_int, v_lenL, v_lenT, v_lenS, v_tupL, v_tupT, v_itL, v_itT, v_ixL, v_ixT, v_sum, v_all, v_any, v_range1, v_range2, v_catT, v_catL, i_1, ev_run, ev_end1, ev_end2, ev_end3, ev_vN, ev_vC, ev_sU, ev_sD, ev_sO, ev_fN, ev_fC, ev_zU, ev_zD, ev_zO, fl1, fl2, fl3, fl4, fl5, sg0, sg1, se0, se1, List.map_cons, List.map_nil, List.length_cons, List.length_nil, List.cons_append, List.nil_append, List.append_nil, List.set_cons_zero, List.set_cons_succ, List.getElem?_cons_zero, List.getElem?_cons_succ, List.getElem?_nil, List.any_cons, List.any_nil, R.hard_ok, noLst, noLsts, t_N1, t_N2, t_N3, t_N4, t_N5, t_N6, isInt, isBool, isStr, isTup, isLst, gam0, List.replicate, wipeE, if_true, if_false, Bool.false_eq_true, Bool.true_eq_false, Bool.not_true, Bool.not_false, Bool.true_or, Bool.false_or, Bool.or_true, Bool.or_false, Bool.true_and, Bool.false_and, Bool.and_true, Bool.and_false, Bool.and_self, Bool.or_self, decide_true, decide_false, Nat.reduceBEq, Nat.reduceAdd, Nat.reduceSub, Nat.reduceLT, Int.reduceLT, Int.reduceLE, Int.reduceNeg, Int.reduceAdd, Int.reduceSub, Int.reduceMul, Nat.reduceEqDiff, Int.reduceEq, Nat.reduceLeDiff, ↓reduceIte, List.isEmpty_cons, x0, v_mod (show (0 : Int) < 30 by decide), hn]
  generalize hsc : PyData.list (ns.map .int) = sc at H ⊢
  refine (seq_nx (Γ' := Gl sc (.list [.int n0, .int n1, .int n2, .int n3]) n ws .un .un) ?_).trans ?_
  · simp only [Gl, view, freeze, ev_seq, ev_seq1, ev_seq2, ev_seq3, ev_seq4, ev_seq5, ev_ret, ev_ret1, ev_ret2, ev_retN, ev_nil, ev_bk, ev_ct, ev_if, ev_ifT, ev_ifF, ev_ifX, ev_set, ev_set0, ev_set1, ev_set3, ev_drop, ev_drop1, ev_drop2, ev_own, ev_own0, ev_own1, ev_unp, ev_unp1, ev_unp2, ev_unp3, ev_app, ev_app0, ev_app1, ev_app2, ev_put, ev_put1, ev_put2, ev_aug, ev_aug1, ev_aug2, ev_for, ev_for0, ev_forN, ev_con, ev_var, ev_var1, ev_op2, ev_op2k, ev_op1, ev_op1k, ev_nilL, ev_consL, ev_consk, ev_tup, ev_tupk, ev_dat, ev_datk, ev_call, ev_callk, ev_callF, ev_callFk, ev_usr, ev_usrk, ev_usr0, ev_test, ev_testk, ev_b, ev_bk1, ev_isN, ev_isNk, ev_notN, ev_notNk, ev_andT, ev_andT1, ev_andT0, ev_orT, ev_orT1, ev_orT0, ev_notT, ev_notTk, ev_andE, ev_andE1, ev_andE0, ev_orE, ev_orE1, ev_orE0, ev_notE, ev_notEk, ev_ifE, ev_ifE1, ev_ifE0, ev_ch, ev_ch0, ev_ch1, ev_ch2, ev_isi, ev_isi1, ev_isi2, ev_isi3, ev_isi4, ev_isi5, ev_isi6, ev_sl, ev_slk, ev_slL, ev_slT, ev_slS, ev_par0, ev_par, ev_park, ev_seqE, ev_seqEL, ev_seqET, ev_seqES, ev_rg, ev_rgk, ev_en, ev_enL, ev_enT, ev_enS, ev_zi, ev_ziLL, ev_ziTT, ev_ziLT, ev_ziTL, ev_ziSS, ev_comp, ev_compk, v_add, v_sub, v_neg, v_eq, v_ne, v_lt, v_le, v_gt, v_ge, v_mulL, v_mulR, v_p9, v_p18, v_mod, v_div, v_int, v_lenL, v_lenT, v_lenS, v_tupL, v_tupT, v_itL, v_itT, v_ixL, v_ixT, v_sum, v_all, v_any, v_range1, v_range2, v_catT, v_catL, i_1, ev_run, ev_end1, ev_end2, ev_end3, ev_vN, ev_vC, ev_sU, ev_sD, ev_sO, ev_fN, ev_fC, ev_zU, ev_zD, ev_zO, fl1, fl2, fl3, fl4, fl5, sg0, sg1, se0, se1, List.map_cons, List.map_nil, List.length_cons, List.length_nil, List.cons_append, List.nil_append, List.append_nil, List.set_cons_zero, List.set_cons_succ, List.getElem?_cons_zero, List.getElem?_cons_succ, List.getElem?_nil, List.any_cons, List.any_nil, R.hard_ok, noLst, noLsts, t_N1, t_N2, t_N3, t_N4, t_N5, t_N6, isInt, isBool, isStr, isTup, isLst, gam0, List.replicate, wipeE, if_true, if_false, Bool.false_eq_true, Bool.true_eq_false, Bool.not_true, Bool.not_false, Bool.true_or, Bool.false_or, Bool.or_true, Bool.or_false, Bool.true_and, Bool.false_and, Bool.and_true, Bool.and_false, Bool.and_self, Bool.or_self, decide_true, decide_false, Nat.reduceBEq, Nat.reduceAdd, Nat.reduceSub, Nat.reduceLT, Int.reduceLT, Int.reduceLE, Int.reduceNeg, Int.reduceAdd, Int.reduceSub, Int.reduceMul, Nat.reduceEqDiff, Int.reduceEq, Nat.reduceLeDiff, ↓reduceIte, List.isEmpty_cons, x0, v_mod (show (0 : Int) < 12 by decide), v_div (show (0 : Int) < 30 by decide) (show (30 : Int) < 1073741824 by decide), hm, v_range1 hmz, H]
  generalize hnm : PyData.list [.int n0, .int n1, .int n2, .int n3] = nm
  obtain ⟨Γ5, e5, s5, s6, rfl⟩ := forL_inv (t := .nm 5) (body := b_law_1) [.int n2, .int n3] (fun _ Γ => ∃ s5 s6, Γ = Gl sc nm n ws s5 s6) (Gl sc nm n ws .un .un) ⟨_, _, rfl⟩ fun i d hd Γ ⟨s5, s6, eΓ⟩ => by
    subst eΓ
    have : ∃ x, d = .int x := by
      have := List.mem_of_getElem? hd
      simp only [List.mem_cons, List.not_mem_nil, or_false] at this
      rcases this with h | h
      · exact ⟨_, h⟩
      · exact ⟨_, h⟩
    obtain ⟨x, rfl⟩ := this
    obtain ⟨s6', t⟩ := law_row sc nm hw h2 h3 x s5 s6
    exact ⟨[(5, .int x)], rfl, _, t, _, _, rfl⟩
  have ecut : cutD [PyData.int n0, .int n1, .int n2, .int n3] (some 2) none = [.int n2, .int n3] := rfl
  refine (seq_nx (Γ' := Gl sc nm n ws s5 s6) ?_).trans ?_
  · rw [ev_for]
    simp only [Gl] at e5 ⊢
    rw [← hnm] at e5 ⊢
    simp only [view, freeze, ev_seq, ev_seq1, ev_seq2, ev_seq3, ev_seq4, ev_seq5, ev_ret, ev_ret1, ev_ret2, ev_retN, ev_nil, ev_bk, ev_ct, ev_if, ev_ifT, ev_ifF, ev_ifX, ev_set, ev_set0, ev_set1, ev_set3, ev_drop, ev_drop1, ev_drop2, ev_own, ev_own0, ev_own1, ev_unp, ev_unp1, ev_unp2, ev_unp3, ev_app, ev_app0, ev_app1, ev_app2, ev_put, ev_put1, ev_put2, ev_aug, ev_aug1, ev_aug2, ev_for, ev_for0, ev_forN, ev_con, ev_var, ev_var1, ev_op2, ev_op2k, ev_op1, ev_op1k, ev_nilL, ev_consL, ev_consk, ev_tup, ev_tupk, ev_dat, ev_datk, ev_call, ev_callk, ev_callF, ev_callFk, ev_usr, ev_usrk, ev_usr0, ev_test, ev_testk, ev_b, ev_bk1, ev_isN, ev_isNk, ev_notN, ev_notNk, ev_andT, ev_andT1, ev_andT0, ev_orT, ev_orT1, ev_orT0, ev_notT, ev_notTk, ev_andE, ev_andE1, ev_andE0, ev_orE, ev_orE1, ev_orE0, ev_notE, ev_notEk, ev_ifE, ev_ifE1, ev_ifE0, ev_ch, ev_ch0, ev_ch1, ev_ch2, ev_isi, ev_isi1, ev_isi2, ev_isi3, ev_isi4, ev_isi5, ev_isi6, ev_sl, ev_slk, ev_slL, ev_slT, ev_slS, ev_par0, ev_par, ev_park, ev_seqE, ev_seqEL, ev_seqET, ev_seqES, ev_rg, ev_rgk, ev_en, ev_enL, ev_enT, ev_enS, ev_zi, ev_ziLL, ev_ziTT, ev_ziLT, ev_ziTL, ev_ziSS, ev_comp, ev_compk, v_add, v_sub, v_neg, v_eq, v_ne, v_lt, v_le, v_gt, v_ge, v_mulL, v_mulR, v_p9, v_p18, v_mod, v_div, v_int, v_lenL, v_lenT, v_lenS, v_tupL, v_tupT, v_itL, v_itT, v_ixL, v_ixT, v_sum, v_all, v_any, v_range1, v_range2, v_catT, v_catL, i_1, ev_run, ev_end1, ev_end2, ev_end3, ev_vN, ev_vC, ev_sU, ev_sD, ev_sO, ev_fN, ev_fC, ev_zU, ev_zD, ev_zO, fl1, fl2, fl3, fl4, fl5, sg0, sg1, se0, se1, List.map_cons, List.map_nil, List.length_cons, List.length_nil, List.cons_append, List.nil_append, List.append_nil, List.set_cons_zero, List.set_cons_succ, List.getElem?_cons_zero, List.getElem?_cons_succ, List.getElem?_nil, List.any_cons, List.any_nil, R.hard_ok, noLst, noLsts, t_N1, t_N2, t_N3, t_N4, t_N5, t_N6, isInt, isBool, isStr, isTup, isLst, gam0, List.replicate, wipeE, if_true, if_false, Bool.false_eq_true, Bool.true_eq_false, Bool.not_true, Bool.not_false, Bool.true_or, Bool.false_or, Bool.or_true, Bool.or_false, Bool.true_and, Bool.false_and, Bool.and_true, Bool.and_false, Bool.and_self, Bool.or_self, decide_true, decide_false, Nat.reduceBEq, Nat.reduceAdd, Nat.reduceSub, Nat.reduceLT, Int.reduceLT, Int.reduceLE, Int.reduceNeg, Int.reduceAdd, Int.reduceSub, Int.reduceMul, Nat.reduceEqDiff, Int.reduceEq, Nat.reduceLeDiff, ↓reduceIte, List.isEmpty_cons, ecut, e5]
  refine (seq_nx (Γ' := Gl sc nm n ws s5 s6) ?_).trans ?_
  · have sm : S__law_same 6 [.int 12, .int 12] = .ok (.bool true) := by rw [same_int]; rfl
    simp only [Gl, view, freeze, ev_seq, ev_seq1, ev_seq2, ev_seq3, ev_seq4, ev_seq5, ev_ret, ev_ret1, ev_ret2, ev_retN, ev_nil, ev_bk, ev_ct, ev_if, ev_ifT, ev_ifF, ev_ifX, ev_set, ev_set0, ev_set1, ev_set3, ev_drop, ev_drop1, ev_drop2, ev_own, ev_own0, ev_own1, ev_unp, ev_unp1, ev_unp2, ev_unp3, ev_app, ev_app0, ev_app1, ev_app2, ev_put, ev_put1, ev_put2, ev_aug, ev_aug1, ev_aug2, ev_for, ev_for0, ev_forN, ev_con, ev_var, ev_var1, ev_op2, ev_op2k, ev_op1, ev_op1k, ev_nilL, ev_consL, ev_consk, ev_tup, ev_tupk, ev_dat, ev_datk, ev_call, ev_callk, ev_callF, ev_callFk, ev_usr, ev_usrk, ev_usr0, ev_test, ev_testk, ev_b, ev_bk1, ev_isN, ev_isNk, ev_notN, ev_notNk, ev_andT, ev_andT1, ev_andT0, ev_orT, ev_orT1, ev_orT0, ev_notT, ev_notTk, ev_andE, ev_andE1, ev_andE0, ev_orE, ev_orE1, ev_orE0, ev_notE, ev_notEk, ev_ifE, ev_ifE1, ev_ifE0, ev_ch, ev_ch0, ev_ch1, ev_ch2, ev_isi, ev_isi1, ev_isi2, ev_isi3, ev_isi4, ev_isi5, ev_isi6, ev_sl, ev_slk, ev_slL, ev_slT, ev_slS, ev_par0, ev_par, ev_park, ev_seqE, ev_seqEL, ev_seqET, ev_seqES, ev_rg, ev_rgk, ev_en, ev_enL, ev_enT, ev_enS, ev_zi, ev_ziLL, ev_ziTT, ev_ziLT, ev_ziTL, ev_ziSS, ev_comp, ev_compk, v_add, v_sub, v_neg, v_eq, v_ne, v_lt, v_le, v_gt, v_ge, v_mulL, v_mulR, v_p9, v_p18, v_mod, v_div, v_int, v_lenL, v_lenT, v_lenS, v_tupL, v_tupT, v_itL, v_itT, v_ixL, v_ixT, v_sum, v_all, v_any, v_range1, v_range2, v_catT, v_catL, i_1, ev_run, ev_end1, ev_end2, ev_end3, ev_vN, ev_vC, ev_sU, ev_sD, ev_sO, ev_fN, ev_fC, ev_zU, ev_zD, ev_zO, fl1, fl2, fl3, fl4, fl5, sg0, sg1, se0, se1, List.map_cons, List.map_nil, List.length_cons, List.length_nil, List.cons_append, List.nil_append, List.append_nil, List.set_cons_zero, List.set_cons_succ, List.getElem?_cons_zero, List.getElem?_cons_succ, List.getElem?_nil, List.any_cons, List.any_nil, R.hard_ok, noLst, noLsts, t_N1, t_N2, t_N3, t_N4, t_N5, t_N6, isInt, isBool, isStr, isTup, isLst, gam0, List.replicate, wipeE, if_true, if_false, Bool.false_eq_true, Bool.true_eq_false, Bool.not_true, Bool.not_false, Bool.true_or, Bool.false_or, Bool.or_true, Bool.or_false, Bool.true_and, Bool.false_and, Bool.and_true, Bool.and_false, Bool.and_self, Bool.or_self, decide_true, decide_false, Nat.reduceBEq, Nat.reduceAdd, Nat.reduceSub, Nat.reduceLT, Int.reduceLT, Int.reduceLE, Int.reduceNeg, Int.reduceAdd, Int.reduceSub, Int.reduceMul, Nat.reduceEqDiff, Int.reduceEq, Nat.reduceLeDiff, ↓reduceIte, List.isEmpty_cons, fin_change, rep12, fin_check, sm]
  refine (seq_nx (Γ' := [.da sc, .da nm, .da (.int (n : Int)), .da (.tuple (ws.map .int)), .un, s5, s6, .ol [], .un, .un, .un, .un, .un, .un, .un]) ?_).trans ?_
  · simp only [Gl, view, freeze, ev_seq, ev_seq1, ev_seq2, ev_seq3, ev_seq4, ev_seq5, ev_ret, ev_ret1, ev_ret2, ev_retN, ev_nil, ev_bk, ev_ct, ev_if, ev_ifT, ev_ifF, ev_ifX, ev_set, ev_set0, ev_set1, ev_set3, ev_drop, ev_drop1, ev_drop2, ev_own, ev_own0, ev_own1, ev_unp, ev_unp1, ev_unp2, ev_unp3, ev_app, ev_app0, ev_app1, ev_app2, ev_put, ev_put1, ev_put2, ev_aug, ev_aug1, ev_aug2, ev_for, ev_for0, ev_forN, ev_con, ev_var, ev_var1, ev_op2, ev_op2k, ev_op1, ev_op1k, ev_nilL, ev_consL, ev_consk, ev_tup, ev_tupk, ev_dat, ev_datk, ev_call, ev_callk, ev_callF, ev_callFk, ev_usr, ev_usrk, ev_usr0, ev_test, ev_testk, ev_b, ev_bk1, ev_isN, ev_isNk, ev_notN, ev_notNk, ev_andT, ev_andT1, ev_andT0, ev_orT, ev_orT1, ev_orT0, ev_notT, ev_notTk, ev_andE, ev_andE1, ev_andE0, ev_orE, ev_orE1, ev_orE0, ev_notE, ev_notEk, ev_ifE, ev_ifE1, ev_ifE0, ev_ch, ev_ch0, ev_ch1, ev_ch2, ev_isi, ev_isi1, ev_isi2, ev_isi3, ev_isi4, ev_isi5, ev_isi6, ev_sl, ev_slk, ev_slL, ev_slT, ev_slS, ev_par0, ev_par, ev_park, ev_seqE, ev_seqEL, ev_seqET, ev_seqES, ev_rg, ev_rgk, ev_en, ev_enL, ev_enT, ev_enS, ev_zi, ev_ziLL, ev_ziTT, ev_ziLT, ev_ziTL, ev_ziSS, ev_comp, ev_compk, v_add, v_sub, v_neg, v_eq, v_ne, v_lt, v_le, v_gt, v_ge, v_mulL, v_mulR, v_p9, v_p18, v_mod, v_div, v_int, v_lenL, v_lenT, v_lenS, v_tupL, v_tupT, v_itL, v_itT, v_ixL, v_ixT, v_sum, v_all, v_any, v_range1, v_range2, v_catT, v_catL, i_1, ev_run, ev_end1, ev_end2, ev_end3, ev_vN, ev_vC, ev_sU, ev_sD, ev_sO, ev_fN, ev_fC, ev_zU, ev_zD, ev_zO, fl1, fl2, fl3, fl4, fl5, sg0, sg1, se0, se1, List.map_cons, List.map_nil, List.length_cons, List.length_nil, List.cons_append, List.nil_append, List.append_nil, List.set_cons_zero, List.set_cons_succ, List.getElem?_cons_zero, List.getElem?_cons_succ, List.getElem?_nil, List.any_cons, List.any_nil, R.hard_ok, noLst, noLsts, t_N1, t_N2, t_N3, t_N4, t_N5, t_N6, isInt, isBool, isStr, isTup, isLst, gam0, List.replicate, wipeE, if_true, if_false, Bool.false_eq_true, Bool.true_eq_false, Bool.not_true, Bool.not_false, Bool.true_or, Bool.false_or, Bool.or_true, Bool.or_false, Bool.true_and, Bool.false_and, Bool.and_true, Bool.and_false, Bool.and_self, Bool.or_self, decide_true, decide_false, Nat.reduceBEq, Nat.reduceAdd, Nat.reduceSub, Nat.reduceLT, Int.reduceLT, Int.reduceLE, Int.reduceNeg, Int.reduceAdd, Int.reduceSub, Int.reduceMul, Nat.reduceEqDiff, Int.reduceEq, Nat.reduceLeDiff, ↓reduceIte, List.isEmpty_cons]
  refine (seq_nx (Γ' := Gm sc nm n ws .un s5 s6 [] [] .un .un .un) ?_).trans ?_
  · simp only [Gm, view, freeze, ev_seq, ev_seq1, ev_seq2, ev_seq3, ev_seq4, ev_seq5, ev_ret, ev_ret1, ev_ret2, ev_retN, ev_nil, ev_bk, ev_ct, ev_if, ev_ifT, ev_ifF, ev_ifX, ev_set, ev_set0, ev_set1, ev_set3, ev_drop, ev_drop1, ev_drop2, ev_own, ev_own0, ev_own1, ev_unp, ev_unp1, ev_unp2, ev_unp3, ev_app, ev_app0, ev_app1, ev_app2, ev_put, ev_put1, ev_put2, ev_aug, ev_aug1, ev_aug2, ev_for, ev_for0, ev_forN, ev_con, ev_var, ev_var1, ev_op2, ev_op2k, ev_op1, ev_op1k, ev_nilL, ev_consL, ev_consk, ev_tup, ev_tupk, ev_dat, ev_datk, ev_call, ev_callk, ev_callF, ev_callFk, ev_usr, ev_usrk, ev_usr0, ev_test, ev_testk, ev_b, ev_bk1, ev_isN, ev_isNk, ev_notN, ev_notNk, ev_andT, ev_andT1, ev_andT0, ev_orT, ev_orT1, ev_orT0, ev_notT, ev_notTk, ev_andE, ev_andE1, ev_andE0, ev_orE, ev_orE1, ev_orE0, ev_notE, ev_notEk, ev_ifE, ev_ifE1, ev_ifE0, ev_ch, ev_ch0, ev_ch1, ev_ch2, ev_isi, ev_isi1, ev_isi2, ev_isi3, ev_isi4, ev_isi5, ev_isi6, ev_sl, ev_slk, ev_slL, ev_slT, ev_slS, ev_par0, ev_par, ev_park, ev_seqE, ev_seqEL, ev_seqET, ev_seqES, ev_rg, ev_rgk, ev_en, ev_enL, ev_enT, ev_enS, ev_zi, ev_ziLL, ev_ziTT, ev_ziLT, ev_ziTL, ev_ziSS, ev_comp, ev_compk, v_add, v_sub, v_neg, v_eq, v_ne, v_lt, v_le, v_gt, v_ge, v_mulL, v_mulR, v_p9, v_p18, v_mod, v_div, v_int, v_lenL, v_lenT, v_lenS, v_tupL, v_tupT, v_itL, v_itT, v_ixL, v_ixT, v_sum, v_all, v_any, v_range1, v_range2, v_catT, v_catL, i_1, ev_run, ev_end1, ev_end2, ev_end3, ev_vN, ev_vC, ev_sU, ev_sD, ev_sO, ev_fN, ev_fC, ev_zU, ev_zD, ev_zO, fl1, fl2, fl3, fl4, fl5, sg0, sg1, se0, se1, List.map_cons, List.map_nil, List.length_cons, List.length_nil, List.cons_append, List.nil_append, List.append_nil, List.set_cons_zero, List.set_cons_succ, List.getElem?_cons_zero, List.getElem?_cons_succ, List.getElem?_nil, List.any_cons, List.any_nil, R.hard_ok, noLst, noLsts, t_N1, t_N2, t_N3, t_N4, t_N5, t_N6, isInt, isBool, isStr, isTup, isLst, gam0, List.replicate, wipeE, if_true, if_false, Bool.false_eq_true, Bool.true_eq_false, Bool.not_true, Bool.not_false, Bool.true_or, Bool.false_or, Bool.or_true, Bool.or_false, Bool.true_and, Bool.false_and, Bool.and_true, Bool.and_false, Bool.and_self, Bool.or_self, decide_true, decide_false, Nat.reduceBEq, Nat.reduceAdd, Nat.reduceSub, Nat.reduceLT, Int.reduceLT, Int.reduceLE, Int.reduceNeg, Int.reduceAdd, Int.reduceSub, Int.reduceMul, Nat.reduceEqDiff, Int.reduceEq, Nat.reduceLeDiff, ↓reduceIte, List.isEmpty_cons]
  obtain ⟨s9, s10, s11, e9⟩ := law_p sc nm n ws .un s5 s6 hw h2 h3 .un .un .un
  rw [allB_eq, allC_eq n ws hw.1] at e9
  have el : ((ws.map PyData.int).length : Int) = (ws.length : Int) := by rw [List.length_map]
  have hlz : ws.length ≤ 16777216 := by omega
  refine (seq_nx (Γ' := Gm sc nm n ws .un s5 s6 (hitsOf (wf ws) ws.length n) (hitsOf (wg ws) (ws.length - 1) n) s9 s10 s11) ?_).trans ?_
  · simp only [Gm] at e9 ⊢
    simp only [view, freeze, ev_seq, ev_seq1, ev_seq2, ev_seq3, ev_seq4, ev_seq5, ev_ret, ev_ret1, ev_ret2, ev_retN, ev_nil, ev_bk, ev_ct, ev_if, ev_ifT, ev_ifF, ev_ifX, ev_set, ev_set0, ev_set1, ev_set3, ev_drop, ev_drop1, ev_drop2, ev_own, ev_own0, ev_own1, ev_unp, ev_unp1, ev_unp2, ev_unp3, ev_app, ev_app0, ev_app1, ev_app2, ev_put, ev_put1, ev_put2, ev_aug, ev_aug1, ev_aug2, ev_for, ev_for0, ev_forN, ev_con, ev_var, ev_var1, ev_op2, ev_op2k, ev_op1, ev_op1k, ev_nilL, ev_consL, ev_consk, ev_tup, ev_tupk, ev_dat, ev_datk, ev_call, ev_callk, ev_callF, ev_callFk, ev_usr, ev_usrk, ev_usr0, ev_test, ev_testk, ev_b, ev_bk1, ev_isN, ev_isNk, ev_notN, ev_notNk, ev_andT, ev_andT1, ev_andT0, ev_orT, ev_orT1, ev_orT0, ev_notT, ev_notTk, ev_andE, ev_andE1, ev_andE0, ev_orE, ev_orE1, ev_orE0, ev_notE, ev_notEk, ev_ifE, ev_ifE1, ev_ifE0, ev_ch, ev_ch0, ev_ch1, ev_ch2, ev_isi, ev_isi1, ev_isi2, ev_isi3, ev_isi4, ev_isi5, ev_isi6, ev_sl, ev_slk, ev_slL, ev_slT, ev_slS, ev_par0, ev_par, ev_park, ev_seqE, ev_seqEL, ev_seqET, ev_seqES, ev_rg, ev_rgk, ev_en, ev_enL, ev_enT, ev_enS, ev_zi, ev_ziLL, ev_ziTT, ev_ziLT, ev_ziTL, ev_ziSS, ev_comp, ev_compk, v_add, v_sub, v_neg, v_eq, v_ne, v_lt, v_le, v_gt, v_ge, v_mulL, v_mulR, v_p9, v_p18, v_mod, v_div, v_int, v_lenL, v_lenT, v_lenS, v_tupL, v_tupT, v_itL, v_itT, v_ixL, v_ixT, v_sum, v_all, v_any, v_range1, v_range2, v_catT, v_catL, i_1, ev_run, ev_end1, ev_end2, ev_end3, ev_vN, ev_vC, ev_sU, ev_sD, ev_sO, ev_fN, ev_fC, ev_zU, ev_zD, ev_zO, fl1, fl2, fl3, fl4, fl5, sg0, sg1, se0, se1, List.map_cons, List.map_nil, List.length_cons, List.length_nil, List.cons_append, List.nil_append, List.append_nil, List.set_cons_zero, List.set_cons_succ, List.getElem?_cons_zero, List.getElem?_cons_succ, List.getElem?_nil, List.any_cons, List.any_nil, R.hard_ok, noLst, noLsts, t_N1, t_N2, t_N3, t_N4, t_N5, t_N6, isInt, isBool, isStr, isTup, isLst, gam0, List.replicate, wipeE, if_true, if_false, Bool.false_eq_true, Bool.true_eq_false, Bool.not_true, Bool.not_false, Bool.true_or, Bool.false_or, Bool.or_true, Bool.or_false, Bool.true_and, Bool.false_and, Bool.and_true, Bool.and_false, Bool.and_self, Bool.or_self, decide_true, decide_false, Nat.reduceBEq, Nat.reduceAdd, Nat.reduceSub, Nat.reduceLT, Int.reduceLT, Int.reduceLE, Int.reduceNeg, Int.reduceAdd, Int.reduceSub, Int.reduceMul, Nat.reduceEqDiff, Int.reduceEq, Nat.reduceLeDiff, ↓reduceIte, List.isEmpty_cons, el, v_range1 hlz, e9]
  generalize hA : hitsOf (wf ws) ws.length n = cs
  generalize hB : hitsOf (wg ws) (ws.length - 1) n = ss
  have fA : S_finds_change [.tuple (ws.map .int), .int (n : Int)] = .ok (cs.head?.getD .none) := by rw [← hA]; exact s_finds_change hw h2 h3
  have fB : S_finds_swap [.tuple (ws.map .int), .int (n : Int)] = .ok (ss.head?.getD .none) := by rw [← hB]; exact s_finds_swap hw h2 h3
  have sA : S__law_same 6 [cs.head?.getD .none, cs.head?.getD .none] = .ok (.bool true) := by rw [← hA]; exact hits_same _ _ _
  have sB : S__law_same 6 [ss.head?.getD .none, ss.head?.getD .none] = .ok (.bool true) := by rw [← hB]; exact hits_same _ _ _
  have nA : noLst (cs.head?.getD .none) = true := by rw [← hA]; exact no_fst _ _ _
  have nB : noLst (ss.head?.getD .none) = true := by rw [← hB]; exact no_fst _ _ _
  have pA : neD (.list cs) (.list []) = .ok (.bool (!cs.isEmpty)) := v_neNil cs (by rw [← hA]; exact hits_plain _ _ _)
  have pB : neD (.list ss) (.list []) = .ok (.bool (!ss.isEmpty)) := v_neNil ss (by rw [← hB]; exact hits_plain _ _ _)
  have mA : cs ≠ [] → on1 minG [.list cs] = .ok (cs.head?.getD .none) := by rw [← hA]; exact v_min_hits
  have mB : ss ≠ [] → on1 minG [.list ss] = .ok (ss.head?.getD .none) := by rw [← hB]; exact v_min_hits
  have iA : isN (cs.head?.getD .none) = (List.range ws.length).all fun p => cop (wf ws p) n := by rw [← hA, hits_isN, hits_nil h2]
  have iB : isN (ss.head?.getD .none) = (List.range (ws.length - 1)).all fun p => cop (wg ws p) n := by rw [← hB, hits_isN, hits_nil h2]
  refine (seq_nx (Γ' := [.da sc, .da nm, .da (.int (n : Int)), .da (.tuple (ws.map .int)), .un, s5, s6, .ol cs, .ol ss, s9, s10, s11, .da .none, .un, .un]) ?_).trans ?_
  · simp only [Gm, view, freeze, ev_seq, ev_seq1, ev_seq2, ev_seq3, ev_seq4, ev_seq5, ev_ret, ev_ret1, ev_ret2, ev_retN, ev_nil, ev_bk, ev_ct, ev_if, ev_ifT, ev_ifF, ev_ifX, ev_set, ev_set0, ev_set1, ev_set3, ev_drop, ev_drop1, ev_drop2, ev_own, ev_own0, ev_own1, ev_unp, ev_unp1, ev_unp2, ev_unp3, ev_app, ev_app0, ev_app1, ev_app2, ev_put, ev_put1, ev_put2, ev_aug, ev_aug1, ev_aug2, ev_for, ev_for0, ev_forN, ev_con, ev_var, ev_var1, ev_op2, ev_op2k, ev_op1, ev_op1k, ev_nilL, ev_consL, ev_consk, ev_tup, ev_tupk, ev_dat, ev_datk, ev_call, ev_callk, ev_callF, ev_callFk, ev_usr, ev_usrk, ev_usr0, ev_test, ev_testk, ev_b, ev_bk1, ev_isN, ev_isNk, ev_notN, ev_notNk, ev_andT, ev_andT1, ev_andT0, ev_orT, ev_orT1, ev_orT0, ev_notT, ev_notTk, ev_andE, ev_andE1, ev_andE0, ev_orE, ev_orE1, ev_orE0, ev_notE, ev_notEk, ev_ifE, ev_ifE1, ev_ifE0, ev_ch, ev_ch0, ev_ch1, ev_ch2, ev_isi, ev_isi1, ev_isi2, ev_isi3, ev_isi4, ev_isi5, ev_isi6, ev_sl, ev_slk, ev_slL, ev_slT, ev_slS, ev_par0, ev_par, ev_park, ev_seqE, ev_seqEL, ev_seqET, ev_seqES, ev_rg, ev_rgk, ev_en, ev_enL, ev_enT, ev_enS, ev_zi, ev_ziLL, ev_ziTT, ev_ziLT, ev_ziTL, ev_ziSS, ev_comp, ev_compk, v_add, v_sub, v_neg, v_eq, v_ne, v_lt, v_le, v_gt, v_ge, v_mulL, v_mulR, v_p9, v_p18, v_mod, v_div, v_int, v_lenL, v_lenT, v_lenS, v_tupL, v_tupT, v_itL, v_itT, v_ixL, v_ixT, v_sum, v_all, v_any, v_range1, v_range2, v_catT, v_catL, i_1, ev_run, ev_end1, ev_end2, ev_end3, ev_vN, ev_vC, ev_sU, ev_sD, ev_sO, ev_fN, ev_fC, ev_zU, ev_zD, ev_zO, fl1, fl2, fl3, fl4, fl5, sg0, sg1, se0, se1, List.map_cons, List.map_nil, List.length_cons, List.length_nil, List.cons_append, List.nil_append, List.append_nil, List.set_cons_zero, List.set_cons_succ, List.getElem?_cons_zero, List.getElem?_cons_succ, List.getElem?_nil, List.any_cons, List.any_nil, R.hard_ok, noLst, noLsts, t_N1, t_N2, t_N3, t_N4, t_N5, t_N6, isInt, isBool, isStr, isTup, isLst, gam0, List.replicate, wipeE, if_true, if_false, Bool.false_eq_true, Bool.true_eq_false, Bool.not_true, Bool.not_false, Bool.true_or, Bool.false_or, Bool.or_true, Bool.or_false, Bool.true_and, Bool.false_and, Bool.and_true, Bool.and_false, Bool.and_self, Bool.or_self, decide_true, decide_false, Nat.reduceBEq, Nat.reduceAdd, Nat.reduceSub, Nat.reduceLT, Int.reduceLT, Int.reduceLE, Int.reduceNeg, Int.reduceAdd, Int.reduceSub, Int.reduceMul, Nat.reduceEqDiff, Int.reduceEq, Nat.reduceLeDiff, ↓reduceIte, List.isEmpty_cons]
  refine (seq_nx (Γ' := [.da sc, .da nm, .da (.int (n : Int)), .da (.tuple (ws.map .int)), .un, s5, s6, .ol cs, .ol ss, s9, s10, s11, .da (cs.head?.getD .none), .un, .un]) ?_).trans ?_
  · cases q : cs with
    | nil => rw [q] at pA; simp only [view, freeze, ev_seq, ev_seq1, ev_seq2, ev_seq3, ev_seq4, ev_seq5, ev_ret, ev_ret1, ev_ret2, ev_retN, ev_nil, ev_bk, ev_ct, ev_if, ev_ifT, ev_ifF, ev_ifX, ev_set, ev_set0, ev_set1, ev_set3, ev_drop, ev_drop1, ev_drop2, ev_own, ev_own0, ev_own1, ev_unp, ev_unp1, ev_unp2, ev_unp3, ev_app, ev_app0, ev_app1, ev_app2, ev_put, ev_put1, ev_put2, ev_aug, ev_aug1, ev_aug2, ev_for, ev_for0, ev_forN, ev_con, ev_var, ev_var1, ev_op2, ev_op2k, ev_op1, ev_op1k, ev_nilL, ev_consL, ev_consk, ev_tup, ev_tupk, ev_dat, ev_datk, ev_call, ev_callk, ev_callF, ev_callFk, ev_usr, ev_usrk, ev_usr0, ev_test, ev_testk, ev_b, ev_bk1, ev_isN, ev_isNk, ev_notN, ev_notNk, ev_andT, ev_andT1, ev_andT0, ev_orT, ev_orT1, ev_orT0, ev_notT, ev_notTk, ev_andE, ev_andE1, ev_andE0, ev_orE, ev_orE1, ev_orE0, ev_notE, ev_notEk, ev_ifE, ev_ifE1, ev_ifE0, ev_ch, ev_ch0, ev_ch1, ev_ch2, ev_isi, ev_isi1, ev_isi2, ev_isi3, ev_isi4, ev_isi5, ev_isi6, ev_sl, ev_slk, ev_slL, ev_slT, ev_slS, ev_par0, ev_par, ev_park, ev_seqE, ev_seqEL, ev_seqET, ev_seqES, ev_rg, ev_rgk, ev_en, ev_enL, ev_enT, ev_enS, ev_zi, ev_ziLL, ev_ziTT, ev_ziLT, ev_ziTL, ev_ziSS, ev_comp, ev_compk, v_add, v_sub, v_neg, v_eq, v_ne, v_lt, v_le, v_gt, v_ge, v_mulL, v_mulR, v_p9, v_p18, v_mod, v_div, v_int, v_lenL, v_lenT, v_lenS, v_tupL, v_tupT, v_itL, v_itT, v_ixL, v_ixT, v_sum, v_all, v_any, v_range1, v_range2, v_catT, v_catL, i_1, ev_run, ev_end1, ev_end2, ev_end3, ev_vN, ev_vC, ev_sU, ev_sD, ev_sO, ev_fN, ev_fC, ev_zU, ev_zD, ev_zO, fl1, fl2, fl3, fl4, fl5, sg0, sg1, se0, se1, List.map_cons, List.map_nil, List.length_cons, List.length_nil, List.cons_append, List.nil_append, List.append_nil, List.set_cons_zero, List.set_cons_succ, List.getElem?_cons_zero, List.getElem?_cons_succ, List.getElem?_nil, List.any_cons, List.any_nil, R.hard_ok, noLst, noLsts, t_N1, t_N2, t_N3, t_N4, t_N5, t_N6, isInt, isBool, isStr, isTup, isLst, gam0, List.replicate, wipeE, if_true, if_false, Bool.false_eq_true, Bool.true_eq_false, Bool.not_true, Bool.not_false, Bool.true_or, Bool.false_or, Bool.or_true, Bool.or_false, Bool.true_and, Bool.false_and, Bool.and_true, Bool.and_false, Bool.and_self, Bool.or_self, decide_true, decide_false, Nat.reduceBEq, Nat.reduceAdd, Nat.reduceSub, Nat.reduceLT, Int.reduceLT, Int.reduceLE, Int.reduceNeg, Int.reduceAdd, Int.reduceSub, Int.reduceMul, Nat.reduceEqDiff, Int.reduceEq, Nat.reduceLeDiff, ↓reduceIte, List.isEmpty_cons, pA, List.isEmpty_nil]; rfl
    | cons x r =>
      have mA' := mA (by rw [q]; exact List.cons_ne_nil _ _)
      rw [q] at pA mA' nA
      simp only [view, freeze, ev_seq, ev_seq1, ev_seq2, ev_seq3, ev_seq4, ev_seq5, ev_ret, ev_ret1, ev_ret2, ev_retN, ev_nil, ev_bk, ev_ct, ev_if, ev_ifT, ev_ifF, ev_ifX, ev_set, ev_set0, ev_set1, ev_set3, ev_drop, ev_drop1, ev_drop2, ev_own, ev_own0, ev_own1, ev_unp, ev_unp1, ev_unp2, ev_unp3, ev_app, ev_app0, ev_app1, ev_app2, ev_put, ev_put1, ev_put2, ev_aug, ev_aug1, ev_aug2, ev_for, ev_for0, ev_forN, ev_con, ev_var, ev_var1, ev_op2, ev_op2k, ev_op1, ev_op1k, ev_nilL, ev_consL, ev_consk, ev_tup, ev_tupk, ev_dat, ev_datk, ev_call, ev_callk, ev_callF, ev_callFk, ev_usr, ev_usrk, ev_usr0, ev_test, ev_testk, ev_b, ev_bk1, ev_isN, ev_isNk, ev_notN, ev_notNk, ev_andT, ev_andT1, ev_andT0, ev_orT, ev_orT1, ev_orT0, ev_notT, ev_notTk, ev_andE, ev_andE1, ev_andE0, ev_orE, ev_orE1, ev_orE0, ev_notE, ev_notEk, ev_ifE, ev_ifE1, ev_ifE0, ev_ch, ev_ch0, ev_ch1, ev_ch2, ev_isi, ev_isi1, ev_isi2, ev_isi3, ev_isi4, ev_isi5, ev_isi6, ev_sl, ev_slk, ev_slL, ev_slT, ev_slS, ev_par0, ev_par, ev_park, ev_seqE, ev_seqEL, ev_seqET, ev_seqES, ev_rg, ev_rgk, ev_en, ev_enL, ev_enT, ev_enS, ev_zi, ev_ziLL, ev_ziTT, ev_ziLT, ev_ziTL, ev_ziSS, ev_comp, ev_compk, v_add, v_sub, v_neg, v_eq, v_ne, v_lt, v_le, v_gt, v_ge, v_mulL, v_mulR, v_p9, v_p18, v_mod, v_div, v_int, v_lenL, v_lenT, v_lenS, v_tupL, v_tupT, v_itL, v_itT, v_ixL, v_ixT, v_sum, v_all, v_any, v_range1, v_range2, v_catT, v_catL, i_1, ev_run, ev_end1, ev_end2, ev_end3, ev_vN, ev_vC, ev_sU, ev_sD, ev_sO, ev_fN, ev_fC, ev_zU, ev_zD, ev_zO, fl1, fl2, fl3, fl4, fl5, sg0, sg1, se0, se1, List.map_cons, List.map_nil, List.length_cons, List.length_nil, List.cons_append, List.nil_append, List.append_nil, List.set_cons_zero, List.set_cons_succ, List.getElem?_cons_zero, List.getElem?_cons_succ, List.getElem?_nil, List.any_cons, List.any_nil, R.hard_ok, noLst, noLsts, t_N1, t_N2, t_N3, t_N4, t_N5, t_N6, isInt, isBool, isStr, isTup, isLst, gam0, List.replicate, wipeE, if_true, if_false, Bool.false_eq_true, Bool.true_eq_false, Bool.not_true, Bool.not_false, Bool.true_or, Bool.false_or, Bool.or_true, Bool.or_false, Bool.true_and, Bool.false_and, Bool.and_true, Bool.and_false, Bool.and_self, Bool.or_self, decide_true, decide_false, Nat.reduceBEq, Nat.reduceAdd, Nat.reduceSub, Nat.reduceLT, Int.reduceLT, Int.reduceLE, Int.reduceNeg, Int.reduceAdd, Int.reduceSub, Int.reduceMul, Nat.reduceEqDiff, Int.reduceEq, Nat.reduceLeDiff, ↓reduceIte, List.isEmpty_cons, pA, mA', ev_set1 _ _ _ _ nA]
  refine (seq_nx (Γ' := [.da sc, .da nm, .da (.int (n : Int)), .da (.tuple (ws.map .int)), .un, s5, s6, .ol cs, .ol ss, s9, s10, s11, .da (cs.head?.getD .none), .da .none, .un]) ?_).trans ?_
  · simp only [view, freeze, ev_seq, ev_seq1, ev_seq2, ev_seq3, ev_seq4, ev_seq5, ev_ret, ev_ret1, ev_ret2, ev_retN, ev_nil, ev_bk, ev_ct, ev_if, ev_ifT, ev_ifF, ev_ifX, ev_set, ev_set0, ev_set1, ev_set3, ev_drop, ev_drop1, ev_drop2, ev_own, ev_own0, ev_own1, ev_unp, ev_unp1, ev_unp2, ev_unp3, ev_app, ev_app0, ev_app1, ev_app2, ev_put, ev_put1, ev_put2, ev_aug, ev_aug1, ev_aug2, ev_for, ev_for0, ev_forN, ev_con, ev_var, ev_var1, ev_op2, ev_op2k, ev_op1, ev_op1k, ev_nilL, ev_consL, ev_consk, ev_tup, ev_tupk, ev_dat, ev_datk, ev_call, ev_callk, ev_callF, ev_callFk, ev_usr, ev_usrk, ev_usr0, ev_test, ev_testk, ev_b, ev_bk1, ev_isN, ev_isNk, ev_notN, ev_notNk, ev_andT, ev_andT1, ev_andT0, ev_orT, ev_orT1, ev_orT0, ev_notT, ev_notTk, ev_andE, ev_andE1, ev_andE0, ev_orE, ev_orE1, ev_orE0, ev_notE, ev_notEk, ev_ifE, ev_ifE1, ev_ifE0, ev_ch, ev_ch0, ev_ch1, ev_ch2, ev_isi, ev_isi1, ev_isi2, ev_isi3, ev_isi4, ev_isi5, ev_isi6, ev_sl, ev_slk, ev_slL, ev_slT, ev_slS, ev_par0, ev_par, ev_park, ev_seqE, ev_seqEL, ev_seqET, ev_seqES, ev_rg, ev_rgk, ev_en, ev_enL, ev_enT, ev_enS, ev_zi, ev_ziLL, ev_ziTT, ev_ziLT, ev_ziTL, ev_ziSS, ev_comp, ev_compk, v_add, v_sub, v_neg, v_eq, v_ne, v_lt, v_le, v_gt, v_ge, v_mulL, v_mulR, v_p9, v_p18, v_mod, v_div, v_int, v_lenL, v_lenT, v_lenS, v_tupL, v_tupT, v_itL, v_itT, v_ixL, v_ixT, v_sum, v_all, v_any, v_range1, v_range2, v_catT, v_catL, i_1, ev_run, ev_end1, ev_end2, ev_end3, ev_vN, ev_vC, ev_sU, ev_sD, ev_sO, ev_fN, ev_fC, ev_zU, ev_zD, ev_zO, fl1, fl2, fl3, fl4, fl5, sg0, sg1, se0, se1, List.map_cons, List.map_nil, List.length_cons, List.length_nil, List.cons_append, List.nil_append, List.append_nil, List.set_cons_zero, List.set_cons_succ, List.getElem?_cons_zero, List.getElem?_cons_succ, List.getElem?_nil, List.any_cons, List.any_nil, R.hard_ok, noLst, noLsts, t_N1, t_N2, t_N3, t_N4, t_N5, t_N6, isInt, isBool, isStr, isTup, isLst, gam0, List.replicate, wipeE, if_true, if_false, Bool.false_eq_true, Bool.true_eq_false, Bool.not_true, Bool.not_false, Bool.true_or, Bool.false_or, Bool.or_true, Bool.or_false, Bool.true_and, Bool.false_and, Bool.and_true, Bool.and_false, Bool.and_self, Bool.or_self, decide_true, decide_false, Nat.reduceBEq, Nat.reduceAdd, Nat.reduceSub, Nat.reduceLT, Int.reduceLT, Int.reduceLE, Int.reduceNeg, Int.reduceAdd, Int.reduceSub, Int.reduceMul, Nat.reduceEqDiff, Int.reduceEq, Nat.reduceLeDiff, ↓reduceIte, List.isEmpty_cons]
  refine (seq_nx (Γ' := [.da sc, .da nm, .da (.int (n : Int)), .da (.tuple (ws.map .int)), .un, s5, s6, .ol cs, .ol ss, s9, s10, s11, .da (cs.head?.getD .none), .da (ss.head?.getD .none), .un]) ?_).trans ?_
  · cases q : ss with
    | nil => rw [q] at pB; simp only [view, freeze, ev_seq, ev_seq1, ev_seq2, ev_seq3, ev_seq4, ev_seq5, ev_ret, ev_ret1, ev_ret2, ev_retN, ev_nil, ev_bk, ev_ct, ev_if, ev_ifT, ev_ifF, ev_ifX, ev_set, ev_set0, ev_set1, ev_set3, ev_drop, ev_drop1, ev_drop2, ev_own, ev_own0, ev_own1, ev_unp, ev_unp1, ev_unp2, ev_unp3, ev_app, ev_app0, ev_app1, ev_app2, ev_put, ev_put1, ev_put2, ev_aug, ev_aug1, ev_aug2, ev_for, ev_for0, ev_forN, ev_con, ev_var, ev_var1, ev_op2, ev_op2k, ev_op1, ev_op1k, ev_nilL, ev_consL, ev_consk, ev_tup, ev_tupk, ev_dat, ev_datk, ev_call, ev_callk, ev_callF, ev_callFk, ev_usr, ev_usrk, ev_usr0, ev_test, ev_testk, ev_b, ev_bk1, ev_isN, ev_isNk, ev_notN, ev_notNk, ev_andT, ev_andT1, ev_andT0, ev_orT, ev_orT1, ev_orT0, ev_notT, ev_notTk, ev_andE, ev_andE1, ev_andE0, ev_orE, ev_orE1, ev_orE0, ev_notE, ev_notEk, ev_ifE, ev_ifE1, ev_ifE0, ev_ch, ev_ch0, ev_ch1, ev_ch2, ev_isi, ev_isi1, ev_isi2, ev_isi3, ev_isi4, ev_isi5, ev_isi6, ev_sl, ev_slk, ev_slL, ev_slT, ev_slS, ev_par0, ev_par, ev_park, ev_seqE, ev_seqEL, ev_seqET, ev_seqES, ev_rg, ev_rgk, ev_en, ev_enL, ev_enT, ev_enS, ev_zi, ev_ziLL, ev_ziTT, ev_ziLT, ev_ziTL, ev_ziSS, ev_comp, ev_compk, v_add, v_sub, v_neg, v_eq, v_ne, v_lt, v_le, v_gt, v_ge, v_mulL, v_mulR, v_p9, v_p18, v_mod, v_div, v_int, v_lenL, v_lenT, v_lenS, v_tupL, v_tupT, v_itL, v_itT, v_ixL, v_ixT, v_sum, v_all, v_any, v_range1, v_range2, v_catT, v_catL, i_1, ev_run, ev_end1, ev_end2, ev_end3, ev_vN, ev_vC, ev_sU, ev_sD, ev_sO, ev_fN, ev_fC, ev_zU, ev_zD, ev_zO, fl1, fl2, fl3, fl4, fl5, sg0, sg1, se0, se1, List.map_cons, List.map_nil, List.length_cons, List.length_nil, List.cons_append, List.nil_append, List.append_nil, List.set_cons_zero, List.set_cons_succ, List.getElem?_cons_zero, List.getElem?_cons_succ, List.getElem?_nil, List.any_cons, List.any_nil, R.hard_ok, noLst, noLsts, t_N1, t_N2, t_N3, t_N4, t_N5, t_N6, isInt, isBool, isStr, isTup, isLst, gam0, List.replicate, wipeE, if_true, if_false, Bool.false_eq_true, Bool.true_eq_false, Bool.not_true, Bool.not_false, Bool.true_or, Bool.false_or, Bool.or_true, Bool.or_false, Bool.true_and, Bool.false_and, Bool.and_true, Bool.and_false, Bool.and_self, Bool.or_self, decide_true, decide_false, Nat.reduceBEq, Nat.reduceAdd, Nat.reduceSub, Nat.reduceLT, Int.reduceLT, Int.reduceLE, Int.reduceNeg, Int.reduceAdd, Int.reduceSub, Int.reduceMul, Nat.reduceEqDiff, Int.reduceEq, Nat.reduceLeDiff, ↓reduceIte, List.isEmpty_cons, pB, List.isEmpty_nil]; rfl
    | cons x r =>
      have mB' := mB (by rw [q]; exact List.cons_ne_nil _ _)
      rw [q] at pB mB' nB
      simp only [view, freeze, ev_seq, ev_seq1, ev_seq2, ev_seq3, ev_seq4, ev_seq5, ev_ret, ev_ret1, ev_ret2, ev_retN, ev_nil, ev_bk, ev_ct, ev_if, ev_ifT, ev_ifF, ev_ifX, ev_set, ev_set0, ev_set1, ev_set3, ev_drop, ev_drop1, ev_drop2, ev_own, ev_own0, ev_own1, ev_unp, ev_unp1, ev_unp2, ev_unp3, ev_app, ev_app0, ev_app1, ev_app2, ev_put, ev_put1, ev_put2, ev_aug, ev_aug1, ev_aug2, ev_for, ev_for0, ev_forN, ev_con, ev_var, ev_var1, ev_op2, ev_op2k, ev_op1, ev_op1k, ev_nilL, ev_consL, ev_consk, ev_tup, ev_tupk, ev_dat, ev_datk, ev_call, ev_callk, ev_callF, ev_callFk, ev_usr, ev_usrk, ev_usr0, ev_test, ev_testk, ev_b, ev_bk1, ev_isN, ev_isNk, ev_notN, ev_notNk, ev_andT, ev_andT1, ev_andT0, ev_orT, ev_orT1, ev_orT0, ev_notT, ev_notTk, ev_andE, ev_andE1, ev_andE0, ev_orE, ev_orE1, ev_orE0, ev_notE, ev_notEk, ev_ifE, ev_ifE1, ev_ifE0, ev_ch, ev_ch0, ev_ch1, ev_ch2, ev_isi, ev_isi1, ev_isi2, ev_isi3, ev_isi4, ev_isi5, ev_isi6, ev_sl, ev_slk, ev_slL, ev_slT, ev_slS, ev_par0, ev_par, ev_park, ev_seqE, ev_seqEL, ev_seqET, ev_seqES, ev_rg, ev_rgk, ev_en, ev_enL, ev_enT, ev_enS, ev_zi, ev_ziLL, ev_ziTT, ev_ziLT, ev_ziTL, ev_ziSS, ev_comp, ev_compk, v_add, v_sub, v_neg, v_eq, v_ne, v_lt, v_le, v_gt, v_ge, v_mulL, v_mulR, v_p9, v_p18, v_mod, v_div, v_int, v_lenL, v_lenT, v_lenS, v_tupL, v_tupT, v_itL, v_itT, v_ixL, v_ixT, v_sum, v_all, v_any, v_range1, v_range2, v_catT, v_catL, i_1, ev_run, ev_end1, ev_end2, ev_end3, ev_vN, ev_vC, ev_sU, ev_sD, ev_sO, ev_fN, ev_fC, ev_zU, ev_zD, ev_zO, fl1, fl2, fl3, fl4, fl5, sg0, sg1, se0, se1, List.map_cons, List.map_nil, List.length_cons, List.length_nil, List.cons_append, List.nil_append, List.append_nil, List.set_cons_zero, List.set_cons_succ, List.getElem?_cons_zero, List.getElem?_cons_succ, List.getElem?_nil, List.any_cons, List.any_nil, R.hard_ok, noLst, noLsts, t_N1, t_N2, t_N3, t_N4, t_N5, t_N6, isInt, isBool, isStr, isTup, isLst, gam0, List.replicate, wipeE, if_true, if_false, Bool.false_eq_true, Bool.true_eq_false, Bool.not_true, Bool.not_false, Bool.true_or, Bool.false_or, Bool.or_true, Bool.or_false, Bool.true_and, Bool.false_and, Bool.and_true, Bool.and_false, Bool.and_self, Bool.or_self, decide_true, decide_false, Nat.reduceBEq, Nat.reduceAdd, Nat.reduceSub, Nat.reduceLT, Int.reduceLT, Int.reduceLE, Int.reduceNeg, Int.reduceAdd, Int.reduceSub, Int.reduceMul, Nat.reduceEqDiff, Int.reduceEq, Nat.reduceLeDiff, ↓reduceIte, List.isEmpty_cons, pB, mB', ev_set1 _ _ _ _ nB]
  generalize cs.head?.getD .none = c1 at fA sA nA iA
  generalize ss.head?.getD .none = c2 at fB sB nB iB
  refine (seq_nx (Γ' := [.da sc, .da nm, .da (.int (n : Int)), .da (.tuple (ws.map .int)), .un, s5, s6, .ol cs, .ol ss, s9, s10, s11, .da c1, .da c2, .un]) ?_).trans ?_
  · simp only [view, freeze, ev_seq, ev_seq1, ev_seq2, ev_seq3, ev_seq4, ev_seq5, ev_ret, ev_ret1, ev_ret2, ev_retN, ev_nil, ev_bk, ev_ct, ev_if, ev_ifT, ev_ifF, ev_ifX, ev_set, ev_set0, ev_set1, ev_set3, ev_drop, ev_drop1, ev_drop2, ev_own, ev_own0, ev_own1, ev_unp, ev_unp1, ev_unp2, ev_unp3, ev_app, ev_app0, ev_app1, ev_app2, ev_put, ev_put1, ev_put2, ev_aug, ev_aug1, ev_aug2, ev_for, ev_for0, ev_forN, ev_con, ev_var, ev_var1, ev_op2, ev_op2k, ev_op1, ev_op1k, ev_nilL, ev_consL, ev_consk, ev_tup, ev_tupk, ev_dat, ev_datk, ev_call, ev_callk, ev_callF, ev_callFk, ev_usr, ev_usrk, ev_usr0, ev_test, ev_testk, ev_b, ev_bk1, ev_isN, ev_isNk, ev_notN, ev_notNk, ev_andT, ev_andT1, ev_andT0, ev_orT, ev_orT1, ev_orT0, ev_notT, ev_notTk, ev_andE, ev_andE1, ev_andE0, ev_orE, ev_orE1, ev_orE0, ev_notE, ev_notEk, ev_ifE, ev_ifE1, ev_ifE0, ev_ch, ev_ch0, ev_ch1, ev_ch2, ev_isi, ev_isi1, ev_isi2, ev_isi3, ev_isi4, ev_isi5, ev_isi6, ev_sl, ev_slk, ev_slL, ev_slT, ev_slS, ev_par0, ev_par, ev_park, ev_seqE, ev_seqEL, ev_seqET, ev_seqES, ev_rg, ev_rgk, ev_en, ev_enL, ev_enT, ev_enS, ev_zi, ev_ziLL, ev_ziTT, ev_ziLT, ev_ziTL, ev_ziSS, ev_comp, ev_compk, v_add, v_sub, v_neg, v_eq, v_ne, v_lt, v_le, v_gt, v_ge, v_mulL, v_mulR, v_p9, v_p18, v_mod, v_div, v_int, v_lenL, v_lenT, v_lenS, v_tupL, v_tupT, v_itL, v_itT, v_ixL, v_ixT, v_sum, v_all, v_any, v_range1, v_range2, v_catT, v_catL, i_1, ev_run, ev_end1, ev_end2, ev_end3, ev_vN, ev_vC, ev_sU, ev_sD, ev_sO, ev_fN, ev_fC, ev_zU, ev_zD, ev_zO, fl1, fl2, fl3, fl4, fl5, sg0, sg1, se0, se1, List.map_cons, List.map_nil, List.length_cons, List.length_nil, List.cons_append, List.nil_append, List.append_nil, List.set_cons_zero, List.set_cons_succ, List.getElem?_cons_zero, List.getElem?_cons_succ, List.getElem?_nil, List.any_cons, List.any_nil, R.hard_ok, noLst, noLsts, t_N1, t_N2, t_N3, t_N4, t_N5, t_N6, isInt, isBool, isStr, isTup, isLst, gam0, List.replicate, wipeE, if_true, if_false, Bool.false_eq_true, Bool.true_eq_false, Bool.not_true, Bool.not_false, Bool.true_or, Bool.false_or, Bool.or_true, Bool.or_false, Bool.true_and, Bool.false_and, Bool.and_true, Bool.and_false, Bool.and_self, Bool.or_self, decide_true, decide_false, Nat.reduceBEq, Nat.reduceAdd, Nat.reduceSub, Nat.reduceLT, Int.reduceLT, Int.reduceLE, Int.reduceNeg, Int.reduceAdd, Int.reduceSub, Int.reduceMul, Nat.reduceEqDiff, Int.reduceEq, Nat.reduceLeDiff, ↓reduceIte, List.isEmpty_cons, fA, fB, sA, sB]
  have HL := cop_list (ws := ws) h2 h3 (ε := [some sc, some nm, some (.int (n : Int)), some (.tuple (ws.map .int)), none, slV [] 5 s5, slV [] 6 s6, none, none, slV [] 9 s9, slV [] 10 s10, slV [] 11 s11, some c1, some c2, none]) fun w => ⟨_, rfl, rfl, rfl⟩
  have EA : ((ws.filter fun w => !cop w n).map PyData.int).isEmpty = (List.range ws.length).all fun p => cop (wf ws p) n := by
    rw [Bool.eq_iff_iff, List.isEmpty_iff, List.map_eq_nil_iff, List.filter_eq_nil_iff, List.all_eq_true]
    constructor
    · intro h p hp
      have hp := List.mem_range.mp hp
      have := h ws[p] (List.getElem_mem hp)
      unfold wf
      rw [List.getD_eq_getElem?_getD, List.getElem?_eq_getElem hp]
      simpa using this
    · intro h w hw
      obtain ⟨p, hp, rfl⟩ := List.getElem_of_mem hw
      have := h p (List.mem_range.mpr hp)
      unfold wf at this
      rw [List.getD_eq_getElem?_getD, List.getElem?_eq_getElem hp] at this
      simpa using this
  refine (seq_nx (Γ' := [.da sc, .da nm, .da (.int (n : Int)), .da (.tuple (ws.map .int)), .un, s5, s6, .ol cs, .ol ss, s9, s10, s11, .da c1, .da c2, .un]) ?_).trans ?_
  · have b := v_eqNil _ (plain_ints (ws.filter fun w => !cop w n))
    rw [EA] at b
    simp only [view, freeze, ev_seq, ev_seq1, ev_seq2, ev_seq3, ev_seq4, ev_seq5, ev_ret, ev_ret1, ev_ret2, ev_retN, ev_nil, ev_bk, ev_ct, ev_if, ev_ifT, ev_ifF, ev_ifX, ev_set, ev_set0, ev_set1, ev_set3, ev_drop, ev_drop1, ev_drop2, ev_own, ev_own0, ev_own1, ev_unp, ev_unp1, ev_unp2, ev_unp3, ev_app, ev_app0, ev_app1, ev_app2, ev_put, ev_put1, ev_put2, ev_aug, ev_aug1, ev_aug2, ev_for, ev_for0, ev_forN, ev_con, ev_var, ev_var1, ev_op2, ev_op2k, ev_op1, ev_op1k, ev_nilL, ev_consL, ev_consk, ev_tup, ev_tupk, ev_dat, ev_datk, ev_call, ev_callk, ev_callF, ev_callFk, ev_usr, ev_usrk, ev_usr0, ev_test, ev_testk, ev_b, ev_bk1, ev_isN, ev_isNk, ev_notN, ev_notNk, ev_andT, ev_andT1, ev_andT0, ev_orT, ev_orT1, ev_orT0, ev_notT, ev_notTk, ev_andE, ev_andE1, ev_andE0, ev_orE, ev_orE1, ev_orE0, ev_notE, ev_notEk, ev_ifE, ev_ifE1, ev_ifE0, ev_ch, ev_ch0, ev_ch1, ev_ch2, ev_isi, ev_isi1, ev_isi2, ev_isi3, ev_isi4, ev_isi5, ev_isi6, ev_sl, ev_slk, ev_slL, ev_slT, ev_slS, ev_par0, ev_par, ev_park, ev_seqE, ev_seqEL, ev_seqET, ev_seqES, ev_rg, ev_rgk, ev_en, ev_enL, ev_enT, ev_enS, ev_zi, ev_ziLL, ev_ziTT, ev_ziLT, ev_ziTL, ev_ziSS, ev_comp, ev_compk, v_add, v_sub, v_neg, v_eq, v_ne, v_lt, v_le, v_gt, v_ge, v_mulL, v_mulR, v_p9, v_p18, v_mod, v_div, v_int, v_lenL, v_lenT, v_lenS, v_tupL, v_tupT, v_itL, v_itT, v_ixL, v_ixT, v_sum, v_all, v_any, v_range1, v_range2, v_catT, v_catL, i_1, ev_run, ev_end1, ev_end2, ev_end3, ev_vN, ev_vC, ev_sU, ev_sD, ev_sO, ev_fN, ev_fC, ev_zU, ev_zD, ev_zO, fl1, fl2, fl3, fl4, fl5, sg0, sg1, se0, se1, List.map_cons, List.map_nil, List.length_cons, List.length_nil, List.cons_append, List.nil_append, List.append_nil, List.set_cons_zero, List.set_cons_succ, List.getElem?_cons_zero, List.getElem?_cons_succ, List.getElem?_nil, List.any_cons, List.any_nil, R.hard_ok, noLst, noLsts, t_N1, t_N2, t_N3, t_N4, t_N5, t_N6, isInt, isBool, isStr, isTup, isLst, gam0, List.replicate, wipeE, if_true, if_false, Bool.false_eq_true, Bool.true_eq_false, Bool.not_true, Bool.not_false, Bool.true_or, Bool.false_or, Bool.or_true, Bool.or_false, Bool.true_and, Bool.false_and, Bool.and_true, Bool.and_false, Bool.and_self, Bool.or_self, decide_true, decide_false, Nat.reduceBEq, Nat.reduceAdd, Nat.reduceSub, Nat.reduceLT, Int.reduceLT, Int.reduceLE, Int.reduceNeg, Int.reduceAdd, Int.reduceSub, Int.reduceMul, Nat.reduceEqDiff, Int.reduceEq, Nat.reduceLeDiff, ↓reduceIte, List.isEmpty_cons, HL, b, iA, v_neB, beq_self_eq_true]
  have HR := compR_eq (i := 4) (fi := notT (testE (usrE S__law_divides [op2E subD (op2E ixD (var 3) (var 4)) (op2E ixD (var 3) (op2E addD (var 4) (con (.int 1)))), var 2]))) (fe := var 4) (ε := [some sc, some nm, some (.int (n : Int)), some (.tuple (ws.map .int)), none, slV [] 5 s5, slV [] 6 s6, none, none, slV [] 9 s9, slV [] 10 s10, slV [] 11 s11, some c1, some c2, none])
    (fun k => if cop (wg ws k) n = true then none else some (.int (k : Int))) (ws.length - 1) fun k hk => by
      have hk0 : k < ws.length := by omega
      have hk1 : k + 1 < ws.length := by omega
      have ec : ((k : Int) + 1) = ((k + 1 : Nat) : Int) := by omega
      have y0 : (ws.map PyData.int)[k]? = some (.int ws[k]) := by rw [List.getElem?_map, List.getElem?_eq_getElem hk0]; rfl
      have y1 : (ws.map PyData.int)[k + 1]? = some (.int ws[k + 1]) := by rw [List.getElem?_map, List.getElem?_eq_getElem hk1]; rfl
      have g1 : wg ws k = ws[k] - ws[k + 1] := by unfold wg; rw [List.getD_eq_getElem?_getD, List.getD_eq_getElem?_getD, List.getElem?_eq_getElem hk0, List.getElem?_eq_getElem hk1]; rfl
      rw [g1]
      cases c : cop (ws[k] - ws[k + 1]) n with
      | true => exact .inr ⟨by simp only [view, freeze, ev_seq, ev_seq1, ev_seq2, ev_seq3, ev_seq4, ev_seq5, ev_ret, ev_ret1, ev_ret2, ev_retN, ev_nil, ev_bk, ev_ct, ev_if, ev_ifT, ev_ifF, ev_ifX, ev_set, ev_set0, ev_set1, ev_set3, ev_drop, ev_drop1, ev_drop2, ev_own, ev_own0, ev_own1, ev_unp, ev_unp1, ev_unp2, ev_unp3, ev_app, ev_app0, ev_app1, ev_app2, ev_put, ev_put1, ev_put2, ev_aug, ev_aug1, ev_aug2, ev_for, ev_for0, ev_forN, ev_con, ev_var, ev_var1, ev_op2, ev_op2k, ev_op1, ev_op1k, ev_nilL, ev_consL, ev_consk, ev_tup, ev_tupk, ev_dat, ev_datk, ev_call, ev_callk, ev_callF, ev_callFk, ev_usr, ev_usrk, ev_usr0, ev_test, ev_testk, ev_b, ev_bk1, ev_isN, ev_isNk, ev_notN, ev_notNk, ev_andT, ev_andT1, ev_andT0, ev_orT, ev_orT1, ev_orT0, ev_notT, ev_notTk, ev_andE, ev_andE1, ev_andE0, ev_orE, ev_orE1, ev_orE0, ev_notE, ev_notEk, ev_ifE, ev_ifE1, ev_ifE0, ev_ch, ev_ch0, ev_ch1, ev_ch2, ev_isi, ev_isi1, ev_isi2, ev_isi3, ev_isi4, ev_isi5, ev_isi6, ev_sl, ev_slk, ev_slL, ev_slT, ev_slS, ev_par0, ev_par, ev_park, ev_seqE, ev_seqEL, ev_seqET, ev_seqES, ev_rg, ev_rgk, ev_en, ev_enL, ev_enT, ev_enS, ev_zi, ev_ziLL, ev_ziTT, ev_ziLT, ev_ziTL, ev_ziSS, ev_comp, ev_compk, v_add, v_sub, v_neg, v_eq, v_ne, v_lt, v_le, v_gt, v_ge, v_mulL, v_mulR, v_p9, v_p18, v_mod, v_div, v_int, v_lenL, v_lenT, v_lenS, v_tupL, v_tupT, v_itL, v_itT, v_ixL, v_ixT, v_sum, v_all, v_any, v_range1, v_range2, v_catT, v_catL, i_1, ev_run, ev_end1, ev_end2, ev_end3, ev_vN, ev_vC, ev_sU, ev_sD, ev_sO, ev_fN, ev_fC, ev_zU, ev_zD, ev_zO, fl1, fl2, fl3, fl4, fl5, sg0, sg1, se0, se1, List.map_cons, List.map_nil, List.length_cons, List.length_nil, List.cons_append, List.nil_append, List.append_nil, List.set_cons_zero, List.set_cons_succ, List.getElem?_cons_zero, List.getElem?_cons_succ, List.getElem?_nil, List.any_cons, List.any_nil, R.hard_ok, noLst, noLsts, t_N1, t_N2, t_N3, t_N4, t_N5, t_N6, isInt, isBool, isStr, isTup, isLst, gam0, List.replicate, wipeE, if_true, if_false, Bool.false_eq_true, Bool.true_eq_false, Bool.not_true, Bool.not_false, Bool.true_or, Bool.false_or, Bool.or_true, Bool.or_false, Bool.true_and, Bool.false_and, Bool.and_true, Bool.and_false, Bool.and_self, Bool.or_self, decide_true, decide_false, Nat.reduceBEq, Nat.reduceAdd, Nat.reduceSub, Nat.reduceLT, Int.reduceLT, Int.reduceLE, Int.reduceNeg, Int.reduceAdd, Int.reduceSub, Int.reduceMul, Nat.reduceEqDiff, Int.reduceEq, Nat.reduceLeDiff, ↓reduceIte, List.isEmpty_cons, v_ixT y0, ec, v_ixT y1, s_law_divides h2 h3, c], by rfl⟩
      | false => exact .inl ⟨by simp only [view, freeze, ev_seq, ev_seq1, ev_seq2, ev_seq3, ev_seq4, ev_seq5, ev_ret, ev_ret1, ev_ret2, ev_retN, ev_nil, ev_bk, ev_ct, ev_if, ev_ifT, ev_ifF, ev_ifX, ev_set, ev_set0, ev_set1, ev_set3, ev_drop, ev_drop1, ev_drop2, ev_own, ev_own0, ev_own1, ev_unp, ev_unp1, ev_unp2, ev_unp3, ev_app, ev_app0, ev_app1, ev_app2, ev_put, ev_put1, ev_put2, ev_aug, ev_aug1, ev_aug2, ev_for, ev_for0, ev_forN, ev_con, ev_var, ev_var1, ev_op2, ev_op2k, ev_op1, ev_op1k, ev_nilL, ev_consL, ev_consk, ev_tup, ev_tupk, ev_dat, ev_datk, ev_call, ev_callk, ev_callF, ev_callFk, ev_usr, ev_usrk, ev_usr0, ev_test, ev_testk, ev_b, ev_bk1, ev_isN, ev_isNk, ev_notN, ev_notNk, ev_andT, ev_andT1, ev_andT0, ev_orT, ev_orT1, ev_orT0, ev_notT, ev_notTk, ev_andE, ev_andE1, ev_andE0, ev_orE, ev_orE1, ev_orE0, ev_notE, ev_notEk, ev_ifE, ev_ifE1, ev_ifE0, ev_ch, ev_ch0, ev_ch1, ev_ch2, ev_isi, ev_isi1, ev_isi2, ev_isi3, ev_isi4, ev_isi5, ev_isi6, ev_sl, ev_slk, ev_slL, ev_slT, ev_slS, ev_par0, ev_par, ev_park, ev_seqE, ev_seqEL, ev_seqET, ev_seqES, ev_rg, ev_rgk, ev_en, ev_enL, ev_enT, ev_enS, ev_zi, ev_ziLL, ev_ziTT, ev_ziLT, ev_ziTL, ev_ziSS, ev_comp, ev_compk, v_add, v_sub, v_neg, v_eq, v_ne, v_lt, v_le, v_gt, v_ge, v_mulL, v_mulR, v_p9, v_p18, v_mod, v_div, v_int, v_lenL, v_lenT, v_lenS, v_tupL, v_tupT, v_itL, v_itT, v_ixL, v_ixT, v_sum, v_all, v_any, v_range1, v_range2, v_catT, v_catL, i_1, ev_run, ev_end1, ev_end2, ev_end3, ev_vN, ev_vC, ev_sU, ev_sD, ev_sO, ev_fN, ev_fC, ev_zU, ev_zD, ev_zO, fl1, fl2, fl3, fl4, fl5, sg0, sg1, se0, se1, List.map_cons, List.map_nil, List.length_cons, List.length_nil, List.cons_append, List.nil_append, List.append_nil, List.set_cons_zero, List.set_cons_succ, List.getElem?_cons_zero, List.getElem?_cons_succ, List.getElem?_nil, List.any_cons, List.any_nil, R.hard_ok, noLst, noLsts, t_N1, t_N2, t_N3, t_N4, t_N5, t_N6, isInt, isBool, isStr, isTup, isLst, gam0, List.replicate, wipeE, if_true, if_false, Bool.false_eq_true, Bool.true_eq_false, Bool.not_true, Bool.not_false, Bool.true_or, Bool.false_or, Bool.or_true, Bool.or_false, Bool.true_and, Bool.false_and, Bool.and_true, Bool.and_false, Bool.and_self, Bool.or_self, decide_true, decide_false, Nat.reduceBEq, Nat.reduceAdd, Nat.reduceSub, Nat.reduceLT, Int.reduceLT, Int.reduceLE, Int.reduceNeg, Int.reduceAdd, Int.reduceSub, Int.reduceMul, Nat.reduceEqDiff, Int.reduceEq, Nat.reduceLeDiff, ↓reduceIte, List.isEmpty_cons, v_ixT y0, ec, v_ixT y1, s_law_divides h2 h3, c], .int (k : Int), by simp only [view, freeze, ev_seq, ev_seq1, ev_seq2, ev_seq3, ev_seq4, ev_seq5, ev_ret, ev_ret1, ev_ret2, ev_retN, ev_nil, ev_bk, ev_ct, ev_if, ev_ifT, ev_ifF, ev_ifX, ev_set, ev_set0, ev_set1, ev_set3, ev_drop, ev_drop1, ev_drop2, ev_own, ev_own0, ev_own1, ev_unp, ev_unp1, ev_unp2, ev_unp3, ev_app, ev_app0, ev_app1, ev_app2, ev_put, ev_put1, ev_put2, ev_aug, ev_aug1, ev_aug2, ev_for, ev_for0, ev_forN, ev_con, ev_var, ev_var1, ev_op2, ev_op2k, ev_op1, ev_op1k, ev_nilL, ev_consL, ev_consk, ev_tup, ev_tupk, ev_dat, ev_datk, ev_call, ev_callk, ev_callF, ev_callFk, ev_usr, ev_usrk, ev_usr0, ev_test, ev_testk, ev_b, ev_bk1, ev_isN, ev_isNk, ev_notN, ev_notNk, ev_andT, ev_andT1, ev_andT0, ev_orT, ev_orT1, ev_orT0, ev_notT, ev_notTk, ev_andE, ev_andE1, ev_andE0, ev_orE, ev_orE1, ev_orE0, ev_notE, ev_notEk, ev_ifE, ev_ifE1, ev_ifE0, ev_ch, ev_ch0, ev_ch1, ev_ch2, ev_isi, ev_isi1, ev_isi2, ev_isi3, ev_isi4, ev_isi5, ev_isi6, ev_sl, ev_slk, ev_slL, ev_slT, ev_slS, ev_par0, ev_par, ev_park, ev_seqE, ev_seqEL, ev_seqET, ev_seqES, ev_rg, ev_rgk, ev_en, ev_enL, ev_enT, ev_enS, ev_zi, ev_ziLL, ev_ziTT, ev_ziLT, ev_ziTL, ev_ziSS, ev_comp, ev_compk, v_add, v_sub, v_neg, v_eq, v_ne, v_lt, v_le, v_gt, v_ge, v_mulL, v_mulR, v_p9, v_p18, v_mod, v_div, v_int, v_lenL, v_lenT, v_lenS, v_tupL, v_tupT, v_itL, v_itT, v_ixL, v_ixT, v_sum, v_all, v_any, v_range1, v_range2, v_catT, v_catL, i_1, ev_run, ev_end1, ev_end2, ev_end3, ev_vN, ev_vC, ev_sU, ev_sD, ev_sO, ev_fN, ev_fC, ev_zU, ev_zD, ev_zO, fl1, fl2, fl3, fl4, fl5, sg0, sg1, se0, se1, List.map_cons, List.map_nil, List.length_cons, List.length_nil, List.cons_append, List.nil_append, List.append_nil, List.set_cons_zero, List.set_cons_succ, List.getElem?_cons_zero, List.getElem?_cons_succ, List.getElem?_nil, List.any_cons, List.any_nil, R.hard_ok, noLst, noLsts, t_N1, t_N2, t_N3, t_N4, t_N5, t_N6, isInt, isBool, isStr, isTup, isLst, gam0, List.replicate, wipeE, if_true, if_false, Bool.false_eq_true, Bool.true_eq_false, Bool.not_true, Bool.not_false, Bool.true_or, Bool.false_or, Bool.or_true, Bool.or_false, Bool.true_and, Bool.false_and, Bool.and_true, Bool.and_false, Bool.and_self, Bool.or_self, decide_true, decide_false, Nat.reduceBEq, Nat.reduceAdd, Nat.reduceSub, Nat.reduceLT, Int.reduceLT, Int.reduceLE, Int.reduceNeg, Int.reduceAdd, Int.reduceSub, Int.reduceMul, Nat.reduceEqDiff, Int.reduceEq, Nat.reduceLeDiff, ↓reduceIte, List.isEmpty_cons], by rfl⟩
  have EB : ((List.range (ws.length - 1)).filterMap fun k => if cop (wg ws k) n = true then none else some (PyData.int (k : Int))).isEmpty = (List.range (ws.length - 1)).all fun p => cop (wg ws p) n := by
    rw [Bool.eq_iff_iff, List.isEmpty_iff, List.filterMap_eq_nil_iff, List.all_eq_true]
    refine forall_congr' fun p => imp_congr_right fun _ => ?_
    cases cop (wg ws p) n <;> simp
  have b := v_eqNil ((List.range (ws.length - 1)).filterMap fun k => if cop (wg ws k) n = true then none else some (PyData.int (k : Int))) fun x hx => by
    obtain ⟨k, _, e⟩ := List.mem_filterMap.mp hx
    split at e
    · cases e
    · cases e; exact ⟨rfl, by simp [PyData.depth]⟩
  rw [EB] at b
  have el1 : ((ws.map PyData.int).length : Int) - 1 = ((ws.length - 1 : Nat) : Int) := by have := hw.1; rw [List.length_map]; omega
  have hz1 : ws.length - 1 ≤ 16777216 := by omega
  simp only [view, freeze, ev_seq, ev_seq1, ev_seq2, ev_seq3, ev_seq4, ev_seq5, ev_ret, ev_ret1, ev_ret2, ev_retN, ev_nil, ev_bk, ev_ct, ev_if, ev_ifT, ev_ifF, ev_ifX, ev_set, ev_set0, ev_set1, ev_set3, ev_drop, ev_drop1, ev_drop2, ev_own, ev_own0, ev_own1, ev_unp, ev_unp1, ev_unp2, ev_unp3, ev_app, ev_app0, ev_app1, ev_app2, ev_put, ev_put1, ev_put2, ev_aug, ev_aug1, ev_aug2, ev_for, ev_for0, ev_forN, ev_con, ev_var, ev_var1, ev_op2, ev_op2k, ev_op1, ev_op1k, ev_nilL, ev_consL, ev_consk, ev_tup, ev_tupk, ev_dat, ev_datk, ev_call, ev_callk, ev_callF, ev_callFk, ev_usr, ev_usrk, ev_usr0, ev_test, ev_testk, ev_b, ev_bk1, ev_isN, ev_isNk, ev_notN, ev_notNk, ev_andT, ev_andT1, ev_andT0, ev_orT, ev_orT1, ev_orT0, ev_notT, ev_notTk, ev_andE, ev_andE1, ev_andE0, ev_orE, ev_orE1, ev_orE0, ev_notE, ev_notEk, ev_ifE, ev_ifE1, ev_ifE0, ev_ch, ev_ch0, ev_ch1, ev_ch2, ev_isi, ev_isi1, ev_isi2, ev_isi3, ev_isi4, ev_isi5, ev_isi6, ev_sl, ev_slk, ev_slL, ev_slT, ev_slS, ev_par0, ev_par, ev_park, ev_seqE, ev_seqEL, ev_seqET, ev_seqES, ev_rg, ev_rgk, ev_en, ev_enL, ev_enT, ev_enS, ev_zi, ev_ziLL, ev_ziTT, ev_ziLT, ev_ziTL, ev_ziSS, ev_comp, ev_compk, v_add, v_sub, v_neg, v_eq, v_ne, v_lt, v_le, v_gt, v_ge, v_mulL, v_mulR, v_p9, v_p18, v_mod, v_div, v_int, v_lenL, v_lenT, v_lenS, v_tupL, v_tupT, v_itL, v_itT, v_ixL, v_ixT, v_sum, v_all, v_any, v_range1, v_range2, v_catT, v_catL, i_1, ev_run, ev_end1, ev_end2, ev_end3, ev_vN, ev_vC, ev_sU, ev_sD, ev_sO, ev_fN, ev_fC, ev_zU, ev_zD, ev_zO, fl1, fl2, fl3, fl4, fl5, sg0, sg1, se0, se1, List.map_cons, List.map_nil, List.length_cons, List.length_nil, List.cons_append, List.nil_append, List.append_nil, List.set_cons_zero, List.set_cons_succ, List.getElem?_cons_zero, List.getElem?_cons_succ, List.getElem?_nil, List.any_cons, List.any_nil, R.hard_ok, noLst, noLsts, t_N1, t_N2, t_N3, t_N4, t_N5, t_N6, isInt, isBool, isStr, isTup, isLst, gam0, List.replicate, wipeE, if_true, if_false, Bool.false_eq_true, Bool.true_eq_false, Bool.not_true, Bool.not_false, Bool.true_or, Bool.false_or, Bool.or_true, Bool.or_false, Bool.true_and, Bool.false_and, Bool.and_true, Bool.and_false, Bool.and_self, Bool.or_self, decide_true, decide_false, Nat.reduceBEq, Nat.reduceAdd, Nat.reduceSub, Nat.reduceLT, Int.reduceLT, Int.reduceLE, Int.reduceNeg, Int.reduceAdd, Int.reduceSub, Int.reduceMul, Nat.reduceEqDiff, Int.reduceEq, Nat.reduceLeDiff, ↓reduceIte, List.isEmpty_cons, el1, v_range1 hz1, HR, b, iB, v_eqB, beq_self_eq_true]
end K55

set_option Elab.async false
set_option linter.all false
set_option maxRecDepth 100000
set_option maxHeartbeats 8000000
namespace K55
open PySem PySem.Spec PyProof.Rows L2 RB Lib
def top (i : Nat) : Stmt := PySem.Challenge.pw_readsback_k55_whole_check_signs.main.body.getD i (.Pass ⟨0, 0, 0, 0⟩)
abbrev sm__law_cell : Stmt := top 17
def d__law_cell : He.DefD := ⟨("_law_cell", none), "_law_cell", "_law_cell", defArgs sm__law_cell, defBody sm__law_cell, defScope sm__law_cell, [], []⟩
abbrev sm__law_numbers : Stmt := top 18
def d__law_numbers : He.DefD := ⟨("_law_numbers", none), "_law_numbers", "_law_numbers", defArgs sm__law_numbers, defBody sm__law_numbers, defScope sm__law_numbers, [], []⟩
abbrev sm__law_same : Stmt := top 19
def d__law_same : He.DefD := ⟨("_law_same", none), "_law_same", "_law_same", defArgs sm__law_same, defBody sm__law_same, defScope sm__law_same, [], []⟩
abbrev sm_is_int : Stmt := top 4
def d_is_int : He.DefD := ⟨("is_int", none), "is_int", "is_int", defArgs sm_is_int, defBody sm_is_int, defScope sm_is_int, [], []⟩
abbrev sm_is_between : Stmt := top 5
def d_is_between : He.DefD := ⟨("is_between", none), "is_between", "is_between", defArgs sm_is_between, defBody sm_is_between, defScope sm_is_between, [], []⟩
abbrev sm_want_int : Stmt := top 8
def d_want_int : He.DefD := ⟨("want_int", none), "want_int", "want_int", defArgs sm_want_int, defBody sm_want_int, defScope sm_want_int, [], []⟩
abbrev sm_is_row : Stmt := top 6
def d_is_row : He.DefD := ⟨("is_row", none), "is_row", "is_row", defArgs sm_is_row, defBody sm_is_row, defScope sm_is_row, [], []⟩
abbrev sm_is_row_of : Stmt := top 7
def d_is_row_of : He.DefD := ⟨("is_row_of", none), "is_row_of", "is_row_of", defArgs sm_is_row_of, defBody sm_is_row_of, defScope sm_is_row_of, [], []⟩
abbrev sm_want_weights : Stmt := top 10
def d_want_weights : He.DefD := ⟨("want_weights", none), "want_weights", "want_weights", defArgs sm_want_weights, defBody sm_want_weights, defScope sm_want_weights, [], []⟩
abbrev sm_first_missed : Stmt := top 12
def d_first_missed : He.DefD := ⟨("first_missed", none), "first_missed", "first_missed", defArgs sm_first_missed, defBody sm_first_missed, defScope sm_first_missed, [], []⟩
abbrev sm_finds_change : Stmt := top 13
def d_finds_change : He.DefD := ⟨("finds_change", none), "finds_change", "finds_change", defArgs sm_finds_change, defBody sm_finds_change, defScope sm_finds_change, [], []⟩
abbrev sm_check_of : Stmt := top 11
def d_check_of : He.DefD := ⟨("check_of", none), "check_of", "check_of", defArgs sm_check_of, defBody sm_check_of, defScope sm_check_of, [], []⟩
abbrev sm_finds_swap : Stmt := top 14
def d_finds_swap : He.DefD := ⟨("finds_swap", none), "finds_swap", "finds_swap", defArgs sm_finds_swap, defBody sm_finds_swap, defScope sm_finds_swap, [], []⟩
abbrev sm__law_divides : Stmt := top 21
def d__law_divides : He.DefD := ⟨("_law_divides", none), "_law_divides", "_law_divides", defArgs sm__law_divides, defBody sm__law_divides, defScope sm__law_divides, [], []⟩
abbrev sm_law : Stmt := top 22
def d_law : He.DefD := ⟨("law", none), "law", "law", defArgs sm_law, defBody sm_law, defScope sm_law, [], []⟩
def fn : List He.DefD := [d__law_cell, d__law_numbers, d__law_same, d_is_int, d_is_between, d_want_int, d_is_row, d_is_row_of, d_want_weights, d_first_missed, d_finds_change, d_check_of, d_finds_swap, d__law_divides, d_law]
def fa : List He.Fa := [.free "len", .free "int", .glo "_law_cell", .free "range", .glo "_law_numbers", .free "isinstance", .free "tuple", .free "bool", .free "str", .glo "_law_same", .glo "is_int", .glo "is_between", .glo "want_int", .free "list", .glo "is_row", .glo "is_row_of", .free "all", .glo "want_weights", .glo "first_missed", .free "enumerate", .glo "finds_change", .free "zip", .free "sum", .glo "check_of", .glo "finds_swap", .glo "_law_divides", .free "min", .glo "law"]
section
variable {P : Program} {w : World} {K : PySem.W.Frag} {mg : Str → Option Value} {base h : Heap} (X : K.In h) (G : h.Ns mainGlobals mg) (c : He.SaysD fa fn K)
include X G c
theorem m_len : mg "len" = none := He.free_ok X G (c.fact 0 (f := .free "len") rfl)
theorem m_int : mg "int" = none := He.free_ok X G (c.fact 1 (f := .free "int") rfl)
theorem q__law_cell : mg "_law_cell" = some (.ref (He.ga K "_law_cell")) := He.glo_ok X G (c.fact 2 (f := .glo "_law_cell") rfl)
theorem m_range : mg "range" = none := He.free_ok X G (c.fact 3 (f := .free "range") rfl)
theorem q__law_numbers : mg "_law_numbers" = some (.ref (He.ga K "_law_numbers")) := He.glo_ok X G (c.fact 4 (f := .glo "_law_numbers") rfl)
theorem m_isinstance : mg "isinstance" = none := He.free_ok X G (c.fact 5 (f := .free "isinstance") rfl)
theorem m_tuple : mg "tuple" = none := He.free_ok X G (c.fact 6 (f := .free "tuple") rfl)
theorem m_bool : mg "bool" = none := He.free_ok X G (c.fact 7 (f := .free "bool") rfl)
theorem m_str : mg "str" = none := He.free_ok X G (c.fact 8 (f := .free "str") rfl)
theorem q__law_same : mg "_law_same" = some (.ref (He.ga K "_law_same")) := He.glo_ok X G (c.fact 9 (f := .glo "_law_same") rfl)
theorem q_is_int : mg "is_int" = some (.ref (He.ga K "is_int")) := He.glo_ok X G (c.fact 10 (f := .glo "is_int") rfl)
theorem q_is_between : mg "is_between" = some (.ref (He.ga K "is_between")) := He.glo_ok X G (c.fact 11 (f := .glo "is_between") rfl)
theorem q_want_int : mg "want_int" = some (.ref (He.ga K "want_int")) := He.glo_ok X G (c.fact 12 (f := .glo "want_int") rfl)
theorem m_list : mg "list" = none := He.free_ok X G (c.fact 13 (f := .free "list") rfl)
theorem q_is_row : mg "is_row" = some (.ref (He.ga K "is_row")) := He.glo_ok X G (c.fact 14 (f := .glo "is_row") rfl)
theorem q_is_row_of : mg "is_row_of" = some (.ref (He.ga K "is_row_of")) := He.glo_ok X G (c.fact 15 (f := .glo "is_row_of") rfl)
theorem m_all : mg "all" = none := He.free_ok X G (c.fact 16 (f := .free "all") rfl)
theorem q_want_weights : mg "want_weights" = some (.ref (He.ga K "want_weights")) := He.glo_ok X G (c.fact 17 (f := .glo "want_weights") rfl)
theorem q_first_missed : mg "first_missed" = some (.ref (He.ga K "first_missed")) := He.glo_ok X G (c.fact 18 (f := .glo "first_missed") rfl)
theorem m_enumerate : mg "enumerate" = none := He.free_ok X G (c.fact 19 (f := .free "enumerate") rfl)
theorem q_finds_change : mg "finds_change" = some (.ref (He.ga K "finds_change")) := He.glo_ok X G (c.fact 20 (f := .glo "finds_change") rfl)
theorem m_zip : mg "zip" = none := He.free_ok X G (c.fact 21 (f := .free "zip") rfl)
theorem m_sum : mg "sum" = none := He.free_ok X G (c.fact 22 (f := .free "sum") rfl)
theorem q_check_of : mg "check_of" = some (.ref (He.ga K "check_of")) := He.glo_ok X G (c.fact 23 (f := .glo "check_of") rfl)
theorem q_finds_swap : mg "finds_swap" = some (.ref (He.ga K "finds_swap")) := He.glo_ok X G (c.fact 24 (f := .glo "finds_swap") rfl)
theorem q__law_divides : mg "_law_divides" = some (.ref (He.ga K "_law_divides")) := He.glo_ok X G (c.fact 25 (f := .glo "_law_divides") rfl)
theorem m_min : mg "min" = none := He.free_ok X G (c.fact 26 (f := .free "min") rfl)
theorem q_law : mg "law" = some (.ref (He.ga K "law")) := He.glo_ok X G (c.fact 27 (f := .glo "law") rfl)
omit X G c in theorem sc__law_cell : FnScope ["script", "place"] ["script", "place"] (defScope sm__law_cell) := ⟨rfl, rfl, rfl, by decide +kernel, rfl, by decide +kernel, by decide +kernel⟩
theorem cal__law_cell : Cal P w K mg base 1 "_law_cell" 2 S__law_cell := by
  obtain ⟨fd, F⟩ := c.def_ 0 (d := d__law_cell) rfl
  refine cal_mkD (k := 0) 2 F sc__law_cell (q__law_cell X G c) (fun _ _ _ _ _ _ us hl => match us, hl with | [_, _], _ => rfl) fun cdv A outer s H E F0 hr => ?_
  have nd := (sc__law_cell).nd
  exact (ss_cons (st_if [] (tx_cmp op_ltA g_cmp (ex_var 1) (ex_callB call_len g_len (m_len X G c) (exs_cons (ex_var 0) exs_nil)))
  (ss_one (st_ret [] (ex_callT call_int1 g_int (m_int X G c) (exs_cons (ex_ix L2.ix_seq g_ix (ex_var 0) (ex_var 1)) exs_nil))))
  ss_nil)
  (ss_one (st_ret [] ex_int)))
omit X G c in theorem sc__law_numbers : FnScope ["script", "place", "many", "cell", "numbers", "rest", "k", "twice"] ["script", "place", "many"] (defScope sm__law_numbers) := ⟨rfl, rfl, rfl, by decide +kernel, rfl, by decide +kernel, by decide +kernel⟩
theorem cal__law_numbers : Cal P w K mg base 2 "_law_numbers" 3 S__law_numbers := by
  obtain ⟨fd, F⟩ := c.def_ 1 (d := d__law_numbers) rfl
  refine cal_mkD (k := 1) 3 F sc__law_numbers (q__law_numbers X G c) (fun _ _ _ _ _ _ us hl => match us, hl with | [_, _, _], _ => rfl) fun cdv A outer s H E F0 hr => ?_
  have nd := (sc__law_numbers).nd
  exact (ss_cons (st_set [] 3 (ex_usr (cal__law_cell X G c) hr (by first | exact Nat.le_refl _ | decide | omega) (takes_of rfl rfl rfl rfl) (exs_cons (ex_var 0) (exs_cons (ex_var 1) exs_nil))) nd)
  (ss_cons (st_own [] 4 (fx_lst exs_nil) nd)
  (ss_cons (st_set [] 5 (ex_var 3) nd)
  (ss_cons (st_for [] (passes_of rfl) (ix_range1 (m_range X G c) (exs_cons (ex_var 2) exs_nil)) (gx_nm 6 nd)
  (ss_one (st_if [] (tx_cmp op_geA g_cmp (ex_var 3) (ex_op op_pow g_pow ex_int ex_int))
  (ss_cons (st_app [] 4 (exs_cons (ex_op op_mod g_mod (ex_callT call_int1 g_int (m_int X G c) (exs_cons (ex_var 5) exs_nil)) (ex_op op_pow g_pow ex_int ex_int)) exs_nil))
  (ss_one (st_set [] 5 (ex_op op_divA g_div (ex_var 5) (ex_op op_pow g_pow ex_int ex_int)) nd)))
  (ss_cons (st_set [] 7 (ex_op op_mod g_mod (ex_callT call_int1 g_int (m_int X G c) (exs_cons (ex_op op_addA g_add (ex_op op_addA g_add (ex_op op_mulA g_mul (ex_var 3) ex_int) (ex_op op_mulA g_mul (ex_op op_addA g_add (ex_var 6) ex_int) ex_int)) (ex_var 1)) exs_nil)) ex_int) nd)
  (ss_one (st_app [] 4 (exs_cons (ex_op op_mod g_mod (ex_op op_mod g_mod (ex_callT call_int1 g_int (m_int X G c) (exs_cons (ex_op op_addA g_add (ex_op op_mulA g_mul (ex_var 7) ex_int) (ex_op op_mulA g_mul (ex_op op_addA g_add (ex_var 6) ex_int) ex_int)) exs_nil)) ex_int) (ex_op op_pow g_pow ex_int ex_int)) exs_nil)))))))
  (ss_one (st_ret [4] (ex_var 4)))))))
omit X G c in theorem sc__law_same : FnScope ["one", "other", "k"] ["one", "other"] (defScope sm__law_same) := ⟨rfl, rfl, rfl, by decide +kernel, rfl, by decide +kernel, by decide +kernel⟩
theorem cal__law_same : ∀ lv : Nat, Cal P w K mg base (lv + 1) "_law_same" 2 (S__law_same lv)
  | 0 => by
    obtain ⟨fd, F⟩ := c.def_ 2 (d := d__law_same) rfl
    exact cal_mkD 2 F sc__law_same (q__law_same X G c) (fun _ _ _ _ _ _ us hl => match us, hl with | [_, _], _ => rfl) fun cdv A outer s H E F0 hr => sts_never
  | lv + 1 => by
    obtain ⟨fd, F⟩ := c.def_ 2 (d := d__law_same) rfl
    have ih := cal__law_same lv
    have k0 : 0 ≤ lv + 1 + 0 := by omega
    refine cal_mkD (k := lv + 1 + 0) 2 F sc__law_same (q__law_same X G c) (fun _ _ _ _ _ _ us hl => match us, hl with | [_, _], _ => rfl) fun cdv A outer s H E F0 hr => ?_
    have nd := (sc__law_same).nd
    exact (ss_cons (st_if [] (tx_w (wx_or (tx_val (ex_isi (m_isinstance X G c) (m_tuple X G c) isi_tup (ex_var 1))) (wx_or1 (tx_val (ex_isi (m_isinstance X G c) (m_tuple X G c) isi_tup (ex_var 0))))))
  (ss_cons (st_if [] (tx_w (wx_or (tx_not (tx_val (ex_isi (m_isinstance X G c) (m_tuple X G c) isi_tup (ex_var 0)))) (wx_or (tx_not (tx_val (ex_isi (m_isinstance X G c) (m_tuple X G c) isi_tup (ex_var 1)))) (wx_or1 (tx_cmp (op_neD (hu64 hr)) g_ne (ex_callB call_len g_len (m_len X G c) (exs_cons (ex_var 0) exs_nil)) (ex_callB call_len g_len (m_len X G c) (exs_cons (ex_var 1) exs_nil)))))))
  (ss_one (st_ret [] ex_bl))
  ss_nil)
  (ss_cons (st_for [] (passes_of rfl) (ix_range1 (m_range X G c) (exs_cons (ex_callB call_len g_len (m_len X G c) (exs_cons (ex_var 1) exs_nil)) exs_nil)) (gx_nm 2 nd)
  (ss_one (st_if [] (tx_not (tx_val (ex_usr ih hr (by first | exact Nat.le_refl _ | decide | omega) (takes_of rfl rfl rfl rfl) (exs_cons (ex_ix L2.ix_seq g_ix (ex_var 0) (ex_var 2)) (exs_cons (ex_ix L2.ix_seq g_ix (ex_var 1) (ex_var 2)) exs_nil)))))
  (ss_one (st_ret [] ex_bl))
  ss_nil)))
  (ss_one (st_ret [] ex_bl))))
  ss_nil)
  (ss_cons (st_if [] (tx_w (wx_or (tx_isN (ex_var 0)) (wx_or1 (tx_isN (ex_var 1)))))
  (ss_one (st_ret [] (ex_and (ex_isN (ex_var 0)) (ex_one (ex_isN (ex_var 1))))))
  ss_nil)
  (ss_cons (st_if [] (tx_w (wx_or (tx_cmp (op_neD (hu64 hr)) g_ne (ex_isi (m_isinstance X G c) (m_bool X G c) isi_bool (ex_var 0)) (ex_isi (m_isinstance X G c) (m_bool X G c) isi_bool (ex_var 1))) (wx_or1 (tx_cmp (op_neD (hu64 hr)) g_ne (ex_isi (m_isinstance X G c) (m_str X G c) isi_str (ex_var 0)) (ex_isi (m_isinstance X G c) (m_str X G c) isi_str (ex_var 1))))))
  (ss_one (st_ret [] ex_bl))
  ss_nil)
  (ss_one (st_ret [] (ex_and (ex_isi2 (m_isinstance X G c) (m_int X G c) (m_str X G c) isi_int isi_str (ex_var 0)) (ex_and (ex_isi2 (m_isinstance X G c) (m_int X G c) (m_str X G c) isi_int isi_str (ex_var 1)) (ex_one (ex_cmp (op_eqD (hu64 hr)) g_eq (ex_var 0) (ex_var 1))))))))))
omit X G c in theorem sc_is_int : FnScope ["value"] ["value"] (defScope sm_is_int) := ⟨rfl, rfl, rfl, by decide +kernel, rfl, by decide +kernel, by decide +kernel⟩
theorem cal_is_int : Cal P w K mg base 1 "is_int" 1 S_is_int := by
  obtain ⟨fd, F⟩ := c.def_ 3 (d := d_is_int) rfl
  refine cal_mkD (k := 0) 1 F sc_is_int (q_is_int X G c) (fun _ _ _ _ _ _ us hl => match us, hl with | [_], _ => rfl) fun cdv A outer s H E F0 hr => ?_
  have nd := (sc_is_int).nd
  exact (ss_one (st_ret [] (ex_and (ex_isi (m_isinstance X G c) (m_int X G c) isi_int (ex_var 0)) (ex_one (ex_not (ex_isi (m_isinstance X G c) (m_bool X G c) isi_bool (ex_var 0)))))))
omit X G c in theorem sc_is_between : FnScope ["value", "low", "high"] ["value", "low", "high"] (defScope sm_is_between) := ⟨rfl, rfl, rfl, by decide +kernel, rfl, by decide +kernel, by decide +kernel⟩
theorem cal_is_between : Cal P w K mg base 2 "is_between" 3 S_is_between := by
  obtain ⟨fd, F⟩ := c.def_ 4 (d := d_is_between) rfl
  refine cal_mkD (k := 1) 3 F sc_is_between (q_is_between X G c) (fun _ _ _ _ _ _ us hl => match us, hl with | [_, _, _], _ => rfl) fun cdv A outer s H E F0 hr => ?_
  have nd := (sc_is_between).nd
  exact (ss_one (st_ret [] (ex_and (ex_usr (cal_is_int X G c) hr (by first | exact Nat.le_refl _ | decide | omega) (takes_of rfl rfl rfl rfl) (exs_cons (ex_var 0) exs_nil)) (ex_one (ex_chain op_leA op_leA g_cmp g_cmp (ex_var 1) (ex_var 0) (ex_var 2))))))
omit X G c in theorem sc_want_int : FnScope ["value", "low", "high", "at"] ["value", "low", "high", "at"] (defScope sm_want_int) := ⟨rfl, rfl, rfl, by decide +kernel, rfl, by decide +kernel, by decide +kernel⟩
theorem cal_want_int : Cal P w K mg base 3 "want_int" 4 S_want_int := by
  obtain ⟨fd, F⟩ := c.def_ 5 (d := d_want_int) rfl
  refine cal_mkD (k := 2) 4 F sc_want_int (q_want_int X G c) (fun _ _ _ _ _ _ us hl => match us, hl with | [_, _, _, _], _ => rfl) fun cdv A outer s H E F0 hr => ?_
  have nd := (sc_want_int).nd
  exact (ss_one (st_if [] (tx_not (tx_val (ex_usr (cal_is_between X G c) hr (by first | exact Nat.le_refl _ | decide | omega) (takes_of rfl rfl rfl rfl) (exs_cons (ex_var 0) (exs_cons (ex_var 1) (exs_cons (ex_var 2) exs_nil))))))
  (ss_one st_never)
  ss_nil))
omit X G c in theorem sc_is_row : FnScope ["value"] ["value"] (defScope sm_is_row) := ⟨rfl, rfl, rfl, by decide +kernel, rfl, by decide +kernel, by decide +kernel⟩
theorem cal_is_row : Cal P w K mg base 1 "is_row" 1 S_is_row := by
  obtain ⟨fd, F⟩ := c.def_ 6 (d := d_is_row) rfl
  refine cal_mkD (k := 0) 1 F sc_is_row (q_is_row X G c) (fun _ _ _ _ _ _ us hl => match us, hl with | [_], _ => rfl) fun cdv A outer s H E F0 hr => ?_
  have nd := (sc_is_row).nd
  exact (ss_one (st_ret [] (ex_isi2 (m_isinstance X G c) (m_list X G c) (m_tuple X G c) isi_lst isi_tup (ex_var 0))))
omit X G c in theorem sc_is_row_of : FnScope ["value", "low", "high"] ["value", "low", "high"] (defScope sm_is_row_of) := ⟨rfl, rfl, rfl, by decide +kernel, rfl, by decide +kernel, by decide +kernel⟩
theorem cal_is_row_of : Cal P w K mg base 2 "is_row_of" 3 S_is_row_of := by
  obtain ⟨fd, F⟩ := c.def_ 7 (d := d_is_row_of) rfl
  refine cal_mkD (k := 1) 3 F sc_is_row_of (q_is_row_of X G c) (fun _ _ _ _ _ _ us hl => match us, hl with | [_, _, _], _ => rfl) fun cdv A outer s H E F0 hr => ?_
  have nd := (sc_is_row_of).nd
  exact (ss_one (st_ret [] (ex_and (ex_usr (cal_is_row X G c) hr (by first | exact Nat.le_refl _ | decide | omega) (takes_of rfl rfl rfl rfl) (exs_cons (ex_var 0) exs_nil)) (ex_one (ex_chain op_leA op_leA g_cmp g_cmp (ex_var 1) (ex_callB call_len g_len (m_len X G c) (exs_cons (ex_var 0) exs_nil)) (ex_var 2))))))
omit X G c in theorem sc_want_weights : FnScope ["weights", "rest", "weight"] ["weights", "rest"] (defScope sm_want_weights) := ⟨rfl, rfl, rfl, by decide +kernel, rfl, by decide +kernel, by decide +kernel⟩
theorem cal_want_weights : Cal P w K mg base 4 "want_weights" 2 S_want_weights := by
  obtain ⟨fd, F⟩ := c.def_ 8 (d := d_want_weights) rfl
  refine cal_mkD (k := 3) 2 F sc_want_weights (q_want_weights X G c) (fun _ _ _ _ _ _ us hl => match us, hl with | [_, _], _ => rfl) fun cdv A outer s H E F0 hr => ?_
  have nd := (sc_want_weights).nd
  exact (ss_cons (st_if [] (tx_w (wx_or (tx_not (tx_val (ex_usr (cal_is_row_of X G c) hr (by first | exact Nat.le_refl _ | decide | omega) (takes_of rfl rfl rfl rfl) (exs_cons (ex_var 0) (exs_cons ex_int (exs_cons ex_int exs_nil)))))) (wx_or1 (tx_not (tx_val (ex_callB (cr_all rfl) g_all (m_all X G c) (exs_cons (Fx.ex (fx_lc nd (RB.ix_seq (ex_var 0)) (blkOk_by (own := [("weight", 2)]) (by kernel_rfl)) (by decide) (fun _ _ _ _ _ => (gx_nm 2 nd)) (fun _ _ _ _ _ => txs_nil) (fun _ _ _ _ _ => (ex_usr (cal_is_between X G c) hr (by first | exact Nat.le_refl _ | decide | omega) takes0 (exs_cons (ex_var 2) (exs_cons ex_int (exs_cons ex_int exs_nil))))))) exs_nil)))))))
  (ss_one st_never)
  ss_nil)
  (ss_one (st_drop [] (ex_usr (cal_want_int X G c) hr (by first | exact Nat.le_refl _ | decide | omega) (takes_of rfl rfl rfl rfl) (exs_cons (ex_var 1) (exs_cons ex_int (exs_cons ex_int (exs_cons ex_int exs_nil))))))))
omit X G c in theorem sc_first_missed : FnScope ["factor", "rest", "one", "other"] ["factor", "rest"] (defScope sm_first_missed) := ⟨rfl, rfl, rfl, by decide +kernel, rfl, by decide +kernel, by decide +kernel⟩
theorem cal_first_missed : Cal P w K mg base 1 "first_missed" 2 S_first_missed := by
  obtain ⟨fd, F⟩ := c.def_ 9 (d := d_first_missed) rfl
  refine cal_mkD (k := 0) 2 F sc_first_missed (q_first_missed X G c) (fun _ _ _ _ _ _ us hl => match us, hl with | [_, _], _ => rfl) fun cdv A outer s H E F0 hr => ?_
  have nd := (sc_first_missed).nd
  exact (ss_cons (st_for [] (passes_of rfl) (ix_range1 (m_range X G c) (exs_cons (ex_var 1) exs_nil)) (gx_nm 2 nd)
  (ss_one (st_for [] (passes_of rfl) (ix_range1 (m_range X G c) (exs_cons (ex_var 1) exs_nil)) (gx_nm 3 nd)
  (ss_one (st_if [] (tx_w (wx_and (tx_cmp (op_neD (hu64 hr)) g_ne (ex_var 2) (ex_var 3)) (wx_and1 (tx_cmp (op_eqD (hu64 hr)) g_eq (ex_op op_mod g_mod (ex_op op_sub g_sub (ex_op op_mulA g_mul (ex_var 0) (ex_var 2)) (ex_op op_mulA g_mul (ex_var 0) (ex_var 3))) (ex_var 1)) ex_int))))
  (ss_one (st_ret [] (ex_tup (exs_cons (ex_var 2) (exs_cons (ex_var 3) exs_nil)))))
  ss_nil)))))
  (ss_one (st_ret [] ex_non)))
omit X G c in theorem sc_finds_change : FnScope ["weights", "rest", "place", "weight", "missed"] ["weights", "rest"] (defScope sm_finds_change) := ⟨rfl, rfl, rfl, by decide +kernel, rfl, by decide +kernel, by decide +kernel⟩
theorem cal_finds_change : Cal P w K mg base 5 "finds_change" 2 S_finds_change := by
  obtain ⟨fd, F⟩ := c.def_ 10 (d := d_finds_change) rfl
  refine cal_mkD (k := 4) 2 F sc_finds_change (q_finds_change X G c) (fun _ _ _ _ _ _ us hl => match us, hl with | [_, _], _ => rfl) fun cdv A outer s H E F0 hr => ?_
  have nd := (sc_finds_change).nd
  exact (ss_cons (st_drop [] (ex_usr (cal_want_weights X G c) hr (by first | exact Nat.le_refl _ | decide | omega) (takes_of rfl rfl rfl rfl) (exs_cons (ex_var 0) (exs_cons (ex_var 1) exs_nil))))
  (ss_cons (st_for [] (passes_of rfl) (ix_enum (m_enumerate X G c) (exs_cons (ex_var 0) exs_nil)) (gx_tup (gxs_cons (gx_nm 2 nd) (gxs_cons (gx_nm 3 nd) gxs_nil)))
  (ss_cons (st_set [] 4 (ex_usr (cal_first_missed X G c) hr (by first | exact Nat.le_refl _ | decide | omega) (takes_of rfl rfl rfl rfl) (exs_cons (ex_var 3) (exs_cons (ex_var 1) exs_nil))) nd)
  (ss_one (st_if [] (tx_notN (ex_var 4))
  (ss_one (st_ret [] (ex_op op_addA g_add (ex_tup (exs_cons (ex_var 2) exs_nil)) (ex_var 4))))
  ss_nil))))
  (ss_one (st_ret [] ex_non))))
omit X G c in theorem sc_check_of : FnScope ["weights", "rest", "row", "part", "weight"] ["weights", "rest", "row"] (defScope sm_check_of) := ⟨rfl, rfl, rfl, by decide +kernel, rfl, by decide +kernel, by decide +kernel⟩
theorem cal_check_of : Cal P w K mg base 5 "check_of" 3 S_check_of := by
  obtain ⟨fd, F⟩ := c.def_ 11 (d := d_check_of) rfl
  refine cal_mkD (k := 4) 3 F sc_check_of (q_check_of X G c) (fun _ _ _ _ _ _ us hl => match us, hl with | [_, _, _], _ => rfl) fun cdv A outer s H E F0 hr => ?_
  have nd := (sc_check_of).nd
  exact (ss_cons (st_drop [] (ex_usr (cal_want_weights X G c) hr (by first | exact Nat.le_refl _ | decide | omega) (takes_of rfl rfl rfl rfl) (exs_cons (ex_var 0) (exs_cons (ex_var 1) exs_nil))))
  (ss_cons (st_if [] (tx_w (wx_or (tx_not (tx_val (ex_usr (cal_is_row_of X G c) hr (by first | exact Nat.le_refl _ | decide | omega) (takes_of rfl rfl rfl rfl) (exs_cons (ex_var 2) (exs_cons (ex_callB call_len g_len (m_len X G c) (exs_cons (ex_var 0) exs_nil)) (exs_cons (ex_callB call_len g_len (m_len X G c) (exs_cons (ex_var 0) exs_nil)) exs_nil)))))) (wx_or1 (tx_not (tx_val (ex_callB (cr_all rfl) g_all (m_all X G c) (exs_cons (Fx.ex (fx_lc nd (RB.ix_seq (ex_var 2)) (blkOk_by (own := [("part", 3)]) (by kernel_rfl)) (by decide) (fun _ _ _ _ _ => (gx_nm 3 nd)) (fun _ _ _ _ _ => txs_nil) (fun _ _ _ _ _ => (ex_usr (cal_is_between X G c) hr (by first | exact Nat.le_refl _ | decide | omega) takes0 (exs_cons (ex_var 3) (exs_cons ex_int (exs_cons (ex_op op_sub g_sub (ex_var 1) ex_int) exs_nil))))))) exs_nil)))))))
  (ss_one st_never)
  ss_nil)
  (ss_one (st_ret [] (ex_op op_mod g_mod (ex_callB (cr_sum rfl) g_sum (m_sum X G c) (exs_cons (Fx.ex (fx_lc nd (ix_zip (m_zip X G c) (exs_cons (ex_var 0) (exs_cons (ex_var 2) exs_nil))) (blkOk_by (own := [("weight", 4), ("part", 3)]) (by kernel_rfl)) (by decide) (fun _ _ _ _ _ => (gx_tup (gxs_cons (gx_nm 4 nd) (gxs_cons (gx_nm 3 nd) gxs_nil)))) (fun _ _ _ _ _ => txs_nil) (fun _ _ _ _ _ => (ex_op op_mulA g_mul (ex_var 4) (ex_var 3))))) exs_nil)) (ex_var 1))))))
omit X G c in theorem sc_finds_swap : FnScope ["weights", "rest", "place", "missed"] ["weights", "rest"] (defScope sm_finds_swap) := ⟨rfl, rfl, rfl, by decide +kernel, rfl, by decide +kernel, by decide +kernel⟩
theorem cal_finds_swap : Cal P w K mg base 5 "finds_swap" 2 S_finds_swap := by
  obtain ⟨fd, F⟩ := c.def_ 12 (d := d_finds_swap) rfl
  refine cal_mkD (k := 4) 2 F sc_finds_swap (q_finds_swap X G c) (fun _ _ _ _ _ _ us hl => match us, hl with | [_, _], _ => rfl) fun cdv A outer s H E F0 hr => ?_
  have nd := (sc_finds_swap).nd
  exact (ss_cons (st_drop [] (ex_usr (cal_want_weights X G c) hr (by first | exact Nat.le_refl _ | decide | omega) (takes_of rfl rfl rfl rfl) (exs_cons (ex_var 0) (exs_cons (ex_var 1) exs_nil))))
  (ss_cons (st_for [] (passes_of rfl) (ix_range1 (m_range X G c) (exs_cons (ex_op op_sub g_sub (ex_callB call_len g_len (m_len X G c) (exs_cons (ex_var 0) exs_nil)) ex_int) exs_nil)) (gx_nm 2 nd)
  (ss_cons (st_set [] 3 (ex_usr (cal_first_missed X G c) hr (by first | exact Nat.le_refl _ | decide | omega) (takes_of rfl rfl rfl rfl) (exs_cons (ex_op op_sub g_sub (ex_ix L2.ix_seq g_ix (ex_var 0) (ex_var 2)) (ex_ix L2.ix_seq g_ix (ex_var 0) (ex_op op_addA g_add (ex_var 2) ex_int))) (exs_cons (ex_var 1) exs_nil))) nd)
  (ss_one (st_if [] (tx_notN (ex_var 3))
  (ss_one (st_ret [] (ex_op op_addA g_add (ex_tup (exs_cons (ex_var 2) exs_nil)) (ex_var 3))))
  ss_nil))))
  (ss_one (st_ret [] ex_non))))
omit X G c in theorem sc__law_divides : FnScope ["number", "rest", "k"] ["number", "rest"] (defScope sm__law_divides) := ⟨rfl, rfl, rfl, by decide +kernel, rfl, by decide +kernel, by decide +kernel⟩
theorem cal__law_divides : Cal P w K mg base 1 "_law_divides" 2 S__law_divides := by
  obtain ⟨fd, F⟩ := c.def_ 13 (d := d__law_divides) rfl
  refine cal_mkD (k := 0) 2 F sc__law_divides (q__law_divides X G c) (fun _ _ _ _ _ _ us hl => match us, hl with | [_, _], _ => rfl) fun cdv A outer s H E F0 hr => ?_
  have nd := (sc__law_divides).nd
  exact (ss_one (st_ret [] (ex_cmp (op_eqD (hu64 hr)) g_eq (Fx.ex (fx_lc nd (ix_range2 (m_range X G c) (exs_cons ex_int (exs_cons (ex_op op_addA g_add (ex_var 1) ex_int) exs_nil))) (blkOk_by (own := [("k", 2)]) (by kernel_rfl)) (by decide) (fun _ _ _ _ _ => (gx_nm 2 nd)) (fun _ _ _ _ _ => (txs_one (tx_w (wx_and (tx_cmp (op_eqD (hu64 hr)) g_eq (ex_op op_mod g_mod (ex_callT call_int1 g_int (m_int X G c) (exs_cons (ex_var 0) exs_nil)) (ex_var 2)) ex_int) (wx_and1 (tx_cmp (op_eqD (hu64 hr)) g_eq (ex_op op_mod g_mod (ex_callT call_int1 g_int (m_int X G c) (exs_cons (ex_var 1) exs_nil)) (ex_var 2)) ex_int)))))) (fun _ _ _ _ _ => (ex_var 2)))) (Fx.ex (fx_lst exs_nil)))))
omit X G c in theorem sc_law : FnScope ["script", "numbers", "rest", "weights", "k", "number", "row", "change", "swap", "place", "one", "other", "first", "turned", "weight"] ["script"] (defScope sm_law) := ⟨rfl, rfl, rfl, by decide +kernel, rfl, by decide +kernel, by decide +kernel⟩
theorem fn_law {fd : FuncData} (F : FunD K d_law.name d_law.qual d_law.params d_law.body d_law.scope (d_law.dvs K) (d_law.kws K) (He.fAd K d_law.at_) fd) : FnOk P w K mg base (L2.CX P w) 8 (He.ga K "law") fd ["script"] (spD K mg 1 S_law) := by
  refine fn_mkD (k := 7) F sc_law fun cdv A outer s H E F0 hr => ?_
  have nd := (sc_law).nd
  exact (ss_cons (st_set [] 1 (ex_usr (cal__law_numbers X G c) hr (by first | exact Nat.le_refl _ | decide | omega) (takes_of rfl rfl rfl rfl) (exs_cons (ex_var 0) (exs_cons ex_int (exs_cons ex_int exs_nil)))) nd)
  (ss_cons (st_set [] 2 (ex_op op_addA g_add ex_int (ex_op op_mod g_mod (ex_callT call_int1 g_int (m_int X G c) (exs_cons (ex_ix L2.ix_seq g_ix (ex_var 1) ex_int) exs_nil)) ex_int)) nd)
  (ss_cons (st_set [] 3 (ex_callT call_tuple_of g_tuple (m_tuple X G c) (exs_cons (Fx.ex (fx_lc nd (ix_range1 (m_range X G c) (exs_cons (ex_op op_addA g_add ex_int (ex_op op_mod g_mod (ex_callT call_int1 g_int (m_int X G c) (exs_cons (ex_op op_divA g_div (ex_ix L2.ix_seq g_ix (ex_var 1) ex_int) ex_int) exs_nil)) ex_int)) exs_nil)) (blkOk_by (own := [("k", 4)]) (by kernel_rfl)) (by decide) (fun _ _ _ _ _ => (gx_nm 4 nd)) (fun _ _ _ _ _ => txs_nil) (fun _ _ _ _ _ => (ex_op op_mod g_mod (ex_callT call_int1 g_int (m_int X G c) (exs_cons (ex_op op_addA g_add (ex_op op_divA g_div (ex_ix L2.ix_seq g_ix (ex_var 1) ex_int) (ex_op op_addA g_add (ex_var 4) ex_int)) (ex_op op_mulA g_mul ex_int (ex_var 4))) exs_nil)) ex_int)))) exs_nil)) nd)
  (ss_cons (st_for [] (passes_of rfl) (RB.ix_seq (ex_slice (ex_var 1) (px_some ex_int) px_none)) (gx_nm 5 nd)
  (ss_cons (st_set [] 6 (ex_callT call_tuple_of g_tuple (m_tuple X G c) (exs_cons (Fx.ex (fx_lc nd (ix_range1 (m_range X G c) (exs_cons (ex_callB call_len g_len (m_len X G c) (exs_cons (ex_var 3) exs_nil)) exs_nil)) (blkOk_by (own := [("k", 4)]) (by kernel_rfl)) (by decide) (fun _ _ _ _ _ => (gx_nm 4 nd)) (fun _ _ _ _ _ => txs_nil) (fun _ _ _ _ _ => (ex_op op_mod g_mod (ex_callT call_int1 g_int (m_int X G c) (exs_cons (ex_op op_addA g_add (ex_op op_divA g_div (ex_var 5) (ex_op op_addA g_add (ex_var 4) ex_int)) (ex_op op_mulA g_mul ex_int (ex_var 4))) exs_nil)) (ex_var 2))))) exs_nil)) nd)
  (ss_cons (st_if [] (tx_not (tx_val (ex_usr (cal__law_same X G c 6) hr (by first | exact Nat.le_refl _ | decide | omega) (takes_of rfl rfl rfl rfl) (exs_cons (ex_usr (cal_check_of X G c) hr (by first | exact Nat.le_refl _ | decide | omega) (takes_of rfl rfl rfl rfl) (exs_cons (ex_var 3) (exs_cons (ex_var 2) (exs_cons (ex_var 6) exs_nil)))) (exs_cons (ex_op op_mod g_mod (ex_callT call_int1 g_int (m_int X G c) (exs_cons (ex_callB (cr_sum rfl) g_sum (m_sum X G c) (exs_cons (Fx.ex (fx_lc nd (ix_range1 (m_range X G c) (exs_cons (ex_callB call_len g_len (m_len X G c) (exs_cons (ex_var 3) exs_nil)) exs_nil)) (blkOk_by (own := [("k", 4)]) (by kernel_rfl)) (by decide) (fun _ _ _ _ _ => (gx_nm 4 nd)) (fun _ _ _ _ _ => txs_nil) (fun _ _ _ _ _ => (ex_op op_mulA g_mul (ex_ix L2.ix_seq g_ix (ex_var 3) (ex_var 4)) (ex_ix L2.ix_seq g_ix (ex_var 6) (ex_var 4)))))) exs_nil)) exs_nil)) (ex_var 2)) exs_nil)))))
  (ss_one (st_ret [] ex_bl))
  ss_nil)
  (ss_one (st_if [] (tx_not (tx_val (ex_usr (cal__law_same X G c 6) hr (by first | exact Nat.le_refl _ | decide | omega) (takes_of rfl rfl rfl rfl) (exs_cons (ex_usr (cal_check_of X G c) hr (by first | exact Nat.le_refl _ | decide | omega) (takes_of rfl rfl rfl rfl) (exs_cons (Fx.ex (fx_callT call_list_of g_list (m_list X G c) (exs_cons (ex_var 3) exs_nil))) (exs_cons (ex_var 2) (exs_cons (Fx.ex (fx_callT call_list_of g_list (m_list X G c) (exs_cons (ex_var 6) exs_nil))) exs_nil)))) (exs_cons (ex_usr (cal_check_of X G c) hr (by first | exact Nat.le_refl _ | decide | omega) (takes_of rfl rfl rfl rfl) (exs_cons (ex_var 3) (exs_cons (ex_var 2) (exs_cons (ex_var 6) exs_nil)))) exs_nil)))))
  (ss_one (st_ret [] ex_bl))
  ss_nil)))))
  (ss_cons (st_if [] (tx_w (wx_or (tx_notN (ex_usr (cal_finds_change X G c) hr (by first | exact Nat.le_refl _ | decide | omega) (takes_of rfl rfl rfl rfl) (exs_cons (ex_tup (exs_cons ex_int exs_nil)) (exs_cons ex_int exs_nil)))) (wx_or1 (tx_not (tx_val (ex_usr (cal__law_same X G c 6) hr (by first | exact Nat.le_refl _ | decide | omega) (takes_of rfl rfl rfl rfl) (exs_cons (ex_usr (cal_check_of X G c) hr (by first | exact Nat.le_refl _ | decide | omega) (takes_of rfl rfl rfl rfl) (exs_cons (ex_op op_mulA g_mul (ex_tup (exs_cons ex_int exs_nil)) ex_int) (exs_cons ex_int (exs_cons (ex_op op_mulA g_mul (ex_tup (exs_cons ex_int exs_nil)) ex_int) exs_nil)))) (exs_cons ex_int exs_nil))))))))
  (ss_one (st_ret [] ex_bl))
  ss_nil)
  (ss_cons (st_own [] 7 (fx_lst exs_nil) nd)
  (ss_cons (st_own [] 8 (fx_lst exs_nil) nd)
  (ss_cons (st_for [] (passes_of rfl) (ix_range1 (m_range X G c) (exs_cons (ex_callB call_len g_len (m_len X G c) (exs_cons (ex_var 3) exs_nil)) exs_nil)) (gx_nm 9 nd)
  (ss_one (st_for [] (passes_of rfl) (ix_range1 (m_range X G c) (exs_cons (ex_var 2) exs_nil)) (gx_nm 10 nd)
  (ss_one (st_for [] (passes_of rfl) (ix_range1 (m_range X G c) (exs_cons (ex_var 2) exs_nil)) (gx_nm 11 nd)
  (ss_one (st_if [] (tx_cmp (op_neD (hu64 hr)) g_ne (ex_var 10) (ex_var 11))
  (ss_cons (st_if [] (tx_cmp (op_eqD (hu64 hr)) g_eq (ex_op op_mod g_mod (ex_callT call_int1 g_int (m_int X G c) (exs_cons (ex_op op_mulA g_mul (ex_ix L2.ix_seq g_ix (ex_var 3) (ex_var 9)) (ex_op op_sub g_sub (ex_var 10) (ex_var 11))) exs_nil)) (ex_var 2)) ex_int)
  (ss_one (st_app [] 7 (exs_cons (ex_tup (exs_cons (ex_var 9) (exs_cons (ex_var 10) (exs_cons (ex_var 11) exs_nil)))) exs_nil)))
  ss_nil)
  (ss_one (st_if [] (tx_w (wx_and (tx_cmp op_ltA g_cmp (ex_op op_addA g_add (ex_var 9) ex_int) (ex_callB call_len g_len (m_len X G c) (exs_cons (ex_var 3) exs_nil))) (wx_and1 (tx_cmp (op_eqD (hu64 hr)) g_eq (ex_op op_mod g_mod (ex_callT call_int1 g_int (m_int X G c) (exs_cons (ex_op op_mulA g_mul (ex_op op_sub g_sub (ex_ix L2.ix_seq g_ix (ex_var 3) (ex_var 9)) (ex_ix L2.ix_seq g_ix (ex_var 3) (ex_op op_addA g_add (ex_var 9) ex_int))) (ex_op op_sub g_sub (ex_var 10) (ex_var 11))) exs_nil)) (ex_var 2)) ex_int))))
  (ss_one (st_app [] 8 (exs_cons (ex_tup (exs_cons (ex_var 9) (exs_cons (ex_var 10) (exs_cons (ex_var 11) exs_nil)))) exs_nil)))
  ss_nil)))
  ss_nil)))))))
  (ss_cons (st_set [] 12 ex_non nd)
  (ss_cons (st_if [7] (tx_cmp (op_neD (hu64 hr)) g_ne (ex_var 7) (Fx.ex (fx_lst exs_nil)))
  (ss_one (st_set [7] 12 (ex_callB (cr_minD rfl (hu66 hr)) g_min (m_min X G c) (exs_cons (ex_var 7) exs_nil)) nd))
  ss_nil)
  (ss_cons (st_set [] 13 ex_non nd)
  (ss_cons (st_if [8] (tx_cmp (op_neD (hu64 hr)) g_ne (ex_var 8) (Fx.ex (fx_lst exs_nil)))
  (ss_one (st_set [8] 13 (ex_callB (cr_minD rfl (hu66 hr)) g_min (m_min X G c) (exs_cons (ex_var 8) exs_nil)) nd))
  ss_nil)
  (ss_cons (st_if [] (tx_w (wx_or (tx_not (tx_val (ex_usr (cal__law_same X G c 6) hr (by first | exact Nat.le_refl _ | decide | omega) (takes_of rfl rfl rfl rfl) (exs_cons (ex_usr (cal_finds_change X G c) hr (by first | exact Nat.le_refl _ | decide | omega) (takes_of rfl rfl rfl rfl) (exs_cons (ex_var 3) (exs_cons (ex_var 2) exs_nil))) (exs_cons (ex_var 12) exs_nil))))) (wx_or1 (tx_not (tx_val (ex_usr (cal__law_same X G c 6) hr (by first | exact Nat.le_refl _ | decide | omega) (takes_of rfl rfl rfl rfl) (exs_cons (ex_usr (cal_finds_swap X G c) hr (by first | exact Nat.le_refl _ | decide | omega) (takes_of rfl rfl rfl rfl) (exs_cons (ex_var 3) (exs_cons (ex_var 2) exs_nil))) (exs_cons (ex_var 13) exs_nil))))))))
  (ss_one (st_ret [] ex_bl))
  ss_nil)
  (ss_cons (st_if [] (tx_cmp (op_neD (hu64 hr)) g_ne (ex_isN (ex_var 12)) (ex_cmp (op_eqD (hu64 hr)) g_eq (Fx.ex (fx_lc nd (RB.ix_seq (ex_var 3)) (blkOk_by (own := [("weight", 14)]) (by kernel_rfl)) (by decide) (fun _ _ _ _ _ => (gx_nm 14 nd)) (fun _ _ _ _ _ => (txs_one (tx_not (tx_val (ex_usr (cal__law_divides X G c) hr (by first | exact Nat.le_refl _ | decide | omega) takes0 (exs_cons (ex_var 14) (exs_cons (ex_var 2) exs_nil))))))) (fun _ _ _ _ _ => (ex_var 14)))) (Fx.ex (fx_lst exs_nil))))
  (ss_one (st_ret [] ex_bl))
  ss_nil)
  (ss_one (st_ret [] (ex_cmp (op_eqD (hu64 hr)) g_eq (ex_isN (ex_var 13)) (ex_cmp (op_eqD (hu64 hr)) g_eq (Fx.ex (fx_lc nd (ix_range1 (m_range X G c) (exs_cons (ex_op op_sub g_sub (ex_callB call_len g_len (m_len X G c) (exs_cons (ex_var 3) exs_nil)) ex_int) exs_nil)) (blkOk_by (own := [("k", 4)]) (by kernel_rfl)) (by decide) (fun _ _ _ _ _ => (gx_nm 4 nd)) (fun _ _ _ _ _ => (txs_one (tx_not (tx_val (ex_usr (cal__law_divides X G c) hr (by first | exact Nat.le_refl _ | decide | omega) takes0 (exs_cons (ex_op op_sub g_sub (ex_ix L2.ix_seq g_ix (ex_var 3) (ex_var 4)) (ex_ix L2.ix_seq g_ix (ex_var 3) (ex_op op_addA g_add (ex_var 4) ex_int))) (exs_cons (ex_var 2) exs_nil))))))) (fun _ _ _ _ _ => (ex_var 4)))) (Fx.ex (fx_lst exs_nil))))))))))))))))))))
end
end K55

set_option Elab.async false
set_option linter.all false
set_option maxRecDepth 100000
set_option maxHeartbeats 0
namespace K55
open PySem PySem.Spec PyProof.Rows L2 RB
abbrev Rw : PySem.W.OpenRow := PySem.W.OpenLaw.row PySem.Challenge.rw_readsback_k55_whole_check_signs
abbrev hk : PySem.W.Hook := He.hookD 6 fa fn
def ob (s : PySem.W.SharedT) : He.AlD := He.obsDG 6 fa fn (HandSHeadRun.getT s)
theorem ob_eq (s : PySem.W.SharedT) : ob s = hk.obs s.abs := He.obsDG_eq (HandSHeadRun.getT_eq s)
def loose0 : List Str := ["LetterError", "BadValue", "is_int", "is_between", "is_row", "is_row_of", "want_int", "want_weights", "check_of", "first_missed", "finds_change", "finds_swap", "_law_power", "_law_cell", "_law_numbers", "_law_same", "_law_listed", "_law_divides"]
def loose : List Str := loose0
theorem run (w : World) : HandSHeadRun.RunEq Rw (PySem.W.view Rw.prog [22]) hk ob 6000 loose w := by
  intro os
  kernel_rfl
end K55
open PySem PySem.W PySem.Calls PyProof.Rows
theorem PySem.Challenge.cw_readsback_k55_whole_check_signs_holds : PySem.Challenge.rw_readsback_k55_whole_check_signs.Holds := by
  w_on; o_law
  refine HandSHeadRun.head_any (r := OpenLaw.row PySem.Challenge.rw_readsback_k55_whole_check_signs) (q := view (OpenLaw.row PySem.Challenge.rw_readsback_k55_whole_check_signs).prog [22]) (H := K55.hk) (ob := K55.ob) (M := 6000) (loose := K55.loose) (d := HandSHeadRun.topDef (OpenLaw.row PySem.Challenge.rw_readsback_k55_whole_check_signs).prog 22) (kwd := []) K55.ob_eq
    (by kernel_rfl) (fun s => by kernel_rfl) K55.run (by kernel_rfl) (by kernel_rfl) (by kernel_rfl) (by rfl) (by first | assumption | decide +kernel) (by decide +kernel) ⟨rfl, rfl, rfl, rfl, rfl, by decide +kernel⟩ ?hw ?hc
  case hw => w_witness2
  case hc =>
    refine RB.walk_ofR (l := PySem.Challenge.rw_readsback_k55_whole_check_signs) (n := 63) (k := 8) (x := "script") (S := K55.S_law) rfl (by decide) (by kernel_rfl) ⟨rfl, by decide, by decide⟩ ?F K55.law_true
    intro w mg fa h Y G hmg0
    obtain ⟨K, KX, c⟩ := Y
    have hmg : mg ("law" : PySem.Str) = some (.ref fa) := by
      have e : (HandSHeadRun.topDef (OpenLaw.row PySem.Challenge.rw_readsback_k55_whole_check_signs).prog 22).name = ("law" : PySem.Str) := by kernel_rfl
      rw [← e]
      exact hmg0
    obtain ⟨fd, F⟩ := c.def_ 14 (d := K55.d_law) rfl
    have e := hmg.symm.trans (K55.q_law KX G c)
    cases e
    have b := L2.FunD.bindsA (ps := ["script"]) F fun _ _ _ _ _ _ us hl => match us, hl with | [_], _ => rfl
    exact ⟨K, fd, KX, fun s v => b s [v] rfl, fun base KB GB => K55.fn_law KX G c F⟩

