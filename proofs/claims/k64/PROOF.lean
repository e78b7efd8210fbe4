import PyProof.Rows.All
import Wide.All
import OpenK.AllK
import Wide.FinOn
import HandS.ForMost
import HandS.TupAny
import HandS.IsInst
import HandS.RaiseMore
import HandS.TupLe
import HandS.StrMore
import KE.KRevSl
import HandS.WordsExc
import HandS.TryOnly
import KE.GoesEnum
import HandS.More
import HandS.Replace
import HandS.ExcInit
import HandS.ExcSuper
import KE.KExcSuper
import HandS.ExcField
import KE.KExcIs
import KE.IntTextLaws
import HandS.ExcIs
import PySem.Challenge.RW_heldalways_k64_whole_commands_there_and
set_option Elab.async false
set_option linter.all false
section
set_option maxRecDepth 100000
set_option maxHeartbeats 4000000
set_option autoImplicit false
set_option linter.all false
/-! The data layer: values as plain data, a store of things that change. -/
namespace DL
open PySem L2
inductive D where
  | non
  | bl (b : Bool)
  | int (i : Int)
  | str (x : Str)
  | tup (xs : List D)
  | lst (xs : List D)
  | rol (xs : List D)
  | em
  | hd (n : Nat)
  deriving Inhabited
inductive Cell where
  | lst (xs : List D)
  | ins (C : Addr) (fs : List (Str × D))
  | dead
abbrev Store := List Cell
abbrev Rho := List (Option D)
/-- an own exception: its class, its fields (none: it has no dict) -/
structure Exn where
  cls : Addr
  fs : Option (List (Str × D))
inductive R (α : Type) where
  | no
  | ok (a : α) (S : Store)
  | ex (e : Exn) (S : Store)
def R.bind {α β : Type} (r : R α) (f : α → Store → R β) : R β :=
  match r with
  | .no => .no
  | .ok a S => f a S
  | .ex e S => .ex e S
abbrev EF := Rho → Store → R D
mutual
inductive RD (K : PySem.W.Frag) (G : Hp) (J : List Addr) : D → V → Prop
  | non : RD K G J .non .non
  | bl (b : Bool) : RD K G J (.bl b) (.bl b)
  | int (i : Int) : RD K G J (.int i) (.int i)
  | str (x : Str) : RD K G J (.str x) (.str x)
  | tup {a : Addr} {vs : List V} {ds : List D} : SqT K G a vs → RDs K G J ds vs → RD K G J (.tup ds) (.ref a)
  | lst {a : Addr} {vs : List V} {ds : List D} : G a = some (.lst vs) → RDs K G J ds vs → RD K G J (.lst ds) (.ref a)
  | rol {a : Addr} {vs : List V} {ds : List D} : SqL K G a vs → RDs K G J ds vs → RD K G J (.rol ds) (.ref a)
  | em {a : Addr} : G a = some (.dK []) → RD K G J .em (.ref a)
  | hd {a : Addr} {n : Nat} : J[n]? = some a → RD K G J (.hd n) (.ref a)
inductive RDs (K : PySem.W.Frag) (G : Hp) (J : List Addr) : List D → List V → Prop
  | nil : RDs K G J [] []
  | cons {d : D} {v : V} {ds : List D} {vs : List V} : RD K G J d v → RDs K G J ds vs → RDs K G J (d :: ds) (v :: vs)
end
def Sub (G G' : Hp) : Prop := ∀ a o, G a = some o → G' a = some o
theorem Sub.refl (G : Hp) : Sub G G := fun _ _ h => h
theorem Sub.trans {G G1 G2 : Hp} (a : Sub G G1) (b : Sub G1 G2) : Sub G G2 := fun x o h => b x o (a x o h)
theorem sqT_sub {K : PySem.W.Frag} {G G' : Hp} (s : Sub G G') {a : Addr} {vs : List V} (h : SqT K G a vs) : SqT K G' a vs := by
  rcases h with (h | ⟨o, h⟩) | h
  · exact .inl (.inl (s _ _ h))
  · exact .inl (.inr ⟨o, s _ _ h⟩)
  · exact .inr h
theorem sqL_sub {K : PySem.W.Frag} {G G' : Hp} (s : Sub G G') {a : Addr} {vs : List V} (h : SqL K G a vs) : SqL K G' a vs := by
  rcases h with (h | ⟨o, h⟩) | h
  · exact .inl (.inl (s _ _ h))
  · exact .inl (.inr ⟨o, s _ _ h⟩)
  · exact .inr h
section
variable {K : PySem.W.Frag} {G G' : Hp} {J J' : List Addr}
theorem pre_at {α : Type} {J J' : List α} (p : J <+: J') {n : Nat} {a : α} (h : J[n]? = some a) : J'[n]? = some a := by
  obtain ⟨t, rfl⟩ := p
  have := (List.getElem?_eq_some_iff.mp h).1
  rw [List.getElem?_append_left this]; exact h
mutual
theorem RD.mono (s : Sub G G') (p : J <+: J') : ∀ {d : D} {v : V}, RD K G J d v → RD K G' J' d v
  | _, _, .non => .non
  | _, _, .bl b => .bl b
  | _, _, .int i => .int i
  | _, _, .str x => .str x
  | _, _, .tup h t => .tup (sqT_sub s h) (RDs.mono s p t)
  | _, _, .lst h t => .lst (s _ _ h) (RDs.mono s p t)
  | _, _, .rol h t => .rol (sqL_sub s h) (RDs.mono s p t)
  | _, _, .em h => .em (s _ _ h)
  | _, _, .hd h => .hd (pre_at p h)
theorem RDs.mono (s : Sub G G') (p : J <+: J') : ∀ {ds : List D} {vs : List V}, RDs K G J ds vs → RDs K G' J' ds vs
  | _, _, .nil => .nil
  | _, _, .cons h t => .cons (RD.mono s p h) (RDs.mono s p t)
end
theorem RDs.len : ∀ {ds : List D} {vs : List V}, RDs K G J ds vs → ds.length = vs.length
  | _, _, .nil => rfl
  | _, _, .cons _ t => by simp [RDs.len t]
theorem RDs.get : ∀ {ds : List D} {vs : List V} {i : Nat} {d : D}, RDs K G J ds vs → ds[i]? = some d → ∃ v, vs[i]? = some v ∧ RD K G J d v
  | _, _, _, _, .nil, h => by simp at h
  | _, _, 0, _, .cons r _, h => by simp at h; subst h; exact ⟨_, rfl, r⟩
  | _, _, i + 1, _, .cons _ t, h => by
    obtain ⟨v, h1, h2⟩ := RDs.get (i := i) t (by simpa using h)
    exact ⟨v, by simpa using h1, h2⟩
theorem RDs.getV : ∀ {ds : List D} {vs : List V} {i : Nat} {v : V}, RDs K G J ds vs → vs[i]? = some v → ∃ d, ds[i]? = some d ∧ RD K G J d v
  | _, _, _, _, .nil, h => by simp at h
  | _, _, 0, _, .cons r _, h => by simp at h; subst h; exact ⟨_, rfl, r⟩
  | _, _, i + 1, _, .cons _ t, h => by
    obtain ⟨v, h1, h2⟩ := RDs.getV (i := i) t (by simpa using h)
    exact ⟨v, by simpa using h1, h2⟩
theorem RDs.app : ∀ {ds es : List D} {vs ws : List V}, RDs K G J ds vs → RDs K G J es ws → RDs K G J (ds ++ es) (vs ++ ws)
  | _, _, _, _, .nil, h => h
  | _, _, _, _, .cons r t, h => .cons r (RDs.app t h)
theorem RDs.take : ∀ {ds : List D} {vs : List V} (n : Nat), RDs K G J ds vs → RDs K G J (ds.take n) (vs.take n)
  | _, _, 0, _ => by simp; exact .nil
  | _, _, _ + 1, .nil => .nil
  | _, _, n + 1, .cons r t => .cons r (RDs.take n t)
theorem RDs.drop : ∀ {ds : List D} {vs : List V} (n : Nat), RDs K G J ds vs → RDs K G J (ds.drop n) (vs.drop n)
  | _, _, 0, h => h
  | _, _, _ + 1, .nil => .nil
  | _, _, n + 1, .cons _ t => RDs.drop n t
theorem RDs.set : ∀ {ds : List D} {vs : List V} {d : D} {v : V} (n : Nat), RDs K G J ds vs → RD K G J d v → RDs K G J (ds.set n d) (vs.set n v)
  | _, _, _, _, _, .nil, _ => .nil
  | _, _, _, _, 0, .cons _ t, h => .cons h t
  | _, _, _, _, n + 1, .cons r t, h => .cons r (RDs.set n t h)
theorem RDs.rev {ds : List D} {vs : List V} (h : RDs K G J ds vs) : RDs K G J ds.reverse vs.reverse := by
  induction ds generalizing vs with
  | nil => cases h; exact .nil
  | cons d ds ih =>
    cases h with
    | cons r t => rw [List.reverse_cons, List.reverse_cons]; exact RDs.app (ih t) (.cons r .nil)
theorem RDs.rep {ds : List D} {vs : List V} (h : RDs K G J ds vs) : ∀ k : Nat, RDs K G J (List.replicate k ds).flatten (List.replicate k vs).flatten
  | 0 => .nil
  | k + 1 => by
    rw [List.replicate_succ, List.replicate_succ, List.flatten_cons, List.flatten_cons]
    exact RDs.app h (RDs.rep h k)
end
/-! ### the state -/
/-- an object of the store as it stands -/
def RC (K : PySem.W.Frag) (G : Hp) (J : List Addr) (H : Hp) (a : Addr) : Cell → Prop
  | .lst ds => ∃ vs, H a = some (.lst vs) ∧ RDs K G J ds vs
  | .ins C fs => ∃ dx vs, H a = some (.ins C dx vs) ∧ Paired (fun (p : Str × D) (q : Str × V) => p.1 = q.1 ∧ RD K G J p.2 q.2) fs vs
  | .dead => True
structure StR (K : PySem.W.Frag) (G : Hp) (J : List Addr) (S : Store) (H : Hp) : Prop where
  sub : Sub G H
  len : J.length = S.length
  cell : ∀ (n : Nat) (c : Cell) (a : Addr), S[n]? = some c → J[n]? = some a → RC K G J H a c
  off : ∀ (n : Nat) (a : Addr), J[n]? = some a → G a = none ∧ H a ≠ none
  nd : J.Nodup
/-- from one state to a later one -/
structure Stp (G : Hp) (J : List Addr) (H : Hp) (G' : Hp) (J' : List Addr) (H' : Hp) : Prop where
  g : Sub G G'
  gn : ∀ a, G' a ≠ none → G a ≠ none ∨ H a = none
  j : J <+: J'
  jn : ∀ a, a ∈ J' → a ∈ J ∨ H a = none
  fr : ∀ a o, H a = some o → a ∉ J → H' a = some o
  dm : ∀ a, H a ≠ none → H' a ≠ none
theorem Stp.refl {G : Hp} {J : List Addr} {H : Hp} : Stp G J H G J H :=
  ⟨Sub.refl _, fun _ h => .inl h, List.prefix_refl _, fun _ h => .inl h, fun _ _ h _ => h, fun _ h => h⟩
theorem Stp.trans {G G1 G2 : Hp} {J J1 J2 : List Addr} {H H1 H2 : Hp} (a : Stp G J H G1 J1 H1) (b : Stp G1 J1 H1 G2 J2 H2) : Stp G J H G2 J2 H2 where
  g := a.g.trans b.g
  gn x h := by
    rcases b.gn x h with h | h
    · exact a.gn x h
    · by_cases e : H x = none
      · exact .inr e
      · exact absurd h (a.dm x e)
  j := a.j.trans b.j
  jn x h := by
    rcases b.jn x h with h | h
    · exact a.jn x h
    · by_cases e : H x = none
      · exact .inr e
      · exact absurd h (a.dm x e)
  fr x o h n := by
    refine b.fr x o (a.fr x o h n) fun hx => ?_
    rcases a.jn x hx with h' | h'
    · exact n h'
    · rw [h] at h'; cases h'
  dm x h := b.dm x (a.dm x h)
/-- the names' values -/
structure EnvR (K : PySem.W.Frag) (G : Hp) (J : List Addr) (ρ : Rho) (σ : St) : Prop where
  len : ρ.length = σ.length
  at_ : ∀ (i : Nat) (d : D), ρ[i]? = some (some d) → ∃ v, σ[i]? = some (some v) ∧ RD K G J d v
theorem EnvR.mono {K : PySem.W.Frag} {G G' : Hp} {J J' : List Addr} {ρ : Rho} {σ : St} (s : Sub G G') (p : J <+: J') (h : EnvR K G J ρ σ) : EnvR K G' J' ρ σ :=
  ⟨h.len, fun i d e => by obtain ⟨v, h1, h2⟩ := h.at_ i d e; exact ⟨v, h1, h2.mono s p⟩⟩
theorem EnvR.set {K : PySem.W.Frag} {G : Hp} {J : List Addr} {ρ : Rho} {σ : St} (h : EnvR K G J ρ σ) (i : Nat) {d : D} {v : V} (r : RD K G J d v) : EnvR K G J (ρ.set i (some d)) (σ.set i (some v)) := by
  refine ⟨by simp [h.len], fun j e he => ?_⟩
  by_cases ij : i = j
  · subst ij
    have hl : i < ρ.length := by
      by_cases hl : i < ρ.length
      · exact hl
      · rw [List.getElem?_eq_none (by simpa using hl)] at he; cases he
    rw [List.getElem?_set_self hl] at he
    cases he
    exact ⟨v, List.getElem?_set_self (h.len ▸ hl), r⟩
  · rw [List.getElem?_set_ne ij] at he
    obtain ⟨w, h1, h2⟩ := h.at_ j e he
    exact ⟨w, by rw [List.getElem?_set_ne ij]; exact h1, h2⟩
/-- how an own exception lies -/
def XR (K : PySem.W.Frag) (G : Hp) (J : List Addr) (e : Exn) (H : Hp) : Option Addr → Prop
  | none => e.fs = none
  | some dx => ∃ fs vs, e.fs = some fs ∧ H dx = some (.xd vs) ∧ G dx = none ∧ dx ∉ J ∧ Paired (fun (p : Str × D) (q : Str × V) => p.1 = q.1 ∧ RD K G J p.2 q.2) fs vs
/-- what is wanted of an end: Q of what came, E of an exception -/
def Post {α β : Type} (K : PySem.W.Frag) (Rl : Hp → List Addr → α → β → Prop) (G : Hp) (J : List Addr) (H : Hp) (Q : β → Hp → Prop) (E : XK) : R α → Prop
  | .no => False
  | .ok d S' => ∀ G' J' H' v, StR K G' J' S' H' → Stp G J H G' J' H' → Rl G' J' d v → Q v H'
  | .ex e S' => ∀ G' J' H' dx, StR K G' J' S' H' → Stp G J H G' J' H' → XR K G' J' e H' dx → E (.ref e.cls) dx H'
def REq {α : Type} : Hp → List Addr → α → α → Prop := fun _ _ a b => b = a
section
variable {α β γ δ : Type} {K : PySem.W.Frag} {Rl : Hp → List Addr → α → β → Prop} {Rm : Hp → List Addr → γ → δ → Prop} {G G1 H H1 : Hp} {J J1 : List Addr} {Q : β → Hp → Prop} {Q' : δ → Hp → Prop} {E : XK}
theorem Post.from {r : R α} (a : Stp G J H G1 J1 H1) (h : Post K Rl G J H Q E r) : Post K Rl G1 J1 H1 Q E r := by
  cases r with
  | no => exact h
  | ok d S' => exact fun G' J' H' v x y z => h G' J' H' v x (a.trans y) z
  | ex e S' => exact fun G' J' H' v x y z => h G' J' H' v x (a.trans y) z
theorem Post.bind {r : R γ} {f : γ → Store → R α} (h : Post K Rl G J H Q E (r.bind f))
    (k : ∀ d S' G' J' H' v, r = .ok d S' → StR K G' J' S' H' → Stp G J H G' J' H' → Rm G' J' d v → Post K Rl G' J' H' Q E (f d S') → Q' v H') : Post K Rm G J H Q' E r := by
  cases r with
  | no => exact h
  | ok d S' => exact fun G' J' H' v x y z => k d S' G' J' H' v rfl x y z (Post.from y h)
  | ex e S' => exact h
theorem Post.imp {r : R α} {P : β → Hp → Prop} (h : Post K Rl G J H Q E r) (k : ∀ v H', Q v H' → P v H') : Post K Rl G J H P E r := by
  cases r with
  | no => exact h
  | ok d S' => exact fun G' J' H' v x y z => k v H' (h G' J' H' v x y z)
  | ex e S' => exact h
theorem Post.ok {S : Store} {d : α} {v : β} (h : Post K Rl G J H Q E (.ok d S)) (st : StR K G J S H) (r : Rl G J d v) : Q v H := h G J H v st Stp.refl r
end
/-- a reading by a plain function of data -/
def tG {α β : Type} (K : PySem.W.Frag) (Rl : Hp → List Addr → α → β → Prop) (E : XK) (f : Rho → Store → R α) : St → Hp → (β → Hp → Prop) → Prop :=
  fun σ H Q => ∃ G J S ρ, StR K G J S H ∧ EnvR K G J ρ σ ∧ Post K Rl G J H Q E (f ρ S)
abbrev BF := Rho → Store → R Bool
abbrev AF := Rho → Store → R (List D)
abbrev OF := Rho → Store → R (Option Int)
/-- an expression, a test, arguments, a slice's part as plain functions of data -/
def ME (X : Cx) (E : XK) (e : Expr) (f : EF) : Prop := PE X e (tG X.K (RD X.K) E f)
def MT (X : Cx) (E : XK) (e : Expr) (f : BF) : Prop := PT X e (tG X.K REq E f)
def MA (X : Cx) (E : XK) (es : List Expr) (f : AF) : Prop := PA X es (tG X.K (RDs X.K) E f)
def MO (X : Cx) (E : XK) (e : Option Expr) (f : OF) : Prop := PO X e (tG X.K REq E f)
theorem pe_mono {X : Cx} {e : Expr} {t t' : TE} (h : PE X e t) (w : ∀ σ H Q, t' σ H Q → t σ H Q) : PE X e t' :=
  ⟨fun pins s σ H Q I q => h.run pins s σ H Q I (w _ _ _ q)⟩
theorem pt_mono {X : Cx} {e : Expr} {t t' : TT} (h : PT X e t) (w : ∀ σ H Q, t' σ H Q → t σ H Q) : PT X e t' :=
  ⟨fun pins s σ H Q I q => h.run pins s σ H Q I (w _ _ _ q)⟩
theorem pa_mono {X : Cx} {e : List Expr} {t t' : TA} (h : PA X e t) (w : ∀ σ H Q, t' σ H Q → t σ H Q) : PA X e t' :=
  ⟨fun p pins s σ H Q I q => h.run p pins s σ H Q I (w _ _ _ q)⟩
/-- one part behind another -/
theorem tG_bind {α β γ δ : Type} {K : PySem.W.Frag} {Rl : Hp → List Addr → α → β → Prop} {Rm : Hp → List Addr → γ → δ → Prop} {E : XK} {f : Rho → Store → R γ} {k : Rho → γ → Store → R α} {σ : St} {H : Hp} {Q : β → Hp → Prop} {Q' : δ → Hp → Prop}
    (h : tG K Rl E (fun ρ S => (f ρ S).bind fun d S1 => k ρ d S1) σ H Q)
    (w : ∀ d v ρ G J S H1, StR K G J S H1 → EnvR K G J ρ σ → Rm G J d v → Post K Rl G J H1 Q E (k ρ d S) → Q' v H1) : tG K Rm E f σ H Q' := by
  obtain ⟨G, J, S, ρ, st, en, h⟩ := h
  exact ⟨G, J, S, ρ, st, en, Post.bind h fun d S1 G1 J1 H1 v _ st1 s1 rd h1 => w d v ρ G1 J1 S1 H1 st1 (en.mono s1.g s1.j) rd h1⟩
end DL
end
section
set_option maxRecDepth 100000
set_option maxHeartbeats 4000000
set_option autoImplicit false
set_option linter.all false
namespace DL
open PySem L2
/-! ### the store changes -/
section
variable {K : PySem.W.Frag} {G H : Hp} {J : List Addr} {S : Store}
theorem free_of_H {p : Addr} (st : StR K G J S H) (h : H p = none) : G p = none := by
  cases e : G p with
  | none => rfl
  | some o => rw [st.sub _ _ e] at h; cases h
theorem notin_of_H {p : Addr} (st : StR K G J S H) (h : H p = none) : p ∉ J := fun m => by
  obtain ⟨n, hn⟩ := List.getElem?_of_mem m
  exact (st.off n p hn).2 h
theorem sub_upd {p : Addr} {o : HO} (h : G p = none) : Sub G (upd G p o) := fun a u e => by
  have : a ≠ p := fun q => by subst q; rw [h] at e; cases e
  rw [upd_ne this]; exact e
theorem RC.mono {G' : Hp} {J' : List Addr} {H' : Hp} {a : Addr} {c : Cell} (s : Sub G G') (p : J <+: J') (e : H' a = H a) (h : RC K G J H a c) : RC K G' J' H' a c := by
  cases c with
  | lst ds => obtain ⟨vs, h1, h2⟩ := h; exact ⟨vs, e.trans h1, h2.mono s p⟩
  | ins C fs => obtain ⟨dx, vs, h1, h2⟩ := h; exact ⟨dx, vs, e.trans h1, Paired.mapP h2 fun _ _ q => ⟨q.1, q.2.mono s p⟩⟩
  | dead => trivial
/-- a new thing that stays as it is -/
theorem StR.froz {p : Addr} {o : HO} (st : StR K G J S H) (h : H p = none) : StR K (upd G p o) J S (upd H p o) where
  sub a u e := by
    by_cases q : a = p
    · subst q; rw [upd_same] at e ⊢; exact e
    · rw [upd_ne q] at e ⊢; exact st.sub _ _ e
  len := st.len
  cell n c a h1 h2 := by
    have q : a ≠ p := fun q => by subst q; exact (st.off n a h2).2 h
    exact RC.mono (sub_upd (free_of_H st h)) (List.prefix_refl _) (upd_ne q) (st.cell n c a h1 h2)
  off n a h2 := by
    have q : a ≠ p := fun q => by subst q; exact (st.off n a h2).2 h
    rw [upd_ne q, upd_ne q]; exact st.off n a h2
  nd := st.nd
theorem Stp.froz {p : Addr} {o : HO} (st : StR K G J S H) (h : H p = none) : Stp G J H (upd G p o) J (upd H p o) where
  g := sub_upd (free_of_H st h)
  gn a e := by
    by_cases q : a = p
    · subst q; exact .inr h
    · rw [upd_ne q] at e; exact .inl e
  j := List.prefix_refl _
  jn a e := .inl e
  fr a u e _ := sub_upd h a u e
  dm a e := by
    cases q : H a with
    | none => exact absurd q e
    | some u => rw [sub_upd h a u q]; simp
/-- a new thing that is known to the heap alone -/
theorem StR.junk {p : Addr} {o : HO} (st : StR K G J S H) (h : H p = none) : StR K G J S (upd H p o) where
  sub a u e := sub_upd h a u (st.sub _ _ e)
  len := st.len
  cell n c a h1 h2 := by
    have q : a ≠ p := fun q => by subst q; exact (st.off n a h2).2 h
    exact RC.mono (Sub.refl _) (List.prefix_refl _) (upd_ne q) (st.cell n c a h1 h2)
  off n a h2 := by
    have q : a ≠ p := fun q => by subst q; exact (st.off n a h2).2 h
    rw [upd_ne q]; exact st.off n a h2
  nd := st.nd
theorem Stp.junk {p : Addr} {o : HO} (h : H p = none) : Stp G J H G J (upd H p o) where
  g := Sub.refl _
  gn a e := .inl e
  j := List.prefix_refl _
  jn a e := .inl e
  fr a u e _ := sub_upd h a u e
  dm a e := by
    cases q : H a with
    | none => exact absurd q e
    | some u => rw [sub_upd h a u q]; simp
/-- a new thing of the store -/
theorem StR.alloc {p : Addr} {o : HO} {c : Cell} (st : StR K G J S H) (h : H p = none) (hc : RC K G (J ++ [p]) (upd H p o) p c) : StR K G (J ++ [p]) (S ++ [c]) (upd H p o) where
  sub a u e := sub_upd h a u (st.sub _ _ e)
  len := by simp [st.len]
  cell n d a h1 h2 := by
    rw [List.getElem?_append] at h1 h2
    by_cases l : n < J.length
    · rw [if_pos l] at h2
      rw [if_pos (st.len ▸ l)] at h1
      have q : a ≠ p := fun q => by subst q; exact (st.off n a h2).2 h
      exact RC.mono (Sub.refl _) (List.prefix_append _ _) (upd_ne q) (st.cell n d a h1 h2)
    · rw [if_neg l] at h2
      rw [if_neg (st.len ▸ l)] at h1
      have z : n - J.length = 0 := by
        have := (List.getElem?_eq_some_iff.mp h2).1
        simp at this; omega
      rw [z] at h2
      rw [← st.len, z] at h1
      simp at h1 h2
      subst h1; subst h2; exact hc
  off n a h2 := by
    rw [List.getElem?_append] at h2
    by_cases l : n < J.length
    · rw [if_pos l] at h2
      have q : a ≠ p := fun q => by subst q; exact (st.off n a h2).2 h
      rw [upd_ne q]; exact st.off n a h2
    · rw [if_neg l] at h2
      have z : n - J.length = 0 := by
        have := (List.getElem?_eq_some_iff.mp h2).1
        simp at this; omega
      rw [z] at h2
      simp at h2
      subst h2
      exact ⟨free_of_H st h, by rw [upd_same]; simp⟩
  nd := by
    rw [List.nodup_append]
    refine ⟨st.nd, by simp, fun a ha b hb => ?_⟩
    simp at hb; subst hb
    exact fun q => notin_of_H st h (q ▸ ha)
theorem Stp.alloc {p : Addr} {o : HO} (h : H p = none) : Stp G J H G (J ++ [p]) (upd H p o) where
  g := Sub.refl _
  gn a e := .inl e
  j := List.prefix_append _ _
  jn a e := by
    rcases List.mem_append.mp e with e | e
    · exact .inl e
    · simp at e; subst e; exact .inr h
  fr a u e _ := sub_upd h a u e
  dm a e := by
    cases q : H a with
    | none => exact absurd q e
    | some u => rw [sub_upd h a u q]; simp
/-- a thing of the store changes -/
theorem StR.put {n : Nat} {a : Addr} {o : HO} {c : Cell} (st : StR K G J S H) (hn : J[n]? = some a) (hc : RC K G J (upd H a o) a c) : StR K G J (S.set n c) (upd H a o) where
  sub b u e := by
    have q : b ≠ a := fun q => by subst q; rw [(st.off n b hn).1] at e; cases e
    rw [upd_ne q]; exact st.sub _ _ e
  len := by simp [st.len]
  cell m d b h1 h2 := by
    by_cases q : n = m
    · subst q
      rw [hn] at h2; cases h2
      have : n < S.length := by
        have := (List.getElem?_eq_some_iff.mp hn).1
        rw [st.len] at this; exact this
      rw [List.getElem?_set_self this] at h1; cases h1; exact hc
    · rw [List.getElem?_set_ne q] at h1
      have ne : b ≠ a := fun e => q (by
        subst e
        exact (List.getElem?_inj (List.getElem?_eq_some_iff.mp hn).1 st.nd).mp (hn.trans h2.symm))
      exact RC.mono (Sub.refl _) (List.prefix_refl _) (upd_ne ne) (st.cell m d b h1 h2)
  off m b h2 := by
    refine ⟨(st.off m b h2).1, ?_⟩
    by_cases q : b = a
    · subst q; rw [upd_same]; simp
    · rw [upd_ne q]; exact (st.off m b h2).2
  nd := st.nd
theorem Stp.put {n : Nat} {a : Addr} {o : HO} (hn : J[n]? = some a) : Stp G J H G J (upd H a o) where
  g := Sub.refl _
  gn a e := .inl e
  j := List.prefix_refl _
  jn a e := .inl e
  fr b u e hb := by
    have q : b ≠ a := fun q => by subst q; exact hb (List.mem_of_getElem? hn)
    rw [upd_ne q]; exact e
  dm b e := by
    by_cases q : b = a
    · subst q; rw [upd_same]; simp
    · rw [upd_ne q]; exact e
/-- what is behind a certain place is forgotten -/
theorem StR.cut (st : StR K G J S H) (m : Nat) (hc : ∀ (n : Nat) (c : Cell) (a : Addr), n < m → S[n]? = some c → J[n]? = some a → RC K G (J.take m) H a c) : StR K G (J.take m) (S.take m) H where
  sub := st.sub
  len := by simp [st.len]
  cell n c a h1 h2 := by
    rw [List.getElem?_take] at h1 h2
    by_cases l : n < m
    · rw [if_pos l] at h1 h2; exact hc n c a l h1 h2
    · rw [if_neg l] at h1; cases h1
  off n a h2 := by
    rw [List.getElem?_take] at h2
    by_cases l : n < m
    · rw [if_pos l] at h2; exact st.off n a h2
    · rw [if_neg l] at h2; cases h2
  nd := st.nd.sublist (List.take_sublist _ _)
end
/-! ### two places, one place -/
def Op2 (K : PySem.W.Frag) (E : XK) (r : R2) (F : D → D → Store → R D) : Prop :=
  ∀ (G : Hp) (J : List Addr) (S : Store) (H : Hp) (x y : V) (d e : D) (Q : VK), StR K G J S H → RD K G J d x → RD K G J e y → Post K (RD K) G J H Q E (F d e S) → r x y H Q
def Op1 (K : PySem.W.Frag) (E : XK) (r : V → Hp → VK → Prop) (F : D → Store → R D) : Prop :=
  ∀ (G : Hp) (J : List Addr) (S : Store) (H : Hp) (x : V) (d : D) (Q : VK), StR K G J S H → RD K G J d x → Post K (RD K) G J H Q E (F d S) → r x H Q
def OpL (K : PySem.W.Frag) (E : XK) (r : List V → Hp → VK → Prop) (F : List D → Store → R D) : Prop :=
  ∀ (G : Hp) (J : List Addr) (S : Store) (H : Hp) (xs : List V) (ds : List D) (Q : VK), StR K G J S H → RDs K G J ds xs → Post K (RD K) G J H Q E (F ds S) → r xs H Q
def e2 (F : D → D → Store → R D) (f g : EF) : EF := fun ρ S => (f ρ S).bind fun d S1 => (g ρ S1).bind fun e S2 => F d e S2
def e1 (F : D → Store → R D) (f : EF) : EF := fun ρ S => (f ρ S).bind fun d S1 => F d S1
def eL (F : List D → Store → R D) (f : AF) : EF := fun ρ S => (f ρ S).bind fun d S1 => F d S1
def eV (i : Nat) : EF := fun ρ S => match ρ[i]? with
  | some (some d) => .ok d S
  | _ => .no
def eC (d : D) : EF := fun _ S => .ok d S
section
variable {X : Cx} {E : XK} {a b c e : Expr} {es : List Expr} {f g : EF} {fa : AF} {pos : Pos} {F : D → D → Store → R D}
theorem tM_pair {r : R2} (hF : Op2 X.K E r F) : ∀ (σ : St) (H : Hp) (Q : VK), tG X.K (RD X.K) E (e2 F f g) σ H Q → tOp r (tG X.K (RD X.K) E f) (tG X.K (RD X.K) E g) σ H Q :=
  fun _ _ Q ⟨G, J, S, ρ, st, en, h⟩ => ⟨G, J, S, ρ, st, en, Post.bind h fun d S1 G1 J1 H1 x _ st1 s1 rd h1 =>
    ⟨G1, J1, S1, ρ, st1, en.mono s1.g s1.j, Post.bind h1 fun e S2 G2 J2 H2 y _ st2 s2 re h2 => hF G2 J2 S2 H2 x y d e Q st2 (rd.mono s2.g s2.j) re h2⟩⟩
theorem me_op {op : Operator} {r : R2} (ho : OpR X (binaryOp op) r) (hF : Op2 X.K E r F) (ha : ME X E a f) (hb : ME X E b g) : ME X E (.BinOp a op b pos) (e2 F f g) :=
  pe_mono (pe_op ho ha hb) (tM_pair hF)
theorem me_cmp {op : CmpOp} {r : R2} (ho : OpR X (compareOp op) r) (hF : Op2 X.K E r F) (ha : ME X E a f) (hb : ME X E b g) (hm : behindInMarks op b = false) : ME X E (.Compare a [op] [b] pos) (e2 F f g) :=
  pe_mono (pe_cmpR ho ha hb hm) (tM_pair hF)
/-- a datum that is a truth value -/
def asB (f : EF) : BF := fun ρ S => (f ρ S).bind fun d S1 => match d with
  | .bl b => .ok b S1
  | _ => .no
theorem tT_of : ∀ (σ : St) (H : Hp) (Q : Bool → Hp → Prop), tG X.K REq E (asB f) σ H Q → tG X.K (RD X.K) E f σ H fun x H' => ∃ k, x = .bl k ∧ Q k H' :=
  fun _ _ Q ⟨G, J, S, ρ, st, en, h⟩ => ⟨G, J, S, ρ, st, en, Post.bind h fun d S1 G1 J1 H1 x _ st1 s1 rd h1 => by
    cases rd with
    | bl b => exact ⟨b, rfl, Post.ok h1 st1 rfl⟩
    | _ => exact h1.elim⟩
theorem mt_cmp {op : CmpOp} {r : R2} (ho : OpR X (compareOp op) r) (hF : Op2 X.K E r F) (ha : ME X E a f) (hb : ME X E b g) (hm : behindInMarks op b = false) : MT X E (.Compare a [op] [b] pos) (asB (e2 F f g)) :=
  pt_mono (pt_cmpR ho ha hb hm) fun σ H Q h => tM_pair hF σ H _ (tT_of σ H Q h)
theorem me_un {op : UnaryOp} {r : V → Hp → VK → Prop} {F : D → Store → R D} (ho : UnR X (unaryOp op) r) (hF : Op1 X.K E r F) (ha : ME X E a f) : ME X E (.UnaryOp op a pos) (e1 F f) :=
  pe_mono (pe_un ho ha) fun _ _ Q ⟨G, J, S, ρ, st, en, h⟩ => ⟨G, J, S, ρ, st, en, Post.bind h fun d S1 G1 J1 H1 x _ st1 _ rd h1 => hF G1 J1 S1 H1 x d Q st1 rd h1⟩
theorem me_var (i : Nat) {x : Str} (hN : X.N[i]? = some x := by rfl) (hv : Vis X.env.scope x := by first | exact Or.inl rfl | exact Or.inr (Or.inl rfl) | exact Or.inr (Or.inr rfl)) (hd : (x == ("__debug__" : Str)) = false := by decide)
    (hcd : (x == ("__classdict__" : Str)) = false := by decide) : ME X E (.Name x pos) (eV i) :=
  pe_mono (pe_var hN hv hd hcd) fun σ H Q ⟨G, J, S, ρ, st, en, h⟩ => by
    unfold eV at h
    split at h
    · rename_i d e
      obtain ⟨v, h1, h2⟩ := en.at_ i d e
      exact ⟨v, h1, Post.ok h st h2⟩
    · exact h.elim
theorem me_c {d : D} {v : V} (h : PE X a (tC v)) (r : ∀ (G : Hp) (J : List Addr), RD X.K G J d v) : ME X E a (eC d) :=
  pe_mono h fun σ H Q ⟨G, J, S, ρ, st, en, h⟩ => Post.ok (d := d) h st (r G J)
theorem me_int {i : Int} {j : Nat} : ME X E (.Constant (.int i) j pos) (eC (.int i)) := me_c pe_int fun _ _ => .int i
theorem me_bl {i : Bool} {j : Nat} : ME X E (.Constant (.bool i) j pos) (eC (.bl i)) := me_c pe_bl fun _ _ => .bl i
theorem me_non {j : Nat} : ME X E (.Constant .none j pos) (eC .non) := me_c pe_non fun _ _ => .non
theorem me_str {i : Str} {j : Nat} : ME X E (.Constant (.str i) j pos) (eC (.str i)) := me_c pe_str fun _ _ => .str i
/-- a constant of the module -/
theorem me_glob {x : Str} {d : D} {v : V} {u : Value} (hg : Gl X x) (hm : X.mg x = some u) (r : RelV v u) (rd : ∀ (G : Hp) (J : List Addr), RD X.K G J d v) (hd : (x == ("__debug__" : Str)) = false := by decide) : ME X E (.Name x pos) (eC d) :=
  me_c (pe_glob hg hm r hd) rd
/-! ### arguments -/
def aN : AF := fun _ S => .ok [] S
def aC (f : EF) (g : AF) : AF := fun ρ S => (f ρ S).bind fun d S1 => (g ρ S1).bind fun ds S2 => .ok (d :: ds) S2
theorem ma_nil : MA X E [] aN := pa_mono pa_nil fun σ H Q ⟨G, J, S, ρ, st, en, h⟩ => Post.ok (d := []) h st .nil
theorem ma_cons (ha : ME X E e f) (hr : MA X E es fa) (hs : starEach (e :: es) X.env = (false, eval e X.env) :: starEach es X.env := by rfl) : MA X E (e :: es) (aC f fa) :=
  pa_mono (pa_cons ha hr hs) fun _ _ Q ⟨G, J, S, ρ, st, en, h⟩ => ⟨G, J, S, ρ, st, en, Post.bind h fun d S1 G1 J1 H1 x _ st1 s1 rd h1 =>
    ⟨G1, J1, S1, ρ, st1, en.mono s1.g s1.j, Post.bind h1 fun ds S2 G2 J2 H2 xs _ st2 s2 re h2 => Post.ok h2 st2 (.cons (rd.mono s2.g s2.j) re)⟩⟩
/-! ### calls of what is built in, by values -/
theorem tL_of {r : List V → Hp → VK → Prop} {F : List D → Store → R D} (hF : OpL X.K E r F) : ∀ (σ : St) (H : Hp) (Q : VK), tG X.K (RD X.K) E (eL F fa) σ H Q → tCB r (tG X.K (RDs X.K) E fa) σ H Q :=
  fun _ _ Q ⟨G, J, S, ρ, st, en, h⟩ => ⟨G, J, S, ρ, st, en, Post.bind h fun ds S1 G1 J1 H1 xs _ st1 s1 rd h1 => hF G1 J1 S1 H1 xs ds Q st1 rd h1⟩
theorem me_callB {x : Str} {p : Pos} {id : String} {r : List V → Hp → VK → Prop} {F : List D → Store → R D} (hc : CallR X (.builtin id) r) (hF : OpL X.K E r F) (hm : X.mg x = none) (hv : bootBuiltins x = some (.builtin id)) (ha : MA X E (e :: es) fa) (hg : Gl X x := by rfl)
    (hn : x ≠ "__name__" := by decide) (hdb : (x == ("__debug__" : Str)) = false := by decide)
    (he : starEach (e :: es) X.env = (false, eval e X.env) :: starEach es X.env := by rfl) (hpl : (backTo pos (starEach es X.env)).any (·.1) = false := by rfl) : ME X E (.Call (.Name x p) (e :: es) [] pos) (eL F fa) :=
  pe_mono (pe_callB hc hg hm hv ha hn hdb he hpl) (tL_of hF)
theorem me_callTy {x : Str} {p : Pos} {T : String} {r : List V → Hp → VK → Prop} {F : List D → Store → R D} (hc : CallR X (.type T) r) (hF : OpL X.K E r F) (hm : X.mg x = none) (hv : bootBuiltins x = some (.type T)) (ha : MA X E (e :: es) fa) (hg : Gl X x := by rfl)
    (hn : x ≠ "__name__" := by decide) (hdb : (x == ("__debug__" : Str)) = false := by decide)
    (he : starEach (e :: es) X.env = (false, eval e X.env) :: starEach es X.env := by rfl) (hpl : (backTo pos (starEach es X.env)).any (·.1) = false := by rfl) : ME X E (.Call (.Name x p) (e :: es) [] pos) (eL F fa) :=
  pe_mono (pe_callTy hc hg hm hv ha hn hdb he hpl) (tL_of hF)
/-! ### and, or, not, tests -/
def bAnd (f g : BF) : BF := fun ρ S => (f ρ S).bind fun b S1 => if b = true then g ρ S1 else .ok false S1
def bOr (f g : BF) : BF := fun ρ S => (f ρ S).bind fun b S1 => if b = true then .ok true S1 else g ρ S1
def bNot (f : BF) : BF := fun ρ S => (f ρ S).bind fun b S1 => .ok (!b) S1
variable {fb gb : BF} {rest : List Expr}
def MW (X : Cx) (E : XK) (e : Expr) (f : BF) : Prop := PW X e (tG X.K REq E f)
theorem pw_mono {X : Cx} {e : Expr} {t t' : TT} (h : PW X e t) (w : ∀ σ H Q, t' σ H Q → t σ H Q) : PW X e t' :=
  ⟨fun p pins s σ H Q I q => h.run p pins s σ H Q I (w _ _ _ q)⟩
theorem mw_and1 (h : MT X E a fb) : MW X E (.BoolOp .And [a] pos) fb := pw_and1 h
theorem mw_or1 (h : MT X E a fb) : MW X E (.BoolOp .Or [a] pos) fb := pw_or1 h
theorem mw_and (ha : MT X E a fb) (hb : MW X E (.BoolOp .And (b :: rest) pos) gb) : MW X E (.BoolOp .And (a :: b :: rest) pos) (bAnd fb gb) :=
  pw_mono (pw_and ha hb) fun _ _ Q ⟨G, J, S, ρ, st, en, h⟩ => ⟨G, J, S, ρ, st, en, Post.bind h fun d S1 G1 J1 H1 x _ st1 s1 rd h1 => by
    cases rd
    cases d with
    | true => exact ⟨G1, J1, S1, ρ, st1, en.mono s1.g s1.j, h1⟩
    | false => exact Post.ok h1 st1 rfl⟩
theorem mw_or (ha : MT X E a fb) (hb : MW X E (.BoolOp .Or (b :: rest) pos) gb) : MW X E (.BoolOp .Or (a :: b :: rest) pos) (bOr fb gb) :=
  pw_mono (pw_or ha hb) fun _ _ Q ⟨G, J, S, ρ, st, en, h⟩ => ⟨G, J, S, ρ, st, en, Post.bind h fun d S1 G1 J1 H1 x _ st1 s1 rd h1 => by
    cases rd
    cases d with
    | true => exact Post.ok h1 st1 rfl
    | false => exact ⟨G1, J1, S1, ρ, st1, en.mono s1.g s1.j, h1⟩⟩
theorem mt_w (h : MW X E a fb) : MT X E a fb := PW.pt h
theorem mt_not (h : MT X E a fb) : MT X E (.UnaryOp .Not a pos) (bNot fb) :=
  pt_mono (pt_not h) fun _ _ Q ⟨G, J, S, ρ, st, en, h⟩ => ⟨G, J, S, ρ, st, en, Post.bind h fun d S1 G1 J1 H1 x _ st1 s1 rd h1 => by
    cases rd
    exact Post.ok h1 st1 rfl⟩
/-- as values: all but the last are truth values -/
def eAnd (f g : EF) : EF := fun ρ S => (asB f ρ S).bind fun b S1 => if b = true then g ρ S1 else .ok (.bl false) S1
def eOr (f g : EF) : EF := fun ρ S => (asB f ρ S).bind fun b S1 => if b = true then .ok (.bl true) S1 else g ρ S1
def eNot (f : EF) : EF := fun ρ S => (asB f ρ S).bind fun b S1 => .ok (.bl (!b)) S1
theorem tB_bind {k : Bool → Store → R D} {ρ : Rho} {S : Store} {G H : Hp} {J : List Addr} {Q : VK} {Q' : VK} (h : Post X.K (RD X.K) G J H Q E ((asB f ρ S).bind k))
    (w : ∀ b S1 G1 J1 H1, StR X.K G1 J1 S1 H1 → Stp G J H G1 J1 H1 → Post X.K (RD X.K) G1 J1 H1 Q E (k b S1) → Q' (.bl b) H1) : Post X.K (RD X.K) G J H Q' E (f ρ S) := by
  unfold asB at h
  cases e : f ρ S with
  | no => rw [e] at h; exact h
  | ex x S1 => rw [e] at h; exact h
  | ok d S1 =>
    rw [e] at h
    intro G1 J1 H1 v st1 s1 rd
    cases rd with
    | bl b => exact w b S1 G1 J1 H1 st1 s1 (Post.from s1 h)
    | _ => exact h.elim
theorem me_and1 {op : BoolOp} (h : ME X E a f) : ME X E (.BoolOp op [a] pos) f := pe_one h
theorem me_and (ha : ME X E a f) (hb : ME X E (.BoolOp .And (b :: rest) pos) g) : ME X E (.BoolOp .And (a :: b :: rest) pos) (eAnd f g) :=
  pe_mono (pe_and ha hb) fun _ _ Q ⟨G, J, S, ρ, st, en, h⟩ => ⟨G, J, S, ρ, st, en, tB_bind h fun b S1 G1 J1 H1 st1 s1 h1 => ⟨b, rfl, by
    cases b with
    | true => exact ⟨G1, J1, S1, ρ, st1, en.mono s1.g s1.j, h1⟩
    | false => exact Post.ok (Rl := RD X.K) (d := D.bl false) h1 st1 (RD.bl _)⟩⟩
theorem me_or (ha : ME X E a f) (hb : ME X E (.BoolOp .Or (b :: rest) pos) g) : ME X E (.BoolOp .Or (a :: b :: rest) pos) (eOr f g) :=
  pe_mono (pe_or ha hb) fun _ _ Q ⟨G, J, S, ρ, st, en, h⟩ => ⟨G, J, S, ρ, st, en, tB_bind h fun b S1 G1 J1 H1 st1 s1 h1 => ⟨b, rfl, by
    cases b with
    | true => exact Post.ok (Rl := RD X.K) (d := D.bl true) h1 st1 (RD.bl _)
    | false => exact ⟨G1, J1, S1, ρ, st1, en.mono s1.g s1.j, h1⟩⟩⟩
theorem me_not (ha : ME X E a f) : ME X E (.UnaryOp .Not a pos) (eNot f) :=
  pe_mono (pe_not ha) fun _ _ Q ⟨G, J, S, ρ, st, en, h⟩ => ⟨G, J, S, ρ, st, en, tB_bind h fun b S1 G1 J1 H1 st1 s1 h1 => ⟨b, rfl, Post.ok (Rl := RD X.K) (d := D.bl (!b)) h1 st1 (RD.bl _)⟩⟩
def eIf (t : BF) (f g : EF) : EF := fun ρ S => (t ρ S).bind fun b S1 => if b = true then f ρ S1 else g ρ S1
theorem me_if (ht : MT X E c fb) (ha : ME X E a f) (hb : ME X E b g) : ME X E (.IfExp c a b pos) (eIf fb f g) :=
  pe_mono (pe_ifExp ht ha hb) fun _ _ Q ⟨G, J, S, ρ, st, en, h⟩ => ⟨G, J, S, ρ, st, en, Post.bind h fun d S1 G1 J1 H1 x _ st1 s1 rd h1 => by
    cases rd
    cases d with
    | true => exact ⟨G1, J1, S1, ρ, st1, en.mono s1.g s1.j, h1⟩
    | false => exact ⟨G1, J1, S1, ρ, st1, en.mono s1.g s1.j, h1⟩⟩
/-- an expression that gives a truth value, as a test -/
theorem mt_val (h : ME X E a f) (he : ∀ whole, isTrue a X.env whole = (do let v ← whole; standAt a.pos; holding [v] (truthy v)) := by intro _; rfl) : MT X E a (asB f) :=
  pt_mono (pt_val h he) tT_of
/-- a op1 b op2 c -/
def eCh (F F' : D → D → Store → R D) (f g k : EF) : EF := fun ρ S => (f ρ S).bind fun d S1 => (g ρ S1).bind fun e S2 => (F d e S2).bind fun z S3 => match z with
  | .bl true => (k ρ S3).bind fun w S4 => F' e w S4
  | .bl false => .ok (.bl false) S3
  | _ => .no
theorem tCh_of {F' : D → D → Store → R D} {h : EF} {r r' : R2} (hF : ∀ E', Op2 X.K E' r F) (hF' : Op2 X.K E r' F') (hp : ∀ d e S, (∃ z, F d e S = .ok z S) ∨ F d e S = .no) : ∀ (σ : St) (H : Hp) (Q : VK), tG X.K (RD X.K) E (eCh F F' f g h) σ H Q →
    tChain r r' (tG X.K (RD X.K) E f) (tG X.K (RD X.K) E g) (tG X.K (RD X.K) E h) σ H Q :=
  fun _ _ Q ⟨G, J, S, ρ, st, en, q⟩ => ⟨G, J, S, ρ, st, en, Post.bind q fun d S1 G1 J1 H1 x _ st1 s1 rd q1 =>
    ⟨G1, J1, S1, ρ, st1, en.mono s1.g s1.j, Post.bind q1 fun e S2 G2 J2 H2 y _ st2 s2 re q2 => by
      rcases hp d e S2 with ⟨z, hz⟩ | hz
      · refine hF (fun _ _ _ => False) G2 J2 S2 H2 x y d e _ st2 (rd.mono s2.g s2.j) re ?_
        rw [hz] at q2 ⊢
        intro G3 J3 H3 v st3 s3 rz
        replace q2 := Post.from s3 q2
        have e3 := (en.mono s1.g s1.j).mono s2.g s2.j |>.mono s3.g s3.j
        cases rz with
        | bl b =>
          cases b with
          | false => exact ⟨false, rfl, Post.ok (Rl := RD X.K) (d := D.bl false) q2 st3 (RD.bl _)⟩
          | true => exact ⟨true, rfl, ⟨G3, J3, S2, ρ, st3, e3, Post.bind q2 fun w S4 G4 J4 H4 u _ st4 s4 rw' q4 => hF' G4 J4 S4 H4 y u e w Q st4 ((re.mono s3.g s3.j).mono s4.g s4.j) rw' q4⟩⟩
        | _ => exact q2.elim
      · rw [hz] at q2; exact q2.elim⟩⟩
theorem me_chain {op op' : CmpOp} {F' : D → D → Store → R D} {h : EF} {r r' : R2} (ho : OpR X (compareOp op) r) (ho' : OpR X (compareOp op') r') (hF : ∀ E', Op2 X.K E' r F) (hF' : Op2 X.K E r' F') (hp : ∀ d e S, (∃ z, F d e S = .ok z S) ∨ F d e S = .no)
    (ha : ME X E a f) (hb : ME X E b g) (hc : ME X E c h) (hm : lastMarks [op, op'] [b, c] = false := by with_unfolding_all rfl) : ME X E (.Compare a [op, op'] [b, c] pos) (eCh F F' f g h) :=
  pe_mono (pe_chain ho ho' ha hb hc hm) (tCh_of hF hF' hp)
theorem mt_chain {op op' : CmpOp} {F' : D → D → Store → R D} {h : EF} {r r' : R2} (ho : OpR X (compareOp op) r) (ho' : OpR X (compareOp op') r') (hF : ∀ E', Op2 X.K E' r F) (hF' : Op2 X.K E r' F') (hp : ∀ d e S, (∃ z, F d e S = .ok z S) ∨ F d e S = .no)
    (ha : ME X E a f) (hb : ME X E b g) (hc : ME X E c h) (hm : lastMarks [op, op'] [b, c] = false := by with_unfolding_all rfl) : MT X E (.Compare a [op, op'] [b, c] pos) (asB (eCh F F' f g h)) :=
  pt_mono (pt_chain ho ho' ha hb hc hm) fun σ H Q q => tCh_of hF hF' hp σ H _ (tT_of σ H Q q)
end
end DL
end
section
set_option maxRecDepth 100000
set_option maxHeartbeats 4000000
set_option autoImplicit false
set_option linter.all false
namespace DL
open PySem L2
/-! ### data as the library's data -/
mutual
def toPy : D → Option PyData
  | .non => some .none
  | .bl b => some (.bool b)
  | .int i => some (.int i)
  | .str x => some (.str x)
  | .tup ds => (toPys ds).map .tuple
  | .lst ds => (toPys ds).map .list
  | .rol ds => (toPys ds).map .list
  | .em => none
  | .hd _ => none
def toPys : List D → Option (List PyData)
  | [] => some []
  | d :: ds => match toPy d, toPys ds with
    | some p, some q => some (p :: q)
    | _, _ => none
end
def toPyS (S : Store) (d : D) : Option PyData := match d with
  | .hd n => match S[n]? with
    | some (.lst ds) => (toPys ds).map .list
    | _ => none
  | d => toPy d
section
variable {K : PySem.W.Frag} {G H : Hp} {J : List Addr} {S : Store}
mutual
theorem dp_of (s : Sub G H) : ∀ {d : D} {v : V} {p : PyData}, RD K G J d v → toPy d = some p → Dp K H v p
  | _, _, _, .non, e => by cases e; exact .non
  | _, _, _, .bl b, e => by cases e; exact .bl b
  | _, _, _, .int i, e => by cases e; exact .int i
  | _, _, _, .str x, e => by cases e; exact .str x
  | _, _, _, .tup h t, e => by
    unfold toPy at e
    obtain ⟨q, e1, rfl⟩ := Option.map_eq_some_iff.mp e
    exact .tup (sqT_sub s h) (dps_of s t e1)
  | _, _, _, .lst h t, e => by
    unfold toPy at e
    obtain ⟨q, e1, rfl⟩ := Option.map_eq_some_iff.mp e
    exact .lst (SqL.of (s _ _ h)) (dps_of s t e1)
  | _, _, _, .rol h t, e => by
    unfold toPy at e
    obtain ⟨q, e1, rfl⟩ := Option.map_eq_some_iff.mp e
    exact .lst (sqL_sub s h) (dps_of s t e1)
  | _, _, _, .em h, e => by cases e
  | _, _, _, .hd h, e => by cases e
theorem dps_of (s : Sub G H) : ∀ {ds : List D} {vs : List V} {ps : List PyData}, RDs K G J ds vs → toPys ds = some ps → DpAll K H vs ps
  | _, _, _, .nil, e => by cases e; exact .nil
  | _, _, _, .cons h t, e => by
    unfold toPys at e
    split at e
    · rename_i p q e1 e2
      cases e
      exact .cons (dp_of s h e1) (dps_of s t e2)
    · cases e
end
theorem dpS_of (st : StR K G J S H) {d : D} {v : V} {p : PyData} (r : RD K G J d v) (e : toPyS S d = some p) : Dp K H v p := by
  unfold toPyS at e
  split at e
  · rename_i n
    split at e
    · rename_i ds h
      obtain ⟨q, e1, rfl⟩ := Option.map_eq_some_iff.mp e
      cases r with
      | hd hj =>
        obtain ⟨vs, h1, h2⟩ := st.cell n _ _ h hj
        exact .lst (SqL.of h1) (dps_of st.sub h2 e1)
    · cases e
  · exact dp_of st.sub r e
/-- the items of a list or a tuple -/
def seqF (S : Store) : D → Option (List D)
  | .tup ds => some ds
  | .lst ds => some ds
  | .rol ds => some ds
  | .hd n => match S[n]? with
    | some (.lst ds) => some ds
    | _ => none
  | _ => none
/-- of a list that is no written one -/
def lsF (S : Store) : D → Option (List D)
  | .lst ds => some ds
  | .hd n => match S[n]? with
    | some (.lst ds) => some ds
    | _ => none
  | _ => none
theorem lsF_of (st : StR K G J S H) {d : D} {v : V} {ds : List D} (r : RD K G J d v) (e : lsF S d = some ds) : ∃ a vs, v = .ref a ∧ H a = some (.lst vs) ∧ RDs K G J ds vs := by
  cases r with
  | lst h t => cases e; exact ⟨_, _, rfl, st.sub _ _ h, t⟩
  | hd hj =>
    rename_i a n
    unfold lsF at e
    dsimp only at e
    cases q : S[n]? with
    | none => rw [q] at e; cases e
    | some c =>
      rw [q] at e
      cases c with
      | lst xs =>
        cases e
        obtain ⟨vs, h1, h2⟩ := st.cell n _ _ q hj
        exact ⟨_, _, rfl, h1, h2⟩
      | ins _ _ => cases e
      | dead => cases e
  | _ => cases e
theorem seqF_of (st : StR K G J S H) {d : D} {v : V} {ds : List D} (r : RD K G J d v) (e : seqF S d = some ds) : ∃ a vs, v = .ref a ∧ (SqL K H a vs ∨ SqT K H a vs) ∧ RDs K G J ds vs := by
  cases r with
  | tup h t => cases e; exact ⟨_, _, rfl, .inr (sqT_sub st.sub h), t⟩
  | rol h t => cases e; exact ⟨_, _, rfl, .inl (sqL_sub st.sub h), t⟩
  | lst h t =>
    cases e
    exact ⟨_, _, rfl, .inl (SqL.of (st.sub _ _ h)), t⟩
  | hd hj =>
    rename_i a n
    have e' : lsF S (.hd n) = some ds := e
    obtain ⟨a, vs, h1, h2, h3⟩ := lsF_of st (.hd hj) e'
    exact ⟨a, vs, h1, .inl (SqL.of h2), h3⟩
  | _ => cases e
/-- a flat datum as a value -/
def fv : D → Option V
  | .non => some .non
  | .bl b => some (.bl b)
  | .int i => some (.int i)
  | .str x => some (.str x)
  | _ => none
def fvs : List D → Option (List V)
  | [] => some []
  | d :: ds => match fv d, fvs ds with
    | some p, some q => some (p :: q)
    | _, _ => none
theorem fv_of {d : D} {v w : V} (r : RD K G J d v) (e : fv d = some w) : v = w ∧ flatV v = true := by
  cases r <;> cases e <;> exact ⟨rfl, rfl⟩
theorem fvs_of : ∀ {ds : List D} {vs ws : List V}, RDs K G J ds vs → fvs ds = some ws → vs = ws ∧ vs.all flatV = true
  | _, _, _, .nil, e => by cases e; exact ⟨rfl, rfl⟩
  | _, _, _, .cons h t, e => by
    unfold fvs at e
    split at e
    · rename_i p q e1 e2
      cases e
      obtain ⟨a1, a2⟩ := fv_of h e1
      obtain ⟨b1, b2⟩ := fvs_of t e2
      exact ⟨by rw [a1, b1], by rw [List.all_cons, a2, b2]; rfl⟩
    · cases e
end
/-! ### comparisons -/
def eqF (neg : Bool) (d e : D) (S : Store) : R D := match toPyS S d, toPyS S e with
  | some p, some q => if SeqAt.shaped p = true ∧ SeqAt.shaped q = true then .ok (.bl (if neg then !PyData.eqv p q else PyData.eqv p q)) S else .no
  | _, _ => .no
def cmF (fi : Int → Int → Bool) (fs : List Nat → List Nat → Bool) (d e : D) (S : Store) : R D := match d, e with
  | .int i, .int j => .ok (.bl (fi i j)) S
  | .str x, .str y => .ok (.bl (fs x.cps.toList y.cps.toList)) S
  | _, _ => .no
abbrev ltF : D → D → Store → R D := cmF (fun i j => decide (i < j)) fun x y => decide (x < y)
abbrev leF : D → D → Store → R D := cmF (fun i j => decide (i ≤ j)) fun x y => !decide (y < x)
abbrev gtF : D → D → Store → R D := cmF (fun i j => decide (j < i)) fun x y => decide (y < x)
abbrev geF : D → D → Store → R D := cmF (fun i j => decide (j ≤ i)) fun x y => !decide (x < y)
def inF (neg : Bool) (d e : D) (S : Store) : R D := match d, e with
  | .str x, .str y => match x.cps.toList with
    | [c] => .ok (.bl (if neg then !decide (c ∈ y.cps.toList) else decide (c ∈ y.cps.toList))) S
    | _ => .no
  | d, e => match fv d, (seqF S e).bind fvs with
    | some v, some vs => .ok (.bl (if neg then !inV v vs else inV v vs)) S
    | _, _ => .no
def isF (neg : Bool) (d e : D) (S : Store) : R D := match e with
  | .non => match d with
    | .non => .ok (.bl (!neg)) S
    | _ => .ok (.bl neg) S
  | .bl b => match d with
    | .bl a => .ok (.bl (if neg then !decide (a = b) else decide (a = b))) S
    | _ => .no
  | _ => .no
section
variable {X : Cx} {E : XK}
theorem op2_eq : Op2 X.K E (rEqD X.K) (eqF false) := fun G J S H x y d e Q st r1 r2 h => by
  unfold eqF at h
  split at h
  · rename_i p q e1 e2
    split at h
    · rename_i hs
      exact ⟨p, q, dpS_of st r1 e1, dpS_of st r2 e2, hs.1, hs.2, Post.ok h st (.bl _)⟩
    · exact h.elim
  · exact h.elim
theorem op2_ne : Op2 X.K E (rNeD X.K) (eqF true) := fun G J S H x y d e Q st r1 r2 h => by
  unfold eqF at h
  split at h
  · rename_i p q e1 e2
    split at h
    · rename_i hs
      exact ⟨p, q, dpS_of st r1 e1, dpS_of st r2 e2, hs.1, hs.2, Post.ok h st (.bl _)⟩
    · exact h.elim
  · exact h.elim
def rCm (fi : Int → Int → Bool) (fs : List Nat → List Nat → Bool) : R2 := fun x y H Q => (∃ i j, x = .int i ∧ y = .int j ∧ Q (.bl (fi i j)) H) ∨ ∃ i j, x = .str i ∧ y = .str j ∧ Q (.bl (fs i.cps.toList j.cps.toList)) H
theorem op2_cm {fi : Int → Int → Bool} {fs : List Nat → List Nat → Bool} : Op2 X.K E (rCm fi fs) (cmF fi fs) := fun G J S H x y d e Q st r1 r2 h => by
  cases r1 <;> cases r2 <;> first | exact h.elim | skip
  · exact .inl ⟨_, _, rfl, rfl, Post.ok h st (.bl _)⟩
  · exact .inr ⟨_, _, rfl, rfl, Post.ok h st (.bl _)⟩
theorem cm_pure {fi : Int → Int → Bool} {fs : List Nat → List Nat → Bool} (d e : D) (S : Store) : (∃ z, cmF fi fs d e S = .ok z S) ∨ cmF fi fs d e S = .no := by
  unfold cmF
  split
  · exact .inl ⟨_, rfl⟩
  · exact .inl ⟨_, rfl⟩
  · exact .inr rfl
theorem or_lt : OpR X (compareOp .Lt) (rCm (fun i j => decide (i < j)) fun x y => decide (x < y)) := OpR.or op_lt op_lt_str
theorem or_le : OpR X (compareOp .LtE) (rCm (fun i j => decide (i ≤ j)) fun x y => !decide (y < x)) := OpR.or op_le op_le_str
theorem or_gt : OpR X (compareOp .Gt) (rCm (fun i j => decide (j < i)) fun x y => decide (y < x)) := OpR.or op_gt op_gt_str
theorem or_ge : OpR X (compareOp .GtE) (rCm (fun i j => decide (j ≤ i)) fun x y => !decide (x < y)) := OpR.or op_ge op_ge_str
def rInA (K : PySem.W.Frag) (neg : Bool) : R2 := fun x y H Q => (∃ (c : Nat) (z : Str), x = .str ⟨#[c]⟩ ∧ y = .str z ∧ Q (.bl (if neg then !decide (c ∈ z.cps.toList) else decide (c ∈ z.cps.toList))) H) ∨ rIn K neg x y H Q
theorem or_in : OpR X (compareOp .In) (rInA X.K false) := OpR.or op_in_sign op_in_seq
theorem or_notin : OpR X (compareOp .NotIn) (rInA X.K true) := OpR.or op_notIn_sign op_notIn_seq
theorem in_seq_of {neg : Bool} {G H : Hp} {J : List Addr} {S : Store} {x y : V} {d e : D} {Q : VK} (st : StR X.K G J S H) (r1 : RD X.K G J d x) (r2 : RD X.K G J e y)
    (h : Post X.K (RD X.K) G J H Q E (match fv d, (seqF S e).bind fvs with
      | some v, some vs => .ok (.bl (if neg then !inV v vs else inV v vs)) S
      | _, _ => .no)) : rInA X.K neg x y H Q := by
  split at h
  · rename_i v vs e1 e2
    obtain ⟨ds, e3, e4⟩ := Option.bind_eq_some_iff.mp e2
    obtain ⟨a, ws, rfl, q1, q2⟩ := seqF_of st r2 e3
    obtain ⟨rfl, f1⟩ := fv_of r1 e1
    obtain ⟨rfl, f2⟩ := fvs_of q2 e4
    exact .inr ⟨a, _, rfl, q1, f1, f2, Post.ok h st (.bl _)⟩
  · exact h.elim
theorem op2_in {neg : Bool} : Op2 X.K E (rInA X.K neg) (inF neg) := fun G J S H x y d e Q st r1 r2 h => by
  unfold inF at h
  split at h
  · rename_i z w
    split at h
    · rename_i c hc
      cases r1
      cases r2
      obtain ⟨⟨l⟩⟩ := z
      have : l = [c] := hc
      subst this
      exact .inl ⟨c, w, rfl, rfl, Post.ok h st (.bl _)⟩
    · exact h.elim
  · exact in_seq_of st r1 r2 h
def rIsA (neg : Bool) : R2 := fun x y H Q => (y = .non ∧ Q (.bl (if neg then !decide (x = .non) else decide (x = .non))) H) ∨ ∃ a b, x = .bl a ∧ y = .bl b ∧ Q (.bl (if neg then !decide (a = b) else decide (a = b))) H
theorem or_is : OpR X (compareOp .Is) (rIsA false) := OpR.or op_isN op_is_bl
theorem or_isnot : OpR X (compareOp .IsNot) (rIsA true) := OpR.or op_notN op_isnot_bl
theorem op2_is {neg : Bool} : Op2 X.K E (rIsA neg) (isF neg) := fun G J S H x y d e Q st r1 r2 h => by
  unfold isF at h
  split at h
  · cases r2
    refine .inl ⟨rfl, ?_⟩
    split at h
    · cases r1
      have := Post.ok h st (RD.bl _)
      cases neg <;> exact this
    · rename_i hn
      have ne : x ≠ .non := fun q => by subst q; cases r1; exact hn rfl
      have := Post.ok h st (RD.bl _)
      cases neg <;> simpa [ne] using this
  · cases r2
    refine .inr ?_
    split at h
    · cases r1
      exact ⟨_, _, rfl, rfl, Post.ok h st (.bl _)⟩
    · exact h.elim
  · exact h.elim
end
/-! ### + - * // % ** -/
def addF (d e : D) (S : Store) : R D := match d, e with
  | .int i, .int j => .ok (.int (i + j)) S
  | .int i, .bl b => .ok (.int (i + if b = true then 1 else 0)) S
  | .bl b, .int j => .ok (.int ((if b = true then 1 else 0) + j)) S
  | .str x, .str y => if x.length + y.length ≤ sizeLine then .ok (.str (x ++ y)) S else .no
  | .tup xs, .tup ys => if xs.length + ys.length ≤ sizeLine then .ok (.tup (xs ++ ys)) S else .no
  | d, e => match lsF S d, lsF S e with
    | some xs, some ys => if xs.length + ys.length ≤ sizeLine then .ok (.lst (xs ++ ys)) S else .no
    | _, _ => .no
def subF (d e : D) (S : Store) : R D := match d, e with
  | .int i, .int j => .ok (.int (i - j)) S
  | .int i, .bl b => .ok (.int (i - if b = true then 1 else 0)) S
  | .bl b, .int j => .ok (.int ((if b = true then 1 else 0) - j)) S
  | _, _ => .no
def rAdd' : R2 := fun x y H Q => (∃ i k, x = .int i ∧ y = .bl k ∧ Q (.int (i + if k = true then 1 else 0)) H) ∨ ∃ k i, x = .bl k ∧ y = .int i ∧ Q (.int ((if k = true then 1 else 0) + i)) H
def rAddA (K : PySem.W.Frag) : R2 := fun x y H Q => (∃ i j, x = .int i ∧ y = .int j ∧ Q (.int (i + j)) H) ∨ rAdd' x y H Q ∨ (∃ i j, x = .str i ∧ y = .str j ∧ i.length + j.length ≤ sizeLine ∧ Q (.str (i ++ j)) H) ∨ rCatA K x y H Q ∨ rCat x y H Q
def rSubA : R2 := fun x y H Q => (∃ i j, x = .int i ∧ y = .int j ∧ Q (.int (i - j)) H) ∨ (∃ i k, x = .int i ∧ y = .bl k ∧ Q (.int (i - if k = true then 1 else 0)) H) ∨ ∃ k i, x = .bl k ∧ y = .int i ∧ Q (.int ((if k = true then 1 else 0) - i)) H
section
variable {X : Cx} {E : XK}
theorem op_ib : OpR X (binaryOp .Add) rAdd' := OpR.or
  (by
    intro pins s σ H x y v u Q I rx ry ⟨i, k, e1, e2, q⟩
    subst e1; subst e2
    obtain ⟨t, rfl⟩ := rx
    cases ry
    exact add_int_bool ⟨.int _, H, I.tok _, ⟨_, rfl⟩, q⟩)
  (by
    intro pins s σ H x y v u Q I rx ry ⟨k, i, e1, e2, q⟩
    subst e1; subst e2
    obtain ⟨t, rfl⟩ := ry
    cases rx
    exact PySem.IntBool.add_bool_int ⟨.int _, H, I.tok _, ⟨_, rfl⟩, q⟩)
theorem or_add : OpR X (binaryOp .Add) (rAddA X.K) := OpR.or op_add (OpR.or op_ib (OpR.or op_add_str (OpR.or op_catA op_cat)))
theorem or_sub : OpR X (binaryOp .Sub) rSubA := OpR.or op_sub (OpR.or
  (by
    intro pins s σ H x y v u Q I rx ry ⟨i, k, e1, e2, q⟩
    subst e1; subst e2
    obtain ⟨t, rfl⟩ := rx
    cases ry
    exact PySem.IntBool.sub_int_bool ⟨.int _, H, I.tok _, ⟨_, rfl⟩, q⟩)
  (by
    intro pins s σ H x y v u Q I rx ry ⟨k, i, e1, e2, q⟩
    subst e1; subst e2
    obtain ⟨t, rfl⟩ := ry
    cases rx
    exact PySem.IntBool.sub_bool_int ⟨.int _, H, I.tok _, ⟨_, rfl⟩, q⟩))
/-- a new tuple, a new list that stays -/
theorem Post.tup {K : PySem.W.Frag} {G H : Hp} {J : List Addr} {S : Store} {Q : VK} {ds : List D} {vs : List V} (h : Post K (RD K) G J H Q E (.ok (.tup ds) S)) (st : StR K G J S H) (r : RDs K G J ds vs) {p : Addr} (hp : H p = none) : Q (.ref p) (upd H p (.tup vs)) :=
  h _ _ _ _ (st.froz hp) (Stp.froz st hp) (.tup (SqT.of upd_same) (r.mono (sub_upd (free_of_H st hp)) (List.prefix_refl _)))
theorem Post.lst {K : PySem.W.Frag} {G H : Hp} {J : List Addr} {S : Store} {Q : VK} {ds : List D} {vs : List V} (h : Post K (RD K) G J H Q E (.ok (.lst ds) S)) (st : StR K G J S H) (r : RDs K G J ds vs) {p : Addr} (hp : H p = none) : Q (.ref p) (upd H p (.lst vs)) :=
  h _ _ _ _ (st.froz hp) (Stp.froz st hp) (.lst upd_same (r.mono (sub_upd (free_of_H st hp)) (List.prefix_refl _)))
theorem op2_add : Op2 X.K E (rAddA X.K) addF := fun G J S H x y d e Q st r1 r2 h => by
  have lists : Post X.K (RD X.K) G J H Q E (match lsF S d, lsF S e with
      | some xs, some ys => if xs.length + ys.length ≤ sizeLine then .ok (.lst (xs ++ ys)) S else .no
      | _, _ => .no) → rAddA X.K x y H Q := fun h => by
    split at h
    · rename_i xs ys e1 e2
      split at h
      · rename_i hz
        obtain ⟨a, vs, rfl, h1, q1⟩ := lsF_of st r1 e1
        obtain ⟨b, ws, rfl, h2, q2⟩ := lsF_of st r2 e2
        refine .inr (.inr (.inr (.inr ⟨a, b, vs, ws, rfl, rfl, h1, h2, ?_, fun p hp => Post.lst h st (q1.app q2) hp⟩)))
        rw [← q1.len, ← q2.len]; exact hz
      · exact h.elim
    · exact h.elim
  unfold addF at h
  split at h
  · cases r1; cases r2; exact .inl ⟨_, _, rfl, rfl, Post.ok h st (.int _)⟩
  · cases r1; cases r2; exact .inr (.inl (.inl ⟨_, _, rfl, rfl, Post.ok h st (.int _)⟩))
  · cases r1; cases r2; exact .inr (.inl (.inr ⟨_, _, rfl, rfl, Post.ok h st (.int _)⟩))
  · cases r1; cases r2
    split at h
    · rename_i hz
      exact .inr (.inr (.inl ⟨_, _, rfl, rfl, hz, Post.ok h st (.str _)⟩))
    · exact h.elim
  · rename_i xs ys
    split at h
    · rename_i hz
      cases r1 with
      | tup h1 t1 =>
      cases r2 with
      | tup h2 t2 =>
      refine .inr (.inr (.inr (.inl ⟨_, _, _, _, rfl, rfl, sqT_sub st.sub h1, sqT_sub st.sub h2, by rw [← t1.len, ← t2.len]; exact hz, fun e => ?_, fun _ e => ?_, fun _ _ p hp => Post.tup h st (t1.app t2) hp⟩)))
      · subst e
        have : xs = [] := by have := t1.len; simpa using this
        subst this
        exact Post.ok h st (.tup h2 t2)
      · subst e
        have : ys = [] := by have := t2.len; simpa using this
        subst this
        rw [List.append_nil] at h
        exact Post.ok h st (.tup h1 t1)
    · exact h.elim
  · exact lists h
theorem op2_sub : Op2 X.K E rSubA subF := fun G J S H x y d e Q st r1 r2 h => by
  unfold subF at h
  split at h
  · cases r1; cases r2; exact .inl ⟨_, _, rfl, rfl, Post.ok h st (.int _)⟩
  · cases r1; cases r2; exact .inr (.inl ⟨_, _, rfl, rfl, Post.ok h st (.int _)⟩)
  · cases r1; cases r2; exact .inr (.inr ⟨_, _, rfl, rfl, Post.ok h st (.int _)⟩)
  · exact h.elim
end
end DL
end
section
set_option maxRecDepth 100000
set_option maxHeartbeats 4000000
set_option autoImplicit false
set_option linter.all false
namespace DL
open PySem L2
/-! ### * // % ** - -/
def mulF (d e : D) (S : Store) : R D := match d, e with
  | .int i, .int j => if (-(2 ^ 64) < i ∧ i < 2 ^ 64) ∨ (-(2 ^ 64) < j ∧ j < 2 ^ 64) then .ok (.int (i * j)) S else .no
  | .str x, .int k => if 0 ≤ k ∧ k < 2 ^ 30 ∧ x.length * k.toNat ≤ sizeLine then .ok (.str ⟨(List.replicate k.toNat x.cps.toList).flatten.toArray⟩) S else .no
  | d, .int k => match lsF S d with
    | some xs => if 0 ≤ k ∧ k < 2 ^ 30 ∧ xs.length * k.toNat ≤ sizeLine then .ok (.lst (List.replicate k.toNat xs).flatten) S else .no
    | none => .no
  | _, _ => .no
def fdivF (d e : D) (S : Store) : R D := match d, e with
  | .int i, .int j => if 0 < j ∧ j < 1073741824 then .ok (.int (i / j)) S else .no
  | _, _ => .no
def modF (d e : D) (S : Store) : R D := match d, e with
  | .int i, .int j => if 0 < j then .ok (.int (i % j)) S else .no
  | _, _ => .no
def powF (d e : D) (S : Store) : R D := match d, e with
  | .int i, .int j => if 0 ≤ j ∧ j ≤ 1000000 ∧ i.natAbs < 2 ^ 64 then .ok (.int (i ^ j.toNat)) S else .no
  | _, _ => .no
def negF (d : D) (S : Store) : R D := match d with
  | .int i => .ok (.int (-i)) S
  | _ => .no
/-! ### calls of built-ins -/
def lenF (ds : List D) (S : Store) : R D := match ds with
  | [.str x] => if x.length ≤ sizeLine then .ok (.int x.length) S else .no
  | [d] => match seqF S d with
    | some xs => .ok (.int xs.length) S
    | none => .no
  | _ => .no
def absF (ds : List D) (S : Store) : R D := match ds with
  | [.int i] => .ok (.int (if i < 0 then -i else i)) S
  | _ => .no
def intF (ds : List D) (S : Store) : R D := match ds with
  | [.int i] => .ok (.int i) S
  | [.bl b] => .ok (.int (if b = true then 1 else 0)) S
  | [.str x] => match PySem.intText? x with
    | some n => if x.length ≤ 640 then .ok (.int n) S else .no
    | none => .no
  | _ => .no
def strF (ds : List D) (S : Store) : R D := match ds with
  | [.int i] => if i.natAbs.log2 < 1920 then .ok (.str (toString i)) S else .no
  | [.str x] => .ok (.str x) S
  | [.bl b] => .ok (.str (if b = true then "True" else "False")) S
  | _ => .no
def tupF (ds : List D) (S : Store) : R D := match ds with
  | [d] => match seqF S d with
    | some xs => .ok (.tup xs) S
    | none => .no
  | _ => .no
def lisF (ds : List D) (S : Store) : R D := match ds with
  | [d] => match seqF S d with
    | some xs => .ok (.lst xs) S
    | none => .no
  | _ => .no
def blsD : List D → Option (List Bool)
  | [] => some []
  | .bl b :: ds => (blsD ds).map (b :: ·)
  | _ => none
def intsD : List D → Option (List Int)
  | [] => some []
  | .int b :: ds => (intsD ds).map (b :: ·)
  | _ => none
def strsD : List D → Option (List Str)
  | [] => some []
  | .str b :: ds => (strsD ds).map (b :: ·)
  | _ => none
def rlF (S : Store) : D → Option (List D)
  | .rol ds => some ds
  | d => lsF S d
def allF (ds : List D) (S : Store) : R D := match ds with
  | [d] => match (rlF S d).bind blsD with
    | some bs => .ok (.bl (bs.all id)) S
    | none => .no
  | _ => .no
def anyF (ds : List D) (S : Store) : R D := match ds with
  | [d] => match (rlF S d).bind blsD with
    | some bs => .ok (.bl (bs.any id)) S
    | none => .no
  | _ => .no
def sumF (ds : List D) (S : Store) : R D := match ds with
  | [d] => match (rlF S d).bind intsD with
    | some bs => .ok (.int bs.sum) S
    | none => .no
  | _ => .no
section
variable {K : PySem.W.Frag} {G H : Hp} {J : List Addr} {S : Store}
theorem blsD_of : ∀ {ds : List D} {vs : List V} {bs : List Bool}, RDs K G J ds vs → blsD ds = some bs → vs = bs.map V.bl
  | _, _, _, .nil, e => by cases e; rfl
  | _, _, _, .cons h t, e => by
    cases h with
    | bl b =>
      unfold blsD at e
      obtain ⟨q, e1, rfl⟩ := Option.map_eq_some_iff.mp e
      rw [blsD_of t e1]; rfl
    | _ => cases e
theorem intsD_of : ∀ {ds : List D} {vs : List V} {bs : List Int}, RDs K G J ds vs → intsD ds = some bs → vs = bs.map V.int
  | _, _, _, .nil, e => by cases e; rfl
  | _, _, _, .cons h t, e => by
    cases h with
    | int b =>
      unfold intsD at e
      obtain ⟨q, e1, rfl⟩ := Option.map_eq_some_iff.mp e
      rw [intsD_of t e1]; rfl
    | _ => cases e
theorem strsD_of : ∀ {ds : List D} {vs : List V} {bs : List Str}, RDs K G J ds vs → strsD ds = some bs → vs = bs.map V.str
  | _, _, _, .nil, e => by cases e; rfl
  | _, _, _, .cons h t, e => by
    cases h with
    | str b =>
      unfold strsD at e
      obtain ⟨q, e1, rfl⟩ := Option.map_eq_some_iff.mp e
      rw [strsD_of t e1]; rfl
    | _ => cases e
theorem strs_rds : ∀ l : List Str, RDs K G J (l.map D.str) (l.map V.str)
  | [] => .nil
  | x :: l => .cons (.str x) (strs_rds l)
theorem rlF_of (st : StR K G J S H) {d : D} {v : V} {ds : List D} (r : RD K G J d v) (e : rlF S d = some ds) : ∃ a vs, v = .ref a ∧ SqL K H a vs ∧ RDs K G J ds vs := by
  unfold rlF at e
  split at e
  · cases e
    cases r with
    | rol h t => exact ⟨_, _, rfl, sqL_sub st.sub h, t⟩
  · obtain ⟨a, vs, h1, h2, h3⟩ := lsF_of st r e
    exact ⟨a, vs, h1, SqL.of h2, h3⟩
theorem RDs.one {ds : List D} {vs : List V} {d : D} (r : RDs K G J ds vs) (e : ds = [d]) : ∃ v, vs = [v] ∧ RD K G J d v := by
  subst e
  cases r with
  | cons h t => cases t; exact ⟨_, rfl, h⟩
end
section
variable {X : Cx} {E : XK}
def rMulS : R2 := fun x y H Q => ∃ (z : Str) (k : Int), x = .str z ∧ y = .int k ∧ 0 ≤ k ∧ k < 2 ^ 30 ∧ z.length * k.toNat ≤ sizeLine ∧ Q (.str ⟨(List.replicate k.toNat z.cps.toList).flatten.toArray⟩) H
theorem foldl_arr (its : List Nat) : ∀ (k : Nat) (acc : List Nat), List.foldl (fun x y => x ++ y) acc.toArray (List.replicate k its.toArray) = (acc ++ (List.replicate k its).flatten).toArray
  | 0, acc => by simp
  | k + 1, acc => by
    have := foldl_arr its k (acc ++ its)
    rw [List.replicate_succ, List.replicate_succ, List.foldl_cons, List.flatten_cons, List.append_toArray, this, List.append_assoc]
theorem op_mulS : OpR X (binaryOp .Mult) rMulS := by
  intro pins s σ H x y v u Q I rx ry h
  obtain ⟨z, k, rfl, rfl, h0, h1, h2, q⟩ := h
  obtain ⟨t, rfl⟩ := rx
  obtain ⟨t', rfl⟩ := ry
  have big : ((z.length : Nat) : Int) ≤ (2 ^ 63 - 1) / k ∨ k < 1 := by
    by_cases hk : k < 1
    · exact .inr hk
    · refine .inl ?_
      rw [Int.le_ediv_iff_mul_le (by omega)]
      have : ((z.length * k.toNat : Nat) : Int) ≤ 16777216 := by have : (sizeLine : Nat) = 16777216 := rfl; omega
      rw [Int.natCast_mul, Int.toNat_of_nonneg h0] at this
      omega
  refine P.mul_str ?_ ?_ ?_ ?_
  · rw [decide_eq_false (by omega), decide_eq_false (by omega)]; rfl
  · intro hk _; rcases big with b | b
    · omega
    · exact absurd b hk
  · intro _ _
    exact decide_eq_false (by omega)
  · have e := foldl_arr z.cps.toList k.toNat []
    rw [Array.toArray_toList, List.nil_append] at e
    by_cases hk : k < 1
    · rw [if_pos hk]
      have : k = 0 := by omega
      subst this
      exact ⟨by decide, .str Str.empty, H, I.tok _, ⟨_, rfl⟩, q⟩
    · rw [if_neg hk]
      split
      · rename_i h
        refine ⟨.str z, H, I, ⟨_, rfl⟩, ?_⟩
        have ez : (⟨(List.replicate k.toNat z.cps.toList).flatten.toArray⟩ : Str) = z := by
          rcases (Bool.or_eq_true _ _).mp h with h | h
          · have : k = 1 := by simpa using h
            subst this
            obtain ⟨⟨l⟩⟩ := z
            show (⟨(List.replicate 1 l).flatten.toArray⟩ : Str) = ⟨⟨l⟩⟩
            simp
          · obtain ⟨⟨l⟩⟩ := z
            have : l.length = 0 := by
              have h' : l.length == 0 := h
              exact beq_iff_eq.mp h'
            have : l = [] := List.length_eq_zero_iff.mp this
            subst this
            show (⟨(List.replicate k.toNat []).flatten.toArray⟩ : Str) = ⟨#[]⟩
            simp
        rw [ez] at q
        exact q
      · rw [show (List.replicate k.toNat z.cps).foldl (fun x1 x2 => x1 ++ x2) #[] = _ from e]
        refine ⟨?_, .str _, H, I.tok _, ⟨_, rfl⟩, q⟩
        show ((List.replicate k.toNat z.cps.toList).flatten.toArray).size ≤ sizeLine
        have : z.cps.toList.length = z.length := Array.length_toList
        simp only [List.size_toArray, List.length_flatten, List.map_replicate, List.sum_replicate_nat, this]
        rw [Nat.mul_comm]; exact h2
end
end DL
end
section
set_option maxRecDepth 100000
set_option maxHeartbeats 4000000
set_option autoImplicit false
set_option linter.all false
namespace DL
open PySem L2
section
variable {X : Cx} {E : XK}
def rMulA : R2 := fun x y H Q => rI CMul (fun i j => .int (i * j)) x y H Q ∨ rMulS x y H Q ∨ rRep x y H Q
theorem or_mul : OpR X (binaryOp .Mult) rMulA := OpR.or op_mul (OpR.or op_mulS op_rep)
theorem op2_mul : Op2 X.K E rMulA mulF := fun G J S H x y d e Q st r1 r2 h => by
  unfold mulF at h
  split at h
  · split at h
    · rename_i hc
      cases r1; cases r2; exact .inl ⟨_, _, rfl, rfl, hc, Post.ok h st (.int _)⟩
    · exact h.elim
  · split at h
    · rename_i hc
      cases r1; cases r2; exact .inr (.inl ⟨_, _, rfl, rfl, hc.1, hc.2.1, hc.2.2, Post.ok h st (.str _)⟩)
    · exact h.elim
  · split at h
    · rename_i xs e1
      split at h
      · rename_i hc
        cases r2
        obtain ⟨a, vs, rfl, h1, q1⟩ := lsF_of st r1 e1
        exact .inr (.inr ⟨a, _, vs, rfl, rfl, h1, by omega, by omega, by rw [← q1.len]; exact hc.2.2, fun p hp => Post.lst h st (q1.rep _) hp⟩)
      · exact h.elim
    · exact h.elim
  · exact h.elim
theorem op2_fdiv : Op2 X.K E (rI CDiv fun i j => .int (i / j)) fdivF := fun G J S H x y d e Q st r1 r2 h => by
  unfold fdivF at h
  split at h
  · split at h
    · rename_i hc
      cases r1; cases r2; exact ⟨_, _, rfl, rfl, hc, Post.ok h st (.int _)⟩
    · exact h.elim
  · exact h.elim
theorem op2_mod : Op2 X.K E (rI (fun _ j => 0 < j) fun i j => .int (i % j)) modF := fun G J S H x y d e Q st r1 r2 h => by
  unfold modF at h
  split at h
  · split at h
    · rename_i hc
      cases r1; cases r2; exact ⟨_, _, rfl, rfl, hc, Post.ok h st (.int _)⟩
    · exact h.elim
  · exact h.elim
theorem op2_pow : Op2 X.K E (rI CPow fun i j => .int (i ^ j.toNat)) powF := fun G J S H x y d e Q st r1 r2 h => by
  unfold powF at h
  split at h
  · split at h
    · rename_i hc
      cases r1; cases r2; exact ⟨_, _, rfl, rfl, hc, Post.ok h st (.int _)⟩
    · exact h.elim
  · exact h.elim
theorem op1_neg : Op1 X.K E (rU fun i => .int (-i)) negF := fun G J S H x d Q st r1 h => by
  unfold negF at h
  split at h
  · cases r1; exact ⟨_, rfl, Post.ok h st (.int _)⟩
  · exact h.elim
theorem opl_len : OpL X.K E (fun xs H Q => ∃ x n, xs = [x] ∧ LenV X.K x H n ∧ Q (.int n) H) lenF := fun G J S H xs ds Q st r h => by
  unfold lenF at h
  split at h
  · split at h
    · rename_i z hz
      obtain ⟨v, rfl, r1⟩ := r.one rfl
      cases r1
      exact ⟨_, z.length, rfl, ⟨hz, rfl⟩, Post.ok h st (.int _)⟩
    · exact h.elim
  · split at h
    · rename_i d _ ys e1
      obtain ⟨v, rfl, r1⟩ := r.one rfl
      obtain ⟨a, vs, rfl, q, q1⟩ := seqF_of st r1 e1
      refine ⟨_, vs.length, rfl, ?_, by rw [← q1.len]; exact Post.ok h st (.int _)⟩
      rcases q with q | q
      · exact .inl ⟨vs, q, rfl⟩
      · exact .inr ⟨vs, q, rfl⟩
    · exact h.elim
  · exact h.elim
theorem opl_abs : OpL X.K E (fun xs H Q => ∃ i, xs = [.int i] ∧ Q (.int (if i < 0 then -i else i)) H) absF := fun G J S H xs ds Q st r h => by
  unfold absF at h
  split at h
  · obtain ⟨v, rfl, r1⟩ := r.one rfl
    cases r1
    exact ⟨_, rfl, Post.ok h st (.int _)⟩
  · exact h.elim
def rIntA : List V → Hp → VK → Prop := fun xs H Q => ((∃ i, xs = [.int i] ∧ Q (.int i) H) ∨ ∃ k, xs = [.bl k] ∧ Q (.int (if k then 1 else 0)) H) ∨ ∃ a n, xs = [.str a] ∧ PySem.intText? a = some n ∧ a.length ≤ 640 ∧ Q (.int n) H
theorem cr_int : CallR X (.type "int") rIntA := CallR.or call_int1 call_int_str
theorem opl_int : OpL X.K E rIntA intF := fun G J S H xs ds Q st r h => by
  unfold intF at h
  split at h
  · obtain ⟨v, rfl, r1⟩ := r.one rfl
    cases r1
    exact .inl (.inl ⟨_, rfl, Post.ok h st (.int _)⟩)
  · obtain ⟨v, rfl, r1⟩ := r.one rfl
    cases r1
    exact .inl (.inr ⟨_, rfl, Post.ok h st (.int _)⟩)
  · split at h
    · split at h
      · rename_i n e1 hz
        obtain ⟨v, rfl, r1⟩ := r.one rfl
        cases r1
        exact .inr ⟨_, _, rfl, e1, hz, Post.ok h st (.int _)⟩
      · exact h.elim
    · exact h.elim
  · exact h.elim
def rStrA : List V → Hp → VK → Prop := fun xs H Q => (∃ i, xs = [.int i] ∧ i.natAbs.log2 < 1920 ∧ Q (.str (toString i)) H) ∨ (∃ a, xs = [.str a] ∧ Q (.str a) H) ∨ ∃ b, xs = [.bl b] ∧ Q (.str (if b = true then "True" else "False")) H
theorem cr_str : CallR X (.type "str") rStrA := CallR.or call_str_int (CallR.or SkE.call_str_str (by
  intro pins s σ H xs us Q I rs ⟨b, e1, q⟩
  subst e1
  obtain ⟨u, rfl, r⟩ := Vals.one rs
  cases r
  refine P.str_of_bool ⟨.str _, H, I.tok _, ⟨_, rfl⟩, ?_⟩
  cases b <;> exact q))
theorem opl_str : OpL X.K E rStrA strF := fun G J S H xs ds Q st r h => by
  unfold strF at h
  split at h
  · split at h
    · rename_i hc
      obtain ⟨v, rfl, r1⟩ := r.one rfl
      cases r1
      exact .inl ⟨_, rfl, hc, Post.ok h st (.str _)⟩
    · exact h.elim
  · obtain ⟨v, rfl, r1⟩ := r.one rfl
    cases r1
    exact .inr (.inl ⟨_, rfl, Post.ok h st (.str _)⟩)
  · obtain ⟨v, rfl, r1⟩ := r.one rfl
    cases r1
    exact .inr (.inr ⟨_, rfl, Post.ok h st (.str _)⟩)
  · exact h.elim
theorem opl_tup : OpL X.K E (fun xs H Q => ∃ p ys, xs = [.ref p] ∧ ((SqL X.K H p ys ∧ ∀ l, H l = none → Q (.ref l) (upd H l (.tup ys))) ∨ (SqT X.K H p ys ∧ Q (.ref p) H))) tupF := fun G J S H xs ds Q st r h => by
  unfold tupF at h
  split at h
  · split at h
    · rename_i d ys e1
      obtain ⟨v, rfl, r1⟩ := r.one rfl
      cases r1 with
      | tup h1 t1 =>
        cases e1
        exact ⟨_, _, rfl, .inr ⟨sqT_sub st.sub h1, Post.ok h st (.tup h1 t1)⟩⟩
      | lst h1 t1 =>
        obtain ⟨a, vs, e2, q, q1⟩ := seqF_of st (.lst h1 t1) e1
        cases e1; cases e2
        exact ⟨_, _, rfl, .inl ⟨SqL.of (st.sub _ _ h1), fun p hp => Post.tup h st t1 hp⟩⟩
      | rol h1 t1 =>
        cases e1
        exact ⟨_, _, rfl, .inl ⟨sqL_sub st.sub h1, fun p hp => Post.tup h st t1 hp⟩⟩
      | hd hj =>
        obtain ⟨a, vs, e2, q, q1⟩ := lsF_of st (.hd hj) (show lsF S _ = some ys from e1)
        cases e2
        exact ⟨_, _, rfl, .inl ⟨SqL.of q, fun p hp => Post.tup h st q1 hp⟩⟩
      | _ => cases e1
    · exact h.elim
  · exact h.elim
theorem opl_lis : OpL X.K E (fun xs H Q => ∃ p ys, xs = [.ref p] ∧ (SqL X.K H p ys ∨ SqT X.K H p ys) ∧ ∀ l, H l = none → Q (.ref l) (upd H l (.lst ys))) lisF := fun G J S H xs ds Q st r h => by
  unfold lisF at h
  split at h
  · split at h
    · rename_i d ys e1
      obtain ⟨v, rfl, r1⟩ := r.one rfl
      obtain ⟨a, vs, rfl, q, q1⟩ := seqF_of st r1 e1
      exact ⟨_, _, rfl, q, fun p hp => Post.lst h st q1 hp⟩
    · exact h.elim
  · exact h.elim
theorem opl_all : OpL X.K E (rAll X.K) allF := fun G J S H xs ds Q st r h => by
  unfold allF at h
  split at h
  · split at h
    · rename_i d bs e1
      obtain ⟨v, rfl, r1⟩ := r.one rfl
      obtain ⟨ys, e2, e3⟩ := Option.bind_eq_some_iff.mp e1
      obtain ⟨a, vs, rfl, q, q1⟩ := rlF_of st r1 e2
      have := blsD_of q1 e3
      subst this
      exact ⟨a, bs, rfl, q, Post.ok h st (.bl _)⟩
    · exact h.elim
  · exact h.elim
theorem opl_any : OpL X.K E (rAny X.K) anyF := fun G J S H xs ds Q st r h => by
  unfold anyF at h
  split at h
  · split at h
    · rename_i d bs e1
      obtain ⟨v, rfl, r1⟩ := r.one rfl
      obtain ⟨ys, e2, e3⟩ := Option.bind_eq_some_iff.mp e1
      obtain ⟨a, vs, rfl, q, q1⟩ := rlF_of st r1 e2
      have := blsD_of q1 e3
      subst this
      exact ⟨a, bs, rfl, q, Post.ok h st (.bl _)⟩
    · exact h.elim
  · exact h.elim
theorem opl_sum : OpL X.K E (rSum X.K) sumF := fun G J S H xs ds Q st r h => by
  unfold sumF at h
  split at h
  · split at h
    · rename_i d bs e1
      obtain ⟨v, rfl, r1⟩ := r.one rfl
      obtain ⟨ys, e2, e3⟩ := Option.bind_eq_some_iff.mp e1
      obtain ⟨a, vs, rfl, q, q1⟩ := rlF_of st r1 e2
      have := intsD_of q1 e3
      subst this
      exact ⟨a, bs, rfl, q, Post.ok h st (.int _)⟩
    · exact h.elim
  · exact h.elim
end
/-! ### isinstance(x, T), T a built-in type -/
def tagF (S : Store) : D → Option String
  | .non => some "NoneType"
  | .bl _ => some "bool"
  | .int _ => some "int"
  | .str _ => some "str"
  | .tup _ => some "tuple"
  | .lst _ => some "list"
  | .rol _ => some "list"
  | .em => some "dict"
  | .hd n => match S[n]? with
    | some (.lst _) => some "list"
    | _ => none
def tags : List String := ["NoneType", "bool", "int", "str", "tuple", "list", "dict"]
def isiB (a b : String) : Bool := a == b || (a == "bool" && b == "int")
theorem kit_tags : ∀ a ∈ tags, ∀ b ∈ tags.tail, kitB a b = some (isiB a b) := by decide +kernel
def isiF (T : String) (d : D) (S : Store) : R D := match tagF S d with
  | some a => .ok (.bl (isiB a T)) S
  | none => .no
theorem tag_in {S : Store} {d : D} {a : String} (e : tagF S d = some a) : a ∈ tags := by
  cases d <;> first | (cases e; decide) | skip
  rename_i n
  unfold tagF at e
  dsimp only at e
  split at e
  · cases e; decide
  · cases e
theorem ty_of {K : PySem.W.Frag} {G H : Hp} {J : List Addr} {S : Store} (st : StR K G J S H) {d : D} {v : V} {a : String} (r : RD K G J d v) (e : tagF S d = some a) : TyX K H v (.type a) := by
  cases r with
  | non => cases e; exact .base .non
  | bl b => cases e; exact .base (.bl b)
  | int b => cases e; exact .base (.int b)
  | str b => cases e; exact .base (.str b)
  | tup h t =>
    cases e
    rcases sqT_sub st.sub h with (h | ⟨o, h⟩) | ⟨o, its, n, h, c, _⟩
    · exact .base (.tup h)
    · exact .fTuple h
    · exact .kTuple h c
  | lst h t => cases e; exact .base (.lst (st.sub _ _ h))
  | rol h t =>
    cases e
    rcases sqL_sub st.sub h with (h | ⟨o, h⟩) | ⟨o, its, n, h, c, _⟩
    · exact .base (.lst h)
    · exact .base (.frz h)
    · exact .kList h c
  | em h => cases e; exact .base (.dK (st.sub _ _ h))
  | hd hj =>
    unfold tagF at e
    dsimp only at e
    split at e
    · rename_i q
      cases e
      obtain ⟨vs, h1, h2⟩ := st.cell _ _ _ q hj
      exact .base (.lst h1)
    · cases e
section
variable {X : Cx} {E : XK} {e : Expr} {f : EF} {pos : Pos}
theorem me_isi {T : String} {Tn : Str} {p p2 : Pos} (hT : T ∈ tags.tail) (hm : X.mg "isinstance" = none) (hmT : X.mg Tn = none) (hv : bootBuiltins Tn = some (.type T)) (ha : ME X E e f) (hgT : Gl X Tn := by rfl) (hg : Gl X "isinstance" := by rfl)
    (hvI : bootBuiltins "isinstance" = some (.builtin "isinstance") := by decide +kernel)
    (hn : Tn ≠ "__name__" := by decide) (hdb : (Tn == ("__debug__" : Str)) = false := by decide)
    (he : starEach [e, .Name Tn p2] X.env = (false, eval e X.env) :: starEach [.Name Tn p2] X.env := by rfl) (he2 : starEach [.Name Tn p2] X.env = (false, eval (.Name Tn p2) X.env) :: starEach [] X.env := by rfl)
    (hpl : (backTo pos (starEach [.Name Tn p2] X.env)).any (·.1) = false := by rfl) : ME X E (.Call (.Name "isinstance" p) [e, .Name Tn p2] [] pos) (e1 (isiF T) f) :=
  pe_mono (pe_callB (call_isi (X := X)) hg hm hvI (pa_cons ha (pa_cons (pe_bltn (v := .ty T) hgT hmT hv rfl hn hdb) pa_nil he2) he) (by decide) (by decide) he hpl)
    fun σ H Q ⟨G, J, S, ρ, st, en, h⟩ => ⟨G, J, S, ρ, st, en, Post.bind h fun d S1 G1 J1 H1 x _ st1 s1 rd h1 => by
      unfold isiF at h1
      split at h1
      · rename_i a ea
        exact ⟨x, .ty T, .type a, .type T, isiB a T, rfl, .ty T, ty_of st1 rd ea, kit_ty (kit_tags a (tag_in ea) T hT), Post.ok h1 st1 (.bl _)⟩
      · exact h1.elim⟩
end
end DL
end
section
set_option maxRecDepth 100000
set_option maxHeartbeats 4000000
set_option autoImplicit false
set_option linter.all false
namespace DL
open PySem L2 PySem.Spec PyProof.Rows
/-! ### x[i], x[a:b], x[::-1] -/
def ixF (d i : D) (S : Store) : R D := match i with
  | .int k => match d with
    | .str z => if z.length ≤ sizeLine then (match atI z.cps.toList k with
      | some c => .ok (.str ⟨#[c]⟩) S
      | none => .no) else .no
    | d => match (seqF S d).bind (fun xs => atI xs k) with
      | some x => .ok x S
      | none => .no
  | _ => .no
theorem atI_rds {K : PySem.W.Frag} {G : Hp} {J : List Addr} {ds : List D} {vs : List V} {k : Int} {d : D} (r : RDs K G J ds vs) (e : atI ds k = some d) : ∃ v, atI vs k = some v ∧ RD K G J d v := by
  unfold atI at e ⊢
  obtain ⟨j, h1, h2⟩ := Option.bind_eq_some_iff.mp e
  obtain ⟨v, h3, h4⟩ := r.get h2
  exact ⟨v, by rw [← r.len, h1]; exact h3, h4⟩
def cutL {α : Type} (xs : List α) (lo hi : Option Int) : List α := (xs.drop (HT.sIx xs.length 0 lo)).take (HT.sIx xs.length xs.length hi - HT.sIx xs.length 0 lo)
theorem cut_rds {K : PySem.W.Frag} {G : Hp} {J : List Addr} {ds : List D} {vs : List V} (r : RDs K G J ds vs) (lo hi : Option Int) : RDs K G J (cutL ds lo hi) (cutV vs lo hi) := by
  unfold cutL cutV
  rw [r.len]
  exact (r.drop _).take _
def slF (d : D) (lo hi : Option Int) (S : Store) : R D := match d with
  | .str z => if z.length ≤ sizeLine then .ok (.str (cutS z lo hi)) S else .no
  | .tup xs => .ok (.tup (cutL xs lo hi)) S
  | d => match rlF S d with
    | some xs => .ok (.lst (cutL xs lo hi)) S
    | none => .no
def revF (d : D) (S : Store) : R D := match d with
  | .tup xs => .ok (.tup xs.reverse) S
  | d => match rlF S d with
    | some xs => .ok (.lst xs.reverse) S
    | none => .no
section
variable {prog : Program} {w : World} {A : Around} {E : Value → Shared → Prop} {s : Shared}
theorem applied_rev {sl : Addr} {vl vu vk : Value} {n : Nat} {Q : Int × Int × Nat → Shared → Prop} (hs : s.heap.IsSliceOf sl vl vu vk) (pl : IsPart vl none) (pu : IsPart vu none) (pk : IsPart vk (some (-1)))
    (q : Q ((n : Int) - 1, -1, n) s) : wpAny (model prog w) A (Builtin.Slice.sliceApplied (.ref sl) (pure (n : Int))) Q E s := by
  obtain ⟨ob, g1, g2, g3⟩ := id hs
  unfold Builtin.Slice.sliceApplied Builtin.Slice.sliceFields
  refine wpAny_bind (wpAny_bind (wpAny_field g1 g3 (x := vl) rfl (wpAny_bind (wpAny_field g1 g3 (x := vu) rfl (wpAny_bind (wpAny_field g1 g3 (x := vk) rfl (wpAny_pure ?_)))))))
  refine wpAny_bind (HT.slicePart_ pk ?_)
  show wpAny _ _ (if ((-1 : Int) == 0) = true then _ else _) _ _ s
  rw [if_neg (by decide)]
  refine wpAny_bind (HT.slicePart_ pl (wpAny_bind (HT.slicePart_ pu (wpAny_bind (wpAny_pure ?_)))))
  have e1 : Builtin.Slice.sliceAdjust none none (-1) (n : Int) = ((n : Int) - 1, -1) := rfl
  have e2 : Builtin.Slice.slicePlaces ((n : Int) - 1) (-1) (-1) = n := by
    unfold Builtin.Slice.slicePlaces
    rw [if_neg (by decide)]
    by_cases h : n = 0
    · subst h; rfl
    · rw [if_pos (by omega), show (-(-1 : Int)) = 1 from rfl, Int.ediv_one]; omega
  show wpAny _ _ (match Builtin.Slice.sliceAdjust none none (-1) (n : Int) with | (lo, hi) => pure (lo, (-1 : Int), Builtin.Slice.slicePlaces lo hi (-1))) _ _ s
  rw [e1]
  show wpAny _ _ (pure ((n : Int) - 1, (-1 : Int), Builtin.Slice.slicePlaces ((n : Int) - 1) (-1) (-1))) _ _ s
  rw [e2]
  exact wpAny_pure q
theorem fm_congr {α β : Type} {p q : α → Option β} : ∀ {l : List α}, (∀ x ∈ l, p x = q x) → l.filterMap p = l.filterMap q
  | [], _ => rfl
  | a :: l, h => by
    rw [List.filterMap_cons, List.filterMap_cons, h a List.mem_cons_self, fm_congr fun x hx => h x (List.mem_cons_of_mem _ hx)]
theorem pick_rev (xs : Array Value) : ((List.range xs.size).filterMap fun (m : Nat) => xs[((xs.size : Int) - 1 + (m : Int) * (-1)).toNat]?) = xs.toList.reverse := by
  have e : (fun (m : Nat) => xs[((xs.size : Int) - 1 + (m : Int) * (-1)).toNat]?) = fun (m : Nat) => xs[((xs.size : Int) - 1 - (m : Int)).toNat]? := by
    funext m
    congr 2
    omega
  rw [e]
  have e2 : (List.range xs.size).filterMap (fun (m : Nat) => xs[((xs.size : Int) - 1 - (m : Int)).toNat]?) = ((List.range xs.size).map fun k => xs.size - 1 - k).filterMap (xs[·]?) := by
    rw [List.filterMap_map]
    exact fm_congr fun m hm => by
      have := List.mem_range.mp hm
      show xs[((xs.size : Int) - 1 - (m : Int)).toNat]? = xs[xs.size - 1 - m]?
      congr 1
      omega
  rw [e2, PySem.W.krv_range, List.filterMap_reverse, PySem.W.krv_all]
theorem getItem_tuple_rev {t sl : Addr} {items : Array Value} {vl vu vk : Value} {Q : Value → Shared → Prop} (ht : IsTup s.heap t items) (hs : s.heap.IsSliceOf sl vl vu vk) (pl : IsPart vl none) (pu : IsPart vu none) (pk : IsPart vk (some (-1)))
    (q : Q (.ref s.heap.objs.size) { s with heap := s.heap.push { cls := .type "tuple", data := .seq items.toList.reverse.toArray } }) (hsz : items.size ≤ sizeLine) : wpAny (model prog w) A (getItem (.ref t) (.ref sl)) Q E s := by
  have fits : sizeOk (.seq items.toList.reverse.toArray) := by
    show items.toList.reverse.toArray.size ≤ sizeLine
    rw [List.size_toArray, List.length_reverse, Array.length_toList]
    exact hsz
  obtain ⟨ob, g1, g2, g3⟩ := id hs
  have ty : s.TypeIs (.ref sl) "slice" := ⟨ob, g1, g2⟩
  unfold getItem
  try with_reducible refine wpAny_holding ?_
  first | refine wpAny_bind (wpAny_pure ?_) | skip
  refine wpAny_bind (wpAny_sequenceKey ht.typeIs (by decide) ?_)
  refine wpAny_bind (wpAny_callSpecial?_slot (name := Str.ofString "__getitem__") ht.typeIs slot_tuple_getitem
    (wpAny_call_entry slot_tuple_getitem ht.typeIs entry_tuple_getitem ?_ (args_tuple_getitem _ _)))
  show wpAny _ _ (Builtin.Tuple.tupleItemsOf (.ref t) >>= _) _ _ s
  refine wpAny_bind (tupleItemsOf_ ht ?_)
  refine wpAny_bind (wpAny_typeOf ty ?_)
  rw [if_pos (by decide)]
  refine wpAny_bind (applied_rev hs pl pu pk ?_)
  have no : ¬ (((((items.size : Nat) : Int) - 1) == 0 && (-1 : Int) == 1 && items.size == items.size) = true) := by
    intro h
    rw [Bool.and_eq_true, Bool.and_eq_true] at h
    exact absurd h.1.2 (by decide)
  show wpAny _ _ (if (((((items.size : Nat) : Int) - 1) == 0 && (-1 : Int) == 1 && items.size == items.size) = true) then _ else _) _ _ s
  rw [if_neg no, pick_rev]
  first
    | exact wpAny_bind (m := Builtin.Tuple.tupleExact _) (wpAny_newObj_type (wpAny_pure ⟨_, rfl, wpAny_pure q⟩) fits)
    | exact wpAny_bind (m := Builtin.Tuple.tupleExact _) (wpAny_newObj_type (wpAny_bind (wpAny_pure (wpAny_pure ⟨_, rfl, wpAny_pure q⟩))) fits)
    | exact wpAny_bind (wpAny_bind (m := Builtin.Tuple.tupleExact _) (wpAny_newObj_type (wpAny_pure (wpAny_pure ⟨_, rfl, wpAny_pure q⟩)) fits))
    | exact wpAny_bind (wpAny_bind (m := Builtin.Tuple.tupleExact _) (wpAny_newObj_type (wpAny_pure ⟨_, rfl, wpAny_pure q⟩) fits))
end
/-- x[::-1] of a list or a tuple -/
def rRev (K : PySem.W.Frag) : V → Hp → VK → Prop := fun x H Q => (∃ a xs, x = .ref a ∧ SqL K H a xs ∧ ∀ p, H p = none → Q (.ref p) (upd H p (.lst xs.reverse))) ∨ ∃ a xs, x = .ref a ∧ SqT K H a xs ∧ ∀ p, H p = none → Q (.ref p) (upd H p (.tup xs.reverse))
section
variable {X : Cx} {E : XK} {a b e : Expr} {f g : EF} {pos p2 : Pos} {te : TE}
theorem pe_rev {j : Nat} {c q : Pos} (he : PE X e te) : PE X (.Subscript e (.Slice none none (some (.UnaryOp .USub (.Constant (.int 1) j c) q)) p2) pos) (tUn (rRev X.K) te) := by
  refine ⟨fun pins s σ H Q I h => ?_⟩
  refine Subscript_ (thn (he.run pins s σ H _ I h) fun v s1 ⟨x, H1, I1, r1, q1⟩ => ?_)
  refine wpAny_Slice ?_
  rw [evalPart_none]
  refine wpAny_pure (wpAny_pure ?_)
  have one : PO X (some (.UnaryOp .USub (.Constant (.int 1) j c) q)) (tPart (tUn (rU fun i => .int (-i)) (tC (.int 1)))) := po_some (pe_un un_neg pe_int)
  refine thn (one.run pins s1 σ H1 (fun o H2 => o = some (-1) ∧ H2 = H1) I1 ⟨1, rfl, -1, rfl, rfl, rfl⟩) fun vk s3 ⟨o, H2, I3, pk, eo, eh⟩ => ?_
  subst eo; subst eh
  have I4 : Inv X pins σ H2 { s3 with heap := s3.heap.push { cls := .type "slice", data := .fields #[.none, .none, vk] } } := I3.kept (t' := s3.toks) fun b ob q => Heap.get?_push_of_some _ q
  show wpAny (model X.prog X.w) X.A (subscriptTail e (.Slice none none (some (.UnaryOp .USub (.Constant (.int 1) j c) q)) p2) v (.ref s3.heap.objs.size)) (EP X pins σ Q) X.xe { s3 with heap := s3.heap.push { cls := .type "slice", data := .fields #[.none, .none, vk] } }
  rcases q1 with ⟨l, xs, rfl, hx, q⟩ | ⟨l, xs, rfl, hx, q⟩
  · cases r1
    obtain ⟨its, r, ht, hz⟩ := I4.list hx
    have hl := r.length
    refine tail_any (ops := [.ref l, .ref s3.heap.objs.size]) ht.isList.typeIs slot_list_getitem.lookup ?_ (by with_unfolding_all rfl)
    refine wpAny_getItem_list_slice ht.isList (Heap.IsSliceOf.new ..) .none .none pk (by decide) ?_ (by rw [List.size_toArray]; omega)
    rw [PySem.W.krv_pick]
    refine ⟨.ref _, _, I4.laid (t' := s3.toks) (o := .lst xs.reverse) (fun b ob q => Heap.get?_push_of_some _ q) (Nat.le_refl _) ?_, rfl, q _ (I4.hok.fresh (Nat.le_refl _))⟩
    exact ⟨by rw [List.length_reverse]; exact hz, _, 0, r.reverse, Heap.get?_push_size _ rfl⟩
  · cases r1
    obtain ⟨its, r, ht, hz⟩ := I4.tuple hx
    have hl := r.length
    refine tail_any (ops := [.ref l, .ref s3.heap.objs.size]) ht.typeIs slot_tuple_getitem.lookup ?_ (by with_unfolding_all rfl)
    refine getItem_tuple_rev ht (Heap.IsSliceOf.new ..) .none .none pk ?_ (by rw [List.size_toArray]; omega)
    refine ⟨.ref _, _, I4.laid (t' := s3.toks) (o := .tup xs.reverse) (fun b ob q => Heap.get?_push_of_some _ q) (Nat.le_refl _) ?_, rfl, q _ (I4.hok.fresh (Nat.le_refl _))⟩
    exact ⟨by rw [List.length_reverse]; exact hz, _, r.reverse, IsTup.new _ _⟩
theorem me_ix (ha : ME X E a f) (hb : ME X E b g) (hs : PlainIx b := by exact fun _ _ => rfl) : ME X E (.Subscript a b pos) (e2 ixF f g) :=
  pe_mono (pe_ix ix_seq ha hb hs) (tM_pair fun G J S H x y d e Q st r1 r2 h => by
    unfold ixF at h
    split at h
    · cases r2
      split at h
      · cases r1
        split at h
        · rename_i hz
          split at h
          · rename_i c hc
            exact .inr (.inr ⟨_, _, c, rfl, rfl, hz, hc, Post.ok h st (.str _)⟩)
          · exact h.elim
        · exact h.elim
      · split at h
        · rename_i z ez
          obtain ⟨xs, e1, e2⟩ := Option.bind_eq_some_iff.mp ez
          obtain ⟨p, vs, rfl, hq, q1⟩ := seqF_of st r1 e1
          obtain ⟨v, h3, h4⟩ := atI_rds q1 e2
          rcases hq with hq | hq
          · exact .inl ⟨p, vs, _, v, rfl, rfl, hq, h3, Post.ok h st h4⟩
          · exact .inr (.inl ⟨p, vs, _, v, rfl, rfl, hq, h3, Post.ok h st h4⟩)
        · exact h.elim
    · exact h.elim)
def oN : OF := fun _ S => .ok none S
def oS (f : EF) : OF := fun ρ S => (f ρ S).bind fun d S1 => match d with
  | .int i => .ok (some i) S1
  | _ => .no
theorem mo_none : MO X E none oN := ⟨fun pins s σ H Q I ⟨G, J, S, ρ, st, en, h⟩ => po_none.run pins s σ H Q I (Post.ok (d := none) h st rfl)⟩
theorem mo_some (h : ME X E e f) : MO X E (some e) (oS f) := ⟨fun pins s σ H Q I ⟨G, J, S, ρ, st, en, q⟩ => (po_some h).run pins s σ H Q I ⟨G, J, S, ρ, st, en, Post.bind q fun d S1 G1 J1 H1 x _ st1 s1 rd q1 => by
  cases rd with
  | int i => exact ⟨i, rfl, Post.ok q1 st1 rfl⟩
  | _ => exact q1.elim⟩⟩
def eSl (f : EF) (lo hi : OF) : EF := fun ρ S => (f ρ S).bind fun d S1 => (lo ρ S1).bind fun l S2 => (hi ρ S2).bind fun h S3 => slF d l h S3
theorem me_slice {lo hi : Option Expr} {fl fh : OF} (he : ME X E e f) (hl : MO X E lo fl) (hh : MO X E hi fh) : ME X E (.Subscript e (.Slice lo hi none p2) pos) (eSl f fl fh) :=
  pe_mono (pe_slice (SlR.or sl_str (SlR.or sl_tupA sl_list)) he hl hh) fun σ H Q ⟨G, J, S, ρ, st, en, h⟩ => ⟨G, J, S, ρ, st, en, Post.bind h fun d S1 G1 J1 H1 x _ st1 s1 rd h1 =>
    ⟨G1, J1, S1, ρ, st1, en.mono s1.g s1.j, Post.bind h1 fun l S2 G2 J2 H2 l' _ st2 s2 el h2 => ⟨G2, J2, S2, ρ, st2, (en.mono s1.g s1.j).mono s2.g s2.j, Post.bind h2 fun u S3 G3 J3 H3 u' _ st3 s3 eu h3 => by
      cases el; cases eu
      have rd3 := (rd.mono s2.g s2.j).mono s3.g s3.j
      unfold slF at h3
      split at h3
      · cases rd3
        split at h3
        · rename_i hz
          exact .inl ⟨_, rfl, hz, Post.ok h3 st3 (.str _)⟩
        · exact h3.elim
      · rename_i ys _
        cases rd3 with
        | tup t1 t2 =>
          refine .inr (.inl ⟨_, _, rfl, sqT_sub st3.sub t1, fun hw => ?_, fun _ q hq => Post.tup h3 st3 (cut_rds t2 l u) hq⟩)
          have e : cutL ys l u = ys := by
            unfold cutL
            rw [t2.len, hw.1, hw.2]
            simp [← t2.len]
          rw [e] at h3
          exact Post.ok h3 st3 (.tup t1 t2)
      · split at h3
        · rename_i xs ex
          obtain ⟨p, vs, rfl, hq, q1⟩ := rlF_of st3 rd3 ex
          exact .inr (.inr ⟨p, vs, rfl, hq, fun q hq => Post.lst h3 st3 (cut_rds q1 l u) hq⟩)
        · exact h3.elim⟩⟩⟩
theorem me_rev {j : Nat} {c q : Pos} (he : ME X E e f) : ME X E (.Subscript e (.Slice none none (some (.UnaryOp .USub (.Constant (.int 1) j c) q)) p2) pos) (e1 revF f) :=
  pe_mono (pe_rev he) fun σ H Q ⟨G, J, S, ρ, st, en, h⟩ => ⟨G, J, S, ρ, st, en, Post.bind h fun d S1 G1 J1 H1 x _ st1 s1 rd h1 => by
    unfold revF at h1
    split at h1
    · cases rd with
      | tup t1 t2 => exact .inr ⟨_, _, rfl, sqT_sub st1.sub t1, fun q hq => Post.tup h1 st1 t2.rev hq⟩
    · split at h1
      · rename_i xs ex
        obtain ⟨p, vs, rfl, hq, q1⟩ := rlF_of st1 rd ex
        exact .inl ⟨p, vs, rfl, hq, fun q hq => Post.lst h1 st1 q1.rev hq⟩
      · exact h1.elim⟩
end
end DL
end
section
set_option maxRecDepth 100000
set_option maxHeartbeats 4000000
set_option autoImplicit false
set_option linter.all false
namespace DL
open PySem L2 PySem.Spec PyProof.Rows
/-! ### written tuples, lists, the empty dict -/
def eTup (f : AF) : EF := fun ρ S => (f ρ S).bind fun ds S1 => if ds.length ≤ 1000 then .ok (.tup ds) S1 else .no
def eLst (f : AF) : EF := fun ρ S => (f ρ S).bind fun ds S1 => if ds.length ≤ 1000 then .ok (.lst ds) S1 else .no
def eNew (f : AF) : EF := fun ρ S => (f ρ S).bind fun ds S1 => if ds.length ≤ 1000 then .ok (.hd S1.length) (S1 ++ [.lst ds]) else .no
theorem line1000 {n : Nat} (h : n ≤ 1000) : n ≤ sizeLine := Nat.le_trans h (by decide)
/-- a new list of the store -/
theorem Post.new {K : PySem.W.Frag} {G H : Hp} {J : List Addr} {S : Store} {Q : VK} {E : XK} {ds : List D} {vs : List V} (h : Post K (RD K) G J H Q E (.ok (.hd S.length) (S ++ [.lst ds]))) (st : StR K G J S H) (r : RDs K G J ds vs) {p : Addr} (hp : H p = none) : Q (.ref p) (upd H p (.lst vs)) :=
  h _ _ _ _ (st.alloc hp ⟨vs, upd_same, r.mono (Sub.refl _) (List.prefix_append _ _)⟩) (Stp.alloc hp) (.hd (by rw [← st.len]; simp))
section
variable {X : Cx} {E : XK} {a b e : Expr} {es : List Expr} {f g : EF} {fa : AF} {pos p2 : Pos}
theorem me_tup {x1} (h : MA X E es fa) : ME X E (.Tuple es x1 pos) (eTup fa) :=
  pe_mono (pe_tup h) fun σ H Q ⟨G, J, S, ρ, st, en, q⟩ => ⟨G, J, S, ρ, st, en, Post.bind q fun ds S1 G1 J1 H1 vs _ st1 s1 rd q1 => by
    split at q1
    · rename_i hl
      exact ⟨by rw [← rd.len]; exact line1000 hl, fun p hp => Post.tup q1 st1 rd hp⟩
    · exact q1.elim⟩
theorem me_lst (h : MA X E es fa) : ME X E (.List es pos) (eLst fa) :=
  pe_mono (pe_lst h) fun σ H Q ⟨G, J, S, ρ, st, en, q⟩ => ⟨G, J, S, ρ, st, en, Post.bind q fun ds S1 G1 J1 H1 vs _ st1 s1 rd q1 => by
    split at q1
    · rename_i hl
      exact ⟨by rw [← rd.len]; exact line1000 hl, fun p hp => Post.lst q1 st1 rd hp⟩
    · exact q1.elim⟩
theorem me_new (h : MA X E es fa) : ME X E (.List es pos) (eNew fa) :=
  pe_mono (pe_lst h) fun σ H Q ⟨G, J, S, ρ, st, en, q⟩ => ⟨G, J, S, ρ, st, en, Post.bind q fun ds S1 G1 J1 H1 vs _ st1 s1 rd q1 => by
    split at q1
    · rename_i hl
      exact ⟨by rw [← rd.len]; exact line1000 hl, fun p hp => Post.new q1 st1 rd hp⟩
    · exact q1.elim⟩
theorem me_em : ME X E (.Dict [] [] pos) (eC .em) :=
  pe_mono pe_dnewK fun σ H Q ⟨G, J, S, ρ, st, en, q⟩ => fun p hp => q _ _ _ _ (st.froz hp) (Stp.froz st hp) (.em upd_same)
/-! ### methods of built-in types -/
def OpM (K : PySem.W.Frag) (E : XK) (r : V → List V → Hp → VK → Prop) (F : D → List D → Store → R D) : Prop :=
  ∀ (G : Hp) (J : List Addr) (S : Store) (H : Hp) (x : V) (xs : List V) (d : D) (ds : List D) (Q : VK), StR K G J S H → RD K G J d x → RDs K G J ds xs → Post K (RD K) G J H Q E (F d ds S) → r x xs H Q
def eM (T : String) (F : D → List D → Store → R D) (f : EF) (fa : AF) : EF := fun ρ S => (f ρ S).bind fun d S1 => if tagF S1 d = some T then (fa ρ S1).bind fun ds S2 => F d ds S2 else .no
theorem tyV_of {K : PySem.W.Frag} {G H : Hp} {J : List Addr} {S : Store} (st : StR K G J S H) {d : D} {v : V} {T : String} (hT : T = "str" ∨ T = "list") (r : RD K G J d v) (e : tagF S d = some T) : tyV K T v H := by
  cases r with
  | str x => cases e; rfl
  | lst h t => cases e; exact .inl ⟨rfl, _, SqL.of (st.sub _ _ h)⟩
  | rol h t => cases e; exact .inl ⟨rfl, _, sqL_sub st.sub h⟩
  | hd hj =>
    unfold tagF at e
    dsimp only at e
    split at e
    · rename_i q
      cases e
      obtain ⟨vs, h1, h2⟩ := st.cell _ _ _ q hj
      exact .inl ⟨rfl, _, SqL.of h1⟩
    · cases e
  | non => cases e; exact absurd hT (by decide)
  | bl b => cases e; exact absurd hT (by decide)
  | int b => cases e; exact absurd hT (by decide)
  | tup h t => cases e; exact absurd hT (by decide)
  | em h => cases e; exact absurd hT (by decide)
variable {name : Str} {apos cpos : Pos} {T id : String} {r : V → List V → Hp → VK → Prop} {F : D → List D → Store → R D}
theorem me_bm (hT : T = "str" ∨ T = "list") (pa : PlainAttrs T) (slot : Slot T name id) (hty : typeOf (.builtin id) = pure (.type "method_descriptor")) (hm : MtR X id r) (hF : OpM X.K E r F) (ho : ME X E a f) (ha : MA X E (e :: es) fa)
    (hbase : attributeBase a name X.env (eval a X.env) = eval a X.env := by rfl)
    (hfew : ((backTo cpos (starEach (e :: es) X.env)).all (fun x => !x.1) && (backToKw cpos (keywordEach [] X.env)).all (fun x => x.1.isSome)
      && decide ((e :: es).length + ([] : List Keyword).length + (if ([] : List Keyword).isEmpty then 0 else 1) < 30)) = true := by rfl)
    (hline : (apos.endLine == cpos.line) = true := by rfl) (hs : starEach (e :: es) X.env = (false, eval e X.env) :: starEach es X.env := by rfl) (hplain : (backTo cpos (starEach es X.env)).any (·.1) = false := by rfl) :
    ME X E (.Call (.Attribute a name apos) (e :: es) [] cpos) (eM T F f fa) :=
  pe_mono (pe_bm pa slot hty hm ho ha hbase hfew hline hs hplain) fun σ H Q ⟨G, J, S, ρ, st, en, q⟩ => ⟨G, J, S, ρ, st, en, Post.bind q fun d S1 G1 J1 H1 x _ st1 s1 rd q1 => by
    split at q1
    · rename_i ht
      exact ⟨tyV_of st1 hT rd ht, G1, J1, S1, ρ, st1, en.mono s1.g s1.j, Post.bind q1 fun ds S2 G2 J2 H2 xs _ st2 s2 re q2 => hF _ _ _ _ _ _ _ _ _ st2 (rd.mono s2.g s2.j) re q2⟩
    · exact q1.elim⟩
theorem me_bm0 (hT : T = "str" ∨ T = "list") (pa : PlainAttrs T) (slot : Slot T name id) (hty : typeOf (.builtin id) = pure (.type "method_descriptor")) (hm : MtR X id r) (hF : OpM X.K E r F) (ho : ME X E a f)
    (hbase : attributeBase a name X.env (eval a X.env) = eval a X.env := by rfl) (hline : (apos.endLine == cpos.line) = true := by rfl) : ME X E (.Call (.Attribute a name apos) [] [] cpos) (eM T F f aN) :=
  pe_mono (pe_bm0 pa slot hty hm ho hbase hline) fun σ H Q ⟨G, J, S, ρ, st, en, q⟩ => ⟨G, J, S, ρ, st, en, Post.bind q fun d S1 G1 J1 H1 x _ st1 s1 rd q1 => by
    split at q1
    · rename_i ht
      exact ⟨tyV_of st1 hT rd ht, hF _ _ _ _ _ _ _ [] _ st1 rd .nil q1⟩
    · exact q1.elim⟩
end
def joinF (d : D) (ds : List D) (S : Store) : R D := match d, ds with
  | .str a, [x] => match (seqF S x).bind strsD with
    | some ys => if (ys.map (·.length)).sum + ys.length * a.length ≤ 16777216 then .ok (.str (Txt.join a ys)) S else .no
    | none => .no
  | _, _ => .no
def splitF (d : D) (ds : List D) (S : Store) : R D := match d, ds with
  | .str a, [.str b] => if (b.length == 0) = false ∧ a.length + 2 ≤ sizeLine then .ok (.lst ((Txt.split a b).map .str)) S else .no
  | _, _ => .no
def upperF (d : D) (ds : List D) (S : Store) : R D := match d, ds with
  | .str a, [] => if a.length ≤ 5592405 then .ok (.str (Txt.upper a)) S else .no
  | _, _ => .no
def rstripF (d : D) (ds : List D) (S : Store) : R D := match d, ds with
  | .str a, [.str b] => if a.length ≤ sizeLine then .ok (.str (Txt.rstripChars a b)) S else .no
  | _, _ => .no
def appendF (d : D) (ds : List D) (S : Store) : R D := match d, ds with
  | .hd n, [y] => match S[n]? with
    | some (.lst xs) => if xs.length < sizeLine then .ok .non (S.set n (.lst (xs ++ [y]))) else .no
    | _ => .no
  | _, _ => .no
def extendF (d : D) (ds : List D) (S : Store) : R D := match d, ds with
  | .hd n, [y] => match S[n]?, lsF S y with
    | some (.lst xs), some ys => if xs.length + ys.length ≤ sizeLine then .ok .non (S.set n (.lst (xs ++ ys))) else .no
    | _, _ => .no
  | _, _ => .no
def popF (d : D) (ds : List D) (S : Store) : R D := match d, ds with
  | .hd n, [] => match S[n]? with
    | some (.lst xs) => match xs[xs.length - 1]? with
      | some y => .ok y (S.set n (.lst xs.dropLast))
      | none => .no
    | _ => .no
  | _, _ => .no
theorem RDs.dropLast {K : PySem.W.Frag} {G : Hp} {J : List Addr} {ds : List D} {vs : List V} (h : RDs K G J ds vs) : RDs K G J ds.dropLast vs.dropLast := by
  rw [List.dropLast_eq_take, List.dropLast_eq_take, h.len]; exact h.take _
section
variable {X : Cx} {E : XK}
theorem opm_join : OpM X.K E (fun x xs H Q => ∃ a p, ∃ ys : List Str, x = .str a ∧ xs = [.ref p] ∧ (SqL X.K H p (ys.map V.str) ∨ SqT X.K H p (ys.map V.str)) ∧
    (ys.map (·.length)).sum + ys.length * a.length ≤ 16777216 ∧ Q (.str (Txt.join a ys)) H) joinF := fun G J S H x xs d ds Q st r1 r2 h => by
  unfold joinF at h
  split at h
  · split at h
    · split at h
      · rename_i _ _ ys e1 hz
        cases r1
        obtain ⟨v, rfl, r3⟩ := r2.one rfl
        obtain ⟨zs, e2, e3⟩ := Option.bind_eq_some_iff.mp e1
        obtain ⟨p, vs, rfl, hq, q1⟩ := seqF_of st r3 e2
        have := strsD_of q1 e3
        subst this
        exact ⟨_, p, ys, rfl, rfl, hq, hz, Post.ok h st (.str _)⟩
      · exact h.elim
    · exact h.elim
  · exact h.elim
theorem opm_split : OpM X.K E (fun x xs H Q => ∃ a b, x = .str a ∧ xs = [.str b] ∧ (b.length == 0) = false ∧ a.length + 2 ≤ sizeLine ∧ rNewStrs (Txt.split a b) H Q) splitF := fun G J S H x xs d ds Q st r1 r2 h => by
  unfold splitF at h
  split at h
  · split at h
    · rename_i hz
      cases r1
      obtain ⟨v, rfl, r3⟩ := r2.one rfl
      cases r3
      exact ⟨_, _, rfl, rfl, hz.1, hz.2, fun p hp => Post.lst h st (strs_rds _) hp⟩
    · exact h.elim
  · exact h.elim
theorem opm_upper : OpM X.K E (fun x xs H Q => ∃ a, x = .str a ∧ xs = [] ∧ a.length ≤ 5592405 ∧ Q (.str (Txt.upper a)) H) upperF := fun G J S H x xs d ds Q st r1 r2 h => by
  unfold upperF at h
  split at h
  · split at h
    · rename_i hz
      cases r1; cases r2
      exact ⟨_, rfl, rfl, hz, Post.ok h st (.str _)⟩
    · exact h.elim
  · exact h.elim
theorem opm_rstrip : OpM X.K E (fun x xs H Q => ∃ a b, x = .str a ∧ xs = [.str b] ∧ a.length ≤ sizeLine ∧ Q (.str (Txt.rstripChars a b)) H) rstripF := fun G J S H x xs d ds Q st r1 r2 h => by
  unfold rstripF at h
  split at h
  · split at h
    · rename_i hz
      cases r1
      obtain ⟨v, rfl, r3⟩ := r2.one rfl
      cases r3
      exact ⟨_, _, rfl, rfl, hz, Post.ok h st (.str _)⟩
    · exact h.elim
  · exact h.elim
theorem opm_append : OpM X.K E rAppend appendF := fun G J S H x xs d ds Q st r1 r2 h => by
  unfold appendF at h
  split at h
  · split at h
    · split at h
      · rename_i _ _ ys e1 hz
        obtain ⟨v, rfl, r3⟩ := r2.one rfl
        cases r1 with
        | hd hj =>
        obtain ⟨vs, h1, q1⟩ := st.cell _ _ _ e1 hj
        exact ⟨_, vs, v, rfl, rfl, h1, by rw [← q1.len]; exact hz, h _ _ _ _ (st.put hj ⟨_, upd_same, q1.app (.cons r3 .nil)⟩) (Stp.put hj) .non⟩
      · exact h.elim
    · exact h.elim
  · exact h.elim
theorem opm_extend : OpM X.K E rExtend extendF := fun G J S H x xs d ds Q st r1 r2 h => by
  unfold extendF at h
  split at h
  · split at h
    · split at h
      · rename_i _ _ _ _ _ ys zs e1 e2 hz
        obtain ⟨v, rfl, r3⟩ := r2.one rfl
        obtain ⟨b, ws, rfl, h3, q3⟩ := lsF_of st r3 e2
        cases r1 with
        | hd hj =>
        obtain ⟨vs, h1, q1⟩ := st.cell _ _ _ e1 hj
        exact ⟨_, b, vs, ws, rfl, rfl, h1, h3, by rw [← q1.len, ← q3.len]; exact hz, h _ _ _ _ (st.put hj ⟨_, upd_same, q1.app q3⟩) (Stp.put hj) .non⟩
      · exact h.elim
    · exact h.elim
  · exact h.elim
theorem opm_pop : OpM X.K E rPop popF := fun G J S H x xs d ds Q st r1 r2 h => by
  unfold popF at h
  split at h
  · split at h
    · split at h
      · rename_i ys e1 _ y e2
        cases r2
        cases r1 with
        | hd hj =>
        obtain ⟨vs, h1, q1⟩ := st.cell _ _ _ e1 hj
        obtain ⟨v, e3, r3⟩ := q1.get e2
        exact ⟨_, vs, v, rfl, rfl, h1, by rw [← q1.len]; exact e3, h _ _ _ _ (st.put hj ⟨_, upd_same, q1.dropLast⟩) (Stp.put hj) r3⟩
      · exact h.elim
    · exact h.elim
  · exact h.elim
end
end DL
end
section
set_option maxRecDepth 100000
set_option maxHeartbeats 4000000
set_option autoImplicit false
set_option linter.all false
namespace DL
open PySem L2 PySem.Spec PyProof.Rows
/-! ### targets: names, tuples of names -/
/-- b: what the target does to the names; its places are is -/
def GOk (K : PySem.W.Frag) (g : TG) (b : D → Rho → Option Rho) (is : List Nat) : Prop :=
  ∀ (G : Hp) (J : List Addr) (S : Store) (H : Hp) (σ : L2.St) (ρ ρ' : Rho) (d : D) (v : V) (Q : L2.St → Hp → Prop), StR K G J S H → EnvR K G J ρ σ → RD K G J d v → b d ρ = some ρ' →
    (∀ σ', EnvR K G J ρ' σ' → (∀ j, j ∉ is → σ'[j]? = σ[j]?) → σ'.length = σ.length → Q σ' H) → g v σ H Q
def GsOk (K : PySem.W.Frag) (g : TGs) (b : List D → Rho → Option Rho) (is : List Nat) : Prop :=
  ∀ (G : Hp) (J : List Addr) (S : Store) (H : Hp) (σ : L2.St) (ρ ρ' : Rho) (ds : List D) (vs : List V) (Q : L2.St → Hp → Prop), StR K G J S H → EnvR K G J ρ σ → RDs K G J ds vs → b ds ρ = some ρ' →
    (∀ σ', EnvR K G J ρ' σ' → (∀ j, j ∉ is → σ'[j]? = σ[j]?) → σ'.length = σ.length → Q σ' H) → g vs σ H Q
def MG (X : Cx) (tg : Expr) (b : D → Rho → Option Rho) (is : List Nat) : Prop := ∃ g, PG X tg g ∧ GOk X.K g b is
def MGs (X : Cx) (tgs : List Expr) (b : List D → Rho → Option Rho) (is : List Nat) : Prop := ∃ g, PGs X tgs g ∧ GsOk X.K g b is
def gN (i : Nat) : D → Rho → Option Rho := fun d ρ => some (ρ.set i (some d))
def gsN : List D → Rho → Option Rho := fun ds ρ => match ds with
  | [] => some ρ
  | _ => none
def gsC (b : D → Rho → Option Rho) (c : List D → Rho → Option Rho) : List D → Rho → Option Rho := fun ds ρ => match ds with
  | [] => none
  | d :: ds => (b d ρ).bind (c ds)
def gT (b : List D → Rho → Option Rho) : D → Rho → Option Rho := fun d ρ => match d with
  | .tup ds => b ds ρ
  | _ => none
theorem gok_name {K : PySem.W.Frag} (i : Nat) : GOk K (gName i) (gN i) [i] := fun G J S H σ ρ ρ' d v Q st en r e k => by
  cases e
  exact k _ (en.set i r) (fun j hj => by rw [List.getElem?_set_ne (by simp at hj; omega)]) (by simp)
theorem gsok_nil {K : PySem.W.Frag} : GsOk K gNil gsN [] := fun G J S H σ ρ ρ' ds vs Q st en r e k => by
  unfold gsN at e
  split at e
  · cases e; cases r; exact ⟨rfl, k σ en (fun _ _ => rfl) rfl⟩
  · cases e
theorem gsok_cons {K : PySem.W.Frag} {t : TG} {u : TGs} {b : D → Rho → Option Rho} {c : List D → Rho → Option Rho} {is js : List Nat} (h1 : GOk K t b is) (h2 : GsOk K u c js) : GsOk K (gCons t u) (gsC b c) (is ++ js) := fun G J S H σ ρ ρ' ds vs Q st en r e k => by
  unfold gsC at e
  split at e
  · cases e
  · obtain ⟨ρ1, e1, e2⟩ := Option.bind_eq_some_iff.mp e
    cases r with
    | cons r1 r2 => exact ⟨_, _, rfl, h1 G J S H σ ρ ρ1 _ _ _ st en r1 e1 fun σ1 en1 s1 l1 => h2 G J S H σ1 ρ1 ρ' _ _ _ st en1 r2 e2 fun σ2 en2 s2 l2 => k σ2 en2 (fun j hj => by
        rw [List.mem_append, not_or] at hj
        rw [s2 j hj.2, s1 j hj.1]) (l2.trans l1)⟩
theorem gok_tup {K : PySem.W.Frag} {t : TGs} {b : List D → Rho → Option Rho} {is : List Nat} {n : Nat} (h : GsOk K t b is) (hn : ∀ ds ρ ρ', b ds ρ = some ρ' → ds.length = n) : GOk K (gTup K n t) (gT b) is := fun G J S H σ ρ ρ' d v Q st en r e k => by
  unfold gT at e
  split at e
  · cases r with
    | tup h1 h2 => exact ⟨_, _, rfl, sqT_sub st.sub h1, by rw [← h2.len]; exact hn _ _ _ e, h G J S H σ ρ ρ' _ _ _ st en h2 e k⟩
  · cases e
section
variable {X : Cx} {pos : Pos}
theorem mg_name (i : Nat) {x : Str} (hN : X.N.Nodup) (hi : X.N[i]? = some x := by rfl) (hx : Loc X.env.scope x := by first | exact Or.inl rfl | exact Or.inr rfl) (hf : X.fn x = true ∨ X.env.scope.names.lookup x = some .local := by first | exact .inl rfl | exact .inr rfl | assumption) : MG X (.Name x pos) (gN i) [i] :=
  ⟨_, pg_name hN hi hx hf, gok_name i⟩
theorem mgs_nil : MGs X [] gsN [] := ⟨_, pgs_nil, gsok_nil⟩
theorem mgs_cons {e : Expr} {es : List Expr} {b : D → Rho → Option Rho} {c : List D → Rho → Option Rho} {is js : List Nat} (h1 : MG X e b is) (h2 : MGs X es c js)
    (hs : (assignEach (e :: es) X.env).map (·.2) = assign e X.env :: (assignEach es X.env).map (·.2) := by rfl) : MGs X (e :: es) (gsC b c) (is ++ js) := by
  obtain ⟨g, p1, o1⟩ := h1
  obtain ⟨gs, p2, o2⟩ := h2
  exact ⟨_, pgs_cons p1 p2 hs, gsok_cons o1 o2⟩
theorem mg_tup {es : List Expr} {k : Nat} {b : List D → Rho → Option Rho} {is : List Nat} {n : Nat} (h : MGs X es b is) (hl : ∀ ds ρ ρ', b ds ρ = some ρ' → ds.length = n) (hc : X.calm = true := by rfl)
    (hn : (assignEach es X.env).length = n := by rfl) (hst : (assignEach es X.env).findIdx? (·.1) = none := by rfl) : MG X (.Tuple es k pos) (gT b) is := by
  obtain ⟨g, p1, o1⟩ := h
  exact ⟨_, pg_tup hc p1 hn hst, gok_tup o1 hl⟩
end
theorem gsl_nil : ∀ ds ρ ρ', gsN ds ρ = some ρ' → ds.length = 0 := fun ds ρ ρ' e => by
  unfold gsN at e
  split at e
  · rfl
  · cases e
theorem gsl_cons {b : D → Rho → Option Rho} {c : List D → Rho → Option Rho} {n : Nat} (h : ∀ ds ρ ρ', c ds ρ = some ρ' → ds.length = n) : ∀ ds ρ ρ', gsC b c ds ρ = some ρ' → ds.length = n + 1 := fun ds ρ ρ' e => by
  unfold gsC at e
  split at e
  · cases e
  · obtain ⟨ρ1, e1, e2⟩ := Option.bind_eq_some_iff.mp e
    simp [h _ _ _ e2]
/-! ### what is walked -/
/-- It gives the data ds, one after another, whatever else goes on -/
def RIt (K : PySem.W.Frag) (G : Hp) (J : List Addr) (ds : List D) (I : It) : Prop :=
  ∀ (i : Nat) (G' : Hp) (J' : List Addr) (S' : Store) (H' : Hp), StR K G' J' S' H' → Sub G G' → J <+: J' →
    (∀ d, ds[i]? = some d → I.go i H' ∧ ∀ x H2, I.yld i H' x H2 → ∃ G2, StR K G2 J' S' H2 ∧ Stp G' J' H' G2 J' H2 ∧ RD K G2 J' d x) ∧ (ds.length = i → I.stop i H')
def MI (X : Cx) (E : XK) (tg it : Expr) (f : AF) : Prop := PI X tg it (tG X.K (RIt X.K) E f)
theorem pi_mono {X : Cx} {tg it : Expr} {t t' : TI} (h : PI X tg it t) (w : ∀ σ H Q, t' σ H Q → t σ H Q) : PI X tg it t' :=
  ⟨fun pins s σ H Q I q => h.run pins s σ H Q I (w _ _ _ q)⟩
/-- of a datum that lists what it holds -/
def iL (f : EF) : AF := fun ρ S => (f ρ S).bind fun d S1 => match d with
  | .lst ds => .ok ds S1
  | .rol ds => .ok ds S1
  | _ => .no
def iT (f : EF) : AF := fun ρ S => (f ρ S).bind fun d S1 => match d with
  | .tup ds => .ok ds S1
  | _ => .no
def iS (f : EF) : AF := fun ρ S => (f ρ S).bind fun d S1 => match d with
  | .str x => .ok (x.cps.toList.map fun c => .str ⟨#[c]⟩) S1
  | _ => .no
theorem rit_list {K : PySem.W.Frag} {G : Hp} {J : List Addr} {ds : List D} {vs : List V} {a : Addr} (hq : SqL K G a vs) (u : ∀ {H : Hp}, Sub G H → ∀ ws, SqL K H a ws → ws = vs) (r : RDs K G J ds vs) : RIt K G J ds (Itl K a) := fun i G' J' S' H' st s p =>
  ⟨fun d e => by
    obtain ⟨v, e1, r1⟩ := (r.mono s p).get e
    exact ⟨⟨vs, v, sqL_sub (s.trans st.sub) hq, e1⟩, fun x H2 ⟨e2, k⟩ => by
      subst e2
      have := k vs (sqL_sub (s.trans st.sub) hq)
      rw [e1] at this; cases this
      exact ⟨G', st, Stp.refl, r1⟩⟩, fun h => ⟨vs, sqL_sub (s.trans st.sub) hq, by rw [← r.len]; exact Nat.le_of_eq h⟩⟩
theorem rit_list' {K : PySem.W.Frag} {G : Hp} {J : List Addr} {ds : List D} {vs : List V} {a : Addr} (hq : SqL K G a vs) (r : RDs K G J ds vs) : RIt K G J ds (Itl K a) := fun i G' J' S' H' st s p =>
  ⟨fun d e => by
    obtain ⟨v, e1, r1⟩ := (r.mono s p).get e
    exact ⟨⟨vs, v, sqL_sub (s.trans st.sub) hq, e1⟩, fun x H2 ⟨e2, k⟩ => by
      subst e2
      have := k vs (sqL_sub (s.trans st.sub) hq)
      rw [e1] at this; cases this
      exact ⟨G', st, Stp.refl, r1⟩⟩, fun h => ⟨vs, sqL_sub (s.trans st.sub) hq, by rw [← r.len]; exact Nat.le_of_eq h⟩⟩
theorem rit_tup {K : PySem.W.Frag} {G : Hp} {J : List Addr} {ds : List D} {vs : List V} {a : Addr} (hq : SqT K G a vs) (r : RDs K G J ds vs) : RIt K G J ds (Itt K a) := fun i G' J' S' H' st s p =>
  ⟨fun d e => by
    obtain ⟨v, e1, r1⟩ := (r.mono s p).get e
    exact ⟨⟨vs, v, sqT_sub (s.trans st.sub) hq, e1⟩, fun x H2 ⟨e2, k⟩ => by
      subst e2
      have := k vs (sqT_sub (s.trans st.sub) hq)
      rw [e1] at this; cases this
      exact ⟨G', st, Stp.refl, r1⟩⟩, fun h => ⟨vs, sqT_sub (s.trans st.sub) hq, by rw [← r.len]; exact Nat.le_of_eq h⟩⟩
theorem rit_str {K : PySem.W.Frag} {G : Hp} {J : List Addr} {x : Str} : RIt K G J (x.cps.toList.map fun c => .str ⟨#[c]⟩) (Its x) := fun i G' J' S' H' st s p =>
  ⟨fun d e => by
    rw [List.getElem?_map, Array.getElem?_toList] at e
    obtain ⟨c, e1, rfl⟩ := Option.map_eq_some_iff.mp e
    exact ⟨(Array.getElem?_eq_some_iff.mp e1).1, fun y H2 ⟨e2, c', e3, e4⟩ => by
      subst e2; subst e4
      rw [e1] at e3; cases e3
      exact ⟨G', st, Stp.refl, .str _⟩⟩, fun h => by show x.cps.size ≤ i; exact Nat.le_of_eq (by simpa using h)⟩
/-- lo, lo + 1, .. -/
theorem rit_rng {K : PySem.W.Frag} {G : Hp} {J : List Addr} {lo : Int} {n : Nat} : RIt K G J ((List.range n).map fun (i : Nat) => .int (lo + (i : Int))) (Itr lo n) := fun i G' J' S' H' st s p =>
  ⟨fun d e => by
    rw [List.getElem?_map] at e
    obtain ⟨c, e1, rfl⟩ := Option.map_eq_some_iff.mp e
    obtain ⟨hl, e5⟩ := List.getElem?_eq_some_iff.mp e1
    simp at hl e5
    exact ⟨hl, fun y H2 ⟨e2, e4⟩ => by subst e2; subst e4; subst e5; exact ⟨G', st, Stp.refl, .int _⟩⟩, fun h => by show n ≤ i; exact Nat.le_of_eq (by simpa using h)⟩
section
variable {X : Cx} {E : XK} {tg e : Expr} {f : EF} {fa : AF} {pos p : Pos}
theorem mi_list (he : ME X E e f) : MI X E tg e (iL f) :=
  pi_mono (pi_list he) fun σ H Q ⟨G, J, S, ρ, st, en, q⟩ => ⟨G, J, S, ρ, st, en, Post.bind q fun d S1 G1 J1 H1 x _ st1 s1 rd q1 => by
    cases rd with
    | lst h t => exact ⟨_, rfl, ⟨_, SqL.of (st1.sub _ _ h)⟩, Post.ok q1 st1 (rit_list' (SqL.of h) t)⟩
    | rol h t => exact ⟨_, rfl, ⟨_, sqL_sub st1.sub h⟩, Post.ok q1 st1 (rit_list' h t)⟩
    | _ => exact q1.elim⟩
theorem mi_tup (he : ME X E e f) : MI X E tg e (iT f) :=
  pi_mono (pi_tup he) fun σ H Q ⟨G, J, S, ρ, st, en, q⟩ => ⟨G, J, S, ρ, st, en, Post.bind q fun d S1 G1 J1 H1 x _ st1 s1 rd q1 => by
    cases rd with
    | tup h t => exact ⟨_, rfl, ⟨_, sqT_sub st1.sub h⟩, Post.ok q1 st1 (rit_tup h t)⟩
    | _ => exact q1.elim⟩
theorem mi_str (he : ME X E e f) : MI X E tg e (iS f) :=
  pi_mono (pi_str he) fun σ H Q ⟨G, J, S, ρ, st, en, q⟩ => ⟨G, J, S, ρ, st, en, Post.bind q fun d S1 G1 J1 H1 x _ st1 s1 rd q1 => by
    cases rd with
    | str x => exact ⟨_, rfl, Post.ok q1 st1 rit_str⟩
    | _ => exact q1.elim⟩
/-- range(n), range(a, b) -/
def iR1 (f : AF) : AF := fun ρ S => (f ρ S).bind fun ds S1 => match ds with
  | [.int j] => if j < 2 ^ 30 ∧ -(2 ^ 30) < j then .ok ((List.range j.toNat).map fun (i : Nat) => .int ((0 : Int) + (i : Int))) S1 else .no
  | _ => .no
def iR2 (f : AF) : AF := fun ρ S => (f ρ S).bind fun ds S1 => match ds with
  | [.int i, .int j] => if i < 2 ^ 30 ∧ -(2 ^ 30) < i ∧ j < 2 ^ 30 ∧ -(2 ^ 30) < j then .ok ((List.range (j - i).toNat).map fun (k : Nat) => .int (i + (k : Int))) S1 else .no
  | _ => .no
theorem mi_range1 {a : Expr} (hm : X.mg "range" = none) (ha : MA X E [a] fa) (hg : Gl X "range" := by rfl) (hs : starEach [a] X.env = [(false, eval a X.env)] := by rfl) : MI X E tg (.Call (.Name "range" p) [a] [] pos) (iR1 fa) :=
  pi_mono (pi_range1 hg hm ha hs) fun σ H Q ⟨G, J, S, ρ, st, en, q⟩ => ⟨G, J, S, ρ, st, en, Post.bind q fun ds S1 G1 J1 H1 x _ st1 s1 rd q1 => by
    split at q1
    · split at q1
      · rename_i hc
        obtain ⟨v, rfl, r⟩ := rd.one rfl
        cases r
        exact ⟨_, rfl, by omega, by omega, Post.ok q1 st1 rit_rng⟩
      · exact q1.elim
    · exact q1.elim⟩
theorem mi_range2 {a b : Expr} (hm : X.mg "range" = none) (ha : MA X E [a, b] fa) (hg : Gl X "range" := by rfl) (hs : starEach [a, b] X.env = [(false, eval a X.env), (false, eval b X.env)] := by rfl) (hs2 : starEach [b] X.env = [(false, eval b X.env)] := by rfl) : MI X E tg (.Call (.Name "range" p) [a, b] [] pos) (iR2 fa) :=
  pi_mono (pi_range2 hg hm ha hs hs2) fun σ H Q ⟨G, J, S, ρ, st, en, q⟩ => ⟨G, J, S, ρ, st, en, Post.bind q fun ds S1 G1 J1 H1 x _ st1 s1 rd q1 => by
    split at q1
    · split at q1
      · rename_i hc
        cases rd with
        | cons r1 r2 =>
        obtain ⟨v, rfl, r3⟩ := r2.one rfl
        cases r1; cases r3
        exact ⟨_, _, rfl, by omega, Post.ok q1 st1 rit_rng⟩
      · exact q1.elim
    · exact q1.elim⟩
end
/-! ### comprehensions -/
def wipeR (ρ : Rho) : List Nat → Rho
  | [] => ρ
  | v :: vs => (wipeR ρ vs).set v none
def lcGo (b : D → Rho → Option Rho) (ft : BF) (fe : EF) (ρ : Rho) : List D → Store → R (List D)
  | [], S => .ok [] S
  | d :: ds, S => match b d ρ with
    | none => .no
    | some ρ' => (ft ρ' S).bind fun k S1 => if k = true then (fe ρ' S1).bind fun y S2 => (lcGo b ft fe ρ ds S2).bind fun ys S3 => .ok (y :: ys) S3 else lcGo b ft fe ρ ds S1
def eLc (f : AF) (b : D → Rho → Option Rho) (ft : BF) (fe : EF) (vs : List Nat) : EF := fun ρ S => (f ρ S).bind fun ds S1 => match lcGo b ft fe (wipeR ρ vs) ds S1 with
  | .ok ys S2 => if ds.length ≤ 1000000 then .ok (.lst ys) S2 else .no
  | _ => .no
theorem wipe_at (σ : L2.St) : ∀ (vs : List Nat) (j : Nat), (wipe σ vs)[j]? = if j ∈ vs ∧ j < σ.length then some none else σ[j]?
  | [], j => by simp [wipe]
  | v :: vs, j => by
    unfold wipe
    by_cases h : v = j
    · subst h
      by_cases hl : v < σ.length
      · rw [List.getElem?_set_self (by rw [wipe_length]; exact hl), if_pos ⟨by simp, hl⟩]
      · rw [List.getElem?_eq_none (by rw [List.length_set, wipe_length]; omega), if_neg (by simp [hl]), List.getElem?_eq_none (by omega)]
    · rw [List.getElem?_set_ne h, wipe_at σ vs j]
      by_cases hj : j ∈ vs ∧ j < σ.length
      · rw [if_pos hj, if_pos ⟨List.mem_cons_of_mem _ hj.1, hj.2⟩]
      · rw [if_neg hj, if_neg fun q => hj ⟨by
          rcases List.mem_cons.mp q.1 with e | e
          · exact absurd e.symm h
          · exact e, q.2⟩]
theorem wipe_same {σ τ : L2.St} {vs : List Nat} (hl : τ.length = σ.length) (h : ∀ j, j ∉ vs → τ[j]? = (wipe σ vs)[j]?) : wipe τ vs = wipe σ vs := by
  apply List.ext_getElem?
  intro j
  rw [wipe_at, wipe_at]
  by_cases hj : j ∈ vs
  · by_cases hl' : j < σ.length
    · rw [if_pos ⟨hj, hl ▸ hl'⟩, if_pos ⟨hj, hl'⟩]
    · rw [if_neg (by rw [hl]; simp [hl']), if_neg (by simp [hl']), List.getElem?_eq_none (by omega), List.getElem?_eq_none (by omega)]
  · rw [if_neg (by simp [hj]), if_neg (by simp [hj]), h j hj, wipe_at, if_neg (by simp [hj])]
theorem envR_wipe {K : PySem.W.Frag} {G : Hp} {J : List Addr} {ρ : Rho} {σ : L2.St} (en : EnvR K G J ρ σ) : ∀ vs : List Nat, EnvR K G J (wipeR ρ vs) (wipe σ vs)
  | [] => en
  | v :: vs => by
    have ih := envR_wipe en vs
    unfold wipeR wipe
    refine ⟨by simp [ih.len], fun i d e => ?_⟩
    by_cases h : v = i
    · subst h
      by_cases hl : v < (wipeR ρ vs).length
      · rw [List.getElem?_set_self hl] at e; cases e
      · rw [List.getElem?_eq_none (by rw [List.length_set]; omega)] at e; cases e
    · rw [List.getElem?_set_ne h] at e ⊢
      exact ih.at_ i d e
section
variable {K : PySem.W.Frag} {G H : Hp} {J : List Addr} {S : Store}
/-- a thing that the store does not know changes -/
theorem StR.wr {p : Addr} {o : HO} (st : StR K G J S H) (hg : G p = none) (hj : p ∉ J) : StR K G J S (upd H p o) where
  sub a u e := by
    have q : a ≠ p := fun q => by subst q; rw [hg] at e; cases e
    rw [upd_ne q]; exact st.sub a u e
  len := st.len
  cell n c a h1 h2 := by
    have q : a ≠ p := fun q => by subst q; exact hj (List.mem_of_getElem? h2)
    exact RC.mono (Sub.refl _) (List.prefix_refl _) (upd_ne q) (st.cell n c a h1 h2)
  off n a h2 := by
    have q : a ≠ p := fun q => by subst q; exact hj (List.mem_of_getElem? h2)
    rw [upd_ne q]; exact st.off n a h2
  nd := st.nd
theorem Stp.wr {G1 H1 : Hp} {J1 : List Addr} {p : Addr} {o : HO} (s : Stp G J H G1 J1 H1) (h : H p = none) : Stp G J H G1 J1 (upd H1 p o) where
  g := s.g
  gn := s.gn
  j := s.j
  jn := s.jn
  fr a u e n := by
    have q : a ≠ p := fun q => by subst q; rw [h] at e; cases e
    rw [upd_ne q]; exact s.fr a u e n
  dm a e := by
    by_cases q : a = p
    · subst q; exact absurd h e
    · rw [upd_ne q]; exact s.dm a e
/-- it stays as it is from now on -/
theorem StR.keep {p : Addr} {o : HO} (st : StR K G J S H) (hg : G p = none) (hj : p ∉ J) (hp : H p = some o) : StR K (upd G p o) J S H where
  sub a u e := by
    by_cases q : a = p
    · subst q; rw [upd_same] at e; rw [← e]; exact hp
    · rw [upd_ne q] at e; exact st.sub a u e
  len := st.len
  cell n c a h1 h2 := RC.mono (sub_upd hg) (List.prefix_refl _) rfl (st.cell n c a h1 h2)
  off n a h2 := by
    have q : a ≠ p := fun q => by subst q; exact hj (List.mem_of_getElem? h2)
    rw [upd_ne q]; exact st.off n a h2
  nd := st.nd
theorem Stp.keep {G1 H1 : Hp} {J1 : List Addr} {p : Addr} {o : HO} (s : Stp G J H G1 J1 H1) (h : H p = none) (hg : G1 p = none) : Stp G J H (upd G1 p o) J1 H1 where
  g := s.g.trans (sub_upd hg)
  gn a e := by
    by_cases q : a = p
    · subst q; exact .inr h
    · rw [upd_ne q] at e; exact s.gn a e
  j := s.j
  jn := s.jn
  fr := s.fr
  dm := s.dm
end
section
variable {K : PySem.W.Frag} {E : XK} {fa : AF} {b : D → Rho → Option Rho} {is vs : List Nat} {ft : BF} {fe : EF} {g : TG}
theorem lc_of (hg : GOk K g b is) (hi : ∀ i ∈ is, i ∈ vs) : ∀ (σ : L2.St) (H : Hp) (Q : VK), tG K (RD K) E (eLc fa b ft fe vs) σ H Q → tLc (tG K (RIt K) E fa) g (tG K REq E0 ft) (tG K (RD K) E0 fe) vs σ H Q := fun σ H Q ⟨G, J, S, ρ, st, en, h⟩ =>
  ⟨G, J, S, ρ, st, en, Post.bind h fun ds S1 G1 J1 H1 I _ st1 s1 rit h1 => fun Dn hD => by
    split at h1
    · rename_i all S2 hall
      split at h1
      · rename_i hsz
        have en1 := envR_wipe (en.mono s1.g s1.j) vs
        refine ⟨fun i m H' => (m = ds.length - i ∧ i ≤ ds.length) ∧ ∃ G' J' S' acc accV rest, StR K G' J' S' H' ∧ Stp G1 J1 H1 G' J' H' ∧ G' Dn = none ∧ Dn ∉ J' ∧ H' Dn = some (.lst accV) ∧ RDs K G' J' acc accV ∧ acc.length ≤ i ∧ lcGo b ft fe (wipeR ρ vs) (ds.drop i) S' = .ok rest S2 ∧ all = acc ++ rest,
          ⟨_, ⟨rfl, Nat.zero_le _⟩, G1, J1, S1, [], [], all, st1.junk hD, Stp.junk hD, free_of_H st1 hD, notin_of_H st1 hD, upd_same, .nil, Nat.le_refl _, hall, rfl⟩, ?_⟩
        rintro i m H' ⟨⟨rfl, hle⟩, G', J', S', acc, accV, rest, st', s', g0, j0, hd, racc, hacc, hrest, hsum⟩
        obtain ⟨q1, q2⟩ := rit i G' J' S' H' st' s'.g s'.j
        by_cases hlt : i < ds.length
        · have hdi : ds[i]? = some ds[i] := List.getElem?_eq_getElem hlt
          obtain ⟨hgo, hy⟩ := q1 _ hdi
          refine .inr ⟨hgo, fun H'' => ∃ G' J' S' acc accV rest, StR K G' J' S' H'' ∧ Stp G1 J1 H1 G' J' H'' ∧ G' Dn = none ∧ Dn ∉ J' ∧ H'' Dn = some (.lst accV) ∧ RDs K G' J' acc accV ∧ acc.length ≤ i + 1 ∧ lcGo b ft fe (wipeR ρ vs) (ds.drop (i + 1)) S' = .ok rest S2 ∧ all = acc ++ rest,
            fun H'' h => ⟨ds.length - (i + 1), by omega, ⟨rfl, by omega⟩, h⟩, ?_⟩
          intro x H2 hyl
          obtain ⟨G2, st2, s2, rd⟩ := hy x H2 hyl
          have g2 : G2 Dn = none := by
            cases e : G2 Dn with
            | none => rfl
            | some o =>
              rcases s2.gn Dn (by rw [e]; simp) with h | h
              · exact absurd g0 h
              · rw [hd] at h; cases h
          have hd2 : H2 Dn = some (.lst accV) := s2.fr _ _ hd j0
          rw [List.drop_eq_getElem_cons hlt] at hrest
          unfold lcGo at hrest
          cases eb : b ds[i] (wipeR ρ vs) with
          | none => rw [eb] at hrest; cases hrest
          | some ρ' =>
          rw [eb] at hrest
          dsimp only at hrest
          have en2 : EnvR K G2 J' (wipeR ρ vs) (wipe σ vs) := (en1.mono s'.g s'.j).mono s2.g s2.j
          refine hg G2 J' S' H2 (wipe σ vs) (wipeR ρ vs) ρ' _ x _ st2 en2 rd eb fun σ2 en3 same ln => ⟨wipe_same (by rw [ln, wipe_length]) fun j hj => same j fun hji => hj (hi j hji), ?_⟩
          have off : ∀ {G3 J3 H3}, Stp G2 J' H2 G3 J3 H3 → G3 Dn = none ∧ Dn ∉ J3 ∧ H3 Dn = some (.lst accV) := fun {G3 J3 H3} s3 => by
            refine ⟨?_, fun hm => ?_, s3.fr _ _ hd2 j0⟩
            · cases e : G3 Dn with
              | none => rfl
              | some o =>
                rcases s3.gn Dn (by rw [e]; simp) with h | h
                · exact absurd g2 h
                · rw [hd2] at h; cases h
            · rcases s3.jn Dn hm with h | h
              · exact j0 h
              · rw [hd2] at h; cases h
          refine ⟨G2, J', S', ρ', st2, en3, ?_⟩
          cases e1 : ft ρ' S' with
          | no => rw [e1] at hrest; cases hrest
          | ex _ _ => rw [e1] at hrest; cases hrest
          | ok k S3 =>
          rw [e1] at hrest
          intro G3 J3 H3 k' st3 s3 ek
          cases ek
          have o3 := off s3
          cases k with
          | false =>
            exact ⟨G3, J3, S3, acc, accV, rest, st3, (s'.trans s2).trans s3, o3.1, o3.2.1, o3.2.2, (racc.mono s2.g s2.j).mono s3.g s3.j, by omega, hrest, hsum⟩
          | true =>
            refine ⟨G3, J3, S3, ρ', st3, en3.mono s3.g s3.j, ?_⟩
            cases e2 : fe ρ' S3 with
            | no => rw [show (R.ok true S3).bind _ = _ from rfl] at hrest; simp only [R.bind, e2] at hrest; cases hrest
            | ex _ _ => simp only [R.bind, e2] at hrest; cases hrest
            | ok y S4 =>
            intro G4 J4 H4 yv st4 s4 ry
            simp only [R.bind, e2, if_true] at hrest
            have o4 := off (s3.trans s4)
            cases e3 : lcGo b ft fe (wipeR ρ vs) (ds.drop (i + 1)) S4 with
            | no => rw [e3] at hrest; cases hrest
            | ex _ _ => rw [e3] at hrest; cases hrest
            | ok ys S5 =>
            rw [e3] at hrest
            cases hrest
            have racc4 := ((racc.mono s2.g s2.j).mono s3.g s3.j).mono s4.g s4.j
            refine ⟨accV, o4.2.2, ?_, G4, J4, S4, acc ++ [y], accV ++ [yv], ys, st4.wr o4.1 o4.2.1, (((s'.trans s2).trans s3).trans s4).wr hD, o4.1, o4.2.1, upd_same, racc4.app (.cons ry .nil), by simp; omega, e3, by simp [hsum]⟩
            have := racc.len
            have : (1000000 : Nat) < sizeLine := by decide
            omega
        · refine .inl ⟨q2 (by omega), ?_⟩
          rw [List.drop_eq_nil_of_le (by omega)] at hrest
          unfold lcGo at hrest
          cases hrest
          rw [List.append_nil] at hsum
          subst hsum
          exact h1 _ _ _ _ (st'.keep g0 j0 hd) (s'.keep hD g0) (.lst upd_same (racc.mono (sub_upd g0) (List.prefix_refl _)))
      · exact h1.elim
    · exact h1.elim⟩
end
end DL
end
section
set_option maxRecDepth 100000
set_option maxHeartbeats 4000000
set_option autoImplicit false
set_option linter.all false
namespace DL
open PySem L2 PySem.Spec PyProof.Rows
section
variable {X : Cx} {E : XK} {tg it elt : Expr} {ifs : List Expr} {fa : AF} {pos : Pos} {b : D → Rho → Option Rho} {is : List Nat} {ft : BF} {fe : EF} {g : TG}
def MTs (X : Cx) (E : XK) (ifs : List Expr) (f : BF) : Prop := PTs X ifs (tG X.K REq E f)
def bY : BF := fun _ S => .ok true S
theorem mts_nil : MTs X E [] bY := ⟨fun pins s σ H Q I ⟨G, J, S, ρ, st, en, q⟩ => pts_nil.run pins s σ H Q I (Post.ok (d := true) q st rfl)⟩
theorem mts_one {c : Expr} (h : MT X E c ft) : MTs X E [c] ft := pts_one h
def PGk (X : Cx) (tg : Expr) (g : TG) (b : D → Rho → Option Rho) (is : List Nat) : Prop := PG X tg g ∧ GOk X.K g b is
theorem me_lc {scope : Scope} {own : List (Str × Nat)} (hN : X.N.Nodup) (hi : MI X E tg it fa) (ok : BlkOk X.N X.env.scope scope own)
    (hg : ∀ (s : Shared) (H : Hp) (C : Addr) (cl : List (Str × Addr)) (fp : List Addr), PG (X.blk s H scope (compEnvC scope cl C X.env) fp) tg g) (hg2 : GOk X.K g b is) (hj : ∀ i ∈ is, i ∈ own.map (·.2))
    (ht : ∀ (s : Shared) (H : Hp) (C : Addr) (cl : List (Str × Addr)) (fp : List Addr), MTs (X.blk s H scope (compEnvC scope cl C X.env) fp) E0 ifs ft)
    (he : ∀ (s : Shared) (H : Hp) (C : Addr) (cl : List (Str × Addr)) (fp : List Addr), ME (X.blk s H scope (compEnvC scope cl C X.env) fp) E0 elt fe)
    (hc : X.calm = true := by rfl) (hs : ∀ x, foldedSetIterable it X.env x = pure x := by intro _; rfl) : ME X E (.ListComp elt [⟨tg, it, ifs, 0⟩] scope pos) (eLc fa b ft fe (own.map (·.2))) :=
  pe_mono (pe_lc (tt := tG X.K REq E0 ft) (te := tG X.K (RD X.K) E0 fe) hc hN hi ok hg ht he hs) (lc_of hg2 hj)
end
/-! ### statements -/
inductive Fl where
  | nx | bk | ct | rt (d : D)
inductive FV where
  | nx | bk | ct | rt (v : V)
abbrev SF := Rho → Store → R (Fl × Rho)
def RFl (K : PySem.W.Frag) (G : Hp) (J : List Addr) (a : Fl × Rho) (b : FV × L2.St) : Prop := EnvR K G J a.2 b.2 ∧ match a.1, b.1 with
  | .nx, .nx => True
  | .bk, .bk => True
  | .ct, .ct => True
  | .rt d, .rt v => RD K G J d v
  | _, _ => False
def endQ (D : Ends) (b : FV × L2.St) (H : Hp) : Prop := match b.1 with
  | .nx => D.nx b.2 H
  | .bk => D.bk b.2 H
  | .ct => D.ct b.2 H
  | .rt v => D.rt v H
def tS (K : PySem.W.Frag) (E : XK) (f : SF) : TS := fun D σ H => tG K (RFl K) E f σ H (endQ D)
def MS (X : Cx) (E : XK) (st : Stmt) (f : SF) : Prop := PS X st (tS X.K E f)
def MSs (X : Cx) (E : XK) (st : List Stmt) (f : SF) : Prop := PSs X st (tS X.K E f)
theorem ps_mono {X : Cx} {e : Stmt} {t t' : TS} (h : PS X e t) (w : ∀ D σ H, t' D σ H → t D σ H) : PS X e t' :=
  ⟨fun pins s σ H Q I q => h.run pins s σ H Q I (w _ _ _ q)⟩
theorem pss_mono {X : Cx} {e : List Stmt} {t t' : TS} (h : PSs X e t) (w : ∀ D σ H, t' D σ H → t D σ H) : PSs X e t' :=
  ⟨fun pins s σ H Q I q => h.run pins s σ H Q I (w _ _ _ q)⟩
def sNil : SF := fun ρ S => .ok (.nx, ρ) S
def sSeq (f g : SF) : SF := fun ρ S => (f ρ S).bind fun a S1 => match a.1 with
  | .nx => g a.2 S1
  | fl => .ok (fl, a.2) S1
def sEx (f : EF) : SF := fun ρ S => (f ρ S).bind fun _ S1 => .ok (.nx, ρ) S1
def sRet (f : EF) : SF := fun ρ S => (f ρ S).bind fun d S1 => .ok (.rt d, ρ) S1
def sRetN : SF := fun ρ S => .ok (.rt .non, ρ) S
def sBrk : SF := fun ρ S => .ok (.bk, ρ) S
def sCnt : SF := fun ρ S => .ok (.ct, ρ) S
def sIf (t : BF) (f g : SF) : SF := fun ρ S => (t ρ S).bind fun b S1 => if b = true then f ρ S1 else g ρ S1
def sAsg (f : EF) (b : D → Rho → Option Rho) : SF := fun ρ S => (f ρ S).bind fun d S1 => match b d ρ with
  | some ρ' => .ok (.nx, ρ') S1
  | none => .no
/-- a, b = x, y -/
def sPar (i j : Nat) (f : AF) : SF := fun ρ S => (f ρ S).bind fun ds S1 => match ds with
  | [d, e] => .ok (.nx, (ρ.set i (some d)).set j (some e)) S1
  | _ => .no
def forGo (b : D → Rho → Option Rho) (f : SF) : List D → Rho → Store → R (Fl × Rho)
  | [], ρ, S => .ok (.nx, ρ) S
  | d :: ds, ρ, S => match b d ρ with
    | none => .no
    | some ρ' => (f ρ' S).bind fun a S1 => match a.1 with
      | .nx => forGo b f ds a.2 S1
      | .ct => forGo b f ds a.2 S1
      | .bk => .ok (.nx, a.2) S1
      | .rt d => .ok (.rt d, a.2) S1
def sFor (fa : AF) (b : D → Rho → Option Rho) (f : SF) : SF := fun ρ S => (fa ρ S).bind fun ds S1 => forGo b f ds ρ S1
def whGo (t : BF) (f : SF) : Nat → Rho → Store → R (Fl × Rho)
  | 0, _, _ => .no
  | n + 1, ρ, S => (t ρ S).bind fun k S1 => if k = true then (f ρ S1).bind fun a S2 => match a.1 with
      | .nx => whGo t f n a.2 S2
      | .ct => whGo t f n a.2 S2
      | .bk => .ok (.nx, a.2) S2
      | .rt d => .ok (.rt d, a.2) S2
    else .ok (.nx, ρ) S1
def sWh (n : Rho → Store → Nat) (t : BF) (f : SF) : SF := fun ρ S => whGo t f (n ρ S) ρ S
section
variable {X : Cx} {E : XK} {st : Stmt} {sts : List Stmt} {f g : SF} {e : Expr} {fe : EF} {fa : AF} {fb : BF} {pos : Pos}
theorem mss_nil : MSs X E [] sNil := pss_mono pss_nil fun D σ H ⟨G, J, S, ρ, st, en, q⟩ => Post.ok (Rl := RFl X.K) (d := (Fl.nx, ρ)) (v := (FV.nx, σ)) q st ⟨en, trivial⟩
theorem mss_cons (h1 : MS X E st f) (h2 : MSs X E sts g) : MSs X E (st :: sts) (sSeq f g) :=
  pss_mono (pss_cons h1 h2) fun D σ H ⟨G, J, S, ρ, st, en, q⟩ => ⟨G, J, S, ρ, st, en, Post.bind q fun ⟨fl, ρ1⟩ S1 G1 J1 H1 ⟨fv, σ1⟩ _ st1 s1 ⟨en1, rf⟩ q1 => by
    cases fl <;> cases fv <;> first | exact rf.elim | skip
    · exact ⟨G1, J1, S1, ρ1, st1, en1, q1⟩
    · exact (show endQ D (FV.bk, σ1) _ from Post.ok (Rl := RFl X.K) (d := (Fl.bk, ρ1)) (v := (FV.bk, σ1)) q1 st1 ⟨en1, trivial⟩)
    · exact (show endQ D (FV.ct, σ1) _ from Post.ok (Rl := RFl X.K) (d := (Fl.ct, ρ1)) (v := (FV.ct, σ1)) q1 st1 ⟨en1, trivial⟩)
    · exact (show endQ D (FV.rt _, σ1) _ from Post.ok (Rl := RFl X.K) (d := (Fl.rt _, ρ1)) (v := (FV.rt _, σ1)) q1 st1 ⟨en1, rf⟩)⟩
theorem mss_one (h1 : MS X E st f) : MSs X E [st] f := pss_one h1
theorem ms_ex (h : ME X E e fe) (hs : swapsWith e none pos.line X.env = pure false := by rfl) : MS X E (.Expr e pos) (sEx fe) :=
  ps_mono (ps_expr h hs) fun D σ H ⟨G, J, S, ρ, st, en, q⟩ => ⟨G, J, S, ρ, st, en, Post.bind q fun d S1 G1 J1 H1 v _ st1 s1 rd q1 =>
    Post.ok (Rl := RFl X.K) (d := (Fl.nx, ρ)) (v := (FV.nx, σ)) q1 st1 ⟨en.mono s1.g s1.j, trivial⟩⟩
theorem ms_ret (h : ME X E e fe) : MS X E (.Return (some e) pos) (sRet fe) :=
  ps_mono (ps_ret h) fun D σ H ⟨G, J, S, ρ, st, en, q⟩ => ⟨G, J, S, ρ, st, en, Post.bind q fun d S1 G1 J1 H1 v _ st1 s1 rd q1 =>
    Post.ok (Rl := RFl X.K) (d := (Fl.rt d, ρ)) (v := (FV.rt v, σ)) q1 st1 ⟨en.mono s1.g s1.j, rd⟩⟩
theorem ms_retN : MS X E (.Return none pos) sRetN :=
  ps_mono ps_retN fun D σ H ⟨G, J, S, ρ, st, en, q⟩ => Post.ok (Rl := RFl X.K) (d := (Fl.rt .non, ρ)) (v := (FV.rt .non, σ)) q st ⟨en, .non⟩
theorem ms_pass : MS X E (.Pass pos) sNil :=
  ps_mono ps_pass fun D σ H ⟨G, J, S, ρ, st, en, q⟩ => Post.ok (Rl := RFl X.K) (d := (Fl.nx, ρ)) (v := (FV.nx, σ)) q st ⟨en, trivial⟩
theorem ms_brk : MS X E (.Break pos) sBrk :=
  ps_mono ps_break fun D σ H ⟨G, J, S, ρ, st, en, q⟩ => Post.ok (Rl := RFl X.K) (d := (Fl.bk, ρ)) (v := (FV.bk, σ)) q st ⟨en, trivial⟩
theorem ms_cnt : MS X E (.Continue pos) sCnt :=
  ps_mono ps_continue fun D σ H ⟨G, J, S, ρ, st, en, q⟩ => Post.ok (Rl := RFl X.K) (d := (Fl.ct, ρ)) (v := (FV.ct, σ)) q st ⟨en, trivial⟩
theorem ms_if {c : Expr} {a b : List Stmt} (hc : MT X E c fb) (ha : MSs X E a f) (hb : MSs X E b g) : MS X E (.If c a b pos) (sIf fb f g) :=
  ps_mono (ps_if hc ha hb) fun D σ H ⟨G, J, S, ρ, st, en, q⟩ => ⟨G, J, S, ρ, st, en, Post.bind q fun d S1 G1 J1 H1 v _ st1 s1 rd q1 => by
    cases rd
    cases d with
    | true => exact ⟨G1, J1, S1, ρ, st1, en.mono s1.g s1.j, q1⟩
    | false => exact ⟨G1, J1, S1, ρ, st1, en.mono s1.g s1.j, q1⟩⟩
theorem asg_of {b : D → Rho → Option Rho} {is : List Nat} {t : TG} (hg : GOk X.K t b is) : ∀ D σ H, tS X.K E (sAsg fe b) D σ H → tAsg (tG X.K (RD X.K) E fe) t D σ H := fun D σ H ⟨G, J, S, ρ, st, en, q⟩ =>
  ⟨G, J, S, ρ, st, en, Post.bind q fun d S1 G1 J1 H1 v _ st1 s1 rd q1 => by
    split at q1
    · rename_i ρ' eb
      exact hg G1 J1 S1 H1 σ ρ ρ' d v _ st1 (en.mono s1.g s1.j) rd eb fun σ' en' _ _ => Post.ok (Rl := RFl X.K) (d := (Fl.nx, ρ')) (v := (FV.nx, σ')) q1 st1 ⟨en', trivial⟩
    · exact q1.elim⟩
theorem ms_asg {tg : Expr} {b : D → Rho → Option Rho} {is : List Nat} (he : ME X E e fe) (hg : MG X tg b is) (hs : swapsWithSole [tg] e pos.line X.env = pure false := by rfl) (hw : swappedStores [tg] e X.env = pure none := by rfl)
    (h1 : (assignEach [tg] X.env).map (·.2) = [assign tg X.env] := by rfl) : MS X E (.Assign [tg] e pos) (sAsg fe b) := by
  obtain ⟨t, p1, o1⟩ := hg
  exact ps_mono (ps_asg he p1 hs hw h1) (asg_of o1)
theorem ms_set (i : Nat) {x : Str} {pos' : Pos} (hN : X.N.Nodup) (he : ME X E e fe) (hi : X.N[i]? = some x := by rfl) (hx : Loc X.env.scope x := by first | exact Or.inl rfl | exact Or.inr rfl) (hs : swapsWith e (some (.Name x pos')) pos.line X.env = pure false := by rfl)
    (hf : X.fn x = true ∨ X.env.scope.names.lookup x = some .local := by first | exact .inl rfl | exact .inr rfl | assumption) : MS X E (.Assign [.Name x pos'] e pos) (sAsg fe (gN i)) :=
  ps_mono (ps_set hN hi hx he hs hf) (asg_of (gok_name i))
theorem ms_par (i j : Nat) {x y : Str} {a b : Expr} {px py pt : Pos} {kt k2 pt2} (hN : X.N.Nodup) (ha : MA X E [a, b] fa) (hi : X.N[i]? = some x := by rfl) (hj : X.N[j]? = some y := by rfl) (hij : i ≠ j := by decide)
    (hx : X.env.scope.names.lookup x = some .local := by rfl) (hy : X.env.scope.names.lookup y = some .local := by rfl)
    (hw : swappedStores [.Tuple [.Name x px, .Name y py] kt pt] (.Tuple [a, b] k2 pt2) X.env = pure (some [x, y]) := by rfl) (hc : X.calm = true := by rfl)
    (hs : swapsWithSole [.Tuple [.Name x px, .Name y py] kt pt] (.Tuple [a, b] k2 pt2) pos.line X.env = pure false := by rfl) :
    MS X E (.Assign [.Tuple [.Name x px, .Name y py] kt pt] (.Tuple [a, b] k2 pt2) pos) (sPar i j fa) :=
  ps_mono (ps_par hc hN hi hj hij hx hy ha hw hs) fun D σ H ⟨G, J, S, ρ, st, en, q⟩ => ⟨G, J, S, ρ, st, en, Post.bind q fun d S1 G1 J1 H1 v _ st1 s1 rd q1 => by
    split at q1
    · rename_i d e
      cases rd with
      | cons r1 r2 =>
      obtain ⟨w, rfl, r3⟩ := r2.one rfl
      exact ⟨_, w, rfl, Post.ok (Rl := RFl X.K) (d := (Fl.nx, _)) (v := (FV.nx, _)) q1 st1 ⟨((en.mono s1.g s1.j).set i r1).set j r3, trivial⟩⟩
    · exact q1.elim⟩
/-- y = [.. for ..] -/
theorem ms_setLc (i : Nat) {y : Str} {py : Pos} {elt tg iter : Expr} {ifs : List Expr} {scope : Scope} {own : List (Str × Nat)} {pos spos : Pos} {b : D → Rho → Option Rho} {is : List Nat} {ft : BF} {t : TG} (hN : X.N.Nodup) (hi : MI X E tg iter fa) (ok : BlkOk X.N X.env.scope scope own)
    (hg : ∀ (s : Shared) (H : Hp) (C : Addr) (cl : List (Str × Addr)) (fp : List Addr), PG (X.blk s H scope (compEnvC scope cl C X.env) fp) tg t) (hg2 : GOk X.K t b is) (hj : ∀ i ∈ is, i ∈ own.map (·.2))
    (ht : ∀ (s : Shared) (H : Hp) (C : Addr) (cl : List (Str × Addr)) (fp : List Addr), MTs (X.blk s H scope (compEnvC scope cl C X.env) fp) E0 ifs ft)
    (he : ∀ (s : Shared) (H : Hp) (C : Addr) (cl : List (Str × Addr)) (fp : List Addr), ME (X.blk s H scope (compEnvC scope cl C X.env) fp) E0 elt fe)
    (hsw : swapsWith (.ListComp elt [⟨tg, iter, ifs, 0⟩] scope pos) (some (.Name y py)) spos.line X.env = pure true) (hy : X.N[i]? = some y := by rfl) (hyl : X.env.scope.names.lookup y = some .local := by rfl)
    (hc : X.calm = true := by rfl) (hs : ∀ x, foldedSetIterable iter X.env x = pure x := by intro _; rfl) : MS X E (.Assign [.Name y py] (.ListComp elt [⟨tg, iter, ifs, 0⟩] scope pos) spos) (sAsg (eLc fa b ft fe (own.map (·.2))) (gN i)) :=
  ps_mono (ps_setLc (tt := tG X.K REq E0 ft) (te := tG X.K (RD X.K) E0 fe) hc hN hy hyl hsw hi ok hg ht he hs) fun D σ H h => lc_of hg2 hj σ H _ (by
    obtain ⟨G, J, S, ρ, st, en, q⟩ := asg_of (gok_name i) D σ H h
    exact ⟨G, J, S, ρ, st, en, q⟩)
theorem ms_for {tg iter : Expr} {body : List Stmt} {b : D → Rho → Option Rho} {is : List Nat} (hp : PassesOwn (model X.prog X.w) X.A X.env X.xe) (hi : MI X E tg iter fa) (hg : MG X tg b is) (hb : MSs X E body f) (hc : X.calm = true := by rfl)
    (hs : ∀ x, foldedSetIterable iter X.env x = pure x := by intro _; rfl) : MS X E (.For tg iter body [] pos) (sFor fa b f) := by
  obtain ⟨t, p1, o1⟩ := hg
  refine ps_mono (ps_for hp hc hi p1 hb hs) fun D σ H ⟨G, J, S, ρ, st, en, q⟩ => ⟨G, J, S, ρ, st, en, Post.bind q fun ds S1 G1 J1 H1 I _ st1 s1 rit q1 => ?_⟩
  refine ⟨fun i m σ H => (m = ds.length - i ∧ i ≤ ds.length) ∧ ∃ G' J' S' ρ', StR X.K G' J' S' H ∧ Stp G1 J1 H1 G' J' H ∧ EnvR X.K G' J' ρ' σ ∧ Post X.K (RFl X.K) G' J' H (endQ D) E (forGo b f (ds.drop i) ρ' S'),
    ⟨_, ⟨rfl, Nat.zero_le _⟩, G1, J1, S1, ρ, st1, Stp.refl, en.mono s1.g s1.j, q1⟩, ?_⟩
  rintro i m σ' H' ⟨⟨rfl, hle⟩, G', J', S', ρ', st', s', en', q'⟩
  obtain ⟨k1, k2⟩ := rit i G' J' S' H' st' s'.g s'.j
  by_cases hlt : i < ds.length
  · obtain ⟨hgo, hy⟩ := k1 _ (List.getElem?_eq_getElem hlt)
    refine .inr ⟨hgo, fun σ H => ∃ G' J' S' ρ', StR X.K G' J' S' H ∧ Stp G1 J1 H1 G' J' H ∧ EnvR X.K G' J' ρ' σ ∧ Post X.K (RFl X.K) G' J' H (endQ D) E (forGo b f (ds.drop (i + 1)) ρ' S'), fun σ H h => ⟨ds.length - (i + 1), by omega, ⟨rfl, by omega⟩, h⟩, ?_⟩
    intro x H2 hyl
    obtain ⟨G2, st2, s2, rd⟩ := hy x H2 hyl
    rw [List.drop_eq_getElem_cons hlt] at q'
    unfold forGo at q'
    cases eb : b ds[i] ρ' with
    | none => rw [eb] at q'; exact q'.elim
    | some ρ2 =>
    rw [eb] at q'
    refine o1 G2 J' S' H2 σ' ρ' ρ2 _ x _ st2 (en'.mono s2.g s2.j) rd eb fun σ2 en2 _ _ => ?_
    refine ⟨G2, J', S', ρ2, st2, en2, Post.bind (Post.from s2 q') fun ⟨fl, ρ3⟩ S3 G3 J3 H3 ⟨fv, σ3⟩ _ st3 s3 ⟨en3, rf⟩ q3 => ?_⟩
    cases fl <;> cases fv <;> first | exact rf.elim | skip
    · exact ⟨G3, J3, S3, ρ3, st3, (s'.trans s2).trans s3, en3, q3⟩
    · exact (show endQ D (FV.nx, σ3) _ from Post.ok (Rl := RFl X.K) (d := (Fl.nx, ρ3)) (v := (FV.nx, σ3)) q3 st3 ⟨en3, trivial⟩)
    · exact ⟨G3, J3, S3, ρ3, st3, (s'.trans s2).trans s3, en3, q3⟩
    · exact (show endQ D (FV.rt _, σ3) _ from Post.ok (Rl := RFl X.K) (d := (Fl.rt _, ρ3)) (v := (FV.rt _, σ3)) q3 st3 ⟨en3, rf⟩)
  · refine .inl ⟨k2 (by omega), ?_⟩
    rw [List.drop_eq_nil_of_le (by omega)] at q'
    exact Post.ok (Rl := RFl X.K) (d := (Fl.nx, ρ')) (v := (FV.nx, σ')) q' st' ⟨en', trivial⟩
theorem ms_while {c : Expr} {body : List Stmt} (n : Rho → Store → Nat) (hp : PassesOwn (model X.prog X.w) X.A X.env X.xe) (ht : MT X E c fb) (hb : MSs X E body f) : MS X E (.While c body [] pos) (sWh n fb f) :=
  ps_mono (ps_while hp ht hb) fun D σ H ⟨G, J, S, ρ, st, en, q⟩ => ⟨fun m σ H => ∃ G J S ρ, StR X.K G J S H ∧ EnvR X.K G J ρ σ ∧ Post X.K (RFl X.K) G J H (endQ D) E (whGo fb f m ρ S), ⟨_, G, J, S, ρ, st, en, q⟩, by
    rintro m σ H ⟨G, J, S, ρ, st, en, q⟩
    cases m with
    | zero => exact q.elim
    | succ m =>
      unfold whGo at q
      refine ⟨G, J, S, ρ, st, en, Post.bind q fun k S1 G1 J1 H1 v _ st1 s1 rd q1 => ?_⟩
      cases rd
      have en1 := en.mono s1.g s1.j
      cases k with
      | false => exact Post.ok (Rl := RFl X.K) (d := (Fl.nx, ρ)) (v := (FV.nx, σ)) q1 st1 ⟨en1, trivial⟩
      | true =>
        refine ⟨fun σ H => ∃ G J S ρ, StR X.K G J S H ∧ EnvR X.K G J ρ σ ∧ Post X.K (RFl X.K) G J H (endQ D) E (whGo fb f m ρ S), fun σ H h => ⟨m, Nat.lt_succ_self _, h⟩, G1, J1, S1, ρ, st1, en1, Post.bind q1 fun ⟨fl, ρ3⟩ S3 G3 J3 H3 ⟨fv, σ3⟩ _ st3 s3 ⟨en3, rf⟩ q3 => ?_⟩
        cases fl <;> cases fv <;> first | exact rf.elim | skip
        · exact ⟨G3, J3, S3, ρ3, st3, en3, q3⟩
        · exact (show endQ D (FV.nx, σ3) _ from Post.ok (Rl := RFl X.K) (d := (Fl.nx, ρ3)) (v := (FV.nx, σ3)) q3 st3 ⟨en3, trivial⟩)
        · exact ⟨G3, J3, S3, ρ3, st3, en3, q3⟩
        · exact (show endQ D (FV.rt _, σ3) _ from Post.ok (Rl := RFl X.K) (d := (Fl.rt _, ρ3)) (v := (FV.rt _, σ3)) q3 st3 ⟨en3, rf⟩)⟩
end
end DL
end
section
set_option maxRecDepth 100000
set_option maxHeartbeats 4000000
set_option autoImplicit false
set_option linter.all false
namespace DL
open PySem L2 PySem.Spec PyProof.Rows
/-! ### what a def computes -/
abbrev FF := List D → Store → R D
structure FnM (P : Program) (w : World) (K : PySem.W.Frag) (mg : Str → Option Value) (base : Heap) (CX : CXT) (k : Nat) (f : Addr) (fd : FuncData) (ps : List Str) (F : FF) : Prop where
  run : ∀ (A : Around) (outer : List Env) (s : Shared) (H : Hp) (args : Args) (us : List Value) (vs : List V) (G : Hp) (J : List Addr) (S : Store) (ds : List D) (Q : VK) (E : XK), Room k A → A.guards = some [] → Env0 P w K mg base A outer s H →
    BindsTo s fd args (ps.zip us) → Vals vs us → vs.length = ps.length → StR K G J S H → RDs K G J ds vs → Post K (RD K) G J H Q E (F ds S) → codeAny (model P w) A (.call (.ref f) args) (CR CX outer P w H s Q E) s
theorem FnM.mono {P : Program} {w : World} {K : PySem.W.Frag} {mg : Str → Option Value} {base : Heap} {CX : CXT} {j k : Nat} {f : Addr} {fd : FuncData} {ps : List Str} {F : FF} (h : FnM P w K mg base CX j f fd ps F) (hl : j ≤ k) : FnM P w K mg base CX k f fd ps F :=
  ⟨fun A outer s H args us vs G J S ds Q E hr => h.run A outer s H args us vs G J S ds Q E (hr.mono hl)⟩
def fnF (n : Nat) (f : SF) : FF := fun ds S => match f (ds.map some ++ List.replicate (n - ds.length) none) S with
  | .ok (.nx, _) S' => .ok .non S'
  | .ok (.rt d, _) S' => .ok d S'
  | .ex e S' => .ex e S'
  | _ => .no
theorem envR_start {K : PySem.W.Frag} {G : Hp} {J : List Addr} {N : List Str} {ds : List D} {vs : List V} (r : RDs K G J ds vs) : EnvR K G J (ds.map some ++ List.replicate (N.length - ds.length) none) (L2.start N vs) := by
  unfold L2.start
  refine ⟨by simp [r.len], fun i d e => ?_⟩
  rw [List.getElem?_append] at e ⊢
  by_cases h : i < ds.length
  · rw [if_pos (by simpa using h), List.getElem?_map] at e
    obtain ⟨x, e1, e2⟩ := Option.map_eq_some_iff.mp e
    cases e2
    obtain ⟨v, h1, h2⟩ := r.get e1
    exact ⟨v, by rw [if_pos (by simpa [← r.len] using h), List.getElem?_map, h1]; rfl, h2⟩
  · rw [if_neg (by simpa using h), List.getElem?_replicate] at e
    split at e <;> cases e
section
variable {P : Program} {w : World} {K : PySem.W.Frag} {mg : Str → Option Value} {base : Heap}
/-- a body run at the entry -/
theorem body_ok {X : Cx} {E : XK} {body : List Stmt} {f : SF} {n : Nat} {Q : VK} {H : Hp} {ds : List D} {vs : List V} {G : Hp} {J : List Addr} {S : Store} (hn : X.N.length = n) (st : StR X.K G J S H) (r : RDs X.K G J ds vs) (q : Post X.K (RD X.K) G J H Q E (fnF n f ds S)) :
    tS X.K E f { nx := fun _ H' => Q .non H', rt := Q } (L2.start X.N vs) H := by
  refine ⟨G, J, S, _, st, envR_start r, ?_⟩
  rw [hn]
  unfold fnF at q
  split at q
  · rename_i e
    rw [e]
    intro G' J' H' b st' s' rr
    obtain ⟨fv, σ'⟩ := b
    cases fv with
    | nx => exact q G' J' H' .non st' s' .non
    | _ => exact rr.2.elim
  · rename_i e
    rw [e]
    intro G' J' H' b st' s' rr
    obtain ⟨fv, σ'⟩ := b
    cases fv with
    | rt v => exact q G' J' H' v st' s' rr.2
    | _ => exact rr.2.elim
  · rename_i e
    rw [e]
    exact q
  · exact q.elim
/-- THE RULE for a def -/
theorem fn_m {CX : CXT} {x qual : Str} {st : Stmt} {f : Addr} {fd : FuncData} {N ps : List Str} {k n : Nat} {F : SF} (U : Fun K x qual st f fd) (S : FnScope N ps (defScope st)) (hn : N.length = n)
    (hbody : ∀ (cdv : Value) (A : Around) (outer : List Env) (s : Shared) (H : Hp) (E : XK), Room k (A.deeper (envOfC qual (defScope st) s.heap.objs.size f cdv)) → A.guards = some [] →
      MSs (cxOf CX P w K mg base N qual (defScope st) f cdv A outer s H E) E (defBody st) F) : FnM P w K mg base CX (k + 1) f fd ps (fnF n F) := by
  obtain ⟨oc, od, kV, doc, pm, an, cdv, ct, osl, rfl, lk, hcd⟩ := U.ex
  refine ⟨fun A outer s H args us vs G J S0 ds Q E hr hgd e0 hb r hl st0 rd q => ?_⟩
  have inK : K.In s.heap := e0.mod.kin.keeps fun b o e => (e0.bs b o e).1
  have lim : s.heap.NoLimit := e0.mod.nolimit.keeps fun b o e => (e0.bs b o e).1
  have kinds : ∀ y ∈ ps.zip us, (defScope st).names.lookup y.1 = some .local ∨ ((defScope st).names.lookup y.1 = some .cell ∧ ((cellsFrom (s.heap.objs.size + 1) (defScope st).names []).lookup y.1).isSome = true) := fun ⟨m, v⟩ hy => by
    rcases S.par m (List.of_mem_zip hy).1 with z | z
    · exact .inl z
    · exact .inr ⟨z, PySem.W.cellsFrom_some _ _ _ (.inl z)⟩
  refine codeAny_call_function hr.depth (inK _ _ lk) rfl S.co S.gen rfl (PySem.W.codeRec_of inK hcd) (hb _ _ _ _ ?_)
  refine wpAny_newFunctionEnv_cells S.kind kinds fun env he s1 x1 => ?_
  subst he
  refine ⟨lim.keeps x1.toInCall.keep, codeAny_func ?_⟩
  have hB := hbody cdv A outer s H E (hr.deeper _) hgd
  have I : Inv (cxOf CX P w K mg base N qual (defScope st) f cdv A outer s H E) [] (L2.start N vs) H s1 := inv_start S hr.hd e0 hl r x1
  have hq := body_ok (X := cxOf CX P w K mg base N qual (defScope st) f cdv A outer s H E) (E := E) (body := defBody st) (f := F) (n := n) (Q := Q) hn st0 rd q
  refine wpAny_mono (hB.run [] s1 (L2.start N vs) H _ I hq) (fun fl s' hs => ?_) fun e s' hs => hs
  have fin : ∀ {σ' : L2.St} {H' : Hp} {v : V} {u : Value}, Inv (cxOf CX P w K mg base N qual (defScope st) f cdv A outer s H E) [] σ' H' s' → RelV v u → Q v H' → CE outer P w H s Q u s' :=
    fun {σ' H' v u} W rv z => ⟨v, H', W.os, W.bare, W.base, W.hok, rv, z⟩
  cases fl with
  | next => obtain ⟨σ', H', W, z⟩ := hs; exact fin (v := V.non) (u := Value.none) W rfl z
  | ret u => obtain ⟨v, σ', H', W, rv, z⟩ := hs; exact fin W rv z
  | brk => obtain ⟨_, _, _, z⟩ := hs; exact False.elim z
  | cont => obtain ⟨_, _, _, z⟩ := hs; exact False.elim z
def fnF0 (n : Nat) (f : SF) : FF := fun ds S => match fnF n f ds S with
  | .ok d S' => .ok d S'
  | _ => .no
theorem MSs.nox {X : Cx} {E : XK} {sts : List Stmt} {f : SF} (h : MSs X.nox E sts f) : MSs X E sts f := PSs.nox h
/-- a def that no exception leaves -/
theorem fn_m0 {x qual : Str} {st : Stmt} {f : Addr} {fd : FuncData} {N ps : List Str} {k n : Nat} {F : SF} (U : Fun K x qual st f fd) (S : FnScope N ps (defScope st)) (hn : N.length = n)
    (hbody : ∀ (cdv : Value) (A : Around) (outer : List Env) (s : Shared) (H : Hp) (E : XK), Room k (A.deeper (envOfC qual (defScope st) s.heap.objs.size f cdv)) → A.guards = some [] →
      MSs (cxOf CX0 P w K mg base N qual (defScope st) f cdv A outer s H E).nox E0 (defBody st) F) : FnM P w K mg base CX0 (k + 1) f fd ps (fnF0 n F) := by
  have base' : FnM P w K mg base CX0 (k + 1) f fd ps (fnF n fun ρ S => match F ρ S with
      | .ok a S' => .ok a S'
      | _ => .no) := fn_m U S hn fun cdv A outer s H E hr hgd => by
    refine MSs.nox (pss_mono (hbody cdv A outer s H E hr hgd) fun D σ H ⟨G, J, S, ρ, st, en, q⟩ => ⟨G, J, S, ρ, st, en, ?_⟩)
    dsimp only at q
    split at q
    · rename_i e; rw [e]; exact q
    · exact q.elim
  refine ⟨fun A outer s H args us vs G J S ds Q E hr hgd e0 hb r hl st rd q => base'.run A outer s H args us vs G J S ds Q E hr hgd e0 hb r hl st rd ?_⟩
  unfold fnF0 at q
  split at q
  · rename_i d S' e
    unfold fnF at e ⊢
    split at e
    · rename_i e1; dsimp only; rw [e1]; cases e; exact q
    · rename_i e1; dsimp only; rw [e1]; cases e; exact q
    · cases e
    · cases e
  · exact q.elim
end
/-! ### calls -/
section
variable {X : Cx} {CX : CXT} {k : Nat} {f C : Addr} {fd : FuncData} {ps : List Str} {F : FF} {E : XK} {x m : Str} {p pos apos : Pos} {e o : Expr} {es : List Expr} {fa : AF}
theorem run_m {pins : List (Addr × Obj)} {σ : L2.St} {H : Hp} {s : Shared} {Q : VK} {args : Args} {us : List Value} {vs : List V} {G : Hp} {J : List Addr} {S : Store} {ds : List D} (U : FnM X.prog X.w X.K X.mg X.base CX k f fd ps F) (hr : Room k X.A) (hgd : X.A.guards = some []) (hb : BindsTo s fd args (ps.zip us)) (hx : Passes CX X E)
    (I : Inv X pins σ H s) (r : Vals vs us) (hl : vs.length = ps.length) (st : StR X.K G J S H) (rd : RDs X.K G J ds vs) (q : Post X.K (RD X.K) G J H Q E (F ds S)) : wpAny (model X.prog X.w) X.A (call (.ref f) args.pos args.kw) (EP X pins σ Q) X.xe s := by
  refine wpAny_call (codeAny_mono (U.run X.A X.stack s H args us vs G J S ds Q E hr hgd I.env0 hb r hl st rd q) fun r s' hq => ?_)
  cases r with
  | error e => exact hx pins σ H s e s' I hq
  | ok fl =>
    cases fl with
    | ret u => exact I.after hq
    | next => exact False.elim hq
    | brk => exact False.elim hq
    | cont => exact False.elim hq
/-- f(e, ..) -/
def eCall (F : FF) (n : Nat) (fa : AF) : EF := fun ρ S => (fa ρ S).bind fun ds S1 => if ds.length = n then F ds S1 else .no
theorem me_call (U : FnM X.prog X.w X.K X.mg X.base CX k f fd ps F) (hr : Room k X.A) (hgd : X.A.guards = some []) (hm : X.mg x = some (.ref f)) (hk : PySem.W.keepIn X.K (.ref f) = true) (hb : Binds X.K fd ps []) (hx : Passes CX X E) (n : Nat) (hn : ps.length = n) (ha : MA X E (e :: es) fa) (hg : Gl X x := by rfl)
    (hdb : (x == ("__debug__" : Str)) = false := by decide) (he : starEach (e :: es) X.env = (false, eval e X.env) :: starEach es X.env := by rfl) (hpl : (backTo pos (starEach es X.env)).any (·.1) = false := by rfl) :
    ME X E (.Call (.Name x p) (e :: es) [] pos) (eCall F n fa) := by
  refine ⟨fun pins s σ H Q I ⟨G, J, S, ρ, st, en, q⟩ => ?_⟩
  refine wpAny_Call_Name_kw (ld_glob I hg hm ?_ hdb)
  have hargs : tG X.K (RDs X.K) E fa σ H fun vs H1 => ∃ G1 J1 S1 ds, StR X.K G1 J1 S1 H1 ∧ RDs X.K G1 J1 ds vs ∧ ds.length = n ∧ Post X.K (RD X.K) G1 J1 H1 Q E (F ds S1) :=
    ⟨G, J, S, ρ, st, en, Post.bind q fun ds S1 G1 J1 H1 vs _ st1 s1 rd q1 => by
      split at q1
      · rename_i hl
        exact ⟨G1, J1, S1, ds, st1, rd, hl, q1⟩
      · exact q1.elim⟩
  refine PySem.W.callWith_K (h₀ := X.base) I.ok.mod.kin hk (thn (ha.run pos pins s σ H _ I hargs) fun us s1 ⟨vs, H1, I1, r, G1, J1, S1, ds, st1, rd, hl, q1⟩ => ⟨I1.kIn, ?_⟩) he hpl
  have l1 : vs.length = ps.length := by rw [hn, ← hl, rd.len]
  have hbind := hb s1 us I1.kIn (by rw [List.append_nil, ← r.length]; exact l1)
  rw [List.append_nil] at hbind
  exact run_m U hr hgd hbind hx I1 r l1 st1 rd q1
/-- f(k = e, ..), the keywords in the parameters' order -/
def MK (X : Cx) (E : XK) (kws : List Keyword) (f : AF) : Prop := PK X kws (tG X.K (RDs X.K) E f)
theorem pk_mono {X : Cx} {e : List Keyword} {t t' : TA} (h : PK X e t) (w : ∀ σ H Q, t' σ H Q → t σ H Q) : PK X e t' :=
  ⟨fun p pins s σ H Q I q => h.run p pins s σ H Q I (w _ _ _ q)⟩
theorem mk_nil : MK X E [] aN := pk_mono pk_nil fun σ H Q ⟨G, J, S, ρ, st, en, h⟩ => Post.ok (d := []) h st .nil
theorem mk_cons {nm : Option Str} {kpos : Pos} {kws : List Keyword} {g : EF} (ha : ME X E e g) (hr : MK X E kws fa) : MK X E (⟨nm, e, kpos⟩ :: kws) (aC g fa) :=
  pk_mono (pk_cons ha hr) fun _ _ Q ⟨G, J, S, ρ, st, en, h⟩ => ⟨G, J, S, ρ, st, en, Post.bind h fun d S1 G1 J1 H1 x _ st1 s1 rd h1 =>
    ⟨G1, J1, S1, ρ, st1, en.mono s1.g s1.j, Post.bind h1 fun ds S2 G2 J2 H2 xs _ st2 s2 re h2 => Post.ok h2 st2 (.cons (rd.mono s2.g s2.j) re)⟩⟩
/-- how a call by keywords alone binds -/
def KwBinds (K : PySem.W.Frag) (fd : FuncData) (ps : List Str) : Prop := ∀ (s : Shared) (ws : List Value), K.In s.heap → ws.length = ps.length → BindsTo s fd ⟨[], ps.zip ws⟩ (ps.zip ws)
theorem me_callK {kws : List Keyword} (U : FnM X.prog X.w X.K X.mg X.base CX k f fd ps F) (hr : Room k X.A) (hgd : X.A.guards = some []) (hm : X.mg x = some (.ref f)) (hk : PySem.W.keepIn X.K (.ref f) = true) (hb : KwBinds X.K fd ps) (hx : Passes CX X E) (n : Nat) (hn : ps.length = n) (ha : MK X E kws fa) (hg : Gl X x := by rfl)
    (hall : (backToKw pos (keywordEach kws X.env)).all (·.1.isSome) = true := by rfl) (hks : (backToKw pos (keywordEach kws X.env)).filterMap (·.1) = ps := by rfl)
    (hpl : ((backTo pos (starEach [] X.env)).any (·.1) || (backToKw pos (keywordEach kws X.env)).any (·.1.isNone)) = false := by rfl)
    (hdb : (x == ("__debug__" : Str)) = false := by decide) : ME X E (.Call (.Name x p) [] kws pos) (eCall F n fa) := by
  refine ⟨fun pins s σ H Q I ⟨G, J, S, ρ, st, en, q⟩ => ?_⟩
  refine wpAny_Call_Name_kw (ld_glob I hg hm ?_ hdb)
  have hargs : tG X.K (RDs X.K) E fa σ H fun vs H1 => ∃ G1 J1 S1 ds, StR X.K G1 J1 S1 H1 ∧ RDs X.K G1 J1 ds vs ∧ ds.length = n ∧ Post X.K (RD X.K) G1 J1 H1 Q E (F ds S1) :=
    ⟨G, J, S, ρ, st, en, Post.bind q fun ds S1 G1 J1 H1 vs _ st1 s1 rd q1 => by
      split at q1
      · rename_i hl
        exact ⟨G1, J1, S1, ds, st1, rd, hl, q1⟩
      · exact q1.elim⟩
  refine PySem.W.callWith_KW0 (h₀ := X.base) I.ok.mod.kin hk hall (thn (ha.run pos pins s σ H _ I hargs) fun us s1 ⟨vs, H1, I1, r, G1, J1, S1, ds, st1, rd, hl, q1⟩ => ⟨I1.kIn, ?_⟩) hpl
  rw [hks]
  have l1 : vs.length = ps.length := by rw [hn, ← hl, rd.len]
  exact run_m (args := ⟨[], ps.zip us⟩) U hr hgd (hb s1 us I1.kIn (by rw [← r.length]; exact l1)) hx I1 r l1 st1 rd q1
/-- a def by its name, as the module's names have it -/
structure Knows (P : Program) (w : World) (K : PySem.W.Frag) (mg : Str → Option Value) (base : Heap) (CX : CXT) (k : Nat) (x : Str) (ps : List Str) (F : FF) : Prop where
  ex : ∃ f fd, mg x = some (.ref f) ∧ PySem.W.keepIn K (.ref f) = true ∧ Binds K fd ps [] ∧ KwBinds K fd ps ∧ FnM P w K mg base CX k f fd ps F
theorem Knows.mono {P : Program} {w : World} {K : PySem.W.Frag} {mg : Str → Option Value} {base : Heap} {CX : CXT} {j k : Nat} {x : Str} {ps : List Str} {F : FF} (U : Knows P w K mg base CX j x ps F) (h : j ≤ k) : Knows P w K mg base CX k x ps F := by
  obtain ⟨f, fd, h1, h2, h3, h4, h5⟩ := U.ex
  exact ⟨f, fd, h1, h2, h3, h4, h5.mono h⟩
theorem me_fn {j : Nat} (n : Nat) (U : Knows X.prog X.w X.K X.mg X.base CX j x ps F) (hr : Room k X.A) (hgd : X.A.guards = some []) (hx : Passes CX X E) (ha : MA X E (e :: es) fa) (hj : j ≤ k := by decide) (hn : ps.length = n := by rfl) (hg : Gl X x := by rfl)
    (hdb : (x == ("__debug__" : Str)) = false := by decide) (he : starEach (e :: es) X.env = (false, eval e X.env) :: starEach es X.env := by rfl) (hpl : (backTo pos (starEach es X.env)).any (·.1) = false := by rfl) :
    ME X E (.Call (.Name x p) (e :: es) [] pos) (eCall F n fa) := by
  obtain ⟨f, fd, h1, h2, h3, h4, h5⟩ := U.ex
  exact me_call h5 (hr.mono hj) hgd h1 h2 h3 hx n hn ha hg hdb he hpl
theorem me_fnK {j : Nat} {kws : List Keyword} (n : Nat) (U : Knows X.prog X.w X.K X.mg X.base CX j x ps F) (hr : Room k X.A) (hgd : X.A.guards = some []) (hx : Passes CX X E) (ha : MK X E kws fa) (hj : j ≤ k := by decide) (hn : ps.length = n := by rfl) (hg : Gl X x := by rfl)
    (hall : (backToKw pos (keywordEach kws X.env)).all (·.1.isSome) = true := by rfl) (hks : (backToKw pos (keywordEach kws X.env)).filterMap (·.1) = ps := by rfl)
    (hpl : ((backTo pos (starEach [] X.env)).any (·.1) || (backToKw pos (keywordEach kws X.env)).any (·.1.isNone)) = false := by rfl)
    (hdb : (x == ("__debug__" : Str)) = false := by decide) : ME X E (.Call (.Name x p) [] kws pos) (eCall F n fa) := by
  obtain ⟨f, fd, h1, h2, h3, h4, h5⟩ := U.ex
  exact me_callK h5 (hr.mono hj) hgd h1 h2 h4 hx n hn ha hg hall hks hpl hdb
end
end DL
end
section
set_option maxRecDepth 100000
set_option maxHeartbeats 4000000
set_option autoImplicit false
set_option linter.all false
namespace DL
open PySem L2 PySem.Spec PyProof.Rows
/-! ### zip of lists and tuples in any mix (true: a tuple) -/
def SqB (b : Bool) (K : PySem.W.Frag) (H : Hp) (a : Addr) (xs : List V) : Prop := match b with
  | true => SqT K H a xs
  | false => SqL K H a xs
def IB (b : Bool) (h : Heap) (it a : Addr) (i : Nat) : Prop := match b with
  | true => h.IsTupleIter it a i
  | false => h.IsListIter it a i
def OB (b : Bool) (h : Heap) (a : Addr) (items : Array Value) : Prop := match b with
  | true => h.IsTuple a items
  | false => h.IsList a items
def oB (b : Bool) (a : Addr) : Obj := match b with
  | true => { cls := .type "tuple_iterator", data := .fields #[.ref a, .int 0 0] }
  | false => { cls := .type "list_iterator", data := .fields #[.ref a, .int 0 0] }
theorem iB_obj {b : Bool} {h : Heap} {it a : Addr} {i : Nat} (x : IB b h it a i) : ∃ o vs, h.get? it = some o ∧ o.data = .fields vs := by
  cases b with
  | true => obtain ⟨o, h1, _, h2⟩ := x; exact ⟨o, _, h1, h2⟩
  | false => obtain ⟨o, h1, _, h2⟩ := x; exact ⟨o, _, h1, h2⟩
theorem oB_obj {b : Bool} {h : Heap} {a : Addr} {items : Array Value} (x : OB b h a items) : ∃ o xs n, h.get? a = some o ∧ o.data = .seq xs n := by
  cases b with
  | true => obtain ⟨o, h1, _, n, h2⟩ := x; exact ⟨o, _, n, h1, h2⟩
  | false => obtain ⟨o, h1, _, n, h2⟩ := x; exact ⟨o, _, n, h1, h2⟩
theorem ob_ne {b c : Bool} {h : Heap} {a it d : Addr} {items : Array Value} {i : Nat} (x : OB b h a items) (y : IB c h it d i) : a ≠ it := fun e => by
  obtain ⟨o, xs, n, h1, h2⟩ := oB_obj x
  obtain ⟨o', vs, h3, h4⟩ := iB_obj y
  subst e
  rw [h1] at h3; cases h3
  rw [h2] at h4; cases h4
theorem iB_at {b : Bool} {h h' : Heap} {it a : Addr} {i : Nat} (x : IB b h it a i) (k : ∀ o, h.get? it = some o → h'.get? it = some o) : IB b h' it a i := by
  cases b with
  | true => exact Heap.IsTupleIter.at x k
  | false => exact Heap.IsListIter.at x k
theorem draws_b {prog : Program} {w : World} {A : Around} (hh : A.handled = none) (b : Bool) (it a : Addr) (hne : a ≠ it) (items : Array Value) : Draws prog w A it [it, a] items.size (fun i v => items[i]? = some v) (fun i h => IB b h it a i ∧ OB b h a items) := by
  cases b with
  | true => exact Draws.tuple hh it a hne items
  | false => exact Draws.list hh it a hne items
theorem begins_b (b : Bool) (a : Addr) (items : Array Value) : Begins (.ref a) (oB b a) fun h => OB b h a items := by
  cases b with
  | true => exact begins_tuple a items
  | false => exact begins_list a items
theorem inv_b {X : Cx} {pins : List (Addr × Obj)} {σ : L2.St} {H : Hp} {s : Shared} {b : Bool} {a : Addr} {xs : List V} (I : Inv X pins σ H s) (h : SqB b X.K H a xs) : ∃ its : List Value, Vals xs its ∧ OB b s.heap a its.toArray ∧ a < s.heap.objs.size ∧ xs.length ≤ sizeLine := by
  cases b with
  | true =>
    obtain ⟨its, r, p, z⟩ := I.tuple h
    obtain ⟨o, ho, _⟩ := id p
    exact ⟨its, r, p, Heap.lt_size ho, z⟩
  | false =>
    obtain ⟨its, r, p, z⟩ := I.list h
    exact ⟨its, r, p.isList, p.lt, z⟩
theorem inj_b {X : Cx} {pins : List (Addr × Obj)} {σ : L2.St} {H : Hp} {s : Shared} {b : Bool} {a : Addr} {xs ys : List V} (I : Inv X pins σ H s) (h : SqB b X.K H a xs) (h' : SqB b X.K H a ys) : xs = ys := by
  cases b with
  | true => exact I.tuple_inj h h'
  | false => exact I.list_inj h h'
def ItzB (b c : Bool) (K : PySem.W.Frag) (p q : Addr) : It :=
  ⟨fun i H => ∃ (xs ys : List V) (x y : V), SqB b K H p xs ∧ SqB c K H q ys ∧ xs[i]? = some x ∧ ys[i]? = some y,
    fun i H v H' => ∃ T x y, v = .ref T ∧ H T = none ∧ H' = upd H T (.tup [x, y]) ∧ (∀ xs, SqB b K H p xs → xs[i]? = some x) ∧ ∀ ys, SqB c K H q ys → ys[i]? = some y,
    fun i H => ∃ xs ys : List V, SqB b K H p xs ∧ SqB c K H q ys ∧ ((xs.length ≤ i ∨ ys.length ≤ i) ∧ i ≤ xs.length ∧ i ≤ ys.length)⟩
theorem turn_zipB {P : Program} {w : World} {K : PySem.W.Frag} {elts : List Expr} {kk : Nat} {tpos : Pos} {b c : Bool} {p q z TI TO i1 i2 : Addr} (D : ZipSep2 z TI TO i1 i2 [i1, p] [i2, q]) :
    Turn P w K (.Tuple elts kk tpos) (ItzB b c K p q) [z, TI, TO, i1, i2] z (fun i h => IsZip h z TI TO .none ∧ IsTupOf2 h TI (.ref i1) (.ref i2) ∧ (∃ x y, IsTupOf2 h TO x y) ∧ IB b h i1 p i ∧ IB c h i2 q i) where
  mem := List.mem_cons_self
  obj := fun i h ⟨hz, hTI, ⟨x, y, hTO⟩, h1, h2⟩ d hd => by
    obtain ⟨o1, v1, e1, d1⟩ := iB_obj h1
    obtain ⟨o2, v2, e2, d2⟩ := iB_obj h2
    simp only [List.mem_cons, List.not_mem_nil, or_false] at hd
    rcases hd with rfl | rfl | rfl | rfl | rfl
    · exact ⟨_, hz, fun v q => nomatch q⟩
    · exact ⟨_, hTI, fun v q => nomatch q⟩
    · exact ⟨_, hTO, fun v q => nomatch q⟩
    · exact ⟨o1, e1, fun v q => by rw [d1] at q; cases q⟩
    · exact ⟨o2, e2, fun v q => by rw [d2] at q; cases q⟩
  keep := fun i h h' ⟨hz, hTI, ⟨x, y, hTO⟩, h1, h2⟩ k => ⟨k z (by simp) _ hz, k TI (by simp) _ hTI, ⟨x, y, k TO (by simp) _ hTO⟩, iB_at h1 fun o e => k i1 (by simp) o e, iB_at h2 fun o e => k i2 (by simp) o e⟩
  item := by
    intro X hP hw hK hc i pins s σ H E I hf ⟨hz, hTI, ⟨x0, y0, hTO⟩, h1, h2⟩ ⟨xs, ys, x, y, hqx, hqy, hx, hy⟩
    subst hP hw hK
    obtain ⟨its, rv, p1, l1, _⟩ := inv_b I hqx
    obtain ⟨its2, rv2, p2, l2, _⟩ := inv_b I hqy
    obtain ⟨u, hu, ru⟩ := rv.get hx
    obtain ⟨u2, hu2, ru2⟩ := rv2.get hy
    have hd : X.A.in1.handled = none := I.ok.hd hc
    have ne1 : p ≠ i1 := ob_ne p1 h1
    have ne2 : q ≠ i2 := ob_ne p2 h2
    have hzl : z < s.heap.objs.size := Heap.lt_size hz
    have b1 : i < its.toArray.size := by
      have := (List.getElem?_eq_some_iff.mp hu).1
      simpa using this
    have b2 : i < its2.toArray.size := by
      have := (List.getElem?_eq_some_iff.mp hu2).1
      simpa using this
    refine wpAny_pyNext_zipD2_item D (draws_b hd b i1 p ne1 its.toArray) (draws_b hd c i2 q ne2 its2.toArray) hz hTI hTO ⟨h1, p1⟩ ⟨h2, p2⟩ b1 b2 fun w1 w2 h' tk g1 g2 z' TO' s1 s2 hT hsz hk => ?_
    have : w1 = u := by
      have e : its.toArray[i]? = some u := by simpa using hu
      rw [e] at g1; cases g1; rfl
    subst this
    have : w2 = u2 := by
      have e : its2.toArray[i]? = some u2 := by simpa using hu2
      rw [e] at g2; cases g2; rfl
    subst this
    refine ⟨_, rfl, wpAny_letOwnedTupleGo_zip (s := { s with heap := h', toks := tk }) z' fun h'' z'' sb => ?_⟩
    have hT2 : h''.get? s.heap.objs.size = some { cls := .type "tuple", data := .seq #[w1, w2] } := (sb.2 _ (Nat.ne_of_gt hzl)).trans hT
    have new : ObjOk X.prog X.w (upd H s.heap.objs.size (.tup [x, y])) h'' s.heap.objs.size (.tup [x, y]) :=
      ⟨by show 2 ≤ sizeLine; decide, [w1, w2], .cons ru (.cons ru2 .nil), ⟨_, hT2, rfl, _, rfl⟩⟩
    have I1 : Inv X pins σ (upd H s.heap.objs.size (.tup [x, y])) { s with heap := h'', toks := tk } :=
      I.turnedNew (t' := tk) (ch := [z, TI, TO, i1, i2]) (fun d o hb e => (sb.2 d (fun e' => hb (by simp [e']))).trans (hk d o (fun e' => hb (by simp [e'])) (fun e' => hb (by simp [e'])) (fun e' => hb (by simp [e'])) (fun e' => hb (by simp [e'])) e)) hf (Nat.le_refl _) new
    refine ⟨.ref s.heap.objs.size, _, I1, rfl, ⟨_, x, y, rfl, I.hok.fresh (Nat.le_refl _), rfl, fun l hl => by rw [inj_b I hl hqx]; exact hx, fun l hl => by rw [inj_b I hl hqy]; exact hy⟩, ⟨z'', ?_, ⟨w1, w2, ?_⟩, ?_, ?_⟩, fun d hd => ?_⟩
    · exact (sb.2 _ D.TIz).trans (hk _ _ D.TIz D.TITO D.TIi1 D.TIi2 hTI)
    · exact (sb.2 _ D.TOz).trans TO'
    · exact iB_at s1.1 fun o e => (sb.2 _ (Ne.symm D.zi1)).trans e
    · exact iB_at s2.1 fun o e => (sb.2 _ (Ne.symm D.zi2)).trans e
    · have lt : d < s.heap.objs.size := by
        obtain ⟨o1, v1, e1, _⟩ := iB_obj h1
        obtain ⟨o2, v2, e2, _⟩ := iB_obj h2
        simp only [List.mem_cons, List.not_mem_nil, or_false] at hd
        rcases hd with rfl | rfl | rfl | rfl | rfl
        · exact hzl
        · exact Heap.lt_size hTI
        · exact Heap.lt_size hTO
        · exact Heap.lt_size e1
        · exact Heap.lt_size e2
      rw [upd_ne (Nat.ne_of_lt lt)]
      exact (hf d hd).1
  done := by
    intro X hP hw hK hc i pins s σ H E I hf ⟨hz, hTI, ⟨x0, y0, hTO⟩, h1, h2⟩ ⟨xs, ys, hqx, hqy, hend, le1, le2⟩
    subst hP hw hK
    obtain ⟨its, rv, p1, _, _⟩ := inv_b I hqx
    obtain ⟨its2, rv2, p2, _, _⟩ := inv_b I hqy
    have m1 := rv.length
    have m2 := rv2.length
    have hd : X.A.in1.handled = none := I.ok.hd hc
    have ne1 : p ≠ i1 := ob_ne p1 h1
    have ne2 : q ≠ i2 := ob_ne p2 h2
    exact wpAny_pyNext_zipD2_end D (draws_b hd b i1 p ne1 its.toArray) (draws_b hd c i2 q ne2 its2.toArray) hz hTI hTO ⟨h1, p1⟩ ⟨h2, p2⟩ (by simp; omega) (by simp; omega) (by simp; omega) fun h' tk hk =>
      ⟨rfl, I.turnedL (t' := tk) (ch := [z, TI, TO, i1, i2]) (fun d o hb e => hk d o (fun e' => hb (by simp [e'])) (fun e' => hb (by simp [e'])) (fun e' => hb (by simp [e'])) (fun e' => hb (by simp [e'])) e) hf⟩
  self := fun A i s Q E ⟨hz, _⟩ h => wpAny_pyIter_zip hz h
end DL
end
section
set_option maxRecDepth 100000
set_option maxHeartbeats 4000000
set_option autoImplicit false
set_option linter.all false
namespace DL
open PySem L2 PySem.Spec PyProof.Rows
/-! ### zip, enumerate: what they give -/
def zipD : List D → List D → List D
  | d :: ds, e :: es => .tup [d, e] :: zipD ds es
  | _, _ => []
theorem zipD_get : ∀ {ds es : List D} {i : Nat} {x : D}, (zipD ds es)[i]? = some x → ∃ d e, ds[i]? = some d ∧ es[i]? = some e ∧ x = .tup [d, e]
  | [], _, _, _, h => by simp [zipD] at h
  | _ :: _, [], _, _, h => by simp [zipD] at h
  | d :: ds, e :: es, 0, x, h => by
    simp [zipD] at h
    exact ⟨d, e, rfl, rfl, h.symm⟩
  | d :: ds, e :: es, i + 1, x, h => by
    obtain ⟨a, b, h1, h2, h3⟩ := zipD_get (ds := ds) (es := es) (i := i) (by simpa [zipD] using h)
    exact ⟨a, b, by simpa using h1, by simpa using h2, h3⟩
theorem zipD_len : ∀ (ds es : List D), (zipD ds es).length = min ds.length es.length
  | [], es => by simp [zipD]
  | _ :: _, [] => by simp [zipD]
  | d :: ds, e :: es => by
    have := zipD_len ds es
    simp only [zipD, List.length_cons, this]
    omega
def enD : Nat → List D → List D
  | _, [] => []
  | k, d :: ds => .tup [.int k, d] :: enD (k + 1) ds
theorem enD_get : ∀ {k : Nat} {ds : List D} {i : Nat} {x : D}, (enD k ds)[i]? = some x → ∃ d, ds[i]? = some d ∧ x = .tup [.int ((k + i : Nat) : Int), d]
  | _, [], _, _, h => by simp [enD] at h
  | k, d :: ds, 0, x, h => by
    simp [enD] at h
    exact ⟨d, rfl, h.symm⟩
  | k, d :: ds, i + 1, x, h => by
    obtain ⟨a, h1, h2⟩ := enD_get (k := k + 1) (ds := ds) (i := i) (by simpa [enD] using h)
    exact ⟨a, by simpa using h1, by rw [h2, show k + 1 + i = k + (i + 1) by omega]⟩
theorem enD_len : ∀ (k : Nat) (ds : List D), (enD k ds).length = ds.length
  | _, [] => rfl
  | k, d :: ds => by simp [enD, enD_len (k + 1) ds]
theorem sqB_sub {K : PySem.W.Frag} {G G' : Hp} (s : Sub G G') {b : Bool} {a : Addr} {vs : List V} (h : SqB b K G a vs) : SqB b K G' a vs := by
  cases b with
  | true => exact sqT_sub s h
  | false => exact sqL_sub s h
/-- what one side of a zip is: true, a tuple; false, a list that stays -/
def sdF (b : Bool) (d : D) : Option (List D) := match b, d with
  | true, .tup ds => some ds
  | false, .lst ds => some ds
  | false, .rol ds => some ds
  | _, _ => none
theorem sdF_of {K : PySem.W.Frag} {G : Hp} {J : List Addr} {b : Bool} {d : D} {v : V} {ds : List D} (r : RD K G J d v) (e : sdF b d = some ds) : ∃ a vs, v = .ref a ∧ SqB b K G a vs ∧ RDs K G J ds vs := by
  cases b with
  | true =>
    cases r with
    | tup h t => cases e; exact ⟨_, _, rfl, h, t⟩
    | _ => cases e
  | false =>
    cases r with
    | lst h t => cases e; exact ⟨_, _, rfl, SqL.of h, t⟩
    | rol h t => cases e; exact ⟨_, _, rfl, h, t⟩
    | _ => cases e
def iZp (b c : Bool) (f : AF) : AF := fun ρ S => (f ρ S).bind fun ds S1 => match ds with
  | [d, e] => match sdF b d, sdF c e with
    | some xs, some ys => .ok (zipD xs ys) S1
    | _, _ => .no
  | _ => .no
abbrev iZtt := iZp true true
abbrev iZtl := iZp true false
abbrev iZlt := iZp false true
abbrev iZll := iZp false false
def iEn (f : AF) : AF := fun ρ S => (f ρ S).bind fun ds S1 => match ds with
  | [.lst ds] => .ok (enD 0 ds) S1
  | _ => .no
def iZipB (b c : Bool) (K : PySem.W.Frag) (ta : TA) : TI := fun σ H R => ta σ H fun vs H1 => ∃ p q xs ys, vs = [.ref p, .ref q] ∧ SqB b K H1 p xs ∧ SqB c K H1 q ys ∧ R (ItzB b c K p q) H1
section
variable {X : Cx} {E : XK} {tg e1 e2 : Expr} {fa : AF} {pos p tpos : Pos} {elts : List Expr} {kk : Nat}
theorem pi_zipB (b c : Bool) {ta : TA} (hg : Gl X "zip") (hm : X.mg "zip" = none) (ha : PA X [e1, e2] ta) (hs : starEach [e1, e2] X.env = (false, eval e1 X.env) :: starEach [e2] X.env := by rfl) (hpl : (backTo pos (starEach [e2] X.env)).any (·.1) = false := by rfl) :
    PI X (.Tuple elts kk tpos) (.Call (.Name "zip" p) [e1, e2] [] pos) (iZipB b c X.K ta) := by
  refine ⟨fun pins s σ H R I h => ?_⟩
  refine Call_ (ld_blt I hg hm boot_zip (callWith_type1 (thn (ha.run pos pins s σ H _ I h) fun us s1 ⟨vs, H1, I1, r1, a, d, xs, ys, ex, hx, hy, q⟩ => ?_) hs hpl))
  subst ex
  obtain ⟨u1, u2, rfl, r, r'⟩ := Vals.two r1
  cases r
  cases r'
  obtain ⟨its, rv, p1, l1, _⟩ := inv_b I1 hx
  obtain ⟨its2, rv2, p2, l2, _⟩ := inv_b I1 hy
  refine zip_begins2 (begins_b b a its.toArray) (begins_b c d its2.toArray) p1 p2 fun h' hz hTI hTO h1 h2 hsz hk => wpAny_pyIter_zip hz ?_
  have sep := zip_sep2 (N := s1.heap.objs.size) (fp1 := [a]) (fp2 := [d]) (by simpa using l1) (by simpa using l2)
  refine ⟨s1.heap.objs.size + 4, [s1.heap.objs.size + 4, s1.heap.objs.size + 2, s1.heap.objs.size + 3, s1.heap.objs.size, s1.heap.objs.size + 1], _, _, H1, rfl, I1.kept (t' := s1.toks) hk, turn_zipB (b := b) (c := c) (p := a) (q := d) sep, ⟨hz, hTI, ⟨_, _, hTO⟩, ?_, ?_⟩, fun x hx => ?_, q⟩
  · cases b <;> exact ⟨_, h1, rfl, rfl⟩
  · cases c <;> exact ⟨_, h2, rfl, rfl⟩
  · have hle : s1.heap.objs.size ≤ x := by
      simp only [List.mem_cons, List.not_mem_nil, or_false] at hx
      rcases hx with h | h | h | h | h
      · rw [h]; exact Nat.le_add_right _ _
      · rw [h]; exact Nat.le_add_right _ _
      · rw [h]; exact Nat.le_add_right _ _
      · rw [h]; exact Nat.le_refl _
      · rw [h]; exact Nat.le_add_right _ _
    exact I1.fpOk hle (I1.hok.fresh hle)
theorem rit_zip {K : PySem.W.Frag} {G : Hp} {J : List Addr} {b c : Bool} {ds es : List D} {vs ws : List V} {p q : Addr} (h1 : SqB b K G p vs) (r1 : RDs K G J ds vs) (h2 : SqB c K G q ws) (r2 : RDs K G J es ws) : RIt K G J (zipD ds es) (ItzB b c K p q) := fun i G' J' S' H' st s pr =>
  ⟨fun x ex => by
    obtain ⟨d, e, e1, e2, rfl⟩ := zipD_get ex
    obtain ⟨v, k1, q1⟩ := (r1.mono s pr).get e1
    obtain ⟨w, k2, q2⟩ := (r2.mono s pr).get e2
    have a1 := sqB_sub (s.trans st.sub) h1
    have a2 := sqB_sub (s.trans st.sub) h2
    exact ⟨⟨vs, ws, v, w, a1, a2, k1, k2⟩, fun y H2 ⟨T, x', y', ey, hT, eH, f1, f2⟩ => by
      subst ey; subst eH
      have g1 := f1 vs a1
      rw [k1] at g1; cases g1
      have g2 := f2 ws a2
      rw [k2] at g2; cases g2
      exact ⟨_, st.froz hT, Stp.froz st hT, .tup (SqT.of upd_same) ((RDs.cons q1 (.cons q2 .nil)).mono (sub_upd (free_of_H st hT)) (List.prefix_refl _))⟩⟩,
   fun hle => by
    rw [zipD_len] at hle
    have l1 := r1.len
    have l2 := r2.len
    exact ⟨vs, ws, sqB_sub (s.trans st.sub) h1, sqB_sub (s.trans st.sub) h2, by omega⟩⟩
theorem mi_zipB (b c : Bool) (hm : X.mg "zip" = none) (ha : MA X E [e1, e2] fa) (hg : Gl X "zip" := by rfl) (hs : starEach [e1, e2] X.env = (false, eval e1 X.env) :: starEach [e2] X.env := by rfl) (hpl : (backTo pos (starEach [e2] X.env)).any (·.1) = false := by rfl) :
    MI X E (.Tuple elts kk tpos) (.Call (.Name "zip" p) [e1, e2] [] pos) (iZp b c fa) :=
  pi_mono (pi_zipB b c hg hm ha hs hpl) fun σ H Q ⟨G, J, S, ρ, st, en, q⟩ => ⟨G, J, S, ρ, st, en, Post.bind q fun ds S1 G1 J1 H1 vs _ st1 s1 rd q1 => by
    split at q1
    · split at q1
      · rename_i x1 x2
        cases rd with
        | cons r1 r2 =>
        obtain ⟨v, rfl, r3⟩ := r2.one rfl
        obtain ⟨a1, w1, rfl, k1, l1⟩ := sdF_of r1 x1
        obtain ⟨a2, w2, rfl, k2, l2⟩ := sdF_of r3 x2
        exact ⟨a1, a2, w1, w2, rfl, sqB_sub st1.sub k1, sqB_sub st1.sub k2, Post.ok q1 st1 (rit_zip k1 l1 k2 l2)⟩
      · exact q1.elim
    · exact q1.elim⟩
theorem rit_enum {K : PySem.W.Frag} {G : Hp} {J : List Addr} {ds : List D} {vs : List V} {a : Addr} (h1 : SqL K G a vs) (r1 : RDs K G J ds vs) : RIt K G J (enD 0 ds) (Ite K a) := fun i G' J' S' H' st s pr =>
  ⟨fun x ex => by
    obtain ⟨d, e1, rfl⟩ := enD_get ex
    obtain ⟨v, k1, q1⟩ := (r1.mono s pr).get e1
    have a1 := sqL_sub (s.trans st.sub) h1
    exact ⟨⟨vs, v, a1, k1⟩, fun y H2 ⟨T, x', ey, hT, eH, f1⟩ => by
      subst ey; subst eH
      have g1 := f1 vs a1
      rw [k1] at g1; cases g1
      rw [Nat.zero_add]
      exact ⟨_, st.froz hT, Stp.froz st hT, .tup (SqT.of upd_same) ((RDs.cons (RD.int _) (.cons q1 .nil)).mono (sub_upd (free_of_H st hT)) (List.prefix_refl _))⟩⟩,
   fun hle => by
    rw [enD_len] at hle
    exact ⟨vs, sqL_sub (s.trans st.sub) h1, by rw [← r1.len]; exact Nat.le_of_eq hle⟩⟩
theorem mi_enum {e : Expr} (hm : X.mg "enumerate" = none) (ha : MA X E [e] fa) (hg : Gl X "enumerate" := by rfl) (hs : starEach [e] X.env = [(false, eval e X.env)] := by rfl) : MI X E (.Tuple elts kk tpos) (.Call (.Name "enumerate" p) [e] [] pos) (iEn fa) :=
  pi_mono (pi_enum hg hm ha hs) fun σ H Q ⟨G, J, S, ρ, st, en, q⟩ => ⟨G, J, S, ρ, st, en, Post.bind q fun ds S1 G1 J1 H1 vs _ st1 s1 rd q1 => by
    split at q1
    · obtain ⟨v, rfl, r3⟩ := rd.one rfl
      cases r3 with
      | lst h t => exact ⟨_, _, rfl, SqL.of (st1.sub _ _ h), Post.ok q1 st1 (rit_enum (SqL.of h) t)⟩
    · exact q1.elim⟩
end
/-! ### stores, more lists of the store, a text's index -/
def setF (o i d : D) (S : Store) : R Unit := match o, i with
  | .hd n, .int k => match S[n]? with
    | some (.lst xs) => match ixN xs.length k with
      | some j => .ok () (S.set n (.lst (xs.set j d)))
      | none => .no
    | _ => .no
  | _, _ => .no
def sSub (f o i : EF) : SF := fun ρ S => (f ρ S).bind fun d S1 => (o ρ S1).bind fun od S2 => (i ρ S2).bind fun id S3 => (setF od id d S3).bind fun _ S4 => .ok (.nx, ρ) S4
def revNF (d : D) (S : Store) : R D := match d with
  | .tup _ => .no
  | d => match rlF S d with
    | some xs => .ok (.hd S.length) (S ++ [.lst xs.reverse])
    | none => .no
def lisNF (ds : List D) (S : Store) : R D := match ds with
  | [d] => match seqF S d with
    | some xs => .ok (.hd S.length) (S ++ [.lst xs])
    | none => .no
  | _ => .no
def sindexF (d : D) (ds : List D) (S : Store) : R D := match d, ds with
  | .str a, [.str b] => match Builtin.Str.occurrences a b 0 a.length 1 with
    | i :: _ => .ok (.int (i : Nat)) S
    | [] => .no
  | _, _ => .no
section
variable {X : Cx} {E : XK} {a b e : Expr} {f g o : EF} {pos p2 tpos : Pos}
theorem ms_sub (he : ME X E e f) (ho : ME X E a o) (hi : ME X E b g) (hs : swapsWithSole [.Subscript a b p2] e pos.line X.env = pure false := by rfl) (hw : swappedStores [.Subscript a b p2] e X.env = pure none := by rfl)
    (h1 : (assignEach [.Subscript a b p2] X.env).map (·.2) = [assign (.Subscript a b p2) X.env] := by rfl)
    (ha : ∀ v, assign (.Subscript a b p2) X.env v = (do
      let ov ← holding [v] (eval a X.env)
      let iv ← holding [v, ov] (eval b X.env)
      standAt p2
      holding [v, ov, iv] (setItem ov iv v)
      release [v, ov, iv] []) := by intro _; rfl) : MS X E (.Assign [.Subscript a b p2] e pos) (sSub f o g) :=
  ps_mono (ps_asg he (pg_sub ho hi set_list ha) hs hw h1) fun D σ H ⟨G, J, S, ρ, st, en, q⟩ => ⟨G, J, S, ρ, st, en, Post.bind q fun d S1 G1 J1 H1 v _ st1 s1 rd q1 =>
    ⟨G1, J1, S1, ρ, st1, en.mono s1.g s1.j, Post.bind q1 fun od S2 G2 J2 H2 ov _ st2 s2 ro q2 => ⟨G2, J2, S2, ρ, st2, (en.mono s1.g s1.j).mono s2.g s2.j, Post.bind q2 fun id S3 G3 J3 H3 iv _ st3 s3 ri q3 => by
      unfold setF at q3
      split at q3
      · split at q3
        · split at q3
          · rename_i xs ex _ j ej
            cases ri
            cases (ro.mono s3.g s3.j) with
            | hd hj =>
            obtain ⟨vs, k1, k2⟩ := st3.cell _ _ _ ex hj
            have r3 := ((rd.mono s2.g s2.j).mono s3.g s3.j)
            refine ⟨_, vs, _, j, rfl, rfl, k1, by rw [← k2.len]; exact ej, ?_⟩
            exact (show endQ D (FV.nx, σ) _ from q3 G3 J3 _ (FV.nx, σ) (st3.put hj ⟨_, upd_same, k2.set j r3⟩) (Stp.put hj) ⟨((en.mono s1.g s1.j).mono s2.g s2.j).mono s3.g s3.j, trivial⟩)
          · exact q3.elim
        · exact q3.elim
      · exact q3.elim⟩⟩⟩
theorem me_revN {j : Nat} {c q : Pos} (he : ME X E e f) : ME X E (.Subscript e (.Slice none none (some (.UnaryOp .USub (.Constant (.int 1) j c) q)) p2) pos) (e1 revNF f) :=
  pe_mono (pe_rev he) fun σ H Q ⟨G, J, S, ρ, st, en, h⟩ => ⟨G, J, S, ρ, st, en, Post.bind h fun d S1 G1 J1 H1 x _ st1 s1 rd h1 => by
    unfold revNF at h1
    split at h1
    · exact h1.elim
    · split at h1
      · rename_i xs ex
        obtain ⟨p, vs, rfl, hq, q1⟩ := rlF_of st1 rd ex
        exact .inl ⟨p, vs, rfl, hq, fun q hq => Post.new h1 st1 q1.rev hq⟩
      · exact h1.elim⟩
theorem opl_lisN : OpL X.K E (fun xs H Q => ∃ p ys, xs = [.ref p] ∧ (SqL X.K H p ys ∨ SqT X.K H p ys) ∧ ∀ l, H l = none → Q (.ref l) (upd H l (.lst ys))) lisNF := fun G J S H xs ds Q st r h => by
  unfold lisNF at h
  split at h
  · split at h
    · rename_i d ys ex
      obtain ⟨v, rfl, r1⟩ := r.one rfl
      obtain ⟨a, vs, rfl, q, q1⟩ := seqF_of st r1 ex
      exact ⟨_, _, rfl, q, fun p hp => Post.new h st q1 hp⟩
    · exact h.elim
  · exact h.elim
end
end DL
end
section
set_option maxRecDepth 100000
set_option maxHeartbeats 4000000
set_option autoImplicit false
set_option linter.all false
namespace DL
open PySem L2 PySem.Spec PyProof.Rows
/-! ### what the module's top holds -/
/-- a module's name that holds a datum -/
def Cst (K : PySem.W.Frag) (mg : Str → Option Value) (x : Str) (d : D) : Prop := ∃ u v, mg x = some u ∧ RelV v u ∧ ∀ (G : Hp) (J : List Addr), RD K G J d v
/-- a datum that the written part holds as the value u -/
def KD (K : PySem.W.Frag) (d : D) (u : Value) : Prop := ∃ v, RelV v u ∧ ∀ (G : Hp) (J : List Addr), RD K G J d v
theorem KD.int {K : PySem.W.Frag} {i : Int} {t : Tok} : KD K (.int i) (.int i t) := ⟨.int i, ⟨t, rfl⟩, fun _ _ => .int i⟩
theorem KD.str {K : PySem.W.Frag} {x : Str} {t : Tok} : KD K (.str x) (.str x t) := ⟨.str x, ⟨t, rfl⟩, fun _ _ => .str x⟩
inductive KDs (K : PySem.W.Frag) : List D → List Value → Prop
  | nil : KDs K [] []
  | cons {d : D} {u : Value} {ds : List D} {us : List Value} : KD K d u → KDs K ds us → KDs K (d :: ds) (u :: us)
theorem KDs.split {K : PySem.W.Frag} : ∀ {ds : List D} {us : List Value}, KDs K ds us → ∃ vs, Vals vs us ∧ ∀ (G : Hp) (J : List Addr), RDs K G J ds vs
  | _, _, .nil => ⟨[], .nil, fun _ _ => .nil⟩
  | _, _, .cons ⟨v, r, h⟩ t => by
    obtain ⟨vs, r2, h2⟩ := t.split
    exact ⟨v :: vs, .cons r r2, fun G J => .cons (h G J) (h2 G J)⟩
theorem KD.tup {K : PySem.W.Frag} {ds : List D} {us : List Value} {a : Addr} {o : Obj} {n : Nat} (hl : K.lookup a = some o) (hc : o.cls = .type "tuple") (hd : o.data = .seq us.toArray n) (h : KDs K ds us) (hz : us.length ≤ 1000) : KD K (.tup ds) (.ref a) := by
  obtain ⟨vs, r, q⟩ := h.split
  exact ⟨.ref a, rfl, fun G J => .tup (.inr ⟨o, _, n, hl, hc, hd, by rw [List.size_toArray]; exact Nat.le_trans hz (by decide), r⟩) (q G J)⟩
theorem cst_of {K : PySem.W.Frag} {mg : Str → Option Value} {x : Str} {d : D} {u : Value} (h : mg x = some u) (k : KD K d u) : Cst K mg x d := by
  obtain ⟨v, r, q⟩ := k
  exact ⟨u, v, h, r, q⟩
/-- the entries of a written dict with text keys -/
inductive RT (K : PySem.W.Frag) : List (Str × D) → List DictEntry → Prop
  | nil : RT K [] []
  | cons {z : Str} {d : D} {e : DictEntry} {t : List (Str × D)} {es : List DictEntry} {tk : Tok} : e.key = .str z tk → KD K d e.val → RT K t es → RT K ((z, d) :: t) (e :: es)
def Tab (K : PySem.W.Frag) (w : World) (mg : Str → Option Value) (x : Str) (t : List (Str × D)) : Prop := ∃ d es n, mg x = some (.ref d) ∧ KDict K w d es n ∧ RT K t es.toList
theorem isStrOf_ne {z y : Str} {tok : Tok} (h : z ≠ y) : Value.isStrOf z (.str y tok) = false := by
  have e := mixKind_str
  show (_ : Bool) = false
  unfold Value.isStrOf
  simp
  exact fun q => h (by first | exact q | exact q.symm)
theorem RT.find {K : PySem.W.Frag} (z : Str) : ∀ {t : List (Str × D)} {es : List DictEntry}, RT K t es → match es.find? fun e => Value.isStrOf z e.key with
    | none => t.lookup z = none
    | some e => ∃ d, t.lookup z = some d ∧ KD K d e.val
  | _, _, .nil => rfl
  | _, _, .cons (z := y) (d := d) (e := e) (t := t) (es := es) (tk := tok) hk hd h => by
    have ih := RT.find z h
    rw [List.find?_cons, List.lookup_cons, hk]
    cases q : (z == y) with
    | true =>
      have q2 : Value.isStrOf z (.str y tok) = true := by
        rw [eq_of_beq q]; exact keyIs_str y tok
      rw [q2]
      exact ⟨d, rfl, hd⟩
    | false =>
      have q2 : Value.isStrOf z (.str y tok) = false := by
        exact isStrOf_ne fun e => by rw [e] at q; simp at q
      rw [q2]
      exact ih
def getF (t : List (Str × D)) (d : D) (S : Store) : R D := match d with
  | .str z => .ok ((t.lookup z).getD .non) S
  | _ => .no
section
variable {X : Cx} {E : XK} {e : Expr} {f : EF} {x : Str} {d : D} {p apos cpos pos : Pos}
theorem Cst.me (c : Cst X.K X.mg x d) (hg : Gl X x := by rfl) (hd : (x == ("__debug__" : Str)) = false := by decide) : ME X E (.Name x pos) (eC d) := by
  obtain ⟨u, v, h1, h2, h3⟩ := c
  exact me_glob hg h1 h2 h3 hd
theorem me_get {t : List (Str × D)} (c : Tab X.K X.w X.mg x t) (he : ME X E e f) (hg : Gl X x := by rfl) (hdb : (x == ("__debug__" : Str)) = false := by decide)
    (hbase : attributeBase (.Name x p) "get" X.env (eval (.Name x p) X.env) = eval (.Name x p) X.env := by rfl)
    (hfew : ((backTo cpos (starEach [e] X.env)).all (fun x => !x.1) && (backToKw cpos (keywordEach [] X.env)).all (fun x => x.1.isSome)
      && decide (([e] : List Expr).length + ([] : List Keyword).length + (if ([] : List Keyword).isEmpty then 0 else 1) < 30)) = true := by rfl)
    (hline : (apos.endLine == cpos.line) = true := by rfl) (hs : starEach [e] X.env = (false, eval e X.env) :: starEach [] X.env := by rfl) : ME X E (.Call (.Attribute (.Name x p) "get" apos) [e] [] cpos) (e1 (getF t) f) := by
  obtain ⟨a, es, n, h1, KDi, rt⟩ := c
  refine ⟨fun pins s σ H Q I ⟨G, J, S, ρ, st, en, q⟩ => ?_⟩
  refine wpAny_Call_method_late hbase hfew hline rfl (ld_glob I hg h1 ?_ hdb)
  have inK := I.kIn
  refine ⟨"dict", "dict.get", PySem.F.plainAttrs_dict, PySem.F.slot_dict_get, PySem.F.type_dict_get, kd_type KDi I, fun b hb => ?_, ?_⟩
  · cases hb; exact ⟨_, inK _ _ KDi.at_, rfl⟩
  have hA := (ma_cons he ma_nil hs).run cpos pins s σ H (fun vs H1 => ∃ G1 J1 S1 d v, vs = [v] ∧ StR X.K G1 J1 S1 H1 ∧ RD X.K G1 J1 d v ∧ Post X.K (RD X.K) G1 J1 H1 Q E (getF t d S1)) I
    ⟨G, J, S, ρ, st, en, by
      unfold aC
      unfold e1 at q
      cases ef : f ρ S with
      | no => rw [ef] at q; exact q
      | ex y S' => rw [ef] at q; exact q
      | ok d S' =>
        rw [ef] at q
        intro G1 J1 H1 vs st1 s1 rd
        obtain ⟨v, rfl, r⟩ := rd.one rfl
        exact ⟨G1, J1, S', d, v, rfl, st1, r, Post.from s1 q⟩⟩
  rw [hs] at hA ⊢
  refine Calls.callWith_builtin rfl (Calls.evalArgs_plain ?_)
  refine thn hA fun us s2 ⟨vs, H2, I2, r2, G1, J1, S1, d, v, ev, st1, rd, q1⟩ => ?_
  subst ev
  obtain ⟨u, rfl, ru⟩ := Vals.one r2
  unfold getF at q1
  split at q1
  · rename_i z
    cases rd
    obtain ⟨tk, rfl⟩ := ru
    have mp := PySem.W.mapOf_K (prog := X.prog) (w := X.w) I2.kIn KDi.at_ KDi.lit
    refine call_meetsIn PySem.F.slot_dict_get (kd_type KDi I2) PySem.F.entry_dict_get (PySem.F.args_dict_get_2 _ _) (meets_dict_get (strKind X.prog X.w) a (strKind_is X.prog X.w _ tk) KDi.low) ⟨_, mp, ?_⟩
    have fnd := rt.find z
    show EP X pins σ Q ((findBy Value.isStrOf es z).getD .none) _
    have e1 : findBy Value.isStrOf es z = (es.toList.find? fun e => Value.isStrOf z e.key).map (·.val) := by
      unfold findBy
      rw [Array.find?_toList]
    rw [e1]
    cases ef : es.toList.find? fun e => Value.isStrOf z e.key with
    | none =>
      rw [ef] at fnd
      have fnd' : t.lookup z = none := fnd
      rw [fnd'] at q1
      exact ⟨.non, H2, I2.tok _, rfl, Post.ok (Rl := RD X.K) (d := D.non) q1 st1 .non⟩
    | some en =>
      rw [ef] at fnd
      obtain ⟨dd, k1, v, k2, k3⟩ := fnd
      rw [k1] at q1
      exact ⟨v, H2, I2.tok _, k2, Post.ok (Rl := RD X.K) (d := dd) q1 st1 (k3 G1 J1)⟩
  · exact q1.elim
end
end DL
end
section
set_option maxRecDepth 100000
set_option maxHeartbeats 4000000
set_option autoImplicit false
set_option linter.all false
namespace DL
open PySem L2 PySem.Spec PyProof.Rows
/-! ### a comprehension of two fors -/
/-- the new list at Dn holds acc -/
def LcI (K : PySem.W.Frag) (G1 : Hp) (J1 : List Addr) (H1 : Hp) (Dn : Addr) (acc : List D) (G : Hp) (J : List Addr) (S : Store) (H : Hp) : Prop :=
  StR K G J S H ∧ Stp G1 J1 H1 G J H ∧ G Dn = none ∧ Dn ∉ J ∧ ∃ accV, H Dn = some (.lst accV) ∧ RDs K G J acc accV
section
variable {K : PySem.W.Frag} {G1 H1 : Hp} {J1 : List Addr} {Dn : Addr} {acc : List D} {G H : Hp} {J : List Addr} {S : Store}
theorem LcI.step {G' H' : Hp} {J' : List Addr} {S' : Store} (l : LcI K G1 J1 H1 Dn acc G J S H) (st : StR K G' J' S' H') (s : Stp G J H G' J' H') : LcI K G1 J1 H1 Dn acc G' J' S' H' := by
  obtain ⟨_, s0, g0, j0, accV, hd, r⟩ := l
  refine ⟨st, s0.trans s, ?_, fun hm => ?_, accV, s.fr _ _ hd j0, r.mono s.g s.j⟩
  · cases e : G' Dn with
    | none => rfl
    | some o =>
      rcases s.gn Dn (by rw [e]; simp) with h | h
      · exact absurd g0 h
      · rw [hd] at h; cases h
  · rcases s.jn Dn hm with h | h
    · exact j0 h
    · rw [hd] at h; cases h
theorem LcI.app {y : D} {v : V} (l : LcI K G1 J1 H1 Dn acc G J S H) (hD : H1 Dn = none) (r : RD K G J y v) : ∃ accV, H Dn = some (.lst accV) ∧ accV.length = acc.length ∧ LcI K G1 J1 H1 Dn (acc ++ [y]) G J S (upd H Dn (.lst (accV ++ [v]))) := by
  obtain ⟨st, s0, g0, j0, accV, hd, ra⟩ := l
  exact ⟨accV, hd, ra.len.symm, st.wr g0 j0, s0.wr hD, g0, j0, _, upd_same, ra.app (.cons r .nil)⟩
theorem LcI.fin (l : LcI K G1 J1 H1 Dn acc G J S H) (hD : H1 Dn = none) : ∃ G', StR K G' J S H ∧ Stp G1 J1 H1 G' J H ∧ RD K G' J (.lst acc) (.ref Dn) := by
  obtain ⟨st, s0, g0, j0, accV, hd, ra⟩ := l
  exact ⟨_, st.keep g0 j0 hd, s0.keep hD g0, .lst upd_same (ra.mono (sub_upd g0) (List.prefix_refl _))⟩
def lcG (bd : D → Store → R (List D)) : List D → Store → R (List D)
  | [], S => .ok [] S
  | d :: ds, S => (bd d S).bind fun ys S1 => (lcG bd ds S1).bind fun zs S2 => .ok (ys ++ zs) S2
theorem lc_loop {bd : D → Store → R (List D)} {B : V → Hp → (Hp → Prop) → Prop} {Ga Ha : Hp} {Ja : List Addr} {Sa S2 : Store} {I : It} {ds ys acc0 : List D} {Nx : Hp → Prop} (l0 : LcI K G1 J1 H1 Dn acc0 Ga Ja Sa Ha) (rit : RIt K Ga Ja ds I)
    (body : ∀ (G : Hp) (J : List Addr) (S : Store) (H : Hp) (acc : List D) (d : D) (x : V) (ys : List D) (S' : Store) (N : Hp → Prop), LcI K G1 J1 H1 Dn acc G J S H → Sub Ga G → Ja <+: J → RD K G J d x → bd d S = .ok ys S' → (acc ++ ys).length ≤ 1000000 →
      (∀ G' J' H', LcI K G1 J1 H1 Dn (acc ++ ys) G' J' S' H' → Sub G G' → J <+: J' → N H') → B x H N)
    (h : lcG bd ds Sa = .ok ys S2) (hz : (acc0 ++ ys).length ≤ 1000000) (fin : ∀ G J H, LcI K G1 J1 H1 Dn (acc0 ++ ys) G J S2 H → Sub Ga G → Ja <+: J → Nx H) :
    ∃ W : Nat → Nat → Hp → Prop, (∃ m, W 0 m Ha) ∧ ∀ i m H, W i m H → (I.stop i H ∧ Nx H) ∨ (I.go i H ∧ ∃ N : Hp → Prop, (∀ H', N H' → ∃ m', m' < m ∧ W (i + 1) m' H') ∧ ∀ x H', I.yld i H x H' → B x H' N) := by
  refine ⟨fun i m H' => (m = ds.length - i ∧ i ≤ ds.length) ∧ ∃ G' J' S' acc rest, LcI K G1 J1 H1 Dn acc G' J' S' H' ∧ Sub Ga G' ∧ Ja <+: J' ∧ lcG bd (ds.drop i) S' = .ok rest S2 ∧ acc0 ++ ys = acc ++ rest,
    ⟨_, ⟨rfl, Nat.zero_le _⟩, Ga, Ja, Sa, acc0, ys, l0, Sub.refl _, List.prefix_refl _, h, rfl⟩, ?_⟩
  rintro i m H' ⟨⟨rfl, hle⟩, G', J', S', acc, rest, l, sg, sj, hrest, hsum⟩
  obtain ⟨q1, q2⟩ := rit i G' J' S' H' l.1 sg sj
  by_cases hlt : i < ds.length
  · obtain ⟨hgo, hy⟩ := q1 _ (List.getElem?_eq_getElem hlt)
    refine .inr ⟨hgo, fun H'' => ∃ G' J' S' acc rest, LcI K G1 J1 H1 Dn acc G' J' S' H'' ∧ Sub Ga G' ∧ Ja <+: J' ∧ lcG bd (ds.drop (i + 1)) S' = .ok rest S2 ∧ acc0 ++ ys = acc ++ rest,
      fun H'' h => ⟨ds.length - (i + 1), by omega, ⟨rfl, by omega⟩, h⟩, fun x H2 hyl => ?_⟩
    obtain ⟨G2, st2, s2, rd⟩ := hy x H2 hyl
    have l2 := l.step st2 s2
    rw [List.drop_eq_getElem_cons hlt] at hrest
    unfold lcG at hrest
    cases e1 : bd ds[i] S' with
    | no => rw [e1] at hrest; cases hrest
    | ex _ _ => rw [e1] at hrest; cases hrest
    | ok ys1 S3 =>
    rw [e1] at hrest
    simp only [R.bind] at hrest
    cases e2 : lcG bd (ds.drop (i + 1)) S3 with
    | no => rw [e2] at hrest; cases hrest
    | ex _ _ => rw [e2] at hrest; cases hrest
    | ok zs S4 =>
    rw [e2] at hrest
    cases hrest
    refine body G2 J' S' H2 acc _ x ys1 S3 _ l2 (sg.trans s2.g) (sj.trans s2.j) rd e1 (by
      have := hz
      rw [hsum] at this
      simp at this ⊢
      omega) fun G3 J3 H3 l3 sg3 sj3 => ⟨G3, J3, S3, acc ++ ys1, zs, l3, (sg.trans s2.g).trans sg3, (sj.trans s2.j).trans sj3, e2, by simp [hsum]⟩
  · refine .inl ⟨q2 (by omega), ?_⟩
    rw [List.drop_eq_nil_of_le (by omega)] at hrest
    unfold lcG at hrest
    cases hrest
    rw [List.append_nil] at hsum
    exact fin _ _ _ (hsum ▸ l) sg sj
variable {b b1 : D → Rho → Option Rho} {is is1 vs vs1 : List Nat} {ft ft1 : BF} {fe : EF} {g g1 : TG} {fa fa1 : AF}
/-- one turn of the inner loop -/
def bd1 (b1 : D → Rho → Option Rho) (ft1 : BF) (fe : EF) (ρ : Rho) (d : D) (S : Store) : R (List D) := match b1 d ρ with
  | none => .no
  | some ρ' => (ft1 ρ' S).bind fun k S1 => if k = true then (fe ρ' S1).bind fun y S2 => .ok [y] S2 else .ok [] S1
def bd2 (b : D → Rho → Option Rho) (ft : BF) (fa1 : AF) (b1 : D → Rho → Option Rho) (ft1 : BF) (fe : EF) (vs1 : List Nat) (ρ : Rho) (d : D) (S : Store) : R (List D) := match b d ρ with
  | none => .no
  | some ρ' => (ft ρ' S).bind fun k S1 => if k = true then (fa1 ρ' S1).bind fun ds S2 => lcG (bd1 b1 ft1 fe (wipeR ρ' vs1)) ds S2 else .ok [] S1
def eLc2 (fa : AF) (b : D → Rho → Option Rho) (ft : BF) (fa1 : AF) (b1 : D → Rho → Option Rho) (ft1 : BF) (fe : EF) (vs vs1 : List Nat) : EF := fun ρ S => (fa ρ S).bind fun ds S1 => match lcG (bd2 b ft fa1 b1 ft1 fe vs1 (wipeR ρ vs)) ds S1 with
  | .ok ys S2 => if ys.length ≤ 1000000 then .ok (.lst ys) S2 else .no
  | _ => .no
theorem lc_bd1 (hg1 : GOk K g1 b1 is1) (hi1 : ∀ i ∈ is1, i ∈ vs1) (hD : H1 Dn = none) {G H : Hp} {J : List Addr} {S S' : Store} {acc ys : List D} {d : D} {x : V} {N : Hp → Prop} {ρ : Rho} {σ : L2.St} (en : EnvR K G J (wipeR ρ vs1) (wipe σ vs1)) (l : LcI K G1 J1 H1 Dn acc G J S H) (r : RD K G J d x) (e : bd1 b1 ft1 fe (wipeR ρ vs1) d S = .ok ys S') (hz : (acc ++ ys).length ≤ 1000000)
    (fin : ∀ G' J' H', LcI K G1 J1 H1 Dn (acc ++ ys) G' J' S' H' → Sub G G' → J <+: J' → N H') :
    g1 x (wipe σ vs1) H fun σ3 H5 => wipe σ3 vs1 = wipe σ vs1 ∧ tG K REq E0 ft1 σ3 H5 fun b H6 => if b = true then tG K (RD K) E0 fe σ3 H6 fun y H7 => ∃ acc, H7 Dn = some (.lst acc) ∧ acc.length < sizeLine ∧ N (upd H7 Dn (.lst (acc ++ [y]))) else N H6 := by
  unfold bd1 at e
  split at e
  · cases e
  · rename_i ρ' eb
    refine hg1 G J S H _ _ ρ' d x _ l.1 en r eb fun σ2 en3 same ln => ⟨wipe_same (by rw [ln, wipe_length]) fun j hj => same j fun hji => hj (hi1 j hji), G, J, S, ρ', l.1, en3, ?_⟩
    cases e1 : ft1 ρ' S with
    | no => rw [e1] at e; cases e
    | ex _ _ => rw [e1] at e; cases e
    | ok k S3 =>
    rw [e1] at e
    intro G3 J3 H3 k' st3 s3 ek
    cases ek
    have l3 := l.step st3 s3
    cases k with
    | false =>
      simp only [R.bind] at e
      cases e
      exact fin _ _ _ (by rw [List.append_nil]; exact l3) s3.g s3.j
    | true =>
      simp only [R.bind, if_true] at e
      refine ⟨G3, J3, S3, ρ', st3, en3.mono s3.g s3.j, ?_⟩
      cases e2 : fe ρ' S3 with
      | no => rw [e2] at e; cases e
      | ex _ _ => rw [e2] at e; cases e
      | ok y S4 =>
      rw [e2] at e
      cases e
      intro G4 J4 H4 yv st4 s4 ry
      obtain ⟨accV, k1, k2, k3⟩ := (l3.step st4 s4).app hD ry
      refine ⟨accV, k1, ?_, fin _ _ _ k3 (s3.g.trans s4.g) (s3.j.trans s4.j)⟩
      have : (1000000 : Nat) < sizeLine := by decide
      simp at hz
      omega
theorem lc2_of {E : XK} (hg : GOk K g b is) (hi : ∀ i ∈ is, i ∈ vs) (hg1 : GOk K g1 b1 is1) (hi1 : ∀ i ∈ is1, i ∈ vs1) : ∀ (σ : L2.St) (H : Hp) (Q : VK), tG K (RD K) E (eLc2 fa b ft fa1 b1 ft1 fe vs vs1) σ H Q →
    tLc2 (tG K (RIt K) E fa) g (tG K REq E0 ft) (tG K (RIt K) E0 fa1) g1 (tG K REq E0 ft1) (tG K (RD K) E0 fe) vs vs1 σ H Q := fun σ H Q ⟨G, J, S, ρ, st, en, h⟩ =>
  ⟨G, J, S, ρ, st, en, Post.bind h fun ds S1 G1 J1 H1 I _ st1 s1 rit h1 => fun Dn hD => by
    split at h1
    · rename_i all S2 hall
      split at h1
      · rename_i hsz
        have en1 := envR_wipe (en.mono s1.g s1.j) vs
        have l0 : LcI K G1 J1 H1 Dn [] G1 J1 S1 (upd H1 Dn (.lst [])) := ⟨st1.junk hD, Stp.junk hD, free_of_H st1 hD, notin_of_H st1 hD, [], upd_same, .nil⟩
        refine lc_loop (B := fun x H' N => g x (wipe σ vs) H' fun σ2 H2 => wipe σ2 vs = wipe σ vs ∧ tG K REq E0 ft σ2 H2 fun b H3 => if b = true then tG K (RIt K) E0 fa1 σ2 H3 fun J1 H4 => ∃ W1 : Nat → Nat → Hp → Prop, (∃ m, W1 0 m H4) ∧ ∀ j k H, W1 j k H →
          (J1.stop j H ∧ N H) ∨ (J1.go j H ∧ ∃ Nx1 : Hp → Prop, (∀ H', Nx1 H' → ∃ k', k' < k ∧ W1 (j + 1) k' H') ∧ ∀ x H', J1.yld j H x H' → g1 x (wipe σ2 vs1) H' fun σ3 H5 => wipe σ3 vs1 = wipe σ2 vs1 ∧ tG K REq E0 ft1 σ3 H5 fun b H6 =>
            if b = true then tG K (RD K) E0 fe σ3 H6 fun y H7 => ∃ acc, H7 Dn = some (.lst acc) ∧ acc.length < sizeLine ∧ Nx1 (upd H7 Dn (.lst (acc ++ [y]))) else Nx1 H6) else N H3) l0 rit ?_ hall (by simpa using hsz) ?_
        · intro G J S H acc d x ys S' N l sg sj r e hz fin
          unfold bd2 at e
          split at e
          · cases e
          · rename_i ρ' eb
            refine hg G J S H _ _ ρ' d x _ l.1 (en1.mono sg sj) r eb fun σ2 en3 same ln => ⟨wipe_same (by rw [ln, wipe_length]) fun j hj => same j fun hji => hj (hi j hji), G, J, S, ρ', l.1, en3, ?_⟩
            cases e1 : ft ρ' S with
            | no => rw [e1] at e; cases e
            | ex _ _ => rw [e1] at e; cases e
            | ok k S3 =>
            rw [e1] at e
            intro G3 J3 H3 k' st3 s3 ek
            cases ek
            have l3 := l.step st3 s3
            cases k with
            | false =>
              simp only [R.bind] at e
              cases e
              exact fin _ _ _ (by rw [List.append_nil]; exact l3) s3.g s3.j
            | true =>
              simp only [R.bind, if_true] at e
              refine ⟨G3, J3, S3, ρ', st3, en3.mono s3.g s3.j, ?_⟩
              cases e2 : fa1 ρ' S3 with
              | no => rw [e2] at e; cases e
              | ex _ _ => rw [e2] at e; cases e
              | ok ds1 S4 =>
              rw [e2] at e
              intro G4 J4 H4 I1 st4 s4 rit1
              have l4 := l3.step st4 s4
              have en4 := (en3.mono s3.g s3.j).mono s4.g s4.j
              exact lc_loop l4 rit1 (fun G J S H acc d x ys S' N l sg sj r e hz fin => lc_bd1 hg1 hi1 hD ((envR_wipe en4 vs1).mono sg sj) l r e hz fin) e hz fun G J H l sg sj => fin _ _ _ l ((s3.g.trans s4.g).trans sg) ((s3.j.trans s4.j).trans sj)
        · intro G J H l _ _
          obtain ⟨G', k1, k2, k3⟩ := l.fin hD
          exact h1 _ _ _ _ k1 k2 (by simpa using k3)
      · exact h1.elim
    · exact h1.elim⟩
end
section
variable {X : Cx} {E : XK} {tg it tg1 it1 elt : Expr} {ifs ifs1 : List Expr} {fa fa1 : AF} {pos : Pos} {b b1 : D → Rho → Option Rho} {is is1 : List Nat} {ft ft1 : BF} {fe : EF} {g g1 : TG}
theorem me_lc2 {scope : Scope} {own : List (Str × Nat)} {vs1 : List Nat} (hN : X.N.Nodup) (hi : MI X E tg it fa) (ok : BlkOk X.N X.env.scope scope own) (hv : ∀ i ∈ vs1, i ∈ own.map (·.2))
    (hg : ∀ (s : Shared) (H : Hp) (C : Addr) (cl : List (Str × Addr)) (fp : List Addr), PG (X.blk s H scope (compEnvC scope cl C X.env) fp) tg g) (hg2 : GOk X.K g b is) (hj : ∀ i ∈ is, i ∈ own.map (·.2))
    (ht : ∀ (s : Shared) (H : Hp) (C : Addr) (cl : List (Str × Addr)) (fp : List Addr), MTs (X.blk s H scope (compEnvC scope cl C X.env) fp) E0 ifs ft)
    (hi1 : ∀ (s : Shared) (H : Hp) (C : Addr) (cl : List (Str × Addr)) (fp : List Addr), MI (X.blk s H scope (compEnvC scope cl C X.env) fp) E0 tg1 it1 fa1)
    (hg1 : ∀ (s : Shared) (H : Hp) (C : Addr) (cl : List (Str × Addr)) (fp : List Addr), PG (X.blk s H scope (compEnvC scope cl C X.env) fp) tg1 g1) (hg12 : GOk X.K g1 b1 is1) (hj1 : ∀ i ∈ is1, i ∈ vs1)
    (ht1 : ∀ (s : Shared) (H : Hp) (C : Addr) (cl : List (Str × Addr)) (fp : List Addr), MTs (X.blk s H scope (compEnvC scope cl C X.env) fp) E0 ifs1 ft1)
    (he : ∀ (s : Shared) (H : Hp) (C : Addr) (cl : List (Str × Addr)) (fp : List Addr), ME (X.blk s H scope (compEnvC scope cl C X.env) fp) E0 elt fe)
    (hc : X.calm = true := by rfl) (hs : ∀ x, foldedSetIterable it X.env x = pure x := by intro _; rfl) (hs1 : ∀ env x, foldedSetIterable it1 env x = pure x := by intro _ _; rfl) :
    ME X E (.ListComp elt [⟨tg, it, ifs, 0⟩, ⟨tg1, it1, ifs1, 0⟩] scope pos) (eLc2 fa b ft fa1 b1 ft1 fe (own.map (·.2)) vs1) :=
  pe_mono (pe_lc2 (wi1 := tG X.K (RIt X.K) E0 fa1) (tt := tG X.K REq E0 ft) (tt1 := tG X.K REq E0 ft1) (te := tG X.K (RD X.K) E0 fe) hc hN hi ok hv hg ht hi1 hg1 ht1 he hs hs1) (lc2_of hg2 hj hg12 hj1)
/-! ### range(a, b, 2) -/
def iR3 (f : AF) : AF := fun ρ S => (f ρ S).bind fun ds S1 => match ds with
  | [.int i, .int j, .int k] => if i = 0 ∧ k = 2 ∧ 0 ≤ j ∧ j < 2 ^ 30 then .ok ((List.range ((j + 1) / 2).toNat).map fun (i : Nat) => .int (2 * (i : Int))) S1 else .no
  | _ => .no
theorem rgc2 {j : Int} (h0 : 0 ≤ j) (h1 : j < 2 ^ 30) : RgC 0 j 2 ((j + 1) / 2).toNat := by
  have e : Builtin.Range.rangeSize 0 j 2 = (((j + 1) / 2).toNat : Int) := by
    unfold Builtin.Range.rangeSize
    simp only [show (2 : Int) > 0 by decide, if_true]
    split <;> omega
  refine ⟨by decide, by decide, ?_, e⟩
  unfold Builtin.Range.small
  rw [e]
  simp only [Builtin.Range.rangeFitsLong, Bool.and_eq_true, Bool.or_eq_true, decide_eq_true_eq, beq_iff_eq, show ((2 : Int) > 0) by decide, if_true]
  omega
theorem rit_c2 {K : PySem.W.Frag} {G : Hp} {J : List Addr} {n : Nat} : RIt K G J ((List.range n).map fun (i : Nat) => .int (2 * (i : Int))) (Itc 0 2 n) := fun i G' J' S' H' st s p =>
  ⟨fun d e => by
    rw [List.getElem?_map] at e
    obtain ⟨c, e1, rfl⟩ := Option.map_eq_some_iff.mp e
    obtain ⟨hl, e5⟩ := List.getElem?_eq_some_iff.mp e1
    simp at hl e5
    exact ⟨hl, fun y H2 ⟨e2, e4⟩ => by
      subst e2; subst e4; subst e5
      refine ⟨G', st, Stp.refl, ?_⟩
      rw [show (0 : Int) + (i : Int) * 2 = 2 * (i : Int) by omega]
      exact .int _⟩, fun h => by show n ≤ i; exact Nat.le_of_eq (by simpa using h)⟩
theorem mi_range3 {a b c : Expr} {p : Pos} (hm : X.mg "range" = none) (ha : MA X E [a, b, c] fa) (hg : Gl X "range" := by rfl) (hs : starEach [a, b, c] X.env = (false, eval a X.env) :: starEach [b, c] X.env := by rfl) (hpl : (backTo pos (starEach [b, c] X.env)).any (·.1) = false := by rfl) : MI X E tg (.Call (.Name "range" p) [a, b, c] [] pos) (iR3 fa) :=
  pi_mono (pi_range3 hg hm ha hs hpl) fun σ H Q ⟨G, J, S, ρ, st, en, q⟩ => ⟨G, J, S, ρ, st, en, Post.bind q fun ds S1 G1 J1 H1 x _ st1 s1 rd q1 => by
    split at q1
    · split at q1
      · rename_i hc
        obtain ⟨e1, e2, h0, h1⟩ := hc
        subst e1; subst e2
        cases rd with
        | cons r1 r2 =>
        cases r2 with
        | cons r2 r3 =>
        obtain ⟨v, e4, r4⟩ := r3.one rfl
        subst e4
        cases r4; cases r1; cases r2
        exact ⟨_, _, _, _, rfl, rgc2 h0 h1, Post.ok q1 st1 rit_c2⟩
      · exact q1.elim
    · exact q1.elim⟩
end
end DL
end
section
set_option maxRecDepth 100000
set_option maxHeartbeats 4000000
set_option autoImplicit false
set_option linter.all false
namespace DL
open PySem L2 PySem.Spec PyProof.Rows
/-! ### repr of data at any depth -/
mutual
def shD : D → Option PyData
  | .non => some .none
  | .bl b => some (.bool b)
  | .int i => some (.int i)
  | .str x => some (.str x)
  | .tup ds => (shDs ds).map .tuple
  | .lst ds => (shDs ds).map .list
  | .rol ds => (shDs ds).map .list
  | .em => some (.dict [])
  | .hd _ => none
def shDs : List D → Option (List PyData)
  | [] => some []
  | d :: ds => match shD d, shDs ds with
    | some p, some q => some (p :: q)
    | _, _ => none
end
section
variable {X : Cx} {pins : List (Addr × Obj)} {σ : L2.St} {G H : Hp} {J : List Addr} {s : Shared}
/-- a list's texts -/
theorem list_shown {h : Heap} {as bs : List Addr} {a : Addr} {o : Obj} {vs : Array Value} {n : Nat} {xs : List PyData} (h1 : h.get? a = some o) (h2 : o.cls = .type "list") (h3 : o.data = .seq vs n) (h4 : ReadsAll h vs.toList xs as) (hb : ReadAtMost h (PyData.depthAll xs) bs)
    (hk : ReprAllK X.prog X.w bs h (PyData.depthAll xs) vs.toList (PyData.shownAll xs)) : a ∉ bs ∧ ReprK X.prog X.w (a :: bs) h (PyData.depthAll xs + 1) (.ref a) (listText (PyData.shownAll xs)) := by
  have r : Reads h (.ref a) (.list xs) _ := .list h1 h2 h3 h4
  have hna : a ∉ bs := not_mem_of_deeper r (by simp only [PyData.depth]; omega) hb
  refine ⟨hna, ?_⟩
  obtain ⟨l⟩ := vs
  cases l with
  | nil =>
    have h4' : ReadsAll h [] xs _ := h4
    cases h4'
    simp only [PyData.shownAll, listText_nil]
    exact ReprK.listEmpty h1 h2 h3
  | cons x l => exact ReprK.list h1 h2 h3 hna (by simpa using hk.length_eq) (fun i y e => hk.item i y (by simpa using e))
theorem em_obj (I : Inv X pins σ H s) {a : Addr} (h : H a = some (.dK [])) : ∃ o n, s.heap.get? a = some o ∧ o.cls = .type "dict" ∧ o.data = .dict #[] n ∧ (a == sysModules) = false := by
  obtain ⟨_, hsys, vs, kv, o, es, ep, ho, hc, hd, _, hp, _⟩ := I.hok a _ h
  cases kv
  refine ⟨o, ep, ho, hc.1, ?_, hsys⟩
  have : es.toList = [] := by
    cases e : es.toList with
    | nil => rfl
    | cons x l => rw [e] at hp; cases hp
  rw [hd]
  congr
  exact Array.ext' this
mutual
theorem reprK_of (I : Inv X pins σ H s) (sg : Sub G H) : ∀ {d : D} {v : V} {p : PyData} {u : Value}, RD X.K G J d v → shD d = some p → RelV v u → p.showable = true → p.shown.length ≤ sizeLine →
    ∃ as bs, Reads s.heap u p as ∧ ReadAtMost s.heap p.depth bs ∧ ReprK X.prog X.w bs s.heap p.depth u p.shown
  | _, _, _, _, .non, e, rv, hs, hz => by cases e; cases rv; exact ⟨_, [], .none, (fun _ h => nomatch h), by simp only [PyData.shown]; exact .of_is ReprIs.none _ _ _⟩
  | _, _, _, _, .bl b, e, rv, hs, hz => by cases e; cases rv; exact ⟨_, [], .bool b, (fun _ h => nomatch h), by simp only [PyData.shown]; exact .of_is (ReprIs.bool b) _ _ _⟩
  | _, _, _, _, .int i, e, rv, hs, hz => by cases e; obtain ⟨t, rfl⟩ := rv; exact ⟨_, [], .int i t, (fun _ h => nomatch h), by simp only [PyData.shown]; exact .of_is (ReprIs.int t (by simpa [PyData.showable] using hs)) _ _ _⟩
  | _, _, _, _, .str x, e, rv, hs, hz => by cases e; obtain ⟨t, rfl⟩ := rv; exact ⟨_, [], .str x t, (fun _ h => nomatch h), by simp only [PyData.shown]; exact .of_is (ReprIs.str x t (by simpa only [PyData.shown] using hz)) _ _ _⟩
  | _, _, _, _, .tup h t, e, rv, hs, hz => by
    unfold shD at e
    obtain ⟨q, e1, rfl⟩ := Option.map_eq_some_iff.mp e
    cases rv
    obtain ⟨its, rv, ⟨o, ho, hc, n, hd⟩, _⟩ := I.tuple (sqT_sub sg h)
    have hz' : (tupleText (PyData.shownAll q)).length ≤ sizeLine := by simpa only [PyData.shown] using hz
    obtain ⟨as, bs, r, hb, hk⟩ := reprAll_of I sg t e1 rv (by simpa [PyData.showable] using hs) (fun t ht => Nat.le_trans (tupleText_mem_le ht) hz')
    have r' : Reads s.heap (.ref _) (.tuple q) _ := .tuple ho hc hd r
    have hna := not_mem_of_deeper r' (by simp only [PyData.depth]; omega) hb
    refine ⟨_, _, r', ReadAtMost.cons r' (by simp only [PyData.depth]; omega) hb, ?_⟩
    simp only [PyData.depth, PyData.shown]
    exact ReprK.tuple ho hc hd hna hk
  | _, _, _, _, .lst h t, e, rv, hs, hz => by
    unfold shD at e
    obtain ⟨q, e1, rfl⟩ := Option.map_eq_some_iff.mp e
    cases rv
    obtain ⟨its, rv, ⟨o, n, ho, hc, _, hd⟩, _⟩ := I.list (SqL.of (sg _ _ h))
    have hz' : (listText (PyData.shownAll q)).length ≤ sizeLine := by simpa only [PyData.shown] using hz
    obtain ⟨as, bs, r, hb, hk⟩ := reprAll_of I sg t e1 rv (by simpa [PyData.showable] using hs) (fun t ht => Nat.le_trans (listText_mem_le ht) hz')
    have r' : Reads s.heap (.ref _) (.list q) _ := .list ho hc hd r
    refine ⟨_, _, r', ReadAtMost.cons r' (by simp only [PyData.depth]; omega) hb, ?_⟩
    simp only [PyData.depth, PyData.shown]
    exact (list_shown ho hc hd r hb hk).2
  | _, _, _, _, .rol h t, e, rv, hs, hz => by
    unfold shD at e
    obtain ⟨q, e1, rfl⟩ := Option.map_eq_some_iff.mp e
    cases rv
    obtain ⟨its, rv, ⟨o, n, ho, hc, _, hd⟩, _⟩ := I.list (sqL_sub sg h)
    have hz' : (listText (PyData.shownAll q)).length ≤ sizeLine := by simpa only [PyData.shown] using hz
    obtain ⟨as, bs, r, hb, hk⟩ := reprAll_of I sg t e1 rv (by simpa [PyData.showable] using hs) (fun t ht => Nat.le_trans (listText_mem_le ht) hz')
    have r' : Reads s.heap (.ref _) (.list q) _ := .list ho hc hd r
    refine ⟨_, _, r', ReadAtMost.cons r' (by simp only [PyData.depth]; omega) hb, ?_⟩
    simp only [PyData.depth, PyData.shown]
    exact (list_shown ho hc hd r hb hk).2
  | _, _, _, _, .em h, e, rv, hs, hz => by
    cases e
    cases rv
    obtain ⟨o, n, ho, hc, hd, hsys⟩ := em_obj I (sg _ _ h)
    have r' : Reads s.heap (.ref _) (.dict []) _ := .dict ho hc hd .nil .nil
    refine ⟨_, _, r', ReadAtMost.cons r' (Nat.le_refl _) (bs := []) (fun _ h => nomatch h), ?_⟩
    simp only [PyData.depth, PyData.shown, PyData.depthKv, PyData.shownKv]
    exact ReprK.dict ho hc hd hsys (by simp) .nil
  | _, _, _, _, .hd h, e, rv, hs, hz => by cases e
theorem reprAll_of (I : Inv X pins σ H s) (sg : Sub G H) : ∀ {ds : List D} {vs : List V} {ps : List PyData} {us : List Value}, RDs X.K G J ds vs → shDs ds = some ps → Vals vs us → PyData.showableAll ps = true → (∀ t ∈ PyData.shownAll ps, t.length ≤ sizeLine) →
    ∃ as bs, ReadsAll s.heap us ps as ∧ ReadAtMost s.heap (PyData.depthAll ps) bs ∧ ReprAllK X.prog X.w bs s.heap (PyData.depthAll ps) us (PyData.shownAll ps)
  | _, _, _, _, .nil, e, rv, hs, hz => by cases e; cases rv; exact ⟨_, [], .nil, (fun _ h => nomatch h), by simp only [PyData.shownAll]; exact .nil⟩
  | _, _, _, _, .cons h t, e, rv, hs, hz => by
    unfold shDs at e
    split at e
    · rename_i p q e1 e2
      cases e
      cases rv with
      | cons r1 r2 =>
      have hs' : p.showable = true ∧ PyData.showableAll q = true := by simpa [PyData.showableAll] using hs
      obtain ⟨a1, b1, q1, hb1, k1⟩ := reprK_of I sg h e1 r1 hs'.1 (hz _ (by simp only [PyData.shownAll]; exact List.mem_cons_self ..))
      obtain ⟨a2, b2, q2, hb2, k2⟩ := reprAll_of I sg t e2 r2 hs'.2 (fun t ht => hz t (by simp only [PyData.shownAll]; exact List.mem_cons_of_mem _ ht))
      refine ⟨_, b1 ++ b2, .cons q1 q2, ?_, ?_⟩
      · simp only [PyData.depthAll]
        exact (hb1.mono (Nat.le_max_left _ _)).append (hb2.mono (Nat.le_max_right _ _))
      · simp only [PyData.depthAll, PyData.shownAll]
        exact .cons ((k1.more fun b hb => List.mem_append_left _ hb).level_le (Nat.le_max_left _ _)) (k2.more_le (fun b hb => List.mem_append_right _ hb) (Nat.le_max_right _ _))
    · cases e
end
/-- the builtin repr -/
theorem repr_ok (I : Inv X pins σ H s) (sg : Sub G H) (hg : X.A.guards = some []) {d : D} {v : V} {p : PyData} {u : Value} (r : RD X.K G J d v) (e : shD d = some p) (rv : RelV v u) (hs : p.showable = true) (hz : p.shown.length ≤ sizeLine) (hu : X.A.units + (p.depth + 1) < cLine)
    {Q : VK} (q : Q (.str p.shown) H) : wpAny (model X.prog X.w) X.A (call (.builtin "repr") [u]) (EP X pins σ Q) X.xe s := by
  have fin : ∀ {z : Str} (h' : Heap) (t : Tok) (tk : Nat), (∀ b o, s.heap.get? b = some o → h'.get? b = some o) → z = p.shown → EP X pins σ Q (.str z t) { s with heap := h', toks := tk } := fun h' t tk hk ez => ⟨.str _, H, I.kept hk, ⟨t, by rw [ez]⟩, q⟩
  have hun : X.A.units + 1 < cLine := by omega
  have hu' : X.A.in1.units + p.depth < cLine := by show X.A.units + 1 + p.depth < cLine; omega
  cases r with
  | non => cases e; cases rv; exact PySem.P.repr_of_none ⟨.str "None", H, I.tok _, ⟨_, rfl⟩, q⟩
  | bl b => cases e; cases rv; exact PySem.P.repr_of_bool ⟨.str _, H, I.tok _, ⟨_, rfl⟩, q⟩
  | int i => cases e; obtain ⟨t, rfl⟩ := rv; exact PySem.P.repr_of_int (by simpa [PyData.showable] using hs) ⟨.str _, H, I.tok _, ⟨_, rfl⟩, q⟩
  | str x => cases e; obtain ⟨t, rfl⟩ := rv; exact PySem.P.repr_of_str ⟨.str _, H, I.tok _, ⟨_, rfl⟩, q⟩ (by simpa only [PyData.shown] using hz)
  | tup h t =>
    unfold shD at e
    obtain ⟨q', e1, rfl⟩ := Option.map_eq_some_iff.mp e
    cases rv
    obtain ⟨its, rv, ⟨o, ho, hc, n, hd⟩, _⟩ := I.tuple (sqT_sub sg h)
    have hz' : (tupleText (PyData.shownAll q')).length ≤ sizeLine := by simpa only [PyData.shown] using hz
    obtain ⟨as, bs, r, hb, hk⟩ := reprAll_of I sg t e1 rv (by simpa [PyData.showable] using hs) (fun t ht => Nat.le_trans (tupleText_mem_le ht) hz')
    have hna := not_mem_of_deeper (.tuple ho hc hd r) (by simp only [PyData.depth]; omega) hb
    simp only [PyData.depth] at hu'
    exact call_repr_slot hun ⟨o, ho, hc⟩ F.slot_tuple_repr (call_tuple_reprK ho hc hd hna hk hg (fun b _ => Clear.nil b) hu' (fun _ _ e => e) (fun h' u tk hk => ⟨_, _, rfl, fin h' u tk hk (by simp only [PyData.shown])⟩) hz')
  | lst h t =>
    unfold shD at e
    obtain ⟨q', e1, rfl⟩ := Option.map_eq_some_iff.mp e
    cases rv
    obtain ⟨its, rv, ⟨o, n, ho, hc, _, hd⟩, _⟩ := I.list (SqL.of (sg _ _ h))
    have hz' : (listText (PyData.shownAll q')).length ≤ sizeLine := by simpa only [PyData.shown] using hz
    obtain ⟨as, bs, r, hb, hk⟩ := reprAll_of I sg t e1 rv (by simpa [PyData.showable] using hs) (fun t ht => Nat.le_trans (listText_mem_le ht) hz')
    have hna := (list_shown ho hc hd r hb hk).1
    simp only [PyData.depth] at hu'
    cases its with
    | nil =>
      have r' : ReadsAll s.heap [] q' _ := r
      cases r'
      exact call_repr_slot hun ⟨o, ho, hc⟩ F.slot_list_repr.toG (call_list_repr_empty ⟨o, ho, hc⟩ ho hd ⟨_, _, rfl, fin s.heap _ _ (fun _ _ e => e) (by simp only [PyData.shown, PyData.shownAll, listText_nil])⟩)
    | cons x l =>
      exact call_repr_slot hun ⟨o, ho, hc⟩ F.slot_list_repr.toG (call_list_reprK ho hc hd hna (by simpa using hk.length_eq) (fun i y e => hk.item i y (by simpa using e)) hg (fun b _ => Clear.nil b) hu' (fun _ _ e => e) (fun h' u tk hk => ⟨_, _, rfl, fin h' u tk hk (by simp only [PyData.shown])⟩) hz')
  | rol h t =>
    unfold shD at e
    obtain ⟨q', e1, rfl⟩ := Option.map_eq_some_iff.mp e
    cases rv
    obtain ⟨its, rv, ⟨o, n, ho, hc, _, hd⟩, _⟩ := I.list (sqL_sub sg h)
    have hz' : (listText (PyData.shownAll q')).length ≤ sizeLine := by simpa only [PyData.shown] using hz
    obtain ⟨as, bs, r, hb, hk⟩ := reprAll_of I sg t e1 rv (by simpa [PyData.showable] using hs) (fun t ht => Nat.le_trans (listText_mem_le ht) hz')
    have hna := (list_shown ho hc hd r hb hk).1
    simp only [PyData.depth] at hu'
    cases its with
    | nil =>
      have r' : ReadsAll s.heap [] q' _ := r
      cases r'
      exact call_repr_slot hun ⟨o, ho, hc⟩ F.slot_list_repr.toG (call_list_repr_empty ⟨o, ho, hc⟩ ho hd ⟨_, _, rfl, fin s.heap _ _ (fun _ _ e => e) (by simp only [PyData.shown, PyData.shownAll, listText_nil])⟩)
    | cons x l =>
      exact call_repr_slot hun ⟨o, ho, hc⟩ F.slot_list_repr.toG (call_list_reprK ho hc hd hna (by simpa using hk.length_eq) (fun i y e => hk.item i y (by simpa using e)) hg (fun b _ => Clear.nil b) hu' (fun _ _ e => e) (fun h' u tk hk => ⟨_, _, rfl, fin h' u tk hk (by simp only [PyData.shown])⟩) hz')
  | em h =>
    cases e
    cases rv
    obtain ⟨o, n, ho, hc, hd, hsys⟩ := em_obj I (sg _ _ h)
    simp only [PyData.depth, PyData.depthKv] at hu'
    exact call_repr_slot hun ⟨o, ho, hc⟩ F.slot_dict_repr (call_dict_reprK (as := []) ho hc hd hsys (by simp) .nil hg (fun b _ => Clear.nil b) hu' (fun _ _ e => e) (fun h' u tk hk => ⟨_, _, rfl, fin h' u tk hk (by simp only [PyData.shown, PyData.shownKv])⟩) (by simpa only [PyData.shown, PyData.shownKv] using hz))
  | hd h => cases e
end
def reprF (ds : List D) (S : Store) : R D := match ds with
  | [d] => match shD d with
    | some p => if p.showable = true ∧ p.shown.length ≤ sizeLine ∧ p.depth ≤ 64 then .ok (.str p.shown) S else .no
    | none => .no
  | _ => .no
/-- what repr asks for -/
def rRepr (X : Cx) : List V → Hp → VK → Prop := fun xs H Q => ∃ G J d v p, Sub G H ∧ xs = [v] ∧ RD X.K G J d v ∧ shD d = some p ∧ p.showable = true ∧ p.shown.length ≤ sizeLine ∧ p.depth ≤ 64 ∧ Q (.str p.shown) H
theorem cr_repr {X : Cx} (hg : X.A.guards = some []) (hu : X.A.units + 66 < cLine) : CallR X (.builtin "repr") (rRepr X) := by
  intro pins s σ H xs us Q I r h
  obtain ⟨G, J, d, v, p, sg, rfl, rd, e, hs, hz, hd, q⟩ := h
  cases r with
  | cons r1 r2 =>
    cases r2
    exact repr_ok I sg hg rd e r1 hs hz (by omega) q
theorem opl_repr {X : Cx} {E : XK} : OpL X.K E (rRepr X) reprF := fun G J S H xs ds Q st r h => by
  unfold reprF at h
  split at h
  · split at h
    · rename_i d _ p e
      split at h
      · rename_i hc
        obtain ⟨v, rfl, r1⟩ := r.one rfl
        exact ⟨G, J, d, v, p, st.sub, rfl, r1, e, hc.1, hc.2.1, hc.2.2, Post.ok (Rl := RD X.K) (d := D.str p.shown) h st (RD.str _)⟩
      · exact h.elim
    · exact h.elim
  · exact h.elim
end DL
end
section
set_option maxRecDepth 100000
set_option maxHeartbeats 4000000
set_option autoImplicit false
set_option linter.all false
namespace DL
open PySem L2 PySem.Spec PyProof.Rows
theorem opm_sindex {X : Cx} {E : XK} : OpM X.K E (fun x xs H Q => ∃ a b i rest, x = .str a ∧ xs = [.str b] ∧ Builtin.Str.occurrences a b 0 a.length 1 = i :: rest ∧ Q (.int (i : Nat)) H) sindexF := fun G J S H x xs d ds Q st r1 r2 h => by
  unfold sindexF at h
  split at h
  · split at h
    · rename_i a b _ i rest e
      cases r1
      obtain ⟨v, rfl, r3⟩ := r2.one rfl
      cases r3
      exact ⟨_, _, _, _, rfl, rfl, e, Post.ok (Rl := RD X.K) (d := D.int _) h st (RD.int _)⟩
    · exact h.elim
  · exact h.elim
/-! ### a def's own lists are forgotten as it ends; one that it gives stays as it is from then on -/
mutual
/-- it holds no handle from m on -/
def okD (m : Nat) : D → Bool
  | .tup ds => okDs m ds
  | .lst ds => okDs m ds
  | .rol ds => okDs m ds
  | .hd n => decide (n < m)
  | _ => true
def okDs (m : Nat) : List D → Bool
  | [] => true
  | d :: ds => okD m d && okDs m ds
end
def okC (m : Nat) : Cell → Bool
  | .lst ds => okDs m ds
  | .ins _ fs => okDs m (fs.map (·.2))
  | .dead => true
theorem okDs_cons {m : Nat} {d : D} {ds : List D} (e : okDs m (d :: ds) = true) : okD m d = true ∧ okDs m ds = true := by simpa [okDs] using e
section
variable {K : PySem.W.Frag} {G G' H : Hp} {J : List Addr} {S : Store} {m : Nat}
mutual
theorem RD.cut (s : Sub G G') : ∀ {d : D} {v : V}, RD K G J d v → okD m d = true → RD K G' (J.take m) d v
  | _, _, .non, _ => .non
  | _, _, .bl b, _ => .bl b
  | _, _, .int i, _ => .int i
  | _, _, .str x, _ => .str x
  | _, _, .tup h t, e => .tup (sqT_sub s h) (RDs.cut s t (by simpa [okD] using e))
  | _, _, .lst h t, e => .lst (s _ _ h) (RDs.cut s t (by simpa [okD] using e))
  | _, _, .rol h t, e => .rol (sqL_sub s h) (RDs.cut s t (by simpa [okD] using e))
  | _, _, .em h, _ => .em (s _ _ h)
  | _, _, .hd (n := n) h, e => .hd (by
    have : n < m := by simpa [okD] using e
    rw [List.getElem?_take, if_pos this]; exact h)
theorem RDs.cut (s : Sub G G') : ∀ {ds : List D} {vs : List V}, RDs K G J ds vs → okDs m ds = true → RDs K G' (J.take m) ds vs
  | _, _, .nil, _ => .nil
  | _, _, .cons h t, e => by
    have e' := okDs_cons e
    exact .cons (RD.cut s h e'.1) (RDs.cut s t e'.2)
end
theorem fs_cut (s : Sub G G') : ∀ {fs : List (Str × D)} {vs : List (Str × V)}, Paired (fun (p : Str × D) (q : Str × V) => p.1 = q.1 ∧ RD K G J p.2 q.2) fs vs → okDs m (fs.map (·.2)) = true → Paired (fun (p : Str × D) (q : Str × V) => p.1 = q.1 ∧ RD K G' (J.take m) p.2 q.2) fs vs
  | _, _, .nil, _ => .nil
  | _, _, .cons h t, e => by
    rw [List.map_cons] at e
    have e' := okDs_cons e
    exact .cons ⟨h.1, RD.cut s h.2 e'.1⟩ (fs_cut s t e'.2)
theorem RC.cut (s : Sub G G') {a : Addr} {c : Cell} (h : RC K G J H a c) (e : okC m c = true) : RC K G' (J.take m) H a c := by
  cases c with
  | lst ds => obtain ⟨vs, h1, h2⟩ := h; exact ⟨vs, h1, h2.cut s e⟩
  | ins C fs => obtain ⟨dx, vs, h1, h2⟩ := h; exact ⟨dx, vs, h1, fs_cut s h2 e⟩
  | dead => trivial
theorem all_take {S : Store} {m : Nat} (h : (S.take m).all (okC m) = true) {n : Nat} {c : Cell} (l : n < m) (e : S[n]? = some c) : okC m c = true := by
  rw [List.all_eq_true] at h
  exact h c (List.mem_of_getElem? (i := n) (by rw [List.getElem?_take, if_pos l]; exact e))
theorem StR.cutS (st : StR K G J S H) (h : (S.take m).all (okC m) = true) : StR K G (J.take m) (S.take m) H :=
  st.cut m fun n c a l e1 e2 => RC.cut (Sub.refl _) (st.cell n c a e1 e2) (all_take h l e1)
end
/-- what a def gives, the store cut back to what it was at the entry -/
def frz (m : Nat) (S : Store) : D → Option D
  | .hd n => if n < m then some (.hd n) else match S[n]? with
    | some (.lst ds) => if okDs m ds = true then some (.lst ds) else none
    | _ => none
  | d => if okD m d = true then some d else none
def scF (F : FF) : FF := fun ds S => match F ds S with
  | .no => .no
  | .ok d S' => if (S'.take S.length).all (okC S.length) = true then match frz S.length S' d with
    | some d' => .ok d' (S'.take S.length)
    | none => .no
    else .no
  | .ex e S' => if (S'.take S.length).all (okC S.length) = true ∧ okDs S.length ((e.fs.getD []).map (·.2)) = true then .ex e (S'.take S.length) else .no
theorem Stp.cut {K : PySem.W.Frag} {G H G' H' : Hp} {J J' : List Addr} {S : Store} {m : Nat} (st : StR K G J S H) (s : Stp G J H G' J' H') (hm : m = S.length) : Stp G J H G' (J'.take m) H' ∧ J'.take m = J := by
  have e : J'.take m = J := by
    obtain ⟨t, rfl⟩ := s.j
    rw [hm, ← st.len]; simp
  exact ⟨⟨s.g, s.gn, by rw [e]; exact List.prefix_refl _, fun a h => .inl (e ▸ h), s.fr, s.dm⟩, e⟩
theorem post_sc {K : PySem.W.Frag} {G H : Hp} {J : List Addr} {S : Store} {Q : VK} {E : XK} {F : FF} {ds : List D} (st : StR K G J S H) (h : Post K (RD K) G J H Q E (scF F ds S)) : Post K (RD K) G J H Q E (F ds S) := by
  unfold scF at h
  split at h
  · exact h.elim
  · rename_i d S' e
    rw [e]
    split at h
    · rename_i hall
      split at h
      · rename_i d' e'
        intro G' J' H' v st' s' rd
        obtain ⟨s2, ej⟩ := Stp.cut st s' rfl
        have st2 := st'.cutS hall
        unfold frz at e'
        split at e'
        · rename_i n
          split at e'
          · rename_i hn
            cases e'
            exact h _ _ _ v st2 s2 (rd.cut (m := S.length) (Sub.refl _) (by simpa [okD] using hn))
          · rename_i hn
            split at e'
            · rename_i xs ex
              split at e'
              · rename_i hok
                cases e'
                cases rd with
                | hd hj =>
                rename_i a
                obtain ⟨vs, k1, k2⟩ := st'.cell _ _ _ ex hj
                have g0 := (st'.off _ _ hj).1
                have nj : a ∉ J'.take S.length := fun hm => by
                  obtain ⟨i, hi⟩ := List.getElem?_of_mem hm
                  rw [List.getElem?_take] at hi
                  split at hi
                  · rename_i hl
                    have := (List.getElem?_inj (List.getElem?_eq_some_iff.mp hj).1 st'.nd).mp (hj.trans hi.symm)
                    omega
                  · cases hi
                have hn0 : H a = none := by
                  rcases s'.jn a (List.mem_of_getElem? hj) with q | q
                  · exact absurd (ej ▸ q) nj
                  · exact q
                exact h _ _ _ _ (st2.keep g0 nj k1) (s2.keep hn0 g0) (.lst upd_same ((k2.cut (Sub.refl _) hok).mono (sub_upd g0) (List.prefix_refl _)))
              · cases e'
            · cases e'
        · split at e'
          · rename_i hok
            cases e'
            exact h _ _ _ v st2 s2 (rd.cut (m := S.length) (Sub.refl _) hok)
          · cases e'
      · exact h.elim
    · exact h.elim
  · rename_i e S' eq
    rw [eq]
    split at h
    · rename_i hall
      intro G' J' H' dx st' s' rx
      obtain ⟨s2, ej⟩ := Stp.cut st s' rfl
      refine h _ _ _ dx (st'.cutS hall.1) s2 ?_
      cases dx with
      | none => exact rx
      | some dx =>
        obtain ⟨fs, vs, e1, e2, e3, e4, e5⟩ := rx
        have hk := hall.2
        rw [e1] at hk
        exact ⟨fs, vs, e1, e2, e3, fun hm => e4 (List.mem_of_mem_take hm), fs_cut (m := S.length) (Sub.refl _) e5 hk⟩
    · exact h.elim
theorem FnM.sc {P : Program} {w : World} {K : PySem.W.Frag} {mg : Str → Option Value} {base : Heap} {CX : CXT} {k : Nat} {f : Addr} {fd : FuncData} {ps : List Str} {F : FF} (h : FnM P w K mg base CX k f fd ps F) : FnM P w K mg base CX k f fd ps (scF F) :=
  ⟨fun A outer s H args us vs G J S ds Q E hr hgd e0 hb r hl st rd q => h.run A outer s H args us vs G J S ds Q E hr hgd e0 hb r hl st rd (post_sc st q)⟩
end DL
end
section
set_option maxRecDepth 100000
set_option maxHeartbeats 4000000
set_option autoImplicit false
set_option linter.all false
namespace DL
open PySem L2 PySem.Spec PyProof.Rows PySem.W PySem.Calls
/-! ### an own exception whose __init__ calls super().__init__(..), two own classes over ValueError -/
/-- what the written part says: C over B over ValueError; its __init__ at fI -/
structure ExcTxt (K : PySem.W.Frag) (mg : Str → Option Value) (file : Str) (st : Stmt) (qual : Str) (C fI : Addr) : Prop where
  oex : OexC K C
  al : ∃ l : List Value, (∀ cd, clsIn K C = some cd → cd.mro = .ref C :: l) ∧ (clsIn K C).isSome = true ∧ alongIn K "__init__" l = some (some (.builtin "ValueError.__init__"))
  iC : PySem.W.findIn K (.ref C) "__init__" = some (some (.ref fI))
  tI : PySem.W.typeIn K (.ref fI) = some (.type "function")
  third : nsIn K cStatics "thirdparty.any" = some none
  ve : subIn K (.ref C) (.type "ValueError") = some true
  self_ : mroIn K C (.ref C) = some true
  sup : mg "super" = none
  fn : ∃ (oc : Value) (od : Option Addr) (kV doc pm : Value) (an : Option Addr) (cda : Addr) (ct : Value) (cc : Addr) (osl : Array (Option Value)) (ccl : Value) (cdd : Option Addr) (vs : Array Value) (ccs : Array (Option Value)) (tf : Tok) (cl : Value) (cld : Option Addr) (csl : Array (Option Value)),
    K.lookup fI = some ⟨oc, od, .func (ksFn "__init__" qual (defArgs st) (defBody st) (defScope st) .none kV doc pm an (.ref cda) ct cc), osl⟩ ∧ codeIn K (.ref cda) qual = true ∧
    K.lookup cda = some ⟨ccl, cdd, .fields vs, ccs⟩ ∧ vs[2]? = some (.str file tf) ∧ K.lookup cc = some ⟨cl, cld, .cell (some (.ref C)), csl⟩
section
variable {prog : Program} {w : World} {A : Around} {E : Value → Shared → Prop} {K : PySem.W.Frag} {mg : Str → Option Value} {C e L f cc cda : Addr} {h : Heap} {g : Array GenState} {d : Drawn} {t : Nat} {os : OsState}
/-- super().__init__(..) as a statement -/
theorem sup_ok {body : List Stmt} {qual : Str} {scope : Scope} {p0 p1 p2 p5 p6 : Pos} {es : List Expr} {e0 : Expr} {us : List Value} {fd : FuncData} {of oc : Obj} {vs : Array Value} {file : Str} {tf : Tok} {cl : Value} {cld : Option Addr} {csl : Array (Option Value)} {ar : Arg} {t0 : Addr} {Q : Flow → Shared → Prop} {m : Str → Option Value} {l : List Value} {mb : Str → Option Value}
    (X : K.In h) (T : OexC K C) (hal : (∀ cd, clsIn K C = some cd → cd.mro = .ref C :: l) ∧ (clsIn K C).isSome = true ∧ alongIn K "__init__" l = some (some (.builtin "ValueError.__init__"))) (ho : nsIn K cStatics "thirdparty.any" = some none) (hve : subIn K (.ref C) (.type "ValueError") = some true) (hself : mroIn K C (.ref C) = some true)
    (hG : h.Ns mainGlobals mg) (hB : h.Ns builtinsNs mb) (hgs : mg "super" = none) (hbs : mb "super" = some (.type "super"))
    (hf : h.get? f = some of) (hfd : of.data = .func fd) (hp : (fd.params.posonlyargs ++ fd.params.args).head? = some ar) (hcc : h.get? cda = some oc) (hoc : oc.data = .fields vs) (hvs : vs[2]? = some (.str file tf)) (hfile : ((prog.main.file : Str) == file) = true) (htop : (prog.main.scope.names.lookup ("super" : Str)).isSome = false)
    (hcell : h.get? cc = some ⟨cl, cld, .cell (some (.ref C)), csl⟩) (hks : scope.names.lookup ("super" : Str) = some .globalImplicit) (hkc : scope.names.lookup ("__class__" : Str) = some .free) (hka : scope.names.lookup ar.arg = some .local) (hk : scope.kind = .function)
    (hns : h.Ns L m) (hv : m ar.arg = some (.ref e)) (he : h.get? e = some (PySem.HandSPX.excO C t0)) (hus : us.length ≤ sizeLine)
    (hargs : ∀ (h' : Heap) (t' : Nat) (Q' : List Value → Shared → Prop), (∀ b o, h.get? b = some o → h'.get? b = some o) → Q' us ⟨h', g, d, t', os⟩ → wpAny (model prog w) A (spliced (backTo p5 (starEach (e0 :: es) (ksEnv qual scope L f (.ref cda) cc)))) Q' E ⟨h', g, d, t', os⟩)
    (hst : starEach (e0 :: es) (ksEnv qual scope L f (.ref cda) cc) = (false, eval e0 (ksEnv qual scope L f (.ref cda) cc)) :: starEach es (ksEnv qual scope L f (.ref cda) cc)) (hpl : (backTo p5 (starEach es (ksEnv qual scope L f (.ref cda) cc))).any (·.1) = false)
    {pl : Sem Bool} (hev : eval (.Call (.Attribute (.Call (.Name "super" p0) [] [] p1) "__init__" p2) (e0 :: es) [] p5) (ksEnv qual scope L f (.ref cda) cc) = (do
      let ov ← attributeBase (.Call (.Name "super" p0) [] [] p1) "__init__" (ksEnv qual scope L f (.ref cda) cc) (eval (.Call (.Name "super" p0) [] [] p1) (ksEnv qual scope L f (.ref cda) cc))
      standAt p2.atName
      let (f1, first) ← holding [ov] (getMethod ov "__init__" pl)
      callWith p5 f1 first (backTo p5 (starEach (e0 :: es) (ksEnv qual scope L f (.ref cda) cc))) [])) (hint : interactive (ksEnv qual scope L f (.ref cda) cc) = false)
    (hsw : swapsWith (.Call (.Attribute (.Call (.Name "super" p0) [] [] p1) "__init__" p2) (e0 :: es) [] p5) none p6.line (ksEnv qual scope L f (.ref cda) cc) = pure false)
    (hq : ∀ h' t' t1, (∀ b o, b ≠ e → h.get? b = some o → h'.get? b = some o) → h'.get? e = some (PySem.HandSPX.excO C t1) → Q .next ⟨h', g, d, t', os⟩) :
    PySem.wpAt (model prog w) A (.func body (ksEnv qual scope L f (.ref cda) cc)) (exec (.Expr (.Call (.Attribute (.Call (.Name "super" p0) [] [] p1) "__init__" p2) (e0 :: es) [] p5) p6) (ksEnv qual scope L f (.ref cda) cc)) Q E ⟨h, g, d, t, os⟩ := by
  obtain ⟨nm, q, N, bs, bm, sn, sub, ab, col, dd, k0, k1, k2, k3, k5, hC, hbm⟩ := T.cls
  have hC' := X _ _ hC
  refine ks_wpAt_Expr_any (ks_wpAt_MethodCall (pl := pl) ?_ hev) hint hsw
  refine ks_wpAt_super_base hks hkc (by decide) rfl hf hfd hp rfl hcc hoc hvs hfile htop ?_
  refine ks_loadName_global hk hks (PySem.Calls.loadGlobal_builtin (env := ksEnv qual scope L f (.ref cda) cc) hG hgs hB hbs ⟨rfl, ?_⟩)
  refine wpAny_loadName_free hk hkc rfl ⟨_, hcell, rfl⟩ ?_
  refine wpAny_loadName_local hk hka hns hv ?_
  refine ks_wpAny_isType_cls hC' rfl ⟨rfl, ?_⟩
  refine ks_wpAny_call_super hC' rfl he rfl (fun c z => by cases z) (looks_mroIn X hself) (fun h1 e1 k1' => ?_)
  have X1 : K.In h1 := X.keeps k1'
  obtain ⟨hm1, hsome, hal1⟩ := hal
  obtain ⟨cd, hcd⟩ := Option.isSome_iff_exists.mp hsome
  have hmro := hm1 cd hcd
  have I1 : InstAt h1 e (PySem.HandSPX.excO C t0) C none := ⟨k1' _ _ he, rfl, rfl, trivial⟩
  refine kxs_getMethod kxs_ValueError e1 (looks_opaque X1 ho) (l₀ := cd.mro) (l := l) (fun A Q E s k q => wpAny_bind ((looks_clsIn X1 hcd) A _ E s k (wpAny_pure q))) ?_ X1 hal1 (I1.type.andThen (looks_subIn X1 hve)) (ks_ne X1 I1 hcd) (by decide) ?_
  · rw [hmro]
    simp [List.dropWhile]
  have k2' : ∀ b o, h1.get? b = some o → (h1.push (kxs_mw "ValueError.__init__" e)).get? b = some o := fun b o z => Heap.get?_push_of_some _ z
  have hu : (h1.push (kxs_mw "ValueError.__init__" e)).get? h1.objs.size = some (kxs_mw "ValueError.__init__" e) := Heap.get?_push_at rfl rfl
  rw [hst]
  refine kxs_callWith (i := "ValueError.__init__") (x := e) (u := h1.objs.size) (show (false || (backTo p5 (starEach es (ksEnv qual scope L f (.ref cda) cc))).any (·.1)) = false by rw [hpl]; rfl) (evalArgs_plain ?_)
  rw [hst] at hargs
  refine hargs _ _ _ (fun b o z => k2' b o (k1' b o z)) ⟨hu, ?_⟩
  refine wpAny_call (codeAny_of_tree ?_)
  show wpAny _ A.in1 (callAny (.ref h1.objs.size) ⟨us, []⟩) _ _ _
  simp only [callAny]
  refine wpAny_bind (wpAny_load hu ?_)
  simp only [kxs_mw, show (Value.type "method-wrapper" == Value.type "method" || Value.type "method-wrapper" == Value.type "builtin_function_or_method" || Value.type "method-wrapper" == Value.type "method-wrapper") = true by decide, if_true]
  refine KFB.if_so (by decide) ?_
  refine wpAny_bind (check_bound_init F.excBase_ValueError.toExcCallFacts (k2' _ _ (k1' _ _ hC')) (k2' _ _ (k1' _ _ he)) rfl ?_)
  refine wpAny_bind (wpAny_pure (wpAny_pure ?_))
  refine ⟨plainId_quiet F.excBase_ValueError.init.plain _, codeAny_builtin F.excBase_ValueError.initEntry ?_⟩
  refine exc_init_tree (cls := .ref C) (t0 := t0) (dv := none) (c2 := .none) (c3 := .none) (b4 := .bool false) (k2' _ _ (k1' _ _ he)) hus fun h3 k3' e3 _ => ?_
  exact hq h3 _ _ (fun b o hb z => k3' b o hb (k2' _ _ (k1' _ _ z))) e3
end
end DL
end
section
set_option maxRecDepth 100000
set_option maxHeartbeats 4000000
set_option autoImplicit false
set_option linter.all false
namespace DL
open PySem L2 PySem.Spec PyProof.Rows PySem.W PySem.Calls
theorem ns_kept {h h' : Heap} {L e : Addr} {m : Str → Option Value} (hns : h.Ns L m) (hne : L ≠ e) (k : ∀ b o, b ≠ e → h.get? b = some o → h'.get? b = some o) : h'.Ns L m := by
  obtain ⟨oL, es, ep, hL, r⟩ := hns
  exact ⟨oL, es, ep, k _ _ hne hL, r⟩
/-- one more field of an exception's dict -/
def exE (h : Heap) (e C dx t1 : Addr) (f : Str → Option Value) : Prop := h.get? e = some ({ cls := .ref C, dict := some dx, data := .fields #[.ref t1, .none, .none, .none, .bool false, .none] } : Obj) ∧ h.Ns1 dx f
section
variable {prog : Program} {w : World} {A : Around} {K : PySem.W.Frag} {mg mb : Str → Option Value} {C fI e t0 : Addr} {h : Heap} {g : Array GenState} {d : Drawn} {t : Nat} {os : OsState} {st : Stmt} {qual file : Str} {R : Result → Shared → Prop}
/-- C's __init__(self, x, y): super().__init__(x, y); self.x = x; self.y = y -/
theorem init2_ok {x y : Str} {va vb : Value} {p0 p1 p2 p3 p4 p5 p6 q1 q2 q3 q4 r1 r2 r3 r4 : Pos} (T : ExcTxt K mg file st qual C fI) (X : K.In h) (hlim : h.NoLimit) (hG : h.Ns mainGlobals mg) (hB : h.Ns builtinsNs mb) (hbs : mb "super" = some (.type "super"))
    (hbody : defBody st = [.Expr (.Call (.Attribute (.Call (.Name "super" p0) [] [] p1) "__init__" p2) [.Name x p3, .Name y p4] [] p5) p6, .Assign [.Attribute (.Name "self" q1) x q2] (.Name x q3) q4, .Assign [.Attribute (.Name "self" r1) y r2] (.Name y r3) r4])
    (hpar : ((defArgs st).posonlyargs ++ (defArgs st).args).head?.map (·.arg) = some "self") (hbind : ∀ (kV doc pm cdv ct : Value) (an : Option Addr) (cc : Addr) (a b c : Value), bindArgs (ksFn "__init__" qual (defArgs st) (defBody st) (defScope st) .none kV doc pm an cdv ct cc) ⟨[a, b, c], []⟩ = pure [(("self" : Str), a), (x, b), (y, c)])
    (hfile : ((prog.main.file : Str) == file) = true) (htop : (prog.main.scope.names.lookup ("super" : Str)).isSome = false)
    (hsc : (defScope st).kind = .function ∧ (defScope st).isCoroutine = false ∧ (defScope st).isGenerator = false ∧ ∀ z ∈ (defScope st).names, z.2 ≠ .cell)
    (hnm : (defScope st).names.lookup ("super" : Str) = some .globalImplicit ∧ (defScope st).names.lookup ("__class__" : Str) = some .free ∧ (defScope st).names.lookup ("self" : Str) = some .local ∧ (defScope st).names.lookup x = some .local ∧ (defScope st).names.lookup y = some .local)
    (hxy : x ≠ y ∧ x ≠ "self" ∧ y ≠ "self" ∧ (x == ("__debug__" : Str)) = false ∧ (y == ("__debug__" : Str)) = false) (hfx : findIn K (.ref C) x = some none) (hfy : findIn K (.ref C) y = some none)
    (hev : ∀ (L f cda cc : Addr), ∃ pl : Sem Bool, eval (.Call (.Attribute (.Call (.Name "super" p0) [] [] p1) "__init__" p2) [.Name x p3, .Name y p4] [] p5) (ksEnv qual (defScope st) L f (.ref cda) cc) = (do
      let ov ← attributeBase (.Call (.Name "super" p0) [] [] p1) "__init__" (ksEnv qual (defScope st) L f (.ref cda) cc) (eval (.Call (.Name "super" p0) [] [] p1) (ksEnv qual (defScope st) L f (.ref cda) cc))
      standAt p2.atName
      let (f1, first) ← holding [ov] (getMethod ov "__init__" pl)
      callWith p5 f1 first (backTo p5 (starEach [.Name x p3, .Name y p4] (ksEnv qual (defScope st) L f (.ref cda) cc))) []))
    (he : h.get? e = some (PySem.HandSPX.excO C t0)) (hKe : ∀ o, K.lookup e ≠ some o) (hroom : A.depth < recursionLimit)
    (hq : ∀ h' t' t1 dx, (∀ b o, b ≠ e → h.get? b = some o → h'.get? b = some o) → (∀ o, h.get? dx ≠ some o) → dx ≠ e → exE h' e C dx t1 (fun z => if z = y then some vb else if z = x then some va else none) → R (.ok (.ret .none)) ⟨h', g, d, t', os⟩) :
    codeAny (model prog w) A (.call (.ref fI) ⟨[.ref e, va, vb], []⟩) R ⟨h, g, d, t, os⟩ := by
  obtain ⟨oc, od, kV, doc, pm, an, cda, ct, cc, osl, ccl, cdd, vs, ccs, tf, cl, cld, csl, lk, hcd, hcode, hvs, hcell⟩ := T.fn
  obtain ⟨l, hal⟩ := T.al
  obtain ⟨nm, q, N, bs, bm, sn, sub, ab, col, dd, k0, k1, k2, k3, k5, hC, hbm⟩ := T.oex.cls
  have hcl : PySem.W.clsIn K C = some { name := nm, bases := bs, mro := .ref C :: bm, ns := N, qualname := q, hasDict := true, slotNames := sn, subclasses := sub, abstract := ab, collection := col, hasDel := false } := by unfold PySem.W.clsIn; rw [hC] <;> rfl
  obtain ⟨hk, hco, hgen, hnc⟩ := hsc
  obtain ⟨hs1, hs2, hs3, hs4, hs5⟩ := hnm
  obtain ⟨hxy1, hxy2, hxy3, hxd, hyd⟩ := hxy
  have lts : e < h.objs.size := Heap.lt_size he
  refine ks_codeAny_call_defAt (fd := ksFn "__init__" qual (defArgs st) (defBody st) (defScope st) .none kV doc pm an (.ref cda) ct cc) (body := defBody st) (binds := [("self", .ref e), (x, va), (y, vb)]) hroom (X _ _ lk) rfl hlim (codeRec_of X hcd) rfl (.of_eq (hbind _ _ _ _ _ _ _ _ _ _)) hnc (fun z hz => ?_) (fun h1 hns hk1 => ?_) hco hgen hk
  · simp only [List.mem_cons, List.not_mem_nil, or_false] at hz
    rcases hz with rfl | rfl | rfl
    · exact hs3
    · exact hs4
    · exact hs5
  have X1 : K.In h1 := X.keeps hk1
  have mS : (fun z => ([("self", Value.ref e), (x, va), (y, vb)] : List (Str × Value)).reverse.lookup z) "self" = some (.ref e) := by
    have a1 : (("self" : Str) == y) = false := by simpa using Ne.symm hxy3
    have a2 : (("self" : Str) == x) = false := by simpa using Ne.symm hxy2
    simp [List.lookup, a1, a2]
  have mX : (fun z => ([("self", Value.ref e), (x, va), (y, vb)] : List (Str × Value)).reverse.lookup z) x = some va := by
    have a1 : (x == y) = false := by simpa using hxy1
    simp [List.lookup, a1]
  have mY : (fun z => ([("self", Value.ref e), (x, va), (y, vb)] : List (Str × Value)).reverse.lookup z) y = some vb := by
    simp [List.lookup]
  generalize (fun z => ([("self", Value.ref e), (x, va), (y, vb)] : List (Str × Value)).reverse.lookup z) = m at hns mS mX mY
  generalize hL : h.objs.size = L at hns
  have hLe : L ≠ e := by rw [← hL]; exact Nat.ne_of_gt lts
  show PySem.wpAt (model prog w) (A.deeper (ksEnv qual (defScope st) L fI (.ref cda) cc)) (.func (defBody st) (ksEnv qual (defScope st) L fI (.ref cda) cc)) (execs (defBody st) (ksEnv qual (defScope st) L fI (.ref cda) cc)) _ _ _
  rw [hbody]
  obtain ⟨ar, har, har'⟩ := Option.map_eq_some_iff.mp hpar
  have hint : interactive (ksEnv qual (defScope st) L fI (.ref cda) cc) = false := by unfold interactive; simp [hk]
  obtain ⟨pl, hpl⟩ := hev L fI cda cc
  refine ks_wpAt_execs_cons (sup_ok (ar := ar) (t0 := t0) (us := [va, vb]) (m := m) (l := l) (mb := mb) (fd := ksFn "__init__" qual (defArgs st) (defBody st) (defScope st) .none kV doc pm an (.ref cda) ct cc) (pl := pl) X1 T.oex hal T.third T.ve T.self_ (hG.keeps hk1) (hB.keeps hk1) T.sup hbs (X1 _ _ lk) rfl har (X1 _ _ hcode) rfl hvs hfile htop (X1 _ _ hcell) hs1 hs2 (by rw [har']; exact hs3) hk hns (by rw [har']; exact mS) (hk1 _ _ he) (by show 2 ≤ sizeLine; decide) (fun h' t' Q' k q' => ?_) rfl rfl hpl hint rfl fun h2 t2 t1 k2 e2 => ?_)
  · have n' : h'.Ns L m := hns.keeps k
    show wpAny _ _ (spliced [(false, eval (.Name x p3) (ksEnv qual (defScope st) L fI (.ref cda) cc)), (false, eval (.Name y p4) (ksEnv qual (defScope st) L fI (.ref cda) cc))]) _ _ _
    exact PySem.Calls.spliced_cons (PySem.ESX.ldL n' mX (PySem.Calls.spliced_cons (PySem.ESX.ldL n' mY (PySem.Calls.spliced_nil q') hk hs5 hyd)) hk hs4 hxd)
  have n2 : h2.Ns L m := ns_kept hns hLe k2
  have X2 : K.In h2 := fun b o z => k2 b o (fun q => hKe o (q ▸ z)) (X1 _ _ z)
  have hfinal : ∀ {h' : Heap} {z : Str} {v : Value}, h'.Ns L m → m z = some v → (defScope st).names.lookup z = some .local → (z == ("__debug__" : Str)) = false → ∀ {pos : Pos} {t' : Nat} {Q : Value → Shared → Prop} {E : Value → Shared → Prop} {B : Around}, Q v ⟨h', g, d, t', os⟩ → wpAny (model prog w) B (eval (.Name z pos) (ksEnv qual (defScope st) L fI (.ref cda) cc)) Q E ⟨h', g, d, t', os⟩ := fun n' e' hz hd pos t' Q E B q => PySem.ESX.ldL n' e' q hk hz hd
  refine ks_wpAt_execs_cons (ks_wpAt_Assign_Attr (wpAt_of_wpAny (hfinal n2 mX hs4 hxd (hfinal n2 mS hs3 (by decide) ?_))) rfl)
  refine PySem.W.set_plain X2 (ox := PySem.HandSPX.excO C t1) (od := none) ⟨e2, rfl, rfl, trivial⟩ T.oex.sa ?_
  refine PySem.HandSPX.exc_osa X2 e2 hcl (show PySem.HandSPX.refsVE (.ref C :: bm) = true from hbm) rfl hfx (fun h3 t3 dx k3 dn dne hx hn3 => ?_)
  have n3 : h3.Ns L m := ns_kept n2 hLe k3
  have X3 : K.In h3 := fun b o z => k3 b o (fun q => hKe o (q ▸ z)) (X2 _ _ z)
  have hLd : L ≠ dx := fun q => by
    obtain ⟨oL, _, _, e', _⟩ := n2
    exact absurd (Heap.lt_size e') (by rw [q]; exact Nat.not_lt.mpr dn)
  refine ks_wpAt_execs_cons (ks_wpAt_Assign_Attr (wpAt_of_wpAny (hfinal n3 mY hs5 hyd (hfinal n3 mS hs3 (by decide) ?_))) rfl)
  obtain ⟨oD, _, _, hoD, _⟩ := id hn3
  refine PySem.W.set_plain X3 (ox := { cls := .ref C, dict := some dx, data := .fields #[.ref t1, .none, .none, .none, .bool false, .none] }) (od := some oD) ⟨hx, rfl, rfl, hoD⟩ T.oex.sa ?_
  refine PySem.OEX.osa_old (nl := [x]) X3 hx hn3 (fun z hz => by
    by_cases q : z = x
    · simp [q]
    · rw [if_neg q] at hz; exact absurd rfl hz) (by simp) hcl (show PySem.HandSPX.refsVE (.ref C :: bm) = true from hbm) rfl hfy (fun h4 t4 k4 hn4 => ?_)
  refine wpAt_of_wpAny (wpAny_execs_nil ?_)
  have hdx : ∀ o, h.get? dx ≠ some o := fun o z => absurd (Heap.lt_size (k2 _ _ dne (hk1 _ _ z))) (Nat.not_lt.mpr dn)
  refine hq h4 _ t1 dx (fun b o hb z => ?_) hdx dne ⟨k4 _ _ (Ne.symm dne) hx, hn4⟩
  have hbd : b ≠ dx := fun q => hdx o (q ▸ z)
  exact k4 b o hbd (k3 b o hb (k2 b o hb (hk1 b o z)))
end
end DL
end
section
set_option maxRecDepth 100000
set_option maxHeartbeats 4000000
set_option autoImplicit false
set_option linter.all false
namespace DL
open PySem L2 PySem.Spec PyProof.Rows
/-- what the text says of C(x, y) -/
structure Exc2 (P : Program) (K : PySem.W.Frag) (mg : Str → Option Value) (C : Addr) (cname x y : Str) : Prop where
  run : ∃ fI : Addr, PySem.W.findIn K (.ref C) "__init__" = some (some (.ref fI)) ∧ PySem.W.typeIn K (.ref fI) = some (.type "function") ∧ ∀ (w : World) (A : Around) (mb : Str → Option Value) (va vb : Value) (e t0 : Addr) (h : Heap) (g : Array GenState) (d : Drawn) (t : Nat) (os : OsState) (R : Result → Shared → Prop), K.In h → h.NoLimit → h.Ns mainGlobals mg → h.Ns builtinsNs mb → mb "super" = some (.type "super") →
    h.get? e = some (PySem.HandSPX.excO C t0) → (∀ o, K.lookup e ≠ some o) → A.depth < recursionLimit →
    (∀ h' t' t1 dx, (∀ b o, b ≠ e → h.get? b = some o → h'.get? b = some o) → (∀ o, h.get? dx ≠ some o) → dx ≠ e → exE h' e C dx t1 (fun z => if z = y then some vb else if z = x then some va else none) → R (.ok (.ret .none)) ⟨h', g, d, t', os⟩) →
    codeAny (model P w) A (.call (.ref fI) ⟨[.ref e, va, vb], []⟩) R ⟨h, g, d, t, os⟩
  oex : OexC K C
  ne : x ≠ y
  gC : mg cname = some (.ref C)
def tMk2 (C : Addr) (x y : Str) (ta : TA) : L2.St → Hp → XK → Prop := fun σ H Q => ta σ H fun vs H1 => ∃ v1 v2, vs = [v1, v2] ∧ ∀ d, H1 d = none → Q (.ref C) (some d) (upd H1 d (.xd [(y, v2), (x, v1)]))
section
variable {X : Cx} {C : Addr} {cname x y : Str} {a b : Expr} {ta : TA} {p pos pos' : Pos}
theorem pmk2 (T : Exc2 X.prog X.K X.mg C cname x y) (hr : Room 1 X.A) (ha : PA X [a, b] ta) (hg : Gl X cname := by rfl) (hdb : (cname == ("__debug__" : Str)) = false := by decide)
    (he : starEach [a, b] X.env = (false, eval a X.env) :: starEach [b] X.env := by rfl) (hpl : (backTo pos (starEach [b] X.env)).any (·.1) = false := by rfl) :
    PMk X (.Call (.Name cname p) [a, b] [] pos) (tMk2 C x y ta) := by
  intro pins s σ H Q I h
  obtain ⟨fI, iC, tI, hrun⟩ := T.run
  obtain ⟨nm, q, N, bs, bm, sn, sub, ab, col, dd, k0, k1, k2, k3, k5, hC, hbm⟩ := T.oex.cls
  refine wpAny_Call_Name_kw (ld_glob I hg T.gC ?_ hdb)
  refine PySem.W.callWith_K (h₀ := X.base) I.ok.mod.kin T.oex.kC (thn (ha.run pos pins s σ H _ I h) fun us s1 ⟨vs, H1, I1, r1, v1, v2, ev, q1⟩ => ⟨I1.kIn, ?_⟩) he hpl
  subst ev
  obtain ⟨u1, u2, rfl, e1, e2⟩ : ∃ u1 u2, us = [u1, u2] ∧ RelV v1 u1 ∧ RelV v2 u2 := by
    cases r1 with
    | cons q1 q2 =>
    cases q2 with
    | cons q2 q3 =>
    cases q3
    exact ⟨_, _, rfl, q1, q2⟩
  show wpAny _ _ (call (.ref C) [u1, u2]) _ _ _
  obtain ⟨hp, g, dr, tk, os⟩ := s1
  have hsz : hp.objs.size ≤ hp.objs.size + 1 := Nat.le_succ _
  have hn : H1 (hp.objs.size + 1) = none := I1.hok.fresh hsz
  have kk : ∀ b o, hp.get? b = some o → ((hp.push (PySem.W.kdv_tup [u1, u2])).push (PySem.HandSPX.excO C hp.objs.size)).get? b = some o := fun b o e => Heap.get?_push_of_some _ (Heap.get?_push_of_some _ e)
  have hget : ((hp.push (PySem.W.kdv_tup [u1, u2])).push (PySem.HandSPX.excO C hp.objs.size)).get? (hp.objs.size + 1) = some (PySem.HandSPX.excO C hp.objs.size) := by heap_get
  obtain ⟨mb, hmb, hmb2⟩ := I1.ok.mod.blt
  refine wpAny_call (PySem.HandSPX.call_own F.excBase_ValueError (fun Y => PySem.HandSPX.refsVE_contains Y bm hbm) (I1.kIn _ _ hC) (PySem.W.looks_findIn I1.kIn iC) (fun self => PySem.W.bind_fn I1.kIn self tI) (by show 2 ≤ sizeLine; decide)
    (hrun X.w _ mb u1 u2 (hp.objs.size + 1) hp.objs.size _ _ _ _ _ _ (I1.kIn.keeps kk) (I1.ok.mod.nolimit.keeps fun b o e => kk b o (I1.bk b o e)) (I1.ok.mod.glob.keeps fun b o e => kk b o (I1.bk b o e)) (hmb.keeps fun b o e => kk b o (I1.bk b o e)) ((hmb2 _ (by decide)).trans (by decide +kernel)) hget (fun o z => absurd (Heap.lt_size (I1.kIn _ _ z)) (Nat.not_lt.mpr hsz)) ?_ fun h' t' t1 dx k hdx hde ⟨hx, hnx⟩ => ?_))
  · have := hr.dp
    show X.A.depth + 1 < recursionLimit
    omega
  generalize hA : hp.objs.size + 1 = e at *
  generalize hH2 : (hp.push (PySem.W.kdv_tup [u1, u2])).push (PySem.HandSPX.excO C hp.objs.size) = hp2 at *
  have I2 : Inv X pins σ (upd H1 e (exo e C none)) ⟨hp2, g, dr, tk, os⟩ := I1.laid (t' := tk) (a := e) (o := exo e C none) (h' := hp2) kk hsz (exo_ok hget)
  have d0 : upd H1 e (exo e C none) dx = none := I2.hok.gone (by
    show hp2.get? dx = none
    cases z : hp2.get? dx with
    | none => rfl
    | some o => exact absurd z (hdx o))
  have nd1 : H1 dx = none := by rw [upd_ne hde] at d0; exact d0
  have e0 : upd H1 e (exo e C none) e = some (exo e C none) := upd_same
  have na : ∀ {b : Addr}, upd H1 e (exo e C none) b = none → b ≠ e := fun {b} n z => by rw [z, e0] at n; cases n
  have nd : ∀ {b : Addr} {o : Obj}, hp2.get? b = some o → b ≠ dx := fun {b o} z z2 => hdx o (z2 ▸ z)
  generalize hfs : [(y, v2), (x, v1)] = fs
  have rel : ∀ f, RelO (fs.lookup f) ((fun z => if z = y then some u2 else if z = x then some u1 else none) f) := fun f => by
    subst hfs
    rw [lookup_put, lookup_put]
    by_cases z1 : f = y
    · simp only [if_pos z1]; exact e2
    · by_cases z2 : f = x
      · simp only [if_neg z1, if_pos z2]; exact e1
      · simp only [if_neg z1, if_neg z2]; exact True.intro
  have Un1 : Un (frs X.stack) [] (upd H1 e (exo e C none)) (upd (upd (upd H1 e (exo e C none)) dx (exd dx fs)) e (exo e C (some dx))) hp2 h' := {
    keep := fun b o q n _ _ => k b o (na n) q
    slot := fun b o q n _ _ => ⟨o.slots, k b o (na n) q⟩
    free := fun b o q n _ => by rw [upd_ne (na n), upd_ne (nd q)]; exact n
    there := fun b o q _ => by
      by_cases hb : b = e
      · exact ⟨_, by rw [hb]; exact hx⟩
      · exact ⟨o, k b o hb q⟩
    tups := fun b xs q => by rw [upd_ne (at_ne e0 q exo_tup), upd_ne (ne_of_none q d0)]; exact q
    frzs := fun b o v q => by rw [upd_ne (at_ne e0 q exo_frz), upd_ne (ne_of_none q d0)]; exact q
    tbls := fun b ps q => ⟨#[], by rw [upd_ne (at_ne e0 q exo_tbl), upd_ne (ne_of_none q d0), q]; simp⟩ }
  have hok2 : HOk X.prog X.w (upd (upd (upd H1 e (exo e C none)) dx (exd dx fs)) e (exo e C (some dx))) h' := fun b o q => by
    by_cases hb : b = e
    · subst hb
      rw [upd_same] at q
      cases q
      exact exo_ok hx
    · rw [upd_ne hb] at q
      by_cases hd : b = dx
      · subst hd
        rw [upd_same] at q
        cases q
        exact exd_ok hnx rel
      · rw [upd_ne hd] at q
        exact (I2.hok b o q).stay (fun c v hc z => k c v (by
            rcases hc with hc | hc
            · rw [hc]; exact hb
            · exact at_ne e0 hc exo_own) z)
          (fun c hc => by rw [upd_ne (at_ne e0 hc exo_own), upd_ne (ne_of_none hc d0)]; exact hc) (fun c xs hc => by rw [upd_ne (at_ne e0 hc exo_tup), upd_ne (ne_of_none hc d0)]; exact hc)
  have fin := mk_end (d2 := dr) (t2 := t') (Q := Q) (a := e) (C := C) (d := dx) (fs := fs) (raises_own T.oex.exC T.oex.tyC) I1 hsz kk Un1 hok2 rfl I1.bare upd_same (by rw [upd_ne hde, upd_same]) nd1 (by
    have := q1 dx nd1
    rw [hfs] at this
    have eq : upd (del (upd (upd (upd H1 e (exo e C none)) dx (exd dx fs)) e (exo e C (some dx))) e) dx (.xd fs) = upd H1 dx (.xd fs) := by
      funext b
      by_cases z : b = dx
      · rw [z, upd_same, upd_same]
      · rw [upd_ne z, upd_ne z]
        by_cases z2 : b = e
        · rw [z2, del_same, hn]
        · rw [del_ne z2, upd_ne z2, upd_ne z, upd_ne z2]
    rw [eq]
    exact this)
  exact ⟨rfl, fin⟩
end
end DL
end
section
set_option maxRecDepth 100000
set_option maxHeartbeats 4000000
set_option autoImplicit false
set_option linter.all false
namespace DL
open PySem L2 PySem.Spec PyProof.Rows
/-! ### raise C(x, y) -/
def sRaise2 (C : Addr) (x y : Str) (fa : AF) : SF := fun ρ S => (fa ρ S).bind fun ds S1 => match ds with
  | [d, e] => .ex ⟨C, some [(y, e), (x, d)]⟩ S1
  | _ => .no
theorem Post.exn {α β : Type} {K : PySem.W.Frag} {Rl : Hp → List Addr → α → β → Prop} {G H : Hp} {J : List Addr} {S : Store} {Q : β → Hp → Prop} {E : XK} {C : Addr} {fs : List (Str × D)} (h : Post K Rl G J H Q E (.ex ⟨C, some fs⟩ S)) (st : StR K G J S H) {vs : List (Str × V)} (r : Paired (fun (p : Str × D) (q : Str × V) => p.1 = q.1 ∧ RD K G J p.2 q.2) fs vs) {d : Addr} (hd : H d = none) : E (.ref C) (some d) (upd H d (.xd vs)) :=
  h G J _ (some d) (st.junk hd) (Stp.junk hd) ⟨fs, vs, rfl, upd_same, free_of_H st hd, notin_of_H st hd, r⟩
section
variable {X : Cx} {E : XK} {C : Addr} {cname x y : Str} {a b : Expr} {fa : AF} {p pos pos' : Pos}
theorem ms_raise2 (T : Exc2 X.prog X.K X.mg C cname x y) (hr : Room 1 X.A) (tk : Takes X (fun cls d _ H => E cls d H)) (ha : MA X E [a, b] fa) (hc : X.calm = true := by rfl) (hg : Gl X cname := by rfl) (hdb : (cname == ("__debug__" : Str)) = false := by decide)
    (he : starEach [a, b] X.env = (false, eval a X.env) :: starEach [b] X.env := by rfl) (hpl : (backTo pos (starEach [b] X.env)).any (·.1) = false := by rfl) :
    MS X E (.Raise (some (.Call (.Name cname p) [a, b] [] pos)) none pos') (sRaise2 C x y fa) :=
  ps_mono (ps_raise hc tk (pmk2 T hr ha hg hdb he hpl)) fun D σ H ⟨G, J, S, ρ, st, en, q⟩ => ⟨G, J, S, ρ, st, en, Post.bind q fun ds S1 G1 J1 H1 vs _ st1 s1 rd q1 => by
    split at q1
    · rename_i d e
      cases rd with
      | cons r1 r2 =>
      obtain ⟨v, rfl, r3⟩ := r2.one rfl
      exact ⟨_, _, rfl, fun dx hdx => Post.exn q1 st1 (.cons ⟨rfl, r3⟩ (.cons ⟨rfl, r1⟩ .nil)) hdx⟩
    · exact q1.elim⟩
end
/-! ### try: body, except C as n: return .. -/
/-- what is wished of the body's exceptions, whatever the names hold by then -/
def EW (n : Nat) (W : WX) : XK := fun cls d H => ∀ σ : L2.St, σ.length = n → W cls d σ H
theorem passTry {X : Cx} {W : WX} {pn : List (Addr × Obj)} {xe : Value → Shared → Prop} (tk : Takes (X.tr pn xe) W) : Passes (L2.CX X.prog X.w) (X.tr pn xe) (EW X.N.length W) :=
  fun _ σ _ _ e s' I c => tk e s' (XE.of_call I (fun _ _ _ h => h σ I.len) c)
theorem passN {X : Cx} {E : XK} : Passes CX0 X E := fun _ _ _ _ _ _ _ h => h.elim
def sTry (C : Addr) (g : Exn → Option D) (f : SF) : SF := fun ρ S => match f ρ S with
  | .ex e S' => if e.cls = C then match g e with
    | some d => .ok (.rt d, ρ.map fun _ => none) S'
    | none => .no
    else .no
  | r => r
section
variable {X : Cx} {x n : Str} {C : Addr} {i : Nat} {body suite : List Stmt} {b₀ : Stmt} {np pos pos' : Pos} {f : SF} {g : Exn → Option D} {ts : Addr → Value → Option Addr → TS}
theorem envR_none {K : PySem.W.Frag} {G : Hp} {J : List Addr} {ρ : Rho} {σ : L2.St} (h : ρ.length = σ.length) : EnvR K G J (ρ.map fun _ => none) σ :=
  ⟨by simpa using h, fun i d e => by
    rw [List.getElem?_map] at e
    obtain ⟨_, _, z⟩ := Option.map_eq_some_iff.mp e
    cases z⟩
theorem ms_tryRet (hN : X.N.Nodup) (hm : X.mg x = some (.ref C)) (hself : PySem.W.exmOne X.K (.ref C) (.ref C) = some true)
    (hb : ∀ (W : WX) (pn : List (Addr × Obj)) (xe : Value → Shared → Prop), Takes (X.tr pn xe) W → PassesOwn (model X.prog X.w) X.A X.env xe → MSs (X.tr pn xe) (EW X.N.length W) body f)
    (hsu : ∀ (a : Addr) (oe : Obj) (cls : Value) (d : Option Addr) (pn : List (Addr × Obj)), Zc cls d oe → (∃ vs, oe.data = .fields vs) → PSs (X.suite a ((a, oe) :: pn)) (b₀ :: suite) (ts a cls d))
    (hts : ∀ (a : Addr) (d : Option Addr) (σ : L2.St) (G H : Hp) (J : List Addr) (S : Store) (e : Exn) (dd : D) (D : Ends), StR X.K G J S H → XR X.K G J e H d → e.cls = C → H a = none → σ[i]? = some (some (.ref a)) → g e = some dd →
      (∀ G' J' H' v, StR X.K G' J' S H' → Stp G J H G' J' H' → RD X.K G' J' dd v → D.rt v H') → ts a (.ref C) d D σ H)
    (hs : X.stack = X.env :: X.outer := by rfl) (hf : X.env.frame = some X.env.locals := by rfl) (hi : X.N[i]? = some n := by rfl) (hln : X.env.kindOf n = some .local := by rfl) (hg : Gl X x := by rfl) (hdb : (x == ("__debug__" : Str)) = false := by decide) :
    MS X E0 (.Try body [.ExceptHandler (some (.Name x np)) (some n) (b₀ :: suite) pos'] [] [] pos) (sTry C g f) := by
  refine ps_mono (ps_try_as (i := i) (n := n) (x := x) (c := .ref C) (tb := fun W => tS X.K (EW X.N.length W) f) (ts := ts) (Wout := fun _ _ _ _ => False) hs hf hN hi hln ⟨hg, hdb, .inl hm⟩ takes0 hb hsu) fun D σ H ⟨G, J, S, ρ, st, en, q⟩ => ⟨G, J, S, ρ, st, en, ?_⟩
  unfold sTry at q
  cases ef : f ρ S with
  | no => rw [ef] at q; exact q
  | ok a S' => rw [ef] at q; exact q
  | ex e S' =>
    rw [ef] at q
    dsimp only at q
    split at q
    · rename_i hcls
      split at q
      · rename_i dd hg
        intro G' J' H' dx st' s' xr σ' hl'
        rw [hcls]
        refine ⟨true, hself, fun _ a ha => ?_, fun z => by cases z⟩
        have hlt : i < σ'.length := by rw [hl']; exact (List.getElem?_eq_some_iff.mp hi).1
        refine hts a dx (σ'.set i (some (.ref a))) G' H' J' S' e dd _ st' xr hcls ha (List.getElem?_set_self hlt) hg fun G2 J2 H2 v st2 s2 rd => ?_
        exact (q G2 J2 H2 (FV.rt v, σ) st2 (s'.trans s2) ⟨envR_none en.len, rd⟩)
      · exact q.elim
    · exact q.elim
end
end DL
end
section
set_option maxRecDepth 100000
set_option maxHeartbeats 4000000
set_option autoImplicit false
set_option linter.all false
namespace DL
open PySem L2 PySem.Spec PyProof.Rows
/-- what isinstance asks of the class C of a caught exception -/
structure IsC (K : PySem.W.Frag) (C : Addr) : Prop where
  cl : (PySem.W.clsIn K C).isSome = true
  xf : XfC K C
  ha : PySem.W.findIn K (.ref C) "__class__" = some (some (.builtin "object.__class__"))
  hn : PySem.W.specialIn K (.builtin "object.__class__") "__get__" = some (some (.builtin "getset_descriptor.__get__"))
  ht : PySem.W.takesIn K (.builtin "object.__class__") = some true
  hm : PySem.W.mroIn K C (.type "object") = some true
/-- isinstance(e, B), e the exception that the suite holds, which has a dict -/
def rIsX (K : PySem.W.Frag) (cls : Value) (C a : Addr) (d : Option Addr) : List V → Hp → VK → Prop := fun xs H Q => cls = .ref C ∧ ∃ (B : Addr) (b : Bool) (dd : Addr) (fs : List (Str × V)), xs = [.ref a, .ref B] ∧ PySem.W.kitOne K (.ref C) (.ref B) = some b ∧ d = some dd ∧ H dd = some (.xd fs) ∧ Q (.bl b) H
theorem call_isX {X : Cx} {a C : Addr} {cls : Value} {d : Option Addr} {oe : Obj} {pn : List (Addr × Obj)} (T : IsC X.K C) (hz : Zc cls d oe) (hf : ∃ vs, oe.data = .fields vs) : CallR (X.suite a ((a, oe) :: pn)) (.builtin "isinstance") (rIsX X.K cls C a d) := by
  intro pins s σ H xs us Q I r h
  obtain ⟨ec, B, b, dd, fs, rfl, hk, ed, ea, q⟩ := h
  subst ec
  subst ed
  cases r with
  | cons r1 r2 =>
  cases r2 with
  | cons r2 r3 =>
  cases r3
  rename_i u1 u2
  obtain rfl : u1 = Value.ref a := r1
  obtain rfl : u2 = Value.ref B := r2
  obtain ⟨hget, _⟩ := I.pin (a, oe) (List.mem_append.mpr (.inl List.mem_cons_self))
  obtain ⟨vs, hv⟩ := hf
  have hx : ObjOk X.prog X.w H s.heap dd (.xd fs) := I.hok dd _ ea
  obtain ⟨mA, ⟨od, es, ep, ho, _⟩, _⟩ := hx
  have J : PySem.W.InstAt s.heap a oe C (some od) := ⟨hget, hz.1, by unfold PySem.W.notCls; rw [hv] <;> rfl, by rw [hz.2]; exact ho⟩
  exact PySem.W.kia_one (PySem.W.kitx_exc T.cl T.xf.ga T.xf.gg T.xf.exC T.ha T.hn T.ht T.hm) I.kIn J hk (fun z => nomatch z) fun tk => ⟨.bl b, H, I.kept (t' := tk) fun _ _ z => z, rfl, q⟩
/-- a field of an exception, as the suite reads it -/
theorem XR.fld {K : PySem.W.Frag} {G H : Hp} {J : List Addr} {e : Exn} {d : Option Addr} (r : XR K G J e H d) {fs : List (Str × D)} (h : e.fs = some fs) : ∃ dd vs, d = some dd ∧ H dd = some (.xd vs) ∧ ∀ f y, fs.lookup f = some y → ∃ v, vs.lookup f = some v ∧ RD K G J y v := by
  cases d with
  | none => have r' : e.fs = none := r; rw [h] at r'; cases r'
  | some dd =>
    obtain ⟨fs', vs, e1, e2, _, _, e5⟩ := r
    rw [h] at e1
    cases e1
    refine ⟨dd, vs, rfl, e2, fun f y hy => ?_⟩
    have key : ∀ {as : List (Str × D)} {bs : List (Str × V)}, Paired (fun (p : Str × D) (q : Str × V) => p.1 = q.1 ∧ RD K G J p.2 q.2) as bs → as.lookup f = some y → ∃ v, bs.lookup f = some v ∧ RD K G J y v := by
      intro as bs hp
      induction hp with
      | nil => intro z; cases z
      | cons h1 _ ih =>
        rename_i p q l m _
        obtain ⟨p1, p2⟩ := p
        obtain ⟨q1, q2⟩ := q
        obtain ⟨h1, h2⟩ := h1
        dsimp only at h1 h2
        subst h1
        intro z
        rw [List.lookup_cons] at z ⊢
        split at z
        · cases z; exact ⟨_, rfl, h2⟩
        · exact ih z
    exact key e5 hy
theorem xd_kept {K : PySem.W.Frag} {G H : Hp} {J : List Addr} {S : Store} (st : StR K G J S H) {vs : List V} {ds : List D} (r : RDs K G J ds vs) {dd : D} {D : Ends} (hd : dd = .tup ds) (k : ∀ G' J' H' v, StR K G' J' S H' → Stp G J H G' J' H' → RD K G' J' dd v → D.rt v H') {p : Addr} (hp : H p = none) : D.rt (.ref p) (upd H p (.tup vs)) := by
  subst hd
  exact k _ _ _ _ (st.froz hp) (Stp.froz st hp) (.tup (SqT.of upd_same) (r.mono (sub_upd (free_of_H st hp)) (List.prefix_refl _)))
/-- x != () -/
def rNeE (K : PySem.W.Frag) : R2 := fun x y H Q => ∃ (a b : Addr) (xs : List V), x = .ref a ∧ y = .ref b ∧ SqT K H a xs ∧ SqT K H b [] ∧ Q (.bl (!xs.isEmpty)) H
theorem or_neE {X : Cx} (hu : X.A.units + 64 < cLine) : OpR X (compareOp .NotEq) (rNeE X.K) := by
  intro pins s σ H x y v u Q I rx ry h
  obtain ⟨a, b, xs, rfl, rfl, ha, hb, q⟩ := h
  cases (show v = Value.ref a from rx)
  cases (show u = Value.ref b from ry)
  obtain ⟨us, r1, ⟨o1, h1, c1, n1, d1⟩, _⟩ := I.tuple ha
  obtain ⟨ws, r2, ⟨o2, h2, c2, n2, d2⟩, _⟩ := I.tuple hb
  cases r2
  refine SeqAt.RcNeAt.tuples (e := fun _ => true) ⟨o1, h1, c1, n1, d1⟩ ⟨o2, h2, c2, n2, d2⟩ (by omega) (fun j _ j2 => absurd j2 (by simp)) X.prog X.w _ _ ⟨.bl _, H, I, rfl, ?_⟩
  have e : us.length = xs.length := r1.length.symm
  cases xs with
  | nil => simpa [e] using q
  | cons z zs => simpa [e] using q
def neEF (d e : D) (S : Store) : R D := match d, e with
  | .tup xs, .tup [] => .ok (.bl (!xs.isEmpty)) S
  | _, _ => .no
theorem op2_neE {X : Cx} {E : XK} : Op2 X.K E (rNeE X.K) neEF := fun G J S H x y d e Q st r1 r2 h => by
  unfold neEF at h
  split at h
  · rename_i xs
    cases r1 with
    | tup h1 t1 =>
    cases r2 with
    | tup h2 t2 =>
    cases t2
    rename_i a vs b
    refine ⟨_, _, vs, rfl, rfl, sqT_sub st.sub h1, sqT_sub st.sub h2, ?_⟩
    have e : vs.isEmpty = xs.isEmpty := by
      have := t1.len
      cases xs <;> cases vs <;> simp at this ⊢
    rw [e]
    exact Post.ok (Rl := RD X.K) (d := D.bl _) h st (RD.bl _)
  · exact h.elim
theorem room66 {k : Nat} {A : Around} (r : Room k A) : A.units + 66 < cLine := by have := r.un; omega
/-- a new list of the store: xs + ys -/
def addNF (d e : D) (S : Store) : R D := match lsF S d, lsF S e with
  | some xs, some ys => if xs.length + ys.length ≤ sizeLine then .ok (.hd S.length) (S ++ [.lst (xs ++ ys)]) else .no
  | _, _ => .no
theorem op2_addN {X : Cx} {E : XK} : Op2 X.K E (rAddA X.K) addNF := fun G J S H x y d e Q st r1 r2 h => by
  unfold addNF at h
  split at h
  · rename_i xs ys e1 e2
    split at h
    · rename_i hz
      obtain ⟨p1, vs, rfl, k1, q1⟩ := lsF_of st r1 e1
      obtain ⟨p2, ws, rfl, k2, q2⟩ := lsF_of st r2 e2
      exact .inr (.inr (.inr (.inr ⟨p1, p2, vs, ws, rfl, rfl, k1, k2, by rw [← q1.len, ← q2.len]; exact hz, fun p hp => Post.new h st (q1.app q2) hp⟩)))
    · exact h.elim
  · exact h.elim
end DL
end
section
set_option maxRecDepth 100000
set_option maxHeartbeats 4000000
set_option autoImplicit false
set_option linter.all false

namespace P64
open PySem L2 DL
def top (i : Nat) : Stmt := PySem.Challenge.pw_heldalways_k64_whole_commands_there_and.main.body.getD i (.Pass ⟨0, 0, 0, 0⟩)
abbrev s_is_integer : Stmt := top 6
abbrev s_is_number : Stmt := top 7
abbrev s_is_name : Stmt := top 8
abbrev s_is_told_value : Stmt := top 17
abbrev s_are_pairs : Stmt := top 18
abbrev s_is_part : Stmt := top 19
abbrev s_is_command : Stmt := top 20
abbrev s_integer_told : Stmt := top 21
abbrev s_pairs_told : Stmt := top 22
abbrev s_command_told : Stmt := top 23
abbrev s_parts_told : Stmt := top 24
abbrev s_read_commands : Stmt := top 25
abbrev s_show_command : Stmt := top 26
abbrev s_show_commands : Stmt := top 27
abbrev s__law_heap : Stmt := top 29
abbrev s__law_draw : Stmt := top 30
abbrev s__law_pick : Stmt := top 31
abbrev s__law_command : Stmt := top 32
abbrev s__law_is_name : Stmt := top 33
abbrev s__law_is_whole : Stmt := top 34
abbrev s__law_are_pairs : Stmt := top 35
abbrev s__law_fits : Stmt := top 36
abbrev s__law_kinds : Stmt := top 37
abbrev s__law_is_command : Stmt := top 38
abbrev s__law_other : Stmt := top 39
abbrev s__law_spoilt : Stmt := top 40
abbrev s__law_words : Stmt := top 41
abbrev s__law_number : Stmt := top 42
abbrev s__law_told : Stmt := top 43
abbrev s__law_read : Stmt := top 44
abbrev s__law_heard : Stmt := top 45
abbrev s__law_text : Stmt := top 46
abbrev s_law : Stmt := top 47
abbrev c_LETTERS : D := .str "abcdefghijklmnopqrstuvwxyz"
abbrev c_LONGEST_NAME : D := .int 6
abbrev c_MOST_MOVES : D := .int 40
abbrev c_MOST_RULES : D := .int 30
abbrev c_KINDS : D := .tup [.str "rise", .str "fall", .str "now"]
abbrev c_DIGITS : D := .str "0123456789"
abbrev c_MOST_TOLD_WEIGHT : D := .int 1000
abbrev c_MOST_TOLD_VALUE : D := .int 1000000
def t_PARTS : List (Str × D) := [("come", .tup [.str "move"]), ("wish", .tup [.str "move", .str "pairs"]), ("rule", .tup [.str "move", .str "kind", .str "point", .str "point", .str "weight"]), ("ease", .tup [.str "move", .str "number"]), ("add", .tup [.str "name", .str "name", .str "name"]), ("bar", .tup [.str "move"]), ("state", .tup [.str "name"]), ("quantity", .tup [.str "name", .str "value"]), ("leave", .tup [.str "name"]), ("now", .tup []), ("may", .tup [.str "move", .str "pairs"]), ("bear", .tup [.str "move", .str "kind", .str "point", .str "point", .str "weight"]), ("range", .tup [.str "move"]), ("hold", .tup [.str "name", .str "pairs"])]
theorem bt_str : bootBuiltins "str" = some (.type "str") := by decide +kernel
theorem bt_int : bootBuiltins "int" = some (.type "int") := by decide +kernel
theorem bt_bool : bootBuiltins "bool" = some (.type "bool") := by decide +kernel
theorem bt_tuple : bootBuiltins "tuple" = some (.type "tuple") := by decide +kernel
theorem bt_list : bootBuiltins "list" = some (.type "list") := by decide +kernel
theorem bt_dict : bootBuiltins "dict" = some (.type "dict") := by decide +kernel
theorem bf_len : bootBuiltins "len" = some (.builtin "len") := by decide +kernel
theorem bf_abs : bootBuiltins "abs" = some (.builtin "abs") := by decide +kernel
theorem bf_all : bootBuiltins "all" = some (.builtin "all") := by decide +kernel
theorem bf_repr : bootBuiltins "repr" = some (.builtin "repr") := by decide +kernel
theorem bf_sum : bootBuiltins "sum" = some (.builtin "sum") := by decide +kernel
structure Txt (w : World) (K : PySem.W.Frag) (mg : Str → Option Value) : Prop where
  isinstance : mg "isinstance" = none
  len : mg "len" = none
  abs : mg "abs" = none
  all : mg "all" = none
  repr : mg "repr" = none
  range : mg "range" = none
  zip : mg "zip" = none
  enumerate : mg "enumerate" = none
  str_ : mg "str" = none
  int_ : mg "int" = none
  bool_ : mg "bool" = none
  tuple_ : mg "tuple" = none
  list_ : mg "list" = none
  c_LETTERS : Cst K mg "LETTERS" c_LETTERS
  c_LONGEST_NAME : Cst K mg "LONGEST_NAME" c_LONGEST_NAME
  c_MOST_MOVES : Cst K mg "MOST_MOVES" c_MOST_MOVES
  c_MOST_RULES : Cst K mg "MOST_RULES" c_MOST_RULES
  c_KINDS : Cst K mg "KINDS" c_KINDS
  c_DIGITS : Cst K mg "DIGITS" c_DIGITS
  c_MOST_TOLD_WEIGHT : Cst K mg "MOST_TOLD_WEIGHT" c_MOST_TOLD_WEIGHT
  c_MOST_TOLD_VALUE : Cst K mg "MOST_TOLD_VALUE" c_MOST_TOLD_VALUE
  c_PARTS : Tab K w mg "PARTS" t_PARTS
def lenH (ρ : Rho) (S : Store) : Nat := match ρ with
  | some (.hd n) :: _ => match S[n]? with
    | some (.lst (.hd m :: _)) => match S[m]? with
      | some (.lst xs) => xs.length
      | _ => 0
    | _ => 0
  | _ => 0
end P64
end
section
set_option maxRecDepth 100000
set_option maxHeartbeats 4000000
set_option autoImplicit false
set_option linter.all false
namespace P64
open PySem L2 DL
abbrev N__law_heap : List Str := ["script", "cells", "stir", "cell"]
theorem sc__law_heap : FnScope N__law_heap ["script"] (defScope s__law_heap) := ⟨rfl, rfl, rfl, by decide +kernel, rfl, by decide +kernel, by decide +kernel⟩
def E__law_heap_0 : EF := (e2 addF (e2 mulF (eC (.int 2)) (eL absF (aC (eV 3) aN))) (eL intF (aC (e2 ltF (eV 3) (eC (.int 0))) aN)))
def B__law_heap_1 : SF := (sAsg (e2 modF (eL intF (aC (e2 addF (e2 addF (e2 mulF (eV 2) (eC (.int 69621))) (e2 modF (eL intF (aC (eV 3) aN)) (eC (.int 2147483563)))) (eC (.int 29))) aN)) (eC (.int 2147483647))) (gN 2))
def E__law_heap_2 : EF := (eV 3)
def T__law_heap_3 : BF := (asB (e2 geF (eV 3) (e2 powF (eC (.int 10)) (eC (.int 18)))))
def F__law_heap : FF := fnF0 4 (sSeq (sPar 1 2 (aC (eLc (iL (eSl (eV 0) oN (oS (eC (.int 60))))) (gN 3) bY E__law_heap_0 [3]) (aC (eC (.int 72101)) aN)))
 (sSeq (sFor (iL (eV 1)) (gN 3)
 B__law_heap_1)
 (sRet (eNew (aC (e1 revNF (eLc (iL (eV 1)) (gN 3) T__law_heap_3 E__law_heap_2 [3])) (aC (eV 2) aN))))))
theorem ok__law_heap {P : Program} {w : World} {K : PySem.W.Frag} {mg : Str → Option Value} {base : Heap} {f : Addr} {fd : FuncData} (U : Fun K "_law_heap" "_law_heap" s__law_heap f fd) (T : Txt w K mg) : FnM P w K mg base CX0 1 f fd ["script"] F__law_heap :=
  fn_m0 U sc__law_heap rfl fun cdv A outer s H E hr hgd => by
    have nd := sc__law_heap.nd
    exact (mss_cons (ms_par 1 2 nd (ma_cons (me_lc (own := [("cell", 3)]) nd (mi_list (me_slice (me_var 0) mo_none (mo_some me_int))) (by show BlkOk N__law_heap (defScope s__law_heap) _ _; exact blkOk_by (by decide +kernel)) (fun _ _ _ _ _ => (pg_name (i := 3) nd rfl (Or.inl rfl))) (gok_name 3) (by decide) (fun _ _ _ _ _ => mts_nil) (fun _ _ _ _ _ => (me_op or_add op2_add (me_op or_mul op2_mul me_int (me_callB call_abs opl_abs T.abs bf_abs (ma_cons (me_var 3) ma_nil))) (me_callTy cr_int opl_int T.int_ bt_int (ma_cons (me_cmp or_lt op2_cm (me_var 3) me_int (nomark _)) ma_nil))))) (ma_cons me_int ma_nil)))
 (mss_cons (ms_for .never (mi_list (me_var 1)) (mg_name 3 nd)
 (mss_one (ms_set 2 nd (me_op op_mod op2_mod (me_callTy cr_int opl_int T.int_ bt_int (ma_cons (me_op or_add op2_add (me_op or_add op2_add (me_op or_mul op2_mul (me_var 2) me_int) (me_op op_mod op2_mod (me_callTy cr_int opl_int T.int_ bt_int (ma_cons (me_var 3) ma_nil)) me_int)) me_int) ma_nil)) me_int))))
 (mss_one (ms_ret (me_new (ma_cons (me_revN (me_lc (own := [("cell", 3)]) nd (mi_list (me_var 1)) (by show BlkOk N__law_heap (defScope s__law_heap) _ _; exact blkOk_by (by decide +kernel)) (fun _ _ _ _ _ => (pg_name (i := 3) nd rfl (Or.inl rfl))) (gok_name 3) (by decide) (fun _ _ _ _ _ => (mts_one (mt_cmp or_ge op2_cm (me_var 3) (me_op op_pow op2_pow me_int me_int) (nomark _)))) (fun _ _ _ _ _ => (me_var 3)))) (ma_cons (me_var 2) ma_nil)))))))
end P64
end
section
set_option maxRecDepth 100000
set_option maxHeartbeats 4000000
set_option autoImplicit false
set_option linter.all false
namespace P64
open PySem L2 DL
abbrev N__law_draw : List Str := ["heap", "many", "rest"]
theorem sc__law_draw : FnScope N__law_draw ["heap", "many"] (defScope s__law_draw) := ⟨rfl, rfl, rfl, by decide +kernel, rfl, by decide +kernel, by decide +kernel⟩
def T__law_draw_0 : BF := (bAnd (asB (e2 (eqF true) (e2 ixF (eV 0) (eC (.int 0))) (eLst aN))) (asB (e2 (eqF false) (e2 ixF (e2 ixF (eV 0) (eC (.int 0))) (e1 negF (eC (.int 1)))) (eC (.int 0)))))
def B__law_draw_1 : SF := (sEx (eM "list" popF (e2 ixF (eV 0) (eC (.int 0))) aN))
def F__law_draw : FF := fnF0 3 (sSeq (sWh (fun ρ S => 1 + lenH ρ S) T__law_draw_0
 B__law_draw_1)
 (sSeq (sIf (asB (e2 (eqF true) (e2 ixF (eV 0) (eC (.int 0))) (eLst aN)))
 (sSeq (sAsg (eM "list" popF (e2 ixF (eV 0) (eC (.int 0))) aN) (gN 2))
 (sSeq (sEx (eM "list" appendF (e2 ixF (eV 0) (eC (.int 0))) (aC (e2 fdivF (eV 2) (eV 1)) aN)))
 (sRet (e2 modF (eL intF (aC (eV 2) aN)) (eV 1)))))
 sNil)
 (sSeq (sSub (e2 modF (eL intF (aC (e2 addF (e2 mulF (e2 ixF (eV 0) (eC (.int 1))) (eC (.int 48271))) (eC (.int 17))) aN)) (eC (.int 2147483647))) (eV 0) (eC (.int 1)))
 (sRet (e2 modF (eL intF (aC (e2 fdivF (e2 ixF (eV 0) (eC (.int 1))) (eC (.int 32))) aN)) (eV 1))))))
theorem ok__law_draw {P : Program} {w : World} {K : PySem.W.Frag} {mg : Str → Option Value} {base : Heap} {f : Addr} {fd : FuncData} (U : Fun K "_law_draw" "_law_draw" s__law_draw f fd) (T : Txt w K mg) : FnM P w K mg base CX0 1 f fd ["heap", "many"] F__law_draw :=
  fn_m0 U sc__law_draw rfl fun cdv A outer s H E hr hgd => by
    have nd := sc__law_draw.nd
    exact (mss_cons (ms_while (fun ρ S => 1 + lenH ρ S) .never (mt_w (mw_and (mt_cmp (op_neD hr.units) op2_ne (me_ix (me_var 0) me_int) (me_lst ma_nil) (nomark _)) (mw_and1 (mt_cmp (op_eqD hr.units) op2_eq (me_ix (me_ix (me_var 0) me_int) (me_un un_neg op1_neg me_int)) me_int (nomark _)))))
 (mss_one (ms_ex (me_bm0 (.inr rfl) PySem.F.plainAttrs_list PySem.F.slot_list_pop PySem.F.type_list_pop mt_pop opm_pop (me_ix (me_var 0) me_int)))))
 (mss_cons (ms_if (mt_cmp (op_neD hr.units) op2_ne (me_ix (me_var 0) me_int) (me_lst ma_nil) (nomark _))
 (mss_cons (ms_set 2 nd (me_bm0 (.inr rfl) PySem.F.plainAttrs_list PySem.F.slot_list_pop PySem.F.type_list_pop mt_pop opm_pop (me_ix (me_var 0) me_int)))
 (mss_cons (ms_ex (me_bm (.inr rfl) PySem.F.plainAttrs_list PySem.F.slot_list_append PySem.F.type_list_append mt_append opm_append (me_ix (me_var 0) me_int) (ma_cons (me_op op_fdiv op2_fdiv (me_var 2) (me_var 1)) ma_nil)))
 (mss_one (ms_ret (me_op op_mod op2_mod (me_callTy cr_int opl_int T.int_ bt_int (ma_cons (me_var 2) ma_nil)) (me_var 1))))))
 mss_nil)
 (mss_cons (ms_sub (me_op op_mod op2_mod (me_callTy cr_int opl_int T.int_ bt_int (ma_cons (me_op or_add op2_add (me_op or_mul op2_mul (me_ix (me_var 0) me_int) me_int) me_int) ma_nil)) me_int) (me_var 0) me_int)
 (mss_one (ms_ret (me_op op_mod op2_mod (me_callTy cr_int opl_int T.int_ bt_int (ma_cons (me_op op_fdiv op2_fdiv (me_ix (me_var 0) me_int) me_int) ma_nil)) (me_var 1)))))))
end P64
end
section
set_option maxRecDepth 100000
set_option maxHeartbeats 4000000
set_option autoImplicit false
set_option linter.all false
namespace P64
open PySem L2 DL
abbrev N__law_pick : List Str := ["heap", "some"]
theorem sc__law_pick : FnScope N__law_pick ["heap", "some"] (defScope s__law_pick) := ⟨rfl, rfl, rfl, by decide +kernel, rfl, by decide +kernel, by decide +kernel⟩
def F__law_pick : FF := fnF0 2 (sRet (e2 ixF (eV 1) (eCall F__law_draw 2 (aC (eV 0) (aC (eL lenF (aC (eV 1) aN)) aN)))))
theorem ok__law_pick {P : Program} {w : World} {K : PySem.W.Frag} {mg : Str → Option Value} {base : Heap} {f : Addr} {fd : FuncData} (U : Fun K "_law_pick" "_law_pick" s__law_pick f fd) (T : Txt w K mg) (k__law_draw : Knows P w K mg base CX0 1 "_law_draw" ["heap", "many"] F__law_draw) : FnM P w K mg base CX0 2 f fd ["heap", "some"] F__law_pick :=
  fn_m0 U sc__law_pick rfl fun cdv A outer s H E hr hgd => by
    have nd := sc__law_pick.nd
    exact (mss_one (ms_ret (me_ix (me_var 1) (me_fn 2 k__law_draw hr hgd passN (ma_cons (me_var 0) (ma_cons (me_callB call_len opl_len T.len bf_len (ma_cons (me_var 1) ma_nil)) ma_nil))))))
end P64
end
section
set_option maxRecDepth 100000
set_option maxHeartbeats 4000000
set_option autoImplicit false
set_option linter.all false
namespace P64
open PySem L2 DL
abbrev N__law_command : List Str := ["heap", "names", "word", "some", "move", "number", "pairs", "points", "turn"]
theorem sc__law_command : FnScope N__law_command ["heap", "names"] (defScope s__law_command) := ⟨rfl, rfl, rfl, by decide +kernel, rfl, by decide +kernel, by decide +kernel⟩
def E__law_command_0 : EF := (eTup (aC (eCall F__law_pick 2 (aC (eV 0) (aC (eV 3) aN))) (aC (eCall F__law_pick 2 (aC (eV 0) (aC (eLst (aC (eC (.int 0)) (aC (eC (.int 5)) (aC (e2 subF (eC (.int 0)) (eC (.int 7))) (aC (e2 powF (eC (.int 10)) (eC (.int 6))) (aC (e2 subF (eC (.int 0)) (e2 powF (eC (.int 10)) (eC (.int 6)))) aN)))))) aN))) aN)))
def E__law_command_1 : EF := (eCall F__law_pick 2 (aC (eV 0) (aC (e2 addF (eV 3) (eLst (aC (eC (.str "0")) aN))) aN)))
def F__law_command : FF := fnF0 9 (sSeq (sAsg (eTup (aC (eCall F__law_pick 2 (aC (eV 0) (aC (eLst (aC (eC (.str "come")) (aC (eC (.str "wish")) (aC (eC (.str "rule")) (aC (eC (.str "ease")) (aC (eC (.str "add")) (aC (eC (.str "bar")) (aC (eC (.str "state")) (aC (eC (.str "quantity")) (aC (eC (.str "leave")) (aC (eC (.str "now")) (aC (eC (.str "may")) (aC (eC (.str "bear")) (aC (eC (.str "range")) (aC (eC (.str "hold")) aN))))))))))))))) aN))) (aC (e2 addF (eL lisF (aC (eV 1) aN)) (eLst (aC (eC (.str "zz")) (aC (eC (.str "abcdef")) aN)))) aN))) (gT (gsC (gN 2) (gsC (gN 3) gsN))))
 (sSeq (sPar 4 5 (aC (eCall F__law_pick 2 (aC (eV 0) (aC (eLst (aC (eC (.int 0)) (aC (eC (.int 1)) (aC (eC (.int 39)) (aC (eC (.int 2)) aN))))) aN))) (aC (eCall F__law_pick 2 (aC (eV 0) (aC (eLst (aC (eC (.int 0)) (aC (eC (.int 29)) (aC (eC (.int 1)) aN)))) aN))) aN)))
 (sSeq (sAsg (eL tupF (aC (eLc (iR1 (aC (eCall F__law_pick 2 (aC (eV 0) (aC (eLst (aC (eC (.int 1)) (aC (eC (.int 0)) (aC (eC (.int 2)) (aC (eC (.int 3)) aN))))) aN))) aN)) (gN 8) bY E__law_command_0 [8]) aN)) (gN 6))
 (sSeq (sIf (asB (e2 (inF false) (eV 2) (eLst (aC (eC (.str "come")) (aC (eC (.str "bar")) (aC (eC (.str "range")) aN))))))
 (sRet (eTup (aC (eV 2) (aC (eV 4) aN))))
 sNil)
 (sSeq (sIf (asB (e2 (inF false) (eV 2) (eLst (aC (eC (.str "wish")) (aC (eC (.str "may")) (aC (eC (.str "hold")) aN))))))
 (sRet (eTup (aC (eV 2) (aC (eIf (asB (e2 (eqF true) (eV 2) (eC (.str "hold")))) (eV 4) (eCall F__law_pick 2 (aC (eV 0) (aC (eV 3) aN)))) (aC (eV 6) aN)))))
 sNil)
 (sSeq (sIf (asB (e2 (inF false) (eV 2) (eLst (aC (eC (.str "rule")) (aC (eC (.str "bear")) aN)))))
 (sSeq (sAsg (eLc (iR1 (aC (eC (.int 2)) aN)) (gN 8) bY E__law_command_1 [8]) (gN 7))
 (sRet (eTup (aC (eV 2) (aC (eV 4) (aC (eCall F__law_pick 2 (aC (eV 0) (aC (eLst (aC (eC (.str "rise")) (aC (eC (.str "fall")) (aC (eC (.str "now")) aN)))) aN))) (aC (e2 ixF (eV 7) (eC (.int 0))) (aC (e2 ixF (eV 7) (eC (.int 1))) (aC (eCall F__law_pick 2 (aC (eV 0) (aC (eLst (aC (eC (.int 0)) (aC (eC (.int 3)) (aC (e2 subF (eC (.int 0)) (eC (.int 4))) (aC (eC (.int 1000)) (aC (e2 subF (eC (.int 0)) (eC (.int 1000))) aN)))))) aN))) aN)))))))))
 sNil)
 (sSeq (sIf (asB (e2 (eqF false) (eV 2) (eC (.str "ease"))))
 (sRet (eTup (aC (eV 2) (aC (eV 4) (aC (eV 5) aN)))))
 sNil)
 (sSeq (sIf (asB (e2 (eqF false) (eV 2) (eC (.str "add"))))
 (sRet (eTup (aC (eV 2) (aC (eCall F__law_pick 2 (aC (eV 0) (aC (eV 3) aN))) (aC (eCall F__law_pick 2 (aC (eV 0) (aC (eV 3) aN))) (aC (eCall F__law_pick 2 (aC (eV 0) (aC (eV 3) aN))) aN))))))
 sNil)
 (sSeq (sIf (asB (e2 (eqF false) (eV 2) (eC (.str "quantity"))))
 (sRet (eTup (aC (eV 2) (aC (eCall F__law_pick 2 (aC (eV 0) (aC (eV 3) aN))) (aC (eCall F__law_pick 2 (aC (eV 0) (aC (eLst (aC (eC (.int 0)) (aC (eC (.int 9)) (aC (e2 powF (eC (.int 10)) (eC (.int 6))) (aC (e2 subF (eC (.int 0)) (e2 powF (eC (.int 10)) (eC (.int 6)))) aN))))) aN))) aN)))))
 sNil)
 (sRet (eIf (asB (e2 (eqF false) (eV 2) (eC (.str "now")))) (eTup (aC (eV 2) aN)) (eTup (aC (eV 2) (aC (eCall F__law_pick 2 (aC (eV 0) (aC (eV 3) aN))) aN))))))))))))))
theorem ok__law_command {P : Program} {w : World} {K : PySem.W.Frag} {mg : Str → Option Value} {base : Heap} {f : Addr} {fd : FuncData} (U : Fun K "_law_command" "_law_command" s__law_command f fd) (T : Txt w K mg) (k__law_pick : Knows P w K mg base CX0 2 "_law_pick" ["heap", "some"] F__law_pick) : FnM P w K mg base CX0 3 f fd ["heap", "names"] F__law_command :=
  fn_m0 U sc__law_command rfl fun cdv A outer s H E hr hgd => by
    have nd := sc__law_command.nd
    exact (mss_cons (ms_asg (me_tup (ma_cons (me_fn 2 k__law_pick hr hgd passN (ma_cons (me_var 0) (ma_cons (me_lst (ma_cons me_str (ma_cons me_str (ma_cons me_str (ma_cons me_str (ma_cons me_str (ma_cons me_str (ma_cons me_str (ma_cons me_str (ma_cons me_str (ma_cons me_str (ma_cons me_str (ma_cons me_str (ma_cons me_str (ma_cons me_str ma_nil))))))))))))))) ma_nil))) (ma_cons (me_op or_add op2_add (me_callTy call_list_of opl_lis T.list_ bt_list (ma_cons (me_var 1) ma_nil)) (me_lst (ma_cons me_str (ma_cons me_str ma_nil)))) ma_nil))) (mg_tup (mgs_cons (mg_name 2 nd) (mgs_cons (mg_name 3 nd) mgs_nil)) (gsl_cons (gsl_cons gsl_nil))))
 (mss_cons (ms_par 4 5 nd (ma_cons (me_fn 2 k__law_pick hr hgd passN (ma_cons (me_var 0) (ma_cons (me_lst (ma_cons me_int (ma_cons me_int (ma_cons me_int (ma_cons me_int ma_nil))))) ma_nil))) (ma_cons (me_fn 2 k__law_pick hr hgd passN (ma_cons (me_var 0) (ma_cons (me_lst (ma_cons me_int (ma_cons me_int (ma_cons me_int ma_nil)))) ma_nil))) ma_nil)))
 (mss_cons (ms_set 6 nd (me_callTy call_tuple_of opl_tup T.tuple_ bt_tuple (ma_cons (me_lc (own := [("turn", 8)]) nd (mi_range1 T.range (ma_cons (me_fn 2 k__law_pick hr hgd passN (ma_cons (me_var 0) (ma_cons (me_lst (ma_cons me_int (ma_cons me_int (ma_cons me_int (ma_cons me_int ma_nil))))) ma_nil))) ma_nil)) (by show BlkOk N__law_command (defScope s__law_command) _ _; exact blkOk_by (by decide +kernel)) (fun _ _ _ _ _ => (pg_name (i := 8) nd rfl (Or.inl rfl))) (gok_name 8) (by decide) (fun _ _ _ _ _ => mts_nil) (fun _ _ _ _ _ => (me_tup (ma_cons (me_fn 2 k__law_pick hr hgd passN (ma_cons (me_var 0) (ma_cons (me_var 3) ma_nil))) (ma_cons (me_fn 2 k__law_pick hr hgd passN (ma_cons (me_var 0) (ma_cons (me_lst (ma_cons me_int (ma_cons me_int (ma_cons (me_op or_sub op2_sub me_int me_int) (ma_cons (me_op op_pow op2_pow me_int me_int) (ma_cons (me_op or_sub op2_sub me_int (me_op op_pow op2_pow me_int me_int)) ma_nil)))))) ma_nil))) ma_nil))))) ma_nil)))
 (mss_cons (ms_if (mt_cmp or_in op2_in (me_var 2) (me_lst (ma_cons me_str (ma_cons me_str (ma_cons me_str ma_nil)))) (by with_unfolding_all rfl))
 (mss_one (ms_ret (me_tup (ma_cons (me_var 2) (ma_cons (me_var 4) ma_nil)))))
 mss_nil)
 (mss_cons (ms_if (mt_cmp or_in op2_in (me_var 2) (me_lst (ma_cons me_str (ma_cons me_str (ma_cons me_str ma_nil)))) (by with_unfolding_all rfl))
 (mss_one (ms_ret (me_tup (ma_cons (me_var 2) (ma_cons (me_if (mt_cmp (op_neD hr.units) op2_ne (me_var 2) me_str (nomark _)) (me_var 4) (me_fn 2 k__law_pick hr hgd passN (ma_cons (me_var 0) (ma_cons (me_var 3) ma_nil)))) (ma_cons (me_var 6) ma_nil))))))
 mss_nil)
 (mss_cons (ms_if (mt_cmp or_in op2_in (me_var 2) (me_lst (ma_cons me_str (ma_cons me_str ma_nil))) (by with_unfolding_all rfl))
 (mss_cons (ms_setLc 7 (own := [("turn", 8)]) nd (mi_range1 T.range (ma_cons me_int ma_nil)) (by show BlkOk N__law_command (defScope s__law_command) _ _; exact blkOk_by (by decide +kernel)) (fun _ _ _ _ _ => (pg_name (i := 8) nd rfl (Or.inl rfl))) (gok_name 8) (by decide) (fun _ _ _ _ _ => mts_nil) (fun _ _ _ _ _ => (me_fn 2 k__law_pick hr hgd passN (ma_cons (me_var 0) (ma_cons (me_op or_add op2_add (me_var 3) (me_lst (ma_cons me_str ma_nil))) ma_nil)))) (sw_true rfl rfl rfl (by decide +kernel)))
 (mss_one (ms_ret (me_tup (ma_cons (me_var 2) (ma_cons (me_var 4) (ma_cons (me_fn 2 k__law_pick hr hgd passN (ma_cons (me_var 0) (ma_cons (me_lst (ma_cons me_str (ma_cons me_str (ma_cons me_str ma_nil)))) ma_nil))) (ma_cons (me_ix (me_var 7) me_int) (ma_cons (me_ix (me_var 7) me_int) (ma_cons (me_fn 2 k__law_pick hr hgd passN (ma_cons (me_var 0) (ma_cons (me_lst (ma_cons me_int (ma_cons me_int (ma_cons (me_op or_sub op2_sub me_int me_int) (ma_cons me_int (ma_cons (me_op or_sub op2_sub me_int me_int) ma_nil)))))) ma_nil))) ma_nil))))))))))
 mss_nil)
 (mss_cons (ms_if (mt_cmp (op_eqD hr.units) op2_eq (me_var 2) me_str (nomark _))
 (mss_one (ms_ret (me_tup (ma_cons (me_var 2) (ma_cons (me_var 4) (ma_cons (me_var 5) ma_nil))))))
 mss_nil)
 (mss_cons (ms_if (mt_cmp (op_eqD hr.units) op2_eq (me_var 2) me_str (nomark _))
 (mss_one (ms_ret (me_tup (ma_cons (me_var 2) (ma_cons (me_fn 2 k__law_pick hr hgd passN (ma_cons (me_var 0) (ma_cons (me_var 3) ma_nil))) (ma_cons (me_fn 2 k__law_pick hr hgd passN (ma_cons (me_var 0) (ma_cons (me_var 3) ma_nil))) (ma_cons (me_fn 2 k__law_pick hr hgd passN (ma_cons (me_var 0) (ma_cons (me_var 3) ma_nil))) ma_nil)))))))
 mss_nil)
 (mss_cons (ms_if (mt_cmp (op_eqD hr.units) op2_eq (me_var 2) me_str (nomark _))
 (mss_one (ms_ret (me_tup (ma_cons (me_var 2) (ma_cons (me_fn 2 k__law_pick hr hgd passN (ma_cons (me_var 0) (ma_cons (me_var 3) ma_nil))) (ma_cons (me_fn 2 k__law_pick hr hgd passN (ma_cons (me_var 0) (ma_cons (me_lst (ma_cons me_int (ma_cons me_int (ma_cons (me_op op_pow op2_pow me_int me_int) (ma_cons (me_op or_sub op2_sub me_int (me_op op_pow op2_pow me_int me_int)) ma_nil))))) ma_nil))) ma_nil))))))
 mss_nil)
 (mss_one (ms_ret (me_if (mt_cmp (op_eqD hr.units) op2_eq (me_var 2) me_str (nomark _)) (me_tup (ma_cons (me_var 2) ma_nil)) (me_tup (ma_cons (me_var 2) (ma_cons (me_fn 2 k__law_pick hr hgd passN (ma_cons (me_var 0) (ma_cons (me_var 3) ma_nil))) ma_nil)))))))))))))))
end P64
end
section
set_option maxRecDepth 100000
set_option maxHeartbeats 4000000
set_option autoImplicit false
set_option linter.all false
namespace P64
open PySem L2 DL
abbrev N__law_words : List Str := ["command", "found", "part", "name", "value"]
theorem sc__law_words : FnScope N__law_words ["command"] (defScope s__law_words) := ⟨rfl, rfl, rfl, by decide +kernel, rfl, by decide +kernel, by decide +kernel⟩
def B__law_words_0 : SF := (sAsg (e2 addF (eV 1) (eLst (aC (eV 3) (aC (eL strF (aC (eV 4) aN)) aN)))) (gN 1))
def B__law_words_1 : SF := (sIf (asB (e1 (isiF "tuple") (eV 2)))
 (sFor (iT (eV 2)) (gT (gsC (gN 3) (gsC (gN 4) gsN)))
 B__law_words_0)
 (sEx (eM "list" appendF (eV 1) (aC (eL strF (aC (eV 2) aN)) aN))))
def F__law_words : FF := scF (fnF0 5 (sSeq (sAsg (eNew aN) (gN 1))
 (sSeq (sFor (iT (eV 0)) (gN 2)
 B__law_words_1)
 (sRet (eV 1)))))
theorem ok__law_words {P : Program} {w : World} {K : PySem.W.Frag} {mg : Str → Option Value} {base : Heap} {f : Addr} {fd : FuncData} (U : Fun K "_law_words" "_law_words" s__law_words f fd) (T : Txt w K mg) : FnM P w K mg base CX0 1 f fd ["command"] F__law_words :=
  (fn_m0 U sc__law_words rfl fun cdv A outer s H E hr hgd => by
    have nd := sc__law_words.nd
    exact (mss_cons (ms_set 1 nd (me_new ma_nil))
 (mss_cons (ms_for .never (mi_tup (me_var 0)) (mg_name 2 nd)
 (mss_one (ms_if (mt_val (me_isi (T := "tuple") (by decide) T.isinstance T.tuple_ bt_tuple (me_var 2)))
 (mss_one (ms_for .never (mi_tup (me_var 2)) (mg_tup (mgs_cons (mg_name 3 nd) (mgs_cons (mg_name 4 nd) mgs_nil)) (gsl_cons (gsl_cons gsl_nil)))
 (mss_one (ms_set 1 nd (me_op or_add op2_add (me_var 1) (me_lst (ma_cons (me_var 3) (ma_cons (me_callTy cr_str opl_str T.str_ bt_str (ma_cons (me_var 4) ma_nil)) ma_nil))))))))
 (mss_one (ms_ex (me_bm (.inr rfl) PySem.F.plainAttrs_list PySem.F.slot_list_append PySem.F.type_list_append mt_append opm_append (me_var 1) (ma_cons (me_callTy cr_str opl_str T.str_ bt_str (ma_cons (me_var 2) ma_nil)) ma_nil)))))))
 (mss_one (ms_ret (me_var 1)))))).sc
end P64
end
section
set_option maxRecDepth 100000
set_option maxHeartbeats 4000000
set_option autoImplicit false
set_option linter.all false
namespace P64
open PySem L2 DL
abbrev N__law_text : List Str := ["heap", "commands", "lines", "command", "words", "at", "odd", "line", "word"]
theorem sc__law_text : FnScope N__law_text ["heap", "commands"] (defScope s__law_text) := ⟨rfl, rfl, rfl, by decide +kernel, rfl, by decide +kernel, by decide +kernel⟩
def B__law_text_0 : SF := (sAsg (e2 addF (e2 addF (eV 7) (eV 8)) (e2 mulF (eC (.str " ")) (e2 addF (eC (.int 1)) (eL intF (aC (e2 (eqF false) (eCall F__law_draw 2 (aC (eV 0) (aC (eC (.int 5)) aN))) (eC (.int 0))) aN))))) (gN 7))
def B__law_text_1 : SF := (sSeq (sAsg (eCall F__law_words 1 (aC (eV 3) aN)) (gN 4))
 (sSeq (sIf (asB (e2 (eqF false) (eCall F__law_draw 2 (aC (eV 0) (aC (eC (.int 4)) aN))) (eC (.int 0))))
 (sSeq (sAsg (eCall F__law_draw 2 (aC (eV 0) (aC (eL lenF (aC (eV 4) aN)) aN))) (gN 5))
 (sSeq (sAsg (eLst (aC (eC (.str "0")) (aC (eC (.str "-0")) (aC (eC (.str "07")) (aC (eC (.str "x")) (aC (eC (.str "-")) (aC (eC (.str "1000001")) (aC (eC (.str "12345678")) (aC (eC (.str "-5")) (aC (eC (.str "zz")) (aC (eC (.str "now")) (aC (eC (.str "rise")) (aC (eC (.str "A")) (aC (eC (.str "5x")) (aC (e2 ixF (eV 4) (e1 negF (eC (.int 1)))) (aC (eC (.str "1000000")) (aC (eC (.str "-1000")) (aC (eC (.str "1001")) aN)))))))))))))))))) (gN 6))
 (sAsg (e2 addF (e2 addF (eSl (eV 4) oN (oS (eV 5))) (eCall F__law_pick 2 (aC (eV 0) (aC (eLst (aC (eLst (aC (eCall F__law_pick 2 (aC (eV 0) (aC (eV 6) aN))) aN)) (aC (eLst aN) (aC (eLst (aC (eCall F__law_pick 2 (aC (eV 0) (aC (eV 6) aN))) (aC (e2 ixF (eV 4) (eV 5)) aN))) aN)))) aN)))) (eSl (eV 4) (oS (e2 addF (eV 5) (eC (.int 1)))) oN)) (gN 4))))
 sNil)
 (sSeq (sAsg (e2 mulF (eC (.str " ")) (eCall F__law_draw 2 (aC (eV 0) (aC (eC (.int 2)) aN)))) (gN 7))
 (sSeq (sFor (iL (eV 4)) (gN 8)
 B__law_text_0)
 (sSeq (sEx (eM "list" appendF (eV 2) (aC (eIf (asB (e2 (eqF false) (eCall F__law_draw 2 (aC (eV 0) (aC (eC (.int 3)) aN))) (eC (.int 0)))) (eV 7) (eM "str" rstripF (eV 7) (aC (eC (.str " ")) aN))) aN)))
 (sAsg (e2 addNF (eV 2) (e2 mulF (eLst (aC (e2 mulF (eC (.str " ")) (eCall F__law_draw 2 (aC (eV 0) (aC (eC (.int 3)) aN)))) aN)) (eL intF (aC (e2 (eqF false) (eCall F__law_draw 2 (aC (eV 0) (aC (eC (.int 5)) aN))) (eC (.int 0))) aN)))) (gN 2)))))))
def F__law_text : FF := scF (fnF0 9 (sSeq (sAsg (eNew aN) (gN 2))
 (sSeq (sFor (iL (eV 1)) (gN 3)
 B__law_text_1)
 (sRet (eM "str" joinF (eC (.str "\n")) (aC (eV 2) aN))))))
theorem ok__law_text {P : Program} {w : World} {K : PySem.W.Frag} {mg : Str → Option Value} {base : Heap} {f : Addr} {fd : FuncData} (U : Fun K "_law_text" "_law_text" s__law_text f fd) (T : Txt w K mg) (k__law_words : Knows P w K mg base CX0 1 "_law_words" ["command"] F__law_words) (k__law_draw : Knows P w K mg base CX0 1 "_law_draw" ["heap", "many"] F__law_draw) (k__law_pick : Knows P w K mg base CX0 2 "_law_pick" ["heap", "some"] F__law_pick) : FnM P w K mg base CX0 3 f fd ["heap", "commands"] F__law_text :=
  (fn_m0 U sc__law_text rfl fun cdv A outer s H E hr hgd => by
    have nd := sc__law_text.nd
    exact (mss_cons (ms_set 2 nd (me_new ma_nil))
 (mss_cons (ms_for .never (mi_list (me_var 1)) (mg_name 3 nd)
 (mss_cons (ms_set 4 nd (me_fn 1 k__law_words hr hgd passN (ma_cons (me_var 3) ma_nil)))
 (mss_cons (ms_if (mt_cmp (op_eqD hr.units) op2_eq (me_fn 2 k__law_draw hr hgd passN (ma_cons (me_var 0) (ma_cons me_int ma_nil))) me_int (nomark _))
 (mss_cons (ms_set 5 nd (me_fn 2 k__law_draw hr hgd passN (ma_cons (me_var 0) (ma_cons (me_callB call_len opl_len T.len bf_len (ma_cons (me_var 4) ma_nil)) ma_nil))))
 (mss_cons (ms_set 6 nd (me_lst (ma_cons me_str (ma_cons me_str (ma_cons me_str (ma_cons me_str (ma_cons me_str (ma_cons me_str (ma_cons me_str (ma_cons me_str (ma_cons me_str (ma_cons me_str (ma_cons me_str (ma_cons me_str (ma_cons me_str (ma_cons (me_ix (me_var 4) (me_un un_neg op1_neg me_int)) (ma_cons me_str (ma_cons me_str (ma_cons me_str ma_nil)))))))))))))))))))
 (mss_one (ms_set 4 nd (me_op or_add op2_add (me_op or_add op2_add (me_slice (me_var 4) mo_none (mo_some (me_var 5))) (me_fn 2 k__law_pick hr hgd passN (ma_cons (me_var 0) (ma_cons (me_lst (ma_cons (me_lst (ma_cons (me_fn 2 k__law_pick hr hgd passN (ma_cons (me_var 0) (ma_cons (me_var 6) ma_nil))) ma_nil)) (ma_cons (me_lst ma_nil) (ma_cons (me_lst (ma_cons (me_fn 2 k__law_pick hr hgd passN (ma_cons (me_var 0) (ma_cons (me_var 6) ma_nil))) (ma_cons (me_ix (me_var 4) (me_var 5)) ma_nil))) ma_nil)))) ma_nil)))) (me_slice (me_var 4) (mo_some (me_op or_add op2_add (me_var 5) me_int)) mo_none))))))
 mss_nil)
 (mss_cons (ms_set 7 nd (me_op or_mul op2_mul me_str (me_fn 2 k__law_draw hr hgd passN (ma_cons (me_var 0) (ma_cons me_int ma_nil)))))
 (mss_cons (ms_for .never (mi_list (me_var 4)) (mg_name 8 nd)
 (mss_one (ms_set 7 nd (me_op or_add op2_add (me_op or_add op2_add (me_var 7) (me_var 8)) (me_op or_mul op2_mul me_str (me_op or_add op2_add me_int (me_callTy cr_int opl_int T.int_ bt_int (ma_cons (me_cmp (op_eqD hr.units) op2_eq (me_fn 2 k__law_draw hr hgd passN (ma_cons (me_var 0) (ma_cons me_int ma_nil))) me_int (nomark _)) ma_nil))))))))
 (mss_cons (ms_ex (me_bm (.inr rfl) PySem.F.plainAttrs_list PySem.F.slot_list_append PySem.F.type_list_append mt_append opm_append (me_var 2) (ma_cons (me_if (mt_cmp (op_eqD hr.units) op2_eq (me_fn 2 k__law_draw hr hgd passN (ma_cons (me_var 0) (ma_cons me_int ma_nil))) me_int (nomark _)) (me_var 7) (me_bm (.inl rfl) PySem.F.plainAttrs_str PySem.F.slot_str_rstrip PySem.F.type_str_rstrip mt_rstripChars opm_rstrip (me_var 7) (ma_cons me_str ma_nil))) ma_nil)))
 (mss_one (ms_set 2 nd (me_op or_add op2_addN (me_var 2) (me_op or_mul op2_mul (me_lst (ma_cons (me_op or_mul op2_mul me_str (me_fn 2 k__law_draw hr hgd passN (ma_cons (me_var 0) (ma_cons me_int ma_nil)))) ma_nil)) (me_callTy cr_int opl_int T.int_ bt_int (ma_cons (me_cmp (op_eqD hr.units) op2_eq (me_fn 2 k__law_draw hr hgd passN (ma_cons (me_var 0) (ma_cons me_int ma_nil))) me_int (nomark _)) ma_nil))))))))))))
 (mss_one (ms_ret (me_bm (.inl rfl) PySem.F.plainAttrs_str PySem.F.slot_str_join PySem.F.type_str_join mt_join opm_join me_str (ma_cons (me_var 2) ma_nil))))))).sc
end P64
end
section
set_option maxRecDepth 100000
set_option maxHeartbeats 4000000
set_option autoImplicit false
set_option linter.all false
namespace P64
open PySem L2 DL
abbrev N_integer_told : List Str := ["word", "digits", "sign"]
theorem sc_integer_told : FnScope N_integer_told ["word"] (defScope s_integer_told) := ⟨rfl, rfl, rfl, by decide +kernel, rfl, by decide +kernel, by decide +kernel⟩
def E_integer_told_0 : EF := (e2 (inF false) (eV 2) (eC c_DIGITS))
def F_integer_told : FF := fnF0 3 (sSeq (sAsg (eIf (asB (e2 (eqF false) (eSl (eV 0) oN (oS (eC (.int 1)))) (eC (.str "-")))) (eSl (eV 0) (oS (eC (.int 1))) oN) (eV 0)) (gN 1))
 (sSeq (sIf (bOr (bNot (asB (eCh leF leF (eC (.int 1)) (eL lenF (aC (eV 1) aN)) (eC (.int 7))))) (bNot (asB (eL allF (aC (eLc (iS (eV 1)) (gN 2) bY E_integer_told_0 [2]) aN)))))
 (sRet (eC .non))
 sNil)
 (sSeq (sIf (bOr (bAnd (asB (e2 (eqF false) (e2 ixF (eV 1) (eC (.int 0))) (eC (.str "0")))) (asB (e2 gtF (eL lenF (aC (eV 1) aN)) (eC (.int 1))))) (asB (e2 (eqF false) (eV 0) (eC (.str "-0")))))
 (sRet (eC .non))
 sNil)
 (sRet (eIf (asB (e2 (eqF false) (e2 ixF (eV 0) (eC (.int 0))) (eC (.str "-")))) (e1 negF (eL intF (aC (eV 1) aN))) (eL intF (aC (eV 1) aN)))))))
theorem ok_integer_told {P : Program} {w : World} {K : PySem.W.Frag} {mg : Str → Option Value} {base : Heap} {f : Addr} {fd : FuncData} (U : Fun K "integer_told" "integer_told" s_integer_told f fd) (T : Txt w K mg) : FnM P w K mg base CX0 1 f fd ["word"] F_integer_told :=
  fn_m0 U sc_integer_told rfl fun cdv A outer s H E hr hgd => by
    have nd := sc_integer_told.nd
    exact (mss_cons (ms_set 1 nd (me_if (mt_cmp (op_eqD hr.units) op2_eq (me_slice (me_var 0) mo_none (mo_some me_int)) me_str (nomark _)) (me_slice (me_var 0) (mo_some me_int) mo_none) (me_var 0)))
 (mss_cons (ms_if (mt_w (mw_or (mt_not (mt_chain or_le or_le (fun _ => op2_cm) op2_cm cm_pure me_int (me_callB call_len opl_len T.len bf_len (ma_cons (me_var 1) ma_nil)) me_int)) (mw_or1 (mt_not (mt_val (me_callB (cr_all rfl) opl_all T.all bf_all (ma_cons (me_lc (own := [("sign", 2)]) nd (mi_str (me_var 1)) (by show BlkOk N_integer_told (defScope s_integer_told) _ _; exact blkOk_by (by decide +kernel)) (fun _ _ _ _ _ => (pg_name (i := 2) nd rfl (Or.inl rfl))) (gok_name 2) (by decide) (fun _ _ _ _ _ => mts_nil) (fun _ _ _ _ _ => (me_cmp or_in op2_in (me_var 2) T.c_DIGITS.me (by with_unfolding_all rfl)))) ma_nil)))))))
 (mss_one (ms_ret me_non))
 mss_nil)
 (mss_cons (ms_if (mt_w (mw_or (mt_w (mw_and (mt_cmp (op_eqD hr.units) op2_eq (me_ix (me_var 1) me_int) me_str (nomark _)) (mw_and1 (mt_cmp or_gt op2_cm (me_callB call_len opl_len T.len bf_len (ma_cons (me_var 1) ma_nil)) me_int (nomark _))))) (mw_or1 (mt_cmp (op_eqD hr.units) op2_eq (me_var 0) me_str (nomark _)))))
 (mss_one (ms_ret me_non))
 mss_nil)
 (mss_one (ms_ret (me_if (mt_cmp (op_eqD hr.units) op2_eq (me_ix (me_var 0) me_int) me_str (nomark _)) (me_un un_neg op1_neg (me_callTy cr_int opl_int T.int_ bt_int (ma_cons (me_var 1) ma_nil))) (me_callTy cr_int opl_int T.int_ bt_int (ma_cons (me_var 1) ma_nil))))))))
end P64
end
section
set_option maxRecDepth 100000
set_option maxHeartbeats 4000000
set_option autoImplicit false
set_option linter.all false
namespace P64
open PySem L2 DL
abbrev N_parts_told : List Str := ["kinds", "words", "some", "kind", "word"]
theorem sc_parts_told : FnScope N_parts_told ["kinds", "words"] (defScope s_parts_told) := ⟨rfl, rfl, rfl, by decide +kernel, rfl, by decide +kernel, by decide +kernel⟩
def E_parts_told_0 : EF := (eIf (asB (e2 (inF false) (eV 3) (eV 2))) (eV 4) (eCall F_integer_told 1 (aC (eV 4) aN)))
def F_parts_told : FF := fnF0 5 (sSeq (sAsg (eTup (aC (eC (.str "name")) (aC (eC (.str "point")) (aC (eC (.str "kind")) aN)))) (gN 2))
 (sRet (eL tupF (aC (eLc (iZp true false (aC (eV 0) (aC (eV 1) aN))) (gT (gsC (gN 3) (gsC (gN 4) gsN))) bY E_parts_told_0 [3, 4]) aN))))
theorem ok_parts_told {P : Program} {w : World} {K : PySem.W.Frag} {mg : Str → Option Value} {base : Heap} {f : Addr} {fd : FuncData} (U : Fun K "parts_told" "parts_told" s_parts_told f fd) (T : Txt w K mg) (k_integer_told : Knows P w K mg base CX0 1 "integer_told" ["word"] F_integer_told) : FnM P w K mg base CX0 2 f fd ["kinds", "words"] F_parts_told :=
  fn_m0 U sc_parts_told rfl fun cdv A outer s H E hr hgd => by
    have nd := sc_parts_told.nd
    exact (mss_cons (ms_set 2 nd (me_tup (ma_cons me_str (ma_cons me_str (ma_cons me_str ma_nil)))))
 (mss_one (ms_ret (me_callTy call_tuple_of opl_tup T.tuple_ bt_tuple (ma_cons (me_lc (own := [("kind", 3), ("word", 4)]) nd (mi_zipB true false T.zip (ma_cons (me_var 0) (ma_cons (me_var 1) ma_nil))) (by show BlkOk N_parts_told (defScope s_parts_told) _ _; exact blkOk_by (by decide +kernel)) (fun _ _ _ _ _ => (pg_tup rfl (pgs_cons (pg_name (i := 3) nd rfl (Or.inl rfl)) (pgs_cons (pg_name (i := 4) nd rfl (Or.inl rfl)) pgs_nil)))) (gok_tup (gsok_cons (gok_name 3) (gsok_cons (gok_name 4) gsok_nil)) (gsl_cons (gsl_cons gsl_nil))) (by decide) (fun _ _ _ _ _ => mts_nil) (fun _ _ _ _ _ => (me_if (mt_cmp or_in op2_in (me_var 3) (me_var 2) (by with_unfolding_all rfl)) (me_var 4) (me_fn 1 k_integer_told hr hgd passN (ma_cons (me_var 4) ma_nil))))) ma_nil)))))
end P64
end
section
set_option maxRecDepth 100000
set_option maxHeartbeats 4000000
set_option autoImplicit false
set_option linter.all false
namespace P64
open PySem L2 DL
abbrev N_pairs_told : List Str := ["words", "at"]
theorem sc_pairs_told : FnScope N_pairs_told ["words"] (defScope s_pairs_told) := ⟨rfl, rfl, rfl, by decide +kernel, rfl, by decide +kernel, by decide +kernel⟩
def E_pairs_told_0 : EF := (eTup (aC (e2 ixF (eV 0) (eV 1)) (aC (eCall F_integer_told 1 (aC (e2 ixF (eV 0) (e2 addF (eV 1) (eC (.int 1)))) aN)) aN)))
def F_pairs_told : FF := fnF0 2 (sSeq (sIf (asB (e2 (eqF false) (e2 modF (eL lenF (aC (eV 0) aN)) (eC (.int 2))) (eC (.int 1))))
 (sRet (eC .non))
 sNil)
 (sRet (eL tupF (aC (eLc (iR3 (aC (eC (.int 0)) (aC (eL lenF (aC (eV 0) aN)) (aC (eC (.int 2)) aN)))) (gN 1) bY E_pairs_told_0 [1]) aN))))
theorem ok_pairs_told {P : Program} {w : World} {K : PySem.W.Frag} {mg : Str → Option Value} {base : Heap} {f : Addr} {fd : FuncData} (U : Fun K "pairs_told" "pairs_told" s_pairs_told f fd) (T : Txt w K mg) (k_integer_told : Knows P w K mg base CX0 1 "integer_told" ["word"] F_integer_told) : FnM P w K mg base CX0 2 f fd ["words"] F_pairs_told :=
  fn_m0 U sc_pairs_told rfl fun cdv A outer s H E hr hgd => by
    have nd := sc_pairs_told.nd
    exact (mss_cons (ms_if (mt_cmp (op_eqD hr.units) op2_eq (me_op op_mod op2_mod (me_callB call_len opl_len T.len bf_len (ma_cons (me_var 0) ma_nil)) me_int) me_int (nomark _))
 (mss_one (ms_ret me_non))
 mss_nil)
 (mss_one (ms_ret (me_callTy call_tuple_of opl_tup T.tuple_ bt_tuple (ma_cons (me_lc (own := [("at", 1)]) nd (mi_range3 T.range (ma_cons me_int (ma_cons (me_callB call_len opl_len T.len bf_len (ma_cons (me_var 0) ma_nil)) (ma_cons me_int ma_nil)))) (by show BlkOk N_pairs_told (defScope s_pairs_told) _ _; exact blkOk_by (by decide +kernel)) (fun _ _ _ _ _ => (pg_name (i := 1) nd rfl (Or.inl rfl))) (gok_name 1) (by decide) (fun _ _ _ _ _ => mts_nil) (fun _ _ _ _ _ => (me_tup (ma_cons (me_ix (me_var 0) (me_var 1)) (ma_cons (me_fn 1 k_integer_told hr hgd passN (ma_cons (me_ix (me_var 0) (me_op or_add op2_add (me_var 1) me_int)) ma_nil)) ma_nil))))) ma_nil)))))
end P64
end
section
set_option maxRecDepth 100000
set_option maxHeartbeats 4000000
set_option autoImplicit false
set_option linter.all false
namespace P64
open PySem L2 DL
abbrev N_command_told : List Str := ["words", "word", "rest", "kinds"]
theorem sc_command_told : FnScope N_command_told ["words"] (defScope s_command_told) := ⟨rfl, rfl, rfl, by decide +kernel, rfl, by decide +kernel, by decide +kernel⟩
def F_command_told : FF := fnF0 4 (sSeq (sPar 1 2 (aC (e2 ixF (eV 0) (eC (.int 0))) (aC (eSl (eV 0) (oS (eC (.int 1))) oN) aN)))
 (sSeq (sAsg (e1 (getF t_PARTS) (eV 1)) (gN 3))
 (sSeq (sIf (asB (e2 (isF false) (eV 3) (eC .non)))
 (sRet (eTup aN))
 sNil)
 (sSeq (sIf (asB (e2 (eqF false) (eSl (eV 3) (oS (e1 negF (eC (.int 1)))) oN) (eTup (aC (eC (.str "pairs")) aN))))
 (sRet (e2 addF (e2 addF (eTup (aC (eV 1) aN)) (eCall F_parts_told 2 (aC (eSl (eV 3) oN (oS (e1 negF (eC (.int 1))))) (aC (eSl (eV 2) oN (oS (eC (.int 1)))) aN)))) (eTup (aC (eCall F_pairs_told 1 (aC (eSl (eV 2) (oS (eC (.int 1))) oN) aN)) aN))))
 sNil)
 (sRet (eIf (asB (e2 (eqF false) (eL lenF (aC (eV 3) aN)) (eL lenF (aC (eV 2) aN)))) (e2 addF (eTup (aC (eV 1) aN)) (eCall F_parts_told 2 (aC (eV 3) (aC (eV 2) aN)))) (eTup aN)))))))
theorem ok_command_told {P : Program} {w : World} {K : PySem.W.Frag} {mg : Str → Option Value} {base : Heap} {f : Addr} {fd : FuncData} (U : Fun K "command_told" "command_told" s_command_told f fd) (T : Txt w K mg) (k_parts_told : Knows P w K mg base CX0 2 "parts_told" ["kinds", "words"] F_parts_told) (k_pairs_told : Knows P w K mg base CX0 2 "pairs_told" ["words"] F_pairs_told) : FnM P w K mg base CX0 3 f fd ["words"] F_command_told :=
  fn_m0 U sc_command_told rfl fun cdv A outer s H E hr hgd => by
    have nd := sc_command_told.nd
    exact (mss_cons (ms_par 1 2 nd (ma_cons (me_ix (me_var 0) me_int) (ma_cons (me_slice (me_var 0) (mo_some me_int) mo_none) ma_nil)))
 (mss_cons (ms_set 3 nd (me_get T.c_PARTS (me_var 1)))
 (mss_cons (ms_if (mt_cmp or_is op2_is (me_var 3) me_non (nomark _))
 (mss_one (ms_ret (me_tup ma_nil)))
 mss_nil)
 (mss_cons (ms_if (mt_cmp (op_eqD hr.units) op2_eq (me_slice (me_var 3) (mo_some (me_un un_neg op1_neg me_int)) mo_none) (me_tup (ma_cons me_str ma_nil)) (nomark _))
 (mss_one (ms_ret (me_op or_add op2_add (me_op or_add op2_add (me_tup (ma_cons (me_var 1) ma_nil)) (me_fn 2 k_parts_told hr hgd passN (ma_cons (me_slice (me_var 3) mo_none (mo_some (me_un un_neg op1_neg me_int))) (ma_cons (me_slice (me_var 2) mo_none (mo_some me_int)) ma_nil)))) (me_tup (ma_cons (me_fn 1 k_pairs_told hr hgd passN (ma_cons (me_slice (me_var 2) (mo_some me_int) mo_none) ma_nil)) ma_nil)))))
 mss_nil)
 (mss_one (ms_ret (me_if (mt_cmp (op_eqD hr.units) op2_eq (me_callB call_len opl_len T.len bf_len (ma_cons (me_var 3) ma_nil)) (me_callB call_len opl_len T.len bf_len (ma_cons (me_var 2) ma_nil)) (nomark _)) (me_op or_add op2_add (me_tup (ma_cons (me_var 1) ma_nil)) (me_fn 2 k_parts_told hr hgd passN (ma_cons (me_var 3) (ma_cons (me_var 2) ma_nil)))) (me_tup ma_nil))))))))
end P64
end
section
set_option maxRecDepth 100000
set_option maxHeartbeats 4000000
set_option autoImplicit false
set_option linter.all false
namespace P64
open PySem L2 DL
abbrev N_is_name : List Str := ["value", "sign"]
theorem sc_is_name : FnScope N_is_name ["value"] (defScope s_is_name) := ⟨rfl, rfl, rfl, by decide +kernel, rfl, by decide +kernel, by decide +kernel⟩
def E_is_name_0 : EF := (e2 (inF false) (eV 1) (eC c_LETTERS))
def F_is_name : FF := fnF0 2 (sSeq (sIf (bOr (bNot (asB (e1 (isiF "str") (eV 0)))) (bNot (asB (eCh leF leF (eC (.int 1)) (eL lenF (aC (eV 0) aN)) (eC c_LONGEST_NAME)))))
 (sRet (eC (.bl false)))
 sNil)
 (sRet (eL allF (aC (eLc (iS (eV 0)) (gN 1) bY E_is_name_0 [1]) aN))))
theorem ok_is_name {P : Program} {w : World} {K : PySem.W.Frag} {mg : Str → Option Value} {base : Heap} {f : Addr} {fd : FuncData} (U : Fun K "is_name" "is_name" s_is_name f fd) (T : Txt w K mg) : FnM P w K mg base CX0 1 f fd ["value"] F_is_name :=
  fn_m0 U sc_is_name rfl fun cdv A outer s H E hr hgd => by
    have nd := sc_is_name.nd
    exact (mss_cons (ms_if (mt_w (mw_or (mt_not (mt_val (me_isi (T := "str") (by decide) T.isinstance T.str_ bt_str (me_var 0)))) (mw_or1 (mt_not (mt_chain or_le or_le (fun _ => op2_cm) op2_cm cm_pure me_int (me_callB call_len opl_len T.len bf_len (ma_cons (me_var 0) ma_nil)) T.c_LONGEST_NAME.me)))))
 (mss_one (ms_ret me_bl))
 mss_nil)
 (mss_one (ms_ret (me_callB (cr_all rfl) opl_all T.all bf_all (ma_cons (me_lc (own := [("sign", 1)]) nd (mi_str (me_var 0)) (by show BlkOk N_is_name (defScope s_is_name) _ _; exact blkOk_by (by decide +kernel)) (fun _ _ _ _ _ => (pg_name (i := 1) nd rfl (Or.inl rfl))) (gok_name 1) (by decide) (fun _ _ _ _ _ => mts_nil) (fun _ _ _ _ _ => (me_cmp or_in op2_in (me_var 1) T.c_LETTERS.me (by with_unfolding_all rfl)))) ma_nil)))))
end P64
end
section
set_option maxRecDepth 100000
set_option maxHeartbeats 4000000
set_option autoImplicit false
set_option linter.all false
namespace P64
open PySem L2 DL
abbrev N_is_integer : List Str := ["value"]
theorem sc_is_integer : FnScope N_is_integer ["value"] (defScope s_is_integer) := ⟨rfl, rfl, rfl, by decide +kernel, rfl, by decide +kernel, by decide +kernel⟩
def F_is_integer : FF := fnF0 1 (sRet (eAnd (e1 (isiF "int") (eV 0)) (eNot (e1 (isiF "bool") (eV 0)))))
theorem ok_is_integer {P : Program} {w : World} {K : PySem.W.Frag} {mg : Str → Option Value} {base : Heap} {f : Addr} {fd : FuncData} (U : Fun K "is_integer" "is_integer" s_is_integer f fd) (T : Txt w K mg) : FnM P w K mg base CX0 1 f fd ["value"] F_is_integer :=
  fn_m0 U sc_is_integer rfl fun cdv A outer s H E hr hgd => by
    have nd := sc_is_integer.nd
    exact (mss_one (ms_ret (me_and (me_isi (T := "int") (by decide) T.isinstance T.int_ bt_int (me_var 0)) (me_and1 (me_not (me_isi (T := "bool") (by decide) T.isinstance T.bool_ bt_bool (me_var 0)))))))
end P64
end
section
set_option maxRecDepth 100000
set_option maxHeartbeats 4000000
set_option autoImplicit false
set_option linter.all false
namespace P64
open PySem L2 DL
abbrev N_is_told_value : List Str := ["value"]
theorem sc_is_told_value : FnScope N_is_told_value ["value"] (defScope s_is_told_value) := ⟨rfl, rfl, rfl, by decide +kernel, rfl, by decide +kernel, by decide +kernel⟩
def F_is_told_value : FF := fnF0 1 (sRet (eAnd (eCall F_is_integer 1 (aC (eV 0) aN)) (e2 leF (eL absF (aC (eV 0) aN)) (eC c_MOST_TOLD_VALUE))))
theorem ok_is_told_value {P : Program} {w : World} {K : PySem.W.Frag} {mg : Str → Option Value} {base : Heap} {f : Addr} {fd : FuncData} (U : Fun K "is_told_value" "is_told_value" s_is_told_value f fd) (T : Txt w K mg) (k_is_integer : Knows P w K mg base CX0 1 "is_integer" ["value"] F_is_integer) : FnM P w K mg base CX0 2 f fd ["value"] F_is_told_value :=
  fn_m0 U sc_is_told_value rfl fun cdv A outer s H E hr hgd => by
    have nd := sc_is_told_value.nd
    exact (mss_one (ms_ret (me_and (me_fn 1 k_is_integer hr hgd passN (ma_cons (me_var 0) ma_nil)) (me_and1 (me_cmp or_le op2_cm (me_callB call_abs opl_abs T.abs bf_abs (ma_cons (me_var 0) ma_nil)) T.c_MOST_TOLD_VALUE.me (nomark _))))))
end P64
end
section
set_option maxRecDepth 100000
set_option maxHeartbeats 4000000
set_option autoImplicit false
set_option linter.all false
namespace P64
open PySem L2 DL
abbrev N_are_pairs : List Str := ["value", "name", "number", "pair"]
theorem sc_are_pairs : FnScope N_are_pairs ["value"] (defScope s_are_pairs) := ⟨rfl, rfl, rfl, by decide +kernel, rfl, by decide +kernel, by decide +kernel⟩
def E_are_pairs_0 : EF := (eAnd (e1 (isiF "tuple") (eV 3)) (e2 (eqF false) (eL lenF (aC (eV 3) aN)) (eC (.int 2))))
def E_are_pairs_1 : EF := (eAnd (eCall F_is_name 1 (aC (eV 1) aN)) (eCall F_is_told_value 1 (aC (eV 2) aN)))
def F_are_pairs : FF := fnF0 4 (sSeq (sIf (bOr (bNot (asB (e1 (isiF "tuple") (eV 0)))) (bNot (asB (eL allF (aC (eLc (iT (eV 0)) (gN 3) bY E_are_pairs_0 [3]) aN)))))
 (sRet (eC (.bl false)))
 sNil)
 (sRet (eL allF (aC (eLc (iT (eV 0)) (gT (gsC (gN 1) (gsC (gN 2) gsN))) bY E_are_pairs_1 [1, 2]) aN))))
theorem ok_are_pairs {P : Program} {w : World} {K : PySem.W.Frag} {mg : Str → Option Value} {base : Heap} {f : Addr} {fd : FuncData} (U : Fun K "are_pairs" "are_pairs" s_are_pairs f fd) (T : Txt w K mg) (k_is_name : Knows P w K mg base CX0 1 "is_name" ["value"] F_is_name) (k_is_told_value : Knows P w K mg base CX0 2 "is_told_value" ["value"] F_is_told_value) : FnM P w K mg base CX0 3 f fd ["value"] F_are_pairs :=
  fn_m0 U sc_are_pairs rfl fun cdv A outer s H E hr hgd => by
    have nd := sc_are_pairs.nd
    exact (mss_cons (ms_if (mt_w (mw_or (mt_not (mt_val (me_isi (T := "tuple") (by decide) T.isinstance T.tuple_ bt_tuple (me_var 0)))) (mw_or1 (mt_not (mt_val (me_callB (cr_all rfl) opl_all T.all bf_all (ma_cons (me_lc (own := [("pair", 3)]) nd (mi_tup (me_var 0)) (by show BlkOk N_are_pairs (defScope s_are_pairs) _ _; exact blkOk_by (by decide +kernel)) (fun _ _ _ _ _ => (pg_name (i := 3) nd rfl (Or.inl rfl))) (gok_name 3) (by decide) (fun _ _ _ _ _ => mts_nil) (fun _ _ _ _ _ => (me_and (me_isi (T := "tuple") (by decide) T.isinstance T.tuple_ bt_tuple (me_var 3)) (me_and1 (me_cmp (op_eqD hr.units) op2_eq (me_callB call_len opl_len T.len bf_len (ma_cons (me_var 3) ma_nil)) me_int (nomark _)))))) ma_nil)))))))
 (mss_one (ms_ret me_bl))
 mss_nil)
 (mss_one (ms_ret (me_callB (cr_all rfl) opl_all T.all bf_all (ma_cons (me_lc (own := [("name", 1), ("number", 2)]) nd (mi_tup (me_var 0)) (by show BlkOk N_are_pairs (defScope s_are_pairs) _ _; exact blkOk_by (by decide +kernel)) (fun _ _ _ _ _ => (pg_tup rfl (pgs_cons (pg_name (i := 1) nd rfl (Or.inl rfl)) (pgs_cons (pg_name (i := 2) nd rfl (Or.inl rfl)) pgs_nil)))) (gok_tup (gsok_cons (gok_name 1) (gsok_cons (gok_name 2) gsok_nil)) (gsl_cons (gsl_cons gsl_nil))) (by decide) (fun _ _ _ _ _ => mts_nil) (fun _ _ _ _ _ => (me_and (me_fn 1 k_is_name hr hgd passN (ma_cons (me_var 1) ma_nil)) (me_and1 (me_fn 1 k_is_told_value hr hgd passN (ma_cons (me_var 2) ma_nil)))))) ma_nil)))))
end P64
end
section
set_option maxRecDepth 100000
set_option maxHeartbeats 4000000
set_option autoImplicit false
set_option linter.all false
namespace P64
open PySem L2 DL
abbrev N_is_number : List Str := ["value"]
theorem sc_is_number : FnScope N_is_number ["value"] (defScope s_is_number) := ⟨rfl, rfl, rfl, by decide +kernel, rfl, by decide +kernel, by decide +kernel⟩
def F_is_number : FF := fnF0 1 (sRet (eAnd (eCall F_is_integer 1 (aC (eV 0) aN)) (e2 geF (eV 0) (eC (.int 0)))))
theorem ok_is_number {P : Program} {w : World} {K : PySem.W.Frag} {mg : Str → Option Value} {base : Heap} {f : Addr} {fd : FuncData} (U : Fun K "is_number" "is_number" s_is_number f fd) (T : Txt w K mg) (k_is_integer : Knows P w K mg base CX0 1 "is_integer" ["value"] F_is_integer) : FnM P w K mg base CX0 2 f fd ["value"] F_is_number :=
  fn_m0 U sc_is_number rfl fun cdv A outer s H E hr hgd => by
    have nd := sc_is_number.nd
    exact (mss_one (ms_ret (me_and (me_fn 1 k_is_integer hr hgd passN (ma_cons (me_var 0) ma_nil)) (me_and1 (me_cmp or_ge op2_cm (me_var 0) me_int (nomark _))))))
end P64
end
section
set_option maxRecDepth 100000
set_option maxHeartbeats 4000000
set_option autoImplicit false
set_option linter.all false
namespace P64
open PySem L2 DL
abbrev N_is_part : List Str := ["kind", "value"]
theorem sc_is_part : FnScope N_is_part ["kind", "value"] (defScope s_is_part) := ⟨rfl, rfl, rfl, by decide +kernel, rfl, by decide +kernel, by decide +kernel⟩
def F_is_part : FF := fnF0 2 (sSeq (sIf (asB (e2 (eqF false) (eV 0) (eC (.str "name"))))
 (sRet (eCall F_is_name 1 (aC (eV 1) aN)))
 sNil)
 (sSeq (sIf (asB (e2 (eqF false) (eV 0) (eC (.str "point"))))
 (sRet (eOr (eCall F_is_name 1 (aC (eV 1) aN)) (eAnd (e1 (isiF "str") (eV 1)) (e2 (eqF false) (eV 1) (eC (.str "0"))))))
 sNil)
 (sSeq (sIf (asB (e2 (eqF false) (eV 0) (eC (.str "kind"))))
 (sRet (eAnd (e1 (isiF "str") (eV 1)) (e2 (inF false) (eV 1) (eC c_KINDS))))
 sNil)
 (sSeq (sIf (asB (e2 (eqF false) (eV 0) (eC (.str "weight"))))
 (sRet (eAnd (eCall F_is_integer 1 (aC (eV 1) aN)) (e2 leF (eL absF (aC (eV 1) aN)) (eC c_MOST_TOLD_WEIGHT))))
 sNil)
 (sSeq (sIf (asB (e2 (eqF false) (eV 0) (eC (.str "value"))))
 (sRet (eCall F_is_told_value 1 (aC (eV 1) aN)))
 sNil)
 (sSeq (sIf (asB (e2 (eqF false) (eV 0) (eC (.str "pairs"))))
 (sRet (eCall F_are_pairs 1 (aC (eV 1) aN)))
 sNil)
 (sRet (eAnd (eCall F_is_number 1 (aC (eV 1) aN)) (e2 ltF (eV 1) (eIf (asB (e2 (eqF false) (eV 0) (eC (.str "move")))) (eC c_MOST_MOVES) (eC c_MOST_RULES)))))))))))
theorem ok_is_part {P : Program} {w : World} {K : PySem.W.Frag} {mg : Str → Option Value} {base : Heap} {f : Addr} {fd : FuncData} (U : Fun K "is_part" "is_part" s_is_part f fd) (T : Txt w K mg) (k_is_name : Knows P w K mg base CX0 1 "is_name" ["value"] F_is_name) (k_is_told_value : Knows P w K mg base CX0 2 "is_told_value" ["value"] F_is_told_value) (k_are_pairs : Knows P w K mg base CX0 3 "are_pairs" ["value"] F_are_pairs) (k_is_number : Knows P w K mg base CX0 2 "is_number" ["value"] F_is_number) (k_is_integer : Knows P w K mg base CX0 1 "is_integer" ["value"] F_is_integer) : FnM P w K mg base CX0 4 f fd ["kind", "value"] F_is_part :=
  fn_m0 U sc_is_part rfl fun cdv A outer s H E hr hgd => by
    have nd := sc_is_part.nd
    exact (mss_cons (ms_if (mt_cmp (op_eqD hr.units) op2_eq (me_var 0) me_str (nomark _))
 (mss_one (ms_ret (me_fn 1 k_is_name hr hgd passN (ma_cons (me_var 1) ma_nil))))
 mss_nil)
 (mss_cons (ms_if (mt_cmp (op_eqD hr.units) op2_eq (me_var 0) me_str (nomark _))
 (mss_one (ms_ret (me_or (me_fn 1 k_is_name hr hgd passN (ma_cons (me_var 1) ma_nil)) (me_and1 (me_and (me_isi (T := "str") (by decide) T.isinstance T.str_ bt_str (me_var 1)) (me_and1 (me_cmp (op_eqD hr.units) op2_eq (me_var 1) me_str (nomark _))))))))
 mss_nil)
 (mss_cons (ms_if (mt_cmp (op_eqD hr.units) op2_eq (me_var 0) me_str (nomark _))
 (mss_one (ms_ret (me_and (me_isi (T := "str") (by decide) T.isinstance T.str_ bt_str (me_var 1)) (me_and1 (me_cmp or_in op2_in (me_var 1) T.c_KINDS.me (by with_unfolding_all rfl))))))
 mss_nil)
 (mss_cons (ms_if (mt_cmp (op_eqD hr.units) op2_eq (me_var 0) me_str (nomark _))
 (mss_one (ms_ret (me_and (me_fn 1 k_is_integer hr hgd passN (ma_cons (me_var 1) ma_nil)) (me_and1 (me_cmp or_le op2_cm (me_callB call_abs opl_abs T.abs bf_abs (ma_cons (me_var 1) ma_nil)) T.c_MOST_TOLD_WEIGHT.me (nomark _))))))
 mss_nil)
 (mss_cons (ms_if (mt_cmp (op_eqD hr.units) op2_eq (me_var 0) me_str (nomark _))
 (mss_one (ms_ret (me_fn 1 k_is_told_value hr hgd passN (ma_cons (me_var 1) ma_nil))))
 mss_nil)
 (mss_cons (ms_if (mt_cmp (op_eqD hr.units) op2_eq (me_var 0) me_str (nomark _))
 (mss_one (ms_ret (me_fn 1 k_are_pairs hr hgd passN (ma_cons (me_var 1) ma_nil))))
 mss_nil)
 (mss_one (ms_ret (me_and (me_fn 1 k_is_number hr hgd passN (ma_cons (me_var 1) ma_nil)) (me_and1 (me_cmp or_lt op2_cm (me_var 1) (me_if (mt_cmp (op_eqD hr.units) op2_eq (me_var 0) me_str (nomark _)) T.c_MOST_MOVES.me T.c_MOST_RULES.me) (nomark _))))))))))))
end P64
end
section
set_option maxRecDepth 100000
set_option maxHeartbeats 4000000
set_option autoImplicit false
set_option linter.all false
namespace P64
open PySem L2 DL
abbrev N_is_command : List Str := ["value", "kinds", "kind", "part"]
theorem sc_is_command : FnScope N_is_command ["value"] (defScope s_is_command) := ⟨rfl, rfl, rfl, by decide +kernel, rfl, by decide +kernel, by decide +kernel⟩
def E_is_command_0 : EF := (eCall F_is_part 2 (aC (eV 2) (aC (eV 3) aN)))
def F_is_command : FF := fnF0 4 (sSeq (sIf (bOr (bNot (asB (e1 (isiF "tuple") (eV 0)))) (bOr (asB (e2 (eqF false) (eL lenF (aC (eV 0) aN)) (eC (.int 0)))) (bNot (asB (e1 (isiF "str") (e2 ixF (eV 0) (eC (.int 0))))))))
 (sRet (eC (.bl false)))
 sNil)
 (sSeq (sAsg (e1 (getF t_PARTS) (e2 ixF (eV 0) (eC (.int 0)))) (gN 1))
 (sSeq (sIf (bOr (asB (e2 (isF false) (eV 1) (eC .non))) (asB (e2 (eqF true) (eL lenF (aC (eV 0) aN)) (e2 addF (eL lenF (aC (eV 1) aN)) (eC (.int 1))))))
 (sRet (eC (.bl false)))
 sNil)
 (sRet (eL allF (aC (eLc (iZp true true (aC (eV 1) (aC (eSl (eV 0) (oS (eC (.int 1))) oN) aN))) (gT (gsC (gN 2) (gsC (gN 3) gsN))) bY E_is_command_0 [2, 3]) aN))))))
theorem ok_is_command {P : Program} {w : World} {K : PySem.W.Frag} {mg : Str → Option Value} {base : Heap} {f : Addr} {fd : FuncData} (U : Fun K "is_command" "is_command" s_is_command f fd) (T : Txt w K mg) (k_is_part : Knows P w K mg base CX0 4 "is_part" ["kind", "value"] F_is_part) : FnM P w K mg base CX0 5 f fd ["value"] F_is_command :=
  fn_m0 U sc_is_command rfl fun cdv A outer s H E hr hgd => by
    have nd := sc_is_command.nd
    exact (mss_cons (ms_if (mt_w (mw_or (mt_not (mt_val (me_isi (T := "tuple") (by decide) T.isinstance T.tuple_ bt_tuple (me_var 0)))) (mw_or (mt_cmp (op_eqD hr.units) op2_eq (me_callB call_len opl_len T.len bf_len (ma_cons (me_var 0) ma_nil)) me_int (nomark _)) (mw_or1 (mt_not (mt_val (me_isi (T := "str") (by decide) T.isinstance T.str_ bt_str (me_ix (me_var 0) me_int))))))))
 (mss_one (ms_ret me_bl))
 mss_nil)
 (mss_cons (ms_set 1 nd (me_get T.c_PARTS (me_ix (me_var 0) me_int)))
 (mss_cons (ms_if (mt_w (mw_or (mt_cmp or_is op2_is (me_var 1) me_non (nomark _)) (mw_or1 (mt_cmp (op_neD hr.units) op2_ne (me_callB call_len opl_len T.len bf_len (ma_cons (me_var 0) ma_nil)) (me_op or_add op2_add (me_callB call_len opl_len T.len bf_len (ma_cons (me_var 1) ma_nil)) me_int) (nomark _)))))
 (mss_one (ms_ret me_bl))
 mss_nil)
 (mss_one (ms_ret (me_callB (cr_all rfl) opl_all T.all bf_all (ma_cons (me_lc (own := [("kind", 2), ("part", 3)]) nd (mi_zipB true true T.zip (ma_cons (me_var 1) (ma_cons (me_slice (me_var 0) (mo_some me_int) mo_none) ma_nil))) (by show BlkOk N_is_command (defScope s_is_command) _ _; exact blkOk_by (by decide +kernel)) (fun _ _ _ _ _ => (pg_tup rfl (pgs_cons (pg_name (i := 2) nd rfl (Or.inl rfl)) (pgs_cons (pg_name (i := 3) nd rfl (Or.inl rfl)) pgs_nil)))) (gok_tup (gsok_cons (gok_name 2) (gsok_cons (gok_name 3) gsok_nil)) (gsl_cons (gsl_cons gsl_nil))) (by decide) (fun _ _ _ _ _ => mts_nil) (fun _ _ _ _ _ => (me_fn 2 k_is_part hr hgd passN (ma_cons (me_var 2) (ma_cons (me_var 3) ma_nil))))) ma_nil)))))))
end P64
end
section
set_option maxRecDepth 100000
set_option maxHeartbeats 4000000
set_option autoImplicit false
set_option linter.all false
namespace P64
open PySem L2 DL
abbrev N_read_commands : List Str := ["text", "found", "number", "line", "words", "command", "word"]
theorem sc_read_commands : FnScope N_read_commands ["text"] (defScope s_read_commands) := ⟨rfl, rfl, rfl, by decide +kernel, rfl, by decide +kernel, by decide +kernel⟩
def E_read_commands_0 : EF := (eV 6)
def T_read_commands_1 : BF := (asB (e2 (eqF true) (eV 6) (eC (.str ""))))
def B_read_commands_2 (C : Addr) : SF := (sSeq (sAsg (eLc (iL (eM "str" splitF (eV 3) (aC (eC (.str " ")) aN))) (gN 6) T_read_commands_1 E_read_commands_0 [6]) (gN 4))
 (sIf (asB (e2 (eqF true) (eV 4) (eLst aN)))
 (sSeq (sAsg (eCall F_command_told 1 (aC (eV 4) aN)) (gN 5))
 (sSeq (sIf (bNot (asB (eCall F_is_command 1 (aC (eV 5) aN))))
 (sRaise2 C "line" "at" (aC (eV 2) (aC (eC (.int 0)) aN)))
 sNil)
 (sEx (eM "list" appendF (eV 1) (aC (eV 5) aN)))))
 sNil))
def F_read_commands (C : Addr) : FF := scF (fnF 7 (sSeq (sIf (bNot (asB (e1 (isiF "str") (eV 0))))
 (sRaise2 C "line" "at" (aC (e1 negF (eC (.int 1))) (aC (e1 negF (eC (.int 1))) aN)))
 sNil)
 (sSeq (sAsg (eNew aN) (gN 1))
 (sSeq (sFor (iEn (aC (eM "str" splitF (eV 0) (aC (eC (.str "\n")) aN)) aN)) (gT (gsC (gN 2) (gsC (gN 3) gsN)))
 (B_read_commands_2 C))
 (sRet (eL tupF (aC (eV 1) aN)))))))
theorem ok_read_commands {P : Program} {w : World} {K : PySem.W.Frag} {mg : Str → Option Value} {base : Heap} {f : Addr} {fd : FuncData} (U : Fun K "read_commands" "read_commands" s_read_commands f fd) (T : Txt w K mg) {C : Addr} (x_InvalidText : Exc2 P K mg C "InvalidText" "line" "at") (k_command_told : Knows P w K mg base CX0 3 "command_told" ["words"] F_command_told) (k_is_command : Knows P w K mg base CX0 5 "is_command" ["value"] F_is_command) : FnM P w K mg base (L2.CX P w) 6 f fd ["text"] (F_read_commands C) :=
  (fn_m U sc_read_commands rfl fun cdv A outer s H E hr hgd => by
    have nd := sc_read_commands.nd
    exact (mss_cons (ms_if (mt_not (mt_val (me_isi (T := "str") (by decide) T.isinstance T.str_ bt_str (me_var 0))))
 (mss_one (ms_raise2 x_InvalidText (hr.mono (by decide)) (takes_of rfl rfl rfl rfl) (ma_cons (me_un un_neg op1_neg me_int) (ma_cons (me_un un_neg op1_neg me_int) ma_nil))))
 mss_nil)
 (mss_cons (ms_set 1 nd (me_new ma_nil))
 (mss_cons (ms_for (passes_of rfl) (mi_enum T.enumerate (ma_cons (me_bm (.inl rfl) PySem.F.plainAttrs_str PySem.F.slot_str_split PySem.F.type_str_split mt_split opm_split (me_var 0) (ma_cons me_str ma_nil)) ma_nil)) (mg_tup (mgs_cons (mg_name 2 nd) (mgs_cons (mg_name 3 nd) mgs_nil)) (gsl_cons (gsl_cons gsl_nil)))
 (mss_cons (ms_setLc 4 (own := [("word", 6)]) nd (mi_list (me_bm (.inl rfl) PySem.F.plainAttrs_str PySem.F.slot_str_split PySem.F.type_str_split mt_split opm_split (me_var 3) (ma_cons me_str ma_nil))) (by show BlkOk N_read_commands (defScope s_read_commands) _ _; exact blkOk_by (by decide +kernel)) (fun _ _ _ _ _ => (pg_name (i := 6) nd rfl (Or.inl rfl))) (gok_name 6) (by decide) (fun _ _ _ _ _ => (mts_one (mt_cmp (op_neD hr.units) op2_ne (me_var 6) me_str (nomark _)))) (fun _ _ _ _ _ => (me_var 6)) (sw_true rfl rfl rfl (by decide +kernel)))
 (mss_one (ms_if (mt_cmp (op_neD hr.units) op2_ne (me_var 4) (me_lst ma_nil) (nomark _))
 (mss_cons (ms_set 5 nd (me_fn 1 k_command_told hr hgd passN (ma_cons (me_var 4) ma_nil)))
 (mss_cons (ms_if (mt_not (mt_val (me_fn 1 k_is_command hr hgd passN (ma_cons (me_var 5) ma_nil))))
 (mss_one (ms_raise2 x_InvalidText (hr.mono (by decide)) (takes_of rfl rfl rfl rfl) (ma_cons (me_var 2) (ma_cons me_int ma_nil))))
 mss_nil)
 (mss_one (ms_ex (me_bm (.inr rfl) PySem.F.plainAttrs_list PySem.F.slot_list_append PySem.F.type_list_append mt_append opm_append (me_var 1) (ma_cons (me_var 5) ma_nil))))))
 mss_nil))))
 (mss_one (ms_ret (me_callTy call_tuple_of opl_tup T.tuple_ bt_tuple (ma_cons (me_var 1) ma_nil)))))))).sc
end P64
end
section
set_option maxRecDepth 100000
set_option maxHeartbeats 4000000
set_option autoImplicit false
set_option linter.all false
namespace P64
open PySem L2 DL
/-- what the text says of the exception that is caught -/
structure ExT (K : PySem.W.Frag) (mg : Str → Option Value) (C B : Addr) : Prop where
  gC : mg "InvalidText" = some (.ref C)
  gB : mg "PlantError" = some (.ref B)
  self_ : PySem.W.exmOne K (.ref C) (.ref C) = some true
  isC : IsC K C
  noL : PySem.W.findIn K (.ref C) "line" = some none
  noA : PySem.W.findIn K (.ref C) "at" = some none
  kB : PySem.W.kitOne K (.ref C) (.ref B) = some true
abbrev N__law_heard : List Str := ["value", "error"]
theorem sc__law_heard : FnScope N__law_heard ["value"] (defScope s__law_heard) := ⟨rfl, rfl, rfl, by decide +kernel, rfl, by decide +kernel, by decide +kernel⟩
def g_heard (e : Exn) : Option D := match e.fs with
  | some fs => match fs.lookup ("line" : Str), fs.lookup ("at" : Str) with
    | some l, some a => some (.tup [.str "refused", l, a])
    | _, _ => none
  | none => none
def F__law_heard (C : Addr) : FF := fnF0 2 (sTry C g_heard (sRet (eTup (aC (eC (.str "told")) (aC (eCall (F_read_commands C) 1 (aC (eV 0) aN)) aN)))))
theorem ok__law_heard {P : Program} {w : World} {K : PySem.W.Frag} {mg : Str → Option Value} {base : Heap} {f : Addr} {fd : FuncData} (U : Fun K "_law_heard" "_law_heard" s__law_heard f fd) (T : Txt w K mg) {C B : Addr} (x : ExT K mg C B) (k_read_commands : Knows P w K mg base (L2.CX P w) 6 "read_commands" ["text"] (F_read_commands C)) : FnM P w K mg base CX0 7 f fd ["value"] (F__law_heard C) :=
  fn_m0 U sc__law_heard rfl fun cdv A outer s H E hr hgd => by
    have nd := sc__law_heard.nd
    exact mss_one (ms_tryRet (i := 1) (g := g_heard)
      (ts := fun a cls d => tRet (tIf (tB (tCB (rIsX K cls C a d) (tCons (tVar 1) (tCons (tC (.ref B)) tNil)))) (tTup (tCons (tC (.str "refused")) (tCons (tXf a cls d C "line" (tVar 1)) (tCons (tXf a cls d C "at" (tVar 1)) tNil)))) (tTup (tCons (tC (.str "mixed")) tNil))))
      nd x.gC x.self_
      (fun W pn xe tk hp => mss_one (ms_ret (me_tup (ma_cons me_str (ma_cons (me_fn 1 k_read_commands hr hgd (passTry tk) (ma_cons (me_var 0) ma_nil)) ma_nil)))))
      (fun a oe cls d pn hz hf => pss_one (ps_ret (pe_ifExp (pt_val (pe_callB (call_isX x.isC hz hf) rfl T.isinstance (by decide +kernel) (pa_cons (pe_var rfl (Or.inl rfl)) (pa_cons (pe_glob rfl x.gB rfl) pa_nil))))
        (pe_tup (pa_cons pe_str (pa_cons (pe_xf x.isC.xf x.noL hz hf (pe_var rfl (Or.inl rfl))) (pa_cons (pe_xf x.isC.xf x.noA hz hf (pe_var rfl (Or.inl rfl))) pa_nil)))) (pe_tup (pa_cons pe_str pa_nil)))))
      (fun a d σ G H J S e dd D st xr ec ha hi hg k => by
        unfold g_heard at hg
        split at hg
        · rename_i fs efs
          split at hg
          · rename_i l y el ey
            cases hg
            obtain ⟨dx, vs, rfl, hdx, hl⟩ := xr.fld efs
            obtain ⟨vl, l1, l2⟩ := hl _ _ el
            obtain ⟨va, a1, a2⟩ := hl _ _ ey
            refine ⟨_, hi, rfl, B, true, dx, vs, rfl, x.kB, rfl, hdx, true, rfl, ?_⟩
            dsimp only
            rw [if_pos rfl]
            refine ⟨_, hi, rfl, rfl, dx, vs, vl, rfl, hdx, l1, ?_⟩
            refine ⟨_, hi, rfl, rfl, dx, vs, va, rfl, hdx, a1, ?_⟩
            exact ⟨by show 3 ≤ sizeLine; decide, fun p hp => xd_kept st (.cons (.str _) (.cons l2 (.cons a2 .nil))) rfl k hp⟩
          · cases hg
        · cases hg))
end P64
end
section
set_option maxRecDepth 100000
set_option maxHeartbeats 4000000
set_option autoImplicit false
set_option linter.all false
namespace DL
open PySem L2 PySem.Spec PyProof.Rows
/-! ### the head -/
theorem rds_ints {K : PySem.W.Frag} {G : Hp} {J : List Addr} : ∀ ns : List Int, RDs K G J (ns.map D.int) (ns.map V.int)
  | [] => .nil
  | n :: ns => .cons (.int n) (rds_ints ns)
section
variable {P : Program} {w : World} {K : PySem.W.Frag} {mg mb : Str → Option Value} {k : Nat} {fa a : Addr} {fd : FuncData} {x : Str} {F : FF} {s₁ : Shared} {vs : List Value} {ns : List Int} {H : Hp}
/-- the heap but for what the abstract heap tracks -/
theorem base_has {h : Heap} (hA : ∀ b, H b ≠ none → b = a) {b : Addr} {o u : Obj} (ha : h.get? a = some u) (e : h.get? b = some o) (ne : b = a → H a = none) : (hidT h H).get? b = some o :=
  hidT_get e (by
    by_cases q : H b = none
    · exact q
    · have q' := hA b q
      rw [q'] ; exact ne q')
theorem base_ns {h : Heap} (hA : ∀ b, H b ≠ none → b = a) (ha : h.get? a = some { cls := .type "list", data := .seq vs.toArray }) {b : Addr} {m : Str → Option Value} (n : h.Ns b m) : (hidT h H).Ns b m := by
  obtain ⟨o, es, ep, e, d, r⟩ := n
  refine ⟨o, es, ep, base_has hA ha e fun q => ?_, d, r⟩
  subst q
  rw [ha] at e
  cases e
  cases d
theorem head_core (KX : K.In s₁.heap) (gl : s₁.heap.Ns mainGlobals mg) (bl : s₁.heap.Ns builtinsNs mb) (bb : ∀ y : Str, y ≠ "__name__" → mb y = bootBuiltins y) (lim : s₁.heap.NoLimit) (gs : s₁.gens = #[]) (ha : s₁.heap.get? a = some { cls := .type "list", data := .seq vs.toArray })
    (hr : Room k callerA) (hF : ∀ base : Heap, K.In base → base.Ns mainGlobals mg → FnM P w K mg base CX0 k fa fd [x] F) (bind : ∀ (s : Shared) (u : Value), BindsTo s fd ⟨[u], []⟩ [(x, u)]) (good : ∃ S', F [.rol (ns.map D.int)] [] = .ok (.bl true) S')
    (hA : ∀ b, H b ≠ none → b = a) (hO : ∀ u, H a = some u → ∃ o xs, u = .frz o (.lst xs)) (hS : SqL K H a (ns.map V.int)) (hok : HOk P w H s₁.heap) (hK : H a ≠ none → K.lookup a = none) :
    codeAny (model P w) callerA (.call (.ref fa) ⟨[.ref a], []⟩) (fun r s' => r = .ok (.ret (.bool true)) ∧ OldK s₁.heap s'.heap ∧ s'.os = s₁.os ∧ AllBare s'.gens) s₁ := by
  obtain ⟨S', hgood⟩ := good
  have kb : K.In (hidT s₁.heap H) := fun b o e => base_has hA ha (KX b o e) fun q => by
    by_cases z : H a = none
    · exact z
    · rw [q, hK z] at e; cases e
  have md : Mod K mg (hidT s₁.heap H) := ⟨kb, base_ns hA ha gl, ⟨mb, base_ns hA ha bl, bb⟩, by
    obtain ⟨mc, z1, z2⟩ := lim
    exact ⟨mc, base_ns hA ha z1, z2⟩⟩
  have e0 : Env0 P w K mg (hidT s₁.heap H) callerA [] s₁ H := {
    frames := rfl, mod := md, bs := fun _ _ z => of_hidT z, bsz := Nat.le_of_eq (hidT_size _ _), funs := trivial, frf := fun b z => (by simp [frs] at z), hok := hok, bare := .of_eq gs }
  have st : StR K H [] [] H := ⟨Sub.refl _, rfl, fun n c b z => by simp at z, fun n b z => by simp at z, List.nodup_nil⟩
  have done := (hF _ kb (base_ns hA ha gl)).run callerA [] s₁ H ⟨[.ref a], []⟩ [.ref a] [.ref a] H [] [] [.rol (ns.map D.int)] (fun v _ => v = .bl true) (fun _ _ _ => False) hr rfl e0 (bind s₁ (.ref a)) (.cons rfl .nil) rfl st (.cons (.rol hS (rds_ints ns)) .nil) (by
    rw [hgood]
    intro G' J' H' v _ _ rd
    cases rd
    rfl)
  refine codeAny_mono done fun r s' h => ?_
  cases r with
  | error e => exact h.elim
  | ok fl =>
    cases fl with
    | ret u =>
      obtain ⟨v, H', os, bare, un, hok', rv, q⟩ := h
      have q' : v = .bl true := q
      subst q'
      obtain rfl : u = Value.bool true := rv
      refine ⟨rfl, OldK.of_keep fun b o e => ?_, os, bare⟩
      by_cases z : H b = none
      · exact un.keep b o e z (fun m => nomatch m) (fun m => nomatch m)
      · obtain rfl := hA b z
        obtain ⟨u, hu⟩ := Option.ne_none_iff_exists'.mp z
        obtain ⟨ob, xs, rfl⟩ := hO u hu
        have t1 := (hok _ _ hu).1
        have t2 := (hok' _ _ (un.frzs _ _ _ hu)).1
        rw [e] at t1
        cases t1
        exact t2
    | next => exact False.elim h
    | brk => exact False.elim h
    | cont => exact False.elim h
theorem head_call (KX : K.In s₁.heap) (gl : s₁.heap.Ns mainGlobals mg) (bl : s₁.heap.Ns builtinsNs mb) (bb : ∀ y : Str, y ≠ "__name__" → mb y = bootBuiltins y) (lim : s₁.heap.NoLimit) (gs : s₁.gens = #[]) (ha : s₁.heap.get? a = some { cls := .type "list", data := .seq vs.toArray }) (hi : IntsAre vs ns) (hl : ns.length ≤ sizeLine)
    (hr : Room k callerA) (hF : ∀ base : Heap, K.In base → base.Ns mainGlobals mg → FnM P w K mg base CX0 k fa fd [x] F) (bind : ∀ (s : Shared) (u : Value), BindsTo s fd ⟨[u], []⟩ [(x, u)]) (good : ∃ S', F [.rol (ns.map D.int)] [] = .ok (.bl true) S') :
    codeAny (model P w) callerA (.call (.ref fa) ⟨[.ref a], []⟩) (fun r s' => r = .ok (.ret (.bool true)) ∧ OldK s₁.heap s'.heap ∧ s'.os = s₁.os ∧ AllBare s'.gens) s₁ := by
  have rv := vals_ints hi
  have lv := hi.length
  by_cases hk : K.lookup a = none
  · refine head_core (H := fun b => if b = a then some (.frz { cls := .type "list", data := .seq vs.toArray } (.lst (ns.map V.int))) else none) KX gl bl bb lim gs ha hr hF bind good (fun b z => ?_) (fun u z => ?_) (.inl (.inr ⟨_, if_pos rfl⟩)) (fun b u z => ?_) fun _ => hk
    · by_cases q : b = a
      · exact q
      · exact absurd (if_neg q) z
    · rw [if_pos rfl] at z
      cases z
      exact ⟨_, _, rfl⟩
    · dsimp only at z
      by_cases q : b = a
      · rw [if_pos q] at z
        cases z
        rw [q]
        exact ⟨ha, by simpa using hl, vs, _, rv, ha⟩
      · rw [if_neg q] at z
        cases z
  · obtain ⟨o, ho⟩ := Option.ne_none_iff_exists'.mp hk
    have e := KX a o ho
    rw [ha] at e
    cases e
    exact head_core (H := fun _ => none) KX gl bl bb lim gs ha hr hF bind good (fun b z => absurd rfl z) (fun u z => by cases z) (.inr ⟨_, vs.toArray, _, ho, rfl, rfl, rfl, by rw [List.size_toArray, lv]; exact hl, by simpa using rv⟩) (fun b u z => by cases z) fun z => absurd rfl z
end
/-- the goal that k_head leaves -/
theorem walk_m {l : PySem.W.OpenLaw} {n k : Nat} {q : Program} {loose : List Str} {XP : (Str → Option Value) → Heap → Prop} {YP : World → Heap → Prop} {d : DefRec} {K : Params → PySem.W.Frag} {x : Str} (hn : l.most = some n) (hn2 : n ≤ sizeLine) (hdf : d.params.defaults = []) (hr : Room k callerA)
    (hY : ∀ (w : World) (h : Heap), YP w h → (K w.params).In h)
    (hF : ∀ (w : World) (mg : Str → Option Value) (fa : Addr) (h : Heap), (K w.params).In h → h.Ns mainGlobals mg → mg d.name = some (.ref fa) →
      ∃ (fd : FuncData) (F : FF), (∀ (s : Shared) (u : Value), BindsTo s fd ⟨[u], []⟩ [(x, u)]) ∧ (∀ ns : List Int, ns.length ≤ n → ∃ S', F [.rol (ns.map D.int)] [] = .ok (.bl true) S') ∧
        ∀ base : Heap, (K w.params).In base → base.Ns mainGlobals mg → FnM l.prog w (K w.params) mg base CX0 k fa fd [x] F) :
    PySem.W.WalkO q loose XP YP l.row.toRowW d [] (fun f vs => PySem.call f vs) := by
  refine Att.attach_call hn hdf fun w s₀ s₁ mg mb fa o pm cd doc a vs ns gr yp _ _ _ hmg hobj hints hlen hg => ?_
  have kx := hY w _ yp
  obtain ⟨fd, F, hb, good, hF⟩ := hF w mg fa _ kx gr.T.g hmg
  exact head_call kx gr.T.g gr.T.b gr.T.builtins gr.T.nolimit hg hobj hints (Nat.le_trans hlen hn2) hr hF hb (good ns hlen)
end DL
end
section
set_option maxRecDepth 100000
set_option maxHeartbeats 4000000
set_option autoImplicit false
set_option linter.all false
namespace DL
open PySem L2 PySem.Spec PyProof.Rows
/-! ### a comprehension over a list of the def's own, which stands as it is meanwhile -/
open Classical in
noncomputable def lcHs (b : D → Rho → Option Rho) (fe : EF) (ρ : Rho) (S : Store) : List D → Option (List D)
  | [] => some []
  | d :: ds => match b d ρ with
    | none => none
    | some ρ' => match fe ρ' S with
      | .ok y S' => if S' = S then (lcHs b fe ρ S ds).map (y :: ·) else none
      | _ => none
noncomputable def eLcH (f : EF) (b : D → Rho → Option Rho) (fe : EF) (vs : List Nat) : EF := fun ρ S => (f ρ S).bind fun d S1 => match d with
  | .hd n => match S1[n]? with
    | some (.lst ds) => match lcHs b fe (wipeR ρ vs) S1 ds with
      | some ys => if ds.length ≤ 1000000 then .ok (.lst ys) S1 else .no
      | none => .no
    | _ => .no
  | _ => .no
section
variable {K : PySem.W.Frag} {E : XK} {f : EF} {b : D → Rho → Option Rho} {is vs : List Nat} {fe : EF} {g : TG}
theorem lcH_of (hg : GOk K g b is) (hi : ∀ i ∈ is, i ∈ vs) : ∀ (σ : L2.St) (H : Hp) (Q : VK), tG K (RD K) E (eLcH f b fe vs) σ H Q → tLc (iList K (tG K (RD K) E f)) g (tG K REq E0 bY) (tG K (RD K) E0 fe) vs σ H Q := fun σ H Q ⟨G, J, S, ρ, st, en, h⟩ =>
  ⟨G, J, S, ρ, st, en, Post.bind h fun d S1 G1 J1 H1 x _ st1 s1 rd h1 => by
    cases rd with
    | hd hj =>
      rename_i a n _
      dsimp only at h1
      split at h1
      · rename_i ds hS
        obtain ⟨ws0, hv0, rv0⟩ := st1.cell n _ a hS hj
        refine ⟨a, rfl, ⟨ws0, SqL.of hv0⟩, fun Dn hD => ?_⟩
        split at h1
        · rename_i all hall
          split at h1
          · rename_i hsz
            have en1 := envR_wipe (en.mono s1.g s1.j) vs
            refine ⟨fun i m H' => (m = ds.length - i ∧ i ≤ ds.length) ∧ ∃ G' J' acc accV rest, StR K G' J' S1 H' ∧ Stp G1 J1 H1 G' J' H' ∧ G' Dn = none ∧ Dn ∉ J' ∧ H' Dn = some (.lst accV) ∧ RDs K G' J' acc accV ∧ acc.length ≤ i ∧ lcHs b fe (wipeR ρ vs) S1 (ds.drop i) = some rest ∧ all = acc ++ rest,
              ⟨_, ⟨rfl, Nat.zero_le _⟩, G1, J1, [], [], all, st1.junk hD, Stp.junk hD, free_of_H st1 hD, notin_of_H st1 hD, upd_same, .nil, Nat.le_refl _, hall, rfl⟩, ?_⟩
            rintro i m H' ⟨⟨rfl, hle⟩, G', J', acc, accV, rest, st', s', g0, j0, hd, racc, hacc, hrest, hsum⟩
            obtain ⟨ws, hv, rv⟩ := st'.cell n _ a hS (pre_at s'.j hj)
            by_cases hlt : i < ds.length
            · have hdi : ds[i]? = some ds[i] := List.getElem?_eq_getElem hlt
              obtain ⟨v, e1, r1⟩ := rv.get hdi
              refine .inr ⟨⟨ws, v, SqL.of hv, e1⟩, fun H'' => ∃ G' J' acc accV rest, StR K G' J' S1 H'' ∧ Stp G1 J1 H1 G' J' H'' ∧ G' Dn = none ∧ Dn ∉ J' ∧ H'' Dn = some (.lst accV) ∧ RDs K G' J' acc accV ∧ acc.length ≤ i + 1 ∧ lcHs b fe (wipeR ρ vs) S1 (ds.drop (i + 1)) = some rest ∧ all = acc ++ rest,
                fun H'' h => ⟨ds.length - (i + 1), by omega, ⟨rfl, by omega⟩, h⟩, ?_⟩
              intro x H2 hyl
              obtain ⟨e2, kx⟩ := hyl
              subst e2
              have := kx ws (SqL.of hv)
              rw [e1] at this
              cases this
              rw [List.drop_eq_getElem_cons hlt] at hrest
              unfold lcHs at hrest
              cases eb : b ds[i] (wipeR ρ vs) with
              | none => rw [eb] at hrest; cases hrest
              | some ρ' =>
              rw [eb] at hrest
              dsimp only at hrest
              have en2 : EnvR K G' J' (wipeR ρ vs) (wipe σ vs) := en1.mono s'.g s'.j
              refine hg G' J' S1 H2 (wipe σ vs) (wipeR ρ vs) ρ' _ _ _ st' en2 r1 eb fun σ2 en3 same ln => ⟨wipe_same (by rw [ln, wipe_length]) fun j hj => same j fun hji => hj (hi j hji), ?_⟩
              refine ⟨G', J', S1, ρ', st', en3, ?_⟩
              intro G3 J3 H3 k' st3 s3 ek
              cases ek
              have off : ∀ {G3 J3 H3}, Stp G' J' H2 G3 J3 H3 → G3 Dn = none ∧ Dn ∉ J3 ∧ H3 Dn = some (.lst accV) := fun {G3 J3 H3} s3 => by
                refine ⟨?_, fun hm => ?_, s3.fr _ _ hd j0⟩
                · cases e : G3 Dn with
                  | none => rfl
                  | some o =>
                    rcases s3.gn Dn (by rw [e]; simp) with h | h
                    · exact absurd g0 h
                    · rw [hd] at h; cases h
                · rcases s3.jn Dn hm with h | h
                  · exact j0 h
                  · rw [hd] at h; cases h
              rw [if_pos rfl]
              refine ⟨G3, J3, S1, ρ', st3, en3.mono s3.g s3.j, ?_⟩
              cases ef : fe ρ' S1 with
              | no => rw [ef] at hrest; cases hrest
              | ex _ _ => rw [ef] at hrest; cases hrest
              | ok y S4 =>
              rw [ef] at hrest
              dsimp only at hrest
              split at hrest
              · rename_i eS
                subst eS
                obtain ⟨ys, e3, rfl⟩ := Option.map_eq_some_iff.mp hrest
                intro G4 J4 H4 yv st4 s4 ry
                have o4 := off (s3.trans s4)
                have racc4 := (racc.mono s3.g s3.j).mono s4.g s4.j
                refine ⟨accV, o4.2.2, ?_, G4, J4, acc ++ [y], accV ++ [yv], ys, st4.wr o4.1 o4.2.1, ((s'.trans s3).trans s4).wr hD, o4.1, o4.2.1, upd_same, racc4.app (.cons ry .nil), by simp; omega, e3, by simp [hsum]⟩
                have := racc.len
                have : (1000000 : Nat) < sizeLine := by decide
                omega
              · cases hrest
            · refine .inl ⟨⟨ws, SqL.of hv, by rw [← rv.len]; omega⟩, ?_⟩
              rw [List.drop_eq_nil_of_le (by omega)] at hrest
              unfold lcHs at hrest
              cases hrest
              rw [List.append_nil] at hsum
              subst hsum
              exact h1 _ _ _ _ (st'.keep g0 j0 hd) (s'.keep hD g0) (.lst upd_same (racc.mono (sub_upd g0) (List.prefix_refl _)))
          · exact h1.elim
        · exact h1.elim
      · exact h1.elim
    | _ => exact h1.elim⟩
variable {X : Cx} {tg it elt : Expr} {ifs : List Expr} {pos : Pos}
theorem me_lcH {scope : Scope} {own : List (Str × Nat)} (hN : X.N.Nodup) (hl : ME X E it f) (ok : BlkOk X.N X.env.scope scope own)
    (hg : ∀ (s : Shared) (H : Hp) (C : Addr) (cl : List (Str × Addr)) (fp : List Addr), PG (X.blk s H scope (compEnvC scope cl C X.env) fp) tg g) (hg2 : GOk X.K g b is) (hj : ∀ i ∈ is, i ∈ own.map (·.2))
    (he : ∀ (s : Shared) (H : Hp) (C : Addr) (cl : List (Str × Addr)) (fp : List Addr), ME (X.blk s H scope (compEnvC scope cl C X.env) fp) E0 elt fe)
    (hc : X.calm = true := by rfl) (hs : ∀ x, foldedSetIterable it X.env x = pure x := by intro _; rfl) : ME X E (.ListComp elt [⟨tg, it, [], 0⟩] scope pos) (eLcH f b fe (own.map (·.2))) :=
  pe_mono (pe_lc (tt := tG X.K REq E0 bY) (te := tG X.K (RD X.K) E0 fe) hc hN (pi_list hl) ok hg (fun _ _ _ _ _ => mts_nil) he hs) (lcH_of hg2 hj)
end
end DL
end
section
set_option maxRecDepth 100000
set_option maxHeartbeats 4000000
set_option autoImplicit false
set_option linter.all false
namespace P64
open PySem L2 DL
abbrev N_show_command : List Str := ["command", "found", "part", "item", "pair"]
theorem sc_show_command : FnScope N_show_command ["command"] (defScope s_show_command) := ⟨rfl, rfl, rfl, by decide +kernel, rfl, by decide +kernel, by decide +kernel⟩
def B_show_command_0 : SF := (sEx (eM "list" extendF (eV 1) (aC (eIf (asB (e1 (isiF "tuple") (eV 2))) (eLc2 (iT (eV 2)) (gN 4) bY (iT (eV 4)) (gN 3) bY (eV 3) [4, 3] [3]) (eLst (aC (eV 2) aN))) aN)))
def E_show_command_1 : EF := (eL strF (aC (eV 3) aN))
noncomputable def F_show_command : FF := scF (fnF0 5 (sSeq (sAsg (eNew aN) (gN 1))
 (sSeq (sFor (iT (eV 0)) (gN 2)
 B_show_command_0)
 (sRet (eM "str" joinF (eC (.str " ")) (aC (eLcH (eV 1) (gN 3) E_show_command_1 [3]) aN))))))
theorem ok_show_command {P : Program} {w : World} {K : PySem.W.Frag} {mg : Str → Option Value} {base : Heap} {f : Addr} {fd : FuncData} (U : Fun K "show_command" "show_command" s_show_command f fd) (T : Txt w K mg) : FnM P w K mg base CX0 1 f fd ["command"] F_show_command :=
  (fn_m0 U sc_show_command rfl fun cdv A outer s H E hr hgd => by
    have nd := sc_show_command.nd
    exact (mss_cons (ms_set 1 nd (me_new ma_nil))
 (mss_cons (ms_for .never (mi_tup (me_var 0)) (mg_name 2 nd)
 (mss_one (ms_ex (me_bm (.inr rfl) PySem.F.plainAttrs_list PySem.F.slot_list_extend PySem.F.type_list_extend mt_extend opm_extend (me_var 1) (ma_cons (me_if (mt_val (me_isi (T := "tuple") (by decide) T.isinstance T.tuple_ bt_tuple (me_var 2))) (me_lc2 (own := [("pair", 4), ("item", 3)]) (vs1 := [3]) nd (mi_tup (me_var 2)) (by show BlkOk N_show_command (defScope s_show_command) _ _; exact blkOk_by (by decide +kernel)) (by decide) (fun _ _ _ _ _ => (pg_name (i := 4) nd rfl (Or.inl rfl))) (gok_name 4) (by decide) (fun _ _ _ _ _ => mts_nil) (fun _ _ _ _ _ => (mi_tup (me_var 4))) (fun _ _ _ _ _ => (pg_name (i := 3) nd rfl (Or.inl rfl))) (gok_name 3) (by decide) (fun _ _ _ _ _ => mts_nil) (fun _ _ _ _ _ => (me_var 3))) (me_lst (ma_cons (me_var 2) ma_nil))) ma_nil)))))
 (mss_one (ms_ret (me_bm (.inl rfl) PySem.F.plainAttrs_str PySem.F.slot_str_join PySem.F.type_str_join mt_join opm_join me_str (ma_cons (me_lcH (own := [("item", 3)]) nd (me_var 1) (by show BlkOk N_show_command (defScope s_show_command) _ _; exact blkOk_by (by decide +kernel)) (fun _ _ _ _ _ => (pg_name (i := 3) nd rfl (Or.inl rfl))) (gok_name 3) (by decide) (fun _ _ _ _ _ => (me_callTy cr_str opl_str T.str_ bt_str (ma_cons (me_var 3) ma_nil)))) ma_nil))))))).sc
end P64
end
section
set_option maxRecDepth 100000
set_option maxHeartbeats 4000000
set_option autoImplicit false
set_option linter.all false
namespace P64
open PySem L2 DL
abbrev N_show_commands : List Str := ["commands", "command"]
theorem sc_show_commands : FnScope N_show_commands ["commands"] (defScope s_show_commands) := ⟨rfl, rfl, rfl, by decide +kernel, rfl, by decide +kernel, by decide +kernel⟩
noncomputable def E_show_commands_0 : EF := (eCall F_show_command 1 (aC (eV 1) aN))
noncomputable def F_show_commands : FF := fnF0 2 (sRet (eM "str" joinF (eC (.str "\n")) (aC (eLc (iT (eV 0)) (gN 1) bY E_show_commands_0 [1]) aN)))
theorem ok_show_commands {P : Program} {w : World} {K : PySem.W.Frag} {mg : Str → Option Value} {base : Heap} {f : Addr} {fd : FuncData} (U : Fun K "show_commands" "show_commands" s_show_commands f fd) (T : Txt w K mg) (k_show_command : Knows P w K mg base CX0 1 "show_command" ["command"] F_show_command) : FnM P w K mg base CX0 2 f fd ["commands"] F_show_commands :=
  fn_m0 U sc_show_commands rfl fun cdv A outer s H E hr hgd => by
    have nd := sc_show_commands.nd
    exact (mss_one (ms_ret (me_bm (.inl rfl) PySem.F.plainAttrs_str PySem.F.slot_str_join PySem.F.type_str_join mt_join opm_join me_str (ma_cons (me_lc (own := [("command", 1)]) nd (mi_tup (me_var 0)) (by show BlkOk N_show_commands (defScope s_show_commands) _ _; exact blkOk_by (by decide +kernel)) (fun _ _ _ _ _ => (pg_name (i := 1) nd rfl (Or.inl rfl))) (gok_name 1) (by decide) (fun _ _ _ _ _ => mts_nil) (fun _ _ _ _ _ => (me_fn 1 k_show_command hr hgd passN (ma_cons (me_var 1) ma_nil)))) ma_nil))))
end P64
end
section
set_option maxRecDepth 100000
set_option maxHeartbeats 4000000
set_option autoImplicit false
set_option linter.all false
namespace P64
open PySem L2 DL
abbrev N__law_other : List Str := ["heap", "part", "some"]
theorem sc__law_other : FnScope N__law_other ["heap", "part"] (defScope s__law_other) := ⟨rfl, rfl, rfl, by decide +kernel, rfl, by decide +kernel, by decide +kernel⟩
def F__law_other : FF := fnF0 3 (sSeq (sAsg (eLst (aC (eC .non) (aC (eTup aN) (aC (eLst aN) (aC (eC .em) (aC (eC (.bl true)) (aC (eC (.int 7)) (aC (eC (.str "")) (aC (eC (.str "Ab")) (aC (eTup (aC (eC (.str "a")) (aC (eC (.int 1)) aN))) (aC (eC (.str "now")) (aC (eTup (aC (eC (.str "now")) aN)) aN)))))))))))) (gN 2))
 (sSeq (sIf (asB (e1 (isiF "tuple") (eV 1)))
 (sAsg (e2 addF (eV 2) (e2 mulF (eLst (aC (eL lisF (aC (eV 1) aN)) (aC (eSl (eV 1) oN (oS (e1 negF (eC (.int 1))))) (aC (eSl (eV 1) (oS (eC (.int 1))) oN) (aC (e2 addF (eV 1) (eSl (eV 1) oN (oS (eC (.int 1))))) (aC (e1 revF (eV 1)) (aC (e2 addF (eV 1) (eTup (aC (eC (.int 0)) aN))) (aC (e2 addF (eV 1) (eTup (aC (eC (.str "0")) aN))) (aC (e2 addF (eV 1) (eTup (aC (eTup (aC (eC (.str "a")) (aC (eC (.int 1)) aN))) aN))) aN))))))))) (eC (.int 2)))) (gN 2))
 (sIf (asB (e1 (isiF "int") (eV 1)))
 (sAsg (e2 addF (eV 2) (e2 mulF (eLst (aC (e2 addF (eV 1) (eC (.int 1))) (aC (e2 subF (eV 1) (eC (.int 1))) (aC (e2 subF (eC (.int 0)) (eV 1)) (aC (eL strF (aC (eV 1) aN)) (aC (e2 (eqF false) (eV 1) (eC (.int 1))) (aC (eC (.int 30)) (aC (eC (.int 40)) (aC (eC (.int 1001)) (aC (e2 subF (eC (.int 0)) (eC (.int 1001))) (aC (e2 addF (e2 powF (eC (.int 10)) (eC (.int 6))) (eC (.int 1))) aN))))))))))) (eC (.int 2)))) (gN 2))
 (sIf (asB (e1 (isiF "str") (eV 1)))
 (sAsg (e2 addF (eV 2) (e2 mulF (eLst (aC (e2 addF (eV 1) (eC (.str "x"))) (aC (eSl (eV 1) oN (oS (e1 negF (eC (.int 1))))) (aC (eM "str" upperF (eV 1) aN) (aC (eC (.str "0")) (aC (eC (.str "abcdefg")) (aC (eC (.str "abcdef")) (aC (eC (.str "rise")) (aC (eC (.str "come")) (aC (eC (.str "hold")) (aC (eC (.str "leave")) aN))))))))))) (eC (.int 2)))) (gN 2))
 sNil)))
 (sRet (eCall F__law_pick 2 (aC (eV 0) (aC (eV 2) aN))))))
theorem ok__law_other {P : Program} {w : World} {K : PySem.W.Frag} {mg : Str → Option Value} {base : Heap} {f : Addr} {fd : FuncData} (U : Fun K "_law_other" "_law_other" s__law_other f fd) (T : Txt w K mg) (k__law_pick : Knows P w K mg base CX0 2 "_law_pick" ["heap", "some"] F__law_pick) : FnM P w K mg base CX0 3 f fd ["heap", "part"] F__law_other :=
  fn_m0 U sc__law_other rfl fun cdv A outer s H E hr hgd => by
    have nd := sc__law_other.nd
    exact (mss_cons (ms_set 2 nd (me_lst (ma_cons me_non (ma_cons (me_tup ma_nil) (ma_cons (me_lst ma_nil) (ma_cons me_em (ma_cons me_bl (ma_cons me_int (ma_cons me_str (ma_cons me_str (ma_cons (me_tup (ma_cons me_str (ma_cons me_int ma_nil))) (ma_cons me_str (ma_cons (me_tup (ma_cons me_str ma_nil)) ma_nil)))))))))))))
 (mss_cons (ms_if (mt_val (me_isi (T := "tuple") (by decide) T.isinstance T.tuple_ bt_tuple (me_var 1)))
 (mss_one (ms_set 2 nd (me_op or_add op2_add (me_var 2) (me_op or_mul op2_mul (me_lst (ma_cons (me_callTy call_list_of opl_lis T.list_ bt_list (ma_cons (me_var 1) ma_nil)) (ma_cons (me_slice (me_var 1) mo_none (mo_some (me_un un_neg op1_neg me_int))) (ma_cons (me_slice (me_var 1) (mo_some me_int) mo_none) (ma_cons (me_op or_add op2_add (me_var 1) (me_slice (me_var 1) mo_none (mo_some me_int))) (ma_cons (me_rev (me_var 1)) (ma_cons (me_op or_add op2_add (me_var 1) (me_tup (ma_cons me_int ma_nil))) (ma_cons (me_op or_add op2_add (me_var 1) (me_tup (ma_cons me_str ma_nil))) (ma_cons (me_op or_add op2_add (me_var 1) (me_tup (ma_cons (me_tup (ma_cons me_str (ma_cons me_int ma_nil))) ma_nil))) ma_nil))))))))) me_int))))
 (mss_one (ms_if (mt_val (me_isi (T := "int") (by decide) T.isinstance T.int_ bt_int (me_var 1)))
 (mss_one (ms_set 2 nd (me_op or_add op2_add (me_var 2) (me_op or_mul op2_mul (me_lst (ma_cons (me_op or_add op2_add (me_var 1) me_int) (ma_cons (me_op or_sub op2_sub (me_var 1) me_int) (ma_cons (me_op or_sub op2_sub me_int (me_var 1)) (ma_cons (me_callTy cr_str opl_str T.str_ bt_str (ma_cons (me_var 1) ma_nil)) (ma_cons (me_cmp (op_eqD hr.units) op2_eq (me_var 1) me_int (nomark _)) (ma_cons me_int (ma_cons me_int (ma_cons me_int (ma_cons (me_op or_sub op2_sub me_int me_int) (ma_cons (me_op or_add op2_add (me_op op_pow op2_pow me_int me_int) me_int) ma_nil))))))))))) me_int))))
 (mss_one (ms_if (mt_val (me_isi (T := "str") (by decide) T.isinstance T.str_ bt_str (me_var 1)))
 (mss_one (ms_set 2 nd (me_op or_add op2_add (me_var 2) (me_op or_mul op2_mul (me_lst (ma_cons (me_op or_add op2_add (me_var 1) me_str) (ma_cons (me_slice (me_var 1) mo_none (mo_some (me_un un_neg op1_neg me_int))) (ma_cons (me_bm0 (.inl rfl) PySem.F.plainAttrs_str PySem.F.slot_str_upper PySem.F.type_str_upper mt_upper opm_upper (me_var 1)) (ma_cons me_str (ma_cons me_str (ma_cons me_str (ma_cons me_str (ma_cons me_str (ma_cons me_str (ma_cons me_str ma_nil))))))))))) me_int))))
 mss_nil)))))
 (mss_one (ms_ret (me_fn 2 k__law_pick hr hgd passN (ma_cons (me_var 0) (ma_cons (me_var 2) ma_nil)))))))
end P64
end
section
set_option maxRecDepth 100000
set_option maxHeartbeats 4000000
set_option autoImplicit false
set_option linter.all false
namespace P64
open PySem L2 DL
abbrev N__law_spoilt : List Str := ["heap", "whole", "path", "some", "turn", "at", "around"]
theorem sc__law_spoilt : FnScope N__law_spoilt ["heap", "whole"] (defScope s__law_spoilt) := ⟨rfl, rfl, rfl, by decide +kernel, rfl, by decide +kernel, by decide +kernel⟩
def B__law_spoilt_0 : SF := (sIf (bAnd (asB (e1 (isiF "tuple") (eV 3))) (bAnd (asB (e2 gtF (eL lenF (aC (eV 3) aN)) (eC (.int 0)))) (bOr (asB (e2 (eqF false) (eV 4) (eC (.int 0)))) (asB (e2 gtF (eCall F__law_draw 2 (aC (eV 0) (aC (eC (.int 4)) aN))) (eC (.int 0)))))))
 (sSeq (sAsg (eCall F__law_draw 2 (aC (eV 0) (aC (eL lenF (aC (eV 3) aN)) aN))) (gN 5))
 (sSeq (sEx (eM "list" appendF (eV 2) (aC (eTup (aC (eV 3) (aC (eV 5) aN))) aN)))
 (sAsg (e2 ixF (eV 3) (eV 5)) (gN 3))))
 sNil)
def B__law_spoilt_1 : SF := (sAsg (e2 addF (e2 addF (eSl (eV 6) oN (oS (eV 5))) (eTup (aC (eV 3) aN))) (eSl (eV 6) (oS (e2 addF (eV 5) (eC (.int 1)))) oN)) (gN 3))
def F__law_spoilt : FF := scF (fnF0 7 (sSeq (sPar 2 3 (aC (eNew aN) (aC (eV 1) aN)))
 (sSeq (sFor (iR1 (aC (eC (.int 3)) aN)) (gN 4)
 B__law_spoilt_0)
 (sSeq (sAsg (eCall F__law_other 2 (aC (eV 0) (aC (eV 3) aN))) (gN 3))
 (sSeq (sFor (iL (e1 revF (eV 2))) (gT (gsC (gN 6) (gsC (gN 5) gsN)))
 B__law_spoilt_1)
 (sRet (eV 3)))))))
theorem ok__law_spoilt {P : Program} {w : World} {K : PySem.W.Frag} {mg : Str → Option Value} {base : Heap} {f : Addr} {fd : FuncData} (U : Fun K "_law_spoilt" "_law_spoilt" s__law_spoilt f fd) (T : Txt w K mg) (k__law_other : Knows P w K mg base CX0 3 "_law_other" ["heap", "part"] F__law_other) (k__law_draw : Knows P w K mg base CX0 1 "_law_draw" ["heap", "many"] F__law_draw) : FnM P w K mg base CX0 4 f fd ["heap", "whole"] F__law_spoilt :=
  (fn_m0 U sc__law_spoilt rfl fun cdv A outer s H E hr hgd => by
    have nd := sc__law_spoilt.nd
    exact (mss_cons (ms_par 2 3 nd (ma_cons (me_new ma_nil) (ma_cons (me_var 1) ma_nil)))
 (mss_cons (ms_for .never (mi_range1 T.range (ma_cons me_int ma_nil)) (mg_name 4 nd)
 (mss_one (ms_if (mt_w (mw_and (mt_val (me_isi (T := "tuple") (by decide) T.isinstance T.tuple_ bt_tuple (me_var 3))) (mw_and (mt_cmp or_gt op2_cm (me_callB call_len opl_len T.len bf_len (ma_cons (me_var 3) ma_nil)) me_int (nomark _)) (mw_and1 (mt_w (mw_or (mt_cmp (op_eqD hr.units) op2_eq (me_var 4) me_int (nomark _)) (mw_or1 (mt_cmp or_gt op2_cm (me_fn 2 k__law_draw hr hgd passN (ma_cons (me_var 0) (ma_cons me_int ma_nil))) me_int (nomark _)))))))))
 (mss_cons (ms_set 5 nd (me_fn 2 k__law_draw hr hgd passN (ma_cons (me_var 0) (ma_cons (me_callB call_len opl_len T.len bf_len (ma_cons (me_var 3) ma_nil)) ma_nil))))
 (mss_cons (ms_ex (me_bm (.inr rfl) PySem.F.plainAttrs_list PySem.F.slot_list_append PySem.F.type_list_append mt_append opm_append (me_var 2) (ma_cons (me_tup (ma_cons (me_var 3) (ma_cons (me_var 5) ma_nil))) ma_nil)))
 (mss_one (ms_set 3 nd (me_ix (me_var 3) (me_var 5))))))
 mss_nil)))
 (mss_cons (ms_set 3 nd (me_fn 2 k__law_other hr hgd passN (ma_cons (me_var 0) (ma_cons (me_var 3) ma_nil))))
 (mss_cons (ms_for .never (mi_list (me_rev (me_var 2))) (mg_tup (mgs_cons (mg_name 6 nd) (mgs_cons (mg_name 5 nd) mgs_nil)) (gsl_cons (gsl_cons gsl_nil)))
 (mss_one (ms_set 3 nd (me_op or_add op2_add (me_op or_add op2_add (me_slice (me_var 6) mo_none (mo_some (me_var 5))) (me_tup (ma_cons (me_var 3) ma_nil))) (me_slice (me_var 6) (mo_some (me_op or_add op2_add (me_var 5) me_int)) mo_none)))))
 (mss_one (ms_ret (me_var 3)))))))).sc
end P64
end
section
set_option maxRecDepth 100000
set_option maxHeartbeats 4000000
set_option autoImplicit false
set_option linter.all false
namespace P64
open PySem L2 DL
abbrev N__law_kinds : List Str := ["word"]
theorem sc__law_kinds : FnScope N__law_kinds ["word"] (defScope s__law_kinds) := ⟨rfl, rfl, rfl, by decide +kernel, rfl, by decide +kernel, by decide +kernel⟩
def F__law_kinds : FF := fnF0 1 (sSeq (sIf (asB (e2 (inF false) (eV 0) (eLst (aC (eC (.str "come")) (aC (eC (.str "bar")) (aC (eC (.str "range")) aN))))))
 (sRet (eLst (aC (eC (.str "move")) aN)))
 sNil)
 (sSeq (sIf (asB (e2 (inF false) (eV 0) (eLst (aC (eC (.str "wish")) (aC (eC (.str "may")) aN)))))
 (sRet (eLst (aC (eC (.str "move")) (aC (eC (.str "pairs")) aN))))
 sNil)
 (sSeq (sIf (asB (e2 (inF false) (eV 0) (eLst (aC (eC (.str "rule")) (aC (eC (.str "bear")) aN)))))
 (sRet (eLst (aC (eC (.str "move")) (aC (eC (.str "kind")) (aC (eC (.str "point")) (aC (eC (.str "point")) (aC (eC (.str "weight")) aN)))))))
 sNil)
 (sSeq (sIf (asB (e2 (inF false) (eV 0) (eLst (aC (eC (.str "state")) (aC (eC (.str "leave")) aN)))))
 (sRet (eLst (aC (eC (.str "name")) aN)))
 sNil)
 (sSeq (sIf (asB (e2 (inF false) (eV 0) (eLst (aC (eC (.str "ease")) (aC (eC (.str "add")) aN)))))
 (sRet (eIf (asB (e2 (eqF false) (eV 0) (eC (.str "ease")))) (eLst (aC (eC (.str "move")) (aC (eC (.str "number")) aN))) (e2 mulF (eLst (aC (eC (.str "name")) aN)) (eC (.int 3)))))
 sNil)
 (sSeq (sIf (asB (e2 (inF false) (eV 0) (eLst (aC (eC (.str "quantity")) (aC (eC (.str "hold")) aN)))))
 (sRet (eLst (aC (eC (.str "name")) (aC (eIf (asB (e2 (eqF false) (eV 0) (eC (.str "quantity")))) (eC (.str "value")) (eC (.str "pairs"))) aN))))
 sNil)
 (sRet (eIf (asB (e2 (eqF false) (eV 0) (eC (.str "now")))) (eLst aN) (eC .non)))))))))
theorem ok__law_kinds {P : Program} {w : World} {K : PySem.W.Frag} {mg : Str → Option Value} {base : Heap} {f : Addr} {fd : FuncData} (U : Fun K "_law_kinds" "_law_kinds" s__law_kinds f fd) (T : Txt w K mg) : FnM P w K mg base CX0 1 f fd ["word"] F__law_kinds :=
  fn_m0 U sc__law_kinds rfl fun cdv A outer s H E hr hgd => by
    have nd := sc__law_kinds.nd
    exact (mss_cons (ms_if (mt_cmp or_in op2_in (me_var 0) (me_lst (ma_cons me_str (ma_cons me_str (ma_cons me_str ma_nil)))) (by with_unfolding_all rfl))
 (mss_one (ms_ret (me_lst (ma_cons me_str ma_nil))))
 mss_nil)
 (mss_cons (ms_if (mt_cmp or_in op2_in (me_var 0) (me_lst (ma_cons me_str (ma_cons me_str ma_nil))) (by with_unfolding_all rfl))
 (mss_one (ms_ret (me_lst (ma_cons me_str (ma_cons me_str ma_nil)))))
 mss_nil)
 (mss_cons (ms_if (mt_cmp or_in op2_in (me_var 0) (me_lst (ma_cons me_str (ma_cons me_str ma_nil))) (by with_unfolding_all rfl))
 (mss_one (ms_ret (me_lst (ma_cons me_str (ma_cons me_str (ma_cons me_str (ma_cons me_str (ma_cons me_str ma_nil))))))))
 mss_nil)
 (mss_cons (ms_if (mt_cmp or_in op2_in (me_var 0) (me_lst (ma_cons me_str (ma_cons me_str ma_nil))) (by with_unfolding_all rfl))
 (mss_one (ms_ret (me_lst (ma_cons me_str ma_nil))))
 mss_nil)
 (mss_cons (ms_if (mt_cmp or_in op2_in (me_var 0) (me_lst (ma_cons me_str (ma_cons me_str ma_nil))) (by with_unfolding_all rfl))
 (mss_one (ms_ret (me_if (mt_cmp (op_eqD hr.units) op2_eq (me_var 0) me_str (nomark _)) (me_lst (ma_cons me_str (ma_cons me_str ma_nil))) (me_op or_mul op2_mul (me_lst (ma_cons me_str ma_nil)) me_int))))
 mss_nil)
 (mss_cons (ms_if (mt_cmp or_in op2_in (me_var 0) (me_lst (ma_cons me_str (ma_cons me_str ma_nil))) (by with_unfolding_all rfl))
 (mss_one (ms_ret (me_lst (ma_cons me_str (ma_cons (me_if (mt_cmp (op_eqD hr.units) op2_eq (me_var 0) me_str (nomark _)) me_str me_str) ma_nil)))))
 mss_nil)
 (mss_one (ms_ret (me_if (mt_cmp (op_eqD hr.units) op2_eq (me_var 0) me_str (nomark _)) (me_lst ma_nil) me_non)))))))))
end P64
end
section
set_option maxRecDepth 100000
set_option maxHeartbeats 4000000
set_option autoImplicit false
set_option linter.all false
namespace P64
open PySem L2 DL
abbrev N__law_is_name : List Str := ["value", "sign"]
theorem sc__law_is_name : FnScope N__law_is_name ["value"] (defScope s__law_is_name) := ⟨rfl, rfl, rfl, by decide +kernel, rfl, by decide +kernel, by decide +kernel⟩
def E__law_is_name_0 : EF := (eCh leF leF (eC (.str "a")) (eV 1) (eC (.str "z")))
def F__law_is_name : FF := fnF0 2 (sRet (eAnd (e1 (isiF "str") (eV 0)) (eAnd (eCh ltF ltF (eC (.int 0)) (eL lenF (aC (eV 0) aN)) (eC (.int 7))) (eL allF (aC (eLc (iS (eV 0)) (gN 1) bY E__law_is_name_0 [1]) aN)))))
theorem ok__law_is_name {P : Program} {w : World} {K : PySem.W.Frag} {mg : Str → Option Value} {base : Heap} {f : Addr} {fd : FuncData} (U : Fun K "_law_is_name" "_law_is_name" s__law_is_name f fd) (T : Txt w K mg) : FnM P w K mg base CX0 1 f fd ["value"] F__law_is_name :=
  fn_m0 U sc__law_is_name rfl fun cdv A outer s H E hr hgd => by
    have nd := sc__law_is_name.nd
    exact (mss_one (ms_ret (me_and (me_isi (T := "str") (by decide) T.isinstance T.str_ bt_str (me_var 0)) (me_and (me_chain or_lt or_lt (fun _ => op2_cm) op2_cm cm_pure me_int (me_callB call_len opl_len T.len bf_len (ma_cons (me_var 0) ma_nil)) me_int) (me_and1 (me_callB (cr_all rfl) opl_all T.all bf_all (ma_cons (me_lc (own := [("sign", 1)]) nd (mi_str (me_var 0)) (by show BlkOk N__law_is_name (defScope s__law_is_name) _ _; exact blkOk_by (by decide +kernel)) (fun _ _ _ _ _ => (pg_name (i := 1) nd rfl (Or.inl rfl))) (gok_name 1) (by decide) (fun _ _ _ _ _ => mts_nil) (fun _ _ _ _ _ => (me_chain or_le or_le (fun _ => op2_cm) op2_cm cm_pure me_str (me_var 1) me_str))) ma_nil)))))))
end P64
end
section
set_option maxRecDepth 100000
set_option maxHeartbeats 4000000
set_option autoImplicit false
set_option linter.all false
namespace P64
open PySem L2 DL
abbrev N__law_is_whole : List Str := ["value", "least", "most"]
theorem sc__law_is_whole : FnScope N__law_is_whole ["value", "least", "most"] (defScope s__law_is_whole) := ⟨rfl, rfl, rfl, by decide +kernel, rfl, by decide +kernel, by decide +kernel⟩
def F__law_is_whole : FF := fnF0 3 (sRet (eAnd (e1 (isiF "int") (eV 0)) (eAnd (eNot (e1 (isiF "bool") (eV 0))) (eCh leF leF (eV 1) (eV 0) (eV 2)))))
theorem ok__law_is_whole {P : Program} {w : World} {K : PySem.W.Frag} {mg : Str → Option Value} {base : Heap} {f : Addr} {fd : FuncData} (U : Fun K "_law_is_whole" "_law_is_whole" s__law_is_whole f fd) (T : Txt w K mg) : FnM P w K mg base CX0 1 f fd ["value", "least", "most"] F__law_is_whole :=
  fn_m0 U sc__law_is_whole rfl fun cdv A outer s H E hr hgd => by
    have nd := sc__law_is_whole.nd
    exact (mss_one (ms_ret (me_and (me_isi (T := "int") (by decide) T.isinstance T.int_ bt_int (me_var 0)) (me_and (me_not (me_isi (T := "bool") (by decide) T.isinstance T.bool_ bt_bool (me_var 0))) (me_and1 (me_chain or_le or_le (fun _ => op2_cm) op2_cm cm_pure (me_var 1) (me_var 0) (me_var 2)))))))
end P64
end
section
set_option maxRecDepth 100000
set_option maxHeartbeats 4000000
set_option autoImplicit false
set_option linter.all false
namespace P64
open PySem L2 DL
abbrev N__law_are_pairs : List Str := ["value", "pair"]
theorem sc__law_are_pairs : FnScope N__law_are_pairs ["value"] (defScope s__law_are_pairs) := ⟨rfl, rfl, rfl, by decide +kernel, rfl, by decide +kernel, by decide +kernel⟩
def B__law_are_pairs_0 : SF := (sIf (bOr (bNot (asB (e1 (isiF "tuple") (eV 1)))) (bOr (asB (e2 (eqF true) (eL lenF (aC (eV 1) aN)) (eC (.int 2)))) (bOr (bNot (asB (eCall F__law_is_name 1 (aC (e2 ixF (eV 1) (eC (.int 0))) aN)))) (bNot (asB (eCall F__law_is_whole 3 (aC (e2 ixF (eV 1) (eC (.int 1))) (aC (e2 subF (eC (.int 0)) (e2 powF (eC (.int 10)) (eC (.int 6)))) (aC (e2 powF (eC (.int 10)) (eC (.int 6))) aN)))))))))
 (sRet (eC (.bl false)))
 sNil)
def F__law_are_pairs : FF := fnF0 2 (sSeq (sIf (bNot (asB (e1 (isiF "tuple") (eV 0))))
 (sRet (eC (.bl false)))
 sNil)
 (sSeq (sFor (iT (eV 0)) (gN 1)
 B__law_are_pairs_0)
 (sRet (eC (.bl true)))))
theorem ok__law_are_pairs {P : Program} {w : World} {K : PySem.W.Frag} {mg : Str → Option Value} {base : Heap} {f : Addr} {fd : FuncData} (U : Fun K "_law_are_pairs" "_law_are_pairs" s__law_are_pairs f fd) (T : Txt w K mg) (k__law_is_name : Knows P w K mg base CX0 1 "_law_is_name" ["value"] F__law_is_name) (k__law_is_whole : Knows P w K mg base CX0 1 "_law_is_whole" ["value", "least", "most"] F__law_is_whole) : FnM P w K mg base CX0 2 f fd ["value"] F__law_are_pairs :=
  fn_m0 U sc__law_are_pairs rfl fun cdv A outer s H E hr hgd => by
    have nd := sc__law_are_pairs.nd
    exact (mss_cons (ms_if (mt_not (mt_val (me_isi (T := "tuple") (by decide) T.isinstance T.tuple_ bt_tuple (me_var 0))))
 (mss_one (ms_ret me_bl))
 mss_nil)
 (mss_cons (ms_for .never (mi_tup (me_var 0)) (mg_name 1 nd)
 (mss_one (ms_if (mt_w (mw_or (mt_not (mt_val (me_isi (T := "tuple") (by decide) T.isinstance T.tuple_ bt_tuple (me_var 1)))) (mw_or (mt_cmp (op_neD hr.units) op2_ne (me_callB call_len opl_len T.len bf_len (ma_cons (me_var 1) ma_nil)) me_int (nomark _)) (mw_or (mt_not (mt_val (me_fn 1 k__law_is_name hr hgd passN (ma_cons (me_ix (me_var 1) me_int) ma_nil)))) (mw_or1 (mt_not (mt_val (me_fn 3 k__law_is_whole hr hgd passN (ma_cons (me_ix (me_var 1) me_int) (ma_cons (me_op or_sub op2_sub me_int (me_op op_pow op2_pow me_int me_int)) (ma_cons (me_op op_pow op2_pow me_int me_int) ma_nil)))))))))))
 (mss_one (ms_ret me_bl))
 mss_nil)))
 (mss_one (ms_ret me_bl))))
end P64
end
section
set_option maxRecDepth 100000
set_option maxHeartbeats 4000000
set_option autoImplicit false
set_option linter.all false
namespace P64
open PySem L2 DL
abbrev N__law_fits : List Str := ["value", "kinds", "part", "kind", "fits"]
theorem sc__law_fits : FnScope N__law_fits ["value", "kinds"] (defScope s__law_fits) := ⟨rfl, rfl, rfl, by decide +kernel, rfl, by decide +kernel, by decide +kernel⟩
def B__law_fits_0 : SF := (sSeq (sAsg (eCall F__law_is_name 1 (aC (eV 2) aN)) (gN 4))
 (sSeq (sIf (asB (e2 (eqF false) (eV 3) (eC (.str "move"))))
 (sAsg (eCall F__law_is_whole 3 (aC (eV 2) (aC (eC (.int 0)) (aC (eC (.int 39)) aN)))) (gN 4))
 (sIf (asB (e2 (eqF false) (eV 3) (eC (.str "number"))))
 (sAsg (eCall F__law_is_whole 3 (aC (eV 2) (aC (eC (.int 0)) (aC (eC (.int 29)) aN)))) (gN 4))
 (sIf (asB (e2 (eqF false) (eV 3) (eC (.str "weight"))))
 (sAsg (eCall F__law_is_whole 3 (aC (eV 2) (aC (e2 subF (eC (.int 0)) (eC (.int 1000))) (aC (eC (.int 1000)) aN)))) (gN 4))
 (sIf (asB (e2 (eqF false) (eV 3) (eC (.str "value"))))
 (sAsg (eCall F__law_is_whole 3 (aC (eV 2) (aC (e2 subF (eC (.int 0)) (e2 powF (eC (.int 10)) (eC (.int 6)))) (aC (e2 powF (eC (.int 10)) (eC (.int 6))) aN)))) (gN 4))
 (sIf (asB (e2 (eqF false) (eV 3) (eC (.str "kind"))))
 (sAsg (eAnd (e1 (isiF "str") (eV 2)) (e2 (inF false) (eV 2) (eLst (aC (eC (.str "rise")) (aC (eC (.str "fall")) (aC (eC (.str "now")) aN)))))) (gN 4))
 (sIf (asB (e2 (eqF false) (eV 3) (eC (.str "point"))))
 (sAsg (eOr (eV 4) (eAnd (e1 (isiF "str") (eV 2)) (e2 (eqF false) (eV 2) (eC (.str "0"))))) (gN 4))
 (sIf (asB (e2 (eqF false) (eV 3) (eC (.str "pairs"))))
 (sAsg (eCall F__law_are_pairs 1 (aC (eV 2) aN)) (gN 4))
 sNil)))))))
 (sIf (bNot (asB (eV 4)))
 (sRet (eC (.bl false)))
 sNil)))
def F__law_fits : FF := fnF0 5 (sSeq (sIf (asB (e2 (eqF true) (eL lenF (aC (eV 0) aN)) (e2 addF (eL lenF (aC (eV 1) aN)) (eC (.int 1)))))
 (sRet (eC (.bl false)))
 sNil)
 (sSeq (sFor (iZp true false (aC (eSl (eV 0) (oS (eC (.int 1))) oN) (aC (eV 1) aN))) (gT (gsC (gN 2) (gsC (gN 3) gsN)))
 B__law_fits_0)
 (sRet (eC (.bl true)))))
theorem ok__law_fits {P : Program} {w : World} {K : PySem.W.Frag} {mg : Str → Option Value} {base : Heap} {f : Addr} {fd : FuncData} (U : Fun K "_law_fits" "_law_fits" s__law_fits f fd) (T : Txt w K mg) (k__law_is_name : Knows P w K mg base CX0 1 "_law_is_name" ["value"] F__law_is_name) (k__law_is_whole : Knows P w K mg base CX0 1 "_law_is_whole" ["value", "least", "most"] F__law_is_whole) (k__law_are_pairs : Knows P w K mg base CX0 2 "_law_are_pairs" ["value"] F__law_are_pairs) : FnM P w K mg base CX0 3 f fd ["value", "kinds"] F__law_fits :=
  fn_m0 U sc__law_fits rfl fun cdv A outer s H E hr hgd => by
    have nd := sc__law_fits.nd
    exact (mss_cons (ms_if (mt_cmp (op_neD hr.units) op2_ne (me_callB call_len opl_len T.len bf_len (ma_cons (me_var 0) ma_nil)) (me_op or_add op2_add (me_callB call_len opl_len T.len bf_len (ma_cons (me_var 1) ma_nil)) me_int) (nomark _))
 (mss_one (ms_ret me_bl))
 mss_nil)
 (mss_cons (ms_for .never (mi_zipB true false T.zip (ma_cons (me_slice (me_var 0) (mo_some me_int) mo_none) (ma_cons (me_var 1) ma_nil))) (mg_tup (mgs_cons (mg_name 2 nd) (mgs_cons (mg_name 3 nd) mgs_nil)) (gsl_cons (gsl_cons gsl_nil)))
 (mss_cons (ms_set 4 nd (me_fn 1 k__law_is_name hr hgd passN (ma_cons (me_var 2) ma_nil)))
 (mss_cons (ms_if (mt_cmp (op_eqD hr.units) op2_eq (me_var 3) me_str (nomark _))
 (mss_one (ms_set 4 nd (me_fn 3 k__law_is_whole hr hgd passN (ma_cons (me_var 2) (ma_cons me_int (ma_cons me_int ma_nil))))))
 (mss_one (ms_if (mt_cmp (op_eqD hr.units) op2_eq (me_var 3) me_str (nomark _))
 (mss_one (ms_set 4 nd (me_fn 3 k__law_is_whole hr hgd passN (ma_cons (me_var 2) (ma_cons me_int (ma_cons me_int ma_nil))))))
 (mss_one (ms_if (mt_cmp (op_eqD hr.units) op2_eq (me_var 3) me_str (nomark _))
 (mss_one (ms_set 4 nd (me_fn 3 k__law_is_whole hr hgd passN (ma_cons (me_var 2) (ma_cons (me_op or_sub op2_sub me_int me_int) (ma_cons me_int ma_nil))))))
 (mss_one (ms_if (mt_cmp (op_eqD hr.units) op2_eq (me_var 3) me_str (nomark _))
 (mss_one (ms_set 4 nd (me_fn 3 k__law_is_whole hr hgd passN (ma_cons (me_var 2) (ma_cons (me_op or_sub op2_sub me_int (me_op op_pow op2_pow me_int me_int)) (ma_cons (me_op op_pow op2_pow me_int me_int) ma_nil))))))
 (mss_one (ms_if (mt_cmp (op_eqD hr.units) op2_eq (me_var 3) me_str (nomark _))
 (mss_one (ms_set 4 nd (me_and (me_isi (T := "str") (by decide) T.isinstance T.str_ bt_str (me_var 2)) (me_and1 (me_cmp or_in op2_in (me_var 2) (me_lst (ma_cons me_str (ma_cons me_str (ma_cons me_str ma_nil)))) (by with_unfolding_all rfl))))))
 (mss_one (ms_if (mt_cmp (op_eqD hr.units) op2_eq (me_var 3) me_str (nomark _))
 (mss_one (ms_set 4 nd (me_or (me_var 4) (me_and1 (me_and (me_isi (T := "str") (by decide) T.isinstance T.str_ bt_str (me_var 2)) (me_and1 (me_cmp (op_eqD hr.units) op2_eq (me_var 2) me_str (nomark _))))))))
 (mss_one (ms_if (mt_cmp (op_eqD hr.units) op2_eq (me_var 3) me_str (nomark _))
 (mss_one (ms_set 4 nd (me_fn 1 k__law_are_pairs hr hgd passN (ma_cons (me_var 2) ma_nil))))
 mss_nil)))))))))))))
 (mss_one (ms_if (mt_not (mt_val (me_var 4)))
 (mss_one (ms_ret me_bl))
 mss_nil)))))
 (mss_one (ms_ret me_bl))))
end P64
end
section
set_option maxRecDepth 100000
set_option maxHeartbeats 4000000
set_option autoImplicit false
set_option linter.all false
namespace P64
open PySem L2 DL
abbrev N__law_is_command : List Str := ["value", "kinds"]
theorem sc__law_is_command : FnScope N__law_is_command ["value"] (defScope s__law_is_command) := ⟨rfl, rfl, rfl, by decide +kernel, rfl, by decide +kernel, by decide +kernel⟩
def F__law_is_command : FF := fnF0 2 (sSeq (sIf (bOr (bNot (asB (e1 (isiF "tuple") (eV 0)))) (bOr (asB (e2 (eqF false) (eL lenF (aC (eV 0) aN)) (eC (.int 0)))) (bNot (asB (e1 (isiF "str") (e2 ixF (eV 0) (eC (.int 0))))))))
 (sRet (eC (.bl false)))
 sNil)
 (sSeq (sAsg (eCall F__law_kinds 1 (aC (e2 ixF (eV 0) (eC (.int 0))) aN)) (gN 1))
 (sRet (eAnd (e2 (isF true) (eV 1) (eC .non)) (eCall F__law_fits 2 (aC (eV 0) (aC (eV 1) aN)))))))
theorem ok__law_is_command {P : Program} {w : World} {K : PySem.W.Frag} {mg : Str → Option Value} {base : Heap} {f : Addr} {fd : FuncData} (U : Fun K "_law_is_command" "_law_is_command" s__law_is_command f fd) (T : Txt w K mg) (k__law_kinds : Knows P w K mg base CX0 1 "_law_kinds" ["word"] F__law_kinds) (k__law_fits : Knows P w K mg base CX0 3 "_law_fits" ["value", "kinds"] F__law_fits) : FnM P w K mg base CX0 4 f fd ["value"] F__law_is_command :=
  fn_m0 U sc__law_is_command rfl fun cdv A outer s H E hr hgd => by
    have nd := sc__law_is_command.nd
    exact (mss_cons (ms_if (mt_w (mw_or (mt_not (mt_val (me_isi (T := "tuple") (by decide) T.isinstance T.tuple_ bt_tuple (me_var 0)))) (mw_or (mt_cmp (op_eqD hr.units) op2_eq (me_callB call_len opl_len T.len bf_len (ma_cons (me_var 0) ma_nil)) me_int (nomark _)) (mw_or1 (mt_not (mt_val (me_isi (T := "str") (by decide) T.isinstance T.str_ bt_str (me_ix (me_var 0) me_int))))))))
 (mss_one (ms_ret me_bl))
 mss_nil)
 (mss_cons (ms_set 1 nd (me_fn 1 k__law_kinds hr hgd passN (ma_cons (me_ix (me_var 0) me_int) ma_nil)))
 (mss_one (ms_ret (me_and (me_cmp or_isnot op2_is (me_var 1) me_non (nomark _)) (me_and1 (me_fn 2 k__law_fits hr hgd passN (ma_cons (me_var 0) (ma_cons (me_var 1) ma_nil)))))))))
end P64
end
section
set_option maxRecDepth 100000
set_option maxHeartbeats 4000000
set_option autoImplicit false
set_option linter.all false
namespace P64
open PySem L2 DL
abbrev N__law_number : List Str := ["word", "digits", "number", "sign"]
theorem sc__law_number : FnScope N__law_number ["word"] (defScope s__law_number) := ⟨rfl, rfl, rfl, by decide +kernel, rfl, by decide +kernel, by decide +kernel⟩
def E__law_number_0 : EF := (eCh leF leF (eC (.str "0")) (eV 3) (eC (.str "9")))
def B__law_number_1 : SF := (sAsg (e2 addF (e2 mulF (eC (.int 10)) (eV 2)) (eM "str" sindexF (eC (.str "0123456789")) (aC (eV 3) aN))) (gN 2))
def F__law_number : FF := fnF0 4 (sSeq (sAsg (eIf (asB (e2 (eqF false) (e2 ixF (eV 0) (eC (.int 0))) (eC (.str "-")))) (eSl (eV 0) (oS (eC (.int 1))) oN) (eV 0)) (gN 1))
 (sSeq (sIf (bOr (bNot (asB (eCh ltF ltF (eC (.int 0)) (eL lenF (aC (eV 1) aN)) (eC (.int 8))))) (bOr (bNot (asB (eL allF (aC (eLc (iS (eV 1)) (gN 3) bY E__law_number_0 [3]) aN)))) (bAnd (asB (e2 (eqF false) (e2 ixF (eV 1) (eC (.int 0))) (eC (.str "0")))) (bOr (asB (e2 gtF (eL lenF (aC (eV 1) aN)) (eC (.int 1)))) (asB (e2 (eqF true) (eV 0) (eC (.str "0"))))))))
 (sRet (eC .non))
 sNil)
 (sSeq (sAsg (eC (.int 0)) (gN 2))
 (sSeq (sFor (iS (eV 1)) (gN 3)
 B__law_number_1)
 (sRet (eIf (asB (e2 (eqF true) (e2 ixF (eV 0) (eC (.int 0))) (eC (.str "-")))) (eV 2) (e2 subF (eC (.int 0)) (eV 2))))))))
theorem ok__law_number {P : Program} {w : World} {K : PySem.W.Frag} {mg : Str → Option Value} {base : Heap} {f : Addr} {fd : FuncData} (U : Fun K "_law_number" "_law_number" s__law_number f fd) (T : Txt w K mg) : FnM P w K mg base CX0 1 f fd ["word"] F__law_number :=
  fn_m0 U sc__law_number rfl fun cdv A outer s H E hr hgd => by
    have nd := sc__law_number.nd
    exact (mss_cons (ms_set 1 nd (me_if (mt_cmp (op_eqD hr.units) op2_eq (me_ix (me_var 0) me_int) me_str (nomark _)) (me_slice (me_var 0) (mo_some me_int) mo_none) (me_var 0)))
 (mss_cons (ms_if (mt_w (mw_or (mt_not (mt_chain or_lt or_lt (fun _ => op2_cm) op2_cm cm_pure me_int (me_callB call_len opl_len T.len bf_len (ma_cons (me_var 1) ma_nil)) me_int)) (mw_or (mt_not (mt_val (me_callB (cr_all rfl) opl_all T.all bf_all (ma_cons (me_lc (own := [("sign", 3)]) nd (mi_str (me_var 1)) (by show BlkOk N__law_number (defScope s__law_number) _ _; exact blkOk_by (by decide +kernel)) (fun _ _ _ _ _ => (pg_name (i := 3) nd rfl (Or.inl rfl))) (gok_name 3) (by decide) (fun _ _ _ _ _ => mts_nil) (fun _ _ _ _ _ => (me_chain or_le or_le (fun _ => op2_cm) op2_cm cm_pure me_str (me_var 3) me_str))) ma_nil)))) (mw_or1 (mt_w (mw_and (mt_cmp (op_eqD hr.units) op2_eq (me_ix (me_var 1) me_int) me_str (nomark _)) (mw_and1 (mt_w (mw_or (mt_cmp or_gt op2_cm (me_callB call_len opl_len T.len bf_len (ma_cons (me_var 1) ma_nil)) me_int (nomark _)) (mw_or1 (mt_cmp (op_neD hr.units) op2_ne (me_var 0) me_str (nomark _))))))))))))
 (mss_one (ms_ret me_non))
 mss_nil)
 (mss_cons (ms_set 2 nd me_int)
 (mss_cons (ms_for .never (mi_str (me_var 1)) (mg_name 3 nd)
 (mss_one (ms_set 2 nd (me_op or_add op2_add (me_op or_mul op2_mul me_int (me_var 2)) (me_bm (.inl rfl) PySem.F.plainAttrs_str PySem.F.slot_str_index PySem.F.type_str_index mt_sindex opm_sindex me_str (ma_cons (me_var 3) ma_nil))))))
 (mss_one (ms_ret (me_if (mt_cmp (op_neD hr.units) op2_ne (me_ix (me_var 0) me_int) me_str (nomark _)) (me_var 2) (me_op or_sub op2_sub me_int (me_var 2)))))))))
end P64
end
section
set_option maxRecDepth 100000
set_option maxHeartbeats 4000000
set_option autoImplicit false
set_option linter.all false
namespace P64
open PySem L2 DL
abbrev N__law_told : List Str := ["words", "kinds", "found", "at", "rest", "place"]
theorem sc__law_told : FnScope N__law_told ["words"] (defScope s__law_told) := ⟨rfl, rfl, rfl, by decide +kernel, rfl, by decide +kernel, by decide +kernel⟩
def E__law_told_0 : EF := (eTup (aC (e2 ixF (eV 4) (e2 mulF (eC (.int 2)) (eV 5))) (aC (eCall F__law_number 1 (aC (e2 ixF (eV 4) (e2 addF (e2 mulF (eC (.int 2)) (eV 5)) (eC (.int 1)))) aN)) aN)))
def B__law_told_1 : SF := (sIf (asB (e2 (eqF false) (e2 ixF (eV 1) (eV 3)) (eC (.str "pairs"))))
 (sSeq (sAsg (eSl (eV 0) (oS (e2 addF (eV 3) (eC (.int 1)))) oN) (gN 4))
 (sSeq (sIf (asB (e2 (eqF false) (e2 modF (eL intF (aC (eL lenF (aC (eV 4) aN)) aN)) (eC (.int 2))) (eC (.int 1))))
 (sRet (eC .non))
 sNil)
 (sEx (eM "list" appendF (eV 2) (aC (eL tupF (aC (eLc (iR1 (aC (e2 fdivF (eL lenF (aC (eV 4) aN)) (eC (.int 2))) aN)) (gN 5) bY E__law_told_0 [5]) aN)) aN)))))
 (sEx (eM "list" appendF (eV 2) (aC (eIf (asB (e2 (inF false) (e2 ixF (eV 1) (eV 3)) (eLst (aC (eC (.str "name")) (aC (eC (.str "point")) (aC (eC (.str "kind")) aN)))))) (e2 ixF (eV 0) (e2 addF (eV 3) (eC (.int 1)))) (eCall F__law_number 1 (aC (e2 ixF (eV 0) (e2 addF (eV 3) (eC (.int 1)))) aN))) aN))))
def F__law_told : FF := scF (fnF0 6 (sSeq (sAsg (eCall F__law_kinds 1 (aC (e2 ixF (eV 0) (eC (.int 0))) aN)) (gN 1))
 (sSeq (sIf (bOr (asB (e2 (isF false) (eV 1) (eC .non))) (bOr (asB (e2 ltF (e2 subF (eL lenF (aC (eV 0) aN)) (eC (.int 1))) (e2 subF (eL lenF (aC (eV 1) aN)) (eL intF (aC (e2 (inF false) (eC (.str "pairs")) (eV 1)) aN))))) (bAnd (asB (e2 (inF true) (eC (.str "pairs")) (eV 1))) (asB (e2 (eqF true) (e2 subF (eL lenF (aC (eV 0) aN)) (eC (.int 1))) (eL lenF (aC (eV 1) aN)))))))
 (sRet (eC .non))
 sNil)
 (sSeq (sAsg (eNew (aC (e2 ixF (eV 0) (eC (.int 0))) aN)) (gN 2))
 (sSeq (sFor (iR1 (aC (eL lenF (aC (eV 1) aN)) aN)) (gN 3)
 B__law_told_1)
 (sRet (eIf (asB (eCall F__law_is_command 1 (aC (eL tupF (aC (eV 2) aN)) aN))) (eL tupF (aC (eV 2) aN)) (eC .non))))))))
theorem ok__law_told {P : Program} {w : World} {K : PySem.W.Frag} {mg : Str → Option Value} {base : Heap} {f : Addr} {fd : FuncData} (U : Fun K "_law_told" "_law_told" s__law_told f fd) (T : Txt w K mg) (k__law_kinds : Knows P w K mg base CX0 1 "_law_kinds" ["word"] F__law_kinds) (k__law_is_command : Knows P w K mg base CX0 4 "_law_is_command" ["value"] F__law_is_command) (k__law_number : Knows P w K mg base CX0 1 "_law_number" ["word"] F__law_number) : FnM P w K mg base CX0 5 f fd ["words"] F__law_told :=
  (fn_m0 U sc__law_told rfl fun cdv A outer s H E hr hgd => by
    have nd := sc__law_told.nd
    exact (mss_cons (ms_set 1 nd (me_fn 1 k__law_kinds hr hgd passN (ma_cons (me_ix (me_var 0) me_int) ma_nil)))
 (mss_cons (ms_if (mt_w (mw_or (mt_cmp or_is op2_is (me_var 1) me_non (nomark _)) (mw_or (mt_cmp or_lt op2_cm (me_op or_sub op2_sub (me_callB call_len opl_len T.len bf_len (ma_cons (me_var 0) ma_nil)) me_int) (me_op or_sub op2_sub (me_callB call_len opl_len T.len bf_len (ma_cons (me_var 1) ma_nil)) (me_callTy cr_int opl_int T.int_ bt_int (ma_cons (me_cmp or_in op2_in me_str (me_var 1) (by with_unfolding_all rfl)) ma_nil))) (nomark _)) (mw_or1 (mt_w (mw_and (mt_cmp or_notin op2_in me_str (me_var 1) (by with_unfolding_all rfl)) (mw_and1 (mt_cmp (op_neD hr.units) op2_ne (me_op or_sub op2_sub (me_callB call_len opl_len T.len bf_len (ma_cons (me_var 0) ma_nil)) me_int) (me_callB call_len opl_len T.len bf_len (ma_cons (me_var 1) ma_nil)) (nomark _)))))))))
 (mss_one (ms_ret me_non))
 mss_nil)
 (mss_cons (ms_set 2 nd (me_new (ma_cons (me_ix (me_var 0) me_int) ma_nil)))
 (mss_cons (ms_for .never (mi_range1 T.range (ma_cons (me_callB call_len opl_len T.len bf_len (ma_cons (me_var 1) ma_nil)) ma_nil)) (mg_name 3 nd)
 (mss_one (ms_if (mt_cmp (op_eqD hr.units) op2_eq (me_ix (me_var 1) (me_var 3)) me_str (nomark _))
 (mss_cons (ms_set 4 nd (me_slice (me_var 0) (mo_some (me_op or_add op2_add (me_var 3) me_int)) mo_none))
 (mss_cons (ms_if (mt_cmp (op_eqD hr.units) op2_eq (me_op op_mod op2_mod (me_callTy cr_int opl_int T.int_ bt_int (ma_cons (me_callB call_len opl_len T.len bf_len (ma_cons (me_var 4) ma_nil)) ma_nil)) me_int) me_int (nomark _))
 (mss_one (ms_ret me_non))
 mss_nil)
 (mss_one (ms_ex (me_bm (.inr rfl) PySem.F.plainAttrs_list PySem.F.slot_list_append PySem.F.type_list_append mt_append opm_append (me_var 2) (ma_cons (me_callTy call_tuple_of opl_tup T.tuple_ bt_tuple (ma_cons (me_lc (own := [("place", 5)]) nd (mi_range1 T.range (ma_cons (me_op op_fdiv op2_fdiv (me_callB call_len opl_len T.len bf_len (ma_cons (me_var 4) ma_nil)) me_int) ma_nil)) (by show BlkOk N__law_told (defScope s__law_told) _ _; exact blkOk_by (by decide +kernel)) (fun _ _ _ _ _ => (pg_name (i := 5) nd rfl (Or.inl rfl))) (gok_name 5) (by decide) (fun _ _ _ _ _ => mts_nil) (fun _ _ _ _ _ => (me_tup (ma_cons (me_ix (me_var 4) (me_op or_mul op2_mul me_int (me_var 5))) (ma_cons (me_fn 1 k__law_number hr hgd passN (ma_cons (me_ix (me_var 4) (me_op or_add op2_add (me_op or_mul op2_mul me_int (me_var 5)) me_int)) ma_nil)) ma_nil))))) ma_nil)) ma_nil))))))
 (mss_one (ms_ex (me_bm (.inr rfl) PySem.F.plainAttrs_list PySem.F.slot_list_append PySem.F.type_list_append mt_append opm_append (me_var 2) (ma_cons (me_if (mt_cmp or_in op2_in (me_ix (me_var 1) (me_var 3)) (me_lst (ma_cons me_str (ma_cons me_str (ma_cons me_str ma_nil)))) (by with_unfolding_all rfl)) (me_ix (me_var 0) (me_op or_add op2_add (me_var 3) me_int)) (me_fn 1 k__law_number hr hgd passN (ma_cons (me_ix (me_var 0) (me_op or_add op2_add (me_var 3) me_int)) ma_nil))) ma_nil)))))))
 (mss_one (ms_ret (me_if (mt_val (me_fn 1 k__law_is_command hr hgd passN (ma_cons (me_callTy call_tuple_of opl_tup T.tuple_ bt_tuple (ma_cons (me_var 2) ma_nil)) ma_nil))) (me_callTy call_tuple_of opl_tup T.tuple_ bt_tuple (ma_cons (me_var 2) ma_nil)) me_non)))))))).sc
end P64
end
section
set_option maxRecDepth 100000
set_option maxHeartbeats 4000000
set_option autoImplicit false
set_option linter.all false
namespace P64
open PySem L2 DL
abbrev N__law_read : List Str := ["text", "found", "lines", "at", "words", "command", "word"]
theorem sc__law_read : FnScope N__law_read ["text"] (defScope s__law_read) := ⟨rfl, rfl, rfl, by decide +kernel, rfl, by decide +kernel, by decide +kernel⟩
def E__law_read_0 : EF := (eV 6)
def T__law_read_1 : BF := (asB (e2 (eqF true) (eV 6) (eC (.str ""))))
def B__law_read_2 : SF := (sSeq (sAsg (eLc (iL (eM "str" splitF (e2 ixF (eV 2) (eV 3)) (aC (eC (.str " ")) aN))) (gN 6) T__law_read_1 E__law_read_0 [6]) (gN 4))
 (sIf (asB (e2 (eqF true) (eV 4) (eLst aN)))
 (sSeq (sAsg (eCall F__law_told 1 (aC (eV 4) aN)) (gN 5))
 (sSeq (sIf (asB (e2 (isF false) (eV 5) (eC .non)))
 (sRet (eTup (aC (eC (.str "refused")) (aC (eV 3) (aC (eC (.int 0)) aN)))))
 sNil)
 (sEx (eM "list" appendF (eV 1) (aC (eV 5) aN)))))
 sNil))
def F__law_read : FF := scF (fnF0 7 (sSeq (sPar 1 2 (aC (eNew aN) (aC (eM "str" splitF (eV 0) (aC (eC (.str "\n")) aN)) aN)))
 (sSeq (sFor (iR1 (aC (eL lenF (aC (eV 2) aN)) aN)) (gN 3)
 B__law_read_2)
 (sRet (eTup (aC (eC (.str "told")) (aC (eL tupF (aC (eV 1) aN)) aN)))))))
theorem ok__law_read {P : Program} {w : World} {K : PySem.W.Frag} {mg : Str → Option Value} {base : Heap} {f : Addr} {fd : FuncData} (U : Fun K "_law_read" "_law_read" s__law_read f fd) (T : Txt w K mg) (k__law_told : Knows P w K mg base CX0 5 "_law_told" ["words"] F__law_told) : FnM P w K mg base CX0 6 f fd ["text"] F__law_read :=
  (fn_m0 U sc__law_read rfl fun cdv A outer s H E hr hgd => by
    have nd := sc__law_read.nd
    exact (mss_cons (ms_par 1 2 nd (ma_cons (me_new ma_nil) (ma_cons (me_bm (.inl rfl) PySem.F.plainAttrs_str PySem.F.slot_str_split PySem.F.type_str_split mt_split opm_split (me_var 0) (ma_cons me_str ma_nil)) ma_nil)))
 (mss_cons (ms_for .never (mi_range1 T.range (ma_cons (me_callB call_len opl_len T.len bf_len (ma_cons (me_var 2) ma_nil)) ma_nil)) (mg_name 3 nd)
 (mss_cons (ms_setLc 4 (own := [("word", 6)]) nd (mi_list (me_bm (.inl rfl) PySem.F.plainAttrs_str PySem.F.slot_str_split PySem.F.type_str_split mt_split opm_split (me_ix (me_var 2) (me_var 3)) (ma_cons me_str ma_nil))) (by show BlkOk N__law_read (defScope s__law_read) _ _; exact blkOk_by (by decide +kernel)) (fun _ _ _ _ _ => (pg_name (i := 6) nd rfl (Or.inl rfl))) (gok_name 6) (by decide) (fun _ _ _ _ _ => (mts_one (mt_cmp (op_neD hr.units) op2_ne (me_var 6) me_str (nomark _)))) (fun _ _ _ _ _ => (me_var 6)) (sw_true rfl rfl rfl (by decide +kernel)))
 (mss_one (ms_if (mt_cmp (op_neD hr.units) op2_ne (me_var 4) (me_lst ma_nil) (nomark _))
 (mss_cons (ms_set 5 nd (me_fn 1 k__law_told hr hgd passN (ma_cons (me_var 4) ma_nil)))
 (mss_cons (ms_if (mt_cmp or_is op2_is (me_var 5) me_non (nomark _))
 (mss_one (ms_ret (me_tup (ma_cons me_str (ma_cons (me_var 3) (ma_cons me_int ma_nil))))))
 mss_nil)
 (mss_one (ms_ex (me_bm (.inr rfl) PySem.F.plainAttrs_list PySem.F.slot_list_append PySem.F.type_list_append mt_append opm_append (me_var 1) (ma_cons (me_var 5) ma_nil))))))
 mss_nil))))
 (mss_one (ms_ret (me_tup (ma_cons me_str (ma_cons (me_callTy call_tuple_of opl_tup T.tuple_ bt_tuple (ma_cons (me_var 1) ma_nil)) ma_nil)))))))).sc
end P64
end
section
set_option maxRecDepth 100000
set_option maxHeartbeats 4000000
set_option autoImplicit false
set_option linter.all false
namespace P64
open PySem L2 DL
abbrev N_law : List Str := ["script", "heap", "turn", "commands", "command", "line", "again", "value", "kept", "whole", "text", "some"]
theorem sc_law : FnScope N_law ["script"] (defScope s_law) := ⟨rfl, rfl, rfl, by decide +kernel, rfl, by decide +kernel, by decide +kernel⟩
def E_law_0 : EF := (eCall F__law_command 2 (aC (eV 1) (aC (eLst (aC (eC (.str "level")) (aC (eC (.str "b")) aN))) aN)))
noncomputable def B_law_1 : SF := (sSeq (sAsg (eCall F__law_spoilt 2 (aC (eV 1) (aC (eV 4) aN))) (gN 7))
 (sSeq (sAsg (eIf (bAnd (asB (e2 (eqF false) (eV 6) (eC (.int 2)))) (bAnd (asB (e1 (isiF "tuple") (eV 7))) (asB (e2 neEF (eV 7) (eTup aN))))) (eCall F__law_spoilt 2 (aC (eV 1) (aC (eV 7) aN))) (eV 7)) (gN 7))
 (sSeq (sAsg (eL reprF (aC (eV 7) aN)) (gN 8))
 (sIf (bOr (asB (e2 (eqF true) (eL reprF (aC (eCall F_is_command 1 (aC (eV 7) aN)) aN)) (eL reprF (aC (eCall F__law_is_command 1 (aC (eV 7) aN)) aN)))) (asB (e2 (eqF true) (eL reprF (aC (eV 7) aN)) (eV 8))))
 (sRet (eC (.bl false)))
 sNil))))
noncomputable def B_law_2 : SF := (sSeq (sAsg (eM "str" joinF (eC (.str " ")) (aC (eCall F__law_words 1 (aC (eV 4) aN)) aN)) (gN 5))
 (sSeq (sIf (bOr (bNot (asB (eCall F__law_is_command 1 (aC (eV 4) aN)))) (bOr (asB (e2 (isF true) (eCall F_is_command 1 (aC (eV 4) aN)) (eC (.bl true)))) (asB (e2 (eqF true) (eL reprF (aC (eCall F_show_command 1 (aC (eV 4) aN)) aN)) (eL reprF (aC (eV 5) aN))))))
 (sRet (eC (.bl false)))
 sNil)
 (sSeq (sIf (bOr (asB (e2 (isF true) (eCall F_is_command 1 (aC (eV 4) aN)) (eC (.bl true)))) (asB (e2 (eqF true) (eCall F_show_command 1 (aC (eV 4) aN)) (eV 5))))
 (sRet (eC (.bl false)))
 sNil)
 (sFor (iR1 (aC (eC (.int 3)) aN)) (gN 6)
 B_law_1))))
def E_law_3 : EF := (eM "str" joinF (eC (.str " ")) (aC (eCall F__law_words 1 (aC (eV 4) aN)) aN))
noncomputable def B_law_4 (C : Addr) : SF := (sSeq (sAsg (eCall F__law_text 2 (aC (eV 1) (aC (eV 3) aN))) (gN 10))
 (sIf (asB (e2 (eqF true) (eL reprF (aC (eCall (F__law_heard C) 1 (aC (eV 10) aN)) aN)) (eL reprF (aC (eCall F__law_read 1 (aC (eV 10) aN)) aN))))
 (sRet (eC (.bl false)))
 sNil))
noncomputable def B_law_5 (C : Addr) : SF := (sSeq (sAsg (eLc (iR1 (aC (eCall F__law_pick 2 (aC (eV 1) (aC (eLst (aC (eC (.int 6)) (aC (eC (.int 4)) (aC (eC (.int 9)) (aC (eC (.int 1)) aN))))) aN))) aN)) (gN 6) bY E_law_0 [6]) (gN 3))
 (sSeq (sFor (iL (eV 3)) (gN 4)
 B_law_2)
 (sSeq (sAsg (eM "str" joinF (eC (.str "\n")) (aC (eLc (iL (eV 3)) (gN 4) bY E_law_3 [4]) aN)) (gN 9))
 (sSeq (sIf (bOr (asB (e2 (eqF true) (eL reprF (aC (eCall F_show_commands 1 (aC (eL tupF (aC (eV 3) aN)) aN)) aN)) (eL reprF (aC (eV 9) aN)))) (asB (e2 (eqF true) (eCall F_show_commands 1 (aC (eL tupF (aC (eV 3) aN)) aN)) (eV 9))))
 (sRet (eC (.bl false)))
 sNil)
 (sSeq (sIf (bOr (asB (e2 (eqF true) (eL reprF (aC (eCall (F_read_commands C) 1 (aC (eV 9) aN)) aN)) (eL reprF (aC (eL tupF (aC (eV 3) aN)) aN)))) (asB (e2 (eqF true) (eCall (F_read_commands C) 1 (aC (eV 9) aN)) (eL tupF (aC (eV 3) aN)))))
 (sRet (eC (.bl false)))
 sNil)
 (sSeq (sFor (iR1 (aC (eC (.int 3)) aN)) (gN 6)
 (B_law_4 C))
 (sIf (asB (e2 (eqF true) (eCall (F__law_heard C) 1 (aC (eCall F__law_pick 2 (aC (eV 1) (aC (eLst (aC (eC .non) (aC (eC (.int 3)) (aC (eLst (aC (eC (.str "now")) aN)) (aC (eTup (aC (eC (.str "now")) aN)) (aC (eC (.bl true)) aN)))))) aN))) aN)) (eTup (aC (eC (.str "refused")) (aC (e2 subF (eC (.int 0)) (eC (.int 1))) (aC (e2 subF (eC (.int 0)) (eC (.int 1))) aN))))))
 (sRet (eC (.bl false)))
 sNil)))))))
noncomputable def B_law_6 (C : Addr) : SF := (sIf (asB (e2 (eqF true) (eL reprF (aC (eCall (F__law_heard C) 1 (aC (eV 10) aN)) aN)) (eL reprF (aC (eCall F__law_read 1 (aC (eV 10) aN)) aN))))
 (sRet (eC (.bl false)))
 sNil)
noncomputable def F_law (C : Addr) : FF := fnF0 12 (sSeq (sAsg (eCall F__law_heap 1 (aC (eV 0) aN)) (gN 1))
 (sSeq (sFor (iR1 (aC (e2 addF (e2 addF (eC (.int 1)) (eL intF (aC (e2 gtF (eL lenF (aC (eV 0) aN)) (eC (.int 0))) aN))) (eL intF (aC (e2 gtF (eL lenF (aC (eV 0) aN)) (eC (.int 1))) aN))) aN)) (gN 2)
 (B_law_5 C))
 (sSeq (sAsg (eLst (aC (eC (.str "")) (aC (eC (.str " \n")) (aC (eC (.str "now")) (aC (eC (.str "now\n\nnows")) (aC (eC (.str "wish 0")) (aC (eC (.str "wish 0 a")) (aC (eC (.str "hold on")) (aC (eC (.str "rule 0 rise 0 a 1")) (aC (eC (.str "rule 0 rise a 00 1")) (aC (eC (.str "come 40")) (aC (eC (.str "\nease 1 30")) (aC (eC (.str "Now")) aN))))))))))))) (gN 11))
 (sSeq (sAsg (e2 addF (eV 11) (eLst (aC (eC (.str "come +1")) (aC (eC (.str "quantity a 1_0")) (aC (eC (.str "state a_b")) (aC (eC (.str "come 1.0")) (aC (eC (.str "quantity a 0x1")) (aC (eC (.str "quantity a --1")) (aC (eC (.str "quantity a -")) aN))))))))) (gN 11))
 (sSeq (sFor (iL (eV 11)) (gN 10)
 (B_law_6 C))
 (sRet (eAnd (e2 (eqF false) (eCall F_show_commands 1 (aC (eTup aN) aN)) (eC (.str ""))) (e2 (eqF false) (eCall (F_read_commands C) 1 (aC (eC (.str "wish 0 a 1 a -2")) aN)) (eTup (aC (eTup (aC (eC (.str "wish")) (aC (eC (.int 0)) (aC (eTup (aC (eTup (aC (eC (.str "a")) (aC (eC (.int 1)) aN))) (aC (eTup (aC (eC (.str "a")) (aC (e2 subF (eC (.int 0)) (eC (.int 2))) aN))) aN))) aN)))) aN))))))))))
theorem ok_law {P : Program} {w : World} {K : PySem.W.Frag} {mg : Str → Option Value} {base : Heap} {f : Addr} {fd : FuncData} (U : Fun K "law" "law" s_law f fd) (T : Txt w K mg) {C : Addr} (k__law_heap : Knows P w K mg base CX0 1 "_law_heap" ["script"] F__law_heap) (k__law_command : Knows P w K mg base CX0 3 "_law_command" ["heap", "names"] F__law_command) (k__law_text : Knows P w K mg base CX0 3 "_law_text" ["heap", "commands"] F__law_text) (k__law_heard : Knows P w K mg base CX0 7 "_law_heard" ["value"] (F__law_heard C)) (k_show_commands : Knows P w K mg base CX0 2 "show_commands" ["commands"] F_show_commands) (k_read_commands : Knows P w K mg base (L2.CX P w) 6 "read_commands" ["text"] (F_read_commands C)) (k__law_words : Knows P w K mg base CX0 1 "_law_words" ["command"] F__law_words) (k__law_spoilt : Knows P w K mg base CX0 4 "_law_spoilt" ["heap", "whole"] F__law_spoilt) (k__law_pick : Knows P w K mg base CX0 2 "_law_pick" ["heap", "some"] F__law_pick) (k__law_read : Knows P w K mg base CX0 6 "_law_read" ["text"] F__law_read) (k__law_is_command : Knows P w K mg base CX0 4 "_law_is_command" ["value"] F__law_is_command) (k_is_command : Knows P w K mg base CX0 5 "is_command" ["value"] F_is_command) (k_show_command : Knows P w K mg base CX0 1 "show_command" ["command"] F_show_command) : FnM P w K mg base CX0 8 f fd ["script"] (F_law C) :=
  fn_m0 U sc_law rfl fun cdv A outer s H E hr hgd => by
    have nd := sc_law.nd
    exact (mss_cons (ms_set 1 nd (me_fn 1 k__law_heap hr hgd passN (ma_cons (me_var 0) ma_nil)))
 (mss_cons (ms_for .never (mi_range1 T.range (ma_cons (me_op or_add op2_add (me_op or_add op2_add me_int (me_callTy cr_int opl_int T.int_ bt_int (ma_cons (me_cmp or_gt op2_cm (me_callB call_len opl_len T.len bf_len (ma_cons (me_var 0) ma_nil)) me_int (nomark _)) ma_nil))) (me_callTy cr_int opl_int T.int_ bt_int (ma_cons (me_cmp or_gt op2_cm (me_callB call_len opl_len T.len bf_len (ma_cons (me_var 0) ma_nil)) me_int (nomark _)) ma_nil))) ma_nil)) (mg_name 2 nd)
 (mss_cons (ms_setLc 3 (own := [("again", 6)]) nd (mi_range1 T.range (ma_cons (me_fn 2 k__law_pick hr hgd passN (ma_cons (me_var 1) (ma_cons (me_lst (ma_cons me_int (ma_cons me_int (ma_cons me_int (ma_cons me_int ma_nil))))) ma_nil))) ma_nil)) (by show BlkOk N_law (defScope s_law) _ _; exact blkOk_by (by decide +kernel)) (fun _ _ _ _ _ => (pg_name (i := 6) nd rfl (Or.inl rfl))) (gok_name 6) (by decide) (fun _ _ _ _ _ => mts_nil) (fun _ _ _ _ _ => (me_fn 2 k__law_command hr hgd passN (ma_cons (me_var 1) (ma_cons (me_lst (ma_cons me_str (ma_cons me_str ma_nil))) ma_nil)))) (sw_true rfl rfl rfl (by decide +kernel)))
 (mss_cons (ms_for .never (mi_list (me_var 3)) (mg_name 4 nd)
 (mss_cons (ms_set 5 nd (me_bm (.inl rfl) PySem.F.plainAttrs_str PySem.F.slot_str_join PySem.F.type_str_join mt_join opm_join me_str (ma_cons (me_fn 1 k__law_words hr hgd passN (ma_cons (me_var 4) ma_nil)) ma_nil)))
 (mss_cons (ms_if (mt_w (mw_or (mt_not (mt_val (me_fn 1 k__law_is_command hr hgd passN (ma_cons (me_var 4) ma_nil)))) (mw_or (mt_cmp or_isnot op2_is (me_fn 1 k_is_command hr hgd passN (ma_cons (me_var 4) ma_nil)) me_bl (nomark _)) (mw_or1 (mt_cmp (op_neD hr.units) op2_ne (me_callB (cr_repr hgd (room66 hr)) opl_repr T.repr bf_repr (ma_cons (me_fn 1 k_show_command hr hgd passN (ma_cons (me_var 4) ma_nil)) ma_nil)) (me_callB (cr_repr hgd (room66 hr)) opl_repr T.repr bf_repr (ma_cons (me_var 5) ma_nil)) (nomark _))))))
 (mss_one (ms_ret me_bl))
 mss_nil)
 (mss_cons (ms_if (mt_w (mw_or (mt_cmp or_isnot op2_is (me_fnK 1 k_is_command hr hgd passN (mk_cons (me_var 4) mk_nil)) me_bl (nomark _)) (mw_or1 (mt_cmp (op_neD hr.units) op2_ne (me_fnK 1 k_show_command hr hgd passN (mk_cons (me_var 4) mk_nil)) (me_var 5) (nomark _)))))
 (mss_one (ms_ret me_bl))
 mss_nil)
 (mss_one (ms_for .never (mi_range1 T.range (ma_cons me_int ma_nil)) (mg_name 6 nd)
 (mss_cons (ms_set 7 nd (me_fn 2 k__law_spoilt hr hgd passN (ma_cons (me_var 1) (ma_cons (me_var 4) ma_nil))))
 (mss_cons (ms_set 7 nd (me_if (mt_w (mw_and (mt_cmp (op_eqD hr.units) op2_eq (me_var 6) me_int (nomark _)) (mw_and (mt_val (me_isi (T := "tuple") (by decide) T.isinstance T.tuple_ bt_tuple (me_var 7))) (mw_and1 (mt_cmp (or_neE hr.units) op2_neE (me_var 7) (me_tup ma_nil) (nomark _)))))) (me_fn 2 k__law_spoilt hr hgd passN (ma_cons (me_var 1) (ma_cons (me_var 7) ma_nil))) (me_var 7)))
 (mss_cons (ms_set 8 nd (me_callB (cr_repr hgd (room66 hr)) opl_repr T.repr bf_repr (ma_cons (me_var 7) ma_nil)))
 (mss_one (ms_if (mt_w (mw_or (mt_cmp (op_neD hr.units) op2_ne (me_callB (cr_repr hgd (room66 hr)) opl_repr T.repr bf_repr (ma_cons (me_fn 1 k_is_command hr hgd passN (ma_cons (me_var 7) ma_nil)) ma_nil)) (me_callB (cr_repr hgd (room66 hr)) opl_repr T.repr bf_repr (ma_cons (me_fn 1 k__law_is_command hr hgd passN (ma_cons (me_var 7) ma_nil)) ma_nil)) (nomark _)) (mw_or1 (mt_cmp (op_neD hr.units) op2_ne (me_callB (cr_repr hgd (room66 hr)) opl_repr T.repr bf_repr (ma_cons (me_var 7) ma_nil)) (me_var 8) (nomark _)))))
 (mss_one (ms_ret me_bl))
 mss_nil)))))))))))
 (mss_cons (ms_set 9 nd (me_bm (.inl rfl) PySem.F.plainAttrs_str PySem.F.slot_str_join PySem.F.type_str_join mt_join opm_join me_str (ma_cons (me_lc (own := [("command", 4)]) nd (mi_list (me_var 3)) (by show BlkOk N_law (defScope s_law) _ _; exact blkOk_by (by decide +kernel)) (fun _ _ _ _ _ => (pg_name (i := 4) nd rfl (Or.inl rfl))) (gok_name 4) (by decide) (fun _ _ _ _ _ => mts_nil) (fun _ _ _ _ _ => (me_bm (.inl rfl) PySem.F.plainAttrs_str PySem.F.slot_str_join PySem.F.type_str_join mt_join opm_join me_str (ma_cons (me_fn 1 k__law_words hr hgd passN (ma_cons (me_var 4) ma_nil)) ma_nil)))) ma_nil)))
 (mss_cons (ms_if (mt_w (mw_or (mt_cmp (op_neD hr.units) op2_ne (me_callB (cr_repr hgd (room66 hr)) opl_repr T.repr bf_repr (ma_cons (me_fn 1 k_show_commands hr hgd passN (ma_cons (me_callTy call_tuple_of opl_tup T.tuple_ bt_tuple (ma_cons (me_var 3) ma_nil)) ma_nil)) ma_nil)) (me_callB (cr_repr hgd (room66 hr)) opl_repr T.repr bf_repr (ma_cons (me_var 9) ma_nil)) (nomark _)) (mw_or1 (mt_cmp (op_neD hr.units) op2_ne (me_fnK 1 k_show_commands hr hgd passN (mk_cons (me_callTy call_tuple_of opl_tup T.tuple_ bt_tuple (ma_cons (me_var 3) ma_nil)) mk_nil)) (me_var 9) (nomark _)))))
 (mss_one (ms_ret me_bl))
 mss_nil)
 (mss_cons (ms_if (mt_w (mw_or (mt_cmp (op_neD hr.units) op2_ne (me_callB (cr_repr hgd (room66 hr)) opl_repr T.repr bf_repr (ma_cons (me_fn 1 k_read_commands hr hgd passL (ma_cons (me_var 9) ma_nil)) ma_nil)) (me_callB (cr_repr hgd (room66 hr)) opl_repr T.repr bf_repr (ma_cons (me_callTy call_tuple_of opl_tup T.tuple_ bt_tuple (ma_cons (me_var 3) ma_nil)) ma_nil)) (nomark _)) (mw_or1 (mt_cmp (op_neD hr.units) op2_ne (me_fnK 1 k_read_commands hr hgd passL (mk_cons (me_var 9) mk_nil)) (me_callTy call_tuple_of opl_tup T.tuple_ bt_tuple (ma_cons (me_var 3) ma_nil)) (nomark _)))))
 (mss_one (ms_ret me_bl))
 mss_nil)
 (mss_cons (ms_for .never (mi_range1 T.range (ma_cons me_int ma_nil)) (mg_name 6 nd)
 (mss_cons (ms_set 10 nd (me_fn 2 k__law_text hr hgd passN (ma_cons (me_var 1) (ma_cons (me_var 3) ma_nil))))
 (mss_one (ms_if (mt_cmp (op_neD hr.units) op2_ne (me_callB (cr_repr hgd (room66 hr)) opl_repr T.repr bf_repr (ma_cons (me_fn 1 k__law_heard hr hgd passN (ma_cons (me_var 10) ma_nil)) ma_nil)) (me_callB (cr_repr hgd (room66 hr)) opl_repr T.repr bf_repr (ma_cons (me_fn 1 k__law_read hr hgd passN (ma_cons (me_var 10) ma_nil)) ma_nil)) (nomark _))
 (mss_one (ms_ret me_bl))
 mss_nil))))
 (mss_one (ms_if (mt_cmp (op_neD hr.units) op2_ne (me_fn 1 k__law_heard hr hgd passN (ma_cons (me_fn 2 k__law_pick hr hgd passN (ma_cons (me_var 1) (ma_cons (me_lst (ma_cons me_non (ma_cons me_int (ma_cons (me_lst (ma_cons me_str ma_nil)) (ma_cons (me_tup (ma_cons me_str ma_nil)) (ma_cons me_bl ma_nil)))))) ma_nil))) ma_nil)) (me_tup (ma_cons me_str (ma_cons (me_op or_sub op2_sub me_int me_int) (ma_cons (me_op or_sub op2_sub me_int me_int) ma_nil)))) (nomark _))
 (mss_one (ms_ret me_bl))
 mss_nil)))))))))
 (mss_cons (ms_set 11 nd (me_lst (ma_cons me_str (ma_cons me_str (ma_cons me_str (ma_cons me_str (ma_cons me_str (ma_cons me_str (ma_cons me_str (ma_cons me_str (ma_cons me_str (ma_cons me_str (ma_cons me_str (ma_cons me_str ma_nil))))))))))))))
 (mss_cons (ms_set 11 nd (me_op or_add op2_add (me_var 11) (me_lst (ma_cons me_str (ma_cons me_str (ma_cons me_str (ma_cons me_str (ma_cons me_str (ma_cons me_str (ma_cons me_str ma_nil))))))))))
 (mss_cons (ms_for .never (mi_list (me_var 11)) (mg_name 10 nd)
 (mss_one (ms_if (mt_cmp (op_neD hr.units) op2_ne (me_callB (cr_repr hgd (room66 hr)) opl_repr T.repr bf_repr (ma_cons (me_fn 1 k__law_heard hr hgd passN (ma_cons (me_var 10) ma_nil)) ma_nil)) (me_callB (cr_repr hgd (room66 hr)) opl_repr T.repr bf_repr (ma_cons (me_fn 1 k__law_read hr hgd passN (ma_cons (me_var 10) ma_nil)) ma_nil)) (nomark _))
 (mss_one (ms_ret me_bl))
 mss_nil)))
 (mss_one (ms_ret (me_and (me_cmp (op_eqD hr.units) op2_eq (me_fn 1 k_show_commands hr hgd passN (ma_cons (me_tup ma_nil) ma_nil)) me_str (nomark _)) (me_and1 (me_cmp (op_eqD hr.units) op2_eq (me_fn 1 k_read_commands hr hgd passL (ma_cons me_str ma_nil)) (me_tup (ma_cons (me_tup (ma_cons me_str (ma_cons me_int (ma_cons (me_tup (ma_cons (me_tup (ma_cons me_str (ma_cons me_int ma_nil))) (ma_cons (me_tup (ma_cons me_str (ma_cons (me_op or_sub op2_sub me_int me_int) ma_nil))) ma_nil))) ma_nil)))) ma_nil)) (nomark _)))))))))))
end P64
end
section
set_option maxRecDepth 100000
set_option maxHeartbeats 4000000
set_option autoImplicit false
set_option linter.all false
namespace P64
open PySem L2 DL
/-! ### plain laws: comprehensions, sizes -/
theorem lcGo_map {b : D → Rho → Option Rho} {fe : EF} {ρ : Rho} {S : Store} {g : D → D} : ∀ {ds : List D}, (∀ d ∈ ds, ∃ ρ', b d ρ = some ρ' ∧ fe ρ' S = .ok (g d) S) → lcGo b bY fe ρ ds S = .ok (ds.map g) S
  | [], _ => rfl
  | d :: ds, h => by
    obtain ⟨ρ', h1, h2⟩ := h d List.mem_cons_self
    have ih := lcGo_map (ds := ds) fun d hd => h d (List.mem_cons_of_mem _ hd)
    unfold lcGo
    rw [h1]
    simp only [bY, R.bind, if_true, h2, ih, List.map_cons]
theorem lcGo_filter {b : D → Rho → Option Rho} {ft : BF} {fe : EF} {ρ : Rho} {S : Store} {g : D → D} {t : D → Bool} : ∀ {ds : List D}, (∀ d ∈ ds, ∃ ρ', b d ρ = some ρ' ∧ ft ρ' S = .ok (t d) S ∧ fe ρ' S = .ok (g d) S) → lcGo b ft fe ρ ds S = .ok ((ds.filter t).map g) S
  | [], _ => rfl
  | d :: ds, h => by
    obtain ⟨ρ', h1, h2, h3⟩ := h d List.mem_cons_self
    have ih := lcGo_filter (ds := ds) fun d hd => h d (List.mem_cons_of_mem _ hd)
    unfold lcGo
    rw [h1]
    dsimp only
    rw [h2]
    cases ht : t d with
    | true => simp only [R.bind, if_true, h3, ih, List.filter_cons, ht, List.map_cons]
    | false => simp only [R.bind, ih, List.filter_cons, ht]; rfl
theorem blsD_map {α : Type} (f : α → Bool) : ∀ l : List α, blsD (l.map fun x => .bl (f x)) = some (l.map f)
  | [] => rfl
  | a :: l => by simp [blsD, blsD_map f l]
theorem strsD_map : ∀ l : List Str, strsD (l.map .str) = some l
  | [] => rfl
  | a :: l => by simp [strsD, strsD_map l]
mutual
/-- leaves that are no handle, ints and signs that are not too long -/
def okF : D → Bool
  | .int i => decide (i.natAbs < 10 ^ 12)
  | .str x => x.cps.all (· < 0x110000)
  | .tup ds => okFs ds
  | .lst ds => okFs ds
  | .rol _ => false
  | .hd _ => false
  | _ => true
def okFs : List D → Bool
  | [] => true
  | d :: ds => okF d && okFs ds
end
mutual
def wt : D → Nat
  | .int _ => 50
  | .str x => x.length
  | .tup ds => wts ds
  | .lst ds => wts ds
  | .rol ds => wts ds
  | _ => 0
def wts : List D → Nat
  | [] => 0
  | d :: ds => wt d + 1 + wts ds
end
mutual
def dp : D → Nat
  | .tup ds => dps ds + 1
  | .lst ds => dps ds + 1
  | .rol ds => dps ds + 1
  | .em => 1
  | _ => 0
def dps : List D → Nat
  | [] => 0
  | d :: ds => max (dp d) (dps ds)
end
theorem okFs_mem : ∀ {ds : List D}, okFs ds = true → ∀ d ∈ ds, okF d = true
  | [], _, _, h => by cases h
  | e :: ds, h, d, hm => by
    have h' : okF e = true ∧ okFs ds = true := by simpa [okFs] using h
    rcases List.mem_cons.mp hm with rfl | hm
    · exact h'.1
    · exact okFs_mem h'.2 d hm
theorem okFs_of : ∀ {ds : List D}, (∀ d ∈ ds, okF d = true) → okFs ds = true
  | [], _ => rfl
  | e :: ds, h => by simp [okFs, h e List.mem_cons_self, okFs_of fun d hd => h d (List.mem_cons_of_mem _ hd)]
theorem wts_mem : ∀ {ds : List D}, ∀ d ∈ ds, wt d + 1 ≤ wts ds
  | [], _, h => by cases h
  | e :: ds, d, hm => by
    rcases List.mem_cons.mp hm with rfl | hm
    · simp [wts]
    · have := wts_mem (ds := ds) d hm
      simp [wts]; omega
theorem wts_len : ∀ ds : List D, ds.length ≤ wts ds
  | [] => Nat.le_refl _
  | e :: ds => by have := wts_len ds; simp [wts]; omega
theorem wts_app : ∀ ds es : List D, wts (ds ++ es) = wts ds + wts es
  | [], es => by simp [wts]
  | d :: ds, es => by simp [wts, wts_app ds es]; omega
theorem dps_mem : ∀ {ds : List D}, ∀ d ∈ ds, dp d ≤ dps ds
  | [], _, h => by cases h
  | e :: ds, d, hm => by
    rcases List.mem_cons.mp hm with rfl | hm
    · simp [dps]; omega
    · have := dps_mem (ds := ds) d hm
      simp [dps]; omega
theorem dps_le : ∀ {ds : List D} {n : Nat}, (∀ d ∈ ds, dp d ≤ n) → dps ds ≤ n
  | [], _, _ => Nat.zero_le _
  | e :: ds, n, h => by
    have h1 := h e List.mem_cons_self
    have h2 := dps_le (ds := ds) fun d hd => h d (List.mem_cons_of_mem _ hd)
    simp [dps]; omega
/-- small data without handles -/
structure Sm (n : Nat) (d : D) : Prop where
  ok : okF d = true
  w : wt d ≤ n
theorem Sm.mem {n : Nat} {ds : List D} (h : Sm n (.tup ds)) : ∀ d ∈ ds, Sm n d := fun d hd =>
  ⟨okFs_mem (by simpa [okF] using h.ok) d hd, by have := wts_mem d hd; have := h.w; simp [wt] at this; omega⟩
theorem Sm.len {n : Nat} {ds : List D} (h : Sm n (.tup ds)) : ds.length ≤ n := by
  have := wts_len ds; have := h.w; simp [wt] at this; omega
theorem line_big : (1000000 : Nat) < sizeLine := by decide
/-! ### what the texts' words are -/
def nmB (x : Str) : Bool := decide (1 ≤ x.length) && (decide (x.length ≤ 6) && x.cps.toList.all fun c => decide (97 ≤ c) && decide (c ≤ 122))
def nameB : D → Bool
  | .str x => nmB x
  | _ => false
def wholeB (lo hi : Int) : D → Bool
  | .int i => decide (lo ≤ i) && decide (i ≤ hi)
  | _ => false
theorem tag_some {n : Nat} {d : D} {S : Store} (h : Sm n d) : ∃ a, tagF S d = some a := by
  cases d <;> first | exact ⟨_, rfl⟩ | (have := h.ok; simp [okF] at this)
theorem letters : ∀ c : Nat, decide (c ∈ ("abcdefghijklmnopqrstuvwxyz" : Str).cps.toList) = (decide (97 ≤ c) && decide (c ≤ 122)) := by
  intro c
  have e : ("abcdefghijklmnopqrstuvwxyz" : Str).cps.toList = [97,98,99,100,101,102,103,104,105,106,107,108,109,110,111,112,113,114,115,116,117,118,119,120,121,122] := by decide +kernel
  rw [e, Bool.eq_iff_iff]
  simp
  omega
theorem eLc_map {fa : AF} {b : D → Rho → Option Rho} {fe : EF} {vs : List Nat} {ρ : Rho} {S : Store} {g : D → D} {ds : List D} (hf : fa ρ S = .ok ds S) (h : ∀ d ∈ ds, ∃ ρ', b d (wipeR ρ vs) = some ρ' ∧ fe ρ' S = .ok (g d) S) (hl : ds.length ≤ 1000000) : eLc fa b bY fe vs ρ S = .ok (.lst (ds.map g)) S := by
  unfold eLc
  rw [hf]
  simp only [R.bind, lcGo_map h, if_pos hl]
theorem eLc_filter {fa : AF} {b : D → Rho → Option Rho} {ft : BF} {fe : EF} {vs : List Nat} {ρ : Rho} {S : Store} {g : D → D} {t : D → Bool} {ds : List D} (hf : fa ρ S = .ok ds S) (h : ∀ d ∈ ds, ∃ ρ', b d (wipeR ρ vs) = some ρ' ∧ ft ρ' S = .ok (t d) S ∧ fe ρ' S = .ok (g d) S) (hl : ds.length ≤ 1000000) : eLc fa b ft fe vs ρ S = .ok (.lst ((ds.filter t).map g)) S := by
  unfold eLc
  rw [hf]
  simp only [R.bind, lcGo_filter h, if_pos hl]
/-- all([.. for ..]) -/
theorem all_lc {α : Type} {fa : AF} {b : D → Rho → Option Rho} {fe : EF} {vs : List Nat} {ρ : Rho} {S : Store} {ds : List α} {q : α → D} {g : α → Bool} (hf : fa ρ S = .ok (ds.map q) S) (h : ∀ a ∈ ds, ∃ ρ', b (q a) (wipeR ρ vs) = some ρ' ∧ fe ρ' S = .ok (.bl (g a)) S) (hl : ds.length ≤ 1000000) :
    eL allF (aC (eLc fa b bY fe vs) aN) ρ S = .ok (.bl (ds.all g)) S := by
  have key : ∀ l : List α, (∀ a ∈ l, ∃ ρ', b (q a) (wipeR ρ vs) = some ρ' ∧ fe ρ' S = .ok (.bl (g a)) S) → lcGo b bY fe (wipeR ρ vs) (l.map q) S = .ok (l.map fun a => .bl (g a)) S := by
    intro l
    induction l with
    | nil => intro _; rfl
    | cons a l ih =>
      intro h
      obtain ⟨ρ', h1, h2⟩ := h a List.mem_cons_self
      have ih := ih fun d hd => h d (List.mem_cons_of_mem _ hd)
      rw [List.map_cons]
      unfold lcGo
      rw [h1]
      simp only [bY, R.bind, if_true, h2, ih, List.map_cons]
  have e : eLc fa b bY fe vs ρ S = .ok (.lst (ds.map fun a => .bl (g a))) S := by
    unfold eLc
    rw [hf]
    simp only [R.bind, key ds h, List.length_map, if_pos hl]
  simp only [eL, aC, aN, R.bind, e, allF, rlF, lsF, Option.bind, blsD_map, List.all_map]
  rfl
def chars (x : Str) : List D := x.cps.toList.map fun c => .str ⟨#[c]⟩
theorem is_name_eq {d : D} (h : Sm 100000 d) (S : Store) : F_is_name [d] S = .ok (.bl (nameB d)) S := by
  cases d with
  | str x =>
    have hl : x.length ≤ 100000 := by have := h.w; simpa [wt] using this
    have hz : x.length ≤ sizeLine := Nat.le_trans hl (Nat.le_of_lt (Nat.lt_trans (by decide) line_big))
    have e := all_lc (fa := iS (eV 0)) (b := gN 1) (fe := E_is_name_0) (vs := [1]) (ρ := [some (.str x), none]) (S := S) (ds := x.cps.toList) (q := fun c => .str ⟨#[c]⟩) (g := fun c => decide (97 ≤ c) && decide (c ≤ 122)) rfl
      (fun c _ => ⟨[some (.str x), some (.str ⟨#[c]⟩)], rfl, by simp only [E_is_name_0, e2, eV, eC, R.bind, List.getElem?_cons_succ, List.getElem?_cons_zero, inF]; simp only [letters, if_false, Bool.false_eq_true]⟩) (by show x.cps.toList.length ≤ _; rw [Array.length_toList]; exact Nat.le_trans hl (by decide))
    simp only [eL, aC, aN] at e
    unfold F_is_name nameB nmB
    by_cases h1 : 1 ≤ x.length
    · by_cases h2 : x.length ≤ 6
      · have h1' : (1 : Int) ≤ (x.length : Int) := by omega
        have h2' : (x.length : Int) ≤ 6 := by omega
        simp [fnF0, fnF, sNil, sSeq, sEx, sRet, sRetN, sBrk, sCnt, sIf, sAsg, sPar, sFor, sSub, setF, eV, eC, DL.e1, DL.e2, eL, aN, aC, eCall, eTup, eLst, eNew, eM, eAnd, eOr, eNot, eIf, eCh, asB, bAnd, bOr, bNot, bY, gN, gsN, gsC, gT, iL, iT, iS, iR1, iZp, iEn, sdF, oN, oS, eSl, R.bind, isiF, tagF, isiB, lenF, hz, cmF, c_LONGEST_NAME, h1, h2, h1', h2'] at e ⊢
        rw [e]
      · have h1' : (1 : Int) ≤ (x.length : Int) := by omega
        have h2' : ¬ (x.length : Int) ≤ 6 := by omega
        simp [fnF0, fnF, sNil, sSeq, sEx, sRet, sRetN, sBrk, sCnt, sIf, sAsg, sPar, sFor, sSub, setF, eV, eC, DL.e1, DL.e2, eL, aN, aC, eCall, eTup, eLst, eNew, eM, eAnd, eOr, eNot, eIf, eCh, asB, bAnd, bOr, bNot, bY, gN, gsN, gsC, gT, iL, iT, iS, iR1, iZp, iEn, sdF, oN, oS, eSl, R.bind, isiF, tagF, isiB, lenF, hz, cmF, c_LONGEST_NAME, h1, h2, h1', h2']
    · have h1' : ¬ (1 : Int) ≤ (x.length : Int) := by omega
      simp [fnF0, fnF, sNil, sSeq, sEx, sRet, sRetN, sBrk, sCnt, sIf, sAsg, sPar, sFor, sSub, setF, eV, eC, DL.e1, DL.e2, eL, aN, aC, eCall, eTup, eLst, eNew, eM, eAnd, eOr, eNot, eIf, eCh, asB, bAnd, bOr, bNot, bY, gN, gsN, gsC, gT, iL, iT, iS, iR1, iZp, iEn, sdF, oN, oS, eSl, R.bind, isiF, tagF, isiB, lenF, hz, cmF, c_LONGEST_NAME, h1, h1']
  | hd n => have := h.ok; simp [okF] at this
  | rol n => have := h.ok; simp [okF] at this
  | _ => unfold F_is_name; simp [fnF0, fnF, sNil, sSeq, sEx, sRet, sRetN, sBrk, sCnt, sIf, sAsg, sPar, sFor, sSub, setF, eV, eC, DL.e1, DL.e2, eL, aN, aC, eCall, eTup, eLst, eNew, eM, eAnd, eOr, eNot, eIf, eCh, asB, bAnd, bOr, bNot, bY, gN, gsN, gsC, gT, iL, iT, iS, iR1, iZp, iEn, sdF, oN, oS, eSl, R.bind, isiF, tagF, isiB, nameB]
end P64
end
section
set_option maxRecDepth 100000
set_option maxHeartbeats 4000000
set_option autoImplicit false
set_option linter.all false
namespace P64
open PySem L2 DL
theorem eqF_str {neg : Bool} {x y : Str} {S : Store} (hx : PyData.strOk x = true) (hy : PyData.strOk y = true) : eqF neg (.str x) (.str y) S = .ok (.bl (if neg then !(x == y) else x == y)) S := by
  simp [eqF, toPyS, toPy, SeqAt.shaped, PyData.canLay0, PyData.depth, hx, hy, PyData.eqv]
theorem eqF_int {neg : Bool} {x y : Int} {S : Store} : eqF neg (.int x) (.int y) S = .ok (.bl (if neg then !(x == y) else x == y)) S := by
  simp [eqF, toPyS, toPy, SeqAt.shaped, PyData.canLay0, PyData.depth, PyData.eqv]
theorem law_is_name_eq {d : D} (h : Sm 100000 d) (S : Store) : F__law_is_name [d] S = .ok (.bl (nameB d)) S := by
  cases d with
  | str x =>
    have hl : x.length ≤ 100000 := by have := h.w; simpa [wt] using this
    have hz : x.length ≤ sizeLine := Nat.le_trans hl (Nat.le_of_lt (Nat.lt_trans (by decide) line_big))
    have e := all_lc (fa := iS (eV 0)) (b := gN 1) (fe := E__law_is_name_0) (vs := [1]) (ρ := [some (.str x), none]) (S := S) (ds := x.cps.toList) (q := fun c => .str ⟨#[c]⟩) (g := fun c => decide (97 ≤ c) && decide (c ≤ 122)) rfl
      (fun c _ => ⟨[some (.str x), some (.str ⟨#[c]⟩)], rfl, by
        have e1 : ("a" : Str).cps.toList = [97] := by decide +kernel
        have e2 : ("z" : Str).cps.toList = [122] := by decide +kernel
        have f1 : ∀ i j : Nat, decide (([i] : List Nat) < [j]) = decide (i < j) := by intro i j; simp [List.cons_lt_cons_iff]
        simp only [E__law_is_name_0, eCh, eV, eC, R.bind, List.getElem?_cons_succ, List.getElem?_cons_zero, cmF, e1, e2]
        by_cases q1 : 97 ≤ c
        · by_cases q2 : c ≤ 122
          · have n1 : ¬ c < 97 := by omega
            have n2 : ¬ 122 < c := by omega
            simp [q1, q2, n1, n2, f1, List.cons_lt_cons_iff]
          · have n1 : ¬ c < 97 := by omega
            have n2 : 122 < c := by omega
            simp [q1, q2, n1, n2, f1, List.cons_lt_cons_iff]
        · have n1 : c < 97 := by omega
          simp [q1, n1, f1, List.cons_lt_cons_iff]⟩) (by show x.cps.toList.length ≤ _; rw [Array.length_toList]; exact Nat.le_trans hl (by decide))
    simp only [eL, aC, aN] at e
    unfold F__law_is_name nameB nmB
    by_cases h1 : 1 ≤ x.length
    · by_cases h2 : x.length ≤ 6
      · have h1' : 0 < x.length := by omega
        have h2' : (x.length : Int) < 7 := by omega
        simp [fnF0, fnF, sNil, sSeq, sEx, sRet, sRetN, sBrk, sCnt, sIf, sAsg, sPar, sFor, sSub, setF, eV, eC, DL.e1, DL.e2, eL, aN, aC, eCall, eTup, eLst, eNew, eM, eAnd, eOr, eNot, eIf, eCh, asB, bAnd, bOr, bNot, bY, gN, gsN, gsC, gT, iL, iT, iS, iR1, iZp, iEn, sdF, oN, oS, eSl, R.bind, isiF, tagF, isiB, lenF, hz, cmF, h1, h2, h1', h2'] at e ⊢
        rw [e]
      · have h1' : 0 < x.length := by omega
        have h2' : ¬ (x.length : Int) < 7 := by omega
        simp [fnF0, fnF, sNil, sSeq, sEx, sRet, sRetN, sBrk, sCnt, sIf, sAsg, sPar, sFor, sSub, setF, eV, eC, DL.e1, DL.e2, eL, aN, aC, eCall, eTup, eLst, eNew, eM, eAnd, eOr, eNot, eIf, eCh, asB, bAnd, bOr, bNot, bY, gN, gsN, gsC, gT, iL, iT, iS, iR1, iZp, iEn, sdF, oN, oS, eSl, R.bind, isiF, tagF, isiB, lenF, hz, cmF, h1, h2, h1', h2']
    · have h1' : ¬ 0 < x.length := by omega
      simp [fnF0, fnF, sNil, sSeq, sEx, sRet, sRetN, sBrk, sCnt, sIf, sAsg, sPar, sFor, sSub, setF, eV, eC, DL.e1, DL.e2, eL, aN, aC, eCall, eTup, eLst, eNew, eM, eAnd, eOr, eNot, eIf, eCh, asB, bAnd, bOr, bNot, bY, gN, gsN, gsC, gT, iL, iT, iS, iR1, iZp, iEn, sdF, oN, oS, eSl, R.bind, isiF, tagF, isiB, lenF, hz, cmF, h1, h1']
  | hd n => have := h.ok; simp [okF] at this
  | rol n => have := h.ok; simp [okF] at this
  | _ => unfold F__law_is_name; simp [fnF0, fnF, sNil, sSeq, sEx, sRet, sRetN, sBrk, sCnt, sIf, sAsg, sPar, sFor, sSub, setF, eV, eC, DL.e1, DL.e2, eL, aN, aC, eCall, eTup, eLst, eNew, eM, eAnd, eOr, eNot, eIf, eCh, asB, bAnd, bOr, bNot, bY, gN, gsN, gsC, gT, iL, iT, iS, iR1, iZp, iEn, sdF, oN, oS, eSl, R.bind, isiF, tagF, isiB, nameB]
theorem is_integer_eq {d : D} (h : Sm 100000 d) (S : Store) : F_is_integer [d] S = .ok (.bl (match d with | .int _ => true | _ => false)) S := by
  cases d with
  | hd n => have := h.ok; simp [okF] at this
  | rol n => have := h.ok; simp [okF] at this
  | _ => unfold F_is_integer; simp [fnF0, fnF, sNil, sSeq, sEx, sRet, sRetN, sBrk, sCnt, sIf, sAsg, sPar, sFor, sSub, setF, eV, eC, DL.e1, DL.e2, eL, aN, aC, eCall, eTup, eLst, eNew, eM, eAnd, eOr, eNot, eIf, eCh, asB, bAnd, bOr, bNot, bY, gN, gsN, gsC, gT, iL, iT, iS, iR1, iZp, iEn, sdF, oN, oS, eSl, R.bind, isiF, tagF, isiB]
theorem told_value_eq {d : D} (h : Sm 100000 d) (S : Store) : F_is_told_value [d] S = .ok (.bl (wholeB (-1000000) 1000000 d)) S := by
  unfold F_is_told_value
  have e := is_integer_eq h S
  cases d with
  | int i =>
    simp [fnF0, fnF, sNil, sSeq, sEx, sRet, sRetN, sBrk, sCnt, sIf, sAsg, sPar, sFor, sSub, setF, eV, eC, DL.e1, DL.e2, eL, aN, aC, eCall, eTup, eLst, eNew, eM, eAnd, eOr, eNot, eIf, eCh, asB, bAnd, bOr, bNot, bY, gN, gsN, gsC, gT, iL, iT, iS, iR1, iZp, iEn, sdF, oN, oS, eSl, R.bind, e, absF, cmF, c_MOST_TOLD_VALUE, wholeB]
    split <;> rw [Bool.eq_iff_iff] <;> simp <;> omega
  | _ => simp [fnF0, fnF, sNil, sSeq, sEx, sRet, sRetN, sBrk, sCnt, sIf, sAsg, sPar, sFor, sSub, setF, eV, eC, DL.e1, DL.e2, eL, aN, aC, eCall, eTup, eLst, eNew, eM, eAnd, eOr, eNot, eIf, eCh, asB, bAnd, bOr, bNot, bY, gN, gsN, gsC, gT, iL, iT, iS, iR1, iZp, iEn, sdF, oN, oS, eSl, R.bind, e, wholeB]
theorem whole_eq {d : D} (h : Sm 100000 d) (lo hi : Int) (S : Store) : F__law_is_whole [d, .int lo, .int hi] S = .ok (.bl (wholeB lo hi d)) S := by
  unfold F__law_is_whole
  cases d with
  | hd n => have := h.ok; simp [okF] at this
  | rol n => have := h.ok; simp [okF] at this
  | int i =>
    by_cases q : lo ≤ i
    · simp [fnF0, fnF, sNil, sSeq, sEx, sRet, sRetN, sBrk, sCnt, sIf, sAsg, sPar, sFor, sSub, setF, eV, eC, DL.e1, DL.e2, eL, aN, aC, eCall, eTup, eLst, eNew, eM, eAnd, eOr, eNot, eIf, eCh, asB, bAnd, bOr, bNot, bY, gN, gsN, gsC, gT, iL, iT, iS, iR1, iZp, iEn, sdF, oN, oS, eSl, R.bind, isiF, tagF, isiB, cmF, wholeB, q]
    · simp [fnF0, fnF, sNil, sSeq, sEx, sRet, sRetN, sBrk, sCnt, sIf, sAsg, sPar, sFor, sSub, setF, eV, eC, DL.e1, DL.e2, eL, aN, aC, eCall, eTup, eLst, eNew, eM, eAnd, eOr, eNot, eIf, eCh, asB, bAnd, bOr, bNot, bY, gN, gsN, gsC, gT, iL, iT, iS, iR1, iZp, iEn, sdF, oN, oS, eSl, R.bind, isiF, tagF, isiB, cmF, wholeB, q]
  | _ => simp [fnF0, fnF, sNil, sSeq, sEx, sRet, sRetN, sBrk, sCnt, sIf, sAsg, sPar, sFor, sSub, setF, eV, eC, DL.e1, DL.e2, eL, aN, aC, eCall, eTup, eLst, eNew, eM, eAnd, eOr, eNot, eIf, eCh, asB, bAnd, bOr, bNot, bY, gN, gsN, gsC, gT, iL, iT, iS, iR1, iZp, iEn, sdF, oN, oS, eSl, R.bind, isiF, tagF, isiB, wholeB]
theorem is_number_eq {d : D} (h : Sm 100000 d) (S : Store) : F_is_number [d] S = .ok (.bl (match d with | .int i => decide (0 ≤ i) | _ => false)) S := by
  unfold F_is_number
  have e := is_integer_eq h S
  cases d with
  | int i => simp [fnF0, fnF, sNil, sSeq, sEx, sRet, sRetN, sBrk, sCnt, sIf, sAsg, sPar, sFor, sSub, setF, eV, eC, DL.e1, DL.e2, eL, aN, aC, eCall, eTup, eLst, eNew, eM, eAnd, eOr, eNot, eIf, eCh, asB, bAnd, bOr, bNot, bY, gN, gsN, gsC, gT, iL, iT, iS, iR1, iZp, iEn, sdF, oN, oS, eSl, R.bind, e, cmF]
  | _ => simp [fnF0, fnF, sNil, sSeq, sEx, sRet, sRetN, sBrk, sCnt, sIf, sAsg, sPar, sFor, sSub, setF, eV, eC, DL.e1, DL.e2, eL, aN, aC, eCall, eTup, eLst, eNew, eM, eAnd, eOr, eNot, eIf, eCh, asB, bAnd, bOr, bNot, bY, gN, gsN, gsC, gT, iL, iT, iS, iR1, iZp, iEn, sdF, oN, oS, eSl, R.bind, e]
/-! ### pairs -/
def pairB : D → Bool
  | .tup [a, b] => nameB a && wholeB (-1000000) 1000000 b
  | _ => false
def pairsB : D → Bool
  | .tup xs => xs.all pairB
  | _ => false
theorem Sm.two {n : Nat} {a b : D} (h : Sm n (.tup [a, b])) : Sm n a ∧ Sm n b := ⟨h.mem a (by simp), h.mem b (by simp)⟩
def lenTwo : D → Bool
  | .tup [_, _] => true
  | _ => false
theorem are_pairs_eq {d : D} (h : Sm 100000 d) (S : Store) : F_are_pairs [d] S = .ok (.bl (pairsB d)) S := by
  unfold F_are_pairs
  cases d with
  | hd n => have := h.ok; simp [okF] at this
  | rol n => have := h.ok; simp [okF] at this
  | tup xs =>
    have hl : xs.length ≤ 1000000 := Nat.le_trans h.len (by decide)
    have e := all_lc (fa := iT (eV 0)) (b := gN 3) (fe := E_are_pairs_0) (vs := [3]) (ρ := [some (.tup xs), none, none, none]) (S := S) (ds := xs) (q := id) (g := lenTwo) (by simp [iT, eV, R.bind])
      (fun y hy => ⟨[some (.tup xs), none, none, some y], rfl, by
        have hm := h.mem y hy
        cases y with
        | hd n => have := hm.ok; simp [okF] at this
        | rol n => have := hm.ok; simp [okF] at this
        | tup ys =>
          have : (((ys.length : Nat) : Int) == 2) = lenTwo (.tup ys) := by
            match ys with
            | [] => rfl
            | [_] => rfl
            | [_, _] => rfl
            | _ :: _ :: _ :: l => simp [lenTwo]; omega
          simp [E_are_pairs_0, fnF0, fnF, sNil, sSeq, sEx, sRet, sRetN, sBrk, sCnt, sIf, sAsg, sPar, sFor, sSub, setF, eV, eC, DL.e1, DL.e2, eL, aN, aC, eCall, eTup, eLst, eNew, eM, eAnd, eOr, eNot, eIf, eCh, asB, bAnd, bOr, bNot, bY, gN, gsN, gsC, gT, iL, iT, iS, iR1, iZp, iEn, sdF, oN, oS, eSl, R.bind, isiF, tagF, isiB, lenF, seqF, eqF_int, this]
        | _ => simp [E_are_pairs_0, fnF0, fnF, sNil, sSeq, sEx, sRet, sRetN, sBrk, sCnt, sIf, sAsg, sPar, sFor, sSub, setF, eV, eC, DL.e1, DL.e2, eL, aN, aC, eCall, eTup, eLst, eNew, eM, eAnd, eOr, eNot, eIf, eCh, asB, bAnd, bOr, bNot, bY, gN, gsN, gsC, gT, iL, iT, iS, iR1, iZp, iEn, sdF, oN, oS, eSl, R.bind, isiF, tagF, isiB, lenTwo]⟩) hl
    simp only [eL, aC, aN] at e
    by_cases ha : xs.all lenTwo = true
    · have e2 := all_lc (fa := iT (eV 0)) (b := gT (gsC (gN 1) (gsC (gN 2) gsN))) (fe := E_are_pairs_1) (vs := [1, 2]) (ρ := [some (.tup xs), none, none, none]) (S := S) (ds := xs) (q := id) (g := pairB) (by simp [iT, eV, R.bind])
        (fun y hy => by
          have hm := h.mem y hy
          have h2 : lenTwo y = true := List.all_eq_true.mp ha y hy
          match y, h2, hm with
          | .tup [a, b], _, hm =>
            refine ⟨[some (.tup xs), some a, some b, none], rfl, ?_⟩
            have e1 := is_name_eq hm.two.1 S
            have e2 := told_value_eq hm.two.2 S
            cases hn : nameB a <;> simp [E_are_pairs_1, fnF0, fnF, sNil, sSeq, sEx, sRet, sRetN, sBrk, sCnt, sIf, sAsg, sPar, sFor, sSub, setF, eV, eC, DL.e1, DL.e2, eL, aN, aC, eCall, eTup, eLst, eNew, eM, eAnd, eOr, eNot, eIf, eCh, asB, bAnd, bOr, bNot, bY, gN, gsN, gsC, gT, iL, iT, iS, iR1, iZp, iEn, sdF, oN, oS, eSl, R.bind, e1, e2, hn, pairB]) hl
      simp only [eL, aC, aN] at e2
      simp [fnF0, fnF, sNil, sSeq, sEx, sRet, sRetN, sBrk, sCnt, sIf, sAsg, sPar, sFor, sSub, setF, eV, eC, DL.e1, DL.e2, eL, aN, aC, eCall, eTup, eLst, eNew, eM, eAnd, eOr, eNot, eIf, eCh, asB, bAnd, bOr, bNot, bY, gN, gsN, gsC, gT, iL, iT, iS, iR1, iZp, iEn, sdF, oN, oS, eSl, R.bind, isiF, tagF, isiB, pairsB] at e e2 ⊢
      rw [e, ha]
      simp
      rw [e2]
    · have : xs.all pairB = false := by
        rw [Bool.eq_false_iff]
        intro q
        refine ha (List.all_eq_true.mpr fun y hy => ?_)
        have := List.all_eq_true.mp q y hy
        match y, this with
        | .tup [a, b], _ => rfl
      have ha' : xs.all lenTwo = false := by simpa using ha
      simp [fnF0, fnF, sNil, sSeq, sEx, sRet, sRetN, sBrk, sCnt, sIf, sAsg, sPar, sFor, sSub, setF, eV, eC, DL.e1, DL.e2, eL, aN, aC, eCall, eTup, eLst, eNew, eM, eAnd, eOr, eNot, eIf, eCh, asB, bAnd, bOr, bNot, bY, gN, gsN, gsC, gT, iL, iT, iS, iR1, iZp, iEn, sdF, oN, oS, eSl, R.bind, isiF, tagF, isiB, pairsB, this] at e ⊢
      rw [e, ha']
      simp
  | _ => simp [fnF0, fnF, sNil, sSeq, sEx, sRet, sRetN, sBrk, sCnt, sIf, sAsg, sPar, sFor, sSub, setF, eV, eC, DL.e1, DL.e2, eL, aN, aC, eCall, eTup, eLst, eNew, eM, eAnd, eOr, eNot, eIf, eCh, asB, bAnd, bOr, bNot, bY, gN, gsN, gsC, gT, iL, iT, iS, iR1, iZp, iEn, sdF, oN, oS, eSl, R.bind, isiF, tagF, isiB, pairsB]
/-- a loop whose turns go on or end with r -/
theorem forGo_all {b : D → Rho → Option Rho} {f : SF} {S : Store} (P : Rho → Prop) (g : D → Bool) (r : D) : ∀ {ds : List D} {ρ : Rho}, (∀ d ∈ ds, ∀ ρ, P ρ → ∃ ρ1 ρ2, b d ρ = some ρ1 ∧ f ρ1 S = .ok (if g d = true then .nx else .rt r, ρ2) S ∧ P ρ2) → P ρ →
    ∃ ρ', forGo b f ds ρ S = .ok (if ds.all g = true then .nx else .rt r, ρ') S ∧ P ρ'
  | [], ρ, _, hp => ⟨ρ, rfl, hp⟩
  | d :: ds, ρ, h, hp => by
    obtain ⟨ρ1, ρ2, h1, h2, h3⟩ := h d List.mem_cons_self ρ hp
    unfold forGo
    rw [h1]
    dsimp only
    rw [h2]
    cases hg : g d with
    | true =>
      obtain ⟨ρ', k1, k2⟩ := forGo_all (ds := ds) P g r (fun e he => h e (List.mem_cons_of_mem _ he)) h3
      exact ⟨ρ', by simp only [R.bind, if_true, k1, List.all_cons, hg, Bool.true_and], k2⟩
    | false => exact ⟨ρ2, by simp [R.bind, hg], h3⟩
theorem pow6 : (10 : Int) ^ (6 : Int).toNat = 1000000 := by decide
theorem law_are_pairs_eq {d : D} (h : Sm 100000 d) (S : Store) : F__law_are_pairs [d] S = .ok (.bl (pairsB d)) S := by
  unfold F__law_are_pairs
  cases d with
  | hd n => have := h.ok; simp [okF] at this
  | rol n => have := h.ok; simp [okF] at this
  | tup xs =>
    obtain ⟨ρ', e, _⟩ := forGo_all (b := gN 1) (f := B__law_are_pairs_0) (S := S) (fun ρ => ∃ x, ρ = [some (.tup xs), x]) pairB (.bl false) (ds := xs) (ρ := [some (.tup xs), none]) (fun y hy ρ ⟨x, hx⟩ => by
      subst hx
      have hm := h.mem y hy
      refine ⟨[some (.tup xs), some y], [some (.tup xs), some y], rfl, ?_, some y, rfl⟩
      cases y with
      | hd n => have := hm.ok; simp [okF] at this
      | rol n => have := hm.ok; simp [okF] at this
      | tup ys =>
        match ys, hm with
        | [], _ => simp [B__law_are_pairs_0, fnF0, fnF, sNil, sSeq, sEx, sRet, sRetN, sBrk, sCnt, sIf, sAsg, sPar, sFor, sSub, setF, eV, eC, DL.e1, DL.e2, eL, aN, aC, eCall, eTup, eLst, eNew, eM, eAnd, eOr, eNot, eIf, eCh, asB, bAnd, bOr, bNot, bY, gN, gsN, gsC, gT, iL, iT, iS, iR1, iZp, iEn, sdF, oN, oS, eSl, R.bind, isiF, tagF, isiB, lenF, seqF, eqF_int, pairB]
        | [_], _ => simp [B__law_are_pairs_0, fnF0, fnF, sNil, sSeq, sEx, sRet, sRetN, sBrk, sCnt, sIf, sAsg, sPar, sFor, sSub, setF, eV, eC, DL.e1, DL.e2, eL, aN, aC, eCall, eTup, eLst, eNew, eM, eAnd, eOr, eNot, eIf, eCh, asB, bAnd, bOr, bNot, bY, gN, gsN, gsC, gT, iL, iT, iS, iR1, iZp, iEn, sdF, oN, oS, eSl, R.bind, isiF, tagF, isiB, lenF, seqF, eqF_int, pairB]
        | [a, c], hm =>
          have q1 := law_is_name_eq hm.two.1 S
          have q2 := whole_eq hm.two.2 (-1000000) 1000000 S
          have i0 : atI [a, c] 0 = some a := rfl
          have i1 : atI [a, c] 1 = some c := rfl
          cases hn : nameB a <;> cases hw : wholeB (-1000000) 1000000 c <;> simp [B__law_are_pairs_0, fnF0, fnF, sNil, sSeq, sEx, sRet, sRetN, sBrk, sCnt, sIf, sAsg, sPar, sFor, sSub, setF, eV, eC, DL.e1, DL.e2, eL, aN, aC, eCall, eTup, eLst, eNew, eM, eAnd, eOr, eNot, eIf, eCh, asB, bAnd, bOr, bNot, bY, gN, gsN, gsC, gT, iL, iT, iS, iR1, iZp, iEn, sdF, oN, oS, eSl, R.bind, isiF, tagF, isiB, lenF, seqF, eqF_int, pairB, ixF, i0, i1, q1, q2, hn, hw, subF, powF]
        | _ :: _ :: _ :: l, _ =>
          have q : ¬ ((l.length : Int) + 1 + 1 + 1 = 2) := by omega
          simp [B__law_are_pairs_0, fnF0, fnF, sNil, sSeq, sEx, sRet, sRetN, sBrk, sCnt, sIf, sAsg, sPar, sFor, sSub, setF, eV, eC, DL.e1, DL.e2, eL, aN, aC, eCall, eTup, eLst, eNew, eM, eAnd, eOr, eNot, eIf, eCh, asB, bAnd, bOr, bNot, bY, gN, gsN, gsC, gT, iL, iT, iS, iR1, iZp, iEn, sdF, oN, oS, eSl, R.bind, isiF, tagF, isiB, lenF, seqF, eqF_int, pairB, q]
      | _ => simp [B__law_are_pairs_0, fnF0, fnF, sNil, sSeq, sEx, sRet, sRetN, sBrk, sCnt, sIf, sAsg, sPar, sFor, sSub, setF, eV, eC, DL.e1, DL.e2, eL, aN, aC, eCall, eTup, eLst, eNew, eM, eAnd, eOr, eNot, eIf, eCh, asB, bAnd, bOr, bNot, bY, gN, gsN, gsC, gT, iL, iT, iS, iR1, iZp, iEn, sdF, oN, oS, eSl, R.bind, isiF, tagF, isiB, pairB]) ⟨none, rfl⟩
    cases hb : xs.all pairB <;> simp [fnF0, fnF, sNil, sSeq, sEx, sRet, sRetN, sBrk, sCnt, sIf, sAsg, sPar, sFor, sSub, setF, eV, eC, DL.e1, DL.e2, eL, aN, aC, eCall, eTup, eLst, eNew, eM, eAnd, eOr, eNot, eIf, eCh, asB, bAnd, bOr, bNot, bY, gN, gsN, gsC, gT, iL, iT, iS, iR1, iZp, iEn, sdF, oN, oS, eSl, R.bind, isiF, tagF, isiB, pairsB, hb] at e ⊢ <;> simp [e]
  | _ => simp [fnF0, fnF, sNil, sSeq, sEx, sRet, sRetN, sBrk, sCnt, sIf, sAsg, sPar, sFor, sSub, setF, eV, eC, DL.e1, DL.e2, eL, aN, aC, eCall, eTup, eLst, eNew, eM, eAnd, eOr, eNot, eIf, eCh, asB, bAnd, bOr, bNot, bY, gN, gsN, gsC, gT, iL, iT, iS, iR1, iZp, iEn, sdF, oN, oS, eSl, R.bind, isiF, tagF, isiB, pairsB]
end P64
end
section
set_option maxRecDepth 100000
set_option maxHeartbeats 4000000
set_option autoImplicit false
set_option linter.all false
namespace P64
open PySem L2 DL
inductive Kd where
  | move | number | weight | value | kind | point | pairs | name
  deriving DecidableEq
def Kd.s : Kd → Str
  | .move => "move"
  | .number => "number"
  | .weight => "weight"
  | .value => "value"
  | .kind => "kind"
  | .point => "point"
  | .pairs => "pairs"
  | .name => "name"
def tK : List (Str × List Kd) := [("come", [.move]), ("wish", [.move, .pairs]), ("rule", [.move, .kind, .point, .point, .weight]), ("ease", [.move, .number]), ("add", [.name, .name, .name]), ("bar", [.move]), ("state", [.name]), ("quantity", [.name, .value]), ("leave", [.name]), ("now", []), ("may", [.move, .pairs]), ("bear", [.move, .kind, .point, .point, .weight]), ("range", [.move]), ("hold", [.name, .pairs])]
def kindsOf (w : Str) : Option (List Kd) := tK.lookup w
def ksD (ks : List Kd) : List D := ks.map fun k => .str k.s
theorem parts_tK : t_PARTS = tK.map fun p => (p.1, .tup (ksD p.2)) := rfl
theorem lookup_mapv {α β : Type} (f : α → β) (w : Str) : ∀ l : List (Str × α), (l.map fun p => (p.1, f p.2)).lookup w = (l.lookup w).map f
  | [] => rfl
  | (k, v) :: l => by
    rw [List.map_cons, List.lookup_cons, List.lookup_cons, lookup_mapv f w l]
    cases w == k <;> rfl
theorem get_parts (w : Str) (S : Store) : getF t_PARTS (.str w) S = .ok (match kindsOf w with | some ks => .tup (ksD ks) | none => .non) S := by
  have e := lookup_mapv (fun ks => D.tup (ksD ks)) w tK
  rw [← parts_tK] at e
  unfold getF kindsOf
  dsimp only
  rw [e]
  cases tK.lookup w <;> rfl
theorem kinds_few {w : Str} {ks : List Kd} (h : kindsOf w = some ks) : (w, ks) ∈ tK := by
  unfold kindsOf at h
  have key : ∀ l : List (Str × List Kd), l.lookup w = some ks → (w, ks) ∈ l := by
    intro l
    induction l with
    | nil => intro h; cases h
    | cons p l ih =>
      intro h
      obtain ⟨k, v⟩ := p
      rw [List.lookup_cons] at h
      split at h
      · rename_i q
        cases h
        rw [eq_of_beq q]
        exact List.mem_cons_self
      · exact List.mem_cons_of_mem _ (ih h)
  exact key tK h
theorem inV_strs {neg : Bool} {w : Str} {l : List Str} {S : Store} : inF neg (.str w) (.lst (l.map .str)) S = .ok (.bl (if neg then !l.contains w else l.contains w)) S := by
  have e1 : ∀ l : List Str, fvs (l.map .str) = some (l.map .str) := fun l => by
    induction l with
    | nil => rfl
    | cons a l ih => simp [fvs, fv, ih]
  have e2 : ∀ l : List Str, inV (.str w) (l.map .str) = l.contains w := fun l => by
    unfold inV
    induction l with
    | nil => rfl
    | cons a l ih =>
      rw [List.map_cons, List.any_cons, ih, List.contains_cons]
      congr 1
      show (a == w) = (w == a)
      rw [Bool.eq_iff_iff]
      simp
      exact ⟨Eq.symm, Eq.symm⟩
  unfold inF
  simp only [fv, seqF, Option.bind, e1, e2]
theorem inV_strsT {neg : Bool} {w : Str} {l : List Str} {S : Store} : inF neg (.str w) (.tup (l.map .str)) S = .ok (.bl (if neg then !l.contains w else l.contains w)) S := inV_strs (neg := neg) (w := w) (l := l) (S := S)
theorem lst_strs (l : List Str) : l.map D.str = l.map D.str := rfl
def lawKs (w : Str) : D :=
  if (["come", "bar", "range"] : List Str).contains w = true then .lst [.str "move"] else
  if (["wish", "may"] : List Str).contains w = true then .lst [.str "move", .str "pairs"] else
  if (["rule", "bear"] : List Str).contains w = true then .lst [.str "move", .str "kind", .str "point", .str "point", .str "weight"] else
  if (["state", "leave"] : List Str).contains w = true then .lst [.str "name"] else
  if (["ease", "add"] : List Str).contains w = true then (if (w == ("ease" : Str)) = true then .lst [.str "move", .str "number"] else .lst [.str "name", .str "name", .str "name"]) else
  if (["quantity", "hold"] : List Str).contains w = true then .lst [.str "name", if (w == ("quantity" : Str)) = true then .str "value" else .str "pairs"] else
  if (w == ("now" : Str)) = true then .lst [] else .non
theorem law_kinds_gen {w : Str} (hw : PyData.strOk w = true) (S : Store) : F__law_kinds [.str w] S = .ok (lawKs w) S := by
  have a1 := inV_strs (neg := false) (w := w) (l := ["come", "bar", "range"]) (S := S)
  have a2 := inV_strs (neg := false) (w := w) (l := ["wish", "may"]) (S := S)
  have a3 := inV_strs (neg := false) (w := w) (l := ["rule", "bear"]) (S := S)
  have a4 := inV_strs (neg := false) (w := w) (l := ["state", "leave"]) (S := S)
  have a5 := inV_strs (neg := false) (w := w) (l := ["ease", "add"]) (S := S)
  have a6 := inV_strs (neg := false) (w := w) (l := ["quantity", "hold"]) (S := S)
  have b1 := eqF_str (neg := false) (S := S) hw (show PyData.strOk ("ease" : Str) = true by decide +kernel)
  have b2 := eqF_str (neg := false) (S := S) hw (show PyData.strOk ("quantity" : Str) = true by decide +kernel)
  have b3 := eqF_str (neg := false) (S := S) hw (show PyData.strOk ("now" : Str) = true by decide +kernel)
  simp only [List.map_cons, List.map_nil, Bool.false_eq_true, if_false] at a1 a2 a3 a4 a5 a6 b1 b2 b3
  unfold lawKs
  generalize (["come", "bar", "range"] : List Str).contains w = c1 at a1 ⊢
  generalize (["wish", "may"] : List Str).contains w = c2 at a2 ⊢
  generalize (["rule", "bear"] : List Str).contains w = c3 at a3 ⊢
  generalize (["state", "leave"] : List Str).contains w = c4 at a4 ⊢
  generalize (["ease", "add"] : List Str).contains w = c5 at a5 ⊢
  generalize (["quantity", "hold"] : List Str).contains w = c6 at a6 ⊢
  generalize (w == ("ease" : Str)) = g1 at b1 ⊢
  generalize (w == ("quantity" : Str)) = g2 at b2 ⊢
  generalize (w == ("now" : Str)) = g3 at b3 ⊢
  unfold F__law_kinds
  cases c1
  · cases c2
    · cases c3
      · cases c4
        · cases c5
          · cases c6
            · cases g3 <;> simp [fnF0, fnF, sNil, sSeq, sEx, sRet, sRetN, sBrk, sCnt, sIf, sAsg, sPar, sFor, sSub, setF, eV, eC, DL.e1, DL.e2, eL, aN, aC, eCall, eTup, eLst, eNew, eM, eAnd, eOr, eNot, eIf, eCh, asB, bAnd, bOr, bNot, bY, gN, gsN, gsC, gT, iL, iT, iS, iR1, iZp, iEn, sdF, oN, oS, eSl, R.bind, a1, a2, a3, a4, a5, a6, b1, b2, b3]
            · cases g2 <;> simp [fnF0, fnF, sNil, sSeq, sEx, sRet, sRetN, sBrk, sCnt, sIf, sAsg, sPar, sFor, sSub, setF, eV, eC, DL.e1, DL.e2, eL, aN, aC, eCall, eTup, eLst, eNew, eM, eAnd, eOr, eNot, eIf, eCh, asB, bAnd, bOr, bNot, bY, gN, gsN, gsC, gT, iL, iT, iS, iR1, iZp, iEn, sdF, oN, oS, eSl, R.bind, a1, a2, a3, a4, a5, a6, b1, b2, b3]
          · cases g1 <;> simp [fnF0, fnF, sNil, sSeq, sEx, sRet, sRetN, sBrk, sCnt, sIf, sAsg, sPar, sFor, sSub, setF, eV, eC, DL.e1, DL.e2, eL, aN, aC, eCall, eTup, eLst, eNew, eM, eAnd, eOr, eNot, eIf, eCh, asB, bAnd, bOr, bNot, bY, gN, gsN, gsC, gT, iL, iT, iS, iR1, iZp, iEn, sdF, oN, oS, eSl, R.bind, a1, a2, a3, a4, a5, a6, b1, b2, b3, mulF, lsF, sizeLine]
        · simp [fnF0, fnF, sNil, sSeq, sEx, sRet, sRetN, sBrk, sCnt, sIf, sAsg, sPar, sFor, sSub, setF, eV, eC, DL.e1, DL.e2, eL, aN, aC, eCall, eTup, eLst, eNew, eM, eAnd, eOr, eNot, eIf, eCh, asB, bAnd, bOr, bNot, bY, gN, gsN, gsC, gT, iL, iT, iS, iR1, iZp, iEn, sdF, oN, oS, eSl, R.bind, a1, a2, a3, a4, a5, a6, b1, b2, b3]
      · simp [fnF0, fnF, sNil, sSeq, sEx, sRet, sRetN, sBrk, sCnt, sIf, sAsg, sPar, sFor, sSub, setF, eV, eC, DL.e1, DL.e2, eL, aN, aC, eCall, eTup, eLst, eNew, eM, eAnd, eOr, eNot, eIf, eCh, asB, bAnd, bOr, bNot, bY, gN, gsN, gsC, gT, iL, iT, iS, iR1, iZp, iEn, sdF, oN, oS, eSl, R.bind, a1, a2, a3, a4, a5, a6, b1, b2, b3]
    · simp [fnF0, fnF, sNil, sSeq, sEx, sRet, sRetN, sBrk, sCnt, sIf, sAsg, sPar, sFor, sSub, setF, eV, eC, DL.e1, DL.e2, eL, aN, aC, eCall, eTup, eLst, eNew, eM, eAnd, eOr, eNot, eIf, eCh, asB, bAnd, bOr, bNot, bY, gN, gsN, gsC, gT, iL, iT, iS, iR1, iZp, iEn, sdF, oN, oS, eSl, R.bind, a1, a2, a3, a4, a5, a6, b1, b2, b3]
  · simp [fnF0, fnF, sNil, sSeq, sEx, sRet, sRetN, sBrk, sCnt, sIf, sAsg, sPar, sFor, sSub, setF, eV, eC, DL.e1, DL.e2, eL, aN, aC, eCall, eTup, eLst, eNew, eM, eAnd, eOr, eNot, eIf, eCh, asB, bAnd, bOr, bNot, bY, gN, gsN, gsC, gT, iL, iT, iS, iR1, iZp, iEn, sdF, oN, oS, eSl, R.bind, a1, a2, a3, a4, a5, a6, b1, b2, b3]
/-- the words of the table are told apart by the law's questions -/
theorem law_kinds_eq {w : Str} (hs : PyData.strOk w = true) (S : Store) : F__law_kinds [.str w] S = .ok (match kindsOf w with | some ks => .lst (ksD ks) | none => .non) S := by
  rw [law_kinds_gen hs]
  congr 1
  by_cases hw : w ∈ tK.map (·.1)
  · simp only [tK, List.map_cons, List.map_nil, List.mem_cons, List.not_mem_nil, or_false] at hw
    rcases hw with rfl | rfl | rfl | rfl | rfl | rfl | rfl | rfl | rfl | rfl | rfl | rfl | rfl | rfl <;> rfl
  · have hn : kindsOf w = none := by
      cases h : kindsOf w with
      | none => rfl
      | some ks => exact absurd (List.mem_map.mpr ⟨_, kinds_few h, rfl⟩) hw
    simp only [tK, List.map_cons, List.map_nil, List.mem_cons, List.not_mem_nil, or_false, not_or] at hw
    obtain ⟨h1, h2, h3, h4, h5, h6, h7, h8, h9, h10, h11, h12, h13, h14⟩ := hw
    rw [hn]
    simp [lawKs, h1, h2, h3, h4, h5, h6, h7, h8, h9, h10, h11, h12, h13, h14]
/-! ### parts -/
def kB : Kd → D → Bool
  | .move, d => wholeB 0 39 d
  | .number, d => wholeB 0 29 d
  | .weight, d => wholeB (-1000) 1000 d
  | .value, d => wholeB (-1000000) 1000000 d
  | .kind, d => match d with
    | .str w => (["rise", "fall", "now"] : List Str).contains w
    | _ => false
  | .point, d => nameB d || (match d with | .str w => w == ("0" : Str) | _ => false)
  | .pairs, d => pairsB d
  | .name, d => nameB d
theorem kd_ok (k : Kd) : PyData.strOk k.s = true := by cases k <;> decide +kernel
theorem strOk_of {n : Nat} {x : Str} (h : Sm n (.str x)) : PyData.strOk x = true := h.ok
theorem bl_cases (b : Bool) : b = true ∨ b = false := by cases b <;> simp
theorem strOk_nul : PyData.strOk ("0" : Str) = true := by decide +kernel
theorem eq_kd {neg : Bool} (k : Kd) (l : Str) (hl : PyData.strOk l = true) {S : Store} : eqF neg (.str k.s) (.str l) S = .ok (.bl (if neg then !(k.s == l) else k.s == l)) S := eqF_str (kd_ok k) hl
theorem is_part_eq (k : Kd) {d : D} (h : Sm 100000 d) (S : Store) : F_is_part [.str k.s, d] S = .ok (.bl (kB k d)) S := by
  have n1 := eq_kd (neg := false) k "name" (by decide +kernel) (S := S)
  have n2 := eq_kd (neg := false) k "point" (by decide +kernel) (S := S)
  have n3 := eq_kd (neg := false) k "kind" (by decide +kernel) (S := S)
  have n4 := eq_kd (neg := false) k "weight" (by decide +kernel) (S := S)
  have n5 := eq_kd (neg := false) k "value" (by decide +kernel) (S := S)
  have n6 := eq_kd (neg := false) k "pairs" (by decide +kernel) (S := S)
  have n7 := eq_kd (neg := false) k "move" (by decide +kernel) (S := S)
  have z1 := is_name_eq h S
  have z2 := told_value_eq h S
  have z3 := are_pairs_eq h S
  have z4 := is_number_eq h S
  have z5 := is_integer_eq h S
  unfold F_is_part
  cases k with
  | name =>
    have q : (Kd.name.s == ("name" : Str)) = true := by decide +kernel
    simp only [q] at n1
    simp [fnF0, fnF, sNil, sSeq, sEx, sRet, sRetN, sBrk, sCnt, sIf, sAsg, sPar, sFor, sSub, setF, eV, eC, DL.e1, DL.e2, eL, aN, aC, eCall, eTup, eLst, eNew, eM, eAnd, eOr, eNot, eIf, eCh, asB, bAnd, bOr, bNot, bY, gN, gsN, gsC, gT, iL, iT, iS, iR1, iZp, iEn, sdF, oN, oS, eSl, R.bind, n1, z1, kB]
  | point =>
    have q1 : (Kd.point.s == ("name" : Str)) = false := by decide +kernel
    have q2 : (Kd.point.s == ("point" : Str)) = true := by decide +kernel
    simp only [q1, q2] at n1 n2
    cases d with
    | str w =>
      have m := eqF_str (neg := false) (S := S) (strOk_of h) strOk_nul
      cases hn : nameB (.str w) <;> simp [hn] at z1 <;> simp [fnF0, fnF, sNil, sSeq, sEx, sRet, sRetN, sBrk, sCnt, sIf, sAsg, sPar, sFor, sSub, setF, eV, eC, DL.e1, DL.e2, eL, aN, aC, eCall, eTup, eLst, eNew, eM, eAnd, eOr, eNot, eIf, eCh, asB, bAnd, bOr, bNot, bY, gN, gsN, gsC, gT, iL, iT, iS, iR1, iZp, iEn, sdF, oN, oS, eSl, R.bind, n1, n2, z1, kB, hn, isiF, tagF, isiB, m]
    | hd n => have := h.ok; simp [okF] at this
    | rol n => have := h.ok; simp [okF] at this
    | _ => simp [nameB] at z1; simp [fnF0, fnF, sNil, sSeq, sEx, sRet, sRetN, sBrk, sCnt, sIf, sAsg, sPar, sFor, sSub, setF, eV, eC, DL.e1, DL.e2, eL, aN, aC, eCall, eTup, eLst, eNew, eM, eAnd, eOr, eNot, eIf, eCh, asB, bAnd, bOr, bNot, bY, gN, gsN, gsC, gT, iL, iT, iS, iR1, iZp, iEn, sdF, oN, oS, eSl, R.bind, n1, n2, z1, kB, nameB, isiF, tagF, isiB]
  | kind =>
    have q1 : (Kd.kind.s == ("name" : Str)) = false := by decide +kernel
    have q2 : (Kd.kind.s == ("point" : Str)) = false := by decide +kernel
    have q3 : (Kd.kind.s == ("kind" : Str)) = true := by decide +kernel
    simp only [q1, q2, q3] at n1 n2 n3
    cases d with
    | str w =>
      have m := inV_strsT (neg := false) (w := w) (l := ["rise", "fall", "now"]) (S := S)
      simp only [List.map_cons, List.map_nil, Bool.false_eq_true, if_false] at m
      simp [fnF0, fnF, sNil, sSeq, sEx, sRet, sRetN, sBrk, sCnt, sIf, sAsg, sPar, sFor, sSub, setF, eV, eC, DL.e1, DL.e2, eL, aN, aC, eCall, eTup, eLst, eNew, eM, eAnd, eOr, eNot, eIf, eCh, asB, bAnd, bOr, bNot, bY, gN, gsN, gsC, gT, iL, iT, iS, iR1, iZp, iEn, sdF, oN, oS, eSl, R.bind, n1, n2, n3, kB, isiF, tagF, isiB, c_KINDS, m]
    | hd n => have := h.ok; simp [okF] at this
    | rol n => have := h.ok; simp [okF] at this
    | _ => simp [fnF0, fnF, sNil, sSeq, sEx, sRet, sRetN, sBrk, sCnt, sIf, sAsg, sPar, sFor, sSub, setF, eV, eC, DL.e1, DL.e2, eL, aN, aC, eCall, eTup, eLst, eNew, eM, eAnd, eOr, eNot, eIf, eCh, asB, bAnd, bOr, bNot, bY, gN, gsN, gsC, gT, iL, iT, iS, iR1, iZp, iEn, sdF, oN, oS, eSl, R.bind, n1, n2, n3, kB, isiF, tagF, isiB]
  | weight =>
    have q1 : (Kd.weight.s == ("name" : Str)) = false := by decide +kernel
    have q2 : (Kd.weight.s == ("point" : Str)) = false := by decide +kernel
    have q3 : (Kd.weight.s == ("kind" : Str)) = false := by decide +kernel
    have q4 : (Kd.weight.s == ("weight" : Str)) = true := by decide +kernel
    simp only [q1, q2, q3, q4] at n1 n2 n3 n4
    cases d with
    | int i =>
      simp [fnF0, fnF, sNil, sSeq, sEx, sRet, sRetN, sBrk, sCnt, sIf, sAsg, sPar, sFor, sSub, setF, eV, eC, DL.e1, DL.e2, eL, aN, aC, eCall, eTup, eLst, eNew, eM, eAnd, eOr, eNot, eIf, eCh, asB, bAnd, bOr, bNot, bY, gN, gsN, gsC, gT, iL, iT, iS, iR1, iZp, iEn, sdF, oN, oS, eSl, R.bind, n1, n2, n3, n4, z5, kB, absF, cmF, c_MOST_TOLD_WEIGHT, wholeB]
      split <;> rw [Bool.eq_iff_iff] <;> simp <;> omega
    | _ => simp [fnF0, fnF, sNil, sSeq, sEx, sRet, sRetN, sBrk, sCnt, sIf, sAsg, sPar, sFor, sSub, setF, eV, eC, DL.e1, DL.e2, eL, aN, aC, eCall, eTup, eLst, eNew, eM, eAnd, eOr, eNot, eIf, eCh, asB, bAnd, bOr, bNot, bY, gN, gsN, gsC, gT, iL, iT, iS, iR1, iZp, iEn, sdF, oN, oS, eSl, R.bind, n1, n2, n3, n4, z5, kB, wholeB]
  | value =>
    have q1 : (Kd.value.s == ("name" : Str)) = false := by decide +kernel
    have q2 : (Kd.value.s == ("point" : Str)) = false := by decide +kernel
    have q3 : (Kd.value.s == ("kind" : Str)) = false := by decide +kernel
    have q4 : (Kd.value.s == ("weight" : Str)) = false := by decide +kernel
    have q5 : (Kd.value.s == ("value" : Str)) = true := by decide +kernel
    simp only [q1, q2, q3, q4, q5] at n1 n2 n3 n4 n5
    simp [fnF0, fnF, sNil, sSeq, sEx, sRet, sRetN, sBrk, sCnt, sIf, sAsg, sPar, sFor, sSub, setF, eV, eC, DL.e1, DL.e2, eL, aN, aC, eCall, eTup, eLst, eNew, eM, eAnd, eOr, eNot, eIf, eCh, asB, bAnd, bOr, bNot, bY, gN, gsN, gsC, gT, iL, iT, iS, iR1, iZp, iEn, sdF, oN, oS, eSl, R.bind, n1, n2, n3, n4, n5, z2, kB]
  | pairs =>
    have q1 : (Kd.pairs.s == ("name" : Str)) = false := by decide +kernel
    have q2 : (Kd.pairs.s == ("point" : Str)) = false := by decide +kernel
    have q3 : (Kd.pairs.s == ("kind" : Str)) = false := by decide +kernel
    have q4 : (Kd.pairs.s == ("weight" : Str)) = false := by decide +kernel
    have q5 : (Kd.pairs.s == ("value" : Str)) = false := by decide +kernel
    have q6 : (Kd.pairs.s == ("pairs" : Str)) = true := by decide +kernel
    simp only [q1, q2, q3, q4, q5, q6] at n1 n2 n3 n4 n5 n6
    simp [fnF0, fnF, sNil, sSeq, sEx, sRet, sRetN, sBrk, sCnt, sIf, sAsg, sPar, sFor, sSub, setF, eV, eC, DL.e1, DL.e2, eL, aN, aC, eCall, eTup, eLst, eNew, eM, eAnd, eOr, eNot, eIf, eCh, asB, bAnd, bOr, bNot, bY, gN, gsN, gsC, gT, iL, iT, iS, iR1, iZp, iEn, sdF, oN, oS, eSl, R.bind, n1, n2, n3, n4, n5, n6, z3, kB]
  | move =>
    have q1 : (Kd.move.s == ("name" : Str)) = false := by decide +kernel
    have q2 : (Kd.move.s == ("point" : Str)) = false := by decide +kernel
    have q3 : (Kd.move.s == ("kind" : Str)) = false := by decide +kernel
    have q4 : (Kd.move.s == ("weight" : Str)) = false := by decide +kernel
    have q5 : (Kd.move.s == ("value" : Str)) = false := by decide +kernel
    have q6 : (Kd.move.s == ("pairs" : Str)) = false := by decide +kernel
    have q7 : (Kd.move.s == ("move" : Str)) = true := by decide +kernel
    simp only [q1, q2, q3, q4, q5, q6, q7] at n1 n2 n3 n4 n5 n6 n7
    cases d with
    | int i =>
      by_cases hi : 0 ≤ i
      · simp [hi] at z4
        simp [fnF0, fnF, sNil, sSeq, sEx, sRet, sRetN, sBrk, sCnt, sIf, sAsg, sPar, sFor, sSub, setF, eV, eC, DL.e1, DL.e2, eL, aN, aC, eCall, eTup, eLst, eNew, eM, eAnd, eOr, eNot, eIf, eCh, asB, bAnd, bOr, bNot, bY, gN, gsN, gsC, gT, iL, iT, iS, iR1, iZp, iEn, sdF, oN, oS, eSl, R.bind, n1, n2, n3, n4, n5, n6, n7, z4, kB, cmF, c_MOST_MOVES, wholeB, hi]
        omega
      · simp [hi] at z4
        simp [fnF0, fnF, sNil, sSeq, sEx, sRet, sRetN, sBrk, sCnt, sIf, sAsg, sPar, sFor, sSub, setF, eV, eC, DL.e1, DL.e2, eL, aN, aC, eCall, eTup, eLst, eNew, eM, eAnd, eOr, eNot, eIf, eCh, asB, bAnd, bOr, bNot, bY, gN, gsN, gsC, gT, iL, iT, iS, iR1, iZp, iEn, sdF, oN, oS, eSl, R.bind, n1, n2, n3, n4, n5, n6, n7, z4, kB, cmF, wholeB, hi]
    | _ => simp [fnF0, fnF, sNil, sSeq, sEx, sRet, sRetN, sBrk, sCnt, sIf, sAsg, sPar, sFor, sSub, setF, eV, eC, DL.e1, DL.e2, eL, aN, aC, eCall, eTup, eLst, eNew, eM, eAnd, eOr, eNot, eIf, eCh, asB, bAnd, bOr, bNot, bY, gN, gsN, gsC, gT, iL, iT, iS, iR1, iZp, iEn, sdF, oN, oS, eSl, R.bind, n1, n2, n3, n4, n5, n6, n7, z4, kB, wholeB]
  | number =>
    have q1 : (Kd.number.s == ("name" : Str)) = false := by decide +kernel
    have q2 : (Kd.number.s == ("point" : Str)) = false := by decide +kernel
    have q3 : (Kd.number.s == ("kind" : Str)) = false := by decide +kernel
    have q4 : (Kd.number.s == ("weight" : Str)) = false := by decide +kernel
    have q5 : (Kd.number.s == ("value" : Str)) = false := by decide +kernel
    have q6 : (Kd.number.s == ("pairs" : Str)) = false := by decide +kernel
    have q7 : (Kd.number.s == ("move" : Str)) = false := by decide +kernel
    simp only [q1, q2, q3, q4, q5, q6, q7] at n1 n2 n3 n4 n5 n6 n7
    cases d with
    | int i =>
      by_cases hi : 0 ≤ i
      · simp [hi] at z4
        simp [fnF0, fnF, sNil, sSeq, sEx, sRet, sRetN, sBrk, sCnt, sIf, sAsg, sPar, sFor, sSub, setF, eV, eC, DL.e1, DL.e2, eL, aN, aC, eCall, eTup, eLst, eNew, eM, eAnd, eOr, eNot, eIf, eCh, asB, bAnd, bOr, bNot, bY, gN, gsN, gsC, gT, iL, iT, iS, iR1, iZp, iEn, sdF, oN, oS, eSl, R.bind, n1, n2, n3, n4, n5, n6, n7, z4, kB, cmF, c_MOST_RULES, wholeB, hi]
        omega
      · simp [hi] at z4
        simp [fnF0, fnF, sNil, sSeq, sEx, sRet, sRetN, sBrk, sCnt, sIf, sAsg, sPar, sFor, sSub, setF, eV, eC, DL.e1, DL.e2, eL, aN, aC, eCall, eTup, eLst, eNew, eM, eAnd, eOr, eNot, eIf, eCh, asB, bAnd, bOr, bNot, bY, gN, gsN, gsC, gT, iL, iT, iS, iR1, iZp, iEn, sdF, oN, oS, eSl, R.bind, n1, n2, n3, n4, n5, n6, n7, z4, kB, cmF, wholeB, hi]
    | _ => simp [fnF0, fnF, sNil, sSeq, sEx, sRet, sRetN, sBrk, sCnt, sIf, sAsg, sPar, sFor, sSub, setF, eV, eC, DL.e1, DL.e2, eL, aN, aC, eCall, eTup, eLst, eNew, eM, eAnd, eOr, eNot, eIf, eCh, asB, bAnd, bOr, bNot, bY, gN, gsN, gsC, gT, iL, iT, iS, iR1, iZp, iEn, sdF, oN, oS, eSl, R.bind, n1, n2, n3, n4, n5, n6, n7, z4, kB, wholeB]
end P64
end
section
set_option maxRecDepth 100000
set_option maxHeartbeats 4000000
set_option autoImplicit false
set_option linter.all false
namespace P64
open PySem L2 DL
/-! ### slices, places -/
theorem cut_from {α : Type} (xs : List α) (k : Nat) : cutL xs (some (k : Int)) none = xs.drop k := by
  unfold cutL
  rw [HT.sIx_nat, HT.sIx_none]
  by_cases h : k ≤ xs.length
  · rw [Nat.min_eq_left h]
    exact List.take_of_length_le (by simp)
  · have h' : xs.length ≤ k := by omega
    rw [Nat.min_eq_right h', List.drop_eq_nil_of_le (Nat.le_refl _), List.drop_eq_nil_of_le h', List.take_nil]
theorem cut_to {α : Type} (xs : List α) (k : Nat) : cutL xs none (some (k : Int)) = xs.take k := by
  unfold cutL
  rw [HT.sIx_nat, HT.sIx_none, List.drop_zero, Nat.sub_zero]
  by_cases h : k ≤ xs.length
  · rw [Nat.min_eq_left h]
  · have h' : xs.length ≤ k := by omega
    rw [Nat.min_eq_right h', List.take_of_length_le (Nat.le_refl _), List.take_of_length_le h']
theorem cut_1 {α : Type} (x : α) (xs : List α) : cutL (x :: xs) (some 1) none = xs := cut_from (x :: xs) 1
theorem atI_nat {α : Type} (xs : List α) (k : Nat) : atI xs (k : Int) = xs[k]? := by
  unfold atI ixN
  rw [if_pos (by omega)]
  by_cases h : (k : Int) < xs.length
  · rw [if_pos h]; rfl
  · rw [if_neg h, List.getElem?_eq_none (by omega)]; rfl
theorem atI_0 {α : Type} (x : α) (xs : List α) : atI (x :: xs) 0 = some x := atI_nat (x :: xs) 0
theorem atI_last {α : Type} (xs : List α) (x : α) : atI (xs ++ [x]) (-1) = some x := by
  unfold atI ixN
  rw [if_neg (by decide), if_pos (by simp; omega)]
  show (xs ++ [x])[(-1 + ((xs ++ [x]).length : Int)).toNat]? = some x
  have : (-1 + ((xs ++ [x]).length : Int)).toNat = xs.length := by simp; omega
  rw [this]
  simp
/-! ### commands -/
def allK : List Kd → List D → Bool
  | [], [] => true
  | k :: ks, p :: ps => kB k p && allK ks ps
  | _, _ => false
def cmdB : D → Bool
  | .tup (.str w :: ps) => match kindsOf w with
    | some ks => allK ks ps
    | none => false
  | _ => false
theorem allK_len : ∀ {ks : List Kd} {ps : List D}, allK ks ps = true → ps.length = ks.length
  | [], [], _ => rfl
  | k :: ks, p :: ps, h => by
    have h' : kB k p = true ∧ allK ks ps = true := by simpa [allK] using h
    simp [allK_len h'.2]
  | [], _ :: _, h => by cases h
  | _ :: _, [], h => by cases h
theorem zip_kd : ∀ (ks : List Kd) (ps : List D), zipD (ksD ks) ps = (ks.zip ps).map fun q => .tup [.str q.1.s, q.2]
  | [], _ => by simp [ksD, zipD]
  | _ :: _, [] => by simp [ksD, zipD]
  | k :: ks, p :: ps => by
    have := zip_kd ks ps
    simp only [ksD] at this
    simp [ksD, zipD, this]
theorem zip_dk : ∀ (ps : List D) (ks : List Kd), zipD ps (ksD ks) = (ks.zip ps).map fun q => .tup [q.2, .str q.1.s]
  | [], ks => by cases ks <;> simp [ksD, zipD]
  | _ :: _, [] => by simp [ksD, zipD]
  | p :: ps, k :: ks => by
    have := zip_dk ps ks
    simp only [ksD] at this
    simp [ksD, zipD, this]
theorem all_zip : ∀ {ks : List Kd} {ps : List D}, ps.length = ks.length → (ks.zip ps).all (fun q => kB q.1 q.2) = allK ks ps
  | [], [], _ => rfl
  | k :: ks, p :: ps, h => by
    have := all_zip (ks := ks) (ps := ps) (by simpa using h)
    simp [allK, this]
  | [], _ :: _, h => by simp at h
  | _ :: _, [], h => by simp at h
theorem allK_ne : ∀ {ks : List Kd} {ps : List D}, ps.length ≠ ks.length → allK ks ps = false := fun {ks ps} h => by
  cases q : allK ks ps with
  | false => rfl
  | true => exact absurd (allK_len q) h
theorem ksD_len (ks : List Kd) : (ksD ks).length = ks.length := by simp [ksD]
theorem mem_zip2 {ks : List Kd} {ps : List D} {q : Kd × D} (h : q ∈ ks.zip ps) : q.2 ∈ ps := (List.of_mem_zip (a := q.1) (b := q.2) h).2
theorem is_command_eq {d : D} (h : Sm 100000 d) (S : Store) : F_is_command [d] S = .ok (.bl (cmdB d)) S := by
  unfold F_is_command
  cases d with
  | hd n => have := h.ok; simp [okF] at this
  | rol n => have := h.ok; simp [okF] at this
  | tup xs =>
    cases xs with
    | nil => simp [fnF0, fnF, sNil, sSeq, sEx, sRet, sRetN, sBrk, sCnt, sIf, sAsg, sPar, sFor, sSub, setF, eV, eC, DL.e1, DL.e2, eL, aN, aC, eCall, eTup, eLst, eNew, eM, eAnd, eOr, eNot, eIf, eCh, asB, bAnd, bOr, bNot, bY, gN, gsN, gsC, gT, iL, iT, iS, iR1, iZp, iEn, sdF, oN, oS, eSl, R.bind, isiF, tagF, isiB, lenF, seqF, eqF_int, cmdB]
    | cons x ps =>
      have hx := h.mem x List.mem_cons_self
      have ln : ¬ ((ps.length : Int) + 1 = 0) := by omega
      cases x with
      | hd n => have := hx.ok; simp [okF] at this
      | rol n => have := hx.ok; simp [okF] at this
      | str w =>
        have g := get_parts w S
        cases hk : kindsOf w with
        | none =>
          rw [hk] at g
          simp [fnF0, fnF, sNil, sSeq, sEx, sRet, sRetN, sBrk, sCnt, sIf, sAsg, sPar, sFor, sSub, setF, eV, eC, DL.e1, DL.e2, eL, aN, aC, eCall, eTup, eLst, eNew, eM, eAnd, eOr, eNot, eIf, eCh, asB, bAnd, bOr, bNot, bY, gN, gsN, gsC, gT, iL, iT, iS, iR1, iZp, iEn, sdF, oN, oS, eSl, R.bind, isiF, tagF, isiB, lenF, seqF, eqF_int, cmdB, ln, ixF, atI_0, g, isF, hk]
        | some ks =>
          rw [hk] at g
          by_cases hl : ps.length = ks.length
          · have e := all_lc (fa := iZp true true (aC (eV 1) (aC (eSl (eV 0) (oS (eC (.int 1))) oN) aN))) (b := gT (gsC (gN 2) (gsC (gN 3) gsN))) (fe := E_is_command_0) (vs := [2, 3]) (ρ := [some (.tup (.str w :: ps)), some (.tup (ksD ks)), none, none]) (S := S) (ds := ks.zip ps) (q := fun q => .tup [.str q.1.s, q.2]) (g := fun q => kB q.1 q.2)
              (by simp [fnF0, fnF, sNil, sSeq, sEx, sRet, sRetN, sBrk, sCnt, sIf, sAsg, sPar, sFor, sSub, setF, eV, eC, DL.e1, DL.e2, eL, aN, aC, eCall, eTup, eLst, eNew, eM, eAnd, eOr, eNot, eIf, eCh, asB, bAnd, bOr, bNot, bY, gN, gsN, gsC, gT, iL, iT, iS, iR1, iZp, iEn, sdF, oN, oS, eSl, R.bind, oS, slF, cut_1, zip_kd])
              (fun q hq => ⟨[some (.tup (.str w :: ps)), some (.tup (ksD ks)), some (.str q.1.s), some q.2], rfl, by
                have := is_part_eq q.1 (h.mem q.2 (List.mem_cons_of_mem _ (mem_zip2 hq))) S
                simp [E_is_command_0, fnF0, fnF, sNil, sSeq, sEx, sRet, sRetN, sBrk, sCnt, sIf, sAsg, sPar, sFor, sSub, setF, eV, eC, DL.e1, DL.e2, eL, aN, aC, eCall, eTup, eLst, eNew, eM, eAnd, eOr, eNot, eIf, eCh, asB, bAnd, bOr, bNot, bY, gN, gsN, gsC, gT, iL, iT, iS, iR1, iZp, iEn, sdF, oN, oS, eSl, R.bind, this]⟩) (by
                have := h.len
                simp at this ⊢
                omega)
            rw [all_zip hl] at e
            simp only [eL, aC, aN] at e
            have ln2 : ¬ ((ks.length : Int) + 1 = 0) := by omega
            simp [fnF0, fnF, sNil, sSeq, sEx, sRet, sRetN, sBrk, sCnt, sIf, sAsg, sPar, sFor, sSub, setF, eV, eC, DL.e1, DL.e2, eL, aN, aC, eCall, eTup, eLst, eNew, eM, eAnd, eOr, eNot, eIf, eCh, asB, bAnd, bOr, bNot, bY, gN, gsN, gsC, gT, iL, iT, iS, iR1, iZp, iEn, sdF, oN, oS, eSl, R.bind, isiF, tagF, isiB, lenF, seqF, eqF_int, cmdB, ln2, ixF, atI_0, g, isF, hk, addF, ksD_len, hl] at e ⊢
            rw [e]
          · have q1 : ¬ ((ps.length : Int) = (ks.length : Int)) := by omega
            simp [fnF0, fnF, sNil, sSeq, sEx, sRet, sRetN, sBrk, sCnt, sIf, sAsg, sPar, sFor, sSub, setF, eV, eC, DL.e1, DL.e2, eL, aN, aC, eCall, eTup, eLst, eNew, eM, eAnd, eOr, eNot, eIf, eCh, asB, bAnd, bOr, bNot, bY, gN, gsN, gsC, gT, iL, iT, iS, iR1, iZp, iEn, sdF, oN, oS, eSl, R.bind, isiF, tagF, isiB, lenF, seqF, eqF_int, cmdB, ln, ixF, atI_0, g, isF, hk, addF, ksD_len, q1, allK_ne hl]
            try omega
      | _ => simp [fnF0, fnF, sNil, sSeq, sEx, sRet, sRetN, sBrk, sCnt, sIf, sAsg, sPar, sFor, sSub, setF, eV, eC, DL.e1, DL.e2, eL, aN, aC, eCall, eTup, eLst, eNew, eM, eAnd, eOr, eNot, eIf, eCh, asB, bAnd, bOr, bNot, bY, gN, gsN, gsC, gT, iL, iT, iS, iR1, iZp, iEn, sdF, oN, oS, eSl, R.bind, isiF, tagF, isiB, lenF, seqF, eqF_int, cmdB, ln, ixF, atI_0]
  | _ => simp [fnF0, fnF, sNil, sSeq, sEx, sRet, sRetN, sBrk, sCnt, sIf, sAsg, sPar, sFor, sSub, setF, eV, eC, DL.e1, DL.e2, eL, aN, aC, eCall, eTup, eLst, eNew, eM, eAnd, eOr, eNot, eIf, eCh, asB, bAnd, bOr, bNot, bY, gN, gsN, gsC, gT, iL, iT, iS, iR1, iZp, iEn, sdF, oN, oS, eSl, R.bind, isiF, tagF, isiB, cmdB]
theorem fits_body (k : Kd) {p : D} (hp : Sm 100000 p) (v x : Option D) (ks : D) (S : Store) : B__law_fits_0 [v, some ks, some p, some (.str k.s), x] S = .ok (if kB k p = true then .nx else .rt (.bl false), [v, some ks, some p, some (.str k.s), some (.bl (kB k p))]) S := by
  have n1 := eq_kd (neg := false) k "move" (by decide +kernel) (S := S)
  have n2 := eq_kd (neg := false) k "number" (by decide +kernel) (S := S)
  have n3 := eq_kd (neg := false) k "weight" (by decide +kernel) (S := S)
  have n4 := eq_kd (neg := false) k "value" (by decide +kernel) (S := S)
  have n5 := eq_kd (neg := false) k "kind" (by decide +kernel) (S := S)
  have n6 := eq_kd (neg := false) k "point" (by decide +kernel) (S := S)
  have n7 := eq_kd (neg := false) k "pairs" (by decide +kernel) (S := S)
  have z1 := law_is_name_eq hp S
  have z2 := law_are_pairs_eq hp S
  have w1 := whole_eq hp 0 39 S
  have w2 := whole_eq hp 0 29 S
  have w3 := whole_eq hp (-1000) 1000 S
  have w4 := whole_eq hp (-1000000) 1000000 S
  have pw : (10 : Int) ^ (6 : Nat) = 1000000 := by decide
  unfold B__law_fits_0
  cases k with
  | name =>
    have q : (Kd.name.s == ("move" : Str)) = false ∧ (Kd.name.s == ("number" : Str)) = false ∧ (Kd.name.s == ("weight" : Str)) = false ∧ (Kd.name.s == ("value" : Str)) = false ∧ (Kd.name.s == ("kind" : Str)) = false ∧ (Kd.name.s == ("point" : Str)) = false ∧ (Kd.name.s == ("pairs" : Str)) = false := by decide +kernel
    simp only [q] at n1 n2 n3 n4 n5 n6 n7
    cases hb : nameB p <;> simp [hb] at z1 <;> simp [fnF0, fnF, sNil, sSeq, sEx, sRet, sRetN, sBrk, sCnt, sIf, sAsg, sPar, sFor, sSub, setF, eV, eC, DL.e1, DL.e2, eL, aN, aC, eCall, eTup, eLst, eNew, eM, eAnd, eOr, eNot, eIf, eCh, asB, bAnd, bOr, bNot, bY, gN, gsN, gsC, gT, iL, iT, iS, iR1, iZp, iEn, sdF, oN, oS, eSl, R.bind, n1, n2, n3, n4, n5, n6, n7, z1, kB, hb]
  | move =>
    have q : (Kd.move.s == ("move" : Str)) = true := by decide +kernel
    simp only [q] at n1
    cases hb : wholeB 0 39 p <;> simp [hb] at w1 <;> simp [fnF0, fnF, sNil, sSeq, sEx, sRet, sRetN, sBrk, sCnt, sIf, sAsg, sPar, sFor, sSub, setF, eV, eC, DL.e1, DL.e2, eL, aN, aC, eCall, eTup, eLst, eNew, eM, eAnd, eOr, eNot, eIf, eCh, asB, bAnd, bOr, bNot, bY, gN, gsN, gsC, gT, iL, iT, iS, iR1, iZp, iEn, sdF, oN, oS, eSl, R.bind, n1, z1, w1, kB, hb]
  | number =>
    have q : (Kd.number.s == ("move" : Str)) = false ∧ (Kd.number.s == ("number" : Str)) = true := by decide +kernel
    simp only [q] at n1 n2
    cases hb : wholeB 0 29 p <;> simp [hb] at w2 <;> simp [fnF0, fnF, sNil, sSeq, sEx, sRet, sRetN, sBrk, sCnt, sIf, sAsg, sPar, sFor, sSub, setF, eV, eC, DL.e1, DL.e2, eL, aN, aC, eCall, eTup, eLst, eNew, eM, eAnd, eOr, eNot, eIf, eCh, asB, bAnd, bOr, bNot, bY, gN, gsN, gsC, gT, iL, iT, iS, iR1, iZp, iEn, sdF, oN, oS, eSl, R.bind, n1, n2, z1, w2, kB, hb]
  | weight =>
    have q : (Kd.weight.s == ("move" : Str)) = false ∧ (Kd.weight.s == ("number" : Str)) = false ∧ (Kd.weight.s == ("weight" : Str)) = true := by decide +kernel
    simp only [q] at n1 n2 n3
    cases hb : wholeB (-1000) 1000 p <;> simp [hb] at w3 <;> simp [fnF0, fnF, sNil, sSeq, sEx, sRet, sRetN, sBrk, sCnt, sIf, sAsg, sPar, sFor, sSub, setF, eV, eC, DL.e1, DL.e2, eL, aN, aC, eCall, eTup, eLst, eNew, eM, eAnd, eOr, eNot, eIf, eCh, asB, bAnd, bOr, bNot, bY, gN, gsN, gsC, gT, iL, iT, iS, iR1, iZp, iEn, sdF, oN, oS, eSl, R.bind, n1, n2, n3, z1, w3, kB, hb, subF]
  | value =>
    have q : (Kd.value.s == ("move" : Str)) = false ∧ (Kd.value.s == ("number" : Str)) = false ∧ (Kd.value.s == ("weight" : Str)) = false ∧ (Kd.value.s == ("value" : Str)) = true := by decide +kernel
    simp only [q] at n1 n2 n3 n4
    cases hb : wholeB (-1000000) 1000000 p <;> simp [hb] at w4 <;> simp [fnF0, fnF, sNil, sSeq, sEx, sRet, sRetN, sBrk, sCnt, sIf, sAsg, sPar, sFor, sSub, setF, eV, eC, DL.e1, DL.e2, eL, aN, aC, eCall, eTup, eLst, eNew, eM, eAnd, eOr, eNot, eIf, eCh, asB, bAnd, bOr, bNot, bY, gN, gsN, gsC, gT, iL, iT, iS, iR1, iZp, iEn, sdF, oN, oS, eSl, R.bind, n1, n2, n3, n4, z1, w4, kB, hb, subF, powF, pw]
  | kind =>
    have q : (Kd.kind.s == ("move" : Str)) = false ∧ (Kd.kind.s == ("number" : Str)) = false ∧ (Kd.kind.s == ("weight" : Str)) = false ∧ (Kd.kind.s == ("value" : Str)) = false ∧ (Kd.kind.s == ("kind" : Str)) = true := by decide +kernel
    simp only [q] at n1 n2 n3 n4 n5
    cases p with
    | str w =>
      have m := inV_strs (neg := false) (w := w) (l := ["rise", "fall", "now"]) (S := S)
      simp only [List.map_cons, List.map_nil, Bool.false_eq_true, if_false] at m
      cases hb : (["rise", "fall", "now"] : List Str).contains w <;> rw [hb] at m <;> simp only [fnF0, fnF, sNil, sSeq, sEx, sRet, sRetN, sBrk, sCnt, sIf, sAsg, sPar, sFor, sSub, setF, eV, eC, DL.e1, DL.e2, eL, aN, aC, eCall, eTup, eLst, eNew, eM, eAnd, eOr, eNot, eIf, eCh, asB, bAnd, bOr, bNot, bY, gN, gsN, gsC, gT, iL, iT, iS, iR1, iZp, iEn, sdF, oN, oS, eSl, R.bind, n1, n2, n3, n4, n5, z1, kB, hb, isiF, tagF, isiB, m] <;> simp [m, n1, n2, n3, n4, n5, z1]
    | hd n => have := hp.ok; simp [okF] at this
    | rol n => have := hp.ok; simp [okF] at this
    | _ => simp [fnF0, fnF, sNil, sSeq, sEx, sRet, sRetN, sBrk, sCnt, sIf, sAsg, sPar, sFor, sSub, setF, eV, eC, DL.e1, DL.e2, eL, aN, aC, eCall, eTup, eLst, eNew, eM, eAnd, eOr, eNot, eIf, eCh, asB, bAnd, bOr, bNot, bY, gN, gsN, gsC, gT, iL, iT, iS, iR1, iZp, iEn, sdF, oN, oS, eSl, R.bind, n1, n2, n3, n4, n5, z1, kB, isiF, tagF, isiB]
  | point =>
    have q : (Kd.point.s == ("move" : Str)) = false ∧ (Kd.point.s == ("number" : Str)) = false ∧ (Kd.point.s == ("weight" : Str)) = false ∧ (Kd.point.s == ("value" : Str)) = false ∧ (Kd.point.s == ("kind" : Str)) = false ∧ (Kd.point.s == ("point" : Str)) = true := by decide +kernel
    simp only [q] at n1 n2 n3 n4 n5 n6
    cases p with
    | str w =>
      have m := eqF_str (neg := false) (S := S) (strOk_of hp) strOk_nul
      cases hz : (w == ("0" : Str)) <;> rw [hz] at m <;> cases hn : nameB (.str w) <;> simp [hn] at z1 <;> simp only [Bool.false_eq_true, if_false] at m <;> simp [fnF0, fnF, sNil, sSeq, sEx, sRet, sRetN, sBrk, sCnt, sIf, sAsg, sPar, sFor, sSub, setF, eV, eC, DL.e1, DL.e2, eL, aN, aC, eCall, eTup, eLst, eNew, eM, eAnd, eOr, eNot, eIf, eCh, asB, bAnd, bOr, bNot, bY, gN, gsN, gsC, gT, iL, iT, iS, iR1, iZp, iEn, sdF, oN, oS, eSl, R.bind, n1, n2, n3, n4, n5, n6, z1, kB, hn, hz, isiF, tagF, isiB, m]
    | hd n => have := hp.ok; simp [okF] at this
    | rol n => have := hp.ok; simp [okF] at this
    | _ => simp [nameB] at z1; simp [fnF0, fnF, sNil, sSeq, sEx, sRet, sRetN, sBrk, sCnt, sIf, sAsg, sPar, sFor, sSub, setF, eV, eC, DL.e1, DL.e2, eL, aN, aC, eCall, eTup, eLst, eNew, eM, eAnd, eOr, eNot, eIf, eCh, asB, bAnd, bOr, bNot, bY, gN, gsN, gsC, gT, iL, iT, iS, iR1, iZp, iEn, sdF, oN, oS, eSl, R.bind, n1, n2, n3, n4, n5, n6, z1, kB, nameB, isiF, tagF, isiB]
  | pairs =>
    have q : (Kd.pairs.s == ("move" : Str)) = false ∧ (Kd.pairs.s == ("number" : Str)) = false ∧ (Kd.pairs.s == ("weight" : Str)) = false ∧ (Kd.pairs.s == ("value" : Str)) = false ∧ (Kd.pairs.s == ("kind" : Str)) = false ∧ (Kd.pairs.s == ("point" : Str)) = false ∧ (Kd.pairs.s == ("pairs" : Str)) = true := by decide +kernel
    simp only [q] at n1 n2 n3 n4 n5 n6 n7
    cases hb : pairsB p <;> simp [hb] at z2 <;> simp [fnF0, fnF, sNil, sSeq, sEx, sRet, sRetN, sBrk, sCnt, sIf, sAsg, sPar, sFor, sSub, setF, eV, eC, DL.e1, DL.e2, eL, aN, aC, eCall, eTup, eLst, eNew, eM, eAnd, eOr, eNot, eIf, eCh, asB, bAnd, bOr, bNot, bY, gN, gsN, gsC, gT, iL, iT, iS, iR1, iZp, iEn, sdF, oN, oS, eSl, R.bind, n1, n2, n3, n4, n5, n6, n7, z1, z2, kB, hb]
theorem fits_eq (ks : List Kd) {x : D} {ps : List D} (h : Sm 100000 (.tup (x :: ps))) (S : Store) : F__law_fits [.tup (x :: ps), .lst (ksD ks)] S = .ok (.bl (allK ks ps)) S := by
  unfold F__law_fits
  by_cases hl : ps.length = ks.length
  · have key : ∀ (qs : List (Kd × D)) (u : Rho), (∀ q ∈ qs, q.2 ∈ ps) → (∃ a b c, u = [some (.tup (x :: ps)), some (.lst (ksD ks)), a, b, c]) → ∃ ρ', forGo (gT (gsC (gN 2) (gsC (gN 3) gsN))) B__law_fits_0 (qs.map fun q => .tup [q.2, .str q.1.s]) u S = .ok (if qs.all (fun q => kB q.1 q.2) = true then .nx else .rt (.bl false), ρ') S := by
      intro qs
      induction qs with
      | nil => intro u _ _; exact ⟨u, rfl⟩
      | cons q qs ih =>
        intro u hq ⟨a, b, c, hu⟩
        subst hu
        rw [List.map_cons]
        unfold forGo
        have hb := fits_body q.1 (h.mem q.2 (List.mem_cons_of_mem _ (hq q List.mem_cons_self))) (some (.tup (x :: ps))) c (.lst (ksD ks)) S
        have hg : gT (gsC (gN 2) (gsC (gN 3) gsN)) (.tup [q.2, .str q.1.s]) [some (.tup (x :: ps)), some (.lst (ksD ks)), a, b, c] = some [some (.tup (x :: ps)), some (.lst (ksD ks)), some q.2, some (.str q.1.s), c] := rfl
        rw [hg]
        dsimp only
        rw [hb]
        cases hk : kB q.1 q.2 with
        | true =>
          obtain ⟨ρ', e⟩ := ih [some (.tup (x :: ps)), some (.lst (ksD ks)), some q.2, some (.str q.1.s), some (.bl true)] (fun z hz => hq z (List.mem_cons_of_mem _ hz)) ⟨_, _, _, rfl⟩
          exact ⟨ρ', by simp only [R.bind, if_true, e, List.all_cons, hk, Bool.true_and]⟩
        | false => exact ⟨[some (.tup (x :: ps)), some (.lst (ksD ks)), some q.2, some (.str q.1.s), some (.bl false)], by simp [R.bind, hk]⟩
    obtain ⟨ρ', e⟩ := key (ks.zip ps) [some (.tup (x :: ps)), some (.lst (ksD ks)), none, none, none] (fun q hq => mem_zip2 hq) ⟨_, _, _, rfl⟩
    rw [all_zip hl, ← zip_dk] at e
    cases hb : allK ks ps <;> rw [hb] at e <;> simp at e <;> simp [fnF0, fnF, sNil, sSeq, sEx, sRet, sRetN, sBrk, sCnt, sIf, sAsg, sPar, sFor, sSub, setF, eV, eC, DL.e1, DL.e2, eL, aN, aC, eCall, eTup, eLst, eNew, eM, eAnd, eOr, eNot, eIf, eCh, asB, bAnd, bOr, bNot, bY, gN, gsN, gsC, gT, iL, iT, iS, iR1, iZp, iEn, sdF, oN, oS, eSl, R.bind, lenF, seqF, eqF_int, addF, ksD_len, hl, oS, slF, cut_1, e]
  · have q1 : ¬ ((ps.length : Int) = (ks.length : Int)) := by omega
    simp [fnF0, fnF, sNil, sSeq, sEx, sRet, sRetN, sBrk, sCnt, sIf, sAsg, sPar, sFor, sSub, setF, eV, eC, DL.e1, DL.e2, eL, aN, aC, eCall, eTup, eLst, eNew, eM, eAnd, eOr, eNot, eIf, eCh, asB, bAnd, bOr, bNot, bY, gN, gsN, gsC, gT, iL, iT, iS, iR1, iZp, iEn, sdF, oN, oS, eSl, R.bind, lenF, seqF, eqF_int, addF, ksD_len, hl, allK_ne hl, q1]
theorem law_is_command_eq {d : D} (h : Sm 100000 d) (S : Store) : F__law_is_command [d] S = .ok (.bl (cmdB d)) S := by
  unfold F__law_is_command
  cases d with
  | hd n => have := h.ok; simp [okF] at this
  | rol n => have := h.ok; simp [okF] at this
  | tup xs =>
    cases xs with
    | nil => simp [fnF0, fnF, sNil, sSeq, sEx, sRet, sRetN, sBrk, sCnt, sIf, sAsg, sPar, sFor, sSub, setF, eV, eC, DL.e1, DL.e2, eL, aN, aC, eCall, eTup, eLst, eNew, eM, eAnd, eOr, eNot, eIf, eCh, asB, bAnd, bOr, bNot, bY, gN, gsN, gsC, gT, iL, iT, iS, iR1, iZp, iEn, sdF, oN, oS, eSl, R.bind, isiF, tagF, isiB, lenF, seqF, eqF_int, cmdB]
    | cons x ps =>
      have hx := h.mem x List.mem_cons_self
      have ln : ¬ ((ps.length : Int) + 1 = 0) := by omega
      cases x with
      | hd n => have := hx.ok; simp [okF] at this
      | rol n => have := hx.ok; simp [okF] at this
      | str w =>
        have g := law_kinds_eq (strOk_of hx) S
        cases hk : kindsOf w with
        | none =>
          rw [hk] at g
          simp [fnF0, fnF, sNil, sSeq, sEx, sRet, sRetN, sBrk, sCnt, sIf, sAsg, sPar, sFor, sSub, setF, eV, eC, DL.e1, DL.e2, eL, aN, aC, eCall, eTup, eLst, eNew, eM, eAnd, eOr, eNot, eIf, eCh, asB, bAnd, bOr, bNot, bY, gN, gsN, gsC, gT, iL, iT, iS, iR1, iZp, iEn, sdF, oN, oS, eSl, R.bind, isiF, tagF, isiB, lenF, seqF, eqF_int, cmdB, ln, ixF, atI_0, g, isF, hk]
        | some ks =>
          rw [hk] at g
          have f := fits_eq ks h S
          simp [fnF0, fnF, sNil, sSeq, sEx, sRet, sRetN, sBrk, sCnt, sIf, sAsg, sPar, sFor, sSub, setF, eV, eC, DL.e1, DL.e2, eL, aN, aC, eCall, eTup, eLst, eNew, eM, eAnd, eOr, eNot, eIf, eCh, asB, bAnd, bOr, bNot, bY, gN, gsN, gsC, gT, iL, iT, iS, iR1, iZp, iEn, sdF, oN, oS, eSl, R.bind, isiF, tagF, isiB, lenF, seqF, eqF_int, cmdB, ln, ixF, atI_0, g, isF, hk, f]
      | _ => simp [fnF0, fnF, sNil, sSeq, sEx, sRet, sRetN, sBrk, sCnt, sIf, sAsg, sPar, sFor, sSub, setF, eV, eC, DL.e1, DL.e2, eL, aN, aC, eCall, eTup, eLst, eNew, eM, eAnd, eOr, eNot, eIf, eCh, asB, bAnd, bOr, bNot, bY, gN, gsN, gsC, gT, iL, iT, iS, iR1, iZp, iEn, sdF, oN, oS, eSl, R.bind, isiF, tagF, isiB, lenF, seqF, eqF_int, cmdB, ln, ixF, atI_0]
  | _ => simp [fnF0, fnF, sNil, sSeq, sEx, sRet, sRetN, sBrk, sCnt, sIf, sAsg, sPar, sFor, sSub, setF, eV, eC, DL.e1, DL.e2, eL, aN, aC, eCall, eTup, eLst, eNew, eM, eAnd, eOr, eNot, eIf, eCh, asB, bAnd, bOr, bNot, bY, gN, gsN, gsC, gT, iL, iT, iS, iR1, iZp, iEn, sdF, oN, oS, eSl, R.bind, isiF, tagF, isiB, cmdB]
end P64
end
section
set_option maxRecDepth 100000
set_option maxHeartbeats 4000000
set_option autoImplicit false
set_option linter.all false
namespace P64
open PySem L2 DL
/-! ### the heap of the law -/
abbrev HS (xs : List Int) (st : Int) (T : Store) : Store := .lst (xs.map .int) :: .lst [.hd 0, .int st] :: T
def Nn (xs : List Int) : Prop := ∀ x ∈ xs, 0 ≤ x
theorem hs_ix0 (xs : List Int) (st : Int) (T : Store) : ixF (.hd 1) (.int 0) (HS xs st T) = .ok (.hd 0) (HS xs st T) := rfl
theorem hs_ix1 (xs : List Int) (st : Int) (T : Store) : ixF (.hd 1) (.int 1) (HS xs st T) = .ok (.int st) (HS xs st T) := rfl
theorem py_ints : ∀ xs : List Int, toPys (xs.map .int) = some (xs.map .int)
  | [] => rfl
  | x :: xs => by simp [toPys, toPy, py_ints xs]
theorem lay_ints : ∀ xs : List Int, PyData.canLayAll0 (xs.map .int) = true
  | [] => rfl
  | x :: xs => by simp [PyData.canLayAll0, PyData.canLay0, lay_ints xs]
theorem dep_ints : ∀ xs : List Int, PyData.depthAll (xs.map .int) = 0
  | [] => by simp [PyData.depthAll]
  | x :: xs => by simp [PyData.depthAll, PyData.depth, dep_ints xs]
theorem hs_ne (xs : List Int) (st : Int) (T : Store) : eqF true (.hd 0) (.lst []) (HS xs st T) = .ok (.bl (!xs.isEmpty)) (HS xs st T) := by
  have h1 : toPyS (HS xs st T) (.hd 0) = some (.list (xs.map .int)) := by
    show (toPys (xs.map .int)).map PyData.list = _
    rw [py_ints]; rfl
  have h2 : toPyS (HS xs st T) (.lst []) = some (.list []) := by simp [toPyS, toPy, toPys]
  unfold eqF
  rw [h1, h2]
  cases xs with
  | nil => simp [SeqAt.shaped, PyData.canLay0, PyData.canLayAll0, PyData.depth, PyData.depthAll, PyData.eqv, PyData.eqvAll]
  | cons x xs => simp [SeqAt.shaped, PyData.canLay0, PyData.canLayAll0, PyData.depth, PyData.depthAll, PyData.eqv, PyData.eqvAll, lay_ints, dep_ints]
theorem hs_last (ys : List Int) (x : Int) (st : Int) (T : Store) : ixF (.hd 0) (.int (-1)) (HS (ys ++ [x]) st T) = .ok (.int x) (HS (ys ++ [x]) st T) := by
  have h : seqF (HS (ys ++ [x]) st T) (.hd 0) = some (ys.map .int ++ [.int x]) := by
    show some ((ys ++ [x]).map D.int) = _
    simp
  unfold ixF
  simp only [h, Option.bind, atI_last]
theorem hs_pop (ys : List Int) (x : Int) (st : Int) (T : Store) : popF (.hd 0) [] (HS (ys ++ [x]) st T) = .ok (.int x) (HS ys st T) := by
  unfold popF
  simp
theorem hs_app (ys : List Int) (x : Int) (st : Int) (T : Store) (h : ys.length < sizeLine) : appendF (.hd 0) [.int x] (HS ys st T) = .ok .non (HS (ys ++ [x]) st T) := by
  unfold appendF
  simp [h]
theorem hs_tag (xs : List Int) (st : Int) (T : Store) : tagF (HS xs st T) (.hd 0) = some "list" := rfl
theorem nil_or (xs : List Int) : xs = [] ∨ ∃ ys x, xs = ys ++ [x] := by
  cases h : xs.reverse with
  | nil => exact .inl (by simpa using h)
  | cons x l => exact .inr ⟨l.reverse, x, by rw [← List.reverse_reverse xs, h]; simp⟩
theorem draw_loop (m : Int) (st : Int) (T : Store) : ∀ (n : Nat) (xs : List Int), xs.length + 1 ≤ n → xs.length ≤ 100 → Nn xs → ∃ ys, whGo T__law_draw_0 B__law_draw_1 n [some (.hd 1), some (.int m), none] (HS xs st T) = .ok (.nx, [some (.hd 1), some (.int m), none]) (HS ys st T) ∧ Nn ys ∧ ys.length ≤ xs.length
  | 0, xs, h, _, _ => by omega
  | n + 1, xs, h, h2, hn => by
    unfold whGo
    rcases nil_or xs with rfl | ⟨ys, x, rfl⟩
    · refine ⟨[], ?_, hn, Nat.le_refl _⟩
      have a := hs_ne [] st T
      simp at a
      simp [T__law_draw_0, fnF0, fnF, sNil, sSeq, sEx, sRet, sRetN, sBrk, sCnt, sIf, sAsg, sPar, sFor, sSub, setF, eV, eC, DL.e1, DL.e2, eL, aN, aC, eCall, eTup, eLst, eNew, eM, eAnd, eOr, eNot, eIf, eCh, asB, bAnd, bOr, bNot, bY, gN, gsN, gsC, gT, iL, iT, iS, iR1, iZp, iEn, sdF, oN, oS, eSl, R.bind, hs_ix0, a]
    · have a := hs_ne (ys ++ [x]) st T
      have b := hs_last ys x st T
      try simp at a
      try simp at b
      by_cases hx : x = 0
      · subst hx
        obtain ⟨zs, k1, k2, k3⟩ := draw_loop m st T n ys (by simp at h; omega) (by simp at h2; omega) (fun y hy => hn y (by simp [hy]))
        refine ⟨zs, ?_, k2, by simp; omega⟩
        have p := hs_pop ys 0 st T
        try simp at p
        simp [T__law_draw_0, B__law_draw_1, fnF0, fnF, sNil, sSeq, sEx, sRet, sRetN, sBrk, sCnt, sIf, sAsg, sPar, sFor, sSub, setF, eV, eC, DL.e1, DL.e2, eL, aN, aC, eCall, eTup, eLst, eNew, eM, eAnd, eOr, eNot, eIf, eCh, asB, bAnd, bOr, bNot, bY, gN, gsN, gsC, gT, iL, iT, iS, iR1, iZp, iEn, sdF, oN, oS, eSl, R.bind, hs_ix0, a, b, negF, eqF_int, hs_tag, p, tagF]
        exact k1
      · refine ⟨ys ++ [x], ?_, hn, Nat.le_refl _⟩
        simp [T__law_draw_0, fnF0, fnF, sNil, sSeq, sEx, sRet, sRetN, sBrk, sCnt, sIf, sAsg, sPar, sFor, sSub, setF, eV, eC, DL.e1, DL.e2, eL, aN, aC, eCall, eTup, eLst, eNew, eM, eAnd, eOr, eNot, eIf, eCh, asB, bAnd, bOr, bNot, bY, gN, gsN, gsC, gT, iL, iT, iS, iR1, iZp, iEn, sdF, oN, oS, eSl, R.bind, hs_ix0, a, b, negF, eqF_int, hx]
/-- a draw: some number below many, the heap goes on -/
theorem draw_eq {m : Int} (hm : 0 < m) (hm2 : m < 1073741824) {xs : List Int} (hl : xs.length ≤ 100) (hn : Nn xs) (st : Int) (T : Store) :
    ∃ k ys st', F__law_draw [.hd 1, .int m] (HS xs st T) = .ok (.int k) (HS ys st' T) ∧ 0 ≤ k ∧ k < m ∧ Nn ys ∧ ys.length ≤ 100 := by
  have fuel : lenH [some (.hd 1), some (.int m), none] (HS xs st T) = xs.length := by simp [lenH]
  obtain ⟨ys, e, hy, hyl⟩ := draw_loop m st T (1 + xs.length) xs (by omega) hl hn
  have e' : sWh (fun ρ S => 1 + lenH ρ S) T__law_draw_0 B__law_draw_1 [some (.hd 1), some (.int m), none] (HS xs st T) = .ok (.nx, [some (.hd 1), some (.int m), none]) (HS ys st T) := by
    unfold sWh
    dsimp only
    rw [fuel]
    exact e
  unfold F__law_draw
  rcases nil_or ys with rfl | ⟨zs, x, rfl⟩
  · have a := hs_ne [] st T
    refine ⟨((st * 48271 + 17) % 2147483647) / 32 % m, [], (st * 48271 + 17) % 2147483647, ?_, Int.emod_nonneg _ (by omega), Int.emod_lt_of_pos _ hm, hy, by simp⟩
    simp at a
    have i1 := hs_ix1 [] st T
    have i2 : ∀ z : Int, ixF (.hd 1) (.int 1) (Cell.lst [] :: Cell.lst [.hd 0, .int z] :: T) = .ok (.int z) (Cell.lst [] :: Cell.lst [.hd 0, .int z] :: T) := fun _ => rfl
    have n21 : ixN 2 1 = some 1 := rfl
    simp [fnF0, fnF, sNil, sSeq, sEx, sRet, sRetN, sBrk, sCnt, sIf, sAsg, sPar, sFor, sSub, setF, eV, eC, DL.e1, DL.e2, eL, aN, aC, eCall, eTup, eLst, eNew, eM, eAnd, eOr, eNot, eIf, eCh, asB, bAnd, bOr, bNot, bY, gN, gsN, gsC, gT, iL, iT, iS, iR1, iZp, iEn, sdF, oN, oS, eSl, R.bind, e', hs_ix0, a, i1, i2, n21, mulF, addF, intF, modF, fdivF, hm]
  · have hx : 0 ≤ x := hy x (by simp)
    have a := hs_ne (zs ++ [x]) st T
    have p := hs_pop zs x st T
    have q := hs_app zs (x / m) st T (by simp at hyl; have := line_big; omega)
    refine ⟨x % m, zs ++ [x / m], st, ?_, Int.emod_nonneg _ (by omega), Int.emod_lt_of_pos _ hm, fun y hy' => ?_, by simp at hyl ⊢; omega⟩
    · have ne : (zs ++ [x]).isEmpty = false := by simp
      rw [ne] at a
      simp [fnF0, fnF, sNil, sSeq, sEx, sRet, sRetN, sBrk, sCnt, sIf, sAsg, sPar, sFor, sSub, setF, eV, eC, DL.e1, DL.e2, eL, aN, aC, eCall, eTup, eLst, eNew, eM, eAnd, eOr, eNot, eIf, eCh, asB, bAnd, bOr, bNot, bY, gN, gsN, gsC, gT, iL, iT, iS, iR1, iZp, iEn, sdF, oN, oS, eSl, R.bind, e', hs_ix0, a, hs_tag, p, q, fdivF, intF, modF, hm, hm2]
    · rcases List.mem_append.mp hy' with h | h
      · exact hy y (by simp [h])
      · simp at h; subst h; exact Int.ediv_nonneg hx (by omega)
theorem pick_eq {ds : List D} (h1 : 1 ≤ ds.length) (h2 : ds.length ≤ 1000) {xs : List Int} (hl : xs.length ≤ 100) (hn : Nn xs) (st : Int) (T : Store) :
    ∃ d ys st', d ∈ ds ∧ F__law_pick [.hd 1, .lst ds] (HS xs st T) = .ok d (HS ys st' T) ∧ Nn ys ∧ ys.length ≤ 100 := by
  obtain ⟨k, ys, st', e, k0, k1, hy, hyl⟩ := draw_eq (m := (ds.length : Int)) (by omega) (by omega) hl hn st T
  obtain ⟨n, rfl⟩ := Int.eq_ofNat_of_zero_le k0
  have hlt : n < ds.length := by omega
  refine ⟨ds[n], ys, st', List.getElem_mem hlt, ?_, hy, hyl⟩
  have i : atI ds (n : Int) = some ds[n] := by rw [atI_nat, List.getElem?_eq_getElem hlt]
  unfold F__law_pick
  simp [fnF0, fnF, sNil, sSeq, sEx, sRet, sRetN, sBrk, sCnt, sIf, sAsg, sPar, sFor, sSub, setF, eV, eC, DL.e1, DL.e2, eL, aN, aC, eCall, eTup, eLst, eNew, eM, eAnd, eOr, eNot, eIf, eCh, asB, bAnd, bOr, bNot, bY, gN, gsN, gsC, gT, iL, iT, iS, iR1, iZp, iEn, sdF, oN, oS, eSl, R.bind, lenF, seqF, e, ixF, i]
/-- the heap as the script lays it -/
theorem heap_eq (ns : List Int) : ∃ xs st, F__law_heap [.rol (ns.map .int)] [] = .ok (.hd 1) (HS xs st []) ∧ Nn xs ∧ xs.length ≤ 100 := by
  have e0 := eLc_map (fa := iL (eSl (eV 0) oN (oS (eC (.int 60))))) (b := gN 3) (fe := E__law_heap_0) (vs := [3]) (ρ := [some (.rol (ns.map .int)), none, none, none]) (S := []) (g := fun d => match d with | .int c => .int (2 * (if c < 0 then -c else c) + if c < 0 then 1 else 0) | d => d) (ds := (ns.take 60).map .int)
    (by
      have := cut_to (ns.map D.int) 60
      simp [fnF0, fnF, sNil, sSeq, sEx, sRet, sRetN, sBrk, sCnt, sIf, sAsg, sPar, sFor, sSub, setF, eV, eC, DL.e1, DL.e2, eL, aN, aC, eCall, eTup, eLst, eNew, eM, eAnd, eOr, eNot, eIf, eCh, asB, bAnd, bOr, bNot, bY, gN, gsN, gsC, gT, iL, iT, iS, iR1, iZp, iEn, sdF, oN, oS, eSl, R.bind, oS, slF, rlF] at this ⊢
      rw [this])
    (fun d hd => by
      obtain ⟨c, _, rfl⟩ := List.mem_map.mp hd
      refine ⟨[some (.rol (ns.map .int)), none, none, some (.int c)], rfl, ?_⟩
      by_cases hc : c < 0 <;> simp [E__law_heap_0, fnF0, fnF, sNil, sSeq, sEx, sRet, sRetN, sBrk, sCnt, sIf, sAsg, sPar, sFor, sSub, setF, eV, eC, DL.e1, DL.e2, eL, aN, aC, eCall, eTup, eLst, eNew, eM, eAnd, eOr, eNot, eIf, eCh, asB, bAnd, bOr, bNot, bY, gN, gsN, gsC, gT, iL, iT, iS, iR1, iZp, iEn, sdF, oN, oS, eSl, R.bind, mulF, absF, addF, cmF, intF, hc]) (by simp; omega)
  have hm : ((ns.take 60).map D.int).map (fun d => match d with | .int c => .int (2 * (if c < 0 then -c else c) + if c < 0 then 1 else 0) | d => d) = ((ns.take 60).map fun c => 2 * (if c < 0 then -c else c) + if c < 0 then 1 else 0).map D.int := by
    rw [List.map_map, List.map_map]; rfl
  rw [hm] at e0
  generalize hcs : ((ns.take 60).map fun c => 2 * (if c < 0 then -c else c) + if c < 0 then 1 else 0) = cs at e0
  have hcn : Nn cs := by
    subst hcs
    intro x hx
    obtain ⟨c, _, rfl⟩ := List.mem_map.mp hx
    split <;> omega
  have hcl : cs.length ≤ 60 := by subst hcs; simp; omega
  have loop : ∀ (l : List Int) (st : Int) (a : D) (z : Option D), ∃ st' z', forGo (gN 3) B__law_heap_1 (l.map .int) [some a, some (.lst (cs.map .int)), some (.int st), z] [] = .ok (.nx, [some a, some (.lst (cs.map .int)), some (.int st'), z']) [] := by
    intro l
    induction l with
    | nil => intro st a z; exact ⟨st, z, rfl⟩
    | cons c l ih =>
      intro st a z
      obtain ⟨st', z', e⟩ := ih ((st * 69621 + c % 2147483563 + 29) % 2147483647) a (some (.int c))
      refine ⟨st', z', ?_⟩
      rw [List.map_cons]
      unfold forGo
      simp [B__law_heap_1, fnF0, fnF, sNil, sSeq, sEx, sRet, sRetN, sBrk, sCnt, sIf, sAsg, sPar, sFor, sSub, setF, eV, eC, DL.e1, DL.e2, eL, aN, aC, eCall, eTup, eLst, eNew, eM, eAnd, eOr, eNot, eIf, eCh, asB, bAnd, bOr, bNot, bY, gN, gsN, gsC, gT, iL, iT, iS, iR1, iZp, iEn, sdF, oN, oS, eSl, R.bind, mulF, addF, intF, modF] at e ⊢
      exact e
  obtain ⟨st, z, e1'⟩ := loop cs 72101 (.rol (ns.map .int)) none
  have e2' := eLc_filter (fa := iL (eV 1)) (b := gN 3) (ft := T__law_heap_3) (fe := E__law_heap_2) (vs := [3]) (ρ := [some (.rol (ns.map .int)), some (.lst (cs.map .int)), some (.int st), z]) (S := []) (g := id) (t := fun d => match d with | .int c => decide (10 ^ 18 ≤ c) | _ => false) (ds := cs.map .int) (by simp [fnF0, fnF, sNil, sSeq, sEx, sRet, sRetN, sBrk, sCnt, sIf, sAsg, sPar, sFor, sSub, setF, eV, eC, DL.e1, DL.e2, eL, aN, aC, eCall, eTup, eLst, eNew, eM, eAnd, eOr, eNot, eIf, eCh, asB, bAnd, bOr, bNot, bY, gN, gsN, gsC, gT, iL, iT, iS, iR1, iZp, iEn, sdF, oN, oS, eSl, R.bind])
    (fun d hd => by
      obtain ⟨c, _, rfl⟩ := List.mem_map.mp hd
      refine ⟨[some (.rol (ns.map .int)), some (.lst (cs.map .int)), some (.int st), some (.int c)], rfl, ?_, rfl⟩
      simp [T__law_heap_3, fnF0, fnF, sNil, sSeq, sEx, sRet, sRetN, sBrk, sCnt, sIf, sAsg, sPar, sFor, sSub, setF, eV, eC, DL.e1, DL.e2, eL, aN, aC, eCall, eTup, eLst, eNew, eM, eAnd, eOr, eNot, eIf, eCh, asB, bAnd, bOr, bNot, bY, gN, gsN, gsC, gT, iL, iT, iS, iR1, iZp, iEn, sdF, oN, oS, eSl, R.bind, cmF, powF]) (by simp; omega)
  have hf : ((cs.map D.int).filter (fun d => match d with | .int c => decide (10 ^ 18 ≤ c) | _ => false)).map id = (cs.filter fun c => decide (10 ^ 18 ≤ c)).map D.int := by
    rw [List.map_id, List.filter_map]; rfl
  rw [hf] at e2'
  refine ⟨(cs.filter fun c => decide (10 ^ 18 ≤ c)).reverse, st, ?_, fun x hx => ?_, ?_⟩
  · unfold F__law_heap
    simp only [fnF0, fnF, sNil, sSeq, sEx, sRet, sRetN, sBrk, sCnt, sIf, sAsg, sPar, sFor, sSub, setF, eV, eC, DL.e1, DL.e2, eL, aN, aC, eCall, eTup, eLst, eNew, eM, eAnd, eOr, eNot, eIf, eCh, asB, bAnd, bOr, bNot, bY, gN, gsN, gsC, gT, iL, iT, iS, iR1, iZp, iEn, sdF, oN, oS, eSl, R.bind, List.map_cons, List.map_nil, List.replicate, List.cons_append, List.nil_append, List.length_cons, List.length_nil] at e0 e1' e2' ⊢
    rw [e0]
    simp only [List.set_cons_succ, List.set_cons_zero, List.getElem?_cons_succ, List.getElem?_cons_zero, e1', e2']
    simp [revNF, rlF, lsF]
  · exact hcn x (List.mem_filter.mp (List.mem_reverse.mp hx)).1
  · have := List.length_filter_le (fun c => decide (10 ^ 18 ≤ c)) cs
    rw [List.length_reverse]; omega
end P64
end
section
set_option maxRecDepth 100000
set_option maxHeartbeats 8000000
set_option autoImplicit false
set_option linter.all false
namespace P64
open PySem L2 DL
/-! ### the drawn commands -/
structure HO (xs : List Int) : Prop where
  n : Nn xs
  l : xs.length ≤ 100
theorem pickH {ds : List D} (h1 : 1 ≤ ds.length) (h2 : ds.length ≤ 1000) {xs : List Int} (h : HO xs) (st : Int) (T : Store) : ∃ d ys st', d ∈ ds ∧ F__law_pick [.hd 1, .lst ds] (HS xs st T) = .ok d (HS ys st' T) ∧ HO ys := by
  obtain ⟨d, ys, st', a, b, c, e⟩ := pick_eq h1 h2 h.l h.n st T
  exact ⟨d, ys, st', a, b, ⟨c, e⟩⟩
theorem drawH {m : Int} (hm : 0 < m) (hm2 : m < 1073741824) {xs : List Int} (h : HO xs) (st : Int) (T : Store) : ∃ k ys st', F__law_draw [.hd 1, .int m] (HS xs st T) = .ok (.int k) (HS ys st' T) ∧ 0 ≤ k ∧ k < m ∧ HO ys := by
  obtain ⟨k, ys, st', a, b, c, d, e⟩ := draw_eq hm hm2 h.l h.n st T
  exact ⟨k, ys, st', a, b, c, ⟨d, e⟩⟩
theorem lcGo_st {b : D → Rho → Option Rho} {fe : EF} {ρ : Rho} {T : Store} (P : D → Prop) : ∀ (ds : List D), (∀ d ∈ ds, ∀ xs st, HO xs → ∃ ρ', b d ρ = some ρ' ∧ ∃ y ys st', fe ρ' (HS xs st T) = .ok y (HS ys st' T) ∧ HO ys ∧ P y) →
    ∀ xs st, HO xs → ∃ zs ys st', lcGo b bY fe ρ ds (HS xs st T) = .ok zs (HS ys st' T) ∧ HO ys ∧ zs.length = ds.length ∧ ∀ z ∈ zs, P z
  | [], _, xs, st, h => ⟨[], xs, st, rfl, h, rfl, fun _ hz => by cases hz⟩
  | d :: ds, hd, xs, st, h => by
    obtain ⟨ρ', e1', y, ys, st1, e2', h1, p1⟩ := hd d List.mem_cons_self xs st h
    obtain ⟨zs, ws, st2, e3, h2, l2, p2⟩ := lcGo_st P ds (fun e he => hd e (List.mem_cons_of_mem _ he)) ys st1 h1
    refine ⟨y :: zs, ws, st2, ?_, h2, by simp [l2], fun z hz => ?_⟩
    · unfold lcGo
      rw [e1']
      simp only [bY, R.bind, if_true, e2', e3]
    · rcases List.mem_cons.mp hz with rfl | hz
      · exact p1
      · exact p2 z hz
abbrev NM : List D := [.str "level", .str "b", .str "zz", .str "abcdef"]
structure Atm (d : D) : Prop where
  ok : okF d = true
  w : wt d ≤ 50
  z : dp d = 0
theorem atm_int {i : Int} (h : i.natAbs < 10 ^ 12) : Atm (.int i) := ⟨by simp only [okF]; exact decide_eq_true h, Nat.le_refl _, rfl⟩
theorem atm_str {x : Str} (h : PyData.strOk x = true) (h2 : x.length ≤ 50) : Atm (.str x) := ⟨h, h2, rfl⟩
theorem nm_ok : ∀ n ∈ NM, nameB n = true ∧ Atm n := by
  intro n hn
  simp only [NM, List.mem_cons, List.not_mem_nil, or_false] at hn
  rcases hn with rfl | rfl | rfl | rfl <;> exact ⟨by decide +kernel, atm_str (by decide +kernel) (by decide +kernel)⟩
structure Prs (d : D) : Prop where
  p : pairB d = true
  ok : okF d = true
  w : wt d ≤ 110
  z : dp d ≤ 1
structure Cmd (d : D) : Prop where
  c : cmdB d = true
  ok : okF d = true
  w : wt d ≤ 2000
  z : dp d ≤ 3
  ln : ∃ w ps, d = .tup (.str w :: ps) ∧ ps.length ≤ 5 ∧ ∀ p ∈ ps, ∀ qs, p = .tup qs → qs.length ≤ 3
theorem pow6n : (10 : Int) ^ (6 : Nat) = 1000000 := by decide
theorem pair_elt {xs : List Int} (h : HO xs) (st : Int) (T : Store) (r1 r2 r4 r5 r6 r7 : Option D) (c : Option D) : ∃ y ys st', E__law_command_0 [some (.hd 1), r1, r2, some (.lst NM), r4, r5, r6, r7, c] (HS xs st T) = .ok y (HS ys st' T) ∧ HO ys ∧ Prs y := by
  obtain ⟨n, y1, s1, hn, p1, h1⟩ := pickH (ds := NM) (by decide) (by decide) h st T
  obtain ⟨v, y2, s2, hv, p2, h2⟩ := pickH (ds := [.int 0, .int 5, .int (-7), .int 1000000, .int (-1000000)]) (by simp) (by simp) h1 s1 T
  refine ⟨.tup [n, v], y2, s2, ?_, h2, ?_⟩
  · simp [E__law_command_0, fnF0, fnF, sNil, sSeq, sEx, sRet, sRetN, sBrk, sCnt, sIf, sAsg, sPar, sFor, sSub, setF, eV, eC, DL.e1, DL.e2, eL, aN, aC, eCall, eTup, eLst, eNew, eM, eAnd, eOr, eNot, eIf, eCh, asB, bAnd, bOr, bNot, bY, gN, gsN, gsC, gT, iL, iT, iS, iR1, iZp, iEn, sdF, oN, oS, eSl, R.bind, p1, p2, subF, powF, pow6n]
  · obtain ⟨n1, n2⟩ := nm_ok n hn
    have hv' : wholeB (-1000000) 1000000 v = true ∧ Atm v := by
      simp only [List.mem_cons, List.not_mem_nil, or_false] at hv
      rcases hv with rfl | rfl | rfl | rfl | rfl <;> exact ⟨by decide, atm_int (by decide)⟩
    refine ⟨by simp [pairB, n1, hv'.1], by simp [okF, okFs, n2.ok, hv'.2.ok], ?_, ?_⟩
    · have := n2.w; have := hv'.2.w; simp [wt, wts]; omega
    · simp [dp, dps, n2.z, hv'.2.z]
theorem prs_tup {zs : List D} (h : ∀ z ∈ zs, Prs z) (hl : zs.length ≤ 3) : pairsB (.tup zs) = true ∧ okF (.tup zs) = true ∧ wt (.tup zs) ≤ 333 ∧ dp (.tup zs) ≤ 2 := by
  refine ⟨List.all_eq_true.mpr fun z hz => (h z hz).p, okFs_of fun z hz => (h z hz).ok, ?_, ?_⟩
  · have key : ∀ l : List D, (∀ z ∈ l, Prs z) → wts l ≤ 111 * l.length := by
      intro l
      induction l with
      | nil => intro _; simp [wts]
      | cons a l ih =>
        intro hl
        have := ih fun z hz => hl z (List.mem_cons_of_mem _ hz)
        have := (hl a List.mem_cons_self).w
        simp [wts]; omega
    have := key zs h
    simp [wt]; omega
  · have := dps_le (ds := zs) (n := 1) fun z hz => (h z hz).z
    simp [dp]; omega
structure Prt (p : D) : Prop where
  ok : okF p = true
  w : wt p ≤ 333
  z : dp p ≤ 2
  l : ∀ qs, p = .tup qs → qs.length ≤ 3
theorem Atm.prt {d : D} (h : Atm d) : Prt d := ⟨h.ok, Nat.le_trans h.w (by decide), by rw [h.z]; decide, fun qs e => by have := h.z; rw [e] at this; simp [dp] at this⟩
theorem mk_cmd {w : Str} {ks : List Kd} {ps : List D} (hk : kindsOf w = some ks) (ha : allK ks ps = true) (hw : PyData.strOk w = true) (hwl : w.length ≤ 10) (h : ∀ p ∈ ps, Prt p) (hl : ps.length ≤ 5) : Cmd (.tup (.str w :: ps)) := by
  refine ⟨by simp [cmdB, hk, ha], ?_, ?_, ?_, w, ps, rfl, hl, fun p hp => (h p hp).l⟩
  · have : okFs ps = true := okFs_of fun p hp => (h p hp).ok
    have hw' : okF (.str w) = true := hw
    simp [okF, okFs, this] at hw' ⊢
    exact hw'
  · have key : ∀ l : List D, (∀ z ∈ l, Prt z) → wts l ≤ 334 * l.length := by
      intro l
      induction l with
      | nil => intro _; simp [wts]
      | cons a l ih =>
        intro hl
        have := ih fun z hz => hl z (List.mem_cons_of_mem _ hz)
        have := (hl a List.mem_cons_self).w
        simp [wts]; omega
    have := key ps h
    simp [wt, wts]; omega
  · have := dps_le (ds := ps) (n := 2) fun z hz => (h z hz).z
    simp [dp, dps]; omega
theorem points_eq {xs : List Int} (h : HO xs) (st : Int) (T : Store) (w mv nb pz : D) : ∃ gs ys st', eLc (iR1 (aC (eC (.int 2)) aN)) (gN 8) bY E__law_command_1 [8] [some (.hd 1), some (.lst [.str "level", .str "b"]), some w, some (.lst NM), some mv, some nb, some pz, none, none] (HS xs st T) = .ok (.lst gs) (HS ys st' T) ∧ HO ys ∧ gs.length = 2 ∧ ∀ g ∈ gs, kB .point g = true ∧ Atm g := by
  obtain ⟨zs, ys, st', e, h', l, p⟩ := lcGo_st (b := gN 8) (fe := E__law_command_1) (ρ := [some (.hd 1), some (.lst [.str "level", .str "b"]), some w, some (.lst NM), some mv, some nb, some pz, none, none]) (T := T) (fun g => kB .point g = true ∧ Atm g) [.int 0, .int 1]
    (fun d _ xs st h => ⟨_, rfl, by
      obtain ⟨n, y1, s1, hn, p1, h1⟩ := pickH (ds := [.str "level", .str "b", .str "zz", .str "abcdef", .str "0"]) (by simp) (by simp) h st T
      refine ⟨n, y1, s1, ?_, h1, ?_⟩
      · simp [E__law_command_1, fnF0, fnF, sNil, sSeq, sEx, sRet, sRetN, sBrk, sCnt, sIf, sAsg, sPar, sFor, sSub, setF, eV, eC, DL.e1, DL.e2, eL, aN, aC, eCall, eTup, eLst, eNew, eM, eAnd, eOr, eNot, eIf, eCh, asB, bAnd, bOr, bNot, bY, gN, gsN, gsC, gT, iL, iT, iS, iR1, iZp, iEn, sdF, oN, oS, eSl, R.bind, addF, lsF, sizeLine, p1]
      · simp only [List.mem_cons, List.not_mem_nil, or_false] at hn
        rcases hn with rfl | rfl | rfl | rfl | rfl <;> exact ⟨by decide +kernel, atm_str (by decide +kernel) (by decide +kernel)⟩⟩) xs st h
  refine ⟨zs, ys, st', ?_, h', l, p⟩
  have hf : iR1 (aC (eC (.int 2)) aN) [some (.hd 1), some (.lst [.str "level", .str "b"]), some w, some (.lst NM), some mv, some nb, some pz, none, none] (HS xs st T) = .ok [.int 0, .int 1] (HS xs st T) := rfl
  unfold eLc
  rw [hf]
  have hw : wipeR [some (.hd 1), some (.lst [.str "level", .str "b"]), some w, some (.lst NM), some mv, some nb, some pz, none, none] [8] = [some (.hd 1), some (.lst [.str "level", .str "b"]), some w, some (.lst NM), some mv, some nb, some pz, none, none] := rfl
  simp only [R.bind]
  rw [hw, e]
  simp
theorem command_eq {xs : List Int} (h : HO xs) (st : Int) (T : Store) : ∃ d ys st', F__law_command [.hd 1, .lst [.str "level", .str "b"]] (HS xs st T) = .ok d (HS ys st' T) ∧ HO ys ∧ Cmd d := by
  obtain ⟨w, y1, s1, hw, p1, h1⟩ := pickH (ds := [.str "come", .str "wish", .str "rule", .str "ease", .str "add", .str "bar", .str "state", .str "quantity", .str "leave", .str "now", .str "may", .str "bear", .str "range", .str "hold"]) (by simp) (by simp) h st T
  obtain ⟨mv, y2, s2, hmv, p2, h2⟩ := pickH (ds := [.int 0, .int 1, .int 39, .int 2]) (by simp) (by simp) h1 s1 T
  obtain ⟨nb, y3, s3, hnb, p3, h3⟩ := pickH (ds := [.int 0, .int 29, .int 1]) (by simp) (by simp) h2 s2 T
  obtain ⟨ct, y4, s4, hct, p4, h4⟩ := pickH (ds := [.int 1, .int 0, .int 2, .int 3]) (by simp) (by simp) h3 s3 T
  obtain ⟨j, hj, rfl⟩ : ∃ j : Nat, j ≤ 3 ∧ ct = .int (j : Int) := by
    simp only [List.mem_cons, List.not_mem_nil, or_false] at hct
    rcases hct with rfl | rfl | rfl | rfl
    · exact ⟨1, by decide, rfl⟩
    · exact ⟨0, by decide, rfl⟩
    · exact ⟨2, by decide, rfl⟩
    · exact ⟨3, by decide, rfl⟩
  obtain ⟨zs, y5, s5, p5, h5, hzl, hz⟩ := lcGo_st (b := gN 8) (fe := E__law_command_0) (ρ := [some (.hd 1), some (.lst [.str "level", .str "b"]), some w, some (.lst NM), some mv, some nb, none, none, none]) (T := T) Prs ((List.range j).map fun (i : Nat) => .int ((0 : Int) + (i : Int)))
    (fun d _ xs st h => ⟨_, rfl, pair_elt h st T _ _ _ _ _ _ (some d)⟩) y4 s4 h4
  have hzl' : zs.length ≤ 3 := by rw [hzl]; simpa using hj
  obtain ⟨z1, z2, z3, z4⟩ := prs_tup hz hzl'
  have hmv' : wholeB 0 39 mv = true ∧ Atm mv := by
    simp only [List.mem_cons, List.not_mem_nil, or_false] at hmv
    rcases hmv with rfl | rfl | rfl | rfl <;> exact ⟨by decide, atm_int (by decide)⟩
  have hnb' : wholeB 0 29 nb = true ∧ Atm nb := by
    simp only [List.mem_cons, List.not_mem_nil, or_false] at hnb
    rcases hnb with rfl | rfl | rfl <;> exact ⟨by decide, atm_int (by decide)⟩
  have hj1 : (j : Int) < 2 ^ 30 ∧ -(2 ^ 30) < (j : Int) := by omega
  have p5' : eLc (iR1 (aC (eCall F__law_pick 2 (aC (eV 0) (aC (eLst (aC (eC (.int 1)) (aC (eC (.int 0)) (aC (eC (.int 2)) (aC (eC (.int 3)) aN))))) aN))) aN)) (gN 8) bY E__law_command_0 [8] [some (.hd 1), some (.lst [.str "level", .str "b"]), some w, some (.lst NM), some mv, some nb, none, none, none] (HS y3 s3 T) = .ok (.lst zs) (HS y5 s5 T) := by
    have hf : (iR1 (aC (eCall F__law_pick 2 (aC (eV 0) (aC (eLst (aC (eC (.int 1)) (aC (eC (.int 0)) (aC (eC (.int 2)) (aC (eC (.int 3)) aN))))) aN))) aN)) [some (.hd 1), some (.lst [.str "level", .str "b"]), some w, some (.lst NM), some mv, some nb, none, none, none] (HS y3 s3 T) = .ok ((List.range j).map fun (i : Nat) => .int ((0 : Int) + (i : Int))) (HS y4 s4 T) := by
      simp [fnF0, fnF, sNil, sSeq, sEx, sRet, sRetN, sBrk, sCnt, sIf, sAsg, sPar, sFor, sSub, setF, eV, eC, DL.e1, DL.e2, eL, aN, aC, eCall, eTup, eLst, eNew, eM, eAnd, eOr, eNot, eIf, eCh, asB, bAnd, bOr, bNot, bY, gN, gsN, gsC, gT, iL, iT, iS, iR1, iZp, iEn, sdF, oN, oS, eSl, R.bind, p4, hj1]
      omega
    unfold eLc
    rw [hf]
    have hw : wipeR [some (.hd 1), some (.lst [.str "level", .str "b"]), some w, some (.lst NM), some mv, some nb, none, none, none] [8] = [some (.hd 1), some (.lst [.str "level", .str "b"]), some w, some (.lst NM), some mv, some nb, none, none, none] := rfl
    simp only [R.bind]
    rw [hw, p5]
    simp
    omega
  have zp : Prt (.tup zs) := ⟨z2, z3, z4, fun qs e => by cases e; exact hzl'⟩
  simp only [List.mem_cons, List.not_mem_nil, or_false] at hw
  rcases hw with rfl | rfl | rfl | rfl | rfl | rfl | rfl | rfl | rfl | rfl | rfl | rfl | rfl | rfl
  · -- come
    have i1 : ∀ S, inF false (.str "come") (.lst [.str "come", .str "bar", .str "range"]) S = .ok (.bl true) S := fun _ => rfl
    have i2 : ∀ S, inF false (.str "come") (.lst [.str "wish", .str "may", .str "hold"]) S = .ok (.bl false) S := fun _ => rfl
    have i3 : ∀ S, inF false (.str "come") (.lst [.str "rule", .str "bear"]) S = .ok (.bl false) S := fun _ => rfl
    have q0 : ∀ S, eqF false (.str "come") (.str "ease") S = .ok (.bl false) S := fun S => (eqF_str (by decide +kernel) (by decide +kernel)).trans rfl
    have q1 : ∀ S, eqF false (.str "come") (.str "add") S = .ok (.bl false) S := fun S => (eqF_str (by decide +kernel) (by decide +kernel)).trans rfl
    have q2 : ∀ S, eqF false (.str "come") (.str "quantity") S = .ok (.bl false) S := fun S => (eqF_str (by decide +kernel) (by decide +kernel)).trans rfl
    have q3 : ∀ S, eqF false (.str "come") (.str "now") S = .ok (.bl false) S := fun S => (eqF_str (by decide +kernel) (by decide +kernel)).trans rfl
    have q9 : ∀ S, eqF true (.str "come") (.str "hold") S = .ok (.bl true) S := fun S => (eqF_str (by decide +kernel) (by decide +kernel)).trans rfl
    refine ⟨.tup [.str "come", mv], y5, s5, ?_, h5, mk_cmd (w := "come") (ks := [.move]) (ps := [mv]) rfl ?_ (by decide +kernel) (by decide +kernel) (fun p hp => ?_) (by simp)⟩
    · unfold F__law_command
      simp [fnF0, fnF, sNil, sSeq, sEx, sRet, sRetN, sBrk, sCnt, sIf, sAsg, sPar, sFor, sSub, setF, eV, eC, DL.e1, DL.e2, eL, aN, aC, eCall, eTup, eLst, eNew, eM, eAnd, eOr, eNot, eIf, eCh, asB, bAnd, bOr, bNot, bY, gN, gsN, gsC, gT, iL, iT, iS, iR1, iZp, iEn, sdF, oN, oS, eSl, R.bind, lisF, seqF, addF, lsF, tupF, sizeLine, subF, powF, pow6n, p1, p2, p3, p5', i1, i2, i3, q0, q1, q2, q3, q9]
    · simp [allK, kB, hmv'.1]
    · simp only [List.mem_cons, List.not_mem_nil, or_false] at hp
      subst hp; exact hmv'.2.prt
  · -- wish
    have i1 : ∀ S, inF false (.str "wish") (.lst [.str "come", .str "bar", .str "range"]) S = .ok (.bl false) S := fun _ => rfl
    have i2 : ∀ S, inF false (.str "wish") (.lst [.str "wish", .str "may", .str "hold"]) S = .ok (.bl true) S := fun _ => rfl
    have i3 : ∀ S, inF false (.str "wish") (.lst [.str "rule", .str "bear"]) S = .ok (.bl false) S := fun _ => rfl
    have q0 : ∀ S, eqF false (.str "wish") (.str "ease") S = .ok (.bl false) S := fun S => (eqF_str (by decide +kernel) (by decide +kernel)).trans rfl
    have q1 : ∀ S, eqF false (.str "wish") (.str "add") S = .ok (.bl false) S := fun S => (eqF_str (by decide +kernel) (by decide +kernel)).trans rfl
    have q2 : ∀ S, eqF false (.str "wish") (.str "quantity") S = .ok (.bl false) S := fun S => (eqF_str (by decide +kernel) (by decide +kernel)).trans rfl
    have q3 : ∀ S, eqF false (.str "wish") (.str "now") S = .ok (.bl false) S := fun S => (eqF_str (by decide +kernel) (by decide +kernel)).trans rfl
    have q9 : ∀ S, eqF true (.str "wish") (.str "hold") S = .ok (.bl true) S := fun S => (eqF_str (by decide +kernel) (by decide +kernel)).trans rfl
    refine ⟨.tup [.str "wish", mv, .tup zs], y5, s5, ?_, h5, mk_cmd (w := "wish") (ks := [.move, .pairs]) (ps := [mv, .tup zs]) rfl ?_ (by decide +kernel) (by decide +kernel) (fun p hp => ?_) (by simp)⟩
    · unfold F__law_command
      simp [fnF0, fnF, sNil, sSeq, sEx, sRet, sRetN, sBrk, sCnt, sIf, sAsg, sPar, sFor, sSub, setF, eV, eC, DL.e1, DL.e2, eL, aN, aC, eCall, eTup, eLst, eNew, eM, eAnd, eOr, eNot, eIf, eCh, asB, bAnd, bOr, bNot, bY, gN, gsN, gsC, gT, iL, iT, iS, iR1, iZp, iEn, sdF, oN, oS, eSl, R.bind, lisF, seqF, addF, lsF, tupF, sizeLine, subF, powF, pow6n, p1, p2, p3, p5', i1, i2, i3, q0, q1, q2, q3, q9]
    · simp [allK, kB, hmv'.1, z1]
    · simp only [List.mem_cons, List.not_mem_nil, or_false] at hp
      rcases hp with rfl | rfl
      · exact hmv'.2.prt
      · exact zp
  · -- rule
    have i1 : ∀ S, inF false (.str "rule") (.lst [.str "come", .str "bar", .str "range"]) S = .ok (.bl false) S := fun _ => rfl
    have i2 : ∀ S, inF false (.str "rule") (.lst [.str "wish", .str "may", .str "hold"]) S = .ok (.bl false) S := fun _ => rfl
    have i3 : ∀ S, inF false (.str "rule") (.lst [.str "rule", .str "bear"]) S = .ok (.bl true) S := fun _ => rfl
    have q0 : ∀ S, eqF false (.str "rule") (.str "ease") S = .ok (.bl false) S := fun S => (eqF_str (by decide +kernel) (by decide +kernel)).trans rfl
    have q1 : ∀ S, eqF false (.str "rule") (.str "add") S = .ok (.bl false) S := fun S => (eqF_str (by decide +kernel) (by decide +kernel)).trans rfl
    have q2 : ∀ S, eqF false (.str "rule") (.str "quantity") S = .ok (.bl false) S := fun S => (eqF_str (by decide +kernel) (by decide +kernel)).trans rfl
    have q3 : ∀ S, eqF false (.str "rule") (.str "now") S = .ok (.bl false) S := fun S => (eqF_str (by decide +kernel) (by decide +kernel)).trans rfl
    have q9 : ∀ S, eqF true (.str "rule") (.str "hold") S = .ok (.bl true) S := fun S => (eqF_str (by decide +kernel) (by decide +kernel)).trans rfl
    obtain ⟨gs, y6, s6, p6, h6, hgl, hgs⟩ := points_eq h5 s5 T (.str "rule") mv nb (.tup zs)
    obtain ⟨g1, g2, rfl⟩ : ∃ g1 g2, gs = [g1, g2] := by
      match gs, hgl with
      | [g1, g2], _ => exact ⟨g1, g2, rfl⟩
    obtain ⟨n7, y7, s7, hm7, pp7, h7⟩ := pickH (ds := [.str "rise", .str "fall", .str "now"]) (by simp) (by simp) h6 s6 T
    obtain ⟨n8, y8, s8, hm8, pp8, h8⟩ := pickH (ds := [.int 0, .int 3, .int (-4), .int 1000, .int (-1000)]) (by simp) (by simp) h7 s7 T
    have v7 : kB .kind n7 = true ∧ Atm n7 := by
      simp only [List.mem_cons, List.not_mem_nil, or_false] at hm7
      rcases hm7 with rfl | rfl | rfl <;> exact ⟨rfl, atm_str (by decide +kernel) (by decide +kernel)⟩
    have v8 : wholeB (-1000) 1000 n8 = true ∧ Atm n8 := by
      simp only [List.mem_cons, List.not_mem_nil, or_false] at hm8
      rcases hm8 with rfl | rfl | rfl | rfl | rfl <;> exact ⟨by decide, atm_int (by decide)⟩
    have u1 := hgs g1 (by simp)
    have u2 := hgs g2 (by simp)
    have j0 : atI [g1, g2] 0 = some g1 := rfl
    have j1 : atI [g1, g2] 1 = some g2 := rfl
    refine ⟨.tup [.str "rule", mv, n7, g1, g2, n8], y8, s8, ?_, h8, mk_cmd (w := "rule") (ks := [.move, .kind, .point, .point, .weight]) (ps := [mv, n7, g1, g2, n8]) rfl ?_ (by decide +kernel) (by decide +kernel) (fun p hp => ?_) (by simp)⟩
    · unfold F__law_command
      simp [fnF0, fnF, sNil, sSeq, sEx, sRet, sRetN, sBrk, sCnt, sIf, sAsg, sPar, sFor, sSub, setF, eV, eC, DL.e1, DL.e2, eL, aN, aC, eCall, eTup, eLst, eNew, eM, eAnd, eOr, eNot, eIf, eCh, asB, bAnd, bOr, bNot, bY, gN, gsN, gsC, gT, iL, iT, iS, iR1, iZp, iEn, sdF, oN, oS, eSl, R.bind, lisF, seqF, addF, lsF, tupF, sizeLine, subF, powF, pow6n, p1, p2, p3, p5', i1, i2, i3, q0, q1, q2, q3, q9, pp7, pp8, p6, ixF, j0, j1]
    · simp [allK, hmv'.1, v7.1, u1.1, u2.1, v8.1]; simp [kB, hmv'.1, v7.1, u1.1, u2.1, v8.1]
    · simp only [List.mem_cons, List.not_mem_nil, or_false] at hp
      rcases hp with rfl | rfl | rfl | rfl | rfl
      · exact hmv'.2.prt
      · exact v7.2.prt
      · exact u1.2.prt
      · exact u2.2.prt
      · exact v8.2.prt
  · -- ease
    have i1 : ∀ S, inF false (.str "ease") (.lst [.str "come", .str "bar", .str "range"]) S = .ok (.bl false) S := fun _ => rfl
    have i2 : ∀ S, inF false (.str "ease") (.lst [.str "wish", .str "may", .str "hold"]) S = .ok (.bl false) S := fun _ => rfl
    have i3 : ∀ S, inF false (.str "ease") (.lst [.str "rule", .str "bear"]) S = .ok (.bl false) S := fun _ => rfl
    have q0 : ∀ S, eqF false (.str "ease") (.str "ease") S = .ok (.bl true) S := fun S => (eqF_str (by decide +kernel) (by decide +kernel)).trans rfl
    have q1 : ∀ S, eqF false (.str "ease") (.str "add") S = .ok (.bl false) S := fun S => (eqF_str (by decide +kernel) (by decide +kernel)).trans rfl
    have q2 : ∀ S, eqF false (.str "ease") (.str "quantity") S = .ok (.bl false) S := fun S => (eqF_str (by decide +kernel) (by decide +kernel)).trans rfl
    have q3 : ∀ S, eqF false (.str "ease") (.str "now") S = .ok (.bl false) S := fun S => (eqF_str (by decide +kernel) (by decide +kernel)).trans rfl
    have q9 : ∀ S, eqF true (.str "ease") (.str "hold") S = .ok (.bl true) S := fun S => (eqF_str (by decide +kernel) (by decide +kernel)).trans rfl
    refine ⟨.tup [.str "ease", mv, nb], y5, s5, ?_, h5, mk_cmd (w := "ease") (ks := [.move, .number]) (ps := [mv, nb]) rfl ?_ (by decide +kernel) (by decide +kernel) (fun p hp => ?_) (by simp)⟩
    · unfold F__law_command
      simp [fnF0, fnF, sNil, sSeq, sEx, sRet, sRetN, sBrk, sCnt, sIf, sAsg, sPar, sFor, sSub, setF, eV, eC, DL.e1, DL.e2, eL, aN, aC, eCall, eTup, eLst, eNew, eM, eAnd, eOr, eNot, eIf, eCh, asB, bAnd, bOr, bNot, bY, gN, gsN, gsC, gT, iL, iT, iS, iR1, iZp, iEn, sdF, oN, oS, eSl, R.bind, lisF, seqF, addF, lsF, tupF, sizeLine, subF, powF, pow6n, p1, p2, p3, p5', i1, i2, i3, q0, q1, q2, q3, q9]
    · simp [allK, kB, hmv'.1, hnb'.1]
    · simp only [List.mem_cons, List.not_mem_nil, or_false] at hp
      rcases hp with rfl | rfl
      · exact hmv'.2.prt
      · exact hnb'.2.prt
  · -- add
    have i1 : ∀ S, inF false (.str "add") (.lst [.str "come", .str "bar", .str "range"]) S = .ok (.bl false) S := fun _ => rfl
    have i2 : ∀ S, inF false (.str "add") (.lst [.str "wish", .str "may", .str "hold"]) S = .ok (.bl false) S := fun _ => rfl
    have i3 : ∀ S, inF false (.str "add") (.lst [.str "rule", .str "bear"]) S = .ok (.bl false) S := fun _ => rfl
    have q0 : ∀ S, eqF false (.str "add") (.str "ease") S = .ok (.bl false) S := fun S => (eqF_str (by decide +kernel) (by decide +kernel)).trans rfl
    have q1 : ∀ S, eqF false (.str "add") (.str "add") S = .ok (.bl true) S := fun S => (eqF_str (by decide +kernel) (by decide +kernel)).trans rfl
    have q2 : ∀ S, eqF false (.str "add") (.str "quantity") S = .ok (.bl false) S := fun S => (eqF_str (by decide +kernel) (by decide +kernel)).trans rfl
    have q3 : ∀ S, eqF false (.str "add") (.str "now") S = .ok (.bl false) S := fun S => (eqF_str (by decide +kernel) (by decide +kernel)).trans rfl
    have q9 : ∀ S, eqF true (.str "add") (.str "hold") S = .ok (.bl true) S := fun S => (eqF_str (by decide +kernel) (by decide +kernel)).trans rfl
    obtain ⟨n6, y6, s6, hm6, pp6, h6⟩ := pickH (ds := NM) (by simp) (by simp) h5 s5 T
    obtain ⟨a6, b6⟩ := nm_ok n6 hm6
    obtain ⟨n7, y7, s7, hm7, pp7, h7⟩ := pickH (ds := NM) (by simp) (by simp) h6 s6 T
    obtain ⟨a7, b7⟩ := nm_ok n7 hm7
    obtain ⟨n8, y8, s8, hm8, pp8, h8⟩ := pickH (ds := NM) (by simp) (by simp) h7 s7 T
    obtain ⟨a8, b8⟩ := nm_ok n8 hm8
    refine ⟨.tup [.str "add", n6, n7, n8], y8, s8, ?_, h8, mk_cmd (w := "add") (ks := [.name, .name, .name]) (ps := [n6, n7, n8]) rfl ?_ (by decide +kernel) (by decide +kernel) (fun p hp => ?_) (by simp)⟩
    · unfold F__law_command
      simp [fnF0, fnF, sNil, sSeq, sEx, sRet, sRetN, sBrk, sCnt, sIf, sAsg, sPar, sFor, sSub, setF, eV, eC, DL.e1, DL.e2, eL, aN, aC, eCall, eTup, eLst, eNew, eM, eAnd, eOr, eNot, eIf, eCh, asB, bAnd, bOr, bNot, bY, gN, gsN, gsC, gT, iL, iT, iS, iR1, iZp, iEn, sdF, oN, oS, eSl, R.bind, lisF, seqF, addF, lsF, tupF, sizeLine, subF, powF, pow6n, p1, p2, p3, p5', i1, i2, i3, q0, q1, q2, q3, q9, pp6, pp7, pp8]
    · simp [allK, kB, a6, a7, a8]
    · simp only [List.mem_cons, List.not_mem_nil, or_false] at hp
      rcases hp with rfl | rfl | rfl
      · exact b6.prt
      · exact b7.prt
      · exact b8.prt
  · -- bar
    have i1 : ∀ S, inF false (.str "bar") (.lst [.str "come", .str "bar", .str "range"]) S = .ok (.bl true) S := fun _ => rfl
    have i2 : ∀ S, inF false (.str "bar") (.lst [.str "wish", .str "may", .str "hold"]) S = .ok (.bl false) S := fun _ => rfl
    have i3 : ∀ S, inF false (.str "bar") (.lst [.str "rule", .str "bear"]) S = .ok (.bl false) S := fun _ => rfl
    have q0 : ∀ S, eqF false (.str "bar") (.str "ease") S = .ok (.bl false) S := fun S => (eqF_str (by decide +kernel) (by decide +kernel)).trans rfl
    have q1 : ∀ S, eqF false (.str "bar") (.str "add") S = .ok (.bl false) S := fun S => (eqF_str (by decide +kernel) (by decide +kernel)).trans rfl
    have q2 : ∀ S, eqF false (.str "bar") (.str "quantity") S = .ok (.bl false) S := fun S => (eqF_str (by decide +kernel) (by decide +kernel)).trans rfl
    have q3 : ∀ S, eqF false (.str "bar") (.str "now") S = .ok (.bl false) S := fun S => (eqF_str (by decide +kernel) (by decide +kernel)).trans rfl
    have q9 : ∀ S, eqF true (.str "bar") (.str "hold") S = .ok (.bl true) S := fun S => (eqF_str (by decide +kernel) (by decide +kernel)).trans rfl
    refine ⟨.tup [.str "bar", mv], y5, s5, ?_, h5, mk_cmd (w := "bar") (ks := [.move]) (ps := [mv]) rfl ?_ (by decide +kernel) (by decide +kernel) (fun p hp => ?_) (by simp)⟩
    · unfold F__law_command
      simp [fnF0, fnF, sNil, sSeq, sEx, sRet, sRetN, sBrk, sCnt, sIf, sAsg, sPar, sFor, sSub, setF, eV, eC, DL.e1, DL.e2, eL, aN, aC, eCall, eTup, eLst, eNew, eM, eAnd, eOr, eNot, eIf, eCh, asB, bAnd, bOr, bNot, bY, gN, gsN, gsC, gT, iL, iT, iS, iR1, iZp, iEn, sdF, oN, oS, eSl, R.bind, lisF, seqF, addF, lsF, tupF, sizeLine, subF, powF, pow6n, p1, p2, p3, p5', i1, i2, i3, q0, q1, q2, q3, q9]
    · simp [allK, kB, hmv'.1]
    · simp only [List.mem_cons, List.not_mem_nil, or_false] at hp
      subst hp; exact hmv'.2.prt
  · -- state
    have i1 : ∀ S, inF false (.str "state") (.lst [.str "come", .str "bar", .str "range"]) S = .ok (.bl false) S := fun _ => rfl
    have i2 : ∀ S, inF false (.str "state") (.lst [.str "wish", .str "may", .str "hold"]) S = .ok (.bl false) S := fun _ => rfl
    have i3 : ∀ S, inF false (.str "state") (.lst [.str "rule", .str "bear"]) S = .ok (.bl false) S := fun _ => rfl
    have q0 : ∀ S, eqF false (.str "state") (.str "ease") S = .ok (.bl false) S := fun S => (eqF_str (by decide +kernel) (by decide +kernel)).trans rfl
    have q1 : ∀ S, eqF false (.str "state") (.str "add") S = .ok (.bl false) S := fun S => (eqF_str (by decide +kernel) (by decide +kernel)).trans rfl
    have q2 : ∀ S, eqF false (.str "state") (.str "quantity") S = .ok (.bl false) S := fun S => (eqF_str (by decide +kernel) (by decide +kernel)).trans rfl
    have q3 : ∀ S, eqF false (.str "state") (.str "now") S = .ok (.bl false) S := fun S => (eqF_str (by decide +kernel) (by decide +kernel)).trans rfl
    have q9 : ∀ S, eqF true (.str "state") (.str "hold") S = .ok (.bl true) S := fun S => (eqF_str (by decide +kernel) (by decide +kernel)).trans rfl
    obtain ⟨n1, y6, s6, hm6, pp6, h6⟩ := pickH (ds := NM) (by simp) (by simp) h5 s5 T
    obtain ⟨a6, b6⟩ := nm_ok n1 hm6
    refine ⟨.tup [.str "state", n1], y6, s6, ?_, h6, mk_cmd (w := "state") (ks := [.name]) (ps := [n1]) rfl ?_ (by decide +kernel) (by decide +kernel) (fun p hp => ?_) (by simp)⟩
    · unfold F__law_command
      simp [fnF0, fnF, sNil, sSeq, sEx, sRet, sRetN, sBrk, sCnt, sIf, sAsg, sPar, sFor, sSub, setF, eV, eC, DL.e1, DL.e2, eL, aN, aC, eCall, eTup, eLst, eNew, eM, eAnd, eOr, eNot, eIf, eCh, asB, bAnd, bOr, bNot, bY, gN, gsN, gsC, gT, iL, iT, iS, iR1, iZp, iEn, sdF, oN, oS, eSl, R.bind, lisF, seqF, addF, lsF, tupF, sizeLine, subF, powF, pow6n, p1, p2, p3, p5', i1, i2, i3, q0, q1, q2, q3, q9, pp6]
    · simp [allK, kB, a6]
    · simp only [List.mem_cons, List.not_mem_nil, or_false] at hp
      subst hp; exact b6.prt
  · -- quantity
    have i1 : ∀ S, inF false (.str "quantity") (.lst [.str "come", .str "bar", .str "range"]) S = .ok (.bl false) S := fun _ => rfl
    have i2 : ∀ S, inF false (.str "quantity") (.lst [.str "wish", .str "may", .str "hold"]) S = .ok (.bl false) S := fun _ => rfl
    have i3 : ∀ S, inF false (.str "quantity") (.lst [.str "rule", .str "bear"]) S = .ok (.bl false) S := fun _ => rfl
    have q0 : ∀ S, eqF false (.str "quantity") (.str "ease") S = .ok (.bl false) S := fun S => (eqF_str (by decide +kernel) (by decide +kernel)).trans rfl
    have q1 : ∀ S, eqF false (.str "quantity") (.str "add") S = .ok (.bl false) S := fun S => (eqF_str (by decide +kernel) (by decide +kernel)).trans rfl
    have q2 : ∀ S, eqF false (.str "quantity") (.str "quantity") S = .ok (.bl true) S := fun S => (eqF_str (by decide +kernel) (by decide +kernel)).trans rfl
    have q3 : ∀ S, eqF false (.str "quantity") (.str "now") S = .ok (.bl false) S := fun S => (eqF_str (by decide +kernel) (by decide +kernel)).trans rfl
    have q9 : ∀ S, eqF true (.str "quantity") (.str "hold") S = .ok (.bl true) S := fun S => (eqF_str (by decide +kernel) (by decide +kernel)).trans rfl
    obtain ⟨n6, y6, s6, hm6, pp6, h6⟩ := pickH (ds := NM) (by simp) (by simp) h5 s5 T
    obtain ⟨a6, b6⟩ := nm_ok n6 hm6
    obtain ⟨n7, y7, s7, hm7, pp7, h7⟩ := pickH (ds := [.int 0, .int 9, .int 1000000, .int (-1000000)]) (by simp) (by simp) h6 s6 T
    have v7 : wholeB (-1000000) 1000000 n7 = true ∧ Atm n7 := by
      simp only [List.mem_cons, List.not_mem_nil, or_false] at hm7
      rcases hm7 with rfl | rfl | rfl | rfl <;> exact ⟨by decide, atm_int (by decide)⟩
    refine ⟨.tup [.str "quantity", n6, n7], y7, s7, ?_, h7, mk_cmd (w := "quantity") (ks := [.name, .value]) (ps := [n6, n7]) rfl ?_ (by decide +kernel) (by decide +kernel) (fun p hp => ?_) (by simp)⟩
    · unfold F__law_command
      simp [fnF0, fnF, sNil, sSeq, sEx, sRet, sRetN, sBrk, sCnt, sIf, sAsg, sPar, sFor, sSub, setF, eV, eC, DL.e1, DL.e2, eL, aN, aC, eCall, eTup, eLst, eNew, eM, eAnd, eOr, eNot, eIf, eCh, asB, bAnd, bOr, bNot, bY, gN, gsN, gsC, gT, iL, iT, iS, iR1, iZp, iEn, sdF, oN, oS, eSl, R.bind, lisF, seqF, addF, lsF, tupF, sizeLine, subF, powF, pow6n, p1, p2, p3, p5', i1, i2, i3, q0, q1, q2, q3, q9, pp6, pp7]
    · simp [allK, kB, a6, v7.1]
    · simp only [List.mem_cons, List.not_mem_nil, or_false] at hp
      rcases hp with rfl | rfl
      · exact b6.prt
      · exact v7.2.prt
  · -- leave
    have i1 : ∀ S, inF false (.str "leave") (.lst [.str "come", .str "bar", .str "range"]) S = .ok (.bl false) S := fun _ => rfl
    have i2 : ∀ S, inF false (.str "leave") (.lst [.str "wish", .str "may", .str "hold"]) S = .ok (.bl false) S := fun _ => rfl
    have i3 : ∀ S, inF false (.str "leave") (.lst [.str "rule", .str "bear"]) S = .ok (.bl false) S := fun _ => rfl
    have q0 : ∀ S, eqF false (.str "leave") (.str "ease") S = .ok (.bl false) S := fun S => (eqF_str (by decide +kernel) (by decide +kernel)).trans rfl
    have q1 : ∀ S, eqF false (.str "leave") (.str "add") S = .ok (.bl false) S := fun S => (eqF_str (by decide +kernel) (by decide +kernel)).trans rfl
    have q2 : ∀ S, eqF false (.str "leave") (.str "quantity") S = .ok (.bl false) S := fun S => (eqF_str (by decide +kernel) (by decide +kernel)).trans rfl
    have q3 : ∀ S, eqF false (.str "leave") (.str "now") S = .ok (.bl false) S := fun S => (eqF_str (by decide +kernel) (by decide +kernel)).trans rfl
    have q9 : ∀ S, eqF true (.str "leave") (.str "hold") S = .ok (.bl true) S := fun S => (eqF_str (by decide +kernel) (by decide +kernel)).trans rfl
    obtain ⟨n1, y6, s6, hm6, pp6, h6⟩ := pickH (ds := NM) (by simp) (by simp) h5 s5 T
    obtain ⟨a6, b6⟩ := nm_ok n1 hm6
    refine ⟨.tup [.str "leave", n1], y6, s6, ?_, h6, mk_cmd (w := "leave") (ks := [.name]) (ps := [n1]) rfl ?_ (by decide +kernel) (by decide +kernel) (fun p hp => ?_) (by simp)⟩
    · unfold F__law_command
      simp [fnF0, fnF, sNil, sSeq, sEx, sRet, sRetN, sBrk, sCnt, sIf, sAsg, sPar, sFor, sSub, setF, eV, eC, DL.e1, DL.e2, eL, aN, aC, eCall, eTup, eLst, eNew, eM, eAnd, eOr, eNot, eIf, eCh, asB, bAnd, bOr, bNot, bY, gN, gsN, gsC, gT, iL, iT, iS, iR1, iZp, iEn, sdF, oN, oS, eSl, R.bind, lisF, seqF, addF, lsF, tupF, sizeLine, subF, powF, pow6n, p1, p2, p3, p5', i1, i2, i3, q0, q1, q2, q3, q9, pp6]
    · simp [allK, kB, a6]
    · simp only [List.mem_cons, List.not_mem_nil, or_false] at hp
      subst hp; exact b6.prt
  · -- now
    have i1 : ∀ S, inF false (.str "now") (.lst [.str "come", .str "bar", .str "range"]) S = .ok (.bl false) S := fun _ => rfl
    have i2 : ∀ S, inF false (.str "now") (.lst [.str "wish", .str "may", .str "hold"]) S = .ok (.bl false) S := fun _ => rfl
    have i3 : ∀ S, inF false (.str "now") (.lst [.str "rule", .str "bear"]) S = .ok (.bl false) S := fun _ => rfl
    have q0 : ∀ S, eqF false (.str "now") (.str "ease") S = .ok (.bl false) S := fun S => (eqF_str (by decide +kernel) (by decide +kernel)).trans rfl
    have q1 : ∀ S, eqF false (.str "now") (.str "add") S = .ok (.bl false) S := fun S => (eqF_str (by decide +kernel) (by decide +kernel)).trans rfl
    have q2 : ∀ S, eqF false (.str "now") (.str "quantity") S = .ok (.bl false) S := fun S => (eqF_str (by decide +kernel) (by decide +kernel)).trans rfl
    have q3 : ∀ S, eqF false (.str "now") (.str "now") S = .ok (.bl true) S := fun S => (eqF_str (by decide +kernel) (by decide +kernel)).trans rfl
    have q9 : ∀ S, eqF true (.str "now") (.str "hold") S = .ok (.bl true) S := fun S => (eqF_str (by decide +kernel) (by decide +kernel)).trans rfl
    refine ⟨.tup [.str "now"], y5, s5, ?_, h5, mk_cmd (w := "now") (ks := []) (ps := []) rfl ?_ (by decide +kernel) (by decide +kernel) (fun p hp => ?_) (by simp)⟩
    · unfold F__law_command
      simp [fnF0, fnF, sNil, sSeq, sEx, sRet, sRetN, sBrk, sCnt, sIf, sAsg, sPar, sFor, sSub, setF, eV, eC, DL.e1, DL.e2, eL, aN, aC, eCall, eTup, eLst, eNew, eM, eAnd, eOr, eNot, eIf, eCh, asB, bAnd, bOr, bNot, bY, gN, gsN, gsC, gT, iL, iT, iS, iR1, iZp, iEn, sdF, oN, oS, eSl, R.bind, lisF, seqF, addF, lsF, tupF, sizeLine, subF, powF, pow6n, p1, p2, p3, p5', i1, i2, i3, q0, q1, q2, q3, q9]
    · simp [allK, kB]
    · cases hp
  · -- may
    have i1 : ∀ S, inF false (.str "may") (.lst [.str "come", .str "bar", .str "range"]) S = .ok (.bl false) S := fun _ => rfl
    have i2 : ∀ S, inF false (.str "may") (.lst [.str "wish", .str "may", .str "hold"]) S = .ok (.bl true) S := fun _ => rfl
    have i3 : ∀ S, inF false (.str "may") (.lst [.str "rule", .str "bear"]) S = .ok (.bl false) S := fun _ => rfl
    have q0 : ∀ S, eqF false (.str "may") (.str "ease") S = .ok (.bl false) S := fun S => (eqF_str (by decide +kernel) (by decide +kernel)).trans rfl
    have q1 : ∀ S, eqF false (.str "may") (.str "add") S = .ok (.bl false) S := fun S => (eqF_str (by decide +kernel) (by decide +kernel)).trans rfl
    have q2 : ∀ S, eqF false (.str "may") (.str "quantity") S = .ok (.bl false) S := fun S => (eqF_str (by decide +kernel) (by decide +kernel)).trans rfl
    have q3 : ∀ S, eqF false (.str "may") (.str "now") S = .ok (.bl false) S := fun S => (eqF_str (by decide +kernel) (by decide +kernel)).trans rfl
    have q9 : ∀ S, eqF true (.str "may") (.str "hold") S = .ok (.bl true) S := fun S => (eqF_str (by decide +kernel) (by decide +kernel)).trans rfl
    refine ⟨.tup [.str "may", mv, .tup zs], y5, s5, ?_, h5, mk_cmd (w := "may") (ks := [.move, .pairs]) (ps := [mv, .tup zs]) rfl ?_ (by decide +kernel) (by decide +kernel) (fun p hp => ?_) (by simp)⟩
    · unfold F__law_command
      simp [fnF0, fnF, sNil, sSeq, sEx, sRet, sRetN, sBrk, sCnt, sIf, sAsg, sPar, sFor, sSub, setF, eV, eC, DL.e1, DL.e2, eL, aN, aC, eCall, eTup, eLst, eNew, eM, eAnd, eOr, eNot, eIf, eCh, asB, bAnd, bOr, bNot, bY, gN, gsN, gsC, gT, iL, iT, iS, iR1, iZp, iEn, sdF, oN, oS, eSl, R.bind, lisF, seqF, addF, lsF, tupF, sizeLine, subF, powF, pow6n, p1, p2, p3, p5', i1, i2, i3, q0, q1, q2, q3, q9]
    · simp [allK, kB, hmv'.1, z1]
    · simp only [List.mem_cons, List.not_mem_nil, or_false] at hp
      rcases hp with rfl | rfl
      · exact hmv'.2.prt
      · exact zp
  · -- bear
    have i1 : ∀ S, inF false (.str "bear") (.lst [.str "come", .str "bar", .str "range"]) S = .ok (.bl false) S := fun _ => rfl
    have i2 : ∀ S, inF false (.str "bear") (.lst [.str "wish", .str "may", .str "hold"]) S = .ok (.bl false) S := fun _ => rfl
    have i3 : ∀ S, inF false (.str "bear") (.lst [.str "rule", .str "bear"]) S = .ok (.bl true) S := fun _ => rfl
    have q0 : ∀ S, eqF false (.str "bear") (.str "ease") S = .ok (.bl false) S := fun S => (eqF_str (by decide +kernel) (by decide +kernel)).trans rfl
    have q1 : ∀ S, eqF false (.str "bear") (.str "add") S = .ok (.bl false) S := fun S => (eqF_str (by decide +kernel) (by decide +kernel)).trans rfl
    have q2 : ∀ S, eqF false (.str "bear") (.str "quantity") S = .ok (.bl false) S := fun S => (eqF_str (by decide +kernel) (by decide +kernel)).trans rfl
    have q3 : ∀ S, eqF false (.str "bear") (.str "now") S = .ok (.bl false) S := fun S => (eqF_str (by decide +kernel) (by decide +kernel)).trans rfl
    have q9 : ∀ S, eqF true (.str "bear") (.str "hold") S = .ok (.bl true) S := fun S => (eqF_str (by decide +kernel) (by decide +kernel)).trans rfl
    obtain ⟨gs, y6, s6, p6, h6, hgl, hgs⟩ := points_eq h5 s5 T (.str "bear") mv nb (.tup zs)
    obtain ⟨g1, g2, rfl⟩ : ∃ g1 g2, gs = [g1, g2] := by
      match gs, hgl with
      | [g1, g2], _ => exact ⟨g1, g2, rfl⟩
    obtain ⟨n7, y7, s7, hm7, pp7, h7⟩ := pickH (ds := [.str "rise", .str "fall", .str "now"]) (by simp) (by simp) h6 s6 T
    obtain ⟨n8, y8, s8, hm8, pp8, h8⟩ := pickH (ds := [.int 0, .int 3, .int (-4), .int 1000, .int (-1000)]) (by simp) (by simp) h7 s7 T
    have v7 : kB .kind n7 = true ∧ Atm n7 := by
      simp only [List.mem_cons, List.not_mem_nil, or_false] at hm7
      rcases hm7 with rfl | rfl | rfl <;> exact ⟨rfl, atm_str (by decide +kernel) (by decide +kernel)⟩
    have v8 : wholeB (-1000) 1000 n8 = true ∧ Atm n8 := by
      simp only [List.mem_cons, List.not_mem_nil, or_false] at hm8
      rcases hm8 with rfl | rfl | rfl | rfl | rfl <;> exact ⟨by decide, atm_int (by decide)⟩
    have u1 := hgs g1 (by simp)
    have u2 := hgs g2 (by simp)
    have j0 : atI [g1, g2] 0 = some g1 := rfl
    have j1 : atI [g1, g2] 1 = some g2 := rfl
    refine ⟨.tup [.str "bear", mv, n7, g1, g2, n8], y8, s8, ?_, h8, mk_cmd (w := "bear") (ks := [.move, .kind, .point, .point, .weight]) (ps := [mv, n7, g1, g2, n8]) rfl ?_ (by decide +kernel) (by decide +kernel) (fun p hp => ?_) (by simp)⟩
    · unfold F__law_command
      simp [fnF0, fnF, sNil, sSeq, sEx, sRet, sRetN, sBrk, sCnt, sIf, sAsg, sPar, sFor, sSub, setF, eV, eC, DL.e1, DL.e2, eL, aN, aC, eCall, eTup, eLst, eNew, eM, eAnd, eOr, eNot, eIf, eCh, asB, bAnd, bOr, bNot, bY, gN, gsN, gsC, gT, iL, iT, iS, iR1, iZp, iEn, sdF, oN, oS, eSl, R.bind, lisF, seqF, addF, lsF, tupF, sizeLine, subF, powF, pow6n, p1, p2, p3, p5', i1, i2, i3, q0, q1, q2, q3, q9, pp7, pp8, p6, ixF, j0, j1]
    · simp [allK, hmv'.1, v7.1, u1.1, u2.1, v8.1]; simp [kB, hmv'.1, v7.1, u1.1, u2.1, v8.1]
    · simp only [List.mem_cons, List.not_mem_nil, or_false] at hp
      rcases hp with rfl | rfl | rfl | rfl | rfl
      · exact hmv'.2.prt
      · exact v7.2.prt
      · exact u1.2.prt
      · exact u2.2.prt
      · exact v8.2.prt
  · -- range
    have i1 : ∀ S, inF false (.str "range") (.lst [.str "come", .str "bar", .str "range"]) S = .ok (.bl true) S := fun _ => rfl
    have i2 : ∀ S, inF false (.str "range") (.lst [.str "wish", .str "may", .str "hold"]) S = .ok (.bl false) S := fun _ => rfl
    have i3 : ∀ S, inF false (.str "range") (.lst [.str "rule", .str "bear"]) S = .ok (.bl false) S := fun _ => rfl
    have q0 : ∀ S, eqF false (.str "range") (.str "ease") S = .ok (.bl false) S := fun S => (eqF_str (by decide +kernel) (by decide +kernel)).trans rfl
    have q1 : ∀ S, eqF false (.str "range") (.str "add") S = .ok (.bl false) S := fun S => (eqF_str (by decide +kernel) (by decide +kernel)).trans rfl
    have q2 : ∀ S, eqF false (.str "range") (.str "quantity") S = .ok (.bl false) S := fun S => (eqF_str (by decide +kernel) (by decide +kernel)).trans rfl
    have q3 : ∀ S, eqF false (.str "range") (.str "now") S = .ok (.bl false) S := fun S => (eqF_str (by decide +kernel) (by decide +kernel)).trans rfl
    have q9 : ∀ S, eqF true (.str "range") (.str "hold") S = .ok (.bl true) S := fun S => (eqF_str (by decide +kernel) (by decide +kernel)).trans rfl
    refine ⟨.tup [.str "range", mv], y5, s5, ?_, h5, mk_cmd (w := "range") (ks := [.move]) (ps := [mv]) rfl ?_ (by decide +kernel) (by decide +kernel) (fun p hp => ?_) (by simp)⟩
    · unfold F__law_command
      simp [fnF0, fnF, sNil, sSeq, sEx, sRet, sRetN, sBrk, sCnt, sIf, sAsg, sPar, sFor, sSub, setF, eV, eC, DL.e1, DL.e2, eL, aN, aC, eCall, eTup, eLst, eNew, eM, eAnd, eOr, eNot, eIf, eCh, asB, bAnd, bOr, bNot, bY, gN, gsN, gsC, gT, iL, iT, iS, iR1, iZp, iEn, sdF, oN, oS, eSl, R.bind, lisF, seqF, addF, lsF, tupF, sizeLine, subF, powF, pow6n, p1, p2, p3, p5', i1, i2, i3, q0, q1, q2, q3, q9]
    · simp [allK, kB, hmv'.1]
    · simp only [List.mem_cons, List.not_mem_nil, or_false] at hp
      subst hp; exact hmv'.2.prt
  · -- hold
    have i1 : ∀ S, inF false (.str "hold") (.lst [.str "come", .str "bar", .str "range"]) S = .ok (.bl false) S := fun _ => rfl
    have i2 : ∀ S, inF false (.str "hold") (.lst [.str "wish", .str "may", .str "hold"]) S = .ok (.bl true) S := fun _ => rfl
    have i3 : ∀ S, inF false (.str "hold") (.lst [.str "rule", .str "bear"]) S = .ok (.bl false) S := fun _ => rfl
    have q0 : ∀ S, eqF false (.str "hold") (.str "ease") S = .ok (.bl false) S := fun S => (eqF_str (by decide +kernel) (by decide +kernel)).trans rfl
    have q1 : ∀ S, eqF false (.str "hold") (.str "add") S = .ok (.bl false) S := fun S => (eqF_str (by decide +kernel) (by decide +kernel)).trans rfl
    have q2 : ∀ S, eqF false (.str "hold") (.str "quantity") S = .ok (.bl false) S := fun S => (eqF_str (by decide +kernel) (by decide +kernel)).trans rfl
    have q3 : ∀ S, eqF false (.str "hold") (.str "now") S = .ok (.bl false) S := fun S => (eqF_str (by decide +kernel) (by decide +kernel)).trans rfl
    have q9 : ∀ S, eqF true (.str "hold") (.str "hold") S = .ok (.bl false) S := fun S => (eqF_str (by decide +kernel) (by decide +kernel)).trans rfl
    obtain ⟨n1, y6, s6, hm6, pp6, h6⟩ := pickH (ds := NM) (by simp) (by simp) h5 s5 T
    obtain ⟨a6, b6⟩ := nm_ok n1 hm6
    refine ⟨.tup [.str "hold", n1, .tup zs], y6, s6, ?_, h6, mk_cmd (w := "hold") (ks := [.name, .pairs]) (ps := [n1, .tup zs]) rfl ?_ (by decide +kernel) (by decide +kernel) (fun p hp => ?_) (by simp)⟩
    · unfold F__law_command
      simp [fnF0, fnF, sNil, sSeq, sEx, sRet, sRetN, sBrk, sCnt, sIf, sAsg, sPar, sFor, sSub, setF, eV, eC, DL.e1, DL.e2, eL, aN, aC, eCall, eTup, eLst, eNew, eM, eAnd, eOr, eNot, eIf, eCh, asB, bAnd, bOr, bNot, bY, gN, gsN, gsC, gT, iL, iT, iS, iR1, iZp, iEn, sdF, oN, oS, eSl, R.bind, lisF, seqF, addF, lsF, tupF, sizeLine, subF, powF, pow6n, p1, p2, p3, p5', i1, i2, i3, q0, q1, q2, q3, q9, pp6]
    · simp [allK, kB, a6, z1]
    · simp only [List.mem_cons, List.not_mem_nil, or_false] at hp
      rcases hp with rfl | rfl
      · exact b6.prt
      · exact zp
end P64
end
section
set_option maxRecDepth 100000
set_option maxHeartbeats 8000000
set_option autoImplicit false
set_option linter.all false
namespace P64
open PySem L2 DL
/-! ### numbers in texts -/
abbrev sO (l : List Nat) : Str := ⟨l.toArray⟩
theorem sO_cps (w : Str) : w = sO w.cps.toList := by obtain ⟨⟨l⟩⟩ := w; rfl
theorem sO_inj {a b : List Nat} (h : sO a = sO b) : a = b := by
  have := congrArg (fun x : Str => x.cps.toList) h
  simpa using this
theorem sO_beq (a b : List Nat) : (sO a == sO b) = decide (a = b) := by
  rw [Bool.eq_iff_iff]
  simp
theorem sO_len (l : List Nat) : (sO l).length = l.length := by simp [Str.length]
def dig (c : Nat) : Bool := decide (48 ≤ c) && decide (c ≤ 57)
def allD (l : List Nat) : Bool := l.all dig
/-- the digits, after a sign -/
def dgs (l : List Nat) : List Nat := if l.head? = some 45 then l.tail else l
def badN (l : List Nat) : Bool := !(decide (1 ≤ (dgs l).length) && decide ((dgs l).length ≤ 7)) || (!allD (dgs l) || ((dgs l).head? == some 48 && (decide (1 < (dgs l).length) || !decide (l = [48]))))
def numV (l : List Nat) : D := if badN l = true then .non else if l.head? = some 45 then .int (-(NumText.digitsVal (dgs l) : Nat)) else .int (NumText.digitsVal (dgs l) : Nat)
theorem okL_str {l : List Nat} (h : l.all (fun c => decide (c < 0x110000)) = true) : PyData.strOk (sO l) = true := by
  unfold PyData.strOk
  simpa using h
theorem minus_ok : PyData.strOk ("-" : Str) = true := by decide +kernel
theorem s_minus : ("-" : Str) = sO [45] := by decide +kernel
theorem s_nul : ("0" : Str) = sO [48] := by decide +kernel
theorem s_mnul : ("-0" : Str) = sO [45, 48] := by decide +kernel
section
variable {l : List Nat} {S : Store}
theorem sl_from (hl : l.length ≤ 1000000) (k : Nat) : slF (.str (sO l)) (some (k : Int)) none S = .ok (.str (sO (l.drop k))) S := by
  have : (sO l).length ≤ sizeLine := by rw [sO_len]; exact Nat.le_trans hl (Nat.le_of_lt line_big)
  have e := cut_from l k
  unfold cutL at e
  unfold slF
  simp only [this, if_true, cutS]
  congr 3
  have e2 : (sO l).length = l.length := sO_len l
  rw [e2]
  exact congrArg List.toArray e
theorem sl_to (hl : l.length ≤ 1000000) (k : Nat) : slF (.str (sO l)) none (some (k : Int)) S = .ok (.str (sO (l.take k))) S := by
  have : (sO l).length ≤ sizeLine := by rw [sO_len]; exact Nat.le_trans hl (Nat.le_of_lt line_big)
  have e := cut_to l k
  unfold cutL at e
  unfold slF
  simp only [this, if_true, cutS]
  congr 3
  have e2 : (sO l).length = l.length := sO_len l
  rw [e2]
  exact congrArg List.toArray e
theorem ix_str0 {c : Nat} {t : List Nat} (hl : (c :: t).length ≤ 1000000) : ixF (.str (sO (c :: t))) (.int 0) S = .ok (.str (sO [c])) S := by
  have : (sO (c :: t)).length ≤ sizeLine := by rw [sO_len]; exact Nat.le_trans hl (Nat.le_of_lt line_big)
  unfold ixF
  simp only [this, if_true]
  have e : atI (sO (c :: t)).cps.toList 0 = some c := atI_0 c t
  rw [e]
theorem len_str (hl : l.length ≤ 1000000) : lenF [.str (sO l)] S = .ok (.int l.length) S := by
  have : (sO l).length ≤ sizeLine := by rw [sO_len]; exact Nat.le_trans hl (Nat.le_of_lt line_big)
  unfold lenF
  dsimp only
  rw [if_pos this, sO_len]
theorem int_str (h : allD l = true) (hne : l ≠ []) (hl : l.length ≤ 7) : intF [.str (sO l)] S = .ok (.int (NumText.digitsVal l : Nat)) S := by
  have e : PySem.intText? (sO l) = some ((NumText.digitsVal l : Nat) : Int) := by
    have := PySem.intText_digits (x := sO l) (fun c hc => by
      have z := List.all_eq_true.mp h c (by simpa using hc)
      unfold dig at z
      simp at z
      exact z) (by simpa using hne) (by rw [sO_len]; omega)
    simpa using this
  have : (sO l).length ≤ 640 := by rw [sO_len]; omega
  unfold intF
  simp only [e, this, if_true]
end
theorem digits_in : ∀ c : Nat, decide (c ∈ ("0123456789" : Str).cps.toList) = dig c := by
  intro c
  have e : ("0123456789" : Str).cps.toList = [48, 49, 50, 51, 52, 53, 54, 55, 56, 57] := by decide +kernel
  rw [e, Bool.eq_iff_iff]
  simp [dig]
  omega
theorem told_eq {c : Nat} {t : List Nat} (hs : PyData.strOk (sO (c :: t)) = true) (hl : (c :: t).length ≤ 1000000) (S : Store) : F_integer_told [.str (sO (c :: t))] S = .ok (numV (c :: t)) S := by
  have f1 := sl_to (l := c :: t) hl 1 (S := S)
  have f3 := sl_from (l := c :: t) hl 1 (S := S)
  have hc : PyData.strOk (sO [c]) = true := by
    unfold PyData.strOk at hs ⊢
    simp at hs ⊢
    exact hs.1
  have hall : ∀ e ∈ dgs (c :: t), PyData.strOk (sO [e]) = true := fun e he => by
    have : e ∈ c :: t := by
      unfold dgs at he
      split at he
      · exact List.mem_cons_of_mem _ he
      · exact he
    unfold PyData.strOk at hs ⊢
    simp at hs ⊢
    rcases List.mem_cons.mp this with rfl | h
    · exact hs.1
    · exact hs.2 e h
  have f2 := eqF_str (neg := false) (S := S) hc minus_ok
  have f8 := eqF_str (neg := false) (S := S) hs (show PyData.strOk ("-0" : Str) = true by decide +kernel)
  rw [show (sO [c] == ("-" : Str)) = decide (c = 45) by rw [s_minus, sO_beq]; simp] at f2
  rw [show (sO (c :: t) == ("-0" : Str)) = decide (c :: t = [45, 48]) by rw [s_mnul, sO_beq]] at f8
  have f9 := ix_str0 (c := c) (t := t) hl (S := S)
  have f1 : slF (.str (sO (c :: t))) none (some 1) S = .ok (.str (sO [c])) S := f1
  have f3 : slF (.str (sO (c :: t))) (some 1) none S = .ok (.str (sO t)) S := f3
  simp only [Bool.false_eq_true, if_false] at f2 f8
  have hd : (dgs (c :: t)).length ≤ 1000000 := by
    unfold dgs
    split
    · simp at hl ⊢; omega
    · exact hl
  have f4 := len_str (l := dgs (c :: t)) hd (S := S)
  have f5 := all_lc (fa := iS (eV 1)) (b := gN 2) (fe := E_integer_told_0) (vs := [2]) (ρ := [some (.str (sO (c :: t))), some (.str (sO (dgs (c :: t)))), none]) (S := S) (ds := dgs (c :: t)) (q := fun c => .str ⟨#[c]⟩) (g := dig) (by simp [fnF0, fnF, sNil, sSeq, sEx, sRet, sRetN, sBrk, sCnt, sIf, sAsg, sPar, sFor, sSub, setF, eV, eC, DL.e1, DL.e2, eL, aN, aC, eCall, eTup, eLst, eNew, eM, eAnd, eOr, eNot, eIf, eCh, asB, bAnd, bOr, bNot, bY, gN, gsN, gsC, gT, iL, iT, iS, iR1, iZp, iEn, sdF, oN, oS, eSl, R.bind])
    (fun x _ => ⟨[some (.str (sO (c :: t))), some (.str (sO (dgs (c :: t)))), some (.str ⟨#[x]⟩)], rfl, by simp [E_integer_told_0, fnF0, fnF, sNil, sSeq, sEx, sRet, sRetN, sBrk, sCnt, sIf, sAsg, sPar, sFor, sSub, setF, eV, eC, DL.e1, DL.e2, eL, aN, aC, eCall, eTup, eLst, eNew, eM, eAnd, eOr, eNot, eIf, eCh, asB, bAnd, bOr, bNot, bY, gN, gsN, gsC, gT, iL, iT, iS, iR1, iZp, iEn, sdF, oN, oS, eSl, R.bind, inF, c_DIGITS]; have := digits_in x; simpa using this⟩) hd
  simp only [eL, aC, aN] at f5
  have first : sAsg (eIf (asB (DL.e2 (eqF false) (eSl (eV 0) oN (oS (eC (.int 1)))) (eC (.str "-")))) (eSl (eV 0) (oS (eC (.int 1))) oN) (eV 0)) (gN 1) [some (.str (sO (c :: t))), none, none] S = .ok (.nx, [some (.str (sO (c :: t))), some (.str (sO (dgs (c :: t)))), none]) S := by
    by_cases h45 : c = 45
    · subst h45
      simp [fnF0, fnF, sNil, sSeq, sEx, sRet, sRetN, sBrk, sCnt, sIf, sAsg, sPar, sFor, sSub, setF, eV, eC, DL.e1, DL.e2, eL, aN, aC, eCall, eTup, eLst, eNew, eM, eAnd, eOr, eNot, eIf, eCh, asB, bAnd, bOr, bNot, bY, gN, gsN, gsC, gT, iL, iT, iS, iR1, iZp, iEn, sdF, oN, oS, eSl, R.bind, oS, f1, f2, f3, dgs]
    · simp [fnF0, fnF, sNil, sSeq, sEx, sRet, sRetN, sBrk, sCnt, sIf, sAsg, sPar, sFor, sSub, setF, eV, eC, DL.e1, DL.e2, eL, aN, aC, eCall, eTup, eLst, eNew, eM, eAnd, eOr, eNot, eIf, eCh, asB, bAnd, bOr, bNot, bY, gN, gsN, gsC, gT, iL, iT, iS, iR1, iZp, iEn, sdF, oN, oS, eSl, R.bind, oS, f1, f2, f3, dgs, h45]
  unfold F_integer_told
  simp only [fnF0, fnF, List.map_cons, List.map_nil, List.length_cons, List.length_nil, List.replicate, List.cons_append, List.nil_append]
  unfold sSeq
  rw [first]
  simp only [R.bind]
  generalize hD : dgs (c :: t) = ds at *
  unfold numV badN
  rw [hD]
  have g9 : (c == 45) = decide (c = 45) := by rw [Bool.eq_iff_iff]; simp
  by_cases h1 : 1 ≤ ds.length
  · by_cases h2 : ds.length ≤ 7
    · have h2' : (ds.length : Int) ≤ 7 := by omega
      have h1' : (1 : Int) ≤ (ds.length : Int) := by omega
      cases h3 : allD ds
      · rw [show ds.all dig = false from h3] at f5
        simp [fnF0, fnF, sNil, sSeq, sEx, sRet, sRetN, sBrk, sCnt, sIf, sAsg, sPar, sFor, sSub, setF, eV, eC, DL.e1, DL.e2, eL, aN, aC, eCall, eTup, eLst, eNew, eM, eAnd, eOr, eNot, eIf, eCh, asB, bAnd, bOr, bNot, bY, gN, gsN, gsC, gT, iL, iT, iS, iR1, iZp, iEn, sdF, oN, oS, eSl, R.bind] at f5
        simp [fnF0, fnF, sNil, sSeq, sEx, sRet, sRetN, sBrk, sCnt, sIf, sAsg, sPar, sFor, sSub, setF, eV, eC, DL.e1, DL.e2, eL, aN, aC, eCall, eTup, eLst, eNew, eM, eAnd, eOr, eNot, eIf, eCh, asB, bAnd, bOr, bNot, bY, gN, gsN, gsC, gT, iL, iT, iS, iR1, iZp, iEn, sdF, oN, oS, eSl, R.bind, f4, cmF, h1, h1', h2, h2', f5, h3]
      · obtain ⟨e, r, rfl⟩ : ∃ e r, ds = e :: r := by
          cases ds with
          | nil => simp at h1
          | cons e r => exact ⟨e, r, rfl⟩
        rw [show (e :: r).all dig = true from h3] at f5
        have f6 := ix_str0 (c := e) (t := r) hd (S := S)
        have f7 := eqF_str (neg := false) (S := S) (hall e (by simp)) strOk_nul
        rw [show (sO [e] == ("0" : Str)) = decide (e = 48) by rw [s_nul, sO_beq]; simp] at f7
        have f10 := int_str h3 (by simp) h2 (S := S)
        simp only [Bool.false_eq_true, if_false] at f7
        simp [fnF0, fnF, sNil, sSeq, sEx, sRet, sRetN, sBrk, sCnt, sIf, sAsg, sPar, sFor, sSub, setF, eV, eC, DL.e1, DL.e2, eL, aN, aC, eCall, eTup, eLst, eNew, eM, eAnd, eOr, eNot, eIf, eCh, asB, bAnd, bOr, bNot, bY, gN, gsN, gsC, gT, iL, iT, iS, iR1, iZp, iEn, sdF, oN, oS, eSl, R.bind] at f5
        simp at h2 h2'
        have hr3 : (1 : Int) ≤ (r.length : Int) + 1 := by omega
        by_cases he : e = 48
        · by_cases hr : r = []
          · subst hr; subst he
            by_cases h45 : c = 45
            · subst h45
              have : t = [48] := by simpa [dgs] using hD
              subst this
              simp [fnF0, fnF, sNil, sSeq, sEx, sRet, sRetN, sBrk, sCnt, sIf, sAsg, sPar, sFor, sSub, setF, eV, eC, DL.e1, DL.e2, eL, aN, aC, eCall, eTup, eLst, eNew, eM, eAnd, eOr, eNot, eIf, eCh, asB, bAnd, bOr, bNot, bY, gN, gsN, gsC, gT, iL, iT, iS, iR1, iZp, iEn, sdF, oN, oS, eSl, R.bind, f4, cmF, h2, h2', f5, h3, f6, f7, f8]
            · have q : c :: t = [48] := by simpa [dgs, h45] using hD
              have q2 : ¬ (c :: t = [45, 48]) := by rw [q]; simp
              have hc' : c = 48 := by simpa using congrArg List.head? q
              have ht' : t = [] := by simpa using congrArg List.tail q
              subst hc'; subst ht'
              simp [fnF0, fnF, sNil, sSeq, sEx, sRet, sRetN, sBrk, sCnt, sIf, sAsg, sPar, sFor, sSub, setF, eV, eC, DL.e1, DL.e2, eL, aN, aC, eCall, eTup, eLst, eNew, eM, eAnd, eOr, eNot, eIf, eCh, asB, bAnd, bOr, bNot, bY, gN, gsN, gsC, gT, iL, iT, iS, iR1, iZp, iEn, sdF, oN, oS, eSl, R.bind, f4, cmF, h2, h2', f5, h3, f6, f7, f8, f9, f2, f10]
          · have hr1 : 0 < r.length := List.length_pos_iff.mpr hr
            have hr2 : (1 : Int) < (r.length : Int) + 1 := by omega
            subst he
            simp [fnF0, fnF, sNil, sSeq, sEx, sRet, sRetN, sBrk, sCnt, sIf, sAsg, sPar, sFor, sSub, setF, eV, eC, DL.e1, DL.e2, eL, aN, aC, eCall, eTup, eLst, eNew, eM, eAnd, eOr, eNot, eIf, eCh, asB, bAnd, bOr, bNot, bY, gN, gsN, gsC, gT, iL, iT, iS, iR1, iZp, iEn, sdF, oN, oS, eSl, R.bind, f4, cmF, h2, h2', hr3, f5, h3, f6, f7, f8]
            simp [hr1, hr2]
        · have q2 : decide (c :: t = [45, 48]) = false := by
            rw [decide_eq_false_iff_not]
            intro q
            rw [q] at hD
            simp [dgs] at hD
            exact he hD.1.symm
          rw [q2] at f8
          by_cases h45 : c = 45
          · subst h45
            simp [fnF0, fnF, sNil, sSeq, sEx, sRet, sRetN, sBrk, sCnt, sIf, sAsg, sPar, sFor, sSub, setF, eV, eC, DL.e1, DL.e2, eL, aN, aC, eCall, eTup, eLst, eNew, eM, eAnd, eOr, eNot, eIf, eCh, asB, bAnd, bOr, bNot, bY, gN, gsN, gsC, gT, iL, iT, iS, iR1, iZp, iEn, sdF, oN, oS, eSl, R.bind, f4, cmF, h2, h2', hr3, f5, h3, f6, f7, f8, he, f9, f2, f10, negF]
          · simp [fnF0, fnF, sNil, sSeq, sEx, sRet, sRetN, sBrk, sCnt, sIf, sAsg, sPar, sFor, sSub, setF, eV, eC, DL.e1, DL.e2, eL, aN, aC, eCall, eTup, eLst, eNew, eM, eAnd, eOr, eNot, eIf, eCh, asB, bAnd, bOr, bNot, bY, gN, gsN, gsC, gT, iL, iT, iS, iR1, iZp, iEn, sdF, oN, oS, eSl, R.bind, f4, cmF, h2, h2', hr3, f5, h3, f6, f7, f8, he, f9, f2, f10, h45]
    · have h2' : ¬ (ds.length : Int) ≤ 7 := by omega
      have h1' : (1 : Int) ≤ (ds.length : Int) := by omega
      simp [fnF0, fnF, sNil, sSeq, sEx, sRet, sRetN, sBrk, sCnt, sIf, sAsg, sPar, sFor, sSub, setF, eV, eC, DL.e1, DL.e2, eL, aN, aC, eCall, eTup, eLst, eNew, eM, eAnd, eOr, eNot, eIf, eCh, asB, bAnd, bOr, bNot, bY, gN, gsN, gsC, gT, iL, iT, iS, iR1, iZp, iEn, sdF, oN, oS, eSl, R.bind, f4, cmF, h1, h1', h2, h2']
  · have h1' : ¬ (1 : Int) ≤ (ds.length : Int) := by omega
    simp [fnF0, fnF, sNil, sSeq, sEx, sRet, sRetN, sBrk, sCnt, sIf, sAsg, sPar, sFor, sSub, setF, eV, eC, DL.e1, DL.e2, eL, aN, aC, eCall, eTup, eLst, eNew, eM, eAnd, eOr, eNot, eIf, eCh, asB, bAnd, bOr, bNot, bY, gN, gsN, gsC, gT, iL, iT, iS, iR1, iZp, iEn, sdF, oN, oS, eSl, R.bind, f4, cmF, h1, h1']
theorem index_dig : ∀ d : Nat, d < 10 → Builtin.Str.occurrences ("0123456789" : Str) (sO [48 + d]) 0 ("0123456789" : Str).length 1 = [d] := by decide +kernel
theorem fold_num (S : Store) (w ds : D) : ∀ (l : List Nat) (n : Nat) (z : Option D), allD l = true → ∃ z', forGo (gN 3) B__law_number_1 (l.map fun c => .str ⟨#[c]⟩) [some w, some ds, some (.int (n : Nat)), z] S = .ok (.nx, [some w, some ds, some (.int ((l.foldl (fun acc c => acc * 10 + (c - 48)) n : Nat) : Int)), z']) S
  | [], n, z, _ => ⟨z, rfl⟩
  | c :: l, n, z, h => by
    have hc : dig c = true ∧ allD l = true := by simpa [allD] using h
    have hc2 : 48 ≤ c ∧ c ≤ 57 := by have := hc.1; unfold dig at this; simpa using this
    obtain ⟨d, rfl⟩ : ∃ d, c = 48 + d := ⟨c - 48, by omega⟩
    have hd : d < 10 := by omega
    have ix' : sindexF (.str "0123456789") [.str ⟨#[48 + d]⟩] S = .ok (.int (d : Nat)) S := by
      have ix : Builtin.Str.occurrences ("0123456789" : Str) ⟨#[48 + d]⟩ 0 ("0123456789" : Str).length 1 = [d] := index_dig d hd
      unfold sindexF
      dsimp only
      rw [ix]
    obtain ⟨z', e⟩ := fold_num S w ds l (n * 10 + d) (some (.str ⟨#[48 + d]⟩)) hc.2
    refine ⟨z', ?_⟩
    rw [List.map_cons]
    unfold forGo
    have hb : B__law_number_1 [some w, some ds, some (.int (n : Nat)), some (.str ⟨#[48 + d]⟩)] S = .ok (.nx, [some w, some ds, some (.int ((n * 10 + d : Nat) : Int)), some (.str ⟨#[48 + d]⟩)]) S := by
      have cast : (10 : Int) * (n : Int) + (d : Int) = ((n * 10 + d : Nat) : Int) := by omega
      simp [B__law_number_1, fnF0, fnF, sNil, sSeq, sEx, sRet, sRetN, sBrk, sCnt, sIf, sAsg, sPar, sFor, sSub, setF, eV, eC, DL.e1, DL.e2, eL, aN, aC, eCall, eTup, eLst, eNew, eM, eAnd, eOr, eNot, eIf, eCh, asB, bAnd, bOr, bNot, bY, gN, gsN, gsC, gT, iL, iT, iS, iR1, iZp, iEn, sdF, oN, oS, eSl, R.bind, mulF, ix', addF, tagF]
      omega
    show (B__law_number_1 [some w, some ds, some (.int (n : Nat)), some (.str ⟨#[48 + d]⟩)] S).bind _ = _
    rw [hb]
    have e2 : 48 + d - 48 = d := by omega
    rw [List.foldl_cons, e2]
    exact e
theorem law_number_eq {c : Nat} {t : List Nat} (hs : PyData.strOk (sO (c :: t)) = true) (hl : (c :: t).length ≤ 1000000) (S : Store) : F__law_number [.str (sO (c :: t))] S = .ok (numV (c :: t)) S := by
  have f3 : slF (.str (sO (c :: t))) (some 1) none S = .ok (.str (sO t)) S := sl_from (l := c :: t) hl 1 (S := S)
  have hc : PyData.strOk (sO [c]) = true := by
    unfold PyData.strOk at hs ⊢
    simp at hs ⊢
    exact hs.1
  have hall : ∀ e ∈ dgs (c :: t), PyData.strOk (sO [e]) = true := fun e he => by
    have : e ∈ c :: t := by
      unfold dgs at he
      split at he
      · exact List.mem_cons_of_mem _ he
      · exact he
    unfold PyData.strOk at hs ⊢
    simp at hs ⊢
    rcases List.mem_cons.mp this with rfl | h
    · exact hs.1
    · exact hs.2 e h
  have f2 := eqF_str (neg := false) (S := S) hc minus_ok
  have f2n := eqF_str (neg := true) (S := S) hc minus_ok
  have f8 := eqF_str (neg := true) (S := S) hs strOk_nul
  have g2 : (sO [c] == ("-" : Str)) = decide (c = 45) := by rw [s_minus, sO_beq]; simp
  rw [g2] at f2 f2n
  rw [show (sO (c :: t) == ("0" : Str)) = decide (c :: t = [48]) by rw [s_nul, sO_beq]] at f8
  have f9 := ix_str0 (c := c) (t := t) hl (S := S)
  simp only [Bool.false_eq_true, if_false, if_true] at f2 f2n f8
  have hd : (dgs (c :: t)).length ≤ 1000000 := by
    unfold dgs
    split
    · simp at hl ⊢; omega
    · exact hl
  have f4 := len_str (l := dgs (c :: t)) hd (S := S)
  have f5 := all_lc (fa := iS (eV 1)) (b := gN 3) (fe := E__law_number_0) (vs := [3]) (ρ := [some (.str (sO (c :: t))), some (.str (sO (dgs (c :: t)))), none, none]) (S := S) (ds := dgs (c :: t)) (q := fun c => .str ⟨#[c]⟩) (g := dig) (by simp [fnF0, fnF, sNil, sSeq, sEx, sRet, sRetN, sBrk, sCnt, sIf, sAsg, sPar, sFor, sSub, setF, eV, eC, DL.e1, DL.e2, eL, aN, aC, eCall, eTup, eLst, eNew, eM, eAnd, eOr, eNot, eIf, eCh, asB, bAnd, bOr, bNot, bY, gN, gsN, gsC, gT, iL, iT, iS, iR1, iZp, iEn, sdF, oN, oS, eSl, R.bind])
    (fun x _ => ⟨[some (.str (sO (c :: t))), some (.str (sO (dgs (c :: t)))), none, some (.str ⟨#[x]⟩)], rfl, by
      have q1 : ("0" : Str).cps.toList = [48] := by decide +kernel
      have q2 : ("9" : Str).cps.toList = [57] := by decide +kernel
      simp only [E__law_number_0, eCh, eV, eC, R.bind, List.getElem?_cons_succ, List.getElem?_cons_zero, cmF, q1, q2, dig]
      by_cases n1 : 48 ≤ x
      · by_cases n2 : x ≤ 57
        · have m1 : ¬ x < 48 := by omega
          have m2 : ¬ 57 < x := by omega
          simp [n1, n2, m1, m2, List.cons_lt_cons_iff]
        · have m1 : ¬ x < 48 := by omega
          have m2 : 57 < x := by omega
          simp [n1, n2, m1, m2, List.cons_lt_cons_iff]
      · have m1 : x < 48 := by omega
        simp [n1, m1, List.cons_lt_cons_iff]⟩) hd
  simp only [eL, aC, aN] at f5
  have first : sAsg (eIf (asB (DL.e2 (eqF false) (DL.e2 ixF (eV 0) (eC (.int 0))) (eC (.str "-")))) (eSl (eV 0) (oS (eC (.int 1))) oN) (eV 0)) (gN 1) [some (.str (sO (c :: t))), none, none, none] S = .ok (.nx, [some (.str (sO (c :: t))), some (.str (sO (dgs (c :: t)))), none, none]) S := by
    by_cases h45 : c = 45
    · subst h45
      simp [fnF0, fnF, sNil, sSeq, sEx, sRet, sRetN, sBrk, sCnt, sIf, sAsg, sPar, sFor, sSub, setF, eV, eC, DL.e1, DL.e2, eL, aN, aC, eCall, eTup, eLst, eNew, eM, eAnd, eOr, eNot, eIf, eCh, asB, bAnd, bOr, bNot, bY, gN, gsN, gsC, gT, iL, iT, iS, iR1, iZp, iEn, sdF, oN, oS, eSl, R.bind, oS, f9, f2, f3, dgs]
    · simp [fnF0, fnF, sNil, sSeq, sEx, sRet, sRetN, sBrk, sCnt, sIf, sAsg, sPar, sFor, sSub, setF, eV, eC, DL.e1, DL.e2, eL, aN, aC, eCall, eTup, eLst, eNew, eM, eAnd, eOr, eNot, eIf, eCh, asB, bAnd, bOr, bNot, bY, gN, gsN, gsC, gT, iL, iT, iS, iR1, iZp, iEn, sdF, oN, oS, eSl, R.bind, oS, f9, f2, f3, dgs, h45]
  unfold F__law_number
  simp only [fnF0, fnF, List.map_cons, List.map_nil, List.length_cons, List.length_nil, List.replicate, List.cons_append, List.nil_append]
  unfold sSeq
  rw [first]
  simp only [R.bind]
  generalize hD : dgs (c :: t) = ds at *
  unfold numV badN
  rw [hD]
  by_cases h1 : 1 ≤ ds.length
  · have h1p : 0 < ds.length := h1
    by_cases h2 : ds.length ≤ 7
    · have h2' : (ds.length : Int) < 8 := by omega
      cases h3 : allD ds
      · rw [show ds.all dig = false from h3] at f5
        simp [fnF0, fnF, sNil, sSeq, sEx, sRet, sRetN, sBrk, sCnt, sIf, sAsg, sPar, sFor, sSub, setF, eV, eC, DL.e1, DL.e2, eL, aN, aC, eCall, eTup, eLst, eNew, eM, eAnd, eOr, eNot, eIf, eCh, asB, bAnd, bOr, bNot, bY, gN, gsN, gsC, gT, iL, iT, iS, iR1, iZp, iEn, sdF, oN, oS, eSl, R.bind] at f5
        simp [fnF0, fnF, sNil, sSeq, sEx, sRet, sRetN, sBrk, sCnt, sIf, sAsg, sPar, sFor, sSub, setF, eV, eC, DL.e1, DL.e2, eL, aN, aC, eCall, eTup, eLst, eNew, eM, eAnd, eOr, eNot, eIf, eCh, asB, bAnd, bOr, bNot, bY, gN, gsN, gsC, gT, iL, iT, iS, iR1, iZp, iEn, sdF, oN, oS, eSl, R.bind, f4, cmF, h1, h1p, h2, h2', f5, h3]
      · obtain ⟨e, r, rfl⟩ : ∃ e r, ds = e :: r := by
          cases ds with
          | nil => simp at h1
          | cons e r => exact ⟨e, r, rfl⟩
        rw [show (e :: r).all dig = true from h3] at f5
        have f6 := ix_str0 (c := e) (t := r) hd (S := S)
        have f7 := eqF_str (neg := false) (S := S) (hall e (by simp)) strOk_nul
        rw [show (sO [e] == ("0" : Str)) = decide (e = 48) by rw [s_nul, sO_beq]; simp] at f7
        obtain ⟨z', f10⟩ := fold_num S (.str (sO (c :: t))) (.str (sO (e :: r))) (e :: r) 0 none h3
        simp only [Bool.false_eq_true, if_false] at f7
        have f10s : forGo (gN 3) B__law_number_1 (.str ⟨#[e]⟩ :: r.map fun c => .str ⟨#[c]⟩) [some (.str (sO (c :: t))), some (.str (sO (e :: r))), some (.int 0), none] S = .ok (.nx, [some (.str (sO (c :: t))), some (.str (sO (e :: r))), some (.int ((NumText.digitsVal (e :: r) : Nat) : Int)), z']) S := f10
        have f10' : sFor (iS (eV 1)) (gN 3) B__law_number_1 [some (.str (sO (c :: t))), some (.str (sO (e :: r))), some (.int 0), none] S = .ok (.nx, [some (.str (sO (c :: t))), some (.str (sO (e :: r))), some (.int ((NumText.digitsVal (e :: r) : Nat) : Int)), z']) S := by
          unfold sFor
          have : iS (eV 1) [some (.str (sO (c :: t))), some (.str (sO (e :: r))), some (.int 0), none] S = .ok ((e :: r).map fun c => .str ⟨#[c]⟩) S := by simp [fnF0, fnF, sNil, sSeq, sEx, sRet, sRetN, sBrk, sCnt, sIf, sAsg, sPar, sFor, sSub, setF, eV, eC, DL.e1, DL.e2, eL, aN, aC, eCall, eTup, eLst, eNew, eM, eAnd, eOr, eNot, eIf, eCh, asB, bAnd, bOr, bNot, bY, gN, gsN, gsC, gT, iL, iT, iS, iR1, iZp, iEn, sdF, oN, oS, eSl, R.bind]
          rw [this]
          exact f10
        simp only [eL, aC, aN, R.bind] at f5
        simp at h2 h2'
        have hr3 : (0 : Int) < (r.length : Int) + 1 := by omega
        have cond : (bOr (bNot (asB (eCh ltF ltF (eC (.int 0)) (eL lenF (aC (eV 1) aN)) (eC (.int 8))))) (bOr (bNot (asB (eL allF (aC (eLc (iS (eV 1)) (gN 3) bY E__law_number_0 [3]) aN)))) (bAnd (asB (DL.e2 (eqF false) (DL.e2 ixF (eV 1) (eC (.int 0))) (eC (.str "0")))) (bOr (asB (DL.e2 gtF (eL lenF (aC (eV 1) aN)) (eC (.int 1)))) (asB (DL.e2 (eqF true) (eV 0) (eC (.str "0")))))))) [some (.str (sO (c :: t))), some (.str (sO (e :: r))), none, none] S = .ok (e == 48 && (decide (0 < r.length) || !decide (c :: t = [48]))) S := by
          by_cases he : e = 48
          · subst he
            cases hr : decide (0 < r.length)
            · have hr' : ¬ 0 < r.length := by simpa using hr
              cases hw : decide (c :: t = [48]) <;> rw [hw] at f8 <;> simp [fnF0, fnF, sNil, sSeq, sEx, sRet, sRetN, sBrk, sCnt, sIf, sAsg, sPar, sFor, sSub, setF, eV, eC, DL.e1, DL.e2, eL, aN, aC, eCall, eTup, eLst, eNew, eM, eAnd, eOr, eNot, eIf, eCh, asB, bAnd, bOr, bNot, bY, gN, gsN, gsC, gT, iL, iT, iS, iR1, iZp, iEn, sdF, oN, oS, eSl, R.bind, f4, cmF, h2', hr3, f5, f6, f7, f8, hr', hw] <;> omega
            · have hr' : 0 < r.length := by simpa using hr
              have hr2 : (1 : Int) < (r.length : Int) + 1 := by omega
              have hr4 : decide ((1 : Int) < (r.length : Int) + 1) = true := decide_eq_true hr2
              simp [fnF0, fnF, sNil, sSeq, sEx, sRet, sRetN, sBrk, sCnt, sIf, sAsg, sPar, sFor, sSub, setF, eV, eC, DL.e1, DL.e2, eL, aN, aC, eCall, eTup, eLst, eNew, eM, eAnd, eOr, eNot, eIf, eCh, asB, bAnd, bOr, bNot, bY, gN, gsN, gsC, gT, iL, iT, iS, iR1, iZp, iEn, sdF, oN, oS, eSl, R.bind, f4, cmF, h2', hr3, f5, f6, f7, f8]
              intro q
              omega
          · simp [fnF0, fnF, sNil, sSeq, sEx, sRet, sRetN, sBrk, sCnt, sIf, sAsg, sPar, sFor, sSub, setF, eV, eC, DL.e1, DL.e2, eL, aN, aC, eCall, eTup, eLst, eNew, eM, eAnd, eOr, eNot, eIf, eCh, asB, bAnd, bOr, bNot, bY, gN, gsN, gsC, gT, iL, iT, iS, iR1, iZp, iEn, sdF, oN, oS, eSl, R.bind, f4, cmF, h2', hr3, f5, f6, f7, he]
        unfold sIf
        rw [cond]
        simp only [R.bind]
        have ln : (e :: r).length = r.length + 1 := rfl
        cases hb : (e == 48 && (decide (0 < r.length) || !decide (c :: t = [48])))
        · have nb : (((e :: r).head? == some 48 && (decide (1 < (e :: r).length) || !decide (c :: t = [48])))) = false := by
            rw [← hb]
            simp
          rw [nb]
          by_cases h45 : c = 45
          · subst h45
            simp [fnF0, fnF, sNil, sSeq, sEx, sRet, sRetN, sBrk, sCnt, sIf, sAsg, sPar, sFor, sSub, setF, eV, eC, DL.e1, DL.e2, eL, aN, aC, eCall, eTup, eLst, eNew, eM, eAnd, eOr, eNot, eIf, eCh, asB, bAnd, bOr, bNot, bY, gN, gsN, gsC, gT, iL, iT, iS, iR1, iZp, iEn, sdF, oN, oS, eSl, R.bind, f9, f2n, f10s, h2, h3, subF]
          · simp [fnF0, fnF, sNil, sSeq, sEx, sRet, sRetN, sBrk, sCnt, sIf, sAsg, sPar, sFor, sSub, setF, eV, eC, DL.e1, DL.e2, eL, aN, aC, eCall, eTup, eLst, eNew, eM, eAnd, eOr, eNot, eIf, eCh, asB, bAnd, bOr, bNot, bY, gN, gsN, gsC, gT, iL, iT, iS, iR1, iZp, iEn, sdF, oN, oS, eSl, R.bind, f9, f2n, f10s, h2, h3, h45]
        · have nb : (((e :: r).head? == some 48 && (decide (1 < (e :: r).length) || !decide (c :: t = [48])))) = true := by
            rw [← hb]
            simp
          rw [nb]
          simp [fnF0, fnF, sNil, sSeq, sEx, sRet, sRetN, sBrk, sCnt, sIf, sAsg, sPar, sFor, sSub, setF, eV, eC, DL.e1, DL.e2, eL, aN, aC, eCall, eTup, eLst, eNew, eM, eAnd, eOr, eNot, eIf, eCh, asB, bAnd, bOr, bNot, bY, gN, gsN, gsC, gT, iL, iT, iS, iR1, iZp, iEn, sdF, oN, oS, eSl, R.bind]
    · have h2' : ¬ (ds.length : Int) < 8 := by omega
      simp [fnF0, fnF, sNil, sSeq, sEx, sRet, sRetN, sBrk, sCnt, sIf, sAsg, sPar, sFor, sSub, setF, eV, eC, DL.e1, DL.e2, eL, aN, aC, eCall, eTup, eLst, eNew, eM, eAnd, eOr, eNot, eIf, eCh, asB, bAnd, bOr, bNot, bY, gN, gsN, gsC, gT, iL, iT, iS, iR1, iZp, iEn, sdF, oN, oS, eSl, R.bind, f4, cmF, h1, h1p, h2, h2']
  · have h1' : ¬ 0 < ds.length := by omega
    simp [fnF0, fnF, sNil, sSeq, sEx, sRet, sRetN, sBrk, sCnt, sIf, sAsg, sPar, sFor, sSub, setF, eV, eC, DL.e1, DL.e2, eL, aN, aC, eCall, eTup, eLst, eNew, eM, eAnd, eOr, eNot, eIf, eCh, asB, bAnd, bOr, bNot, bY, gN, gsN, gsC, gT, iL, iT, iS, iR1, iZp, iEn, sdF, oN, oS, eSl, R.bind, f4, cmF, h1, h1']
end P64
end
section
set_option maxRecDepth 100000
set_option maxHeartbeats 8000000
set_option autoImplicit false
set_option linter.all false
namespace P64
open PySem L2 DL
/-! ### what words tell -/
def numD (w : Str) : D := numV w.cps.toList
/-- a word: not empty, not too long -/
structure Gw (w : Str) : Prop where
  ne : w.cps.toList ≠ []
  ok : PyData.strOk w = true
  l : w.length ≤ 50000
theorem told_w {w : Str} (h : Gw w) (S : Store) : F_integer_told [.str w] S = .ok (numD w) S := by
  obtain ⟨⟨l⟩⟩ := w
  have hl : l.length ≤ 50000 := by have := h.l; simpa [Str.length] using this
  cases l with
  | nil => exact absurd rfl h.ne
  | cons c t => exact told_eq h.ok (by simp at hl ⊢; omega) S
theorem number_w {w : Str} (h : Gw w) (S : Store) : F__law_number [.str w] S = .ok (numD w) S := by
  obtain ⟨⟨l⟩⟩ := w
  have hl : l.length ≤ 50000 := by have := h.l; simpa [Str.length] using this
  cases l with
  | nil => exact absurd rfl h.ne
  | cons c t => exact law_number_eq h.ok (by simp at hl ⊢; omega) S
def plainK : Kd → Bool
  | .name => true
  | .point => true
  | .kind => true
  | _ => false
/-- a word as its kind takes it -/
def pv (k : Kd) (w : Str) : D := if plainK k = true then .str w else numD w
theorem in_plain (k : Kd) (S : Store) : inF false (.str k.s) (.tup [.str "name", .str "point", .str "kind"]) S = .ok (.bl (plainK k)) S ∧ inF false (.str k.s) (.lst [.str "name", .str "point", .str "kind"]) S = .ok (.bl (plainK k)) S := by
  have h1 := inV_strsT (neg := false) (w := k.s) (l := ["name", "point", "kind"]) (S := S)
  have h2 := inV_strs (neg := false) (w := k.s) (l := ["name", "point", "kind"]) (S := S)
  have e : (["name", "point", "kind"] : List Str).contains k.s = plainK k := by cases k <;> decide +kernel
  rw [e] at h1 h2
  exact ⟨h1, h2⟩
theorem zip_kw : ∀ (ks : List Kd) (ws : List Str), zipD (ksD ks) (ws.map .str) = (ks.zip ws).map fun q => .tup [.str q.1.s, .str q.2]
  | [], _ => by simp [ksD, zipD]
  | _ :: _, [] => by simp [ksD, zipD]
  | k :: ks, w :: ws => by
    have := zip_kw ks ws
    simp only [ksD] at this
    simp [ksD, zipD, this]
theorem parts_told_eq (ks : List Kd) {ws : List Str} (h : ∀ w ∈ ws, Gw w) (hl : ws.length ≤ 50000) (S : Store) : F_parts_told [.tup (ksD ks), .lst (ws.map .str)] S = .ok (.tup ((ks.zip ws).map fun q => pv q.1 q.2)) S := by
  have key : ∀ qs : List (Kd × Str), (∀ q ∈ qs, Gw q.2) → lcGo (gT (gsC (gN 3) (gsC (gN 4) gsN))) bY E_parts_told_0 [some (.tup (ksD ks)), some (.lst (ws.map .str)), some (.tup [.str "name", .str "point", .str "kind"]), none, none] (qs.map fun q => .tup [.str q.1.s, .str q.2]) S = .ok (qs.map fun q => pv q.1 q.2) S := by
    intro qs
    induction qs with
    | nil => intro _; rfl
    | cons q qs ih =>
      intro hq
      have ih := ih fun z hz => hq z (List.mem_cons_of_mem _ hz)
      have t := told_w (hq q List.mem_cons_self) S
      have p := (in_plain q.1 S).1
      have el : E_parts_told_0 [some (.tup (ksD ks)), some (.lst (ws.map .str)), some (.tup [.str "name", .str "point", .str "kind"]), some (.str q.1.s), some (.str q.2)] S = .ok (pv q.1 q.2) S := by
        unfold pv
        cases hk : plainK q.1 <;> rw [hk] at p <;> simp [E_parts_told_0, fnF0, fnF, sNil, sSeq, sEx, sRet, sRetN, sBrk, sCnt, sIf, sAsg, sPar, sFor, sSub, setF, eV, eC, DL.e1, DL.e2, eL, aN, aC, eCall, eTup, eLst, eNew, eM, eAnd, eOr, eNot, eIf, eCh, asB, bAnd, bOr, bNot, bY, gN, gsN, gsC, gT, iL, iT, iS, iR1, iZp, iEn, sdF, oN, oS, eSl, R.bind, p, t]
      rw [List.map_cons]
      unfold lcGo
      have hb : gT (gsC (gN 3) (gsC (gN 4) gsN)) (.tup [.str q.1.s, .str q.2]) [some (.tup (ksD ks)), some (.lst (ws.map .str)), some (.tup [.str "name", .str "point", .str "kind"]), none, none] = some [some (.tup (ksD ks)), some (.lst (ws.map .str)), some (.tup [.str "name", .str "point", .str "kind"]), some (.str q.1.s), some (.str q.2)] := rfl
      rw [hb]
      simp only [bY, R.bind, if_true, el, ih, List.map_cons]
  have k := key (ks.zip ws) (fun q hq => h q.2 (List.of_mem_zip (a := q.1) (b := q.2) hq).2)
  unfold F_parts_told
  have e : eLc (iZp true false (aC (eV 0) (aC (eV 1) aN))) (gT (gsC (gN 3) (gsC (gN 4) gsN))) bY E_parts_told_0 [3, 4] [some (.tup (ksD ks)), some (.lst (ws.map .str)), some (.tup [.str "name", .str "point", .str "kind"]), none, none] S = .ok (.lst ((ks.zip ws).map fun q => pv q.1 q.2)) S := by
    have hf : iZp true false (aC (eV 0) (aC (eV 1) aN)) [some (.tup (ksD ks)), some (.lst (ws.map .str)), some (.tup [.str "name", .str "point", .str "kind"]), none, none] S = .ok ((ks.zip ws).map fun q => .tup [.str q.1.s, .str q.2]) S := by
      simp [fnF0, fnF, sNil, sSeq, sEx, sRet, sRetN, sBrk, sCnt, sIf, sAsg, sPar, sFor, sSub, setF, eV, eC, DL.e1, DL.e2, eL, aN, aC, eCall, eTup, eLst, eNew, eM, eAnd, eOr, eNot, eIf, eCh, asB, bAnd, bOr, bNot, bY, gN, gsN, gsC, gT, iL, iT, iS, iR1, iZp, iEn, sdF, oN, oS, eSl, R.bind, zip_kw]
    unfold eLc
    rw [hf]
    have hw : wipeR [some (.tup (ksD ks)), some (.lst (ws.map .str)), some (.tup [.str "name", .str "point", .str "kind"]), none, none] [3, 4] = [some (.tup (ksD ks)), some (.lst (ws.map .str)), some (.tup [.str "name", .str "point", .str "kind"]), none, none] := rfl
    simp only [R.bind]
    rw [hw, k]
    simp
    omega
  simp [fnF0, fnF, sNil, sSeq, sEx, sRet, sRetN, sBrk, sCnt, sIf, sAsg, sPar, sFor, sSub, setF, eV, eC, DL.e1, DL.e2, eL, aN, aC, eCall, eTup, eLst, eNew, eM, eAnd, eOr, eNot, eIf, eCh, asB, bAnd, bOr, bNot, bY, gN, gsN, gsC, gT, iL, iT, iS, iR1, iZp, iEn, sdF, oN, oS, eSl, R.bind, e, tupF, seqF]
/-- words by twos -/
def prs : List Str → List D
  | a :: b :: r => .tup [.str a, numD b] :: prs r
  | _ => []
theorem prs_range : ∀ (n : Nat) (ws : List Str), ws.length = 2 * n → (List.range n).map (fun i => D.tup [.str (ws.getD (2 * i) ""), numD (ws.getD (2 * i + 1) "")]) = prs ws
  | 0, ws, h => by
    have : ws = [] := List.length_eq_zero_iff.mp (by omega)
    subst this; rfl
  | n + 1, ws, h => by
    match ws, h with
    | a :: b :: r, h =>
      have ih := prs_range n r (by simp at h; omega)
      rw [List.range_succ_eq_map, List.map_cons, List.map_map]
      show _ :: _ = _ :: _
      congr 1
theorem get_str {ws : List Str} {i : Nat} (h : i < ws.length) (S : Store) : ixF (.lst (ws.map .str)) (.int (i : Int)) S = .ok (.str (ws.getD i "")) S := by
  unfold ixF
  have : atI (ws.map D.str) (i : Int) = some (.str (ws.getD i "")) := by
    rw [atI_nat, List.getElem?_map, List.getElem?_eq_getElem h]
    simp [List.getD, List.getElem?_eq_getElem h]
  simp only [seqF, Option.bind, this]
theorem getD_mem {ws : List Str} {i : Nat} (h : i < ws.length) : ws.getD i "" ∈ ws := by
  simp [List.getD, List.getElem?_eq_getElem h]
theorem pair_at {ws : List Str} (h : ∀ w ∈ ws, Gw w) {i : Nat} (hi : 2 * i + 1 < ws.length) (S : Store) : E_pairs_told_0 [some (.lst (ws.map .str)), some (.int (2 * (i : Int)))] S = .ok (.tup [.str (ws.getD (2 * i) ""), numD (ws.getD (2 * i + 1) "")]) S := by
  have g1 := get_str (ws := ws) (i := 2 * i) (by omega) S
  have g2 := get_str (ws := ws) (i := 2 * i + 1) (by omega) S
  have c1 : ((2 * i : Nat) : Int) = 2 * (i : Int) := by omega
  have c2 : ((2 * i + 1 : Nat) : Int) = 2 * (i : Int) + 1 := by omega
  rw [c1] at g1
  rw [c2] at g2
  have t := told_w (h _ (getD_mem (ws := ws) (i := 2 * i + 1) (by omega))) S
  generalize ws.getD (2 * i) "" = a at *
  generalize ws.getD (2 * i + 1) "" = b at *
  simp only [E_pairs_told_0, fnF0, fnF, sNil, sSeq, sEx, sRet, sRetN, sBrk, sCnt, sIf, sAsg, sPar, sFor, sSub, setF, eV, eC, DL.e1, DL.e2, eL, aN, aC, eCall, eTup, eLst, eNew, eM, eAnd, eOr, eNot, eIf, eCh, asB, bAnd, bOr, bNot, bY, gN, gsN, gsC, gT, iL, iT, iS, iR1, iZp, iEn, sdF, oN, oS, eSl, R.bind, List.getElem?_cons_zero, List.getElem?_cons_succ, g1, addF, g2, List.length_cons, List.length_nil, t]
  simp
theorem told_lc {ws : List Str} (h : ∀ w ∈ ws, Gw w) (S : Store) : ∀ (l : List Nat), (∀ i ∈ l, 2 * i + 1 < ws.length) → lcGo (gN 1) bY E_pairs_told_0 [some (.lst (ws.map .str)), none] (l.map fun (i : Nat) => .int (2 * (i : Int))) S = .ok (l.map fun i => .tup [.str (ws.getD (2 * i) ""), numD (ws.getD (2 * i + 1) "")]) S
  | [], _ => rfl
  | i :: l, hi => by
    have ih := told_lc h S l fun j hj => hi j (List.mem_cons_of_mem _ hj)
    have p := pair_at h (hi i List.mem_cons_self) S
    rw [List.map_cons, List.map_cons]
    unfold lcGo
    have hb : gN 1 (.int (2 * (i : Int))) [some (.lst (ws.map .str)), none] = some [some (.lst (ws.map .str)), some (.int (2 * (i : Int)))] := rfl
    rw [hb]
    simp only [bY, R.bind, if_true, p, ih]
theorem pt_odd {ws : List Str} (S : Store) (ho : ws.length % 2 = 1) : F_pairs_told [.lst (ws.map .str)] S = .ok .non S := by
  have q : (ws.length : Int) % 2 = 1 := by omega
  unfold F_pairs_told
  simp [fnF0, fnF, sNil, sSeq, sEx, sRet, sRetN, sBrk, sCnt, sIf, sAsg, sPar, sFor, sSub, setF, eV, eC, DL.e1, DL.e2, eL, aN, aC, eCall, eTup, eLst, eNew, eM, eAnd, eOr, eNot, eIf, eCh, asB, bAnd, bOr, bNot, bY, gN, gsN, gsC, gT, iL, iT, iS, iR1, iZp, iEn, sdF, oN, oS, eSl, R.bind, lenF, seqF, modF, eqF_int, q]
theorem pt_n {ws : List Str} {n : Nat} (hn : ws.length = 2 * n) : (((ws.length : Int) + 1) / 2).toNat = n := by omega
theorem pt_b {ws : List Str} (hl : ws.length ≤ 50000) : (ws.length : Int) < 2 ^ 30 := by
  have : (ws.length : Int) ≤ 50000 := by omega
  exact Int.lt_of_le_of_lt this (by decide)
theorem iR3_eq {fa : AF} {ρ : Rho} {S : Store} {j : Int} (hf : fa ρ S = .ok [.int 0, .int j, .int 2] S) (h0 : 0 ≤ j) (h1 : j < 2 ^ 30) : iR3 fa ρ S = .ok ((List.range ((j + 1) / 2).toNat).map fun (i : Nat) => .int (2 * (i : Int))) S := by
  unfold iR3
  rw [hf]
  simp only [R.bind]
  rw [if_pos ⟨trivial, trivial, h0, h1⟩]
theorem pt_it {ws : List Str} {n : Nat} (hn : ws.length = 2 * n) (hl : ws.length ≤ 50000) (S : Store) : iR3 (aC (eC (.int 0)) (aC (eL lenF (aC (eV 0) aN)) (aC (eC (.int 2)) aN))) [some (.lst (ws.map .str)), none] S = .ok ((List.range n).map fun (i : Nat) => .int (2 * (i : Int))) S := by
  have e := iR3_eq (fa := aC (eC (.int 0)) (aC (eL lenF (aC (eV 0) aN)) (aC (eC (.int 2)) aN))) (ρ := [some (.lst (ws.map .str)), none]) (S := S) (j := (ws.length : Int)) (by simp [fnF0, fnF, sNil, sSeq, sEx, sRet, sRetN, sBrk, sCnt, sIf, sAsg, sPar, sFor, sSub, setF, eV, eC, DL.e1, DL.e2, eL, aN, aC, eCall, eTup, eLst, eNew, eM, eAnd, eOr, eNot, eIf, eCh, asB, bAnd, bOr, bNot, bY, gN, gsN, gsC, gT, iL, iT, iS, iR1, iZp, iEn, sdF, oN, oS, eSl, R.bind, lenF, seqF]) (Int.natCast_nonneg _) (pt_b hl)
  rw [pt_n hn] at e
  exact e
theorem pt_fit {n : Nat} {ws : List Str} (hn : ws.length = 2 * n) (hl : ws.length ≤ 50000) : n ≤ 1000000 := by omega
theorem eLc_go {fa : AF} {b : D → Rho → Option Rho} {fe : EF} {vs : List Nat} {ρ : Rho} {S : Store} {ds ys : List D} (hf : fa ρ S = .ok ds S) (h : lcGo b bY fe (wipeR ρ vs) ds S = .ok ys S) (hl : ds.length ≤ 1000000) : eLc fa b bY fe vs ρ S = .ok (.lst ys) S := by
  unfold eLc
  rw [hf]
  simp only [R.bind]
  rw [h]
  simp only []
  rw [if_pos hl]
theorem pt_e {ws : List Str} (h : ∀ w ∈ ws, Gw w) {n : Nat} (hn : ws.length = 2 * n) (hl : ws.length ≤ 50000) (S : Store) : eLc (iR3 (aC (eC (.int 0)) (aC (eL lenF (aC (eV 0) aN)) (aC (eC (.int 2)) aN)))) (gN 1) bY E_pairs_told_0 [1] [some (.lst (ws.map .str)), none] S = .ok (.lst (prs ws)) S := by
  have k := told_lc h S (List.range n) fun i hi => by
    have := List.mem_range.mp hi
    omega
  rw [prs_range n ws hn] at k
  exact eLc_go (pt_it hn hl S) k (by rw [List.length_map, List.length_range]; exact pt_fit hn hl)
theorem pt_even {x : D} {m : Int} {ps : List D} {S : Store} (hl : lenF [x] S = .ok (.int m) S) (q : ¬ m % 2 = 1) (e : eLc (iR3 (aC (eC (.int 0)) (aC (eL lenF (aC (eV 0) aN)) (aC (eC (.int 2)) aN)))) (gN 1) bY E_pairs_told_0 [1] [some x, none] S = .ok (.lst ps) S) : F_pairs_told [x] S = .ok (.tup ps) S := by
  unfold F_pairs_told
  simp [fnF0, fnF, sNil, sSeq, sEx, sRet, sRetN, sBrk, sCnt, sIf, sAsg, sPar, sFor, sSub, setF, eV, eC, DL.e1, DL.e2, eL, aN, aC, eCall, eTup, eLst, eNew, eM, eAnd, eOr, eNot, eIf, eCh, asB, bAnd, bOr, bNot, bY, gN, gsN, gsC, gT, iL, iT, iS, iR1, iZp, iEn, sdF, oN, oS, eSl, R.bind, hl, modF, eqF_int, q]
  rw [e]
  simp [tupF, seqF]
theorem pairs_told_eq {ws : List Str} (h : ∀ w ∈ ws, Gw w) (hl : ws.length ≤ 50000) (S : Store) : F_pairs_told [.lst (ws.map .str)] S = .ok (if ws.length % 2 = 1 then .non else .tup (prs ws)) S := by
  by_cases ho : ws.length % 2 = 1
  · rw [if_pos ho]
    exact pt_odd S ho
  · rw [if_neg ho]
    obtain ⟨n, hn⟩ : ∃ n, ws.length = 2 * n := ⟨ws.length / 2, by omega⟩
    exact pt_even (m := (ws.length : Int)) (by simp [lenF, seqF]) (by omega) (pt_e h hn hl S)
end P64
end
section
set_option maxRecDepth 100000
set_option maxHeartbeats 8000000
set_option autoImplicit false
set_option linter.all false
namespace P64
open PySem L2 DL
theorem fold_lt : ∀ (l : List Nat) (n : Nat), allD l = true → l.foldl (fun acc c => acc * 10 + (c - 48)) n < (n + 1) * 10 ^ l.length
  | [], n, _ => by simp
  | c :: l, n, h => by
    have hc : dig c = true ∧ allD l = true := by simpa [allD] using h
    have hc2 : 48 ≤ c ∧ c ≤ 57 := by have := hc.1; unfold dig at this; simpa using this
    have ih := fold_lt l (n * 10 + (c - 48)) hc.2
    rw [List.foldl_cons, List.length_cons, Nat.pow_succ]
    have : (n * 10 + (c - 48) + 1) * 10 ^ l.length ≤ (n + 1) * (10 ^ l.length * 10) := by
      rw [Nat.mul_comm (10 ^ l.length) 10, ← Nat.mul_assoc]
      exact Nat.mul_le_mul_right _ (by omega)
    omega
theorem dig_lt {l : List Nat} (h : allD l = true) (hl : l.length ≤ 7) : NumText.digitsVal l < 10 ^ 8 := by
  have := fold_lt l 0 h
  have e : (0 + 1) * 10 ^ l.length ≤ 10 ^ 7 := by rw [Nat.zero_add, Nat.one_mul]; exact Nat.pow_le_pow_right (by decide) hl
  unfold NumText.digitsVal
  have : (10 : Nat) ^ 7 < 10 ^ 8 := by decide
  omega
theorem numD_ok (w : Str) : okF (numD w) = true ∧ wt (numD w) ≤ 50 ∧ dp (numD w) = 0 := by
  unfold numD numV
  split
  · exact ⟨rfl, by simp [wt], rfl⟩
  · rename_i hb
    unfold badN at hb
    simp at hb
    obtain ⟨⟨h1, h2⟩, h3, _⟩ := hb
    have lt := dig_lt h3 h2
    have e : (10 : Nat) ^ 8 < 10 ^ 12 := by decide
    split
    · refine ⟨?_, Nat.le_refl _, rfl⟩
      simp only [okF]
      apply decide_eq_true
      rw [Int.natAbs_neg, Int.natAbs_natCast]
      omega
    · refine ⟨?_, Nat.le_refl _, rfl⟩
      simp only [okF]
      apply decide_eq_true
      rw [Int.natAbs_natCast]
      omega
def wsum (ws : List Str) : Nat := (ws.map fun w => w.length + 60).sum
theorem pv_ok (k : Kd) {w : Str} (h : Gw w) : okF (pv k w) = true ∧ wt (pv k w) ≤ w.length + 50 ∧ dp (pv k w) = 0 := by
  unfold pv
  split
  · exact ⟨h.ok, by simp [wt], rfl⟩
  · have := numD_ok w
    exact ⟨this.1, by omega, this.2.2⟩
theorem zip_ok : ∀ (ks : List Kd) (ws : List Str), (∀ w ∈ ws, Gw w) → okFs ((ks.zip ws).map fun q => pv q.1 q.2) = true ∧ wts ((ks.zip ws).map fun q => pv q.1 q.2) ≤ wsum ws ∧ dps ((ks.zip ws).map fun q => pv q.1 q.2) = 0
  | [], ws, _ => by simp [okFs, wts, dps]
  | _ :: _, [], _ => by simp [okFs, wts, dps]
  | k :: ks, w :: ws, h => by
    obtain ⟨i1, i2, i3⟩ := zip_ok ks ws fun z hz => h z (List.mem_cons_of_mem _ hz)
    obtain ⟨p1, p2, p3⟩ := pv_ok k (h w List.mem_cons_self)
    refine ⟨by simp [okFs, p1, i1], ?_, by simp [dps, p3, i3]⟩
    simp [wts, wsum] at i2 ⊢
    omega
theorem prs_ok : ∀ (ws : List Str), (∀ w ∈ ws, Gw w) → okFs (prs ws) = true ∧ wts (prs ws) ≤ wsum ws ∧ dps (prs ws) ≤ 1
  | [], _ => by simp [prs, okFs, wts, dps]
  | [_], _ => by simp [prs, okFs, wts, dps]
  | a :: b :: r, h => by
    obtain ⟨i1, i2, i3⟩ := prs_ok r fun z hz => h z (List.mem_cons_of_mem _ (List.mem_cons_of_mem _ hz))
    obtain ⟨n1, n2, n3⟩ := numD_ok b
    have ha := (h a List.mem_cons_self).ok
    have ha' : okF (.str a) = true := ha
    refine ⟨by simp [prs, okFs, okF, n1, i1]; simpa [okF] using ha', ?_, ?_⟩
    · simp [prs, wts, wt, wsum] at i2 ⊢
      omega
    · simp [prs, dps, dp, n3]
      omega
/-- what a line's words tell -/
def told : List Str → Option D
  | [] => none
  | w :: rest => match kindsOf w with
    | none => none
    | some ks => if ks.getLast? = some .pairs then (match rest with
        | [] => none
        | r0 :: rs => if rs.length % 2 = 1 then none else if cmdB (.tup [.str w, pv (ks.headD .name) r0, .tup (prs rs)]) = true then some (.tup [.str w, pv (ks.headD .name) r0, .tup (prs rs)]) else none)
      else if rest.length = ks.length then if cmdB (.tup (.str w :: (ks.zip rest).map fun q => pv q.1 q.2)) = true then some (.tup (.str w :: (ks.zip rest).map fun q => pv q.1 q.2)) else none else none
theorem cut_last {α : Type} (xs : List α) (x : α) : cutL (xs ++ [x]) (some (-1)) none = [x] := by
  have e : (-1 + ((xs.length : Int) + 1)).toNat = xs.length := by omega
  unfold cutL HT.sIx
  simp [e]
theorem cut_init {α : Type} (xs : List α) (x : α) : cutL (xs ++ [x]) none (some (-1)) = xs := by
  have e : (-1 + ((xs.length : Int) + 1)).toNat = xs.length := by omega
  unfold cutL HT.sIx
  simp [e]
theorem last_eq (ks : List Kd) (S : Store) : eqF false (.tup (cutL (ksD ks) (some (-1)) none)) (.tup [.str "pairs"]) S = .ok (.bl (decide (ks.getLast? = some .pairs))) S := by
  have hp : PyData.strOk ("pairs" : Str) = true := by decide +kernel
  rcases List.eq_nil_or_concat ks with rfl | ⟨l, k, rfl⟩
  · have : cutL (ksD []) (some (-1)) none = [] := rfl
    rw [this]
    simp [eqF, toPyS, toPy, toPys, SeqAt.shaped, PyData.canLay0, PyData.canLayAll0, PyData.depth, PyData.depthAll, PyData.eqv, PyData.eqvAll, hp]
  · have e : ksD (l ++ [k]) = ksD l ++ [.str k.s] := by simp [ksD]
    rw [List.concat_eq_append, e, cut_last]
    have q : (k.s == ("pairs" : Str)) = decide (k = .pairs) := by cases k <;> decide +kernel
    simp [eqF, toPyS, toPy, toPys, SeqAt.shaped, PyData.canLay0, PyData.canLayAll0, PyData.depth, PyData.depthAll, PyData.eqv, PyData.eqvAll, hp, kd_ok k]
    exact q
/-- the kinds with pairs in them: one kind ahead of them -/
theorem pairs_last {w : Str} {ks : List Kd} (h : kindsOf w = some ks) (hp : ks.getLast? = some .pairs) : ∃ k, ks = [k, .pairs] ∧ k ≠ .pairs := by
  have := kinds_few h
  simp only [tK, List.mem_cons, List.not_mem_nil, or_false, Prod.mk.injEq] at this
  rcases this with ⟨_, rfl⟩ | ⟨_, rfl⟩ | ⟨_, rfl⟩ | ⟨_, rfl⟩ | ⟨_, rfl⟩ | ⟨_, rfl⟩ | ⟨_, rfl⟩ | ⟨_, rfl⟩ | ⟨_, rfl⟩ | ⟨_, rfl⟩ | ⟨_, rfl⟩ | ⟨_, rfl⟩ | ⟨_, rfl⟩ | ⟨_, rfl⟩ <;>
    first | exact ⟨_, rfl, by decide⟩ | (exact absurd hp (by decide))
theorem no_pairs {w : Str} {ks : List Kd} (h : kindsOf w = some ks) (hp : ks.getLast? ≠ some .pairs) : .pairs ∉ ks := by
  have := kinds_few h
  simp only [tK, List.mem_cons, List.not_mem_nil, or_false, Prod.mk.injEq] at this
  rcases this with ⟨_, rfl⟩ | ⟨_, rfl⟩ | ⟨_, rfl⟩ | ⟨_, rfl⟩ | ⟨_, rfl⟩ | ⟨_, rfl⟩ | ⟨_, rfl⟩ | ⟨_, rfl⟩ | ⟨_, rfl⟩ | ⟨_, rfl⟩ | ⟨_, rfl⟩ | ⟨_, rfl⟩ | ⟨_, rfl⟩ | ⟨_, rfl⟩ <;>
    first | decide | (exact absurd rfl hp)
structure Gws (ws : List Str) : Prop where
  g : ∀ w ∈ ws, Gw w
  s : wsum ws ≤ 80000
theorem wsum_len : ∀ ws : List Str, 60 * ws.length ≤ wsum ws
  | [] => by simp [wsum]
  | w :: ws => by
    have := wsum_len ws
    simp [wsum] at this ⊢
    omega
theorem Gws.tail {w : Str} {ws : List Str} (h : Gws (w :: ws)) : Gws ws := ⟨fun z hz => h.g z (List.mem_cons_of_mem _ hz), by have := h.s; simp [wsum] at this ⊢; omega⟩
theorem Gws.len {ws : List Str} (h : Gws ws) : ws.length ≤ 50000 := by have := wsum_len ws; have := h.s; omega
theorem sm_cmd {w : Str} {ps : List D} (hw : PyData.strOk w = true) (hl : w.length ≤ 5000) (h1 : okFs ps = true) (h2 : wts ps ≤ 90000) : Sm 100000 (.tup (.str w :: ps)) := by
  have hw' : okF (.str w) = true := hw
  refine ⟨by simp only [okF, okFs, Bool.and_eq_true]; exact ⟨by simpa [okF] using hw', h1⟩, ?_⟩
  simp [wt, wts]
  omega
theorem kinds_len {w : Str} {ks : List Kd} (h : kindsOf w = some ks) : w.length ≤ 10 ∧ ks.length ≤ 5 := by
  have hm := kinds_few h
  have : ∀ p ∈ tK, p.1.length ≤ 10 ∧ p.2.length ≤ 5 := by decide +kernel
  exact this _ hm
theorem cmdB_one (w : Str) (ks : List Kd) (h : kindsOf w = some ks) (ps : List D) : cmdB (.tup (.str w :: ps)) = allK ks ps := by simp [cmdB, h]
/-- the program's command of a line's words, as it answers the law's -/
theorem command_told_eq {w : Str} {rest : List Str} (h : Gws (w :: rest)) (S : Store) : ∃ c, F_command_told [.lst ((w :: rest).map .str)] S = .ok c S ∧ Sm 100000 c ∧ told (w :: rest) = if cmdB c = true then some c else none := by
  have hr := h.tail
  have hw := h.g w List.mem_cons_self
  have g := get_parts w S
  have i0 : ixF (.lst ((w :: rest).map .str)) (.int 0) S = .ok (.str w) S := by simp [ixF, seqF, atI_0]
  have s1 : slF (.lst ((w :: rest).map .str)) (some 1) none S = .ok (.lst (rest.map .str)) S := by simp [slF, rlF, lsF, cut_1]
  simp only [List.map_cons] at i0 s1
  cases hk : kindsOf w with
  | none =>
    rw [hk] at g
    refine ⟨.tup [], ?_, ⟨rfl, by simp [wt, wts]⟩, by simp [told, hk, cmdB]⟩
    unfold F_command_told
    simp [fnF0, fnF, sNil, sSeq, sEx, sRet, sRetN, sBrk, sCnt, sIf, sAsg, sPar, sFor, sSub, setF, eV, eC, DL.e1, DL.e2, eL, aN, aC, eCall, eTup, eLst, eNew, eM, eAnd, eOr, eNot, eIf, eCh, asB, bAnd, bOr, bNot, bY, gN, gsN, gsC, gT, iL, iT, iS, iR1, iZp, iEn, sdF, oN, oS, eSl, R.bind, i0, s1, oS, g, isF]
  | some ks =>
    rw [hk] at g
    obtain ⟨wl, kl⟩ := kinds_len hk
    have le := last_eq ks S
    by_cases hp : ks.getLast? = some .pairs
    · obtain ⟨k, rfl, hkp⟩ := pairs_last hk hp
      have pt := parts_told_eq [k] (ws := rest.take 1) (fun z hz => hr.g z (List.mem_of_mem_take hz)) (by have := hr.len; simp; omega) S
      have pp := pairs_told_eq (ws := rest.drop 1) (fun z hz => hr.g z (List.mem_of_mem_drop hz)) (by have := hr.len; simp; omega) S
      have c1 : cutL (ksD [k, .pairs]) none (some (-1)) = ksD [k] := rfl
      have s2 : slF (.lst (rest.map .str)) none (some 1) S = .ok (.lst ((rest.take 1).map .str)) S := by
        have := cut_to (rest.map D.str) 1
        simp only [slF, rlF, lsF]
        rw [show (some (1 : Int)) = some ((1 : Nat) : Int) from rfl, this, List.map_take]
      have s3 : slF (.lst (rest.map .str)) (some 1) none S = .ok (.lst ((rest.drop 1).map .str)) S := by
        have := cut_from (rest.map D.str) 1
        simp only [slF, rlF, lsF]
        rw [show (some (1 : Int)) = some ((1 : Nat) : Int) from rfl, this, List.map_drop]
      have t1 : slF (.tup (ksD [k, .pairs])) (some (-1)) none S = .ok (.tup (cutL (ksD [k, .pairs]) (some (-1)) none)) S := rfl
      have t2 : slF (.tup (ksD [k, .pairs])) none (some (-1)) S = .ok (.tup (ksD [k])) S := rfl
      simp only [hp, decide_true] at le
      have sz : (2 : Nat) ≤ sizeLine ∧ (3 : Nat) ≤ sizeLine := by decide
      cases rest with
      | nil =>
        simp only [List.take_nil, List.drop_nil, List.map_nil, List.zip_nil_right, List.length_nil, Nat.zero_mod, prs, Nat.zero_ne_one, if_false] at pt pp s2 s3 s1 i0
        refine ⟨.tup [.str w, .tup []], ?_, sm_cmd hw.ok (by omega) rfl (by simp [wts, wt]), by simp [told, hk, cmdB, allK]⟩
        unfold F_command_told
        simp [fnF0, fnF, sNil, sSeq, sEx, sRet, sRetN, sBrk, sCnt, sIf, sAsg, sPar, sFor, sSub, setF, eV, eC, DL.e1, DL.e2, eL, aN, aC, eCall, eTup, eLst, eNew, eM, eAnd, eOr, eNot, eIf, eCh, asB, bAnd, bOr, bNot, bY, gN, gsN, gsC, gT, iL, iT, iS, iR1, iZp, iEn, sdF, oN, oS, eSl, R.bind, i0, s1, oS, g, isF, t1, t2, le, negF, s2, s3, pt, pp, addF, sz.1, Nat.le_trans (by decide : 1 ≤ 2) sz.1]
      | cons r0 rs =>
        simp only [List.take_succ_cons, List.take_zero, List.drop_succ_cons, List.drop_zero, List.map_cons, List.map_nil, List.zip_cons_cons, List.zip_nil_right] at pt pp s2 s3 s1 i0
        have hr0 := hr.g r0 List.mem_cons_self
        obtain ⟨q1, q2, q3⟩ := pv_ok k hr0
        obtain ⟨z1, z2, z3⟩ := prs_ok rs hr.tail.g
        have hsum := h.s
        refine ⟨.tup [.str w, pv k r0, if rs.length % 2 = 1 then .non else .tup (prs rs)], ?_, ?_, ?_⟩
        · unfold F_command_told
          simp [fnF0, fnF, sNil, sSeq, sEx, sRet, sRetN, sBrk, sCnt, sIf, sAsg, sPar, sFor, sSub, setF, eV, eC, DL.e1, DL.e2, eL, aN, aC, eCall, eTup, eLst, eNew, eM, eAnd, eOr, eNot, eIf, eCh, asB, bAnd, bOr, bNot, bY, gN, gsN, gsC, gT, iL, iT, iS, iR1, iZp, iEn, sdF, oN, oS, eSl, R.bind, i0, s1, oS, g, isF, t1, t2, le, negF, s2, s3, pt, pp, addF, sz.1, sz.2]
        · refine sm_cmd hw.ok (by omega) ?_ ?_
          · split <;> simp [okFs, okF, q1, z1]
          · simp [wsum] at hsum z2
            split <;> simp [wts, wt, wsum] <;> omega
        · by_cases ho : rs.length % 2 = 1
          · simp [told, hk, ho, cmdB, allK, kB, pairsB]
          · simp [told, hk, ho]
    · have nl : ¬ ks.getLast? = some .pairs := hp
      simp only [nl, decide_false] at le
      have t1 : slF (.tup (ksD ks)) (some (-1)) none S = .ok (.tup (cutL (ksD ks) (some (-1)) none)) S := rfl
      by_cases hl : rest.length = ks.length
      · have pt := parts_told_eq ks (ws := rest) hr.g (by have := hr.len; omega) S
        obtain ⟨z1, z2, z3⟩ := zip_ok ks rest hr.g
        have hsum := h.s
        have sz : ((ks.zip rest).map fun q => pv q.1 q.2).length + 1 ≤ sizeLine := by
          have : ((ks.zip rest).map fun q => pv q.1 q.2).length ≤ 5 := by simp [List.length_zip]; omega
          exact Nat.le_trans (by omega : _ ≤ 6) (by decide)
        refine ⟨.tup (.str w :: (ks.zip rest).map fun q => pv q.1 q.2), ?_, sm_cmd hw.ok (by omega) z1 (by simp [wsum] at hsum z2 ⊢; omega), by simp only [told, hk, if_neg nl, if_pos hl]⟩
        unfold F_command_told
        have lq : ((ks.length : Nat) : Int) = ((rest.length : Nat) : Int) := by omega
        simp [fnF0, fnF, sNil, sSeq, sEx, sRet, sRetN, sBrk, sCnt, sIf, sAsg, sPar, sFor, sSub, setF, eV, eC, DL.e1, DL.e2, eL, aN, aC, eCall, eTup, eLst, eNew, eM, eAnd, eOr, eNot, eIf, eCh, asB, bAnd, bOr, bNot, bY, gN, gsN, gsC, gT, iL, iT, iS, iR1, iZp, iEn, sdF, oN, oS, eSl, R.bind, i0, s1, oS, g, isF, t1, le, negF, lenF, seqF, eqF_int, ksD_len, lq, pt, addF]
        have sm : 1 + min ks.length rest.length ≤ sizeLine := Nat.le_trans (by omega : _ ≤ 6) (by decide)
        simp [sm]
      · refine ⟨.tup [], ?_, ⟨rfl, by simp [wt, wts]⟩, by simp only [told, hk, if_neg nl, if_neg hl]; simp [cmdB]⟩
        have lq : ¬ ((ks.length : Nat) : Int) = ((rest.length : Nat) : Int) := by omega
        unfold F_command_told
        simp [fnF0, fnF, sNil, sSeq, sEx, sRet, sRetN, sBrk, sCnt, sIf, sAsg, sPar, sFor, sSub, setF, eV, eC, DL.e1, DL.e2, eL, aN, aC, eCall, eTup, eLst, eNew, eM, eAnd, eOr, eNot, eIf, eCh, asB, bAnd, bOr, bNot, bY, gN, gsN, gsC, gT, iL, iT, iS, iR1, iZp, iEn, sdF, oN, oS, eSl, R.bind, i0, s1, oS, g, isF, t1, le, negF, lenF, seqF, eqF_int, ksD_len, lq]
/-! ### the law's telling -/
theorem pairs_in : ∀ ks : List Kd, (ks.map Kd.s).contains ("pairs" : Str) = decide (.pairs ∈ ks)
  | [] => rfl
  | k :: ks => by
    rw [List.map_cons, List.contains_cons, pairs_in ks]
    have q : (("pairs" : Str) == k.s) = decide (k = .pairs) := by cases k <;> decide +kernel
    rw [q]
    by_cases hk : k = .pairs
    · subst hk; simp
    · have hk' : ¬ Kd.pairs = k := fun z => hk z.symm
      simp [hk, hk']
theorem in_pairs {neg : Bool} (ks : List Kd) (S : Store) : inF neg (.str "pairs") (.lst (ksD ks)) S = .ok (.bl (if neg then !decide (.pairs ∈ ks) else decide (.pairs ∈ ks))) S := by
  have h := inV_strs (neg := neg) (w := "pairs") (l := ks.map Kd.s) (S := S)
  have e1 : ((ks.map Kd.s).map D.str) = ksD ks := by simp [ksD, List.map_map]
  rw [e1, pairs_in] at h
  exact h
theorem ks_at (ks : List Kd) (i : Nat) {k : Kd} (h : ks[i]? = some k) (S : Store) : ixF (.lst (ksD ks)) (.int (i : Int)) S = .ok (.str k.s) S := by
  unfold ixF
  have : atI (ksD ks) (i : Int) = some (.str k.s) := by
    rw [atI_nat]
    simp [ksD, h]
  simp only [seqF, Option.bind, this]
theorem w_at (ws : List Str) (i : Nat) {w : Str} (h : ws[i]? = some w) (S : Store) : ixF (.lst (ws.map .str)) (.int (i : Int)) S = .ok (.str w) S := by
  unfold ixF
  have : atI (ws.map D.str) (i : Int) = some (.str w) := by
    rw [atI_nat]
    simp [h]
  simp only [seqF, Option.bind, this]
/-- one turn of the law's telling: a kind that is no pairs -/
theorem turn_plain (ws : List Str) (ks : List Kd) (i : Nat) {k : Kd} {w : Str} (hk : ks[i]? = some k) (hn : k ≠ .pairs) (hw : ws[i + 1]? = some w) (gw : Gw w) (S : Store) (acc : List D) (ha : acc.length ≤ 100) (z1 z2 : Option D) :
    B__law_told_1 [some (.lst (ws.map .str)), some (.lst (ksD ks)), some (.hd S.length), some (.int (i : Nat)), z1, z2] (S ++ [.lst acc]) = .ok (.nx, [some (.lst (ws.map .str)), some (.lst (ksD ks)), some (.hd S.length), some (.int (i : Nat)), z1, z2]) (S ++ [.lst (acc ++ [pv k w])]) := by
  have e1' := ks_at ks i hk (S ++ [.lst acc])
  have e2' := w_at ws (i + 1) hw (S ++ [.lst acc])
  have q := eq_kd (neg := false) k "pairs" (by decide +kernel) (S := S ++ [.lst acc])
  have qq : (k.s == ("pairs" : Str)) = false := by cases k <;> first | decide +kernel | exact absurd rfl hn
  rw [qq] at q
  have p := (in_plain k (S ++ [.lst acc])).2
  have n := number_w gw (S ++ [.lst acc])
  have c : ((i + 1 : Nat) : Int) = (i : Int) + 1 := by omega
  rw [c] at e2'
  have sz : acc.length < sizeLine := Nat.lt_of_le_of_lt ha (by decide)
  unfold pv
  cases hp : plainK k <;> rw [hp] at p <;> simp [B__law_told_1, fnF0, fnF, sNil, sSeq, sEx, sRet, sRetN, sBrk, sCnt, sIf, sAsg, sPar, sFor, sSub, setF, eV, eC, DL.e1, DL.e2, eL, aN, aC, eCall, eTup, eLst, eNew, eM, eAnd, eOr, eNot, eIf, eCh, asB, bAnd, bOr, bNot, bY, gN, gsN, gsC, gT, iL, iT, iS, iR1, iZp, iEn, sdF, oN, oS, eSl, R.bind, e1', e2', q, p, n, addF, tagF, appendF, sz]
/-- the law's turns over kinds that are no pairs -/
theorem turns_plain (ws : List Str) (ks : List Kd) (S : Store) (hn : ∀ k ∈ ks, k ≠ .pairs) (hw : ∀ w ∈ ws, Gw w) : ∀ (m i : Nat) (acc : List D) (z z1 z2 : Option D), i + m = ks.length → ws.length = ks.length + 1 → acc.length + m ≤ 100 →
    ∃ ρ', forGo (gN 3) B__law_told_1 ((List.range' i m).map fun (j : Nat) => .int ((0 : Int) + (j : Int))) [some (.lst (ws.map .str)), some (.lst (ksD ks)), some (.hd S.length), z, z1, z2] (S ++ [.lst acc]) = .ok (.nx, ρ') (S ++ [.lst (acc ++ ((ks.drop i).zip (ws.drop (i + 1))).map fun q => pv q.1 q.2)]) ∧ ρ'[2]? = some (some (.hd S.length))
  | 0, i, acc, z, z1, z2, h1, h2, _ => by
    refine ⟨[some (.lst (ws.map .str)), some (.lst (ksD ks)), some (.hd S.length), z, z1, z2], ?_, rfl⟩
    have : ks.drop i = [] := List.drop_eq_nil_of_le (by omega)
    rw [this]
    simp [forGo]
  | m + 1, i, acc, z, z1, z2, h1, h2, h3 => by
    have hi : i < ks.length := by omega
    have hk : ks[i]? = some ks[i] := List.getElem?_eq_getElem hi
    have hwi : ws[i + 1]? = some ws[i + 1] := List.getElem?_eq_getElem (by omega)
    have t := turn_plain ws ks i hk (hn _ (List.getElem_mem hi)) hwi (hw _ (List.getElem_mem (by omega))) S acc (by omega) z1 z2
    obtain ⟨ρ', e, r⟩ := turns_plain ws ks S hn hw m (i + 1) (acc ++ [pv ks[i] ws[i + 1]]) (some (.int (i : Nat))) z1 z2 (by omega) h2 (by simp; omega)
    refine ⟨ρ', ?_, r⟩
    rw [List.range'_succ, List.map_cons]
    unfold forGo
    have hb : gN 3 (.int ((0 : Int) + (i : Int))) [some (.lst (ws.map .str)), some (.lst (ksD ks)), some (.hd S.length), z, z1, z2] = some [some (.lst (ws.map .str)), some (.lst (ksD ks)), some (.hd S.length), some (.int (i : Nat)), z1, z2] := by
      rw [Int.zero_add]; rfl
    rw [hb]
    dsimp only
    rw [t]
    simp only [R.bind]
    rw [e, List.append_assoc, List.drop_eq_getElem_cons hi, List.drop_eq_getElem_cons (by omega : i + 1 < ws.length)]
    rfl
end P64
end
section
set_option maxRecDepth 100000
set_option maxHeartbeats 8000000
set_option autoImplicit false
set_option linter.all false
namespace P64
open PySem L2 DL
mutual
theorem okD_of (m : Nat) : ∀ {d : D}, okF d = true → okD m d = true
  | .non, _ => rfl
  | .bl _, _ => rfl
  | .int _, _ => rfl
  | .str _, _ => rfl
  | .em, _ => rfl
  | .tup ds, h => by simpa [okD] using okDs_of m (ds := ds) (by simpa [okF] using h)
  | .lst ds, h => by simpa [okD] using okDs_of m (ds := ds) (by simpa [okF] using h)
  | .rol _, h => by simp [okF] at h
  | .hd _, h => by simp [okF] at h
theorem okDs_of (m : Nat) : ∀ {ds : List D}, okFs ds = true → okDs m ds = true
  | [], _ => rfl
  | d :: ds, h => by
    have h' : okF d = true ∧ okFs ds = true := by simpa [okFs] using h
    simp [okDs, okD_of m h'.1, okDs_of m h'.2]
end
/-- a store whose things hold its own handles only -/
def okS (S : Store) : Prop := S.all (okC S.length) = true
theorem sc_ok {F : FF} {ds : List D} {S T : Store} {d : D} (h : F ds S = .ok d (S ++ T)) (hs : okS S) (hd : okF d = true) : scF F ds S = .ok d S := by
  unfold scF
  rw [h]
  dsimp only
  have e : (S ++ T).take S.length = S := by simp
  rw [e, if_pos (show List.all S (okC S.length) = true from hs)]
  have f : frz S.length (S ++ T) d = some d := by
    have := okD_of S.length hd
    cases d <;> simp [frz, this] <;> simp [okF] at hd
  rw [f]
/-- the same where a list of the def's own is given -/
theorem sc_lst {F : FF} {ds : List D} {S T : Store} {xs : List D} (h : F ds S = .ok (.hd S.length) (S ++ .lst xs :: T)) (hs : okS S) (hd : okFs xs = true) : scF F ds S = .ok (.lst xs) S := by
  unfold scF
  rw [h]
  dsimp only
  have e : (S ++ .lst xs :: T).take S.length = S := by simp
  rw [e, if_pos (show List.all S (okC S.length) = true from hs)]
  have f : frz S.length (S ++ .lst xs :: T) (.hd S.length) = some (.lst xs) := by
    simp [frz, okDs_of S.length hd]
  rw [f]
theorem okS_hs (xs : List Int) (st : Int) : okS (HS xs st []) := by
  unfold okS
  have : okDs 2 (xs.map D.int) = true := by
    induction xs with
    | nil => rfl
    | cons x xs ih => simp [okDs, okD, ih]
  simp [okC, this, okDs, okD]
/-! ### pairs in the law's telling -/
theorem pair_at2 {ws : List Str} (h : ∀ w ∈ ws, Gw w) {i : Nat} (hi : 2 * i + 1 < ws.length) (r0 r1 r2 r3 : Option D) (S : Store) : E__law_told_0 [r0, r1, r2, r3, some (.lst (ws.map .str)), some (.int ((0 : Int) + (i : Int)))] S = .ok (.tup [.str (ws.getD (2 * i) ""), numD (ws.getD (2 * i + 1) "")]) S := by
  have g1 := get_str (ws := ws) (i := 2 * i) (by omega) S
  have g2 := get_str (ws := ws) (i := 2 * i + 1) (by omega) S
  have c1 : ((2 * i : Nat) : Int) = 2 * ((0 : Int) + (i : Int)) := by omega
  have c2 : ((2 * i + 1 : Nat) : Int) = 2 * ((0 : Int) + (i : Int)) + 1 := by omega
  rw [c1] at g1
  rw [c2] at g2
  have t := number_w (h _ (getD_mem (ws := ws) (i := 2 * i + 1) (by omega))) S
  generalize ws.getD (2 * i) "" = a at *
  generalize ws.getD (2 * i + 1) "" = b at *
  generalize (0 : Int) + (i : Int) = z at *
  have m2 : mulF (.int 2) (.int z) S = .ok (.int (2 * z)) S := by
    simp only [mulF]
    rw [if_pos (Or.inl ⟨by decide, by decide⟩)]
  simp only [E__law_told_0, fnF0, fnF, sNil, sSeq, sEx, sRet, sRetN, sBrk, sCnt, sIf, sAsg, sPar, sFor, sSub, setF, eV, eC, DL.e1, DL.e2, eL, aN, aC, eCall, eTup, eLst, eNew, eM, eAnd, eOr, eNot, eIf, eCh, asB, bAnd, bOr, bNot, bY, gN, gsN, gsC, gT, iL, iT, iS, iR1, iZp, iEn, sdF, oN, oS, eSl, R.bind, List.getElem?_cons_zero, List.getElem?_cons_succ, m2, addF, g1, g2, t, List.length_cons, List.length_nil]
  simp
theorem law_lc {ws : List Str} (h : ∀ w ∈ ws, Gw w) (r0 r1 r2 r3 : Option D) (S : Store) : ∀ (l : List Nat), (∀ i ∈ l, 2 * i + 1 < ws.length) → lcGo (gN 5) bY E__law_told_0 [r0, r1, r2, r3, some (.lst (ws.map .str)), none] (l.map fun (i : Nat) => .int ((0 : Int) + (i : Int))) S = .ok (l.map fun i => .tup [.str (ws.getD (2 * i) ""), numD (ws.getD (2 * i + 1) "")]) S
  | [], _ => rfl
  | i :: l, hi => by
    have ih := law_lc h r0 r1 r2 r3 S l fun j hj => hi j (List.mem_cons_of_mem _ hj)
    have p := pair_at2 h (hi i List.mem_cons_self) r0 r1 r2 r3 S
    rw [List.map_cons, List.map_cons]
    unfold lcGo
    have hb : gN 5 (.int ((0 : Int) + (i : Int))) [r0, r1, r2, r3, some (.lst (ws.map .str)), none] = some [r0, r1, r2, r3, some (.lst (ws.map .str)), some (.int ((0 : Int) + (i : Int)))] := rfl
    rw [hb]
    simp only [bY, R.bind, if_true, p, ih]
theorem iR1_eq {fa : AF} {ρ : Rho} {S : Store} {j : Int} (hf : fa ρ S = .ok [.int j] S) (h0 : -(2 ^ 30) < j) (h1 : j < 2 ^ 30) : iR1 fa ρ S = .ok ((List.range j.toNat).map fun (i : Nat) => .int ((0 : Int) + (i : Int))) S := by
  unfold iR1
  rw [hf]
  simp only [R.bind]
  rw [if_pos ⟨h1, h0⟩]
theorem half_b {m : Int} (h : m ≤ 50000) (h0 : 0 ≤ m) : -(2 ^ 30) < m / 2 ∧ m / 2 < 2 ^ 30 := by
  have : m / 2 ≤ 50000 := by omega
  have h3 : 0 ≤ m / 2 := by omega
  exact ⟨Int.lt_of_lt_of_le (by decide) h3, Int.lt_of_le_of_lt this (by decide)⟩
theorem half_n {ws : List Str} {n : Nat} (hn : ws.length = 2 * n) : ((ws.length : Int) / 2).toNat = n := by omega
theorem half_it {x y z u w2 : Option D} {r : D} {m : Int} {S : Store} (hl : lenF [r] S = .ok (.int m) S) (h0 : -(2 ^ 30) < m / 2) (h1 : m / 2 < 2 ^ 30) : iR1 (aC (DL.e2 fdivF (eL lenF (aC (eV 4) aN)) (eC (.int 2))) aN) [x, y, z, u, some r, w2] S = .ok ((List.range (m / 2).toNat).map fun (i : Nat) => .int ((0 : Int) + (i : Int))) S :=
  iR1_eq (by simp [fnF0, fnF, sNil, sSeq, sEx, sRet, sRetN, sBrk, sCnt, sIf, sAsg, sPar, sFor, sSub, setF, eV, eC, DL.e1, DL.e2, eL, aN, aC, eCall, eTup, eLst, eNew, eM, eAnd, eOr, eNot, eIf, eCh, asB, bAnd, bOr, bNot, bY, gN, gsN, gsC, gT, iL, iT, iS, iR1, iZp, iEn, sdF, oN, oS, eSl, R.bind, hl, fdivF]) h0 h1
theorem len_ws (ws : List Str) (S : Store) : lenF [.lst (ws.map .str)] S = .ok (.int (ws.length : Int)) S := by simp [lenF, seqF]
theorem pairs_e {rs : List Str} (h : ∀ z ∈ rs, Gw z) (hl : rs.length ≤ 50000) {n : Nat} (hn : rs.length = 2 * n) (x y z u w2 : Option D) (S : Store) : eLc (iR1 (aC (DL.e2 fdivF (eL lenF (aC (eV 4) aN)) (eC (.int 2))) aN)) (gN 5) bY E__law_told_0 [5] [x, y, z, u, some (.lst (rs.map .str)), w2] S = .ok (.lst (prs rs)) S := by
  have k1 := law_lc h x y z u S (List.range n) fun i hi => by
    have := List.mem_range.mp hi
    omega
  rw [prs_range n rs hn] at k1
  have hb := half_b (m := (rs.length : Int)) (by omega) (by omega)
  have it := half_it (x := x) (y := y) (z := z) (u := u) (w2 := w2) (len_ws rs S) hb.1 hb.2
  rw [half_n hn] at it
  exact eLc_go it k1 (by rw [List.length_map, List.length_range]; exact pt_fit hn hl)
theorem drop_ws (w r0 : Str) (rs : List Str) (S : Store) : slF (.lst ((w :: r0 :: rs).map .str)) (some 2) none S = .ok (.lst (rs.map .str)) S := by
  have := cut_from ((w :: r0 :: rs).map D.str) 2
  simp only [slF, rlF, lsF]
  rw [show (some (2 : Int)) = some ((2 : Nat) : Int) from rfl, this]
  rfl
/-- the turn of the pairs, from what its parts give -/
theorem turn_of {W Kl Rd : D} {ps : List D} {m : Int} {n : Nat} {acc : List D} {S : Store} (e1' : ixF Kl (.int 1) (S ++ [.lst acc]) = .ok (.str Kd.pairs.s) (S ++ [.lst acc])) (s2 : slF W (some 2) none (S ++ [.lst acc]) = .ok Rd (S ++ [.lst acc])) (ln : lenF [Rd] (S ++ [.lst acc]) = .ok (.int m) (S ++ [.lst acc])) (sz : acc.length < sizeLine) (z1 z2 : Option D) :
    (m % 2 = 1 → ∃ ρ', B__law_told_1 [some W, some Kl, some (.hd S.length), some (.int 1), z1, z2] (S ++ [.lst acc]) = .ok (.rt .non, ρ') (S ++ [.lst acc])) ∧
    (¬ m % 2 = 1 → eLc (iR1 (aC (DL.e2 fdivF (eL lenF (aC (eV 4) aN)) (eC (.int 2))) aN)) (gN 5) bY E__law_told_0 [5] [some W, some Kl, some (.hd S.length), some (.int 1), some Rd, z2] (S ++ [.lst acc]) = .ok (.lst ps) (S ++ [.lst acc]) →
      B__law_told_1 [some W, some Kl, some (.hd S.length), some (.int 1), z1, z2] (S ++ [.lst acc]) = .ok (.nx, [some W, some Kl, some (.hd S.length), some (.int 1), some Rd, z2]) (S ++ [.lst (acc ++ [.tup ps])])) := by
  have q := eq_kd (neg := false) .pairs "pairs" (by decide +kernel) (S := S ++ [.lst acc])
  have qq : (Kd.pairs.s == ("pairs" : Str)) = true := by decide +kernel
  rw [qq] at q
  have a1 : addF (.int 1) (.int 1) (S ++ [.lst acc]) = .ok (.int 2) (S ++ [.lst acc]) := rfl
  refine ⟨fun md => ⟨[some W, some Kl, some (.hd S.length), some (.int 1), some Rd, z2], ?_⟩, fun md e => ?_⟩
  · simp [B__law_told_1, fnF0, fnF, sNil, sSeq, sEx, sRet, sRetN, sBrk, sCnt, sIf, sAsg, sPar, sFor, sSub, setF, eV, eC, DL.e1, DL.e2, eL, aN, aC, eCall, eTup, eLst, eNew, eM, eAnd, eOr, eNot, eIf, eCh, asB, bAnd, bOr, bNot, bY, gN, gsN, gsC, gT, iL, iT, iS, iR1, iZp, iEn, sdF, oN, oS, eSl, R.bind, e1', q, oS, a1, s2, ln, intF, modF, eqF_int, md]
  · simp [B__law_told_1, fnF0, fnF, sNil, sSeq, sEx, sRet, sRetN, sBrk, sCnt, sIf, sAsg, sPar, sFor, sSub, setF, eV, eC, DL.e1, DL.e2, eL, aN, aC, eCall, eTup, eLst, eNew, eM, eAnd, eOr, eNot, eIf, eCh, asB, bAnd, bOr, bNot, bY, gN, gsN, gsC, gT, iL, iT, iS, iR1, iZp, iEn, sdF, oN, oS, eSl, R.bind, e1', q, oS, a1, s2, ln, intF, modF, eqF_int, md]
    rw [e]
    simp [tupF, seqF, tagF, appendF, sz]
theorem fin_told {ρ : Rho} {S : Store} {xs : List D} (h2 : ρ[2]? = some (some (.hd S.length))) (h : Sm 100000 (.tup xs)) : sRet (eIf (asB (eCall F__law_is_command 1 (aC (eL tupF (aC (eV 2) aN)) aN))) (eL tupF (aC (eV 2) aN)) (eC .non)) ρ (S ++ [.lst xs]) = .ok (.rt (if cmdB (.tup xs) = true then .tup xs else .non), ρ) (S ++ [.lst xs]) := by
  have c := law_is_command_eq h (S ++ [.lst xs])
  have t : seqF (S ++ [.lst xs]) (.hd S.length) = some xs := by simp [seqF]
  cases hb : cmdB (.tup xs) <;> rw [hb] at c <;> simp [fnF0, fnF, sNil, sSeq, sEx, sRet, sRetN, sBrk, sCnt, sIf, sAsg, sPar, sFor, sSub, setF, eV, eC, DL.e1, DL.e2, eL, aN, aC, eCall, eTup, eLst, eNew, eM, eAnd, eOr, eNot, eIf, eCh, asB, bAnd, bOr, bNot, bY, gN, gsN, gsC, gT, iL, iT, iS, iR1, iZp, iEn, sdF, oN, oS, eSl, R.bind, h2, tupF, t, c]
abbrev told_cond : BF := bOr (asB (DL.e2 (isF false) (eV 1) (eC .non))) (bOr (asB (DL.e2 ltF (DL.e2 subF (eL lenF (aC (eV 0) aN)) (eC (.int 1))) (DL.e2 subF (eL lenF (aC (eV 1) aN)) (eL intF (aC (DL.e2 (inF false) (eC (.str "pairs")) (eV 1)) aN))))) (bAnd (asB (DL.e2 (inF true) (eC (.str "pairs")) (eV 1))) (asB (DL.e2 (eqF true) (DL.e2 subF (eL lenF (aC (eV 0) aN)) (eC (.int 1))) (eL lenF (aC (eV 1) aN))))))
theorem cond_eq (w : Str) (rest : List Str) (ks : List Kd) (S : Store) : told_cond [some (.lst ((w :: rest).map .str)), some (.lst (ksD ks)), none, none, none, none] S = .ok (decide ((rest.length : Int) < (ks.length : Int) - (if .pairs ∈ ks then 1 else 0)) || (!decide (.pairs ∈ ks) && !decide ((rest.length : Int) = (ks.length : Int)))) S := by
  have p1 := in_pairs (neg := false) ks S
  have p2 := in_pairs (neg := true) ks S
  have l1 := len_ws (w :: rest) S
  have l2 : lenF [.lst (ksD ks)] S = .ok (.int (ks.length : Int)) S := by simp [lenF, seqF, ksD_len]
  have sb : ((rest.length : Int) + 1 - 1) = (rest.length : Int) := by omega
  simp only [List.map_cons, List.length_cons, Int.natCast_add, Int.natCast_one] at l1 ⊢
  by_cases hp : Kd.pairs ∈ ks
  · simp [hp] at p1 p2
    by_cases hl : (rest.length : Int) < (ks.length : Int) - 1
    · simp [fnF0, fnF, sNil, sSeq, sEx, sRet, sRetN, sBrk, sCnt, sIf, sAsg, sPar, sFor, sSub, setF, eV, eC, DL.e1, DL.e2, eL, aN, aC, eCall, eTup, eLst, eNew, eM, eAnd, eOr, eNot, eIf, eCh, asB, bAnd, bOr, bNot, bY, gN, gsN, gsC, gT, iL, iT, iS, iR1, iZp, iEn, sdF, oN, oS, eSl, R.bind, isF, l1, l2, subF, p1, p2, intF, cmF, eqF_int, hp, hl]
    · simp [fnF0, fnF, sNil, sSeq, sEx, sRet, sRetN, sBrk, sCnt, sIf, sAsg, sPar, sFor, sSub, setF, eV, eC, DL.e1, DL.e2, eL, aN, aC, eCall, eTup, eLst, eNew, eM, eAnd, eOr, eNot, eIf, eCh, asB, bAnd, bOr, bNot, bY, gN, gsN, gsC, gT, iL, iT, iS, iR1, iZp, iEn, sdF, oN, oS, eSl, R.bind, isF, l1, l2, subF, p1, p2, intF, cmF, eqF_int, hp, hl]
  · simp [hp] at p1 p2
    by_cases hl : (rest.length : Int) < (ks.length : Int)
    · simp [fnF0, fnF, sNil, sSeq, sEx, sRet, sRetN, sBrk, sCnt, sIf, sAsg, sPar, sFor, sSub, setF, eV, eC, DL.e1, DL.e2, eL, aN, aC, eCall, eTup, eLst, eNew, eM, eAnd, eOr, eNot, eIf, eCh, asB, bAnd, bOr, bNot, bY, gN, gsN, gsC, gT, iL, iT, iS, iR1, iZp, iEn, sdF, oN, oS, eSl, R.bind, isF, l1, l2, subF, p1, p2, intF, cmF, eqF_int, hp, hl]
    · by_cases he : (rest.length : Int) = (ks.length : Int)
      · simp [fnF0, fnF, sNil, sSeq, sEx, sRet, sRetN, sBrk, sCnt, sIf, sAsg, sPar, sFor, sSub, setF, eV, eC, DL.e1, DL.e2, eL, aN, aC, eCall, eTup, eLst, eNew, eM, eAnd, eOr, eNot, eIf, eCh, asB, bAnd, bOr, bNot, bY, gN, gsN, gsC, gT, iL, iT, iS, iR1, iZp, iEn, sdF, oN, oS, eSl, R.bind, isF, l1, l2, subF, p1, p2, intF, cmF, eqF_int, hp, hl, he]
      · simp [fnF0, fnF, sNil, sSeq, sEx, sRet, sRetN, sBrk, sCnt, sIf, sAsg, sPar, sFor, sSub, setF, eV, eC, DL.e1, DL.e2, eL, aN, aC, eCall, eTup, eLst, eNew, eM, eAnd, eOr, eNot, eIf, eCh, asB, bAnd, bOr, bNot, bY, gN, gsN, gsC, gT, iL, iT, iS, iR1, iZp, iEn, sdF, oN, oS, eSl, R.bind, isF, l1, l2, subF, p1, p2, intF, cmF, eqF_int, hp, hl, he]
abbrev told_rest : SF := sSeq (sIf told_cond (sRet (eC .non)) sNil) (sSeq (sAsg (eNew (aC (DL.e2 ixF (eV 0) (eC (.int 0))) aN)) (gN 2)) (sSeq (sFor (iR1 (aC (eL lenF (aC (eV 1) aN)) aN)) (gN 3) B__law_told_1) (sRet (eIf (asB (eCall F__law_is_command 1 (aC (eL tupF (aC (eV 2) aN)) aN))) (eL tupF (aC (eV 2) aN)) (eC .non)))))
theorem told_out {W Kl : D} {S : Store} (hc : told_cond [some W, some Kl, none, none, none, none] S = .ok true S) : told_rest [some W, some Kl, none, none, none, none] S = .ok (.rt .non, [some W, some Kl, none, none, none, none]) S := by
  unfold told_rest sSeq sIf
  rw [hc]
  simp [sRet, eC, R.bind]
def contF (f : SF) (fl : Fl) (ρ : Rho) (S : Store) : R (Fl × Rho) := match fl with
  | .nx => f ρ S
  | fl => .ok (fl, ρ) S
theorem ks_b {n : Nat} (h : n ≤ 5) : -(2 ^ 30) < (n : Int) ∧ (n : Int) < 2 ^ 30 :=
  ⟨Int.lt_of_lt_of_le (by decide) (Int.natCast_nonneg _), Int.lt_of_le_of_lt (show (n : Int) ≤ 5 by omega) (by decide)⟩
theorem len_it {x y z u w2 : Option D} {r : D} {m : Int} {S : Store} (hl : lenF [r] S = .ok (.int m) S) (h0 : -(2 ^ 30) < m) (h1 : m < 2 ^ 30) : iR1 (aC (eL lenF (aC (eV 1) aN)) aN) [x, some r, y, z, u, w2] S = .ok ((List.range' 0 m.toNat).map fun (i : Nat) => .int ((0 : Int) + (i : Int))) S := by
  rw [← List.range_eq_range']
  exact iR1_eq (by simp [fnF0, fnF, sNil, sSeq, sEx, sRet, sRetN, sBrk, sCnt, sIf, sAsg, sPar, sFor, sSub, setF, eV, eC, DL.e1, DL.e2, eL, aN, aC, eCall, eTup, eLst, eNew, eM, eAnd, eOr, eNot, eIf, eCh, asB, bAnd, bOr, bNot, bY, gN, gsN, gsC, gT, iL, iT, iS, iR1, iZp, iEn, sdF, oN, oS, eSl, R.bind, hl]) h0 h1
theorem told_for {W Kl w : D} {S S' : Store} {fl : Fl} {ρ' : Rho} {vs : List D}
    (hc : told_cond [some W, some Kl, none, none, none, none] S = .ok false S) (i0 : ixF W (.int 0) S = .ok w S)
    (it : iR1 (aC (eL lenF (aC (eV 1) aN)) aN) [some W, some Kl, some (.hd S.length), none, none, none] (S ++ [.lst [w]]) = .ok vs (S ++ [.lst [w]]))
    (hf : forGo (gN 3) B__law_told_1 vs [some W, some Kl, some (.hd S.length), none, none, none] (S ++ [.lst [w]]) = .ok (fl, ρ') S') :
    told_rest [some W, some Kl, none, none, none, none] S = contF (sRet (eIf (asB (eCall F__law_is_command 1 (aC (eL tupF (aC (eV 2) aN)) aN))) (eL tupF (aC (eV 2) aN)) (eC .non))) fl ρ' S' := by
  have s1 : sIf told_cond (sRet (eC .non)) sNil [some W, some Kl, none, none, none, none] S = .ok (.nx, [some W, some Kl, none, none, none, none]) S := by
    unfold sIf
    rw [hc]
    rfl
  have nw : sAsg (eNew (aC (DL.e2 ixF (eV 0) (eC (.int 0))) aN)) (gN 2) [some W, some Kl, none, none, none, none] S = .ok (.nx, [some W, some Kl, some (.hd S.length), none, none, none]) (S ++ [.lst [w]]) := by
    simp [fnF0, fnF, sNil, sSeq, sEx, sRet, sRetN, sBrk, sCnt, sIf, sAsg, sPar, sFor, sSub, setF, eV, eC, DL.e1, DL.e2, eL, aN, aC, eCall, eTup, eLst, eNew, eM, eAnd, eOr, eNot, eIf, eCh, asB, bAnd, bOr, bNot, bY, gN, gsN, gsC, gT, iL, iT, iS, iR1, iZp, iEn, sdF, oN, oS, eSl, R.bind, i0]
  have s3 : sFor (iR1 (aC (eL lenF (aC (eV 1) aN)) aN)) (gN 3) B__law_told_1 [some W, some Kl, some (.hd S.length), none, none, none] (S ++ [.lst [w]]) = .ok (fl, ρ') S' := by
    unfold sFor
    rw [it]
    exact hf
  unfold told_rest sSeq
  rw [s1]
  simp only [R.bind]
  rw [nw]
  simp only [R.bind]
  rw [s3]
  cases fl <;> rfl
theorem told_it {ks : List Kd} (hk : ks.length ≤ 5) (W z : Option D) (S : Store) : iR1 (aC (eL lenF (aC (eV 1) aN)) aN) [W, some (.lst (ksD ks)), z, none, none, none] S = .ok ((List.range' 0 ks.length).map fun (i : Nat) => .int ((0 : Int) + (i : Int))) S := by
  have l2 : lenF [.lst (ksD ks)] S = .ok (.int (ks.length : Int)) S := by simp [lenF, seqF, ksD_len]
  have b := ks_b hk
  exact len_it l2 b.1 b.2
theorem told_in {w : Str} {rest : List Str} {ks : List Kd} {S : Store} (hc : told_cond [some (.lst ((w :: rest).map .str)), some (.lst (ksD ks)), none, none, none, none] S = .ok false S) (hk : ks.length ≤ 5) {fl : Fl} {ρ' : Rho} {S' : Store}
    (hf : forGo (gN 3) B__law_told_1 ((List.range' 0 ks.length).map fun (j : Nat) => .int ((0 : Int) + (j : Int))) [some (.lst ((w :: rest).map .str)), some (.lst (ksD ks)), some (.hd S.length), none, none, none] (S ++ [.lst [.str w]]) = .ok (fl, ρ') S') :
    told_rest [some (.lst ((w :: rest).map .str)), some (.lst (ksD ks)), none, none, none, none] S = contF (sRet (eIf (asB (eCall F__law_is_command 1 (aC (eL tupF (aC (eV 2) aN)) aN))) (eL tupF (aC (eV 2) aN)) (eC .non))) fl ρ' S' :=
  told_for hc (by simp [ixF, seqF, atI_0]) (told_it hk _ _ _) hf
theorem law_told_eq {w : Str} {rest : List Str} (h : Gws (w :: rest)) {S : Store} (hS : okS S) : F__law_told [.lst ((w :: rest).map .str)] S = .ok ((told (w :: rest)).getD .non) S := by
  have hr := h.tail
  have hw := h.g w List.mem_cons_self
  have g := law_kinds_eq hw.ok S
  have i0 : ixF (.lst ((w :: rest).map .str)) (.int 0) S = .ok (.str w) S := by simp [ixF, seqF, atI_0]
  have start : ∀ {Kd : D} {fl : Fl} {ρ' : Rho} {S' : Store}, F__law_kinds [.str w] S = .ok Kd S → told_rest [some (.lst ((w :: rest).map .str)), some Kd, none, none, none, none] S = .ok (.rt Kd, ρ') S' → True := fun _ _ => trivial
  have first : ∀ (Kl d : D) (ρ' : Rho) (S' : Store), F__law_kinds [.str w] S = .ok Kl S → told_rest [some (.lst ((w :: rest).map .str)), some Kl, none, none, none, none] S = .ok (.rt d, ρ') S' →
      fnF0 6 (sSeq (sAsg (eCall F__law_kinds 1 (aC (DL.e2 ixF (eV 0) (eC (.int 0))) aN)) (gN 1)) told_rest) [.lst ((w :: rest).map .str)] S = .ok d S' := by
    intro Kl d ρ' S' hk ht
    have a : sAsg (eCall F__law_kinds 1 (aC (DL.e2 ixF (eV 0) (eC (.int 0))) aN)) (gN 1) [some (.lst ((w :: rest).map .str)), none, none, none, none, none] S = .ok (.nx, [some (.lst ((w :: rest).map .str)), some Kl, none, none, none, none]) S := by
      generalize D.lst ((w :: rest).map .str) = W at *
      simp [fnF0, fnF, sNil, sSeq, sEx, sRet, sRetN, sBrk, sCnt, sIf, sAsg, sPar, sFor, sSub, setF, eV, eC, DL.e1, DL.e2, eL, aN, aC, eCall, eTup, eLst, eNew, eM, eAnd, eOr, eNot, eIf, eCh, asB, bAnd, bOr, bNot, bY, gN, gsN, gsC, gT, iL, iT, iS, iR1, iZp, iEn, sdF, oN, oS, eSl, R.bind, i0, hk]
    unfold fnF0 fnF
    have b : sSeq (sAsg (eCall F__law_kinds 1 (aC (DL.e2 ixF (eV 0) (eC (.int 0))) aN)) (gN 1)) told_rest (([.lst ((w :: rest).map .str)] : List D).map some ++ List.replicate (6 - ([.lst ((w :: rest).map .str)] : List D).length) none) S = .ok (.rt d, ρ') S' := by
      show sSeq _ _ [some (.lst ((w :: rest).map .str)), none, none, none, none, none] S = _
      unfold sSeq
      rw [a]
      simp only [R.bind]
      exact ht
    rw [b]
  have fin : ∀ (d : D) (T : Store), fnF0 6 (sSeq (sAsg (eCall F__law_kinds 1 (aC (DL.e2 ixF (eV 0) (eC (.int 0))) aN)) (gN 1)) told_rest) [.lst ((w :: rest).map .str)] S = .ok d (S ++ T) → okF d = true → F__law_told [.lst ((w :: rest).map .str)] S = .ok d S := fun d T e ok => sc_ok e hS ok
  cases hk : kindsOf w with
  | none =>
    rw [hk] at g
    have e : told (w :: rest) = none := by simp [told, hk]
    rw [e]
    have ht : told_rest [some (.lst ((w :: rest).map .str)), some .non, none, none, none, none] S = .ok (.rt .non, [some (.lst ((w :: rest).map .str)), some .non, none, none, none, none]) S := told_out (by
      generalize D.lst ((w :: rest).map .str) = W at *
      simp [fnF0, fnF, sNil, sSeq, sEx, sRet, sRetN, sBrk, sCnt, sIf, sAsg, sPar, sFor, sSub, setF, eV, eC, DL.e1, DL.e2, eL, aN, aC, eCall, eTup, eLst, eNew, eM, eAnd, eOr, eNot, eIf, eCh, asB, bAnd, bOr, bNot, bY, gN, gsN, gsC, gT, iL, iT, iS, iR1, iZp, iEn, sdF, oN, oS, eSl, R.bind, isF])
    exact fin .non [] (by rw [List.append_nil]; exact first _ _ _ _ g ht) rfl
  | some ks =>
    rw [hk] at g
    obtain ⟨wl, kl⟩ := kinds_len hk
    have cq := cond_eq w rest ks S
    have hsum := h.s
    by_cases hp : ks.getLast? = some .pairs
    · obtain ⟨k, rfl, hkp⟩ := pairs_last hk hp
      cases rest with
      | nil =>
        have e : told [w] = none := by simp [told, hk]
        rw [e]
        simp at cq
        exact fin .non [] (by rw [List.append_nil]; exact first _ _ _ _ g (told_out cq)) rfl
      | cons r0 rs =>
        have cq' : told_cond [some (.lst ((w :: r0 :: rs).map .str)), some (.lst (ksD [k, .pairs])), none, none, none, none] S = .ok false S := by
          rw [cq]
          have : ¬ ((rs.length : Int) + 1 < 1) := by omega
          simp [this]
        have hr0 := hr.g r0 List.mem_cons_self
        have t0 := turn_plain (w :: r0 :: rs) [k, .pairs] 0 rfl hkp (w := r0) rfl hr0 S [.str w] (by simp) none none
        obtain ⟨tO, tE⟩ := turn_of (W := .lst ((w :: r0 :: rs).map .str)) (Kl := .lst (ksD [k, .pairs])) (Rd := .lst (rs.map .str)) (ps := prs rs) (m := (rs.length : Int)) (n := 0) (acc := [.str w] ++ [pv k r0]) (S := S) (ks_at [k, .pairs] 1 rfl _) (drop_ws w r0 rs _) (len_ws rs _) (Nat.lt_of_le_of_lt (show 2 ≤ 100 by decide) (by decide)) none none
        have step : ∀ (fl : Fl) (ρ2 : Rho) (S2 : Store), B__law_told_1 [some (.lst ((w :: r0 :: rs).map .str)), some (.lst (ksD [k, .pairs])), some (.hd S.length), some (.int 1), none, none] (S ++ [.lst ([.str w] ++ [pv k r0])]) = .ok (fl, ρ2) S2 → (fl = .nx ∨ ∃ d, fl = .rt d) →
            forGo (gN 3) B__law_told_1 ((List.range' 0 ([k, .pairs] : List Kd).length).map fun (j : Nat) => .int ((0 : Int) + (j : Int))) [some (.lst ((w :: r0 :: rs).map .str)), some (.lst (ksD [k, .pairs])), some (.hd S.length), none, none, none] (S ++ [.lst [.str w]]) = .ok (fl, ρ2) S2 := by
          intro fl ρ2 S2 hb hfl
          show forGo (gN 3) B__law_told_1 [.int 0, .int 1] _ _ = _
          unfold forGo
          show (B__law_told_1 [some (.lst ((w :: r0 :: rs).map .str)), some (.lst (ksD [k, .pairs])), some (.hd S.length), some (.int 0), none, none] (S ++ [.lst [.str w]])).bind _ = _
          have t0' : B__law_told_1 [some (.lst ((w :: r0 :: rs).map .str)), some (.lst (ksD [k, .pairs])), some (.hd S.length), some (.int 0), none, none] (S ++ [.lst [.str w]]) = _ := t0
          rw [t0']
          simp only [R.bind]
          unfold forGo
          show (B__law_told_1 [some (.lst ((w :: r0 :: rs).map .str)), some (.lst (ksD [k, .pairs])), some (.hd S.length), some (.int 1), none, none] (S ++ [.lst ([.str w] ++ [pv k r0])])).bind _ = _
          rw [hb]
          rcases hfl with rfl | ⟨d, rfl⟩ <;> rfl
        by_cases ho : rs.length % 2 = 1
        · have e : told (w :: r0 :: rs) = none := by simp [told, hk, ho]
          rw [e]
          obtain ⟨ρ2, hb⟩ := tO (by omega)
          have ti := told_in cq' kl (step _ _ _ hb (.inr ⟨_, rfl⟩))
          exact fin .non _ (first _ _ _ _ g ti) rfl
        · obtain ⟨n, hn⟩ : ∃ n, rs.length = 2 * n := ⟨rs.length / 2, by omega⟩
          have hb := tE (by omega) (pairs_e hr.tail.g hr.tail.len hn _ _ _ _ _ _)
          have ti := told_in cq' kl (step _ _ _ hb (.inl rfl))
          obtain ⟨q1, q2, q3⟩ := pv_ok k hr0
          obtain ⟨z1, z2, z3⟩ := prs_ok rs hr.tail.g
          have smc : Sm 100000 (.tup [.str w, pv k r0, .tup (prs rs)]) := by
            refine sm_cmd hw.ok (by omega) (by simp [okFs, okF, q1, z1]) ?_
            simp [wsum] at hsum z2
            simp [wts, wt]
            omega
          have ft := fin_told (S := S) (ρ := [some (.lst ((w :: r0 :: rs).map .str)), some (.lst (ksD [k, .pairs])), some (.hd S.length), some (.int 1), some (.lst (rs.map .str)), none]) (xs := [.str w, pv k r0, .tup (prs rs)]) rfl smc
          have ti2 := ti.trans ft
          have ee : told (w :: r0 :: rs) = if cmdB (.tup [.str w, pv k r0, .tup (prs rs)]) = true then some (.tup [.str w, pv k r0, .tup (prs rs)]) else none := by simp [told, hk, ho]
          rw [ee]
          have f2 := fin _ _ (first _ _ _ _ g ti2)
          cases hb : cmdB (.tup [.str w, pv k r0, .tup (prs rs)]) <;> rw [hb] at f2
          · exact f2 rfl
          · exact f2 smc.ok
    · have np := no_pairs hk hp
      by_cases hl : rest.length = ks.length
      · have cq' : told_cond [some (.lst ((w :: rest).map .str)), some (.lst (ksD ks)), none, none, none, none] S = .ok false S := by
          rw [cq, if_neg np]
          simp [np, hl]
        obtain ⟨ρ', e, r2⟩ := turns_plain (w :: rest) ks S (fun k hk' z => np (z ▸ hk')) h.g ks.length 0 [.str w] none none none (by omega) (by simp [hl]) (by simp; omega)
        have ti := told_in cq' kl e
        simp only [List.drop_zero, List.drop_succ_cons, List.cons_append, List.nil_append, Nat.zero_add] at ti
        obtain ⟨z1, z2, z3⟩ := zip_ok ks rest hr.g
        have smc : Sm 100000 (.tup (.str w :: (ks.zip rest).map fun q => pv q.1 q.2)) := sm_cmd hw.ok (by omega) z1 (by simp [wsum] at hsum z2 ⊢; omega)
        have ft := fin_told (S := S) r2 smc
        have ti2 := ti.trans ft
        have ee : told (w :: rest) = if cmdB (.tup (.str w :: (ks.zip rest).map fun q => pv q.1 q.2)) = true then some (.tup (.str w :: (ks.zip rest).map fun q => pv q.1 q.2)) else none := by simp only [told, hk, if_neg hp, if_pos hl]
        rw [ee]
        have f2 := fin _ _ (first _ _ _ _ g ti2)
        cases hb : cmdB (.tup (.str w :: (ks.zip rest).map fun q => pv q.1 q.2)) <;> rw [hb] at f2
        · exact f2 rfl
        · exact f2 smc.ok
      · have cq' : told_cond [some (.lst ((w :: rest).map .str)), some (.lst (ksD ks)), none, none, none, none] S = .ok true S := by
          rw [cq, if_neg np]
          have : ¬ ((rest.length : Int) = (ks.length : Int)) := by omega
          simp [np, this]
        have e : told (w :: rest) = none := by simp only [told, hk, if_neg hp, if_neg hl]
        rw [e]
        exact fin .non [] (by rw [List.append_nil]; exact first _ _ _ _ g (told_out cq')) rfl
end P64
end
section
set_option maxRecDepth 100000
set_option maxHeartbeats 8000000
set_option autoImplicit false
set_option linter.all false
namespace P64
open PySem L2 DL
/-! ### texts cut at one sign -/
theorem glue_len (s : Nat) : ∀ ps : List (List Nat), ps ≠ [] → (ps.map fun p => p.length + 1).sum = (TL.joinL [s] ps).length + 1
  | [], h => absurd rfl h
  | [p], _ => by simp [TL.joinL]
  | p :: q :: r, _ => by
    have ih := glue_len s (q :: r) (by simp)
    simp only [TL.joinL, List.map_cons, List.sum_cons, List.length_append, List.length_cons, List.length_nil] at ih ⊢
    omega
theorem glue_mem (s : Nat) : ∀ (ps : List (List Nat)), ∀ p ∈ ps, ∀ c ∈ p, c ∈ TL.joinL [s] ps
  | [], _, h, _, _ => by cases h
  | [p], q, h, c, hc => by
    rw [List.mem_singleton] at h
    subst h
    exact hc
  | p :: q :: r, z, h, c, hc => by
    simp only [TL.joinL, List.mem_append]
    rcases List.mem_cons.mp h with rfl | h
    · exact .inl hc
    · exact .inr (.inr (glue_mem s (q :: r) z h c hc))
theorem cut_glue (x y : Str) : TL.joinL (TL.tl y) ((Txt.split x y).map TL.tl) = TL.tl x := by
  rw [← TL.tl_join, StrLaws.join_split]
theorem cut_ne (x : Str) {c : Nat} : Txt.split x ⟨#[c]⟩ ≠ [] := by
  unfold Txt.split
  split
  · simp
  · split
    · simp
    · intro h
      have := congrArg List.length h
      rw [PyProof.Rows.len_partsBetween] at this
      simp at this
theorem cut_len (x : Str) (c : Nat) : ((Txt.split x ⟨#[c]⟩).map fun p => p.length + 1).sum = x.length + 1 := by
  have h := glue_len c ((Txt.split x ⟨#[c]⟩).map TL.tl) (by simpa using cut_ne x)
  have g := cut_glue x ⟨#[c]⟩
  have e : TL.tl ⟨#[c]⟩ = [c] := rfl
  rw [e] at g
  rw [g, List.map_map] at h
  rw [TL.len_tl x, ← h]
  congr 1
theorem cut_ok {x : Str} (h : PyData.strOk x = true) (c : Nat) : ∀ p ∈ Txt.split x ⟨#[c]⟩, PyData.strOk p = true := by
  intro p hp
  have g := cut_glue x ⟨#[c]⟩
  have e : TL.tl ⟨#[c]⟩ = [c] := rfl
  rw [e] at g
  unfold PyData.strOk at h ⊢
  rw [← Array.all_toList, List.all_eq_true] at h ⊢
  intro a ha
  apply h
  show a ∈ TL.tl x
  rw [← g]
  exact glue_mem c _ _ (List.mem_map_of_mem hp) a ha
theorem sum_mem {α : Type} (f : α → Nat) : ∀ {l : List α} {a : α}, a ∈ l → f a ≤ (l.map f).sum
  | [], _, h => by cases h
  | b :: l, a, h => by
    rcases List.mem_cons.mp h with rfl | h
    · simp
    · have := sum_mem f h
      simp
      omega
theorem sum_filter {α : Type} (f g : α → Nat) (q : α → Bool) (h : ∀ a, q a = true → f a ≤ g a) : ∀ l : List α, ((l.filter q).map f).sum ≤ (l.map g).sum
  | [] => by simp
  | a :: l => by
    have ih := sum_filter f g q h l
    by_cases hq : q a = true
    · have := h a hq
      rw [List.filter_cons_of_pos hq]
      simp only [List.map_cons, List.sum_cons]
      omega
    · rw [List.filter_cons_of_neg hq]
      simp only [List.map_cons, List.sum_cons]
      omega
theorem sum_31 : ∀ l : List Str, (l.map fun p => 31 * (p.length + 1)).sum = 31 * (l.map fun p => p.length + 1).sum
  | [] => rfl
  | p :: l => by
    simp only [List.map_cons, List.sum_cons, sum_31 l]
    omega
theorem str_ne (w : Str) : (!(w == ("" : Str))) = true ↔ w.cps.toList ≠ [] := by
  have : (w == ("" : Str)) = true ↔ w = "" := beq_iff_eq
  rw [Bool.not_eq_true', ← Bool.not_eq_true, this]
  apply not_congr
  constructor
  · rintro rfl; rfl
  · intro h
    exact TL.ext_tl (by show w.cps.toList = _; rw [h]; rfl)
/-- a line's words -/
def wordsOf (l : Str) : List Str := (Txt.split l (" " : Str)).filter fun w => !(w == ("" : Str))
structure LineOk (l : Str) : Prop where
  ok : PyData.strOk l = true
  l : l.length ≤ 2500
theorem words_sum (l : Str) : wsum (wordsOf l) ≤ 31 * (l.length + 1) := by
  have h := sum_filter (fun w : Str => w.length + 60) (fun w => 31 * (w.length + 1)) (fun w => !(w == ("" : Str))) (fun w hw => by
    have := (str_ne w).mp hw
    have h2 : 1 ≤ w.length := by
      rw [TL.len_tl]
      exact List.length_pos_iff.mpr this
    omega) (Txt.split l (" " : Str))
  rw [sum_31] at h
  have e : (" " : Str) = ⟨#[32]⟩ := rfl
  unfold wsum wordsOf
  rw [e] at h ⊢
  rw [cut_len] at h
  exact h
theorem words_gws {l : Str} (h : LineOk l) : Gws (wordsOf l) := by
  have hs := words_sum l
  have hl := h.l
  refine ⟨fun w hw => ?_, by omega⟩
  obtain ⟨h1, h2⟩ := List.mem_filter.mp hw
  have e : (" " : Str) = ⟨#[32]⟩ := rfl
  refine ⟨(str_ne w).mp h2, cut_ok h.ok 32 w (e ▸ h1), ?_⟩
  have h4 := sum_mem (fun w : Str => w.length + 1) (show w ∈ Txt.split l ⟨#[32]⟩ from e ▸ h1)
  rw [cut_len] at h4
  omega
theorem py_strs : ∀ xs : List Str, toPys (xs.map .str) = some (xs.map .str)
  | [] => rfl
  | x :: xs => by simp [toPys, toPy, py_strs xs]
theorem lay_strs : ∀ xs : List Str, (∀ x ∈ xs, PyData.strOk x = true) → PyData.canLayAll0 (xs.map .str) = true
  | [], _ => rfl
  | x :: xs, h => by
    have h1 := h x List.mem_cons_self
    simp [PyData.canLayAll0, PyData.canLay0, lay_strs xs fun z hz => h z (List.mem_cons_of_mem _ hz), h1]
theorem dep_strs : ∀ xs : List Str, PyData.depthAll (xs.map .str) = 0
  | [] => by simp [PyData.depthAll]
  | x :: xs => by simp [PyData.depthAll, PyData.depth, dep_strs xs]
theorem strs_ne {xs : List Str} (h : ∀ x ∈ xs, PyData.strOk x = true) (S : Store) : eqF true (.lst (xs.map .str)) (.lst []) S = .ok (.bl (!xs.isEmpty)) S := by
  have h1 : toPyS S (.lst (xs.map .str)) = some (.list (xs.map .str)) := by
    show (toPys (xs.map .str)).map PyData.list = _
    rw [py_strs]; rfl
  have h2 : toPyS S (.lst []) = some (.list []) := by simp [toPyS, toPy, toPys]
  unfold eqF
  rw [h1, h2]
  cases xs with
  | nil => simp [SeqAt.shaped, PyData.canLay0, PyData.canLayAll0, PyData.depth, PyData.depthAll, PyData.eqv, PyData.eqvAll]
  | cons x xs =>
    have l1 := lay_strs (x :: xs) h
    have l2 := dep_strs (x :: xs)
    simp only [List.map_cons] at l1 l2
    simp [SeqAt.shaped, PyData.canLay0, PyData.depth, PyData.eqv, PyData.eqvAll, l1, l2, PyData.canLayAll0, PyData.depthAll]
/-- the words as both texts find them -/
theorem split_line {l : Str} (h : LineOk l) (S : Store) : splitF (.str l) [.str (" " : Str)] S = .ok (.lst ((Txt.split l (" " : Str)).map .str)) S := by
  have := h.l
  show (if ((" " : Str).length == 0) = false ∧ l.length + 2 ≤ sizeLine then _ else _) = _
  rw [if_pos ⟨by decide +kernel, Nat.le_trans (show l.length + 2 ≤ 1000000 by omega) (Nat.le_of_lt line_big)⟩]
theorem split_n {l : Str} (h : LineOk l) : (Txt.split l (" " : Str)).length ≤ 1000000 := by
  have := h.l
  have e : (" " : Str) = ⟨#[32]⟩ := rfl
  rw [e]
  have h2 := cut_len l 32
  have : ∀ xs : List Str, xs.length ≤ (xs.map fun p => p.length + 1).sum := by
    intro xs
    induction xs with
    | nil => simp
    | cons x xs ih => simp; omega
  have := this (Txt.split l ⟨#[32]⟩)
  omega
theorem words_lc {l : Str} (h : LineOk l) {fa : AF} {fe : EF} {ft : BF} {b : D → Rho → Option Rho} {vs : List Nat} {ρ : Rho} {S : Store} (hf : fa ρ S = .ok ((Txt.split l (" " : Str)).map .str) S)
    (hb : ∀ w : Str, PyData.strOk w = true → ∃ ρ', b (.str w) (wipeR ρ vs) = some ρ' ∧ ft ρ' S = .ok (!(w == ("" : Str))) S ∧ fe ρ' S = .ok (.str w) S) : eLc fa b ft fe vs ρ S = .ok (.lst ((wordsOf l).map .str)) S := by
  have e : (" " : Str) = ⟨#[32]⟩ := rfl
  have ok := cut_ok h.ok 32
  rw [← e] at ok
  have := eLc_filter (g := id) (t := fun d => match d with | .str w => !(w == ("" : Str)) | _ => false) hf (b := b) (ft := ft) (fe := fe) (vs := vs) (fun d hd => by
    obtain ⟨w, hw, rfl⟩ := List.mem_map.mp hd
    exact hb w (ok w hw)) (by rw [List.length_map]; exact split_n h)
  rw [this]
  congr 2
  unfold wordsOf
  rw [List.filter_map]
  simp
  rfl
/-! ### a line in both readings -/
theorem words_E {l : Str} (h : LineOk l) {fa : AF} {ρ : Rho} {S : Store} (t a b c d z5 z6 : Option D) (hf : fa ρ S = .ok ((Txt.split l (" " : Str)).map .str) S) (hr : wipeR ρ [6] = [t, a, b, c, d, z5, none]) :
    eLc fa (gN 6) T__law_read_1 E__law_read_0 [6] ρ S = .ok (.lst ((wordsOf l).map .str)) S ∧ eLc fa (gN 6) T_read_commands_1 E_read_commands_0 [6] ρ S = .ok (.lst ((wordsOf l).map .str)) S := by
  refine ⟨words_lc h hf fun w hw => ?_, words_lc h hf fun w hw => ?_⟩
  · refine ⟨[t, a, b, c, d, z5, some (.str w)], by rw [hr]; rfl, ?_, ?_⟩
    · simp only [T__law_read_1, fnF0, fnF, sNil, sSeq, sEx, sRet, sRetN, sBrk, sCnt, sIf, sAsg, sPar, sFor, sSub, setF, eV, eC, DL.e1, DL.e2, eL, aN, aC, eCall, eTup, eLst, eNew, eM, eAnd, eOr, eNot, eIf, eCh, asB, bAnd, bOr, bNot, bY, gN, gsN, gsC, gT, iL, iT, iS, iR1, iZp, iEn, sdF, oN, oS, eSl, R.bind, List.getElem?_cons_zero, List.getElem?_cons_succ]
      rw [eqF_str hw (by decide +kernel)]
      rfl
    · rfl
  · refine ⟨[t, a, b, c, d, z5, some (.str w)], by rw [hr]; rfl, ?_, ?_⟩
    · simp only [T_read_commands_1, fnF0, fnF, sNil, sSeq, sEx, sRet, sRetN, sBrk, sCnt, sIf, sAsg, sPar, sFor, sSub, setF, eV, eC, DL.e1, DL.e2, eL, aN, aC, eCall, eTup, eLst, eNew, eM, eAnd, eOr, eNot, eIf, eCh, asB, bAnd, bOr, bNot, bY, gN, gsN, gsC, gT, iL, iT, iS, iR1, iZp, iEn, sdF, oN, oS, eSl, R.bind, List.getElem?_cons_zero, List.getElem?_cons_succ]
      rw [eqF_str hw (by decide +kernel)]
      rfl
    · rfl
mutual
theorem okD_mono {m n : Nat} (h : m ≤ n) : ∀ {d : D}, okD m d = true → okD n d = true
  | .non, _ => rfl
  | .bl _, _ => rfl
  | .int _, _ => rfl
  | .str _, _ => rfl
  | .em, _ => rfl
  | .tup ds, e => by simpa [okD] using okDs_mono h (ds := ds) (by simpa [okD] using e)
  | .lst ds, e => by simpa [okD] using okDs_mono h (ds := ds) (by simpa [okD] using e)
  | .rol ds, e => by simpa [okD] using okDs_mono h (ds := ds) (by simpa [okD] using e)
  | .hd k, e => by simp [okD] at e ⊢; omega
theorem okDs_mono {m n : Nat} (h : m ≤ n) : ∀ {ds : List D}, okDs m ds = true → okDs n ds = true
  | [], _ => rfl
  | d :: ds, e => by
    have e' : okD m d = true ∧ okDs m ds = true := by simpa [okDs] using e
    simp [okDs, okD_mono h e'.1, okDs_mono h e'.2]
end
theorem okC_mono {m n : Nat} (h : m ≤ n) : ∀ {c : Cell}, okC m c = true → okC n c = true
  | .lst ds, e => okDs_mono h (ds := ds) e
  | .ins _ fs, e => by unfold okC at e ⊢; exact okDs_mono h e
  | .dead, _ => rfl
theorem okS_app {S : Store} (h : okS S) {acc : List D} (ha : okFs acc = true) : okS (S ++ [.lst acc]) := by
  unfold okS at h ⊢
  rw [List.all_append, Bool.and_eq_true]
  refine ⟨?_, ?_⟩
  · rw [List.all_eq_true] at h ⊢
    intro c hc
    exact okC_mono (by simp) (h c hc)
  · simp [okC, okDs_of _ ha]
theorem told_sm {w : Str} {ws : List Str} (h : Gws (w :: ws)) {c : D} (e : told (w :: ws) = some c) : Sm 100000 c ∧ cmdB c = true := by
  obtain ⟨c', e1, e2, e3⟩ := command_told_eq h []
  rw [e] at e3
  split at e3
  · rename_i hc
    cases e3
    exact ⟨e2, hc⟩
  · cases e3
end P64
end
section
set_option maxRecDepth 100000
set_option maxHeartbeats 8000000
set_option autoImplicit false
set_option linter.all false
namespace P64
open PySem L2 DL
/-- what the lines of a text tell, from a line on -/
def rdL : Nat → List D → List Str → Sum Nat (List D)
  | _, acc, [] => .inr acc
  | i, acc, l :: ls => match wordsOf l with
    | [] => rdL (i + 1) acc ls
    | w :: ws => match told (w :: ws) with
      | none => .inl i
      | some c => rdL (i + 1) (acc ++ [c]) ls
/-- what the loop over lines gives -/
def lineR (rt : D) (S : Store) (acc : List D) : List Str → Option (Option (List D))
  | [] => some (some acc)
  | w :: ws => match told (w :: ws) with
    | none => none
    | some c => some (some (acc ++ [c]))
theorem words_ok {l : Str} (h : LineOk l) : ∀ w ∈ wordsOf l, PyData.strOk w = true := fun w hw => ((words_gws h).g w hw).ok
theorem lr_words {l : Str} (h : LineOk l) {Ls : D} {k : D} {S : Store} (hi : ixF Ls k S = .ok (.str l) S) (t a z4 z5 z6 : Option D) :
    eLc (iL (eM "str" splitF (DL.e2 ixF (eV 2) (eV 3)) (aC (eC (.str " ")) aN))) (gN 6) T__law_read_1 E__law_read_0 [6] [t, a, some Ls, some k, z4, z5, z6] S = .ok (.lst ((wordsOf l).map .str)) S :=
  (words_E h t a (some Ls) (some k) z4 z5 z6 (by
    have := split_line h S
    simp [fnF0, fnF, sNil, sSeq, sEx, sRet, sRetN, sBrk, sCnt, sIf, sAsg, sPar, sFor, sSub, setF, eV, eC, DL.e1, DL.e2, eL, aN, aC, eCall, eTup, eLst, eNew, eM, eAnd, eOr, eNot, eIf, eCh, asB, bAnd, bOr, bNot, bY, gN, gsN, gsC, gT, iL, iT, iS, iR1, iZp, iEn, sdF, oN, oS, eSl, R.bind, hi, tagF, this]) rfl).1
theorem append_eq {S : Store} {acc : List D} {c : D} (hn : acc.length ≤ 100000) : appendF (.hd S.length) [c] (S ++ [.lst acc]) = .ok .non (S ++ [.lst (acc ++ [c])]) := by
  have : acc.length < sizeLine := Nat.lt_of_le_of_lt (Nat.le_trans hn (by decide)) line_big
  simp [appendF, this]
theorem lr_line {l : Str} (h : LineOk l) {Ls : D} {k : D} {S : Store} (hS : okS S) {acc : List D} (ha : okFs acc = true) (hn : acc.length ≤ 100000) (hi : ixF Ls k (S ++ [.lst acc]) = .ok (.str l) (S ++ [.lst acc])) (t z4 z5 z6 : Option D) :
    ∃ y4 y5, B__law_read_2 [t, some (.hd S.length), some Ls, some k, z4, z5, z6] (S ++ [.lst acc]) = match wordsOf l with
      | [] => .ok (.nx, [t, some (.hd S.length), some Ls, some k, y4, y5, z6]) (S ++ [.lst acc])
      | w :: ws => match told (w :: ws) with
        | none => .ok (.rt (.tup [.str "refused", k, .int 0]), [t, some (.hd S.length), some Ls, some k, y4, y5, z6]) (S ++ [.lst acc])
        | some c => .ok (.nx, [t, some (.hd S.length), some Ls, some k, y4, y5, z6]) (S ++ [.lst (acc ++ [c])]) := by
  have hw := lr_words h hi t (some (.hd S.length)) z4 z5 z6
  have ne := strs_ne (words_ok h) (S ++ [.lst acc])
  have gw := words_gws h
  have ap := fun c => append_eq (S := S) (c := c) hn
  have hS' := okS_app hS ha
  have tg : tagF (S ++ [.lst acc]) (.hd S.length) = some "list" := by simp [tagF]
  generalize hs : S ++ [.lst acc] = S1 at *
  cases hc : wordsOf l with
  | nil =>
    rw [hc] at hw ne
    simp at ne hw
    refine ⟨some (.lst []), z5, ?_⟩
    unfold B__law_read_2 sSeq sAsg
    rw [hw]
    simp [fnF0, fnF, sNil, sSeq, sEx, sRet, sRetN, sBrk, sCnt, sIf, sAsg, sPar, sFor, sSub, setF, eV, eC, DL.e1, DL.e2, eL, aN, aC, eCall, eTup, eLst, eNew, eM, eAnd, eOr, eNot, eIf, eCh, asB, bAnd, bOr, bNot, bY, gN, gsN, gsC, gT, iL, iT, iS, iR1, iZp, iEn, sdF, oN, oS, eSl, R.bind, ne]
  | cons w ws =>
    rw [hc] at hw ne gw
    have lt := law_told_eq gw hS'
    cases ht : told (w :: ws) with
    | none =>
      rw [ht] at lt
      refine ⟨some (.lst ((w :: ws).map .str)), some .non, ?_⟩
      unfold B__law_read_2 sSeq sAsg
      rw [hw]
      generalize D.lst ((w :: ws).map .str) = W at *
      simp at ne lt
      simp [fnF0, fnF, sNil, sSeq, sEx, sRet, sRetN, sBrk, sCnt, sIf, sAsg, sPar, sFor, sSub, setF, eV, eC, DL.e1, DL.e2, eL, aN, aC, eCall, eTup, eLst, eNew, eM, eAnd, eOr, eNot, eIf, eCh, asB, bAnd, bOr, bNot, bY, gN, gsN, gsC, gT, iL, iT, iS, iR1, iZp, iEn, sdF, oN, oS, eSl, R.bind, ne, lt, isF, ht]
    | some c =>
      rw [ht] at lt
      obtain ⟨sm, hb⟩ := told_sm gw ht
      refine ⟨some (.lst ((w :: ws).map .str)), some c, ?_⟩
      unfold B__law_read_2 sSeq sAsg
      rw [hw]
      generalize D.lst ((w :: ws).map .str) = W at *
      have nn : isF false c .non S1 = .ok (.bl false) S1 := by
        cases c <;> simp [cmdB] at hb <;> rfl
      simp at ne lt
      simp [fnF0, fnF, sNil, sSeq, sEx, sRet, sRetN, sBrk, sCnt, sIf, sAsg, sPar, sFor, sSub, setF, eV, eC, DL.e1, DL.e2, eL, aN, aC, eCall, eTup, eLst, eNew, eM, eAnd, eOr, eNot, eIf, eCh, asB, bAnd, bOr, bNot, bY, gN, gsN, gsC, gT, iL, iT, iS, iR1, iZp, iEn, sdF, oN, oS, eSl, R.bind, ne, lt, nn, ap, tg, ht]
theorem rc_words {l : Str} (h : LineOk l) (S : Store) (t a k z4 z5 z6 : Option D) :
    eLc (iL (eM "str" splitF (eV 3) (aC (eC (.str " ")) aN))) (gN 6) T_read_commands_1 E_read_commands_0 [6] [t, a, k, some (.str l), z4, z5, z6] S = .ok (.lst ((wordsOf l).map .str)) S :=
  (words_E h t a k (some (.str l)) z4 z5 z6 (by
    have := split_line h S
    simp [fnF0, fnF, sNil, sSeq, sEx, sRet, sRetN, sBrk, sCnt, sIf, sAsg, sPar, sFor, sSub, setF, eV, eC, DL.e1, DL.e2, eL, aN, aC, eCall, eTup, eLst, eNew, eM, eAnd, eOr, eNot, eIf, eCh, asB, bAnd, bOr, bNot, bY, gN, gsN, gsC, gT, iL, iT, iS, iR1, iZp, iEn, sdF, oN, oS, eSl, R.bind, tagF, this]) rfl).2
theorem rc_line (C : Addr) {l : Str} (h : LineOk l) {k : D} {S : Store} {acc : List D} (hn : acc.length ≤ 100000) (t z4 z5 z6 : Option D) :
    ∃ y4 y5, B_read_commands_2 C [t, some (.hd S.length), some k, some (.str l), z4, z5, z6] (S ++ [.lst acc]) = match wordsOf l with
      | [] => .ok (.nx, [t, some (.hd S.length), some k, some (.str l), y4, y5, z6]) (S ++ [.lst acc])
      | w :: ws => match told (w :: ws) with
        | none => .ex ⟨C, some [("at", .int 0), ("line", k)]⟩ (S ++ [.lst acc])
        | some c => .ok (.nx, [t, some (.hd S.length), some k, some (.str l), y4, y5, z6]) (S ++ [.lst (acc ++ [c])]) := by
  have hw := rc_words h (S ++ [.lst acc]) t (some (.hd S.length)) (some k) z4 z5 z6
  have ne := strs_ne (words_ok h) (S ++ [.lst acc])
  have gw := words_gws h
  have ap := fun c => append_eq (S := S) (c := c) hn
  have tg : tagF (S ++ [.lst acc]) (.hd S.length) = some "list" := by simp [tagF]
  generalize hs : S ++ [.lst acc] = S1 at *
  cases hc : wordsOf l with
  | nil =>
    rw [hc] at hw ne
    simp at ne hw
    refine ⟨some (.lst []), z5, ?_⟩
    unfold B_read_commands_2 sSeq sAsg
    rw [hw]
    simp [fnF0, fnF, sNil, sSeq, sEx, sRet, sRetN, sBrk, sCnt, sIf, sAsg, sPar, sFor, sSub, setF, eV, eC, DL.e1, DL.e2, eL, aN, aC, eCall, eTup, eLst, eNew, eM, eAnd, eOr, eNot, eIf, eCh, asB, bAnd, bOr, bNot, bY, gN, gsN, gsC, gT, iL, iT, iS, iR1, iZp, iEn, sdF, oN, oS, eSl, R.bind, ne]
  | cons w ws =>
    rw [hc] at hw ne gw
    obtain ⟨c, e1', sm, e3'⟩ := command_told_eq gw S1
    have ic := is_command_eq sm S1
    refine ⟨some (.lst ((w :: ws).map .str)), some c, ?_⟩
    unfold B_read_commands_2 sSeq sAsg
    rw [hw]
    generalize D.lst ((w :: ws).map .str) = W at *
    simp at ne
    cases hb : cmdB c <;> rw [hb] at ic e3' <;> simp at e3' <;> simp [fnF0, fnF, sNil, sSeq, sEx, sRet, sRetN, sBrk, sCnt, sIf, sAsg, sPar, sFor, sSub, setF, eV, eC, DL.e1, DL.e2, eL, aN, aC, eCall, eTup, eLst, eNew, eM, eAnd, eOr, eNot, eIf, eCh, asB, bAnd, bOr, bNot, bY, gN, gsN, gsC, gT, iL, iT, iS, iR1, iZp, iEn, sdF, oN, oS, eSl, R.bind, ne, e1', ic, sRaise2, e3', ap, tg]
theorem okFs_snoc {acc : List D} {c : D} (ha : okFs acc = true) (hc : okF c = true) : okFs (acc ++ [c]) = true := okFs_of fun d hd => by
  rcases List.mem_append.mp hd with h | h
  · exact okFs_mem ha d h
  · rw [List.mem_singleton] at h
    rw [h]; exact hc
/-- the law's loop over lines -/
theorem lr_loop {S : Store} (hS : okS S) (t : Option D) (L : List Str) (hL : ∀ l ∈ L, LineOk l) : ∀ (rest : List Str) (i : Nat) (acc : List D) (z3 z4 z5 z6 : Option D), L.drop i = rest → okFs acc = true → acc.length + rest.length ≤ 100000 →
    match rdL i acc rest with
    | .inl k => ∃ ρ' acc', forGo (gN 3) B__law_read_2 ((List.range' i rest.length).map fun (j : Nat) => .int (j : Int)) [t, some (.hd S.length), some (.lst (L.map .str)), z3, z4, z5, z6] (S ++ [.lst acc]) = .ok (.rt (.tup [.str "refused", .int (k : Int), .int 0]), ρ') (S ++ [.lst acc'])
    | .inr ds => ∃ ρ', forGo (gN 3) B__law_read_2 ((List.range' i rest.length).map fun (j : Nat) => .int (j : Int)) [t, some (.hd S.length), some (.lst (L.map .str)), z3, z4, z5, z6] (S ++ [.lst acc]) = .ok (.nx, ρ') (S ++ [.lst ds]) ∧ ρ'[1]? = some (some (.hd S.length))
  | [], i, acc, z3, z4, z5, z6, hd, ha, hn => ⟨_, rfl, rfl⟩
  | l :: rest, i, acc, z3, z4, z5, z6, hd, ha, hn => by
    have hi : L[i]? = some l := by
      have := congrArg (fun x => x[0]?) hd
      simpa using this
    have hl := hL l (List.mem_of_getElem? hi)
    have hd2 : L.drop (i + 1) = rest := by
      have := congrArg List.tail hd
      simpa using this
    simp at hn
    obtain ⟨y4, y5, b⟩ := lr_line hl hS ha (by omega) (w_at L i hi (S ++ [.lst acc])) t z4 z5 z6
    have st : forGo (gN 3) B__law_read_2 ((List.range' i (l :: rest).length).map fun (j : Nat) => .int (j : Int)) [t, some (.hd S.length), some (.lst (L.map .str)), z3, z4, z5, z6] (S ++ [.lst acc]) =
        (B__law_read_2 [t, some (.hd S.length), some (.lst (L.map .str)), some (.int (i : Int)), z4, z5, z6] (S ++ [.lst acc])).bind fun a S1 => match a.1 with
          | .nx => forGo (gN 3) B__law_read_2 ((List.range' (i + 1) rest.length).map fun (j : Nat) => .int (j : Int)) a.2 S1
          | .ct => forGo (gN 3) B__law_read_2 ((List.range' (i + 1) rest.length).map fun (j : Nat) => .int (j : Int)) a.2 S1
          | .bk => .ok (.nx, a.2) S1
          | .rt d => .ok (.rt d, a.2) S1 := rfl
    unfold rdL
    cases hc : wordsOf l with
    | nil =>
      rw [hc] at b
      have ih := lr_loop hS t L hL rest (i + 1) acc (some (.int (i : Int))) y4 y5 z6 hd2 ha (by omega)
      simp only [b, R.bind] at st
      rw [st]
      exact ih
    | cons w ws =>
      rw [hc] at b
      have gw := words_gws hl
      rw [hc] at gw
      cases ht : told (w :: ws) with
      | none =>
        simp only [ht] at b ⊢
        simp only [b, R.bind] at st
        exact ⟨_, _, st⟩
      | some c =>
        simp only [ht] at b ⊢
        have ih := lr_loop hS t L hL rest (i + 1) (acc ++ [c]) (some (.int (i : Int))) y4 y5 z6 hd2 (okFs_snoc ha (told_sm gw ht).1.ok) (by simp; omega)
        simp only [b, R.bind] at st
        rw [st]
        exact ih
end P64
end
section
set_option maxRecDepth 100000
set_option maxHeartbeats 8000000
set_option autoImplicit false
set_option linter.all false
namespace P64
open PySem L2 DL
/-- the program's loop over lines -/
theorem rc_loop (C : Addr) {S : Store} (t : Option D) : ∀ (rest : List Str) (i : Nat) (acc : List D) (z2 z3 z4 z5 z6 : Option D), (∀ l ∈ rest, LineOk l) → okFs acc = true → acc.length + rest.length ≤ 100000 →
    match rdL i acc rest with
    | .inl k => ∃ acc', okFs acc' = true ∧ forGo (gT (gsC (gN 2) (gsC (gN 3) gsN))) (B_read_commands_2 C) (enD i (rest.map .str)) [t, some (.hd S.length), z2, z3, z4, z5, z6] (S ++ [.lst acc]) = .ex ⟨C, some [("at", .int 0), ("line", .int (k : Int))]⟩ (S ++ [.lst acc'])
    | .inr ds => okFs ds = true ∧ ∃ ρ', forGo (gT (gsC (gN 2) (gsC (gN 3) gsN))) (B_read_commands_2 C) (enD i (rest.map .str)) [t, some (.hd S.length), z2, z3, z4, z5, z6] (S ++ [.lst acc]) = .ok (.nx, ρ') (S ++ [.lst ds]) ∧ ρ'[1]? = some (some (.hd S.length))
  | [], i, acc, z2, z3, z4, z5, z6, hL, ha, hn => ⟨ha, _, rfl, rfl⟩
  | l :: rest, i, acc, z2, z3, z4, z5, z6, hL, ha, hn => by
    have hl := hL l List.mem_cons_self
    have hL2 : ∀ l ∈ rest, LineOk l := fun z hz => hL z (List.mem_cons_of_mem _ hz)
    simp at hn
    obtain ⟨y4, y5, b⟩ := rc_line C hl (k := .int (i : Int)) (S := S) (acc := acc) (by omega) t z4 z5 z6
    have st : forGo (gT (gsC (gN 2) (gsC (gN 3) gsN))) (B_read_commands_2 C) (enD i ((l :: rest).map .str)) [t, some (.hd S.length), z2, z3, z4, z5, z6] (S ++ [.lst acc]) =
        (B_read_commands_2 C [t, some (.hd S.length), some (.int (i : Int)), some (.str l), z4, z5, z6] (S ++ [.lst acc])).bind fun a S1 => match a.1 with
          | .nx => forGo (gT (gsC (gN 2) (gsC (gN 3) gsN))) (B_read_commands_2 C) (enD (i + 1) (rest.map .str)) a.2 S1
          | .ct => forGo (gT (gsC (gN 2) (gsC (gN 3) gsN))) (B_read_commands_2 C) (enD (i + 1) (rest.map .str)) a.2 S1
          | .bk => .ok (.nx, a.2) S1
          | .rt d => .ok (.rt d, a.2) S1 := rfl
    unfold rdL
    cases hc : wordsOf l with
    | nil =>
      rw [hc] at b
      have ih := rc_loop C (S := S) t rest (i + 1) acc (some (.int (i : Int))) (some (.str l)) y4 y5 z6 hL2 ha (by omega)
      simp only [b, R.bind] at st
      rw [st]
      exact ih
    | cons w ws =>
      rw [hc] at b
      have gw := words_gws hl
      rw [hc] at gw
      cases ht : told (w :: ws) with
      | none =>
        simp only [ht] at b ⊢
        simp only [b, R.bind] at st
        exact ⟨_, ha, st⟩
      | some c =>
        simp only [ht] at b ⊢
        have ih := rc_loop C (S := S) t rest (i + 1) (acc ++ [c]) (some (.int (i : Int))) (some (.str l)) y4 y5 z6 hL2 (okFs_snoc ha (told_sm gw ht).1.ok) (by simp; omega)
        simp only [b, R.bind] at st
        rw [st]
        exact ih
structure TextOk (t : Str) : Prop where
  ok : PyData.strOk t = true
  l : t.length ≤ 30000
  ls : ∀ p ∈ Txt.split t ("\n" : Str), p.length ≤ 2500
def linesOf (t : Str) : List Str := Txt.split t ("\n" : Str)
theorem TextOk.lines {t : Str} (h : TextOk t) : ∀ l ∈ linesOf t, LineOk l := fun l hl => ⟨cut_ok h.ok 10 l hl, h.ls l hl⟩
theorem sum_one : ∀ xs : List Str, xs.length ≤ (xs.map fun p => p.length + 1).sum
  | [] => by simp
  | x :: xs => by have := sum_one xs; simp; omega
theorem TextOk.n {t : Str} (h : TextOk t) : (linesOf t).length ≤ 30001 := by
  have h2 := cut_len t 10
  have := sum_one (linesOf t)
  have e : linesOf t = Txt.split t ⟨#[10]⟩ := rfl
  rw [e] at this ⊢
  have := h.l
  omega
theorem split_text {t : Str} (h : TextOk t) (S : Store) : splitF (.str t) [.str ("\n" : Str)] S = .ok (.lst ((linesOf t).map .str)) S := by
  have := h.l
  show (if (("\n" : Str).length == 0) = false ∧ t.length + 2 ≤ sizeLine then _ else _) = _
  rw [if_pos ⟨by decide +kernel, Nat.le_trans (show t.length + 2 ≤ 1000000 by omega) (Nat.le_of_lt line_big)⟩]
  rfl
/-- what a text tells -/
def readD (t : Str) : D := match rdL 0 [] (linesOf t) with
  | .inl k => .tup [.str "refused", .int (k : Int), .int 0]
  | .inr ds => .tup [.str "told", .tup ds]
theorem rd_ok : ∀ (rest : List Str) (i : Nat) (acc ds : List D), (∀ l ∈ rest, LineOk l) → okFs acc = true → rdL i acc rest = .inr ds → okFs ds = true
  | [], i, acc, ds, _, ha, e => by cases e; exact ha
  | l :: rest, i, acc, ds, hL, ha, e => by
    have hl := hL l List.mem_cons_self
    have hL2 : ∀ l ∈ rest, LineOk l := fun z hz => hL z (List.mem_cons_of_mem _ hz)
    unfold rdL at e
    cases hc : wordsOf l with
    | nil => rw [hc] at e; exact rd_ok rest _ _ _ hL2 ha e
    | cons w ws =>
      have gw := words_gws hl
      rw [hc] at gw e
      cases ht : told (w :: ws) with
      | none => simp [ht] at e
      | some c =>
        simp only [ht] at e
        exact rd_ok rest _ _ _ hL2 (okFs_snoc ha (told_sm gw ht).1.ok) e
theorem read_for {t : Str} {S : Store} {n : Nat} {vs : List D} {fl : Fl} {ρ' : Rho} {S' : Store} {Ls : D} (sp : splitF (.str t) [.str ("\n" : Str)] (S ++ [.lst []]) = .ok Ls (S ++ [.lst []]))
    (it : iR1 (aC (eL lenF (aC (eV 2) aN)) aN) [some (.str t), some (.hd S.length), some Ls, none, none, none, none] (S ++ [.lst []]) = .ok vs (S ++ [.lst []]))
    (hf : forGo (gN 3) B__law_read_2 vs [some (.str t), some (.hd S.length), some Ls, none, none, none, none] (S ++ [.lst []]) = .ok (fl, ρ') S') :
    fnF0 7 (sSeq (sPar 1 2 (aC (eNew aN) (aC (eM "str" splitF (eV 0) (aC (eC (.str "\n")) aN)) aN)))
      (sSeq (sFor (iR1 (aC (eL lenF (aC (eV 2) aN)) aN)) (gN 3) B__law_read_2) (sRet (eTup (aC (eC (.str "told")) (aC (eL tupF (aC (eV 1) aN)) aN)))))) [.str t] S =
    match contF (sRet (eTup (aC (eC (.str "told")) (aC (eL tupF (aC (eV 1) aN)) aN)))) fl ρ' S' with
      | .ok (.nx, _) S' => .ok .non S'
      | .ok (.rt d, _) S' => .ok d S'
      | _ => .no := by
  have p1 : sPar 1 2 (aC (eNew aN) (aC (eM "str" splitF (eV 0) (aC (eC (.str "\n")) aN)) aN)) [some (.str t), none, none, none, none, none, none] S = .ok (.nx, [some (.str t), some (.hd S.length), some Ls, none, none, none, none]) (S ++ [.lst []]) := by
    simp [fnF0, fnF, sNil, sSeq, sEx, sRet, sRetN, sBrk, sCnt, sIf, sAsg, sPar, sFor, sSub, setF, eV, eC, DL.e1, DL.e2, eL, aN, aC, eCall, eTup, eLst, eNew, eM, eAnd, eOr, eNot, eIf, eCh, asB, bAnd, bOr, bNot, bY, gN, gsN, gsC, gT, iL, iT, iS, iR1, iZp, iEn, sdF, oN, oS, eSl, R.bind, tagF, sp]
  have p2 : sFor (iR1 (aC (eL lenF (aC (eV 2) aN)) aN)) (gN 3) B__law_read_2 [some (.str t), some (.hd S.length), some Ls, none, none, none, none] (S ++ [.lst []]) = .ok (fl, ρ') S' := by
    unfold sFor
    rw [it]
    exact hf
  have b : sSeq (sPar 1 2 (aC (eNew aN) (aC (eM "str" splitF (eV 0) (aC (eC (.str "\n")) aN)) aN)))
      (sSeq (sFor (iR1 (aC (eL lenF (aC (eV 2) aN)) aN)) (gN 3) B__law_read_2) (sRet (eTup (aC (eC (.str "told")) (aC (eL tupF (aC (eV 1) aN)) aN))))) (([.str t] : List D).map some ++ List.replicate (7 - ([.str t] : List D).length) none) S = contF (sRet (eTup (aC (eC (.str "told")) (aC (eL tupF (aC (eV 1) aN)) aN)))) fl ρ' S' := by
    show sSeq _ _ [some (.str t), none, none, none, none, none, none] S = _
    unfold sSeq
    rw [p1]
    simp only [R.bind]
    rw [p2]
    cases fl <;> rfl
  unfold fnF0 fnF
  rw [b]
  generalize contF (sRet (eTup (aC (eC (.str "told")) (aC (eL tupF (aC (eV 1) aN)) aN)))) fl ρ' S' = z
  cases z with
  | no => rfl
  | ex _ _ => rfl
  | ok q _ =>
    obtain ⟨f, _⟩ := q
    cases f <;> rfl
theorem lines_b {n : Nat} (h : n ≤ 30001) : -(2 ^ 30) < (n : Int) ∧ (n : Int) < 2 ^ 30 :=
  ⟨Int.lt_of_lt_of_le (by decide) (Int.natCast_nonneg _), Int.lt_of_le_of_lt (show (n : Int) ≤ 30001 by omega) (by decide)⟩
theorem len_it2 {x y z u w2 w3 : Option D} {r : D} {m : Int} {S : Store} (hl : lenF [r] S = .ok (.int m) S) (h0 : -(2 ^ 30) < m) (h1 : m < 2 ^ 30) : iR1 (aC (eL lenF (aC (eV 2) aN)) aN) [x, y, some r, z, u, w2, w3] S = .ok ((List.range' 0 m.toNat).map fun (i : Nat) => .int (i : Int)) S := by
  rw [← List.range_eq_range']
  have := iR1_eq (fa := aC (eL lenF (aC (eV 2) aN)) aN) (ρ := [x, y, some r, z, u, w2, w3]) (S := S) (j := m) (by simp [fnF0, fnF, sNil, sSeq, sEx, sRet, sRetN, sBrk, sCnt, sIf, sAsg, sPar, sFor, sSub, setF, eV, eC, DL.e1, DL.e2, eL, aN, aC, eCall, eTup, eLst, eNew, eM, eAnd, eOr, eNot, eIf, eCh, asB, bAnd, bOr, bNot, bY, gN, gsN, gsC, gT, iL, iT, iS, iR1, iZp, iEn, sdF, oN, oS, eSl, R.bind, hl]) h0 h1
  rw [this]
  congr 1
  apply List.map_congr_left
  intro i _
  rw [Int.zero_add]
theorem rd_lt : ∀ (rest : List Str) (i : Nat) (acc : List D) (k : Nat), rdL i acc rest = .inl k → k ≤ i + rest.length
  | [], i, acc, k, e => by cases e
  | l :: rest, i, acc, k, e => by
    unfold rdL at e
    simp only [List.length_cons]
    cases hc : wordsOf l with
    | nil =>
      rw [hc] at e
      have := rd_lt rest _ _ _ e
      omega
    | cons w ws =>
      rw [hc] at e
      cases ht : told (w :: ws) with
      | none =>
        simp only [ht] at e
        cases e
        omega
      | some c =>
        simp only [ht] at e
        have := rd_lt rest _ _ _ e
        omega
theorem ref_ok {k : Nat} (h : k ≤ 30001) : okF (.tup [.str "refused", .int (k : Int), .int 0]) = true := by
  have h1 : okF (.int (k : Int)) = true := by
    simp only [okF]
    apply decide_eq_true
    rw [Int.natAbs_natCast]
    exact Nat.lt_of_le_of_lt h (by decide)
  have h2 : okF (.str "refused") = true := by decide +kernel
  have h3 : okF (.int 0) = true := by decide +kernel
  unfold okF okFs okFs okFs
  rw [h1, h2, h3]
  rfl
theorem law_read_eq {t : Str} (h : TextOk t) {S : Store} (hS : okS S) : F__law_read [.str t] S = .ok (readD t) S := by
  have hb := lines_b h.n
  have it := len_it2 (x := some (.str t)) (y := some (.hd S.length)) (z := none) (u := none) (w2 := none) (w3 := none) (len_ws (linesOf t) (S ++ [.lst []])) hb.1 hb.2
  rw [Int.toNat_natCast] at it
  have lp := lr_loop hS (some (.str t)) (linesOf t) h.lines (linesOf t) 0 [] none none none none rfl rfl (by have := h.n; simp; omega)
  have sp := split_text h (S ++ [.lst []])
  unfold readD
  cases hr : rdL 0 [] (linesOf t) with
  | inl k =>
    simp only [hr] at lp ⊢
    obtain ⟨ρ', acc', e⟩ := lp
    exact sc_ok (read_for (n := 0) sp it e) hS (ref_ok (by have := rd_lt _ _ _ _ hr; have := h.n; omega))
  | inr ds =>
    simp only [hr] at lp ⊢
    obtain ⟨ρ', e, r1⟩ := lp
    have ok := rd_ok _ _ _ _ h.lines rfl hr
    have e2 := read_for (n := 0) sp it e
    have tp : seqF (S ++ [.lst ds]) (.hd S.length) = some ds := by simp [seqF]
    have e3 : contF (sRet (eTup (aC (eC (.str "told")) (aC (eL tupF (aC (eV 1) aN)) aN)))) .nx ρ' (S ++ [.lst ds]) = .ok (.rt (.tup [.str "told", .tup ds]), ρ') (S ++ [.lst ds]) := by
      simp [contF, fnF0, fnF, sNil, sSeq, sEx, sRet, sRetN, sBrk, sCnt, sIf, sAsg, sPar, sFor, sSub, setF, eV, eC, DL.e1, DL.e2, eL, aN, aC, eCall, eTup, eLst, eNew, eM, eAnd, eOr, eNot, eIf, eCh, asB, bAnd, bOr, bNot, bY, gN, gsN, gsC, gT, iL, iT, iS, iR1, iZp, iEn, sdF, oN, oS, eSl, R.bind, r1, tupF, tp]
    rw [e3] at e2
    exact sc_ok e2 hS (by simp [okF, okFs, ok]; decide +kernel)
/-! ### the program's reading -/
theorem rc_body (C : Addr) {t : Str} {S : Store} {n : Nat} {Ls : List D} (sp : splitF (.str t) [.str ("\n" : Str)] (S ++ [.lst []]) = .ok (.lst Ls) (S ++ [.lst []])) :
    fnF 7 (sSeq (sIf (bNot (asB (DL.e1 (isiF "str") (eV 0)))) (sRaise2 C "line" "at" (aC (DL.e1 negF (eC (.int 1))) (aC (DL.e1 negF (eC (.int 1))) aN))) sNil)
      (sSeq (sAsg (eNew aN) (gN 1)) (sSeq (sFor (iEn (aC (eM "str" splitF (eV 0) (aC (eC (.str "\n")) aN)) aN)) (gT (gsC (gN 2) (gsC (gN 3) gsN))) (B_read_commands_2 C)) (sRet (eL tupF (aC (eV 1) aN)))))) [.str t] S =
    match forGo (gT (gsC (gN 2) (gsC (gN 3) gsN))) (B_read_commands_2 C) (enD 0 Ls) [some (.str t), some (.hd S.length), none, none, none, none, none] (S ++ [.lst []]) with
      | .ok (fl, ρ') S' => (match contF (sRet (eL tupF (aC (eV 1) aN))) fl ρ' S' with
        | .ok (.nx, _) S' => .ok .non S'
        | .ok (.rt d, _) S' => .ok d S'
        | .ex e S' => .ex e S'
        | _ => .no)
      | .ex e S' => .ex e S'
      | .no => .no := by
  have p0 : sIf (bNot (asB (DL.e1 (isiF "str") (eV 0)))) (sRaise2 C "line" "at" (aC (DL.e1 negF (eC (.int 1))) (aC (DL.e1 negF (eC (.int 1))) aN))) sNil [some (.str t), none, none, none, none, none, none] S = .ok (.nx, [some (.str t), none, none, none, none, none, none]) S := by
    simp [fnF0, fnF, sNil, sSeq, sEx, sRet, sRetN, sBrk, sCnt, sIf, sAsg, sPar, sFor, sSub, setF, eV, eC, DL.e1, DL.e2, eL, aN, aC, eCall, eTup, eLst, eNew, eM, eAnd, eOr, eNot, eIf, eCh, asB, bAnd, bOr, bNot, bY, gN, gsN, gsC, gT, iL, iT, iS, iR1, iZp, iEn, sdF, oN, oS, eSl, R.bind, isiF, tagF]
    intro q
    exact absurd q (by decide)
  have p1 : sAsg (eNew aN) (gN 1) [some (.str t), none, none, none, none, none, none] S = .ok (.nx, [some (.str t), some (.hd S.length), none, none, none, none, none]) (S ++ [.lst []]) := by
    simp [fnF0, fnF, sNil, sSeq, sEx, sRet, sRetN, sBrk, sCnt, sIf, sAsg, sPar, sFor, sSub, setF, eV, eC, DL.e1, DL.e2, eL, aN, aC, eCall, eTup, eLst, eNew, eM, eAnd, eOr, eNot, eIf, eCh, asB, bAnd, bOr, bNot, bY, gN, gsN, gsC, gT, iL, iT, iS, iR1, iZp, iEn, sdF, oN, oS, eSl, R.bind]
  have p2 : sFor (iEn (aC (eM "str" splitF (eV 0) (aC (eC (.str "\n")) aN)) aN)) (gT (gsC (gN 2) (gsC (gN 3) gsN))) (B_read_commands_2 C) [some (.str t), some (.hd S.length), none, none, none, none, none] (S ++ [.lst []]) = forGo (gT (gsC (gN 2) (gsC (gN 3) gsN))) (B_read_commands_2 C) (enD 0 Ls) [some (.str t), some (.hd S.length), none, none, none, none, none] (S ++ [.lst []]) := by
    unfold sFor
    have : iEn (aC (eM "str" splitF (eV 0) (aC (eC (.str "\n")) aN)) aN) [some (.str t), some (.hd S.length), none, none, none, none, none] (S ++ [.lst []]) = .ok (enD 0 Ls) (S ++ [.lst []]) := by
      simp [iEn, fnF0, fnF, sNil, sSeq, sEx, sRet, sRetN, sBrk, sCnt, sIf, sAsg, sPar, sFor, sSub, setF, eV, eC, DL.e1, DL.e2, eL, aN, aC, eCall, eTup, eLst, eNew, eM, eAnd, eOr, eNot, eIf, eCh, asB, bAnd, bOr, bNot, bY, gN, gsN, gsC, gT, iL, iT, iS, iR1, iZp, iEn, sdF, oN, oS, eSl, R.bind, tagF, sp]
    rw [this]
    rfl
  unfold fnF
  show (match sSeq _ _ [some (.str t), none, none, none, none, none, none] S with
    | .ok (.nx, _) S' => R.ok D.non S'
    | .ok (.rt d, _) S' => .ok d S'
    | .ex e S' => .ex e S'
    | _ => .no) = _
  unfold sSeq
  rw [p0]
  simp only [R.bind]
  rw [p1]
  simp only [R.bind]
  rw [p2]
  generalize forGo (gT (gsC (gN 2) (gsC (gN 3) gsN))) (B_read_commands_2 C) (enD 0 Ls) [some (.str t), some (.hd S.length), none, none, none, none, none] (S ++ [.lst []]) = z
  cases z with
  | no => rfl
  | ex _ _ => rfl
  | ok q _ =>
    obtain ⟨f, _⟩ := q
    cases f <;> rfl
theorem sc_ex {F : FF} {ds : List D} {S T : Store} {e : Exn} (h : F ds S = .ex e (S ++ T)) (hs : okS S) (hd : okDs S.length ((e.fs.getD []).map (·.2)) = true) : scF F ds S = .ex e S := by
  unfold scF
  rw [h]
  dsimp only
  have e : (S ++ T).take S.length = S := by simp
  rw [e, if_pos ⟨show List.all S (okC S.length) = true from hs, hd⟩]
theorem read_commands_eq (C : Addr) {t : Str} (h : TextOk t) {S : Store} (hS : okS S) : F_read_commands C [.str t] S = match rdL 0 [] (linesOf t) with
    | .inl k => .ex ⟨C, some [("at", .int 0), ("line", .int (k : Int))]⟩ S
    | .inr ds => .ok (.tup ds) S := by
  have bd := rc_body C (n := 0) (split_text h (S ++ [.lst []]))
  have lp := rc_loop C (S := S) (some (.str t)) (linesOf t) 0 [] none none none none none h.lines rfl (by have := h.n; simp; omega)
  cases hr : rdL 0 [] (linesOf t) with
  | inl k =>
    simp only [hr] at lp ⊢
    obtain ⟨acc', _, e⟩ := lp
    rw [e] at bd
    exact sc_ex bd hS rfl
  | inr ds =>
    simp only [hr] at lp ⊢
    obtain ⟨ok, ρ', e, r1⟩ := lp
    rw [e] at bd
    have tp : seqF (S ++ [.lst ds]) (.hd S.length) = some ds := by simp [seqF]
    have e3 : contF (sRet (eL tupF (aC (eV 1) aN))) .nx ρ' (S ++ [.lst ds]) = .ok (.rt (.tup ds), ρ') (S ++ [.lst ds]) := by
      simp [contF, fnF0, fnF, sNil, sSeq, sEx, sRet, sRetN, sBrk, sCnt, sIf, sAsg, sPar, sFor, sSub, setF, eV, eC, DL.e1, DL.e2, eL, aN, aC, eCall, eTup, eLst, eNew, eM, eAnd, eOr, eNot, eIf, eCh, asB, bAnd, bOr, bNot, bY, gN, gsN, gsC, gT, iL, iT, iS, iR1, iZp, iEn, sdF, oN, oS, eSl, R.bind, r1, tupF, tp]
    simp only [e3] at bd
    exact sc_ok bd hS (by simpa [okF] using ok)
theorem heard_eq (C : Addr) {t : Str} (h : TextOk t) {S : Store} (hS : okS S) : F__law_heard C [.str t] S = .ok (readD t) S := by
  have rc := read_commands_eq C h hS
  unfold F__law_heard readD
  cases hr : rdL 0 [] (linesOf t) with
  | inl k =>
    rw [hr] at rc
    have g : g_heard ⟨C, some [("at", .int 0), ("line", .int (k : Int))]⟩ = some (.tup [.str "refused", .int (k : Int), .int 0]) := rfl
    simp [fnF0, fnF, sNil, sSeq, sEx, sRet, sRetN, sBrk, sCnt, sIf, sAsg, sPar, sFor, sSub, setF, eV, eC, DL.e1, DL.e2, eL, aN, aC, eCall, eTup, eLst, eNew, eM, eAnd, eOr, eNot, eIf, eCh, asB, bAnd, bOr, bNot, bY, gN, gsN, gsC, gT, iL, iT, iS, iR1, iZp, iEn, sdF, oN, oS, eSl, R.bind, sTry, rc, g]
  | inr ds =>
    rw [hr] at rc
    simp [fnF0, fnF, sNil, sSeq, sEx, sRet, sRetN, sBrk, sCnt, sIf, sAsg, sPar, sFor, sSub, setF, eV, eC, DL.e1, DL.e2, eL, aN, aC, eCall, eTup, eLst, eNew, eM, eAnd, eOr, eNot, eIf, eCh, asB, bAnd, bOr, bNot, bY, gN, gsN, gsC, gT, iL, iT, iS, iR1, iZp, iEn, sdF, oN, oS, eSl, R.bind, sTry, rc]
theorem heard_odd (C : Addr) {d : D} (hd : ∀ S, isiF "str" d S = .ok (.bl false) S) {S : Store} (hS : okS S) : F__law_heard C [d] S = .ok (.tup [.str "refused", .int (-1), .int (-1)]) S := by
  have rc : F_read_commands C [d] S = .ex ⟨C, some [("at", .int (-1)), ("line", .int (-1))]⟩ S := by
    refine sc_ex (T := []) ?_ hS rfl
    rw [List.append_nil]
    simp [fnF0, fnF, sNil, sSeq, sEx, sRet, sRetN, sBrk, sCnt, sIf, sAsg, sPar, sFor, sSub, setF, eV, eC, DL.e1, DL.e2, eL, aN, aC, eCall, eTup, eLst, eNew, eM, eAnd, eOr, eNot, eIf, eCh, asB, bAnd, bOr, bNot, bY, gN, gsN, gsC, gT, iL, iT, iS, iR1, iZp, iEn, sdF, oN, oS, eSl, R.bind, hd, sRaise2, negF]
  have g : g_heard ⟨C, some [("at", .int (-1)), ("line", .int (-1))]⟩ = some (.tup [.str "refused", .int (-1), .int (-1)]) := rfl
  unfold F__law_heard
  simp [fnF0, fnF, sNil, sSeq, sEx, sRet, sRetN, sBrk, sCnt, sIf, sAsg, sPar, sFor, sSub, setF, eV, eC, DL.e1, DL.e2, eL, aN, aC, eCall, eTup, eLst, eNew, eM, eAnd, eOr, eNot, eIf, eCh, asB, bAnd, bOr, bNot, bY, gN, gsN, gsC, gT, iL, iT, iS, iR1, iZp, iEn, sdF, oN, oS, eSl, R.bind, sTry, rc, g]
end P64
end
section
set_option maxRecDepth 100000
set_option maxHeartbeats 8000000
set_option autoImplicit false
set_option linter.all false
namespace P64
open PySem L2 DL
/-! ### repr of plain data -/
structure Shw (d : D) (p : PyData) : Prop where
  s : shD d = some p
  l : p.leavesShort 13 = true
  h : p.showable = true
  dd : p.depth ≤ dp d
  w : p.weight ≤ wt d
structure Shws (ds : List D) (ps : List PyData) : Prop where
  s : shDs ds = some ps
  l : PyData.leavesShortAll 13 ps = true
  h : PyData.showableAll ps = true
  dd : PyData.depthAll ps ≤ dps ds
  w : PyData.weightAll ps ≤ wts ds
theorem log_small {n : Nat} (h : n < 10 ^ 12) : n.log2 < 49 := by
  by_cases h0 : n = 0
  · subst h0; decide
  · exact (Nat.log2_lt h0).mpr (Nat.lt_trans h (by decide))
mutual
theorem shw_of : ∀ {d : D}, okF d = true → ∃ p, Shw d p
  | .non, _ => ⟨.none, rfl, rfl, rfl, Nat.le_refl _, Nat.le_refl _⟩
  | .bl b, _ => ⟨.bool b, rfl, rfl, rfl, Nat.le_refl _, Nat.le_refl _⟩
  | .int i, h => by
    have h' : i.natAbs < 10 ^ 12 := by simpa only [okF, decide_eq_true_eq] using h
    have hl := log_small h'
    refine ⟨.int i, rfl, ?_, ?_, Nat.le_refl _, ?_⟩
    · simp only [PyData.leavesShort, decide_eq_true_eq]; exact PyData.shown_int_le h'
    · simp only [PyData.showable, decide_eq_true_eq]; omega
    · simp only [PyData.weight, wt]; split <;> omega
  | .str x, h => by
    refine ⟨.str x, rfl, ?_, rfl, Nat.le_refl _, ?_⟩
    · have h' : x.cps.all (· < 0x110000) = true := h
      simp only [PyData.leavesShort]
      rw [← Array.all_toList, List.all_eq_true] at h'
      rw [List.all_eq_true]
      intro c hc
      have := h' c hc
      simp only [decide_eq_true_eq] at this ⊢
      exact Nat.lt_trans this (by decide)
    · simp only [PyData.weight, wt]; exact Nat.le_refl _
  | .em, _ => ⟨.dict [], rfl, rfl, rfl, by simp [PyData.depth, PyData.depthKv, dp], by simp [PyData.weight, PyData.weightKv]⟩
  | .tup ds, h => by
    obtain ⟨ps, a⟩ := shws_of (ds := ds) (by simpa [okF] using h)
    exact ⟨.tuple ps, by simp [shD, a.s], by simpa [PyData.leavesShort] using a.l, by simpa [PyData.showable] using a.h, by simp [PyData.depth, dp]; exact a.dd, by simp [PyData.weight, wt]; exact a.w⟩
  | .lst ds, h => by
    obtain ⟨ps, a⟩ := shws_of (ds := ds) (by simpa [okF] using h)
    exact ⟨.list ps, by simp [shD, a.s], by simpa [PyData.leavesShort] using a.l, by simpa [PyData.showable] using a.h, by simp [PyData.depth, dp]; exact a.dd, by simp [PyData.weight, wt]; exact a.w⟩
  | .rol _, h => by simp [okF] at h
  | .hd _, h => by simp [okF] at h
theorem shws_of : ∀ {ds : List D}, okFs ds = true → ∃ ps, Shws ds ps
  | [], _ => ⟨[], rfl, rfl, rfl, Nat.le_refl _, Nat.le_refl _⟩
  | d :: ds, h => by
    have h' : okF d = true ∧ okFs ds = true := by simpa [okFs] using h
    obtain ⟨p, a⟩ := shw_of h'.1
    obtain ⟨ps, b⟩ := shws_of h'.2
    have := a.dd; have := a.w; have := b.dd; have := b.w
    refine ⟨p :: ps, by simp [shDs, a.s, b.s], by simp [PyData.leavesShortAll, a.l, b.l], by simp [PyData.showableAll, a.h, b.h], ?_, ?_⟩
    · simp only [PyData.depthAll, dps]; omega
    · simp only [PyData.weightAll, wts]; omega
end
theorem repr_eq {d : D} (h : okF d = true) (hw : wt d ≤ 2 ^ 20) (hd : dp d ≤ 64) : ∃ x : Str, ∀ S, reprF [d] S = .ok (.str x) S := by
  obtain ⟨p, a⟩ := shw_of h
  have := a.dd
  refine ⟨p.shown, fun S => ?_⟩
  unfold reprF
  dsimp only
  rw [a.s]
  dsimp only
  rw [if_pos ⟨a.h, PyData.shown_fits (B := 13) (by decide) (by decide) a.l (Nat.le_trans a.w hw), by omega⟩]
end P64
end
section
set_option maxRecDepth 100000
set_option maxHeartbeats 8000000
set_option autoImplicit false
set_option linter.all false
namespace P64
open PySem L2 DL
/-! ### shown texts hold signs only -/
def ltOk (l : List Nat) : Prop := ∀ c ∈ l, c < 0x110000
theorem ok_iff (x : Str) : PyData.strOk x = true ↔ ltOk x.cps.toList := by
  unfold PyData.strOk ltOk
  rw [← Array.all_toList, List.all_eq_true]
  simp
theorem chr_lt (c : Char) : c.toNat < 0x110000 := by
  have h : c.val.toNat < 0xd800 ∨ (0xdfff < c.val.toNat ∧ c.val.toNat < 0x110000) := c.valid
  show c.val.toNat < _
  omega
theorem ok_lit (s : String) : PyData.strOk (Str.ofString s) = true := by
  rw [ok_iff]
  show ltOk (TL.tl _)
  rw [TL.tl_ofString]
  intro c hc
  obtain ⟨k, _, rfl⟩ := List.mem_map.mp hc
  exact chr_lt k
theorem ok_app {x y : Str} (hx : PyData.strOk x = true) (hy : PyData.strOk y = true) : PyData.strOk (x ++ y) = true := by
  rw [ok_iff] at hx hy ⊢
  show ltOk (TL.tl _)
  rw [TL.tl_append]
  intro c hc
  rcases List.mem_append.mp hc with h | h
  · exact hx c h
  · exact hy c h
theorem ok_hex (w c : Nat) : ltOk (List.replicate (w - ((Nat.toDigits 16 c).map Char.toNat).length) 48 ++ (Nat.toDigits 16 c).map Char.toNat) := by
  intro a ha
  rcases List.mem_append.mp ha with h | h
  · rw [(List.mem_replicate.mp h).2]; decide
  · obtain ⟨k, _, rfl⟩ := List.mem_map.mp h
    exact chr_lt k
theorem lt_app {a b : List Nat} (ha : ltOk a) (hb : ltOk b) : ltOk (a ++ b) := fun c hc => by
  rcases List.mem_append.mp hc with h | h
  · exact ha c h
  · exact hb c h
theorem lt_cons {a : Nat} {b : List Nat} (ha : a < 0x110000) (hb : ltOk b) : ltOk (a :: b) := fun c hc => by
  rcases List.mem_cons.mp hc with h | h
  · rw [h]; exact ha
  · exact hb c h
theorem lt_nil : ltOk [] := fun _ h => nomatch h
theorem ok_chr {q c : Nat} (hc : c < 0x110000) : ltOk (Builtin.Str.reprChar q c) := by
  unfold Builtin.Str.reprChar
  dsimp only
  split
  · exact lt_cons (by decide) (lt_cons hc lt_nil)
  split
  · exact lt_cons (by decide) (lt_cons (by decide) lt_nil)
  split
  · exact lt_cons (by decide) (lt_cons (by decide) lt_nil)
  split
  · exact lt_cons (by decide) (lt_cons (by decide) lt_nil)
  split
  · exact lt_cons hc lt_nil
  split
  · exact lt_app (lt_cons (by decide) (lt_cons (by decide) lt_nil)) (ok_hex _ _)
  split
  · exact lt_app (lt_cons (by decide) (lt_cons (by decide) lt_nil)) (ok_hex _ _)
  · exact lt_app (lt_cons (by decide) (lt_cons (by decide) lt_nil)) (ok_hex _ _)
theorem ok_fold (q : Nat) : ∀ (l : List Nat) (acc : Array Nat), ltOk l → ltOk acc.toList → ltOk (l.foldl (fun out c => out ++ (Builtin.Str.reprChar q c).toArray) acc).toList
  | [], acc, _, ha => ha
  | c :: l, acc, hl, ha => by
    rw [List.foldl_cons]
    refine ok_fold q l _ (fun a h => hl a (List.mem_cons_of_mem _ h)) ?_
    rw [Array.toList_append]
    exact lt_app ha (ok_chr (hl c List.mem_cons_self))
theorem ok_repr {x : Str} (h : PyData.strOk x = true) : PyData.strOk (reprText x) = true := by
  rw [ok_iff] at h ⊢
  have q : reprQuote x < 0x110000 := by
    unfold reprQuote
    split <;> decide
  unfold reprText
  simp only [Array.toList_push]
  rw [← Array.foldl_toList]
  exact lt_app (ok_fold _ _ _ h (lt_cons q lt_nil)) (lt_cons q lt_nil)
theorem ok_join {s : Str} (hs : PyData.strOk s = true) : ∀ ps : List Str, (∀ p ∈ ps, PyData.strOk p = true) → PyData.strOk (Str.join s ps) = true
  | [], _ => (by decide +kernel : PyData.strOk Str.empty = true)
  | [p], h => h p List.mem_cons_self
  | p :: q :: r, h => ok_app (ok_app (h p List.mem_cons_self) hs) (ok_join hs (q :: r) fun z hz => h z (List.mem_cons_of_mem _ hz))
theorem ok_from : ∀ (ts : List Str) (k : Nat) (acc : Str), (∀ t ∈ ts, PyData.strOk t = true) → PyData.strOk acc = true → PyData.strOk (textFrom k acc ts) = true
  | [], _, _, _, ha => ha
  | t :: ts, k, acc, h, ha => ok_from ts (k + 1) _ (fun z hz => h z (List.mem_cons_of_mem _ hz)) (ok_app (ok_app ha (ok_lit _)) (h t List.mem_cons_self))
mutual
theorem ok_shown : ∀ {d : PyData}, (∀ {x : D}, shD x = some d → okF x = true → PyData.strOk d.shown = true)
  | d, .non, e, _ => by cases e; exact ok_lit _
  | d, .bl b, e, _ => by cases e; cases b <;> exact ok_lit _
  | d, .int i, e, _ => by cases e; exact ok_lit _
  | d, .str x, e, h => by cases e; exact ok_repr h
  | d, .em, e, _ => by cases e; decide +kernel
  | d, .tup ds, e, h => by
    unfold shD at e
    obtain ⟨q, e1, rfl⟩ := Option.map_eq_some_iff.mp e
    have := ok_showns e1 (by simpa [okF] using h)
    unfold PyData.shown tupleText
    exact ok_app (ok_app (ok_lit _) (ok_join (ok_lit _) _ this)) (ok_lit _)
  | d, .lst ds, e, h => by
    unfold shD at e
    obtain ⟨q, e1, rfl⟩ := Option.map_eq_some_iff.mp e
    have := ok_showns e1 (by simpa [okF] using h)
    unfold PyData.shown listText
    exact ok_app (ok_from _ _ _ this (ok_lit _)) (ok_lit _)
  | d, .rol _, e, h => by simp [okF] at h
  | d, .hd _, e, h => by simp [okF] at h
theorem ok_showns : ∀ {qs : List PyData} {xs : List D}, shDs xs = some qs → okFs xs = true → ∀ t ∈ PyData.shownAll qs, PyData.strOk t = true
  | qs, [], e, _ => by cases e; intro t h; cases h
  | qs, x :: xs, e, h => by
    have h' : okF x = true ∧ okFs xs = true := by simpa [okFs] using h
    unfold shDs at e
    split at e
    · rename_i p q e1 e2
      cases e
      intro t ht
      unfold PyData.shownAll at ht
      rcases List.mem_cons.mp ht with rfl | ht
      · exact ok_shown e1 h'.1
      · exact ok_showns e2 h'.2 t ht
    · cases e
end
theorem repr_ok2 {d : D} (h : okF d = true) (hw : wt d ≤ 2 ^ 20) (hd : dp d ≤ 64) : ∃ x : Str, PyData.strOk x = true ∧ ∀ S, reprF [d] S = .ok (.str x) S := by
  obtain ⟨p, a⟩ := shw_of h
  have := a.dd
  refine ⟨p.shown, ok_shown a.s h, fun S => ?_⟩
  unfold reprF
  dsimp only
  rw [a.s]
  dsimp only
  rw [if_pos ⟨a.h, PyData.shown_fits (B := 13) (by decide) (by decide) a.l (Nat.le_trans a.w hw), by omega⟩]
/-- two reprs of one thing are one text -/
theorem repr_same {d : D} (h : okF d = true) (hw : wt d ≤ 2 ^ 20) (hd : dp d ≤ 64) : ∃ x : D, ∀ S, reprF [d] S = .ok x S ∧ ∀ T, eqF true x x T = .ok (.bl false) T := by
  obtain ⟨x, o, e⟩ := repr_ok2 h hw hd
  exact ⟨.str x, fun S => ⟨e S, fun T => by rw [eqF_str o o]; simp⟩⟩
end P64
end
section
set_option maxRecDepth 100000
set_option maxHeartbeats 8000000
set_option autoImplicit false
set_option linter.all false
namespace P64
open PySem L2 DL
/-! ### spoilt data -/
def asc (x : Str) : Prop := ∀ c ∈ x.cps.toList, c < 128
mutual
def dt (m : Nat) : D → Prop
  | .int i => i.natAbs ≤ m
  | .str x => asc x
  | .tup ds => dts m ds
  | .lst ds => dts m ds
  | .rol _ => False
  | .hd _ => False
  | _ => True
def dts (m : Nat) : List D → Prop
  | [] => True
  | d :: ds => dt m d ∧ dts m ds
end
theorem dts_iff {m : Nat} : ∀ {ds : List D}, dts m ds ↔ ∀ d ∈ ds, dt m d
  | [] => by simp [dts]
  | d :: ds => by
    have := dts_iff (m := m) (ds := ds)
    simp [dts, this]
mutual
theorem dt_mono {m n : Nat} (h : m ≤ n) : ∀ {d : D}, dt m d → dt n d
  | .int i, e => Nat.le_trans e h
  | .str x, e => e
  | .tup ds, e => dts_mono h (ds := ds) e
  | .lst ds, e => dts_mono h (ds := ds) e
  | .rol _, e => e
  | .hd _, e => e
  | .non, _ => trivial
  | .bl _, _ => trivial
  | .em, _ => trivial
theorem dts_mono {m n : Nat} (h : m ≤ n) : ∀ {ds : List D}, dts m ds → dts n ds
  | [], _ => trivial
  | d :: ds, e => ⟨dt_mono h e.1, dts_mono h e.2⟩
end
mutual
theorem dt_ok {m : Nat} (h : m < 10 ^ 12) : ∀ {d : D}, dt m d → okF d = true
  | .int i, e => by simp only [okF]; exact decide_eq_true (Nat.lt_of_le_of_lt e h)
  | .str x, e => (ok_iff x).mpr fun c hc => Nat.lt_trans (e c hc) (by decide)
  | .tup ds, e => by simpa [okF] using dts_ok h (ds := ds) e
  | .lst ds, e => by simpa [okF] using dts_ok h (ds := ds) e
  | .rol _, e => e.elim
  | .hd _, e => e.elim
  | .non, _ => rfl
  | .bl _, _ => rfl
  | .em, _ => rfl
theorem dts_ok {m : Nat} (h : m < 10 ^ 12) : ∀ {ds : List D}, dts m ds → okFs ds = true
  | [], _ => rfl
  | d :: ds, e => by simp [okFs, dt_ok h e.1, dts_ok h e.2]
end
structure Gd (m w k : Nat) (d : D) : Prop where
  t : dt m d
  w : wt d ≤ w
  k : dp d ≤ k
theorem Gd.mono {m w k m' w' k' : Nat} {d : D} (h : Gd m w k d) (a : m ≤ m') (b : w ≤ w') (c : k ≤ k') : Gd m' w' k' d := ⟨dt_mono a h.t, Nat.le_trans h.w b, Nat.le_trans h.k c⟩
theorem up_asc : ∀ c : Nat, c < 128 → (Unicode.upperOf c).length = 1 ∧ ∀ k ∈ Unicode.upperOf c, k < 128 := by
  decide +kernel
theorem asc_app {x y : Str} (hx : asc x) (hy : asc y) : asc (x ++ y) := by
  intro c hc
  have hc' : c ∈ TL.tl (x ++ y) := hc
  rw [TL.tl_append] at hc'
  rcases List.mem_append.mp hc' with h | h
  · exact hx c h
  · exact hy c h
theorem asc_cut {x : Str} (hx : asc x) (lo hi : Option Int) : asc (cutS x lo hi) := by
  intro c hc
  unfold cutS at hc
  exact hx c (List.mem_of_mem_drop (List.mem_of_mem_take hc))
theorem asc_upper {x : Str} (hx : asc x) : asc (Txt.upper x) := by
  intro c hc
  unfold Txt.upper PySem.placed at hc
  simp only [Array.mem_toList_iff] at hc
  obtain ⟨a, ha, hca⟩ := Array.mem_flatten.mp hc
  obtain ⟨i, hi, rfl⟩ := Array.mem_mapIdx.mp ha
  exact (up_asc _ (hx x.cps[i] (by simp))).2 c (by simpa using hca)
theorem len_upper {x : Str} (hx : asc x) : (Txt.upper x).length = x.length := by
  have key : ∀ l : List (Array Nat), (∀ a ∈ l, a.size = 1) → (l.map Array.size).sum = l.length := by
    intro l
    induction l with
    | nil => intro _; rfl
    | cons a l ih =>
      intro h
      simp [h a List.mem_cons_self, ih fun b hb => h b (List.mem_cons_of_mem _ hb)]
      omega
  show (PySem.placed x fun _ c => Unicode.upperOf c).size = x.cps.size
  unfold PySem.placed
  rw [Array.size_flatten]
  have := key (x.cps.mapIdx fun _ c => (Unicode.upperOf c).toArray).toList (fun a ha => by
    obtain ⟨i, hi, rfl⟩ := Array.mem_mapIdx.mp (Array.mem_toList_iff.mp ha)
    have := (up_asc _ (hx x.cps[i] (by simp))).1
    simpa using this)
  rw [← Array.sum_toList, Array.toList_map, this, Array.length_toList, Array.size_mapIdx]
abbrev oBase : List D := [.non, .tup [], .lst [], .em, .bl true, .int 7, .str "", .str "Ab", .tup [.str "a", .int 1], .str "now", .tup [.str "now"]]
theorem asc_lit {x : Str} (h : x.cps.toList.all (fun c => decide (c < 128)) = true) : asc x := fun c hc => by
  have := List.all_eq_true.mp h c hc
  simpa using this
theorem base_ok {m : Nat} (hm : 1000001 ≤ m) : ∀ y ∈ oBase, Gd m 100 1 y := by
  intro y hy
  simp only [oBase, List.mem_cons, List.not_mem_nil, or_false] at hy
  rcases hy with rfl | rfl | rfl | rfl | rfl | rfl | rfl | rfl | rfl | rfl | rfl
  · exact ⟨trivial, by decide, by decide⟩
  · exact ⟨trivial, by decide, by decide⟩
  · exact ⟨trivial, by decide, by decide⟩
  · exact ⟨trivial, by decide, by decide⟩
  · exact ⟨trivial, by decide, by decide⟩
  · exact ⟨Nat.le_trans (by decide) hm, by decide, by decide⟩
  · exact ⟨asc_lit (by decide +kernel), by decide +kernel, by decide +kernel⟩
  · exact ⟨asc_lit (by decide +kernel), by decide +kernel, by decide +kernel⟩
  · exact ⟨⟨asc_lit (by decide +kernel), Nat.le_trans (by decide) hm, trivial⟩, by decide +kernel, by decide +kernel⟩
  · exact ⟨asc_lit (by decide +kernel), by decide +kernel, by decide +kernel⟩
  · exact ⟨⟨asc_lit (by decide +kernel), trivial⟩, by decide +kernel, by decide +kernel⟩
/-- the pick from some things, once they are there -/
theorem other_pick {es : List D} {P : D → Prop} (h1 : ∀ y ∈ oBase, P y) (h2 : ∀ y ∈ es, P y) (he : es.length ≤ 20) {xs : List Int} (h : HO xs) (st : Int) (T : Store) :
    ∃ y ys st', F__law_pick [.hd 1, .lst (oBase ++ (List.replicate 2 es).flatten)] (HS xs st T) = .ok y (HS ys st' T) ∧ HO ys ∧ P y := by
  obtain ⟨y, ys, st', hy, e, h'⟩ := pickH (ds := oBase ++ (List.replicate 2 es).flatten) (by simp [oBase]) (by simp [oBase]; omega) h st T
  refine ⟨y, ys, st', e, h', ?_⟩
  rcases List.mem_append.mp hy with q | q
  · exact h1 y q
  · obtain ⟨l, hl, q⟩ := List.mem_flatten.mp q
    rw [(List.mem_replicate.mp hl).2] at q
    exact h2 y q
end P64
end
section
set_option maxRecDepth 100000
set_option maxHeartbeats 8000000
set_option autoImplicit false
set_option linter.all false
namespace P64
open PySem L2 DL
theorem cutL_mem {xs : List D} {lo hi : Option Int} : ∀ y ∈ cutL xs lo hi, y ∈ xs := by
  intro y hy
  unfold cutL at hy
  exact List.mem_of_mem_drop (List.mem_of_mem_take hy)
theorem wts_drop : ∀ (xs : List D) (n : Nat), wts (xs.drop n) ≤ wts xs
  | [], n => by simp [wts]
  | x :: xs, 0 => by simp
  | x :: xs, n + 1 => by have := wts_drop xs n; simp [wts]; omega
theorem wts_take : ∀ (xs : List D) (n : Nat), wts (xs.take n) ≤ wts xs
  | [], n => by simp [wts]
  | x :: xs, 0 => by simp [wts]
  | x :: xs, n + 1 => by have := wts_take xs n; simp [wts]; omega
theorem cutL_wts (xs : List D) (lo hi : Option Int) : wts (cutL xs lo hi) ≤ wts xs := by
  unfold cutL
  exact Nat.le_trans (wts_take _ _) (wts_drop _ _)
theorem wts_rev : ∀ xs : List D, wts xs.reverse = wts xs
  | [] => rfl
  | x :: xs => by rw [List.reverse_cons, wts_app, wts_rev xs]; simp [wts]; omega
structure Gs (m w k : Nat) (ds : List D) : Prop where
  t : ∀ d ∈ ds, dt m d
  w : wts ds ≤ w
  k : ∀ d ∈ ds, dp d ≤ k
theorem Gs.tup {m w k : Nat} {ds : List D} (h : Gs m w k ds) : Gd m w (k + 1) (.tup ds) := ⟨dts_iff.mpr h.t, h.w, by simp only [dp]; exact Nat.succ_le_succ (dps_le h.k)⟩
theorem Gs.lst {m w k : Nat} {ds : List D} (h : Gs m w k ds) : Gd m w (k + 1) (.lst ds) := ⟨dts_iff.mpr h.t, h.w, by simp only [dp]; exact Nat.succ_le_succ (dps_le h.k)⟩
theorem Gd.tups {m w k : Nat} {ds : List D} (h : Gd m w (k + 1) (.tup ds)) : Gs m w k ds := ⟨dts_iff.mp h.t, h.w, fun d hd => by have := dps_mem d hd; have := h.k; simp only [dp] at this; omega⟩
theorem Gs.app {m w w' k : Nat} {ds es : List D} (h : Gs m w k ds) (g : Gs m w' k es) : Gs m (w + w') k (ds ++ es) :=
  ⟨fun d hd => (List.mem_append.mp hd).elim (h.t d) (g.t d), by rw [wts_app]; exact Nat.add_le_add h.w g.w, fun d hd => (List.mem_append.mp hd).elim (h.k d) (g.k d)⟩
theorem Gs.cut {m w k : Nat} {ds : List D} (h : Gs m w k ds) (lo hi : Option Int) : Gs m w k (cutL ds lo hi) :=
  ⟨fun d hd => h.t d (cutL_mem d hd), Nat.le_trans (cutL_wts _ _ _) h.w, fun d hd => h.k d (cutL_mem d hd)⟩
theorem Gs.rev {m w k : Nat} {ds : List D} (h : Gs m w k ds) : Gs m w k ds.reverse :=
  ⟨fun d hd => h.t d (List.mem_reverse.mp hd), by rw [wts_rev]; exact h.w, fun d hd => h.k d (List.mem_reverse.mp hd)⟩
theorem Gs.one {m w k : Nat} {d : D} (h : Gd m w k d) : Gs m (w + 1) k [d] := ⟨by simpa using h.t, by simpa [wts] using h.w, by simpa using h.k⟩
end P64
end
section
set_option maxRecDepth 100000
set_option maxHeartbeats 8000000
set_option autoImplicit false
set_option linter.all false
namespace P64
open PySem L2 DL
theorem other_tup {ds : List D} {m w k : Nat} (hm : 1000001 ≤ m) (hw : w ≤ 40000) (g : Gs m w (k + 1) ds) {xs : List Int} (h : HO xs) (st : Int) (T : Store) :
    ∃ y ys st', F__law_other [.hd 1, .tup ds] (HS xs st T) = .ok y (HS ys st' T) ∧ HO ys ∧ Gd m (2 * w + 100) (k + 2) y := by
  have s1 : slF (.tup ds) none (some (-1)) (HS xs st T) = .ok (.tup (cutL ds none (some (-1)))) (HS xs st T) := rfl
  have s2 : slF (.tup ds) (some 1) none (HS xs st T) = .ok (.tup (cutL ds (some 1) none)) (HS xs st T) := rfl
  have s3 : slF (.tup ds) none (some 1) (HS xs st T) = .ok (.tup (cutL ds none (some 1))) (HS xs st T) := rfl
  have hl : ds.length ≤ 40000 := Nat.le_trans (wts_len ds) (Nat.le_trans g.w hw)
  have hc : (cutL ds none (some 1)).length ≤ 40000 := Nat.le_trans (wts_len _) (Nat.le_trans (g.cut none (some 1)).w hw)
  have big : ∀ n : Nat, n ≤ 100000 → n ≤ sizeLine := fun n hn => Nat.le_trans hn (Nat.le_of_lt (Nat.lt_of_le_of_lt (by decide) line_big))
  have one : ∀ e : D, addF (.tup ds) (.tup [e]) (HS xs st T) = .ok (.tup (ds ++ [e])) (HS xs st T) := fun e => by
    simp only [addF, List.length_cons, List.length_nil]
    rw [if_pos (big _ (by omega))]
  have two : addF (.tup ds) (.tup (cutL ds none (some 1))) (HS xs st T) = .ok (.tup (ds ++ cutL ds none (some 1))) (HS xs st T) := by
    simp only [addF]
    rw [if_pos (big _ (by omega))]
  have r : revF (.tup ds) (HS xs st T) = .ok (.tup ds.reverse) (HS xs st T) := rfl
  have li : lisF [.tup ds] (HS xs st T) = .ok (.lst ds) (HS xs st T) := rfl
  obtain ⟨y, ys, st', e, h', p⟩ := other_pick (es := [.lst ds, .tup (cutL ds none (some (-1))), .tup (cutL ds (some 1) none), .tup (ds ++ cutL ds none (some 1)), .tup ds.reverse, .tup (ds ++ [.int 0]), .tup (ds ++ [.str "0"]), .tup (ds ++ [.tup [.str "a", .int 1]])])
    (P := Gd m (2 * w + 100) (k + 2)) (fun y hy => (base_ok hm y hy).mono (Nat.le_refl _) (by omega) (by omega)) (by
      intro y hy
      have a0 : Gd m 50 (k + 1) (.int 0) := ⟨Nat.zero_le _, by decide, Nat.zero_le _⟩
      have a1 : Gd m 50 (k + 1) (.str "0") := ⟨asc_lit (by decide +kernel), by decide +kernel, by simp [dp]⟩
      have a2 : Gd m 60 (k + 1) (.tup [.str "a", .int 1]) := ⟨⟨asc_lit (by decide +kernel), Nat.le_trans (by decide) hm, trivial⟩, by decide +kernel, by simp [dp, dps]⟩
      simp only [List.mem_cons, List.not_mem_nil, or_false] at hy
      rcases hy with rfl | rfl | rfl | rfl | rfl | rfl | rfl | rfl
      · exact g.lst.mono (Nat.le_refl _) (by omega) (Nat.le_refl _)
      · exact (g.cut _ _).tup.mono (Nat.le_refl _) (by omega) (Nat.le_refl _)
      · exact (g.cut _ _).tup.mono (Nat.le_refl _) (by omega) (Nat.le_refl _)
      · exact (g.app (g.cut _ _)).tup.mono (Nat.le_refl _) (by omega) (Nat.le_refl _)
      · exact g.rev.tup.mono (Nat.le_refl _) (by omega) (Nat.le_refl _)
      · exact (g.app (Gs.one a0)).tup.mono (Nat.le_refl _) (by omega) (Nat.le_refl _)
      · exact (g.app (Gs.one a1)).tup.mono (Nat.le_refl _) (by omega) (Nat.le_refl _)
      · exact (g.app (Gs.one a2)).tup.mono (Nat.le_refl _) (by omega) (Nat.le_refl _)) (by simp) h st T
  refine ⟨y, ys, st', ?_, h', p⟩
  have ad : ∀ bs es : List D, bs.length ≤ 11 → es.length ≤ 20 → addF (.lst bs) (.lst es) (HS xs st T) = .ok (.lst (bs ++ es)) (HS xs st T) := fun bs es q1 q2 => by
    simp only [addF, lsF]
    rw [if_pos (big _ (by omega))]
  have ml : ∀ es : List D, es.length = 8 → mulF (.lst es) (.int 2) (HS xs st T) = .ok (.lst (List.replicate 2 es).flatten) (HS xs st T) := fun es q => by
    simp only [mulF, lsF]
    rw [if_pos ⟨by decide, by decide, big _ (by rw [q]; decide)⟩]
    rfl
  have mm := ml [.lst ds, .tup (cutL ds none (some (-1))), .tup (cutL ds (some 1) none), .tup (ds ++ cutL ds none (some 1)), .tup ds.reverse, .tup (ds ++ [.int 0]), .tup (ds ++ [.str "0"]), .tup (ds ++ [.tup [.str "a", .int 1]])] rfl
  have aa := ad oBase (List.replicate 2 [.lst ds, .tup (cutL ds none (some (-1))), .tup (cutL ds (some 1) none), .tup (ds ++ cutL ds none (some 1)), .tup ds.reverse, .tup (ds ++ [.int 0]), .tup (ds ++ [.str "0"]), .tup (ds ++ [.tup [.str "a", .int 1]])]).flatten (by decide) (by simp)
  have ty : isiF "tuple" (.tup ds) (HS xs st T) = .ok (.bl true) (HS xs st T) := rfl
  unfold F__law_other
  generalize (List.replicate 2 [D.lst ds, .tup (cutL ds none (some (-1))), .tup (cutL ds (some 1) none), .tup (ds ++ cutL ds none (some 1)), .tup ds.reverse, .tup (ds ++ [.int 0]), .tup (ds ++ [.str "0"]), .tup (ds ++ [.tup [.str "a", .int 1]])]).flatten = E at *
  simp only [oBase, List.cons_append, List.nil_append] at aa e
  simp [fnF0, fnF, sNil, sSeq, sEx, sRet, sRetN, sBrk, sCnt, sIf, sAsg, sPar, sFor, sSub, setF, eV, eC, DL.e1, DL.e2, eL, aN, aC, eCall, eTup, eLst, eNew, eM, eAnd, eOr, eNot, eIf, eCh, asB, bAnd, bOr, bNot, bY, gN, gsN, gsC, gT, iL, iT, iS, iR1, iZp, iEn, sdF, oN, oS, eSl, R.bind, ty, li, s1, s2, s3, r, one, two, mm, aa, e, negF]
end P64
end
section
set_option maxRecDepth 100000
set_option maxHeartbeats 8000000
set_option autoImplicit false
set_option linter.all false
namespace P64
open PySem L2 DL
theorem big_n {n : Nat} (hn : n ≤ 100000) : n ≤ sizeLine := Nat.le_trans hn (Nat.le_of_lt (Nat.lt_of_le_of_lt (by decide) line_big))
theorem ad_lst (bs es : List D) (q1 : bs.length ≤ 11) (q2 : es.length ≤ 20) (S : Store) : addF (.lst bs) (.lst es) S = .ok (.lst (bs ++ es)) S := by
  simp only [addF, lsF]
  rw [if_pos (big_n (by omega))]
theorem ml_lst (es : List D) (q : es.length ≤ 10) (S : Store) : mulF (.lst es) (.int 2) S = .ok (.lst (List.replicate 2 es).flatten) S := by
  simp only [mulF, lsF]
  rw [if_pos ⟨by decide, by decide, big_n (by show es.length * 2 ≤ _; omega)⟩]
  rfl
/-- a text's others, by what it gives -/
theorem other_txt {d y1 y2 y3 : D} {P : D → Prop} (hb : ∀ y ∈ oBase, P y) {xs : List Int} (h : HO xs) (st : Int) (T : Store)
    (t1 : isiF "tuple" d (HS xs st T) = .ok (.bl false) (HS xs st T)) (t2 : isiF "int" d (HS xs st T) = .ok (.bl false) (HS xs st T)) (t3 : isiF "str" d (HS xs st T) = .ok (.bl true) (HS xs st T)) (tg : tagF (HS xs st T) d = some "str")
    (q1 : addF d (.str "x") (HS xs st T) = .ok y1 (HS xs st T)) (q2 : slF d none (some (-1)) (HS xs st T) = .ok y2 (HS xs st T)) (q3 : upperF d [] (HS xs st T) = .ok y3 (HS xs st T))
    (g : ∀ y ∈ [y1, y2, y3, .str "0", .str "abcdefg", .str "abcdef", .str "rise", .str "come", .str "hold", .str "leave"], P y) :
    ∃ y ys st', F__law_other [.hd 1, d] (HS xs st T) = .ok y (HS ys st' T) ∧ HO ys ∧ P y := by
  obtain ⟨y, ys, st', e, h', p⟩ := other_pick (P := P) hb g (by simp) h st T
  refine ⟨y, ys, st', ?_, h', p⟩
  have n1 : negF (.int 1) (HS xs st T) = .ok (.int (-1)) (HS xs st T) := rfl
  have mm := ml_lst [y1, y2, y3, .str "0", .str "abcdefg", .str "abcdef", .str "rise", .str "come", .str "hold", .str "leave"] (by simp) (HS xs st T)
  have aa := ad_lst oBase (List.replicate 2 [y1, y2, y3, .str "0", .str "abcdefg", .str "abcdef", .str "rise", .str "come", .str "hold", .str "leave"]).flatten (by decide) (by simp) (HS xs st T)
  unfold F__law_other
  generalize (List.replicate 2 [y1, y2, y3, D.str "0", .str "abcdefg", .str "abcdef", .str "rise", .str "come", .str "hold", .str "leave"]).flatten = E at *
  simp only [oBase, List.cons_append, List.nil_append] at aa e
  generalize HS xs st T = S at *
  simp [fnF0, fnF, sNil, sSeq, sEx, sRet, sRetN, sBrk, sCnt, sIf, sAsg, sPar, sFor, sSub, setF, eV, eC, DL.e1, DL.e2, eL, aN, aC, eCall, eTup, eLst, eNew, eM, eAnd, eOr, eNot, eIf, eCh, asB, bAnd, bOr, bNot, bY, gN, gsN, gsC, gT, iL, iT, iS, iR1, iZp, iEn, sdF, oN, oS, eSl, R.bind, t1, t2, t3, tg, q1, q2, q3, n1, mm, aa, e]
theorem other_str {z : Str} {m w k : Nat} (hm : 1000001 ≤ m) (hw : w ≤ 40000) (g : Gd m w k (.str z)) {xs : List Int} (h : HO xs) (st : Int) (T : Store) :
    ∃ y ys st', F__law_other [.hd 1, .str z] (HS xs st T) = .ok y (HS ys st' T) ∧ HO ys ∧ Gd m (2 * w + 100) (k + 2) y := by
  have zl : z.length ≤ w := g.w
  have za : asc z := g.t
  refine other_txt (y1 := .str (z ++ "x")) (y2 := .str (cutS z none (some (-1)))) (y3 := .str (Txt.upper z)) (fun y hy => (base_ok hm y hy).mono (Nat.le_refl _) (by omega) (by omega)) h st T rfl rfl rfl rfl ?_ ?_ ?_ ?_
  · simp only [addF]
    rw [if_pos (big_n (by show z.length + 1 ≤ _; omega))]
  · simp only [slF]
    rw [if_pos (big_n (by omega))]
  · simp only [upperF]
    rw [if_pos (by omega)]
  · intro y hy
    simp only [List.mem_cons, List.not_mem_nil, or_false] at hy
    have lit : ∀ q : Str, q.cps.toList.all (fun c => decide (c < 128)) = true → q.length ≤ 100 → Gd m (2 * w + 100) (k + 2) (.str q) := fun q q1 q2 => ⟨asc_lit q1, by simp only [wt]; omega, Nat.zero_le _⟩
    rcases hy with rfl | rfl | rfl | rfl | rfl | rfl | rfl | rfl | rfl | rfl
    · refine ⟨asc_app za (asc_lit (by decide +kernel)), ?_, Nat.zero_le _⟩
      have : (z ++ ("x" : Str)).length = z.length + 1 := by rw [TL.len_tl, TL.tl_append, List.length_append, ← TL.len_tl]; rfl
      simp only [wt]; omega
    · refine ⟨asc_cut za _ _, ?_, Nat.zero_le _⟩
      have := cutS_length z none (some (-1))
      simp only [wt]; omega
    · refine ⟨asc_upper za, ?_, Nat.zero_le _⟩
      have := len_upper za
      simp only [wt]; omega
    all_goals exact lit _ (by decide +kernel) (by decide +kernel)
end P64
end
section
set_option maxRecDepth 100000
set_option maxHeartbeats 8000000
set_option autoImplicit false
set_option linter.all false
namespace P64
open PySem L2 DL
/-- the signs of an int's text -/
def intL : Int → List Nat
  | .ofNat n => TL.numL n
  | .negSucc n => 45 :: TL.numL (n + 1)
theorem tl_int (i : Int) : (Str.ofString (toString i)).cps.toList = intL i := by
  cases i with
  | ofNat n => exact TL.tl_num n
  | negSucc n =>
    have e := TL.tl_num (n + 1)
    unfold TL.tl at e
    rw [PyProof.Rows.signs_ofString] at e ⊢
    show (("-" ++ Nat.repr (n + 1)).toList).map Char.toNat = _
    rw [String.toList_append, List.map_append]
    have e' : (Nat.repr (n + 1)).toList.map Char.toNat = TL.numL (n + 1) := e
    rw [e']
    rfl
theorem asc_num (n : Nat) : ∀ c ∈ TL.numL n, c < 128 := fun c hc => by have := TL.numL_digits n c hc; omega
theorem asc_int (i : Int) : asc (Str.ofString (toString i)) := by
  intro c hc
  rw [tl_int] at hc
  cases i with
  | ofNat n => exact asc_num n c hc
  | negSucc n =>
    rcases List.mem_cons.mp hc with rfl | hc
    · decide
    · exact asc_num _ c hc
theorem len_int {i : Int} (h : i.natAbs < 10 ^ 12) : (Str.ofString (toString i)).length ≤ 13 := PyData.shown_int_le h
/-- an int's or a truth value's others -/
theorem other_num {d y1 y2 y3 y4 y5 : D} {m w k : Nat} (hm : 1000001 ≤ m) {xs : List Int} (h : HO xs) (st : Int) (T : Store)
    (t1 : isiF "tuple" d (HS xs st T) = .ok (.bl false) (HS xs st T)) (t2 : isiF "int" d (HS xs st T) = .ok (.bl true) (HS xs st T))
    (q1 : addF d (.int 1) (HS xs st T) = .ok y1 (HS xs st T)) (q2 : subF d (.int 1) (HS xs st T) = .ok y2 (HS xs st T)) (q3 : subF (.int 0) d (HS xs st T) = .ok y3 (HS xs st T))
    (q4 : strF [d] (HS xs st T) = .ok y4 (HS xs st T)) (q5 : eqF false d (.int 1) (HS xs st T) = .ok y5 (HS xs st T)) (g : ∀ y ∈ [y1, y2, y3, y4, y5], Gd (m + 1) (2 * w + 100) (k + 2) y) :
    ∃ y ys st', F__law_other [.hd 1, d] (HS xs st T) = .ok y (HS ys st' T) ∧ HO ys ∧ Gd (m + 1) (2 * w + 100) (k + 2) y := by
  have it : ∀ i : Int, i.natAbs ≤ 1000001 → Gd (m + 1) (2 * w + 100) (k + 2) (.int i) := fun i hi => ⟨by show i.natAbs ≤ m + 1; omega, by simp only [wt]; omega, Nat.zero_le _⟩
  obtain ⟨y, ys, st', e, h', p⟩ := other_pick (es := [y1, y2, y3, y4, y5, .int 30, .int 40, .int 1001, .int (-1001), .int 1000001])
    (P := Gd (m + 1) (2 * w + 100) (k + 2)) (fun y hy => (base_ok hm y hy).mono (Nat.le_succ _) (by omega) (by omega)) (by
      intro y hy
      rw [show [y1, y2, y3, y4, y5, D.int 30, .int 40, .int 1001, .int (-1001), .int 1000001] = [y1, y2, y3, y4, y5] ++ [.int 30, .int 40, .int 1001, .int (-1001), .int 1000001] from rfl] at hy
      rcases List.mem_append.mp hy with hy | hy
      · exact g y hy
      · simp only [List.mem_cons, List.not_mem_nil, or_false] at hy
        rcases hy with rfl | rfl | rfl | rfl | rfl <;> exact it _ (by decide)) (by simp) h st T
  refine ⟨y, ys, st', ?_, h', p⟩
  have r1 : subF (.int 0) (.int 1001) (HS xs st T) = .ok (.int (-1001)) (HS xs st T) := rfl
  have r2 : powF (.int 10) (.int 6) (HS xs st T) = .ok (.int 1000000) (HS xs st T) := by simp [powF, pow6n]
  have r3 : addF (.int 1000000) (.int 1) (HS xs st T) = .ok (.int 1000001) (HS xs st T) := rfl
  have mm := ml_lst [y1, y2, y3, y4, y5, .int 30, .int 40, .int 1001, .int (-1001), .int 1000001] (by simp) (HS xs st T)
  have aa := ad_lst oBase (List.replicate 2 [y1, y2, y3, y4, y5, .int 30, .int 40, .int 1001, .int (-1001), .int 1000001]).flatten (by decide) (by simp) (HS xs st T)
  unfold F__law_other
  generalize (List.replicate 2 [y1, y2, y3, y4, y5, D.int 30, .int 40, .int 1001, .int (-1001), .int 1000001]).flatten = E at *
  simp only [oBase, List.cons_append, List.nil_append] at aa e
  simp [fnF0, fnF, sNil, sSeq, sEx, sRet, sRetN, sBrk, sCnt, sIf, sAsg, sPar, sFor, sSub, setF, eV, eC, DL.e1, DL.e2, eL, aN, aC, eCall, eTup, eLst, eNew, eM, eAnd, eOr, eNot, eIf, eCh, asB, bAnd, bOr, bNot, bY, gN, gsN, gsC, gT, iL, iT, iS, iR1, iZp, iEn, sdF, oN, oS, eSl, R.bind, t1, t2, q1, q2, q3, q4, q5, r1, r2, r3, mm, aa, e, negF]
/-- the others of anything else -/
theorem other_base {d : D} {m w k : Nat} (hm : 1000001 ≤ m) {xs : List Int} (h : HO xs) (st : Int) (T : Store)
    (t1 : isiF "tuple" d (HS xs st T) = .ok (.bl false) (HS xs st T)) (t2 : isiF "int" d (HS xs st T) = .ok (.bl false) (HS xs st T)) (t3 : isiF "str" d (HS xs st T) = .ok (.bl false) (HS xs st T)) :
    ∃ y ys st', F__law_other [.hd 1, d] (HS xs st T) = .ok y (HS ys st' T) ∧ HO ys ∧ Gd (m + 1) (2 * w + 100) (k + 2) y := by
  obtain ⟨y, ys, st', hy, e, h'⟩ := pickH (ds := oBase) (by simp [oBase]) (by simp [oBase]) h st T
  refine ⟨y, ys, st', ?_, h', (base_ok hm y hy).mono (Nat.le_succ _) (by omega) (by omega)⟩
  simp only [oBase] at e
  unfold F__law_other
  simp [fnF0, fnF, sNil, sSeq, sEx, sRet, sRetN, sBrk, sCnt, sIf, sAsg, sPar, sFor, sSub, setF, eV, eC, DL.e1, DL.e2, eL, aN, aC, eCall, eTup, eLst, eNew, eM, eAnd, eOr, eNot, eIf, eCh, asB, bAnd, bOr, bNot, bY, gN, gsN, gsC, gT, iL, iT, iS, iR1, iZp, iEn, sdF, oN, oS, eSl, R.bind, t1, t2, t3, e]
theorem other_all {d : D} {m w k : Nat} (hm : 1000001 ≤ m) (hm2 : m ≤ 10 ^ 9) (hw : w ≤ 40000) (g : Gd m w k d) {xs : List Int} (h : HO xs) (st : Int) (T : Store) :
    ∃ y ys st', F__law_other [.hd 1, d] (HS xs st T) = .ok y (HS ys st' T) ∧ HO ys ∧ Gd (m + 1) (2 * w + 100) (k + 2) y := by
  cases d with
  | rol _ => exact (g.t).elim
  | hd _ => exact (g.t).elim
  | non => exact other_base hm h st T rfl rfl rfl
  | em => exact other_base hm h st T rfl rfl rfl
  | lst _ => exact other_base hm h st T rfl rfl rfl
  | str z =>
    obtain ⟨y, ys, st', e, h', p⟩ := other_str hm hw g h st T
    exact ⟨y, ys, st', e, h', p.mono (Nat.le_succ _) (Nat.le_refl _) (Nat.le_refl _)⟩
  | tup ds =>
    obtain ⟨y, ys, st', e, h', p⟩ := other_tup (k := k) hm hw ((g.mono (Nat.le_refl _) (Nat.le_refl _) (show k ≤ k + 1 + 1 by omega)).tups) h st T
    exact ⟨y, ys, st', e, h', p.mono (Nat.le_succ _) (Nat.le_refl _) (Nat.le_refl _)⟩
  | bl b =>
    have it : ∀ i : Int, i.natAbs ≤ 1000001 → Gd (m + 1) (2 * w + 100) (k + 2) (.int i) := fun i hi => ⟨by show i.natAbs ≤ m + 1; omega, by simp only [wt]; omega, Nat.zero_le _⟩
    have sb : ∀ q : Str, q.cps.toList.all (fun c => decide (c < 128)) = true → q.length ≤ 100 → Gd (m + 1) (2 * w + 100) (k + 2) (.str q) := fun q q1 q2 => ⟨asc_lit q1, by simp only [wt]; omega, Nat.zero_le _⟩
    have bb : ∀ c : Bool, Gd (m + 1) (2 * w + 100) (k + 2) (.bl c) := fun c => ⟨trivial, by simp [wt], Nat.zero_le _⟩
    cases b with
    | true =>
      refine other_num (y1 := .int 2) (y2 := .int 0) (y3 := .int (-1)) (y4 := .str "True") (y5 := .bl true) hm h st T rfl rfl rfl rfl rfl rfl ?_ ?_
      · simp [eqF, toPyS, toPy, SeqAt.shaped, PyData.canLay0, PyData.depth, PyData.eqv]
      · intro y hy
        simp only [List.mem_cons, List.not_mem_nil, or_false] at hy
        rcases hy with rfl | rfl | rfl | rfl | rfl
        · exact it _ (by decide)
        · exact it _ (by decide)
        · exact it _ (by decide)
        · exact sb _ (by decide +kernel) (by decide +kernel)
        · exact bb _
    | false =>
      refine other_num (y1 := .int 1) (y2 := .int (-1)) (y3 := .int 0) (y4 := .str "False") (y5 := .bl false) hm h st T rfl rfl rfl rfl rfl rfl ?_ ?_
      · simp [eqF, toPyS, toPy, SeqAt.shaped, PyData.canLay0, PyData.depth, PyData.eqv]
      · intro y hy
        simp only [List.mem_cons, List.not_mem_nil, or_false] at hy
        rcases hy with rfl | rfl | rfl | rfl | rfl
        · exact it _ (by decide)
        · exact it _ (by decide)
        · exact it _ (by decide)
        · exact sb _ (by decide +kernel) (by decide +kernel)
        · exact bb _
  | int i =>
    have hi : i.natAbs ≤ m := g.t
    have hb : i.natAbs < 10 ^ 12 := Nat.lt_of_le_of_lt (Nat.le_trans hi hm2) (by decide)
    have it : ∀ j : Int, j.natAbs ≤ m + 1 → Gd (m + 1) (2 * w + 100) (k + 2) (.int j) := fun j hj => ⟨hj, by simp only [wt]; omega, Nat.zero_le _⟩
    refine other_num (y1 := .int (i + 1)) (y2 := .int (i - 1)) (y3 := .int (0 - i)) (y4 := .str (Str.ofString (toString i))) (y5 := .bl (i == 1)) hm h st T rfl rfl rfl rfl rfl ?_ ?_ ?_
    · have := log_small hb
      simp only [strF]
      rw [if_pos (by omega)]
    · exact eqF_int
    · intro y hy
      simp only [List.mem_cons, List.not_mem_nil, or_false] at hy
      rcases hy with rfl | rfl | rfl | rfl | rfl
      · exact it _ (by omega)
      · exact it _ (by omega)
      · exact it _ (by omega)
      · exact ⟨asc_int i, by have := len_int hb; simp only [wt]; omega, Nat.zero_le _⟩
      · exact ⟨trivial, by simp [wt], Nat.zero_le _⟩
end P64
end
section
set_option maxRecDepth 100000
set_option maxHeartbeats 8000000
set_option autoImplicit false
set_option linter.all false
namespace P64
open PySem L2 DL
/-! ### a command, spoilt -/
theorem kB_dt (k : Kd) {d : D} (h : kB k d = true) : dt 1000000 d := by
  have nm : ∀ x : Str, nmB x = true → asc x := fun x hx => by
    unfold nmB at hx
    simp only [Bool.and_eq_true, List.all_eq_true, decide_eq_true_eq] at hx
    exact fun c hc => by have := hx.2.2 c hc; omega
  have wh : ∀ (lo hi : Int) (d : D), -1000000 ≤ lo → hi ≤ 1000000 → wholeB lo hi d = true → dt 1000000 d := fun lo hi d h1 h2 h => by
    cases d with
    | int i =>
      simp only [wholeB, Bool.and_eq_true, decide_eq_true_eq] at h
      show i.natAbs ≤ 1000000
      omega
    | _ => simp [wholeB] at h
  have na : ∀ d : D, nameB d = true → dt 1000000 d := fun d h => by
    cases d with
    | str x => exact nm x h
    | _ => simp [nameB] at h
  cases k with
  | move => exact wh 0 39 d (by decide) (by decide) h
  | number => exact wh 0 29 d (by decide) (by decide) h
  | weight => exact wh (-1000) 1000 d (by decide) (by decide) h
  | value => exact wh (-1000000) 1000000 d (by decide) (by decide) h
  | name => exact na d h
  | kind =>
    cases d with
    | str w =>
      have h' : w = "rise" ∨ w = "fall" ∨ w = "now" := by simpa [kB] using h
      rcases h' with rfl | rfl | rfl <;> exact asc_lit (by decide +kernel)
    | _ => simp [kB] at h
  | point =>
    simp only [kB, Bool.or_eq_true] at h
    rcases h with h | h
    · exact na d h
    · cases d with
      | str w =>
        have h' : w = "0" := by simpa using h
        rw [h']
        exact asc_lit (by decide +kernel)
      | _ => simp at h
  | pairs =>
    cases d with
    | tup xs =>
      have h' := List.all_eq_true.mp h
      refine dts_iff.mpr fun y hy => ?_
      have := h' y hy
      match y, this with
      | .tup [a, b], this =>
        simp only [pairB, Bool.and_eq_true] at this
        exact ⟨na a this.1, wh _ _ b (Int.le_refl _) (Int.le_refl _) this.2, trivial⟩
    | _ => simp [kB, pairsB] at h
theorem allK_dt : ∀ {ks : List Kd} {ps : List D}, allK ks ps = true → dts 1000000 ps
  | [], [], _ => trivial
  | k :: ks, p :: ps, h => by
    have h' : kB k p = true ∧ allK ks ps = true := by simpa [allK] using h
    exact ⟨kB_dt k h'.1, allK_dt h'.2⟩
  | [], _ :: _, h => by cases h
  | _ :: _, [], h => by cases h
theorem word_asc {w : Str} {ks : List Kd} (h : kindsOf w = some ks) : asc w := by
  have hm := kinds_few h
  have : ∀ p ∈ tK, p.1.cps.toList.all (fun c => decide (c < 128)) = true := by decide +kernel
  exact asc_lit (this _ hm)
theorem cmd_dt {d : D} (h : cmdB d = true) : dt 1000000 d := by
  unfold cmdB at h
  split at h
  · split at h
    · rename_i w ps ks hk
      exact ⟨word_asc hk, allK_dt h⟩
    · cases h
  · cases h
theorem Cmd.gd {d : D} (h : Cmd d) : Gd 1000001 2000 3 d := ⟨dt_mono (by decide) (cmd_dt h.c), h.w, h.z⟩
theorem Gd.mem {m w k : Nat} {ds : List D} (h : Gd m w k (.tup ds)) {d : D} (hd : d ∈ ds) : Gd m w k d := by
  refine ⟨dts_iff.mp h.t d hd, ?_, ?_⟩
  · have := wts_mem d hd; have := h.w; simp only [wt] at this; omega
  · have := dps_mem d hd; have := h.k; simp only [dp] at this; omega
theorem Gd.lenT {m w k : Nat} {ds : List D} (h : Gd m w k (.tup ds)) : ds.length ≤ w := by
  have := wts_len ds; have := h.w; simp only [wt] at this; omega
/-- one step of the path into a command -/
def PthE (m w k : Nat) (e : D) : Prop := ∃ (ds : List D) (i : Nat), e = .tup [.tup ds, .int (i : Int)] ∧ i < ds.length ∧ Gd m w k (.tup ds)
structure Pth (m w k n : Nat) (path : List D) : Prop where
  l : path.length ≤ n
  e : ∀ e ∈ path, PthE m w k e
abbrev spoil_c : BF := bAnd (asB (DL.e1 (isiF "tuple") (eV 3))) (bAnd (asB (DL.e2 gtF (eL lenF (aC (eV 3) aN)) (eC (.int 0)))) (bOr (asB (DL.e2 (eqF false) (eV 4) (eC (.int 0)))) (asB (DL.e2 gtF (eCall F__law_draw 2 (aC (eV 0) (aC (eC (.int 4)) aN))) (eC (.int 0))))))
abbrev spoil_b : SF := sSeq (sAsg (eCall F__law_draw 2 (aC (eV 0) (aC (eL lenF (aC (eV 3) aN)) aN))) (gN 5))
 (sSeq (sEx (eM "list" appendF (eV 2) (aC (eTup (aC (eV 3) (aC (eV 5) aN))) aN)))
 (sAsg (DL.e2 ixF (eV 3) (eV 5)) (gN 3)))
theorem spoil_cond {s : D} (hs : ∀ n, s ≠ .hd n) (hr : ∀ n, s ≠ .rol n) {xs : List Int} (h : HO xs) (st : Int) (T : Store) (W P : Option D) (t : Int) (z5 z6 : Option D) :
    ∃ b ys st', spoil_c [some (.hd 1), W, P, some s, some (.int t), z5, z6] (HS xs st T) = .ok b (HS ys st' T) ∧ HO ys ∧ (b = true → ∃ d ds, s = .tup (d :: ds)) := by
  cases s with
  | hd n => exact absurd rfl (hs n)
  | rol n => exact absurd rfl (hr n)
  | tup ds =>
    cases ds with
    | nil => exact ⟨false, xs, st, by simp [spoil_c, fnF0, fnF, sNil, sSeq, sEx, sRet, sRetN, sBrk, sCnt, sIf, sAsg, sPar, sFor, sSub, setF, eV, eC, DL.e1, DL.e2, eL, aN, aC, eCall, eTup, eLst, eNew, eM, eAnd, eOr, eNot, eIf, eCh, asB, bAnd, bOr, bNot, bY, gN, gsN, gsC, gT, iL, iT, iS, iR1, iZp, iEn, sdF, oN, oS, eSl, R.bind, isiF, tagF, isiB, lenF, seqF, cmF], h, fun e => by cases e⟩
    | cons d ds =>
      by_cases ht : t = 0
      · exact ⟨true, xs, st, by simp [spoil_c, fnF0, fnF, sNil, sSeq, sEx, sRet, sRetN, sBrk, sCnt, sIf, sAsg, sPar, sFor, sSub, setF, eV, eC, DL.e1, DL.e2, eL, aN, aC, eCall, eTup, eLst, eNew, eM, eAnd, eOr, eNot, eIf, eCh, asB, bAnd, bOr, bNot, bY, gN, gsN, gsC, gT, iL, iT, iS, iR1, iZp, iEn, sdF, oN, oS, eSl, R.bind, isiF, tagF, isiB, lenF, seqF, cmF, eqF_int, ht], h, fun _ => ⟨d, ds, rfl⟩⟩
      · obtain ⟨k, ys, st', e, _, _, h'⟩ := drawH (m := 4) (by decide) (by decide) h st T
        refine ⟨decide (0 < k), ys, st', ?_, h', fun _ => ⟨d, ds, rfl⟩⟩
        have hp : (0 : Int) < (ds.length : Int) + 1 := by omega
        simp [spoil_c, fnF0, fnF, sNil, sSeq, sEx, sRet, sRetN, sBrk, sCnt, sIf, sAsg, sPar, sFor, sSub, setF, eV, eC, DL.e1, DL.e2, eL, aN, aC, eCall, eTup, eLst, eNew, eM, eAnd, eOr, eNot, eIf, eCh, asB, bAnd, bOr, bNot, bY, gN, gsN, gsC, gT, iL, iT, iS, iR1, iZp, iEn, sdF, oN, oS, eSl, R.bind, isiF, tagF, isiB, lenF, seqF, cmF, eqF_int, ht, e, hp]
  | _ => exact ⟨false, xs, st, by simp [spoil_c, fnF0, fnF, sNil, sSeq, sEx, sRet, sRetN, sBrk, sCnt, sIf, sAsg, sPar, sFor, sSub, setF, eV, eC, DL.e1, DL.e2, eL, aN, aC, eCall, eTup, eLst, eNew, eM, eAnd, eOr, eNot, eIf, eCh, asB, bAnd, bOr, bNot, bY, gN, gsN, gsC, gT, iL, iT, iS, iR1, iZp, iEn, sdF, oN, oS, eSl, R.bind, isiF, tagF, isiB], h, fun e => by cases e⟩
theorem spoil_body {m w k n : Nat} (hw : w ≤ 100000) {d : D} {ds : List D} (g : Gd m w k (.tup (d :: ds))) {path : List D} (hn : n ≤ 100) (hp : Pth m w k n path) {xs : List Int} (h : HO xs) (st : Int) (W : Option D) (t z5 z6 : Option D) :
    ∃ s' path' z5' ys st', spoil_b [some (.hd 1), W, some (.hd 2), some (.tup (d :: ds)), t, z5, z6] (HS xs st [.lst path]) = .ok (.nx, [some (.hd 1), W, some (.hd 2), some s', t, z5', z6]) (HS ys st' [.lst path']) ∧ HO ys ∧ Gd m w k s' ∧ Pth m w k (n + 1) path' := by
  have hl : ds.length + 1 ≤ 100000 := by have := g.lenT; simp at this; omega
  obtain ⟨j, ys, st', e, j0, j1, h'⟩ := drawH (m := (ds.length : Int) + 1) (by omega) (by omega) h st [.lst path]
  obtain ⟨i, rfl⟩ := Int.eq_ofNat_of_zero_le j0
  have hi : i < (d :: ds).length := by simp; omega
  refine ⟨(d :: ds)[i], path ++ [.tup [.tup (d :: ds), .int (i : Int)]], some (.int (i : Int)), ys, st', ?_, h', g.mem (List.getElem_mem hi), ⟨by have := hp.l; simp; omega, fun e he => ?_⟩⟩
  · have a1 : appendF (.hd 2) [.tup [.tup (d :: ds), .int (i : Int)]] (HS ys st' [.lst path]) = .ok .non (HS ys st' [.lst (path ++ [.tup [.tup (d :: ds), .int (i : Int)]])]) := by
      have : path.length < sizeLine := Nat.lt_of_le_of_lt (Nat.le_trans hp.l (Nat.le_trans hn (by decide))) line_big
      simp [appendF, this]
    have a2 : ∀ S, ixF (.tup (d :: ds)) (.int (i : Int)) S = .ok (d :: ds)[i] S := fun S => by
      simp only [ixF, seqF, Option.bind, atI_nat]
      rw [List.getElem?_eq_getElem hi]
    have a3 : ∀ S, lenF [.tup (d :: ds)] S = .ok (.int ((ds.length : Int) + 1)) S := fun S => by simp [lenF, seqF]
    simp only [spoil_b, fnF0, fnF, sNil, sSeq, sEx, sRet, sRetN, sBrk, sCnt, sIf, sAsg, sPar, sFor, sSub, setF, eV, eC, DL.e1, DL.e2, eL, aN, aC, eCall, eTup, eLst, eNew, eM, eAnd, eOr, eNot, eIf, eCh, asB, bAnd, bOr, bNot, bY, gN, gsN, gsC, gT, iL, iT, iS, iR1, iZp, iEn, sdF, oN, oS, eSl, R.bind, List.getElem?_cons_succ, List.getElem?_cons_zero, a3, List.length_cons, List.length_nil, e, if_true, List.set, reduceIte, Nat.reduceAdd, a1, a2, show tagF (HS ys st' [.lst path]) (.hd 2) = some "list" from rfl, show (2 ≤ 1000) = True from by decide]
  · rcases List.mem_append.mp he with he | he
    · exact hp.e e he
    · rw [List.mem_singleton] at he
      exact ⟨d :: ds, i, he, hi, g⟩
theorem dt_nh {m : Nat} {s : D} (h : dt m s) : (∀ n, s ≠ .hd n) ∧ ∀ n, s ≠ .rol n := by
  cases s <;> first | exact h.elim | exact ⟨fun _ e => (nomatch e), fun _ e => (nomatch e)⟩
theorem spoil_step {m w k n : Nat} (hw : w ≤ 100000) {s : D} (g : Gd m w k s) {path : List D} (hn : n ≤ 100) (hp : Pth m w k n path) {xs : List Int} (h : HO xs) (st : Int) (W : Option D) (t : Int) (z5 z6 : Option D) :
    ∃ s' path' z5' ys st', B__law_spoilt_0 [some (.hd 1), W, some (.hd 2), some s, some (.int t), z5, z6] (HS xs st [.lst path]) = .ok (.nx, [some (.hd 1), W, some (.hd 2), some s', some (.int t), z5', z6]) (HS ys st' [.lst path']) ∧ HO ys ∧ Gd m w k s' ∧ Pth m w k (n + 1) path' := by
  obtain ⟨b, ys, st', e, h', hb⟩ := spoil_cond (dt_nh g.t).1 (dt_nh g.t).2 h st [.lst path] W (some (.hd 2)) t z5 z6
  have u : B__law_spoilt_0 = sIf spoil_c spoil_b sNil := rfl
  rw [u]
  unfold sIf
  rw [e]
  simp only [R.bind]
  cases b with
  | false => exact ⟨s, path, z5, ys, st', rfl, h', g, ⟨Nat.le_succ_of_le hp.l, hp.e⟩⟩
  | true =>
    obtain ⟨d, ds, rfl⟩ := hb rfl
    obtain ⟨s', path', z5', zs, st2, e2, r⟩ := spoil_body hw g hn hp h' st' W (some (.int t)) z5 z6
    exact ⟨s', path', z5', zs, st2, by rw [if_pos rfl]; exact e2, r⟩
theorem fit_gd {m w w' k k' i : Nat} {ds : List D} {s : D} (hi : i < ds.length) (g : Gd m w k (.tup ds)) (gs : Gd m w' k' s) (hk : k ≤ k') : Gd m (w + w' + 1) (k' + 1) (.tup (ds.take i ++ [s] ++ ds.drop (i + 1))) := by
  have hm : ∀ d ∈ ds.take i ++ [s] ++ ds.drop (i + 1), d = s ∨ d ∈ ds := fun d hd => by
    rcases List.mem_append.mp hd with hd | hd
    · rcases List.mem_append.mp hd with hd | hd
      · exact .inr (List.mem_of_mem_take hd)
      · exact .inl (List.mem_singleton.mp hd)
    · exact .inr (List.mem_of_mem_drop hd)
  refine ⟨dts_iff.mpr fun d hd => ?_, ?_, ?_⟩
  · rcases hm d hd with rfl | hd
    · exact gs.t
    · exact (g.mem hd).t
  · have e1 : wts ds = wts (ds.take i) + wts (ds.drop i) := by rw [← wts_app, List.take_append_drop]
    have e2 : ds.drop i = ds[i] :: ds.drop (i + 1) := List.drop_eq_getElem_cons hi
    rw [e2] at e1
    have := g.w
    have := gs.w
    simp only [wt, wts, wts_app] at *
    omega
  · simp only [dp]
    refine Nat.succ_le_succ (dps_le fun d hd => ?_)
    rcases hm d hd with rfl | hd
    · exact gs.k
    · exact Nat.le_trans (g.mem hd).k hk
theorem fit_step {m w w' k k' : Nat} (hw : w ≤ 100000) {e s : D} (he : PthE m w k e) (gs : Gd m w' k' s) (hk : k ≤ k') (S : Store) (z0 z1 z2 z4 z5 z6 : Option D) :
    ∃ ρ1 s' z5' z6', gT (gsC (gN 6) (gsC (gN 5) gsN)) e [z0, z1, z2, some s, z4, z5, z6] = some ρ1 ∧ B__law_spoilt_1 ρ1 S = .ok (.nx, [z0, z1, z2, some s', z4, z5', z6']) S ∧ Gd m (w + w' + 1) (k' + 1) s' := by
  obtain ⟨ds, i, rfl, hi, g⟩ := he
  have hl : ds.length ≤ 100000 := Nat.le_trans g.lenT hw
  refine ⟨_, .tup (ds.take i ++ [s] ++ ds.drop (i + 1)), some (.int (i : Int)), some (.tup ds), rfl, ?_, fit_gd hi g gs hk⟩
  have s1 : slF (.tup ds) none (some (i : Int)) S = .ok (.tup (ds.take i)) S := by simp only [slF, cut_to]
  have s2 : slF (.tup ds) (some ((i : Int) + 1)) none S = .ok (.tup (ds.drop (i + 1))) S := by
    have := cut_from ds (i + 1)
    simp only [slF]
    rw [← this]
    rfl
  have a1 : addF (.tup (ds.take i)) (.tup [s]) S = .ok (.tup (ds.take i ++ [s])) S := by
    simp only [addF]
    rw [if_pos (big_n (by simp; omega))]
  have a2 : addF (.tup (ds.take i ++ [s])) (.tup (ds.drop (i + 1))) S = .ok (.tup (ds.take i ++ [s] ++ ds.drop (i + 1))) S := by
    simp only [addF]
    rw [if_pos (big_n (by simp; omega))]
  have a3 : addF (.int (i : Int)) (.int 1) S = .ok (.int ((i : Int) + 1)) S := rfl
  simp only [B__law_spoilt_1, fnF0, fnF, sNil, sSeq, sEx, sRet, sRetN, sBrk, sCnt, sIf, sAsg, sPar, sFor, sSub, setF, eV, eC, DL.e1, DL.e2, eL, aN, aC, eCall, eTup, eLst, eNew, eM, eAnd, eOr, eNot, eIf, eCh, asB, bAnd, bOr, bNot, bY, gN, gsN, gsC, gT, iL, iT, iS, iR1, iZp, iEn, sdF, oN, oS, eSl, R.bind, List.getElem?_cons_succ, List.getElem?_cons_zero, List.set, s1, s2, a1, a2, a3, List.length_cons, List.length_nil, Nat.reduceAdd, show (1 ≤ 1000) = True from by decide, if_true]
theorem fit_all {m w k : Nat} (hw : w ≤ 100000) (S : Store) (z0 z1 z2 z4 : Option D) : ∀ (es : List D) (w' k' : Nat) (s : D) (z5 z6 : Option D), (∀ e ∈ es, PthE m w k e) → Gd m w' k' s → k ≤ k' →
    ∃ s' z5' z6', forGo (gT (gsC (gN 6) (gsC (gN 5) gsN))) B__law_spoilt_1 es [z0, z1, z2, some s, z4, z5, z6] S = .ok (.nx, [z0, z1, z2, some s', z4, z5', z6']) S ∧ Gd m (w' + es.length * (w + 1)) (k' + es.length) s'
  | [], w', k', s, z5, z6, _, gs, _ => ⟨s, z5, z6, rfl, by simpa using gs⟩
  | e :: es, w', k', s, z5, z6, he, gs, hk => by
    obtain ⟨ρ1, s1, y5, y6, b1, b2, g1⟩ := fit_step hw (he e List.mem_cons_self) gs hk S z0 z1 z2 z4 z5 z6
    obtain ⟨s', x5, x6, f, g'⟩ := fit_all hw S z0 z1 z2 z4 es _ _ s1 y5 y6 (fun q hq => he q (List.mem_cons_of_mem _ hq)) g1 (by omega)
    refine ⟨s', x5, x6, ?_, g'.mono (Nat.le_refl _) ?_ (by simp; omega)⟩
    · unfold forGo
      rw [b1]
      dsimp only
      rw [b2]
      exact f
    · rw [List.length_cons, Nat.succ_mul]; omega
theorem okS_hs0 (xs : List Int) (st : Int) : List.all (HS xs st []) (okC 2) = true := okS_hs xs st
/-- a def's own things forgotten where the heap goes on -/
theorem sc_hs {F : FF} {ds : List D} {xs ys : List Int} {st st' : Int} {T : Store} {d : D} (h : F ds (HS xs st []) = .ok d (HS ys st' T)) (hd : okF d = true) : scF F ds (HS xs st []) = .ok d (HS ys st' []) := by
  unfold scF
  rw [h]
  dsimp only
  have e : (HS ys st' T).take (HS xs st []).length = HS ys st' [] := rfl
  rw [e, if_pos (show List.all (HS ys st' []) (okC (HS xs st []).length) = true from okS_hs0 ys st')]
  have f : frz (HS xs st []).length (HS ys st' T) d = some d := by
    have := okD_of 2 hd
    cases d <;> simp [frz, this] <;> simp [okF] at hd
  rw [f]
/-- a command, or what it was made to be, spoilt -/
theorem spoilt_eq {d : D} {m w k : Nat} (hm : 1000001 ≤ m) (hm2 : m < 10 ^ 9) (hw : w ≤ 40000) (g : Gd m w k d) {xs : List Int} (h : HO xs) (st : Int) :
    ∃ y ys st', F__law_spoilt [.hd 1, d] (HS xs st []) = .ok y (HS ys st' []) ∧ HO ys ∧ Gd (m + 1) (5 * w + 103) (k + 5) y := by
  obtain ⟨s1, p1, a1, x1, t1, e1, h1, g1, q1⟩ := spoil_step (n := 0) (by omega) g (by decide) (⟨Nat.le_refl _, fun _ he => by cases he⟩ : Pth m w k 0 []) h st (some d) 0 none none
  obtain ⟨s2, p2, a2, x2, t2, e2, h2, g2, q2⟩ := spoil_step (n := 1) (by omega) g1 (by decide) q1 h1 t1 (some d) 1 a1 none
  obtain ⟨s3, p3, a3, x3, t3, e3, h3, g3, q3⟩ := spoil_step (n := 2) (by omega) g2 (by decide) q2 h2 t2 (some d) 2 a2 none
  obtain ⟨y, x4, t4, e4, h4, g4⟩ := other_all hm (by omega) hw g3 h3 t3 [.lst p3]
  obtain ⟨s', y5, y6, e5, g5⟩ := fit_all (m := m + 1) (w := w) (k := k) (by omega) (HS x4 t4 [.lst p3]) (some (.hd 1)) (some d) (some (.hd 2)) (some (.int 2)) p3.reverse _ _ y a3 none
    (fun e he => by
      obtain ⟨ds, i, r1, r2, r3⟩ := q3.e e (List.mem_reverse.mp he)
      exact ⟨ds, i, r1, r2, r3.mono (Nat.le_succ _) (Nat.le_refl _) (Nat.le_refl _)⟩) g4 (by omega)
  have hl := q3.l
  refine ⟨s', x4, t4, ?_, h4, g5.mono (Nat.le_refl _) ?_ ?_⟩
  · refine sc_hs (T := [.lst p3]) ?_ (dt_ok (show m + 1 < 10 ^ 12 by omega) g5.t)
    have f : forGo (gN 4) B__law_spoilt_0 [.int 0, .int 1, .int 2] [some (.hd 1), some d, some (.hd 2), some d, none, none, none] (HS xs st [.lst []]) = .ok (.nx, [some (.hd 1), some d, some (.hd 2), some s3, some (.int 2), a3, none]) (HS x3 t3 [.lst p3]) := by
      simp only [forGo, gN, List.set, e1, e2, e3, R.bind]
    have r : revF (.hd 2) (HS x4 t4 [.lst p3]) = .ok (.lst p3.reverse) (HS x4 t4 [.lst p3]) := rfl
    have ra : iR1 (aC (eC (.int 3)) aN) [some (.hd 1), some d, some (.hd 2), some d, none, none, none] (HS xs st [.lst []]) = .ok [.int 0, .int 1, .int 2] (HS xs st [.lst []]) := rfl
    have fo : sFor (iR1 (aC (eC (.int 3)) aN)) (gN 4) B__law_spoilt_0 [some (.hd 1), some d, some (.hd 2), some d, none, none, none] (HS xs st [.lst []]) = .ok (.nx, [some (.hd 1), some d, some (.hd 2), some s3, some (.int 2), a3, none]) (HS x3 t3 [.lst p3]) := by
      unfold sFor
      rw [ra]
      exact f
    have pr : sPar 2 3 (aC (eNew aN) (aC (eV 1) aN)) [some (.hd 1), some d, none, none, none, none, none] (HS xs st []) = .ok (.nx, [some (.hd 1), some d, some (.hd 2), some d, none, none, none]) (HS xs st [.lst []]) := rfl
    simp only [fnF0, fnF, List.map_cons, List.map_nil, List.length_cons, List.length_nil, Nat.reduceAdd, Nat.reduceSub, List.replicate, List.cons_append, List.nil_append]
    unfold sSeq
    rw [pr]
    simp only [R.bind]
    rw [fo]
    simp only [R.bind, fnF0, fnF, sNil, sSeq, sEx, sRet, sRetN, sBrk, sCnt, sIf, sAsg, sPar, sFor, sSub, setF, eV, eC, DL.e1, DL.e2, eL, aN, aC, eCall, eTup, eLst, eNew, eM, eAnd, eOr, eNot, eIf, eCh, asB, bAnd, bOr, bNot, bY, gN, gsN, gsC, gT, iL, iT, iS, iR1, iZp, iEn, sdF, oN, oS, eSl, R.bind, List.getElem?_cons_succ, List.getElem?_cons_zero, List.length_cons, List.length_nil, Nat.reduceAdd, if_true, e4, List.set, r, e5]
  · have : p3.reverse.length * (w + 1) ≤ 3 * (w + 1) := Nat.mul_le_mul_right _ (by simpa using hl)
    omega
  · simp; omega
end P64
end
section
set_option maxRecDepth 100000
set_option maxHeartbeats 8000000
set_option autoImplicit false
set_option linter.all false
namespace P64
open PySem L2 DL
/-! ### the words of a command -/
/-- a word of a line: plain signs, not too many -/
structure Wd (x : Str) : Prop where
  ne : x.cps.toList ≠ []
  ch : ∀ c ∈ x.cps.toList, 33 ≤ c ∧ c < 127
  l : x.length ≤ 13
theorem Wd.asc {x : Str} (h : Wd x) : asc x := fun c hc => by have := h.ch c hc; omega
theorem asc_ok {x : Str} (h : asc x) : PyData.strOk x = true := (ok_iff x).mpr fun c hc => Nat.lt_trans (h c hc) (by decide)
theorem Wd.ok {x : Str} (h : Wd x) : PyData.strOk x = true := asc_ok h.asc
theorem wd_lit {x : Str} (h : (x.cps.toList.all (fun c => decide (33 ≤ c) && decide (c < 127)) && !x.cps.toList.isEmpty && decide (x.length ≤ 13)) = true) : Wd x := by
  simp only [Bool.and_eq_true, List.all_eq_true, decide_eq_true_eq, Bool.not_eq_true', List.isEmpty_eq_false_iff] at h
  exact ⟨h.1.2, h.1.1, h.2⟩
def txt : D → Str
  | .int i => Str.ofString (toString i)
  | .str x => x
  | _ => ""
/-- an atom of a command -/
def At (d : D) : Prop := (∃ i : Int, d = .int i ∧ i.natAbs ≤ 1000000) ∨ ∃ x, d = .str x ∧ Wd x
theorem wd_int {i : Int} (h : i.natAbs ≤ 1000000) : Wd (Str.ofString (toString i)) := by
  have dg : ∀ n, ∀ c ∈ TL.numL n, 33 ≤ c ∧ c < 127 := fun n c hc => by have := TL.numL_digits n c hc; omega
  refine ⟨?_, fun c hc => ?_, len_int (Nat.lt_of_le_of_lt h (by decide))⟩
  · rw [tl_int]
    cases i with
    | ofNat n => exact TL.numL_ne n
    | negSucc n => exact List.cons_ne_nil _ _
  · rw [tl_int] at hc
    cases i with
    | ofNat n => exact dg n c hc
    | negSucc n =>
      rcases List.mem_cons.mp hc with rfl | hc
      · decide
      · exact dg _ c hc
theorem At.wd {d : D} (h : At d) : Wd (txt d) := by
  rcases h with ⟨i, rfl, hi⟩ | ⟨x, rfl, hx⟩
  · exact wd_int hi
  · exact hx
theorem At.str {d : D} (h : At d) (S : Store) : strF [d] S = .ok (.str (txt d)) S := by
  rcases h with ⟨i, rfl, hi⟩ | ⟨x, rfl, hx⟩
  · have := log_small (n := i.natAbs) (Nat.lt_of_le_of_lt hi (by decide))
    simp only [strF]
    rw [if_pos (by omega)]
    rfl
  · rfl
theorem At.ntup {d : D} (h : At d) (S : Store) : isiF "tuple" d S = .ok (.bl false) S := by
  rcases h with ⟨i, rfl, hi⟩ | ⟨x, rfl, hx⟩ <;> rfl
theorem name_wd {d : D} (h : nameB d = true) : ∃ x, d = .str x ∧ Wd x := by
  cases d with
  | str x =>
    refine ⟨x, rfl, ?_⟩
    have h' : nmB x = true := h
    unfold nmB at h'
    simp only [Bool.and_eq_true, List.all_eq_true, decide_eq_true_eq] at h'
    refine ⟨fun e => ?_, fun c hc => by have := h'.2.2 c hc; omega, by omega⟩
    have : x.length = 0 := by rw [TL.len_tl]; unfold TL.tl; rw [e]; rfl
    omega
  | _ => simp [nameB] at h
theorem whole_at {lo hi : Int} {d : D} (h1 : -1000000 ≤ lo) (h2 : hi ≤ 1000000) (h : wholeB lo hi d = true) : ∃ i : Int, d = .int i ∧ i.natAbs ≤ 1000000 := by
  cases d with
  | int i =>
    simp only [wholeB, Bool.and_eq_true, decide_eq_true_eq] at h
    exact ⟨i, rfl, by omega⟩
  | _ => simp [wholeB] at h
/-- what a kind that stands in the line as it is holds, and the others -/
theorem kB_at {k : Kd} {d : D} (hk : k ≠ .pairs) (h : kB k d = true) : (plainK k = true ∧ ∃ x, d = .str x ∧ Wd x) ∨ (plainK k = false ∧ ∃ i : Int, d = .int i ∧ i.natAbs ≤ 1000000) := by
  cases k with
  | move => exact .inr ⟨rfl, whole_at (by decide) (by decide) h⟩
  | number => exact .inr ⟨rfl, whole_at (by decide) (by decide) h⟩
  | weight => exact .inr ⟨rfl, whole_at (by decide) (by decide) h⟩
  | value => exact .inr ⟨rfl, whole_at (by decide) (by decide) h⟩
  | name => exact .inl ⟨rfl, name_wd h⟩
  | kind =>
    cases d with
    | str w =>
      have h' : w = "rise" ∨ w = "fall" ∨ w = "now" := by simpa [kB] using h
      refine .inl ⟨rfl, w, rfl, ?_⟩
      rcases h' with rfl | rfl | rfl <;> exact wd_lit (by decide +kernel)
    | _ => simp [kB] at h
  | point =>
    refine .inl ⟨rfl, ?_⟩
    simp only [kB, Bool.or_eq_true] at h
    rcases h with h | h
    · exact name_wd h
    · cases d with
      | str w =>
        have h' : w = "0" := by simpa using h
        exact ⟨w, rfl, h' ▸ wd_lit (by decide +kernel)⟩
      | _ => simp at h
  | pairs => exact absurd rfl hk
theorem kB_At {k : Kd} {d : D} (hk : k ≠ .pairs) (h : kB k d = true) : At d := by
  rcases kB_at hk h with ⟨_, h⟩ | ⟨_, h⟩
  · exact .inr h
  · exact .inl h
def pairW : D → List Str
  | .tup [a, b] => [txt a, txt b]
  | _ => []
def partW : D → List Str
  | .tup qs => qs.flatMap pairW
  | d => [txt d]
def wordsD : D → List Str
  | .tup ps => ps.flatMap partW
  | _ => []
theorem pair_at3 {q : D} (h : pairB q = true) : ∃ x, ∃ i : Int, q = .tup [.str x, .int i] ∧ Wd x ∧ i.natAbs ≤ 1000000 := by
  match q, h with
  | .tup [a, b], h =>
    simp only [pairB, Bool.and_eq_true] at h
    obtain ⟨x, rfl, hx⟩ := name_wd h.1
    obtain ⟨i, rfl, hi⟩ := whole_at (by decide) (by decide) h.2
    exact ⟨x, i, rfl, hx, hi⟩
theorem At.part {d : D} (h : At d) : partW d = [txt d] := by
  rcases h with ⟨i, rfl, hi⟩ | ⟨x, rfl, hx⟩ <;> rfl
theorem parts_at : ∀ {as : List D}, (∀ a ∈ as, At a) → as.flatMap partW = as.map txt
  | [], _ => rfl
  | a :: as, h => by
    rw [List.flatMap_cons, (h a List.mem_cons_self).part, parts_at fun b hb => h b (List.mem_cons_of_mem _ hb)]
    rfl
/-- how a command stands: atoms, then perhaps pairs -/
theorem allK_at : ∀ {ks : List Kd} {ps : List D}, Kd.pairs ∉ ks → allK ks ps = true → ∀ p ∈ ps, At p
  | [], [], _, _, _, hp => by cases hp
  | k :: ks, p :: ps, hn, h, q, hq => by
    have h' : kB k p = true ∧ allK ks ps = true := by simpa [allK] using h
    rcases List.mem_cons.mp hq with rfl | hq
    · exact kB_At (fun e => hn (e ▸ List.mem_cons_self)) h'.1
    · exact allK_at (fun e => hn (List.mem_cons_of_mem _ e)) h'.2 q hq
  | [], _ :: _, _, h, _, _ => by cases h
  | _ :: _, [], _, h, _, _ => by cases h
theorem word_wd {w : Str} {ks : List Kd} (h : kindsOf w = some ks) : Wd w := by
  have hm := kinds_few h
  have : ∀ p ∈ tK, (p.1.cps.toList.all (fun c => decide (33 ≤ c) && decide (c < 127)) && !p.1.cps.toList.isEmpty && decide (p.1.length ≤ 13)) = true := by decide +kernel
  exact wd_lit (this _ hm)
/-- atoms, and pairs behind them -/
structure Shp (c : D) (as : List D) (qs : List D) : Prop where
  a : ∀ a ∈ as, At a
  q : ∀ q ∈ qs, pairB q = true
  e : (c = .tup as ∧ qs = []) ∨ c = .tup (as ++ [.tup qs])
  l : as.length ≤ 6
  m : qs.length ≤ 3
theorem cmd_shape {c : D} (h : Cmd c) : ∃ w ps ks as qs, c = .tup (.str w :: ps) ∧ kindsOf w = some ks ∧ allK ks ps = true ∧ Wd w ∧ Shp c (.str w :: as) qs ∧ ((ps = as ∧ qs = [] ∧ ks.getLast? ≠ some .pairs) ∨ ∃ k p, ks = [k, .pairs] ∧ k ≠ .pairs ∧ as = [p] ∧ ps = [p, .tup qs]) := by
  obtain ⟨w, ps, rfl, hl, hq⟩ := h.ln
  have hc := h.c
  unfold cmdB at hc
  dsimp only at hc
  cases hk : kindsOf w with
  | none => rw [hk] at hc; cases hc
  | some ks =>
    rw [hk] at hc
    dsimp only at hc
    have hw := word_wd hk
    have aw : At (.str w) := .inr ⟨w, rfl, hw⟩
    by_cases hp : ks.getLast? = some .pairs
    · obtain ⟨k, rfl, hkp⟩ := pairs_last hk hp
      match ps, hc, hl, hq with
      | [p, z], hc, hl, hq =>
        have h' : kB k p = true ∧ kB .pairs z = true := by simpa [allK] using hc
        cases z with
        | tup qs =>
          refine ⟨w, _, _, [p], qs, rfl, hk, hc, hw, ⟨fun a ha => ?_, fun q hq' => List.all_eq_true.mp h'.2 q hq', .inr rfl, by simp, hq _ (by simp) qs rfl⟩, .inr ⟨k, p, rfl, hkp, rfl, rfl⟩⟩
          rcases List.mem_cons.mp ha with rfl | ha
          · exact aw
          · rw [List.mem_singleton.mp ha]
            exact kB_At hkp h'.1
        | _ => simp [kB, pairsB] at h'
      | [], hc, _, _ => simp [allK] at hc
      | [_], hc, _, _ => simp [allK] at hc
      | _ :: _ :: _ :: _, hc, _, _ => simp [allK] at hc
    · refine ⟨w, ps, ks, ps, [], rfl, hk, hc, hw, ⟨fun a ha => ?_, fun q hq => (by cases hq), .inl ⟨rfl, rfl⟩, by simp; omega, by simp⟩, .inl ⟨rfl, rfl, hp⟩⟩
      rcases List.mem_cons.mp ha with rfl | ha
      · exact aw
      · exact allK_at (no_pairs hk hp) hc a ha
theorem shp_words {c : D} {as qs : List D} (h : Shp c as qs) : wordsD c = as.map txt ++ qs.flatMap pairW := by
  rcases h.e with ⟨rfl, rfl⟩ | rfl
  · simp only [wordsD, parts_at h.a]; simp
  · simp only [wordsD, List.flatMap_append, parts_at h.a]; simp [partW]
theorem pairW_wd {qs : List D} (h : ∀ q ∈ qs, pairB q = true) : ∀ w ∈ qs.flatMap pairW, Wd w := by
  intro w hw
  obtain ⟨q, hq, hw⟩ := List.mem_flatMap.mp hw
  obtain ⟨x, i, rfl, hx, hi⟩ := pair_at3 (h q hq)
  simp only [pairW, txt, List.mem_cons, List.not_mem_nil, or_false] at hw
  rcases hw with rfl | rfl
  · exact hx
  · exact wd_int hi
theorem pairW_len : ∀ {qs : List D}, (∀ q ∈ qs, pairB q = true) → (qs.flatMap pairW).length = 2 * qs.length
  | [], _ => rfl
  | q :: qs, h => by
    obtain ⟨x, i, rfl, hx, hi⟩ := pair_at3 (h q List.mem_cons_self)
    have ih := pairW_len (qs := qs) fun z hz => h z (List.mem_cons_of_mem _ hz)
    rw [List.flatMap_cons, List.length_append, ih]
    simp [pairW]; omega
/-- some words of a line, at least one -/
structure Wds (n : Nat) (ws : List Str) : Prop where
  w : ∀ w ∈ ws, Wd w
  ne : ws ≠ []
  l : ws.length ≤ n
theorem cmd_wds {c : D} (h : Cmd c) : Wds 12 (wordsD c) := by
  obtain ⟨w, ps, ks, as, qs, rfl, hk, ha, hw, sh, _⟩ := cmd_shape h
  rw [shp_words sh]
  have l1 := sh.l
  have l2 := sh.m
  refine ⟨fun z hz => ?_, by simp, ?_⟩
  · rcases List.mem_append.mp hz with hz | hz
    · obtain ⟨a, ha, rfl⟩ := List.mem_map.mp hz
      exact (sh.a a ha).wd
    · exact pairW_wd sh.q z hz
  · rw [List.length_append, List.length_map, pairW_len sh.q]
    simp at l1 ⊢
    omega
end P64
end
section
set_option maxRecDepth 100000
set_option maxHeartbeats 8000000
set_option autoImplicit false
set_option linter.all false
namespace P64
open PySem L2 DL
/-! ### the walks over a command's parts -/
theorem forGo_nx {b : D → Rho → Option Rho} {f : SF} {d : D} {ds : List D} {ρ ρ1 ρ2 : Rho} {S S2 : Store} (h1 : b d ρ = some ρ1) (h2 : f ρ1 S = .ok (.nx, ρ2) S2) : forGo b f (d :: ds) ρ S = forGo b f ds ρ2 S2 := by
  rw [forGo, h1]
  dsimp only
  rw [h2]
  rfl
theorem at_new (S : Store) (xs : List D) : (S ++ [Cell.lst xs])[S.length]? = some (.lst xs) := by simp
theorem tag_new (S : Store) (xs : List D) : tagF (S ++ [.lst xs]) (.hd S.length) = some "list" := by
  simp [tagF]
theorem ls_new (S : Store) (xs : List D) : lsF (S ++ [.lst xs]) (.hd S.length) = some xs := by
  simp [lsF]
theorem addF_ls {S : Store} {d : D} {xs ys : List D} (h : lsF S d = some xs) (hl : xs.length + ys.length ≤ 100000) : addF d (.lst ys) S = .ok (.lst (xs ++ ys)) S := by
  have hz : xs.length + ys.length ≤ sizeLine := big_n hl
  cases d with
  | hd n =>
    show (match lsF S (.hd n), lsF S (.lst ys) with | some xs, some ys => _ | _, _ => _) = _
    rw [h]
    simp only [lsF, if_pos hz]
  | lst zs =>
    have e : zs = xs := by simpa [lsF] using h
    subst e
    simp only [addF, lsF, if_pos hz]
  | rol zs => simp [lsF] at h
  | _ => simp [lsF] at h
theorem lw_atom {S : Store} {c a : D} (h : At a) {acc : List D} (hn : acc.length ≤ 100000) (z3 z4 : Option D) :
    B__law_words_1 [some c, some (.hd S.length), some a, z3, z4] (S ++ [.lst acc]) = .ok (.nx, [some c, some (.hd S.length), some a, z3, z4]) (S ++ [.lst (acc ++ [.str (txt a)])]) := by
  have t := h.ntup (S ++ [.lst acc])
  have s := h.str (S ++ [.lst acc])
  have ap := append_eq (S := S) (acc := acc) (c := .str (txt a)) hn
  have tg := tag_new S acc
  simp only [B__law_words_1, fnF0, fnF, sNil, sSeq, sEx, sRet, sRetN, sBrk, sCnt, sIf, sAsg, sPar, sFor, sSub, setF, eV, eC, DL.e1, DL.e2, eL, aN, aC, eCall, eTup, eLst, eNew, eM, eAnd, eOr, eNot, eIf, eCh, asB, bAnd, bOr, bNot, bY, gN, gsN, gsC, gT, iL, iT, iS, iR1, iZp, iEn, sdF, oN, oS, eSl, R.bind, List.getElem?_cons_succ, List.getElem?_cons_zero, t, s, ap, tg, if_true, if_false, Bool.false_eq_true]
theorem lw_atoms {S : Store} {c : D} : ∀ (as rest : List D) (acc : List D) (z2 z3 z4 : Option D), (∀ a ∈ as, At a) → acc.length + as.length ≤ 1000 →
    ∃ z2', forGo (gN 2) B__law_words_1 (as ++ rest) [some c, some (.hd S.length), z2, z3, z4] (S ++ [.lst acc]) = forGo (gN 2) B__law_words_1 rest [some c, some (.hd S.length), z2', z3, z4] (S ++ [.lst (acc ++ as.map fun a => .str (txt a))])
  | [], rest, acc, z2, z3, z4, _, _ => ⟨z2, by simp⟩
  | a :: as, rest, acc, z2, z3, z4, h, hn => by
    obtain ⟨z2', e⟩ := lw_atoms (S := S) (c := c) as rest (acc ++ [.str (txt a)]) (some a) z3 z4 (fun b hb => h b (List.mem_cons_of_mem _ hb)) (by simp at hn ⊢; omega)
    refine ⟨z2', ?_⟩
    have s := lw_atom (S := S) (c := c) (h a List.mem_cons_self) (acc := acc) (by simp at hn; omega) z3 z4
    rw [List.cons_append, forGo_nx (ρ1 := [some c, some (.hd S.length), some a, z3, z4]) rfl s, e]
    simp
theorem lw_pairs {S : Store} (c p : Option D) : ∀ (qs : List D) (V : D) (acc : List D) (z3 z4 : Option D), lsF S V = some acc → acc.length + 2 * qs.length ≤ 1000 → (∀ q ∈ qs, pairB q = true) →
    ∃ V' z3' z4', forGo (gT (gsC (gN 3) (gsC (gN 4) gsN))) B__law_words_0 qs [c, some V, p, z3, z4] S = .ok (.nx, [c, some V', p, z3', z4']) S ∧ lsF S V' = some (acc ++ (qs.flatMap pairW).map .str) ∧ (V' = V ∨ ∃ ds, V' = .lst ds)
  | [], V, acc, z3, z4, h, _, _ => ⟨V, z3, z4, rfl, by simpa using h, .inl rfl⟩
  | q :: qs, V, acc, z3, z4, h, hn, hq => by
    obtain ⟨x, i, rfl, hx, hi⟩ := pair_at3 (hq q List.mem_cons_self)
    have s : strF [.int i] S = .ok (.str (txt (.int i))) S := At.str (.inl ⟨i, rfl, hi⟩) S
    have ad := addF_ls (ys := [.str x, .str (txt (.int i))]) h (by simp at hn ⊢; omega)
    obtain ⟨V', y3, y4, e, l, v⟩ := lw_pairs c p qs (.lst (acc ++ [.str x, .str (txt (.int i))])) (acc ++ [.str x, .str (txt (.int i))]) (some (.str x)) (some (.int i)) (by simp [lsF]) (by simp at hn ⊢; omega) (fun z hz => hq z (List.mem_cons_of_mem _ hz))
    refine ⟨V', y3, y4, ?_, ?_, ?_⟩
    · rw [forGo_nx (ρ1 := [c, some V, p, some (.str x), some (.int i)]) (ρ2 := [c, some (.lst (acc ++ [.str x, .str (txt (.int i))])), p, some (.str x), some (.int i)]) (S2 := S) rfl (by
        simp only [B__law_words_0, fnF0, fnF, sNil, sSeq, sEx, sRet, sRetN, sBrk, sCnt, sIf, sAsg, sPar, sFor, sSub, setF, eV, eC, DL.e1, DL.e2, eL, aN, aC, eCall, eTup, eLst, eNew, eM, eAnd, eOr, eNot, eIf, eCh, asB, bAnd, bOr, bNot, bY, gN, gsN, gsC, gT, iL, iT, iS, iR1, iZp, iEn, sdF, oN, oS, eSl, R.bind, List.getElem?_cons_succ, List.getElem?_cons_zero, s, ad, List.length_cons, List.length_nil, Nat.reduceAdd, show (2 ≤ 1000) = True from by decide, if_true, List.set])]
      exact e
    · rw [l, List.flatMap_cons]
      simp [pairW, txt]
    · rcases v with rfl | v
      · exact .inr ⟨_, rfl⟩
      · exact .inr v
theorem law_words_eq {c : D} (h : Cmd c) {S : Store} (hS : okS S) : F__law_words [c] S = .ok (.lst ((wordsD c).map .str)) S := by
  obtain ⟨w, ps, ks, as, qs, rfl, hk, ha, hw, sh, _⟩ := cmd_shape h
  have wo := (cmd_wds h)
  rw [shp_words sh] at wo ⊢
  generalize (.str w :: as : List D) = bs at sh wo ⊢
  have l1 := sh.l
  have l2 := sh.m
  have okw : okFs (((bs.map txt) ++ qs.flatMap pairW).map .str) = true := okFs_of fun d hd => by
    obtain ⟨z, hz, rfl⟩ := List.mem_map.mp hd
    exact (wo.w z hz).ok
  have head : ∀ c : D, fnF0 5 (sSeq (sAsg (eNew aN) (gN 1)) (sSeq (sFor (iT (eV 0)) (gN 2) B__law_words_1) (sRet (eV 1)))) [c] S = match (sSeq (sFor (iT (eV 0)) (gN 2) B__law_words_1) (sRet (eV 1))) [some c, some (.hd S.length), none, none, none] (S ++ [.lst []]) with
      | .ok (.nx, _) S' => .ok .non S'
      | .ok (.rt d, _) S' => .ok d S'
      | _ => .no := fun c => by
    simp only [fnF0, fnF, List.map_cons, List.map_nil, List.length_cons, List.length_nil, Nat.reduceAdd, Nat.reduceSub, List.replicate, List.cons_append, List.nil_append]
    have : sSeq (sAsg (eNew aN) (gN 1)) (sSeq (sFor (iT (eV 0)) (gN 2) B__law_words_1) (sRet (eV 1))) [some c, none, none, none, none] S = (sSeq (sFor (iT (eV 0)) (gN 2) B__law_words_1) (sRet (eV 1))) [some c, some (.hd S.length), none, none, none] (S ++ [.lst []]) := rfl
    rw [this]
    generalize (sSeq (sFor (iT (eV 0)) (gN 2) B__law_words_1) (sRet (eV 1))) [some c, some (.hd S.length), none, none, none] (S ++ [.lst []]) = r
    match r with
    | .no => rfl
    | .ex _ _ => rfl
    | .ok (.nx, _) _ => rfl
    | .ok (.rt _, _) _ => rfl
    | .ok (.bk, _) _ => rfl
    | .ok (.ct, _) _ => rfl
  rcases sh.e with ⟨e, rfl⟩ | e
  · rw [e]
    obtain ⟨z2, e2⟩ := lw_atoms (S := S) (c := .tup bs) bs [] [] none none none sh.a (by simp; omega)
    rw [List.append_nil] at e2
    refine sc_lst (T := []) ?_ hS okw
    rw [head]
    have : (sSeq (sFor (iT (eV 0)) (gN 2) B__law_words_1) (sRet (eV 1))) [some (.tup bs), some (.hd S.length), none, none, none] (S ++ [.lst []]) = .ok (.rt (.hd S.length), [some (.tup bs), some (.hd S.length), z2, none, none]) (S ++ [.lst (((bs.map txt) ++ ([] : List D).flatMap pairW).map .str)]) := by
      simp only [fnF0, fnF, sNil, sSeq, sEx, sRet, sRetN, sBrk, sCnt, sIf, sAsg, sPar, sFor, sSub, setF, eV, eC, DL.e1, DL.e2, eL, aN, aC, eCall, eTup, eLst, eNew, eM, eAnd, eOr, eNot, eIf, eCh, asB, bAnd, bOr, bNot, bY, gN, gsN, gsC, gT, iL, iT, iS, iR1, iZp, iEn, sdF, oN, oS, eSl, R.bind, List.getElem?_cons_zero]
      rw [e2]
      simp [forGo]
    rw [this]
  · rw [e]
    obtain ⟨z2, e2⟩ := lw_atoms (S := S) (c := .tup (bs ++ [.tup qs])) bs [.tup qs] [] none none none sh.a (by simp; omega)
    rw [List.nil_append] at e2
    obtain ⟨V', z3, z4, e3, l3, v3⟩ := lw_pairs (S := S ++ [.lst (bs.map fun a => .str (txt a))]) (some (.tup (bs ++ [.tup qs]))) (some (.tup qs)) qs (.hd S.length) (bs.map fun a => .str (txt a)) none none (ls_new S _) (by simp; omega) sh.q
    have b : B__law_words_1 [some (.tup (bs ++ [.tup qs])), some (.hd S.length), some (.tup qs), none, none] (S ++ [.lst (bs.map fun a => .str (txt a))]) = .ok (.nx, [some (.tup (bs ++ [.tup qs])), some V', some (.tup qs), z3, z4]) (S ++ [.lst (bs.map fun a => .str (txt a))]) := by
      have t : isiF "tuple" (.tup qs) (S ++ [.lst (bs.map fun a => .str (txt a))]) = .ok (.bl true) (S ++ [.lst (bs.map fun a => .str (txt a))]) := rfl
      simp only [B__law_words_1, sIf, asB, DL.e1, eV, R.bind, List.getElem?_cons_succ, List.getElem?_cons_zero, t, if_true, sFor, iT]
      exact e3
    have all : (sSeq (sFor (iT (eV 0)) (gN 2) B__law_words_1) (sRet (eV 1))) [some (.tup (bs ++ [.tup qs])), some (.hd S.length), none, none, none] (S ++ [.lst []]) = .ok (.rt V', [some (.tup (bs ++ [.tup qs])), some V', some (.tup qs), z3, z4]) (S ++ [.lst (bs.map fun a => .str (txt a))]) := by
      simp only [fnF0, fnF, sNil, sSeq, sEx, sRet, sRetN, sBrk, sCnt, sIf, sAsg, sPar, sFor, sSub, setF, eV, eC, DL.e1, DL.e2, eL, aN, aC, eCall, eTup, eLst, eNew, eM, eAnd, eOr, eNot, eIf, eCh, asB, bAnd, bOr, bNot, bY, gN, gsN, gsC, gT, iL, iT, iS, iR1, iZp, iEn, sdF, oN, oS, eSl, R.bind, List.getElem?_cons_zero]
      rw [e2]
      simp only [forGo, gN, List.set, b, R.bind, List.getElem?_cons_succ, List.getElem?_cons_zero]
    have fin : ((bs.map fun a => D.str (txt a)) ++ (qs.flatMap pairW).map .str) = ((bs.map txt) ++ qs.flatMap pairW).map .str := by simp
    rcases v3 with rfl | ⟨ds, rfl⟩
    · refine sc_lst (T := []) ?_ hS okw
      rw [head, all]
      rw [ls_new] at l3
      have l4 : (bs.map fun a => D.str (txt a)) = ((bs.map txt) ++ qs.flatMap pairW).map .str := by
        rw [← fin]; exact Option.some.inj l3
      rw [l4]
    · have l4 : ds = ((bs.map txt) ++ qs.flatMap pairW).map .str := by
        rw [← fin]
        simpa [lsF] using l3
      refine sc_ok (T := [.lst (bs.map fun a => .str (txt a))]) ?_ hS (by simp only [okF]; exact okw)
      rw [head, all, l4]
end P64
end
section
set_option maxRecDepth 100000
set_option maxHeartbeats 8000000
set_option autoImplicit false
set_option linter.all false
namespace P64
open PySem L2 DL
/-! ### the program's lines of commands -/
def pairI : D → List D
  | .tup ds => ds
  | _ => []
theorem extend_new {S : Store} {acc ys : List D} (h : acc.length + ys.length ≤ 100000) : extendF (.hd S.length) [.lst ys] (S ++ [.lst acc]) = .ok .non (S ++ [.lst (acc ++ ys)]) := by
  have : acc.length + ys.length ≤ sizeLine := big_n h
  unfold extendF
  simp [lsF, this]
theorem lcG_in (x0 x1 x2 x4 : Option D) (S : Store) : ∀ ds : List D, lcG (bd1 (gN 3) bY (eV 3) [x0, x1, x2, none, x4]) ds S = .ok ds S
  | [] => rfl
  | d :: ds => by
    have e : bd1 (gN 3) bY (eV 3) [x0, x1, x2, none, x4] d S = .ok [d] S := rfl
    rw [lcG, e]
    simp only [R.bind]
    rw [lcG_in x0 x1 x2 x4 S ds]
    rfl
theorem lcG_out (x0 x1 x2 : Option D) (S : Store) : ∀ qs : List D, (∀ q ∈ qs, pairB q = true) → lcG (bd2 (gN 4) bY (iT (eV 4)) (gN 3) bY (eV 3) [3] [x0, x1, x2, none, none]) qs S = .ok (qs.flatMap pairI) S
  | [], _ => rfl
  | q :: qs, h => by
    obtain ⟨x, i, rfl, hx, hi⟩ := pair_at3 (h q List.mem_cons_self)
    have e : bd2 (gN 4) bY (iT (eV 4)) (gN 3) bY (eV 3) [3] [x0, x1, x2, none, none] (.tup [.str x, .int i]) S = .ok [.str x, .int i] S := lcG_in x0 x1 x2 (some (.tup [.str x, .int i])) S [.str x, .int i]
    rw [lcG, e]
    simp only [R.bind]
    rw [lcG_out x0 x1 x2 S qs fun z hz => h z (List.mem_cons_of_mem _ hz)]
    rfl
theorem sh_atom {S : Store} {c a : D} (h : At a) {acc : List D} (hn : acc.length ≤ 1000) (z3 z4 : Option D) :
    B_show_command_0 [some c, some (.hd S.length), some a, z3, z4] (S ++ [.lst acc]) = .ok (.nx, [some c, some (.hd S.length), some a, z3, z4]) (S ++ [.lst (acc ++ [a])]) := by
  have t := h.ntup (S ++ [.lst acc])
  have ap := extend_new (S := S) (acc := acc) (ys := [a]) (by simp; omega)
  have tg := tag_new S acc
  simp only [B_show_command_0, fnF0, fnF, sNil, sSeq, sEx, sRet, sRetN, sBrk, sCnt, sIf, sAsg, sPar, sFor, sSub, setF, eV, eC, DL.e1, DL.e2, eL, aN, aC, eCall, eTup, eLst, eNew, eM, eAnd, eOr, eNot, eIf, eCh, asB, bAnd, bOr, bNot, bY, gN, gsN, gsC, gT, iL, iT, iS, iR1, iZp, iEn, sdF, oN, oS, eSl, R.bind, List.getElem?_cons_succ, List.getElem?_cons_zero, t, ap, tg, if_true, if_false, Bool.false_eq_true, List.length_cons, List.length_nil, Nat.reduceAdd, show (1 ≤ 1000) = True from by decide]
theorem sh_atoms {S : Store} {c : D} : ∀ (as rest : List D) (acc : List D) (z2 z3 z4 : Option D), (∀ a ∈ as, At a) → acc.length + as.length ≤ 1000 →
    ∃ z2', forGo (gN 2) B_show_command_0 (as ++ rest) [some c, some (.hd S.length), z2, z3, z4] (S ++ [.lst acc]) = forGo (gN 2) B_show_command_0 rest [some c, some (.hd S.length), z2', z3, z4] (S ++ [.lst (acc ++ as)])
  | [], rest, acc, z2, z3, z4, _, _ => ⟨z2, by simp⟩
  | a :: as, rest, acc, z2, z3, z4, h, hn => by
    obtain ⟨z2', e⟩ := sh_atoms (S := S) (c := c) as rest (acc ++ [a]) (some a) z3 z4 (fun b hb => h b (List.mem_cons_of_mem _ hb)) (by simp at hn ⊢; omega)
    refine ⟨z2', ?_⟩
    have s := sh_atom (S := S) (c := c) (h a List.mem_cons_self) (acc := acc) (by simp at hn; omega) z3 z4
    rw [List.cons_append, forGo_nx (ρ1 := [some c, some (.hd S.length), some a, z3, z4]) rfl s, e]
    simp
theorem sh_pairs {S : Store} {c : D} {acc qs : List D} (hq : ∀ q ∈ qs, pairB q = true) (hn : acc.length ≤ 1000) (hm : qs.length ≤ 1000) (hi : (qs.flatMap pairI).length ≤ 3000) :
    B_show_command_0 [some c, some (.hd S.length), some (.tup qs), none, none] (S ++ [.lst acc]) = .ok (.nx, [some c, some (.hd S.length), some (.tup qs), none, none]) (S ++ [.lst (acc ++ qs.flatMap pairI)]) := by
  have t : isiF "tuple" (.tup qs) (S ++ [.lst acc]) = .ok (.bl true) (S ++ [.lst acc]) := rfl
  have ap := extend_new (S := S) (acc := acc) (ys := qs.flatMap pairI) (by omega)
  have tg := tag_new S acc
  have lc : eLc2 (iT (eV 2)) (gN 4) bY (iT (eV 4)) (gN 3) bY (eV 3) [4, 3] [3] [some c, some (.hd S.length), some (.tup qs), none, none] (S ++ [.lst acc]) = .ok (.lst (qs.flatMap pairI)) (S ++ [.lst acc]) := by
    have w : wipeR [some c, some (.hd S.length), some (.tup qs), none, none] [4, 3] = [some c, some (.hd S.length), some (.tup qs), none, none] := rfl
    unfold eLc2
    simp only [iT, eV, R.bind, List.getElem?_cons_succ, List.getElem?_cons_zero, w]
    have o := lcG_out (some c) (some (.hd S.length)) (some (.tup qs)) (S ++ [.lst acc]) qs hq
    rw [o]
    dsimp only
    rw [if_pos (by omega)]
  have v1 : eV 1 [some c, some (.hd S.length), some (.tup qs), none, none] (S ++ [.lst acc]) = .ok (.hd S.length) (S ++ [.lst acc]) := rfl
  have v2 : eV 2 [some c, some (.hd S.length), some (.tup qs), none, none] (S ++ [.lst acc]) = .ok (.tup qs) (S ++ [.lst acc]) := rfl
  simp only [B_show_command_0, eM, sEx, aC, aN, eIf, asB, DL.e1, R.bind, v1, v2, t, tg, if_true, lc, ap]
theorem lcHs_txt (x0 x1 x2 x4 : Option D) (S : Store) : ∀ ds : List D, (∀ d ∈ ds, At d) → lcHs (gN 3) E_show_command_1 [x0, x1, x2, none, x4] S ds = some (ds.map fun d => .str (txt d))
  | [], _ => rfl
  | d :: ds, h => by
    have s := (h d List.mem_cons_self).str S
    have e : E_show_command_1 [x0, x1, x2, some d, x4] S = .ok (.str (txt d)) S := by
      simp only [E_show_command_1, fnF0, fnF, sNil, sSeq, sEx, sRet, sRetN, sBrk, sCnt, sIf, sAsg, sPar, sFor, sSub, setF, eV, eC, DL.e1, DL.e2, eL, aN, aC, eCall, eTup, eLst, eNew, eM, eAnd, eOr, eNot, eIf, eCh, asB, bAnd, bOr, bNot, bY, gN, gsN, gsC, gT, iL, iT, iS, iR1, iZp, iEn, sdF, oN, oS, eSl, R.bind, List.getElem?_cons_succ, List.getElem?_cons_zero, s]
    rw [lcHs]
    simp only [gN, List.set, e, if_true]
    rw [lcHs_txt x0 x1 x2 x4 S ds fun z hz => h z (List.mem_cons_of_mem _ hz)]
    rfl
theorem sum_le {α : Type} (f : α → Nat) (n : Nat) : ∀ (l : List α), (∀ a ∈ l, f a ≤ n) → (l.map f).sum ≤ n * l.length
  | [], _ => by simp
  | a :: l, h => by
    have h1 := h a List.mem_cons_self
    have h2 := sum_le f n l fun b hb => h b (List.mem_cons_of_mem _ hb)
    simp only [List.map_cons, List.sum_cons, List.length_cons, Nat.mul_succ]
    omega
theorem joinF_eq {y : Str} {ws : List Str} (h : (ws.map (·.length)).sum + ws.length * y.length ≤ 16777216) (S : Store) : joinF (.str y) [.lst (ws.map .str)] S = .ok (.str (Txt.join y ws)) S := by
  simp only [joinF, seqF, Option.bind, strsD_map]
  rw [if_pos h]
theorem joinL_len (y : List Nat) : ∀ ps : List (List Nat), (TL.joinL y ps).length ≤ (ps.map fun p => p.length + y.length).sum
  | [] => by simp [TL.joinL]
  | [p] => by simp [TL.joinL]
  | p :: q :: r => by
    have := joinL_len y (q :: r)
    simp only [TL.joinL, List.length_append, List.map_cons, List.sum_cons] at this ⊢
    omega
theorem join_len (y : Str) (ws : List Str) : (Txt.join y ws).length ≤ (ws.map fun w => w.length + y.length).sum := by
  rw [TL.join_eq, TL.len_tl, TL.tl_join]
  have := joinL_len (TL.tl y) (ws.map TL.tl)
  rw [List.map_map] at this
  exact this
theorem join_ok {y : Str} (hy : PyData.strOk y = true) {ws : List Str} (h : ∀ w ∈ ws, PyData.strOk w = true) : PyData.strOk (Txt.join y ws) = true := by
  rw [TL.join_eq]; exact ok_join hy ws h
/-- a line of words -/
def lineD (ws : List Str) : Str := Txt.join (" " : Str) ws
theorem sp_ok : PyData.strOk (" " : Str) = true := by decide +kernel
theorem nl_ok : PyData.strOk ("\n" : Str) = true := by decide +kernel
theorem line_len {n : Nat} {ws : List Str} (h : Wds n ws) : (lineD ws).length ≤ 14 * n := by
  have h1 := join_len (" " : Str) ws
  have h2 := sum_le (fun w : Str => w.length + (" " : Str).length) 14 ws fun w hw => by
    have := (h.w w hw).l
    show w.length + 1 ≤ 14
    omega
  have h3 := Nat.mul_le_mul_left 14 h.l
  unfold lineD
  omega
theorem line_ok {n : Nat} {ws : List Str} (h : Wds n ws) : PyData.strOk (lineD ws) = true := join_ok sp_ok fun w hw => (h.w w hw).ok
theorem line_join {n : Nat} (hn : n ≤ 1000) {ws : List Str} (h : Wds n ws) (S : Store) : joinF (.str (" " : Str)) [.lst (ws.map .str)] S = .ok (.str (lineD ws)) S := by
  refine joinF_eq ?_ S
  have h2 := sum_le (fun w : Str => w.length) 13 ws fun w hw => (h.w w hw).l
  have h3 := h.l
  have h4 : (" " : Str).length = 1 := rfl
  have h5 := Nat.mul_le_mul_left 13 h3
  rw [h4]
  omega
theorem show_command_eq {c : D} (h : Cmd c) {S : Store} (hS : okS S) : F_show_command [c] S = .ok (.str (lineD (wordsD c))) S := by
  obtain ⟨w, ps, ks, as, qs, rfl, hk, ha, hw, sh, _⟩ := cmd_shape h
  have wo := (cmd_wds h)
  rw [shp_words sh] at wo ⊢
  generalize (.str w :: as : List D) = bs at sh wo ⊢
  have l1 := sh.l
  have l2 := sh.m
  have pI : ∀ qs : List D, (∀ q ∈ qs, pairB q = true) → (qs.flatMap pairI).map txt = qs.flatMap pairW ∧ ∀ d ∈ qs.flatMap pairI, At d := fun qs => by
    induction qs with
    | nil => intro _; exact ⟨rfl, fun d hd => by cases hd⟩
    | cons q qs ih =>
      intro hq
      obtain ⟨x, i, rfl, hx, hi⟩ := pair_at3 (hq q List.mem_cons_self)
      obtain ⟨i1, i2⟩ := ih fun z hz => hq z (List.mem_cons_of_mem _ hz)
      refine ⟨by rw [List.flatMap_cons, List.map_append, i1, List.flatMap_cons]; rfl, fun d hd => ?_⟩
      rw [List.flatMap_cons] at hd
      rcases List.mem_append.mp hd with hd | hd
      · simp only [pairI, List.mem_cons, List.not_mem_nil, or_false] at hd
        rcases hd with rfl | rfl
        · exact .inr ⟨x, rfl, hx⟩
        · exact .inl ⟨i, rfl, hi⟩
      · exact i2 d hd
  obtain ⟨p1, p2⟩ := pI qs sh.q
  have lI : (qs.flatMap pairI).length = 2 * qs.length := by
    have := congrArg List.length p1
    rw [List.length_map, pairW_len sh.q] at this
    exact this
  have items : ∀ d ∈ bs ++ qs.flatMap pairI, At d := fun d hd => by
    rcases List.mem_append.mp hd with hd | hd
    · exact sh.a d hd
    · exact p2 d hd
  have it : (bs ++ qs.flatMap pairI).map (fun d => D.str (txt d)) = ((bs.map txt) ++ qs.flatMap pairW).map .str := by
    rw [← p1, ← List.map_append, List.map_map]; rfl
  obtain ⟨z2, lp⟩ : ∃ z2, forGo (gN 2) B_show_command_0 (.str w :: ps) [some (.tup (.str w :: ps)), some (.hd S.length), none, none, none] (S ++ [.lst []]) = .ok (.nx, [some (.tup (.str w :: ps)), some (.hd S.length), z2, none, none]) (S ++ [.lst (bs ++ qs.flatMap pairI)]) := by
    rcases sh.e with ⟨e, rfl⟩ | e
    · rw [D.tup.inj e]
      obtain ⟨z2, e2⟩ := sh_atoms (S := S) (c := .tup bs) bs [] [] none none none sh.a (by simp; omega)
      rw [List.append_nil] at e2
      exact ⟨z2, by rw [e2]; simp [forGo]⟩
    · rw [D.tup.inj e]
      obtain ⟨z2, e2⟩ := sh_atoms (S := S) (c := .tup (bs ++ [.tup qs])) bs [.tup qs] [] none none none sh.a (by simp; omega)
      have s := sh_pairs (S := S) (c := .tup (bs ++ [.tup qs])) (acc := bs) sh.q (by omega) (by omega) (by omega)
      refine ⟨some (.tup qs), ?_⟩
      rw [e2, List.nil_append, forGo_nx (ρ1 := [some (.tup (bs ++ [.tup qs])), some (.hd S.length), some (.tup qs), none, none]) rfl s]
      rfl
  refine sc_ok (T := [.lst (bs ++ qs.flatMap pairI)]) ?_ hS (line_ok wo)
  have lc : eLcH (eV 1) (gN 3) E_show_command_1 [3] [some (.tup (.str w :: ps)), some (.hd S.length), z2, none, none] (S ++ [.lst (bs ++ qs.flatMap pairI)]) = .ok (.lst (((bs.map txt) ++ qs.flatMap pairW).map .str)) (S ++ [.lst (bs ++ qs.flatMap pairI)]) := by
    unfold eLcH
    simp only [eV, R.bind, List.getElem?_cons_succ, List.getElem?_cons_zero, at_new]
    have wi : wipeR [some (.tup (.str w :: ps)), some (.hd S.length), z2, none, none] [3] = [some (.tup (.str w :: ps)), some (.hd S.length), z2, none, none] := rfl
    rw [wi, lcHs_txt _ _ _ _ _ _ items]
    dsimp only
    rw [if_pos (by rw [List.length_append]; omega), it]
  have jn := line_join (by decide) wo (S ++ [.lst (bs ++ qs.flatMap pairI)])
  have hd : sAsg (eNew aN) (gN 1) [some (.tup (.str w :: ps)), none, none, none, none] S = .ok (.nx, [some (.tup (.str w :: ps)), some (.hd S.length), none, none, none]) (S ++ [.lst []]) := rfl
  have fo : sFor (iT (eV 0)) (gN 2) B_show_command_0 [some (.tup (.str w :: ps)), some (.hd S.length), none, none, none] (S ++ [.lst []]) = .ok (.nx, [some (.tup (.str w :: ps)), some (.hd S.length), z2, none, none]) (S ++ [.lst (bs ++ qs.flatMap pairI)]) := lp
  have re : sRet (eM "str" joinF (eC (.str " ")) (aC (eLcH (eV 1) (gN 3) E_show_command_1 [3]) aN)) [some (.tup (.str w :: ps)), some (.hd S.length), z2, none, none] (S ++ [.lst (bs ++ qs.flatMap pairI)]) = .ok (.rt (.str (lineD ((bs.map txt) ++ qs.flatMap pairW))), [some (.tup (.str w :: ps)), some (.hd S.length), z2, none, none]) (S ++ [.lst (bs ++ qs.flatMap pairI)]) := by
    simp only [sRet, eM, eC, aC, aN, R.bind, lc, jn, show tagF (S ++ [.lst (bs ++ qs.flatMap pairI)]) (.str " ") = some "str" from rfl, if_true]
  simp only [fnF0, fnF, List.map_cons, List.map_nil, List.length_cons, List.length_nil, Nat.reduceAdd, Nat.reduceSub, List.replicate, List.cons_append, List.nil_append]
  unfold sSeq
  rw [hd]
  simp only [R.bind]
  rw [fo]
  dsimp only
  rw [re]
theorem lines_len {cs : List D} (h : ∀ c ∈ cs, Cmd c) : ∀ l ∈ cs.map (fun c => lineD (wordsD c)), l.length ≤ 168 ∧ PyData.strOk l = true := fun l hl => by
  obtain ⟨c, hc, rfl⟩ := List.mem_map.mp hl
  exact ⟨line_len (cmd_wds (h c hc)), line_ok (cmd_wds (h c hc))⟩
/-- a text of commands -/
def textD (cs : List D) : Str := Txt.join ("\n" : Str) (cs.map fun c => lineD (wordsD c))
theorem text_join {cs : List D} (h : ∀ c ∈ cs, Cmd c) (hn : cs.length ≤ 20) (S : Store) : joinF (.str ("\n" : Str)) [.lst (cs.map fun c => .str (lineD (wordsD c)))] S = .ok (.str (textD cs)) S := by
  have e := joinF_eq (y := ("\n" : Str)) (ws := cs.map fun c => lineD (wordsD c)) (by
    have h2 := sum_le (fun w : Str => w.length) 168 (cs.map fun c => lineD (wordsD c)) fun w hw => (lines_len h w hw).1
    rw [List.length_map] at h2 ⊢
    have h4 : ("\n" : Str).length = 1 := rfl
    rw [h4]
    omega) S
  rw [List.map_map] at e
  exact e
theorem text_len {cs : List D} (h : ∀ c ∈ cs, Cmd c) (hn : cs.length ≤ 20) : (textD cs).length ≤ 3380 := by
  have h1 := join_len ("\n" : Str) (cs.map fun c => lineD (wordsD c))
  have h2 := sum_le (fun w : Str => w.length + ("\n" : Str).length) 169 (cs.map fun c => lineD (wordsD c)) fun w hw => Nat.succ_le_succ (lines_len h w hw).1
  rw [List.length_map] at h2
  unfold textD
  omega
theorem text_ok {cs : List D} (h : ∀ c ∈ cs, Cmd c) : PyData.strOk (textD cs) = true := join_ok nl_ok fun w hw => (lines_len h w hw).2
theorem show_commands_eq {cs : List D} (h : ∀ c ∈ cs, Cmd c) (hn : cs.length ≤ 20) {S : Store} (hS : okS S) : F_show_commands [.tup cs] S = .ok (.str (textD cs)) S := by
  have e := eLc_map (fa := iT (eV 0)) (b := gN 1) (fe := E_show_commands_0) (vs := [1]) (ρ := [some (.tup cs), none]) (S := S) (g := fun c => .str (lineD (wordsD c))) (ds := cs) rfl (fun c hc => ⟨_, rfl, by
    have := show_command_eq (h c hc) hS
    simp only [E_show_commands_0, eCall, aC, eV, aN, R.bind, wipeR, List.set, List.getElem?_cons_succ, List.getElem?_cons_zero, List.length_cons, List.length_nil, Nat.reduceAdd, if_true, this]⟩) (by omega)
  have jn := text_join h hn S
  simp only [F_show_commands, fnF0, fnF, List.map_cons, List.map_nil, List.length_cons, List.length_nil, Nat.reduceAdd, Nat.reduceSub, List.replicate, List.cons_append, List.nil_append, sRet, eM, eC, aC, aN, R.bind, e, jn, show tagF S (.str "\n") = some "str" from rfl, if_true]
end P64
end
section
set_option maxRecDepth 100000
set_option maxHeartbeats 8000000
set_option autoImplicit false
set_option linter.all false
namespace P64
open PySem L2 DL
/-! ### commands read back -/
theorem allD_num (n : Nat) : allD (TL.numL n) = true := List.all_eq_true.mpr fun c hc => by
  have := TL.numL_digits n c hc
  unfold dig
  simp only [Bool.and_eq_true, decide_eq_true_eq]
  omega
theorem head_num (n : Nat) : ∀ c, (TL.numL n).head? = some c → 48 ≤ c ∧ c ≤ 57 ∧ (c = 48 → n = 0) := by
  induction n using Nat.strongRecOn with
  | _ n ih =>
    intro c hc
    by_cases h : n < 10
    · rw [TL.numL_lt h] at hc
      have : c = 48 + n := by simpa using hc.symm
      omega
    · rw [TL.numL_step (by omega)] at hc
      have hne := TL.numL_ne (n / 10)
      obtain ⟨c0, t0, e0⟩ := List.exists_cons_of_ne_nil hne
      rw [e0] at hc
      have hc' : c0 = c := by simpa using hc
      have := ih (n / 10) (by omega) c (by rw [e0, hc']; rfl)
      omega
theorem bad_num {l : List Nat} {n : Nat} (h : dgs l = TL.numL n) (hn : n < 10 ^ 7) (h0 : n = 0 → l = [48]) : badN l = false := by
  have h1 : 1 ≤ (TL.numL n).length := List.length_pos_iff.mpr (TL.numL_ne n)
  have h2 : (TL.numL n).length ≤ 7 := TL.numL_len (by decide) hn
  unfold badN
  rw [h, allD_num]
  have h3 : ((TL.numL n).head? == some 48 && (decide (1 < (TL.numL n).length) || !decide (l = [48]))) = false := by
    cases hc : ((TL.numL n).head? == some 48) with
    | false => rfl
    | true =>
      have hc' : (TL.numL n).head? = some 48 := eq_of_beq hc
      have n0 := (head_num n 48 hc').2.2 rfl
      rw [h0 n0, n0]
      decide +kernel
  rw [h3]
  simp [h1, h2]
theorem numV_int {i : Int} (h : i.natAbs ≤ 1000000) : numV (intL i) = .int i := by
  cases i with
  | ofNat n =>
    have hh : (intL (.ofNat n)).head? ≠ some 45 := fun e => by have := head_num n 45 e; omega
    have hn : n ≤ 1000000 := h
    have d : dgs (intL (.ofNat n)) = TL.numL n := if_neg hh
    have b := bad_num d (show n < 10 ^ 7 by omega) (fun e => by subst e; decide +kernel)
    unfold numV
    rw [if_neg (by rw [b]; simp), if_neg hh, d, TL.numL_val]
    rfl
  | negSucc n =>
    have hn : n + 1 ≤ 1000000 := h
    have hh : (intL (.negSucc n)).head? = some 45 := rfl
    have d : dgs (intL (.negSucc n)) = TL.numL (n + 1) := if_pos hh
    have b := bad_num d (show n + 1 < 10 ^ 7 by omega) (fun e => by omega)
    unfold numV
    rw [if_neg (by rw [b]; simp), if_pos hh, d, TL.numL_val]
    rfl
theorem numD_int {i : Int} (h : i.natAbs ≤ 1000000) : numD (Str.ofString (toString i)) = .int i := by
  unfold numD
  rw [tl_int, numV_int h]
theorem pv_back {k : Kd} {p : D} (hk : k ≠ .pairs) (h : kB k p = true) : pv k (txt p) = p := by
  rcases kB_at hk h with ⟨e, x, rfl, hx⟩ | ⟨e, i, rfl, hi⟩
  · unfold pv; rw [if_pos e]; rfl
  · unfold pv; rw [if_neg (by rw [e]; simp)]; exact numD_int hi
theorem zip_back : ∀ {ks : List Kd} {ps : List D}, Kd.pairs ∉ ks → allK ks ps = true → (ks.zip (ps.map txt)).map (fun q => pv q.1 q.2) = ps
  | [], [], _, _ => rfl
  | k :: ks, p :: ps, hn, h => by
    have h' : kB k p = true ∧ allK ks ps = true := by simpa [allK] using h
    rw [List.map_cons, List.zip_cons_cons, List.map_cons, zip_back (fun e => hn (List.mem_cons_of_mem _ e)) h'.2, pv_back (fun e => hn (e ▸ List.mem_cons_self)) h'.1]
  | [], _ :: _, _, h => by cases h
  | _ :: _, [], _, h => by cases h
theorem prs_back : ∀ {qs : List D}, (∀ q ∈ qs, pairB q = true) → prs (qs.flatMap pairW) = qs
  | [], _ => rfl
  | q :: qs, h => by
    obtain ⟨x, i, rfl, hx, hi⟩ := pair_at3 (h q List.mem_cons_self)
    rw [List.flatMap_cons]
    show D.tup [.str x, numD (Str.ofString (toString i))] :: prs (qs.flatMap pairW) = _
    rw [numD_int hi, prs_back fun z hz => h z (List.mem_cons_of_mem _ hz)]
theorem told_back {c : D} (h : Cmd c) : told (wordsD c) = some c := by
  obtain ⟨w, ps, ks, as, qs, rfl, hk, ha, hw, sh, hs⟩ := cmd_shape h
  have hc := h.c
  rw [shp_words sh]
  rcases hs with ⟨rfl, rfl, hp⟩ | ⟨k, p, rfl, hkp, rfl, rfl⟩
  · show told (w :: (ps.map txt ++ [])) = _
    rw [List.append_nil]
    unfold told
    dsimp only
    rw [hk]
    dsimp only
    rw [if_neg hp, if_pos (by rw [List.length_map, allK_len ha]), zip_back (no_pairs hk hp) ha, if_pos hc]
  · have h' : kB k p = true ∧ kB .pairs (.tup qs) = true := by simpa [allK] using ha
    show told (w :: txt p :: qs.flatMap pairW) = _
    unfold told
    dsimp only
    rw [hk]
    dsimp only
    rw [if_pos (show ([k, .pairs] : List Kd).getLast? = some .pairs from rfl), pairW_len sh.q, if_neg (by omega)]
    have e : pv (([k, .pairs] : List Kd).headD .name) (txt p) = p := pv_back hkp h'.1
    rw [e, prs_back sh.q, if_pos hc]
theorem split_words {n : Nat} {ws : List Str} (h : Wds n ws) : wordsOf (lineD ws) = ws := by
  have e : Txt.split (Txt.join (" " : Str) ws) (" " : Str) = ws := TL.split_join (y := (" " : Str)) (s := 32) (S := []) (by decide +kernel) (by decide +kernel) h.ne fun p hp hm => by
    have := (h.w p hp).ch 32 hm
    omega
  unfold wordsOf lineD
  rw [e, List.filter_eq_self]
  exact fun w hw => (str_ne w).mpr (h.w w hw).ne
theorem mem_joinL {y : List Nat} {c : Nat} : ∀ ps : List (List Nat), c ∈ TL.joinL y ps → c ∈ y ∨ ∃ p ∈ ps, c ∈ p
  | [], h => by cases h
  | [p], h => .inr ⟨p, by simp, h⟩
  | p :: q :: r, h => by
    rw [TL.joinL] at h
    rcases List.mem_append.mp h with h | h
    · exact .inr ⟨p, by simp, h⟩
    · rcases List.mem_append.mp h with h | h
      · exact .inl h
      · rcases mem_joinL (q :: r) h with h | ⟨z, hz, h⟩
        · exact .inl h
        · exact .inr ⟨z, List.mem_cons_of_mem _ hz, h⟩
theorem mem_join {y : Str} {ws : List Str} {c : Nat} (h : c ∈ TL.tl (Txt.join y ws)) : c ∈ TL.tl y ∨ ∃ w ∈ ws, c ∈ TL.tl w := by
  rw [TL.join_eq, TL.tl_join] at h
  rcases mem_joinL _ h with h | ⟨p, hp, h⟩
  · exact .inl h
  · obtain ⟨w, hw, rfl⟩ := List.mem_map.mp hp
    exact .inr ⟨w, hw, h⟩
theorem line_no10 {n : Nat} {ws : List Str} (h : Wds n ws) : 10 ∉ TL.tl (lineD ws) := fun hm => by
  rcases mem_join hm with hm | ⟨w, hw, hm⟩
  · have : TL.tl (" " : Str) = [32] := by decide +kernel
    rw [this] at hm
    simp at hm
  · have := (h.w w hw).ch 10 hm
    omega
theorem split_lines {ls : List Str} (hne : ls ≠ []) (h : ∀ l ∈ ls, 10 ∉ TL.tl l) : linesOf (Txt.join ("\n" : Str) ls) = ls :=
  TL.split_join (y := ("\n" : Str)) (s := 10) (S := []) (by decide +kernel) (by decide +kernel) hne h
theorem text_lines {cs : List D} (h : ∀ c ∈ cs, Cmd c) (hne : cs ≠ []) : linesOf (textD cs) = cs.map fun c => lineD (wordsD c) :=
  split_lines (fun e => hne (List.map_eq_nil_iff.mp e)) fun l hl => by
    obtain ⟨c, hc, rfl⟩ := List.mem_map.mp hl
    exact line_no10 (cmd_wds (h c hc))
theorem text_TextOk {cs : List D} (h : ∀ c ∈ cs, Cmd c) (hne : cs ≠ []) (hn : cs.length ≤ 20) : TextOk (textD cs) := by
  refine ⟨text_ok h, Nat.le_trans (text_len h hn) (by decide), fun p hp => ?_⟩
  have e := text_lines h hne
  unfold linesOf at e
  rw [e] at hp
  exact Nat.le_trans (lines_len h p hp).1 (by decide)
theorem rd_back : ∀ (cs : List D) (i : Nat) (acc : List D), (∀ c ∈ cs, Cmd c) → rdL i acc (cs.map fun c => lineD (wordsD c)) = .inr (acc ++ cs)
  | [], i, acc, _ => by simp [rdL]
  | c :: cs, i, acc, h => by
    have hc := h c List.mem_cons_self
    have wo := cmd_wds hc
    have tb := told_back hc
    rw [List.map_cons, rdL, split_words wo]
    cases hw : wordsD c with
    | nil => exact absurd hw wo.ne
    | cons w ws =>
      rw [hw] at tb
      dsimp only
      rw [tb]
      dsimp only
      rw [rd_back cs _ _ fun z hz => h z (List.mem_cons_of_mem _ hz)]
      simp
theorem read_back (C : Addr) {cs : List D} (h : ∀ c ∈ cs, Cmd c) (hne : cs ≠ []) (hn : cs.length ≤ 20) {S : Store} (hS : okS S) : F_read_commands C [.str (textD cs)] S = .ok (.tup cs) S := by
  have e := read_commands_eq C (text_TextOk h hne hn) hS
  rw [text_lines h hne, rd_back cs 0 [] h] at e
  exact e
/-! ### what a text tells is small -/
theorem told_small {ws : List Str} (h : ∀ w ∈ ws, Gw w) {c : D} (e : told ws = some c) : wt c ≤ wsum ws ∧ dp c ≤ 3 := by
  cases ws with
  | nil => cases e
  | cons w rest =>
    unfold told at e
    dsimp only at e
    cases hk : kindsOf w with
    | none => rw [hk] at e; cases e
    | some ks =>
      rw [hk] at e
      dsimp only at e
      split at e
      · cases rest with
        | nil => cases e
        | cons r0 rs =>
          dsimp only at e
          split at e
          · cases e
          · split at e
            · cases e
              obtain ⟨p1, p2, p3⟩ := pv_ok (ks.headD .name) (h r0 (by simp))
              obtain ⟨q1, q2, q3⟩ := prs_ok rs fun z hz => h z (by simp [hz])
              constructor
              · simp [wt, wts, wsum] at q2 p2 ⊢
                omega
              · simp only [dp, dps, p3]
                omega
            · cases e
      · split at e
        · split at e
          · cases e
            obtain ⟨q1, q2, q3⟩ := zip_ok ks rest fun z hz => h z (List.mem_cons_of_mem _ hz)
            constructor
            · simp [wt, wts, wsum] at q2 ⊢
              omega
            · simp [dp, dps, q3]
          · cases e
        · cases e
theorem rd_small : ∀ (rest : List Str) (i : Nat) (acc ds : List D), (∀ l ∈ rest, LineOk l) → rdL i acc rest = .inr ds → dps acc ≤ 3 → wts ds ≤ wts acc + 32 * (rest.map fun l => l.length + 1).sum ∧ dps ds ≤ 3
  | [], i, acc, ds, _, e, hd => by cases e; exact ⟨by simp, hd⟩
  | l :: rest, i, acc, ds, hL, e, hd => by
    have hl := hL l List.mem_cons_self
    have hL2 : ∀ l ∈ rest, LineOk l := fun z hz => hL z (List.mem_cons_of_mem _ hz)
    unfold rdL at e
    cases hc : wordsOf l with
    | nil =>
      rw [hc] at e
      obtain ⟨h1, h2⟩ := rd_small rest _ _ _ hL2 e hd
      exact ⟨by simp at h1 ⊢; omega, h2⟩
    | cons w ws =>
      have gw := words_gws hl
      have sm := words_sum l
      rw [hc] at gw e sm
      cases ht : told (w :: ws) with
      | none => simp [ht] at e
      | some c =>
        simp only [ht] at e
        obtain ⟨t1, t2⟩ := told_small gw.g ht
        obtain ⟨h1, h2⟩ := rd_small rest _ _ _ hL2 e (dps_le fun d hd2 => by
          rcases List.mem_append.mp hd2 with hd2 | hd2
          · exact Nat.le_trans (dps_mem d hd2) hd
          · rw [List.mem_singleton.mp hd2]; exact t2)
        refine ⟨?_, h2⟩
        rw [wts_app] at h1
        simp [wts] at h1 ⊢
        omega
structure Rp (d : D) : Prop where
  o : okF d = true
  w : wt d ≤ 2 ^ 20
  z : dp d ≤ 64
theorem read_rp {t : Str} (h : TextOk t) : Rp (readD t) := by
  unfold readD
  cases e : rdL 0 [] (linesOf t) with
  | inl k =>
    have hk := rd_lt _ _ _ _ e
    have hn := h.n
    refine ⟨ref_ok (by omega), ?_, by simp [dp, dps]⟩
    have : ("refused" : Str).length = 7 := by decide +kernel
    simp [wt, wts, this]
  | inr ds =>
    have ok := rd_ok _ _ _ _ h.lines rfl e
    obtain ⟨h1, h2⟩ := rd_small _ _ _ _ h.lines e (by simp [dps])
    have h3 := cut_len t 10
    have h4 : ((linesOf t).map fun l => l.length + 1).sum = t.length + 1 := h3
    have h5 := h.l
    have l4 : ("told" : Str).length = 4 := by decide +kernel
    have s4 : okF (.str "told") = true := by decide +kernel
    refine ⟨?_, ?_, ?_⟩
    · simp only [okF, okFs, ok]
      simpa [okF] using s4
    · rw [h4] at h1
      simp only [wt, wts, l4] at h1 ⊢
      omega
    · simp only [dp, dps]
      omega
end P64
end
section
set_option maxRecDepth 100000
set_option maxHeartbeats 8000000
set_option autoImplicit false
set_option linter.all false
namespace P64
open PySem L2 DL
/-! ### the law's own texts -/
structure Ln (m : Nat) (x : Str) : Prop where
  ch : ∀ c ∈ TL.tl x, 32 ≤ c ∧ c < 127
  l : x.length ≤ m
theorem Ln.mono {m n : Nat} {x : Str} (h : Ln m x) (e : m ≤ n) : Ln n x := ⟨h.ch, Nat.le_trans h.l e⟩
theorem Ln.app {m n : Nat} {x y : Str} (h : Ln m x) (g : Ln n y) : Ln (m + n) (x ++ y) := by
  refine ⟨fun c hc => ?_, ?_⟩
  · rw [TL.tl_append] at hc
    exact (List.mem_append.mp hc).elim (h.ch c) (g.ch c)
  · rw [TL.len_tl, TL.tl_append, List.length_append, ← TL.len_tl, ← TL.len_tl]
    exact Nat.add_le_add h.l g.l
theorem Wd.ln {x : Str} (h : Wd x) : Ln 13 x := ⟨fun c hc => by have := h.ch c hc; omega, h.l⟩
theorem Ln.ok {m : Nat} {x : Str} (h : Ln m x) : PyData.strOk x = true := asc_ok fun c hc => by have := h.ch c hc; omega
theorem mulS {k : Int} (h0 : 0 ≤ k) (h1 : k ≤ 1000) : ∃ y, (∀ S, mulF (.str (" " : Str)) (.int k) S = .ok (.str y) S) ∧ Ln k.toNat y := by
  have hl : ∀ n : Nat, (List.replicate n ([32] : List Nat)).flatten = List.replicate n 32 := fun n => by
    induction n with
    | zero => rfl
    | succ n ih => rw [List.replicate_succ, List.flatten_cons, ih]; rfl
  refine ⟨⟨(List.replicate k.toNat ([32] : List Nat)).flatten.toArray⟩, fun S => ?_, ⟨fun c hc => ?_, ?_⟩⟩
  · simp only [mulF]
    rw [if_pos ⟨h0, by omega, big_n (by show 1 * k.toNat ≤ _; omega)⟩]
    rfl
  · have hc' : c ∈ (List.replicate k.toNat ([32] : List Nat)).flatten := by simpa [TL.tl] using hc
    rw [hl] at hc'
    have := List.eq_of_mem_replicate hc'
    omega
  · show (List.replicate k.toNat ([32] : List Nat)).flatten.toArray.size ≤ _
    rw [hl]
    simp
theorem rstrip_ln {m : Nat} {x : Str} (h : Ln m x) (y : Str) : Ln m (Txt.rstripChars x y) := by
  refine ⟨fun c hc => ?_, Nat.le_trans (PyProof.Rows.len_rstripChars x y) h.l⟩
  obtain ⟨j, _, e⟩ := PyProof.Rows.rstripChars_is_prefix x y
  rw [e] at hc
  refine h.ch c ?_
  unfold Builtin.Str.strSub TL.tl at hc
  rw [Array.toList_extract] at hc
  exact List.mem_of_mem_drop (List.mem_of_mem_take hc)
theorem sSeq_nx {f g : SF} {ρ ρ1 : Rho} {S S1 : Store} (h : f ρ S = .ok (.nx, ρ1) S1) : sSeq f g ρ S = g ρ1 S1 := by
  unfold sSeq
  rw [h]
  rfl
/-- what else lies in the store: lists of lines -/
def TS (T : Store) : Prop := ∀ c ∈ T, ∃ ls : List Str, c = .lst (ls.map .str)
theorem okDs_strs (m : Nat) (ls : List Str) : okDs m (ls.map .str) = true := by
  induction ls with
  | nil => rfl
  | cons x l ih => simp [okDs, okD, ih]
theorem okDs_ints (m : Nat) (xs : List Int) : okDs m (xs.map .int) = true := by
  induction xs with
  | nil => rfl
  | cons x l ih => simp [okDs, okD, ih]
theorem TS.ok {T : Store} (h : TS T) (xs : List Int) (st : Int) : okS (HS xs st T) := by
  unfold okS
  rw [List.all_eq_true]
  intro c hc
  rcases List.mem_cons.mp hc with rfl | hc
  · exact okDs_ints _ xs
  · rcases List.mem_cons.mp hc with rfl | hc
    · simp [okC, okDs, okD]
    · obtain ⟨ls, rfl⟩ := h c hc
      exact okDs_strs _ ls
theorem drawE {m : Int} (hm : 0 < m) (hm2 : m < 1073741824) {xs : List Int} (h : HO xs) (st : Int) (T : Store) (ρ : Rho) :
    ∃ k ys st', eCall F__law_draw 2 (aC (eV 0) (aC (eC (.int m)) aN)) (some (.hd 1) :: ρ) (HS xs st T) = .ok (.int k) (HS ys st' T) ∧ 0 ≤ k ∧ k < m ∧ HO ys := by
  obtain ⟨k, ys, st', e, a, b, c⟩ := drawH hm hm2 h st T
  refine ⟨k, ys, st', ?_, a, b, c⟩
  simp only [eCall, aC, eV, eC, aN, R.bind, List.getElem?_cons_zero, List.length_cons, List.length_nil, Nat.reduceAdd, if_true, e]
/-- draw == 0 -/
theorem drawZ {m : Int} (hm : 0 < m) (hm2 : m < 1073741824) {xs : List Int} (h : HO xs) (st : Int) (T : Store) (ρ : Rho) :
    ∃ b ys st', DL.e2 (eqF false) (eCall F__law_draw 2 (aC (eV 0) (aC (eC (.int m)) aN))) (eC (.int 0)) (some (.hd 1) :: ρ) (HS xs st T) = .ok (.bl b) (HS ys st' T) ∧ HO ys := by
  obtain ⟨k, ys, st', e, a, b, c⟩ := drawE hm hm2 h st T ρ
  refine ⟨k == 0, ys, st', ?_, c⟩
  have q := eqF_int (neg := false) (x := k) (y := 0) (S := HS ys st' T)
  simp only [DL.e2, R.bind, e, eC, q]
  rfl
theorem addF_str {x y : Str} (h : x.length + y.length ≤ 100000) (S : Store) : addF (.str x) (.str y) S = .ok (.str (x ++ y)) S := by
  simp only [addF]
  rw [if_pos (big_n h)]
theorem lt_word {m : Nat} (hm : m ≤ 10000) {l w : Str} (hl : Ln m l) (hw : Wd w) {xs : List Int} (h : HO xs) (st : Int) (T : Store) (z1 z2 z3 z4 z5 z6 : Option D) :
    ∃ l' ys st', B__law_text_0 [some (.hd 1), z1, z2, z3, z4, z5, z6, some (.str l), some (.str w)] (HS xs st T) = .ok (.nx, [some (.hd 1), z1, z2, z3, z4, z5, z6, some (.str l'), some (.str w)]) (HS ys st' T) ∧ HO ys ∧ Ln (m + 15) l' := by
  obtain ⟨b, ys, st', e, c⟩ := drawZ (m := 5) (by decide) (by decide) h st T [z1, z2, z3, z4, z5, z6, some (.str l), some (.str w)]
  obtain ⟨y, e2, hy⟩ := mulS (k := 1 + if b = true then 1 else 0) (by split <;> decide) (by split <;> decide)
  have hy2 : Ln 2 y := hy.mono (by split <;> decide)
  have hl2 := hl.l
  have hw2 := hw.l
  refine ⟨l ++ w ++ y, ys, st', ?_, c, ((hl.app hw.ln).app hy2)⟩
  have a1 := addF_str (x := l) (y := w) (by omega) (HS xs st T)
  have a2 := addF_str (x := l ++ w) (y := y) (by have := (hl.app hw.ln).l; have := hy2.l; omega) (HS ys st' T)
  have i1 : intF [.bl b] (HS ys st' T) = .ok (.int (if b = true then 1 else 0)) (HS ys st' T) := rfl
  have i2 : addF (.int 1) (.int (if b = true then 1 else 0)) (HS ys st' T) = .ok (.int (1 + if b = true then 1 else 0)) (HS ys st' T) := rfl
  have e' : DL.e2 (eqF false) (eCall F__law_draw 2 (aC (eV 0) (aC (eC (.int 5)) aN))) (eC (.int 0)) [some (.hd 1), z1, z2, z3, z4, z5, z6, some (.str l), some (.str w)] (HS xs st T) = .ok (.bl b) (HS ys st' T) := e
  have v7 : ∀ S, eV 7 [some (.hd 1), z1, z2, z3, z4, z5, z6, some (.str l), some (.str w)] S = .ok (.str l) S := fun _ => rfl
  have v8 : ∀ S, eV 8 [some (.hd 1), z1, z2, z3, z4, z5, z6, some (.str l), some (.str w)] S = .ok (.str w) S := fun _ => rfl
  generalize ht : DL.e2 (eqF false) (eCall F__law_draw 2 (aC (eV 0) (aC (eC (.int 5)) aN))) (eC (.int 0)) = t at e'
  unfold B__law_text_0
  rw [ht]
  simp only [sAsg, DL.e2, eL, aC, aN, eC, R.bind, v7, v8, a1, e', i1, i2, e2, a2]
  rfl
theorem lt_words {xs0 : List Int} (T : Store) (z1 z2 z3 z4 z5 z6 : Option D) : ∀ (ws : List Str) (m : Nat) (l : Str) (z8 : Option D) (xs : List Int) (st : Int), m + 15 * ws.length ≤ 10000 → Ln m l → (∀ w ∈ ws, Wd w) → HO xs →
    ∃ l' z8' ys st', forGo (gN 8) B__law_text_0 (ws.map .str) [some (.hd 1), z1, z2, z3, z4, z5, z6, some (.str l), z8] (HS xs st T) = .ok (.nx, [some (.hd 1), z1, z2, z3, z4, z5, z6, some (.str l'), z8']) (HS ys st' T) ∧ HO ys ∧ Ln (m + 15 * ws.length) l'
  | [], m, l, z8, xs, st, _, hl, _, h => ⟨l, z8, xs, st, rfl, h, hl⟩
  | w :: ws, m, l, z8, xs, st, hm, hl, hw, h => by
    obtain ⟨l1, y1, s1, e1, h1, g1⟩ := lt_word (by simp at hm; omega) hl (hw w List.mem_cons_self) h st T z1 z2 z3 z4 z5 z6
    obtain ⟨l2, z8', y2, s2, e2, h2, g2⟩ := lt_words (xs0 := xs0) T z1 z2 z3 z4 z5 z6 ws (m + 15) l1 (some (.str w)) y1 s1 (by simp at hm ⊢; omega) g1 (fun v hv => hw v (List.mem_cons_of_mem _ hv)) h1
    refine ⟨l2, z8', y2, s2, ?_, h2, g2.mono (by simp; omega)⟩
    rw [List.map_cons, forGo_nx (ρ1 := [some (.hd 1), z1, z2, z3, z4, z5, z6, some (.str l), some (.str w)]) rfl e1]
    exact e2
/-! spoilt words -/
abbrev odds (x : D) : List D := [.str "0", .str "-0", .str "07", .str "x", .str "-", .str "1000001", .str "12345678", .str "-5", .str "zz", .str "now", .str "rise", .str "A", .str "5x", x, .str "1000000", .str "-1000", .str "1001"]
def isWd (d : D) : Prop := ∃ x, d = .str x ∧ Wd x
theorem odds_wd {x : D} (h : isWd x) : ∀ y ∈ odds x, isWd y := by
  have lit : ∀ q : Str, (q.cps.toList.all (fun c => decide (33 ≤ c) && decide (c < 127)) && !q.cps.toList.isEmpty && decide (q.length ≤ 13)) = true → isWd (.str q) := fun q hq => ⟨q, rfl, wd_lit hq⟩
  intro y hy
  simp only [odds, List.mem_cons, List.not_mem_nil, or_false] at hy
  rcases hy with rfl | rfl | rfl | rfl | rfl | rfl | rfl | rfl | rfl | rfl | rfl | rfl | rfl | rfl | rfl | rfl | rfl
  all_goals first | exact h | exact lit _ (by decide +kernel)
abbrev tB1 : SF := sAsg (eCall F__law_draw 2 (aC (eV 0) (aC (eL lenF (aC (eV 4) aN)) aN))) (gN 5)
abbrev tB2 : SF := sAsg (eLst (aC (eC (.str "0")) (aC (eC (.str "-0")) (aC (eC (.str "07")) (aC (eC (.str "x")) (aC (eC (.str "-")) (aC (eC (.str "1000001")) (aC (eC (.str "12345678")) (aC (eC (.str "-5")) (aC (eC (.str "zz")) (aC (eC (.str "now")) (aC (eC (.str "rise")) (aC (eC (.str "A")) (aC (eC (.str "5x")) (aC (DL.e2 ixF (eV 4) (DL.e1 negF (eC (.int 1)))) (aC (eC (.str "1000000")) (aC (eC (.str "-1000")) (aC (eC (.str "1001")) aN)))))))))))))))))) (gN 6)
abbrev tB3 : SF := sAsg (DL.e2 addF (DL.e2 addF (eSl (eV 4) oN (oS (eV 5))) (eCall F__law_pick 2 (aC (eV 0) (aC (eLst (aC (eLst (aC (eCall F__law_pick 2 (aC (eV 0) (aC (eV 6) aN))) aN)) (aC (eLst aN) (aC (eLst (aC (eCall F__law_pick 2 (aC (eV 0) (aC (eV 6) aN))) (aC (DL.e2 ixF (eV 4) (eV 5)) aN))) aN)))) aN)))) (eSl (eV 4) (oS (DL.e2 addF (eV 5) (eC (.int 1)))) oN)) (gN 4)
theorem tB1_eq {ws : List Str} (hw : Wds 12 ws) {xs : List Int} (h : HO xs) (st : Int) (T : Store) (z1 z2 z3 z5 z6 z7 z8 : Option D) :
    ∃ i ys st', tB1 [some (.hd 1), z1, z2, z3, some (.lst (ws.map .str)), z5, z6, z7, z8] (HS xs st T) = .ok (.nx, [some (.hd 1), z1, z2, z3, some (.lst (ws.map .str)), some (.int ((i : Nat) : Int)), z6, z7, z8]) (HS ys st' T) ∧ HO ys ∧ i < ws.length := by
  have hl : 1 ≤ ws.length := List.length_pos_iff.mpr hw.ne
  have hl2 := hw.l
  obtain ⟨k, ys, st', e, k0, k1, h'⟩ := drawH (m := (ws.length : Int)) (by omega) (by omega) h st T
  obtain ⟨i, rfl⟩ := Int.eq_ofNat_of_zero_le k0
  refine ⟨i, ys, st', ?_, h', by omega⟩
  have a := len_ws ws (HS xs st T)
  simp only [tB1, sAsg, eCall, eL, aC, eV, aN, R.bind, List.getElem?_cons_zero, List.getElem?_cons_succ, a, List.length_cons, List.length_nil, Nat.reduceAdd, if_true, e, gN, List.set]
theorem ix_last {ws : List Str} (hne : ws ≠ []) (S : Store) : ∃ x ∈ ws, ixF (.lst (ws.map .str)) (.int (-1)) S = .ok (.str x) S := by
  refine ⟨ws.getLast hne, List.getLast_mem hne, ?_⟩
  have e : ws.map D.str = (ws.dropLast.map D.str) ++ [.str (ws.getLast hne)] := by
    conv => lhs; rw [← List.dropLast_concat_getLast hne]
    rw [List.map_append]; rfl
  rw [e]
  simp only [ixF, seqF, Option.bind, atI_last]
theorem tB2_eq {ws : List Str} (hw : Wds 12 ws) (S : Store) (z0 z1 z2 z3 z5 z6 z7 z8 : Option D) :
    ∃ od, tB2 [z0, z1, z2, z3, some (.lst (ws.map .str)), z5, z6, z7, z8] S = .ok (.nx, [z0, z1, z2, z3, some (.lst (ws.map .str)), z5, some (.lst od), z7, z8]) S ∧ od.length = 17 ∧ ∀ y ∈ od, isWd y := by
  obtain ⟨x, hx, e⟩ := ix_last hw.ne S
  refine ⟨odds (.str x), ?_, rfl, odds_wd ⟨x, rfl, hw.w x hx⟩⟩
  have n1 : negF (.int 1) S = .ok (.int (-1)) S := rfl
  simp only [tB2, sAsg, eLst, DL.e2, DL.e1, eC, aC, eV, aN, R.bind, List.getElem?_cons_zero, List.getElem?_cons_succ, n1, e, gN, List.set, List.length_cons, List.length_nil, Nat.reduceAdd, show (17 ≤ 1000) = True from by decide, if_true]
theorem isWd_list : ∀ {ds : List D}, (∀ d ∈ ds, isWd d) → ∃ ws : List Str, ds = ws.map .str ∧ ∀ w ∈ ws, Wd w
  | [], _ => ⟨[], rfl, fun w hw => by cases hw⟩
  | d :: ds, h => by
    obtain ⟨x, rfl, hx⟩ := h d List.mem_cons_self
    obtain ⟨ws, rfl, hw⟩ := isWd_list fun e he => h e (List.mem_cons_of_mem _ he)
    refine ⟨x :: ws, rfl, fun w hm => ?_⟩
    rcases List.mem_cons.mp hm with rfl | hm
    · exact hx
    · exact hw w hm
theorem pickE {ds : List D} (h1 : 1 ≤ ds.length) (h2 : ds.length ≤ 1000) {i : Nat} {ρ : Rho} (hρ : (some (.hd 1) :: ρ)[i]? = some (some (.lst ds))) {xs : List Int} (h : HO xs) (st : Int) (T : Store) :
    ∃ d ys st', d ∈ ds ∧ eCall F__law_pick 2 (aC (eV 0) (aC (eV i) aN)) (some (.hd 1) :: ρ) (HS xs st T) = .ok d (HS ys st' T) ∧ HO ys := by
  obtain ⟨d, ys, st', hd, e, h'⟩ := pickH h1 h2 h st T
  refine ⟨d, ys, st', hd, ?_, h'⟩
  simp only [eCall, aC, eV, aN, R.bind, List.getElem?_cons_zero, hρ, List.length_cons, List.length_nil, Nat.reduceAdd, if_true, e]
theorem addF_lst {as bs : List D} (h : as.length + bs.length ≤ 100000) (S : Store) : addF (.lst as) (.lst bs) S = .ok (.lst (as ++ bs)) S := addF_ls (d := .lst as) rfl h
theorem tB3_eq {ws : List Str} (hw : Wds 12 ws) {od : List D} (ho : od.length = 17) (hod : ∀ y ∈ od, isWd y) {i : Nat} (hi : i < ws.length) {xs : List Int} (h : HO xs) (st : Int) (T : Store) (z1 z2 z3 z7 z8 : Option D) :
    ∃ (ws' : List Str) (ys : List Int) (st' : Int), tB3 [some (.hd 1), z1, z2, z3, some (.lst (ws.map .str)), some (.int (i : Int)), some (.lst od), z7, z8] (HS xs st T) = .ok (.nx, [some (.hd 1), z1, z2, z3, some (.lst (ws'.map .str)), some (.int (i : Int)), some (.lst od), z7, z8]) (HS ys st' T) ∧ HO ys ∧ (∀ w ∈ ws', Wd w) ∧ ws'.length ≤ 14 := by
  have hl2 := hw.l
  generalize hr : [z1, z2, z3, some (D.lst (ws.map .str)), some (.int (i : Int)), some (.lst od), z7, z8] = ρ
  have v4 : ∀ S, eV 4 (some (.hd 1) :: ρ) S = .ok (.lst (ws.map .str)) S := fun _ => by subst hr; rfl
  have v5 : ∀ S, eV 5 (some (.hd 1) :: ρ) S = .ok (.int (i : Int)) S := fun _ => by subst hr; rfl
  have v6 : (some (D.hd 1) :: ρ)[6]? = some (some (.lst od)) := by subst hr; rfl
  obtain ⟨o1, y1, s1, m1, e1, h1⟩ := pickE (by omega) (by omega) v6 h st T
  obtain ⟨o2, y2, s2, m2, e2, h2⟩ := pickE (by omega) (by omega) v6 h1 s1 T
  obtain ⟨o3, y3, s3, m3, e3, h3⟩ := pickH (ds := [.lst [o1], .lst [], .lst [o2, .str (ws.getD i "")]]) (by simp) (by simp) h2 s2 T
  have gi : ∀ S, ixF (.lst (ws.map .str)) (.int (i : Int)) S = .ok (.str (ws.getD i "")) S := fun S => get_str hi S
  obtain ⟨ms, rfl, hms, lms⟩ : ∃ ms : List Str, o3 = .lst (ms.map .str) ∧ (∀ w ∈ ms, Wd w) ∧ ms.length ≤ 2 := by
    have key : ∀ ds : List D, ds.length ≤ 2 → (∀ d ∈ ds, isWd d) → ∃ ms : List Str, D.lst ds = .lst (ms.map .str) ∧ (∀ w ∈ ms, Wd w) ∧ ms.length ≤ 2 := fun ds h1 h2 => by
      obtain ⟨ms, rfl, hm⟩ := isWd_list h2
      exact ⟨ms, rfl, hm, by simpa using h1⟩
    simp only [List.mem_cons, List.not_mem_nil, or_false] at m3
    rcases m3 with rfl | rfl | rfl
    · exact key _ (by simp) (by simpa using hod o1 m1)
    · exact key _ (by simp) (by simp)
    · refine key _ (by simp) fun d hd => ?_
      simp only [List.mem_cons, List.not_mem_nil, or_false] at hd
      rcases hd with rfl | rfl
      · exact hod _ m2
      · exact ⟨_, rfl, hw.w _ (getD_mem hi)⟩
  refine ⟨ws.take i ++ ms ++ ws.drop (i + 1), y3, s3, ?_, h3, fun w hm => ?_, ?_⟩
  · have c1 : ∀ S, slF (.lst (ws.map .str)) none (some (i : Int)) S = .ok (.lst ((ws.take i).map .str)) S := fun S => by
      simp only [slF, rlF, lsF, cut_to, List.map_take]
    have c2 : ∀ S, slF (.lst (ws.map .str)) (some ((i : Int) + 1)) none S = .ok (.lst ((ws.drop (i + 1)).map .str)) S := fun S => by
      have := cut_from (ws.map D.str) (i + 1)
      simp only [slF, rlF, lsF, List.map_drop]
      rw [← this]
      rfl
    have p1 : ∀ S, addF (.int (i : Int)) (.int 1) S = .ok (.int ((i : Int) + 1)) S := fun _ => rfl
    have a1 : ∀ S, addF (.lst ((ws.take i).map .str)) (.lst (ms.map .str)) S = .ok (.lst ((ws.take i ++ ms).map .str)) S := fun S => by
      rw [addF_lst (by simp; omega), List.map_append]
    have a2 : ∀ S, addF (.lst ((ws.take i ++ ms).map .str)) (.lst ((ws.drop (i + 1)).map .str)) S = .ok (.lst ((ws.take i ++ ms ++ ws.drop (i + 1)).map .str)) S := fun S => by
      rw [addF_lst (by simp; omega), List.map_append (l₁ := ws.take i ++ ms)]
    have v0 : ∀ S, eV 0 (some (.hd 1) :: ρ) S = .ok (.hd 1) S := fun _ => rfl
    generalize hp : eCall F__law_pick 2 (aC (eV 0) (aC (eV 6) aN)) = pk at e1 e2
    have big : eCall F__law_pick 2 (aC (eV 0) (aC (eLst (aC (eLst (aC pk aN)) (aC (eLst aN) (aC (eLst (aC pk (aC (DL.e2 ixF (eV 4) (eV 5)) aN))) aN)))) aN)) (some (.hd 1) :: ρ) (HS xs st T) = .ok (.lst (ms.map .str)) (HS y3 s3 T) := by
      simp only [eCall, eLst, DL.e2, aC, aN, R.bind, v0, v4, v5, e1, e2, gi, List.length_cons, List.length_nil, Nat.reduceAdd, Nat.reduceLeDiff, if_true, e3]
    simp only [tB3]
    rw [hp]
    generalize eCall F__law_pick 2 (aC (eV 0) (aC (eLst (aC (eLst (aC pk aN)) (aC (eLst aN) (aC (eLst (aC pk (aC (DL.e2 ixF (eV 4) (eV 5)) aN))) aN)))) aN)) = bg at big
    simp only [sAsg, DL.e2, eSl, oN, oS, eC, R.bind, v4, v5, c1, c2, p1, big, a1, a2]
    subst hr
    rfl
  · rcases List.mem_append.mp hm with hm | hm
    · rcases List.mem_append.mp hm with hm | hm
      · exact hw.w w (List.mem_of_mem_take hm)
      · exact hms w hm
    · exact hw.w w (List.mem_of_mem_drop hm)
  · simp; omega
end P64
end
section
set_option maxRecDepth 100000
set_option maxHeartbeats 8000000
set_option autoImplicit false
set_option linter.all false
namespace P64
open PySem L2 DL
abbrev dr (m : Int) : EF := eCall F__law_draw 2 (aC (eV 0) (aC (eC (.int m)) aN))
abbrev tA : SF := sAsg (eCall F__law_words 1 (aC (eV 3) aN)) (gN 4)
abbrev tB : SF := sIf (asB (DL.e2 (eqF false) (dr 4) (eC (.int 0)))) (sSeq tB1 (sSeq tB2 tB3)) sNil
abbrev tC : SF := sAsg (DL.e2 mulF (eC (.str " ")) (dr 2)) (gN 7)
abbrev tD : SF := sFor (iL (eV 4)) (gN 8) B__law_text_0
abbrev tE : SF := sEx (eM "list" appendF (eV 2) (aC (eIf (asB (DL.e2 (eqF false) (dr 3) (eC (.int 0)))) (eV 7) (eM "str" rstripF (eV 7) (aC (eC (.str " ")) aN))) aN))
abbrev tF : SF := sAsg (DL.e2 addNF (eV 2) (DL.e2 mulF (eLst (aC (DL.e2 mulF (eC (.str " ")) (dr 3)) aN)) (eL intF (aC (DL.e2 (eqF false) (dr 5) (eC (.int 0))) aN)))) (gN 2)
theorem text_body : B__law_text_1 = sSeq tA (sSeq tB (sSeq tC (sSeq tD (sSeq tE tF)))) := rfl
theorem tB_eq {ws : List Str} (hw : Wds 12 ws) {xs : List Int} (h : HO xs) (st : Int) (T : Store) (z1 z2 z3 z5 z6 z7 z8 : Option D) :
    ∃ (ws' : List Str) (z5' z6' : Option D) (ys : List Int) (st' : Int), tB [some (.hd 1), z1, z2, z3, some (.lst (ws.map .str)), z5, z6, z7, z8] (HS xs st T) = .ok (.nx, [some (.hd 1), z1, z2, z3, some (.lst (ws'.map .str)), z5', z6', z7, z8]) (HS ys st' T) ∧ HO ys ∧ (∀ w ∈ ws', Wd w) ∧ ws'.length ≤ 14 := by
  obtain ⟨b, y1, s1, e1, h1⟩ := drawZ (m := 4) (by decide) (by decide) h st T [z1, z2, z3, some (.lst (ws.map .str)), z5, z6, z7, z8]
  have u : tB [some (.hd 1), z1, z2, z3, some (.lst (ws.map .str)), z5, z6, z7, z8] (HS xs st T) = if b = true then (sSeq tB1 (sSeq tB2 tB3)) [some (.hd 1), z1, z2, z3, some (.lst (ws.map .str)), z5, z6, z7, z8] (HS y1 s1 T) else sNil [some (.hd 1), z1, z2, z3, some (.lst (ws.map .str)), z5, z6, z7, z8] (HS y1 s1 T) := by
    unfold tB sIf asB
    rw [show DL.e2 (eqF false) (dr 4) (eC (.int 0)) [some (.hd 1), z1, z2, z3, some (.lst (ws.map .str)), z5, z6, z7, z8] (HS xs st T) = .ok (.bl b) (HS y1 s1 T) from e1]
    rfl
  rw [u]
  cases b with
  | false => exact ⟨ws, z5, z6, y1, s1, rfl, h1, hw.w, Nat.le_trans hw.l (by decide)⟩
  | true =>
    rw [if_pos rfl]
    obtain ⟨i, y2, s2, e2, h2, hi⟩ := tB1_eq hw h1 s1 T z1 z2 z3 z5 z6 z7 z8
    obtain ⟨od, e3, ho, hod⟩ := tB2_eq hw (HS y2 s2 T) (some (.hd 1)) z1 z2 z3 (some (.int (i : Int))) z6 z7 z8
    obtain ⟨ws', y4, s4, e4, h4, w4, l4⟩ := tB3_eq hw ho hod hi h2 s2 T z1 z2 z3 z7 z8
    refine ⟨ws', some (.int (i : Int)), some (.lst od), y4, s4, ?_, h4, w4, l4⟩
    rw [sSeq_nx e2, sSeq_nx e3]
    exact e4
theorem tC_eq {xs : List Int} (h : HO xs) (st : Int) (T : Store) (z1 z2 z3 z4 z5 z6 z7 z8 : Option D) :
    ∃ l ys st', tC [some (.hd 1), z1, z2, z3, z4, z5, z6, z7, z8] (HS xs st T) = .ok (.nx, [some (.hd 1), z1, z2, z3, z4, z5, z6, some (.str l), z8]) (HS ys st' T) ∧ HO ys ∧ Ln 1 l := by
  obtain ⟨k, y1, s1, e1, k0, k1, h1⟩ := drawE (m := 2) (by decide) (by decide) h st T [z1, z2, z3, z4, z5, z6, z7, z8]
  obtain ⟨y, e2, g2⟩ := mulS k0 (by omega)
  refine ⟨y, y1, s1, ?_, h1, g2.mono (by omega)⟩
  have e1' : dr 2 [some (.hd 1), z1, z2, z3, z4, z5, z6, z7, z8] (HS xs st T) = .ok (.int k) (HS y1 s1 T) := e1
  unfold tC
  generalize dr 2 = q at e1'
  simp only [sAsg, DL.e2, eC, R.bind, e1', e2]
  rfl
theorem tD_eq {ws : List Str} (hw : ∀ w ∈ ws, Wd w) (hl : ws.length ≤ 14) {l : Str} (g : Ln 1 l) {xs : List Int} (h : HO xs) (st : Int) (T : Store) (z1 z2 z3 z5 z6 z8 : Option D) :
    ∃ l' z8' ys st', tD [some (.hd 1), z1, z2, z3, some (.lst (ws.map .str)), z5, z6, some (.str l), z8] (HS xs st T) = .ok (.nx, [some (.hd 1), z1, z2, z3, some (.lst (ws.map .str)), z5, z6, some (.str l'), z8']) (HS ys st' T) ∧ HO ys ∧ Ln 300 l' := by
  obtain ⟨l', z8', ys, st', e, h', g'⟩ := lt_words (xs0 := xs) T z1 z2 z3 (some (.lst (ws.map .str))) z5 z6 ws 1 l z8 xs st (by omega) g hw h
  exact ⟨l', z8', ys, st', e, h', g'.mono (by omega)⟩
theorem tE_eq {l : Str} (g : Ln 300 l) {ls : List Str} (hn : ls.length ≤ 100) {xs : List Int} (h : HO xs) (st : Int) (T : Store) (z1 z3 z4 z5 z6 z8 : Option D) :
    ∃ l' ys st', tE [some (.hd 1), z1, some (.hd (T.length + 2)), z3, z4, z5, z6, some (.str l), z8] (HS xs st (T ++ [.lst (ls.map .str)])) = .ok (.nx, [some (.hd 1), z1, some (.hd (T.length + 2)), z3, z4, z5, z6, some (.str l), z8]) (HS ys st' (T ++ [.lst ((ls ++ [l']).map .str)])) ∧ HO ys ∧ Ln 300 l' := by
  obtain ⟨b, y1, s1, e1, h1⟩ := drawZ (m := 3) (by decide) (by decide) h st (T ++ [.lst (ls.map .str)]) [z1, some (.hd (T.length + 2)), z3, z4, z5, z6, some (.str l), z8]
  generalize hr : [z1, some (D.hd (T.length + 2)), z3, z4, z5, z6, some (D.str l), z8] = ρ at e1
  have v2 : ∀ S, eV 2 (some (.hd 1) :: ρ) S = .ok (.hd (T.length + 2)) S := fun _ => by subst hr; rfl
  have v7 : ∀ S, eV 7 (some (.hd 1) :: ρ) S = .ok (.str l) S := fun _ => by subst hr; rfl
  have e1' : DL.e2 (eqF false) (dr 3) (eC (.int 0)) (some (.hd 1) :: ρ) (HS xs st (T ++ [.lst (ls.map .str)])) = .ok (.bl b) (HS y1 s1 (T ++ [.lst (ls.map .str)])) := e1
  have ap : ∀ x : Str, appendF (.hd (T.length + 2)) [.str x] (HS y1 s1 (T ++ [.lst (ls.map .str)])) = .ok .non (HS y1 s1 (T ++ [.lst ((ls ++ [x]).map .str)])) := fun x => by
    have := append_eq (S := HS y1 s1 T) (acc := ls.map .str) (c := .str x) (by simp; omega)
    rw [List.map_append]
    exact this
  have tg : tagF (HS xs st (T ++ [.lst (ls.map .str)])) (.hd (T.length + 2)) = some "list" := tag_new (HS xs st T) _
  have ts : ∀ S, tagF S (.str l) = some "str" := fun _ => rfl
  have rs : ∀ S, rstripF (.str l) [.str (" " : Str)] S = .ok (.str (Txt.rstripChars l (" " : Str))) S := fun S => by
    simp only [rstripF]
    rw [if_pos (big_n (by have := g.l; omega))]
  refine ⟨if b = true then l else Txt.rstripChars l (" " : Str), y1, s1, ?_, h1, ?_⟩
  · unfold tE
    generalize DL.e2 (eqF false) (dr 3) (eC (.int 0)) = q at e1'
    cases b with
    | true => simp only [sEx, eM, eIf, asB, aC, aN, eC, R.bind, v2, v7, e1', tg, if_true, ap]
    | false => simp only [sEx, eM, eIf, asB, aC, aN, eC, R.bind, v2, v7, e1', tg, ts, rs, if_true, ap, if_false, Bool.false_eq_true]
  · cases b with
    | true => exact g
    | false => exact rstrip_ln g _
theorem tF_eq {ls : List Str} (hn : ls.length ≤ 100) {xs : List Int} (h : HO xs) (st : Int) (T : Store) (z1 z3 z4 z5 z6 z7 z8 : Option D) :
    ∃ (ms : List Str) (ys : List Int) (st' : Int), tF [some (.hd 1), z1, some (.hd (T.length + 2)), z3, z4, z5, z6, z7, z8] (HS xs st (T ++ [.lst (ls.map .str)])) = .ok (.nx, [some (.hd 1), z1, some (.hd ((T ++ [Cell.lst (ls.map .str)]).length + 2)), z3, z4, z5, z6, z7, z8]) (HS ys st' ((T ++ [.lst (ls.map .str)]) ++ [.lst ((ls ++ ms).map .str)])) ∧ HO ys ∧ (∀ l ∈ ms, Ln 300 l) ∧ ms.length ≤ 1 := by
  obtain ⟨k, y1, s1, e1, k0, k1, h1⟩ := drawE (m := 3) (by decide) (by decide) h st (T ++ [.lst (ls.map .str)]) [z1, some (.hd (T.length + 2)), z3, z4, z5, z6, z7, z8]
  obtain ⟨y, ey, gy⟩ := mulS k0 (by omega)
  obtain ⟨b, y2, s2, e2, h2⟩ := drawZ (m := 5) (by decide) (by decide) h1 s1 (T ++ [.lst (ls.map .str)]) [z1, some (.hd (T.length + 2)), z3, z4, z5, z6, z7, z8]
  generalize hr : [z1, some (D.hd (T.length + 2)), z3, z4, z5, z6, z7, z8] = ρ at e1 e2
  have v2 : ∀ S, eV 2 (some (.hd 1) :: ρ) S = .ok (.hd (T.length + 2)) S := fun _ => by subst hr; rfl
  have e1' : dr 3 (some (.hd 1) :: ρ) (HS xs st (T ++ [.lst (ls.map .str)])) = .ok (.int k) (HS y1 s1 (T ++ [.lst (ls.map .str)])) := e1
  have e2' : DL.e2 (eqF false) (dr 5) (eC (.int 0)) (some (.hd 1) :: ρ) (HS y1 s1 (T ++ [.lst (ls.map .str)])) = .ok (.bl b) (HS y2 s2 (T ++ [.lst (ls.map .str)])) := e2
  have i1 : ∀ S, intF [.bl b] S = .ok (.int (if b = true then 1 else 0)) S := fun _ => rfl
  have ml : ∀ S, mulF (.lst [.str y]) (.int (if b = true then 1 else 0)) S = .ok (.lst ((if b = true then [y] else []).map .str)) S := fun S => by
    cases b with
    | true =>
      simp only [mulF, lsF, if_true]
      rw [if_pos ⟨by decide, by decide, big_n (by simp)⟩]
      rfl
    | false =>
      simp only [mulF, lsF, if_false, Bool.false_eq_true]
      rw [if_pos ⟨by decide, by decide, big_n (by simp)⟩]
      rfl
  have an : addNF (.hd (T.length + 2)) (.lst ((if b = true then [y] else []).map .str)) (HS y2 s2 (T ++ [.lst (ls.map .str)])) = .ok (.hd ((T ++ [Cell.lst (ls.map .str)]).length + 2)) (HS y2 s2 ((T ++ [.lst (ls.map .str)]) ++ [.lst ((ls ++ if b = true then [y] else []).map .str)])) := by
    have l1 : lsF (HS y2 s2 (T ++ [.lst (ls.map .str)])) (.hd (T.length + 2)) = some (ls.map .str) := ls_new (HS y2 s2 T) _
    have l2 : lsF (HS y2 s2 (T ++ [.lst (ls.map .str)])) (.lst ((if b = true then [y] else []).map .str)) = some ((if b = true then [y] else []).map .str) := rfl
    unfold addNF
    rw [l1, l2]
    dsimp only
    rw [if_pos (big_n (by
      have : (if b = true then [y] else []).length ≤ 1 := by split <;> simp
      simp only [List.length_map]; omega)), List.map_append]
    rfl
  refine ⟨if b = true then [y] else [], y2, s2, ?_, h2, fun l hl => ?_, by split <;> simp⟩
  · unfold tF
    generalize DL.e2 (eqF false) (dr 5) (eC (.int 0)) = q at e2'
    generalize dr 3 = p at e1'
    simp only [sAsg, DL.e2, eLst, eL, aC, aN, eC, R.bind, v2, e1', ey, e2', i1, List.length_cons, List.length_nil, Nat.reduceAdd, show (1 ≤ 1000) = True from by decide, if_true, ml, an]
    subst hr
    rfl
  · split at hl
    · rw [List.mem_singleton.mp hl]; exact gy.mono (by omega)
    · cases hl
theorem text_turn {c : D} (hc : Cmd c) {ls : List Str} (hls : ∀ l ∈ ls, Ln 300 l) (hn : ls.length ≤ 90) {T : Store} (hT : TS T) {xs : List Int} (h : HO xs) (st : Int) (z1 z4 z5 z6 z7 z8 : Option D) :
    ∃ (ls' : List Str) (T' : Store) (y4 y5 y6 y7 y8 : Option D) (ys : List Int) (st' : Int), B__law_text_1 [some (.hd 1), z1, some (.hd (T.length + 2)), some c, z4, z5, z6, z7, z8] (HS xs st (T ++ [.lst (ls.map .str)])) = .ok (.nx, [some (.hd 1), z1, some (.hd (T'.length + 2)), some c, y4, y5, y6, y7, y8]) (HS ys st' (T' ++ [.lst (ls'.map .str)])) ∧ HO ys ∧ TS T' ∧ (∀ l ∈ ls', Ln 300 l) ∧ ls' ≠ [] ∧ ls'.length ≤ ls.length + 2 := by
  have hT2 : TS (T ++ [.lst (ls.map .str)]) := fun d hd => by
    rcases List.mem_append.mp hd with hd | hd
    · exact hT d hd
    · exact ⟨ls, List.mem_singleton.mp hd⟩
  have wd := law_words_eq hc (hT2.ok xs st)
  have eA : tA [some (.hd 1), z1, some (.hd (T.length + 2)), some c, z4, z5, z6, z7, z8] (HS xs st (T ++ [.lst (ls.map .str)])) = .ok (.nx, [some (.hd 1), z1, some (.hd (T.length + 2)), some c, some (.lst ((wordsD c).map .str)), z5, z6, z7, z8]) (HS xs st (T ++ [.lst (ls.map .str)])) := by
    simp only [tA, sAsg, eCall, aC, eV, aN, R.bind, List.getElem?_cons_zero, List.getElem?_cons_succ, List.length_cons, List.length_nil, Nat.reduceAdd, if_true, wd, gN, List.set]
  obtain ⟨ws', y5, y6, x2, s2, e2, h2, w2, l2⟩ := tB_eq (cmd_wds hc) h st (T ++ [.lst (ls.map .str)]) z1 (some (.hd (T.length + 2))) (some c) z5 z6 z7 z8
  obtain ⟨l3, x3, s3, e3, h3, g3⟩ := tC_eq h2 s2 (T ++ [.lst (ls.map .str)]) z1 (some (.hd (T.length + 2))) (some c) (some (.lst (ws'.map .str))) y5 y6 z7 z8
  obtain ⟨l4, y8, x4, s4, e4, h4, g4⟩ := tD_eq w2 l2 g3 h3 s3 (T ++ [.lst (ls.map .str)]) z1 (some (.hd (T.length + 2))) (some c) y5 y6 z8
  obtain ⟨l5, x5, s5, e5, h5, g5⟩ := tE_eq (ls := ls) g4 (by omega) h4 s4 T z1 (some c) (some (.lst (ws'.map .str))) y5 y6 y8
  obtain ⟨ms, x6, s6, e6, h6, g6, l6⟩ := tF_eq (ls := ls ++ [l5]) (by simp; omega) h5 s5 T z1 (some c) (some (.lst (ws'.map .str))) y5 y6 (some (.str l4)) y8
  refine ⟨ls ++ [l5] ++ ms, T ++ [.lst ((ls ++ [l5]).map .str)], some (.lst (ws'.map .str)), y5, y6, some (.str l4), y8, x6, s6, ?_, h6, fun d hd => ?_, fun l hl => ?_, by simp, by simp; omega⟩
  · rw [text_body, sSeq_nx eA, sSeq_nx e2, sSeq_nx e3, sSeq_nx e4, sSeq_nx e5]
    exact e6
  · rcases List.mem_append.mp hd with hd | hd
    · exact hT d hd
    · exact ⟨ls ++ [l5], List.mem_singleton.mp hd⟩
  · rcases List.mem_append.mp hl with hl | hl
    · rcases List.mem_append.mp hl with hl | hl
      · exact hls l hl
      · rw [List.mem_singleton.mp hl]; exact g5
    · exact g6 l hl
theorem text_loop (z1 : Option D) : ∀ (cs : List D) (ls : List Str) (T : Store) (xs : List Int) (st : Int) (z3 z4 z5 z6 z7 z8 : Option D), (∀ c ∈ cs, Cmd c) → (∀ l ∈ ls, Ln 300 l) → ls.length + 2 * cs.length ≤ 80 → TS T → HO xs →
    ∃ (ls' : List Str) (T' : Store) (y3 y4 y5 y6 y7 y8 : Option D) (ys : List Int) (st' : Int), forGo (gN 3) B__law_text_1 cs [some (.hd 1), z1, some (.hd (T.length + 2)), z3, z4, z5, z6, z7, z8] (HS xs st (T ++ [.lst (ls.map .str)])) = .ok (.nx, [some (.hd 1), z1, some (.hd (T'.length + 2)), y3, y4, y5, y6, y7, y8]) (HS ys st' (T' ++ [.lst (ls'.map .str)])) ∧ HO ys ∧ TS T' ∧ (∀ l ∈ ls', Ln 300 l) ∧ (cs ≠ [] ∨ ls ≠ [] → ls' ≠ []) ∧ ls'.length ≤ ls.length + 2 * cs.length
  | [], ls, T, xs, st, z3, z4, z5, z6, z7, z8, _, hl, _, hT, h => ⟨ls, T, z3, z4, z5, z6, z7, z8, xs, st, rfl, h, hT, hl, fun e => e.elim (fun e => absurd rfl e) id, by simp⟩
  | c :: cs, ls, T, xs, st, z3, z4, z5, z6, z7, z8, hc, hl, hn, hT, h => by
    simp only [List.length_cons] at hn
    obtain ⟨l1, T1, a4, a5, a6, a7, a8, x1, s1, e1, h1, t1, g1, n1, m1⟩ := text_turn (hc c List.mem_cons_self) hl (by omega) hT h st z1 z4 z5 z6 z7 z8
    obtain ⟨l2, T2, b3, b4, b5, b6, b7, b8, x2, s2, e2, h2, t2, g2, n2, m2⟩ := text_loop z1 cs l1 T1 x1 s1 (some c) a4 a5 a6 a7 a8 (fun d hd => hc d (List.mem_cons_of_mem _ hd)) g1 (by omega) t1 h1
    refine ⟨l2, T2, b3, b4, b5, b6, b7, b8, x2, s2, ?_, h2, t2, g2, fun _ => n2 (.inr n1), by simp only [List.length_cons]; omega⟩
    rw [forGo_nx (ρ1 := [some (.hd 1), z1, some (.hd (T.length + 2)), some c, z4, z5, z6, z7, z8]) rfl e1]
    exact e2
theorem lines_TextOk {ls : List Str} (hl : ∀ l ∈ ls, Ln 300 l) (hne : ls ≠ []) (hn : ls.length ≤ 80) : TextOk (Txt.join ("\n" : Str) ls) := by
  refine ⟨join_ok nl_ok fun w hw => (hl w hw).ok, ?_, fun p hp => ?_⟩
  · have h1 := join_len ("\n" : Str) ls
    have h2 := sum_le (fun w : Str => w.length + ("\n" : Str).length) 301 ls fun w hw => Nat.succ_le_succ (hl w hw).l
    omega
  · have e := split_lines hne fun l h hm => by have := (hl l h).ch 10 hm; omega
    unfold linesOf at e
    rw [e] at hp
    exact Nat.le_trans (hl p hp).l (by decide)
theorem text_eq {cs : List D} (hc : ∀ c ∈ cs, Cmd c) (hne : cs ≠ []) (hn : cs.length ≤ 20) {xs : List Int} (h : HO xs) (st : Int) :
    ∃ t ys st', F__law_text [.hd 1, .lst cs] (HS xs st []) = .ok (.str t) (HS ys st' []) ∧ HO ys ∧ TextOk t := by
  obtain ⟨ls, T, y3, y4, y5, y6, y7, y8, ys, st', e, h', hT, g, ne, ln⟩ := text_loop (some (.lst cs)) cs [] [] xs st none none none none none none hc (fun l hl => by cases hl) (by simp; omega) (fun c hc => by cases hc) h
  have hl : ls.length ≤ 40 := by simp at ln; omega
  have tok := lines_TextOk g (ne (.inl hne)) (by omega)
  refine ⟨Txt.join ("\n" : Str) ls, ys, st', sc_hs (T := T ++ [.lst (ls.map .str)]) ?_ tok.ok, h', tok⟩
  have e1 : sAsg (eNew aN) (gN 2) [some (.hd 1), some (.lst cs), none, none, none, none, none, none, none] (HS xs st []) = .ok (.nx, [some (.hd 1), some (.lst cs), some (.hd 2), none, none, none, none, none, none]) (HS xs st [.lst []]) := rfl
  have e2 : sFor (iL (eV 1)) (gN 3) B__law_text_1 [some (.hd 1), some (.lst cs), some (.hd 2), none, none, none, none, none, none] (HS xs st [.lst []]) = .ok (.nx, [some (.hd 1), some (.lst cs), some (.hd (T.length + 2)), y3, y4, y5, y6, y7, y8]) (HS ys st' (T ++ [.lst (ls.map .str)])) := e
  have jn : joinF (.str ("\n" : Str)) [.hd (T.length + 2)] (HS ys st' (T ++ [.lst (ls.map .str)])) = .ok (.str (Txt.join ("\n" : Str) ls)) (HS ys st' (T ++ [.lst (ls.map .str)])) := by
    have sq : seqF (HS ys st' (T ++ [.lst (ls.map .str)])) (.hd (T.length + 2)) = some (ls.map .str) := by
      have : seqF (HS ys st' T ++ [.lst (ls.map .str)]) (.hd (HS ys st' T).length) = some (ls.map .str) := by simp [seqF]
      exact this
    simp only [joinF, sq, Option.bind, strsD_map]
    have h2 := sum_le (fun w : Str => w.length) 300 ls fun w hw => (g w hw).l
    have h4 : ("\n" : Str).length = 1 := rfl
    rw [h4, if_pos (by omega)]
  have e3 : sRet (eM "str" joinF (eC (.str "\n")) (aC (eV 2) aN)) [some (.hd 1), some (.lst cs), some (.hd (T.length + 2)), y3, y4, y5, y6, y7, y8] (HS ys st' (T ++ [.lst (ls.map .str)])) = .ok (.rt (.str (Txt.join ("\n" : Str) ls)), [some (.hd 1), some (.lst cs), some (.hd (T.length + 2)), y3, y4, y5, y6, y7, y8]) (HS ys st' (T ++ [.lst (ls.map .str)])) := by
    simp only [sRet, eM, eC, aC, aN, eV, R.bind, List.getElem?_cons_zero, List.getElem?_cons_succ, show tagF (HS ys st' (T ++ [.lst (ls.map .str)])) (.str "\n") = some "str" from rfl, if_true, jn]
  simp only [fnF0, fnF, List.map_cons, List.map_nil, List.length_cons, List.length_nil, Nat.reduceAdd, Nat.reduceSub, List.replicate, List.cons_append, List.nil_append]
  rw [sSeq_nx e1, sSeq_nx e2, e3]
end P64
end
section
set_option maxRecDepth 100000
set_option maxHeartbeats 8000000
set_option autoImplicit false
set_option linter.all false
namespace P64
open PySem L2 DL
/-! ### the same data are equal -/
mutual
def nE : D → Bool
  | .tup ds => nEs ds
  | .lst ds => nEs ds
  | .em => false
  | .rol _ => false
  | .hd _ => false
  | _ => true
def nEs : List D → Bool
  | [] => true
  | d :: ds => nE d && nEs ds
end
mutual
theorem py_of : ∀ {d : D}, okF d = true → nE d = true → ∃ p, toPy d = some p ∧ p.canLay0 = true ∧ p.depth ≤ dp d
  | .non, _, _ => ⟨_, rfl, rfl, Nat.le_refl _⟩
  | .bl _, _, _ => ⟨_, rfl, rfl, Nat.le_refl _⟩
  | .int _, _, _ => ⟨_, rfl, rfl, Nat.le_refl _⟩
  | .str x, h, _ => ⟨_, rfl, h, Nat.le_refl _⟩
  | .em, _, h => by simp [nE] at h
  | .rol _, _, h => by simp [nE] at h
  | .hd _, _, h => by simp [nE] at h
  | .tup ds, h, g => by
    obtain ⟨ps, e, l, k⟩ := pys_of (ds := ds) (by simpa [okF] using h) (by simpa [nE] using g)
    exact ⟨.tuple ps, by simp [toPy, e], by simpa [PyData.canLay0] using l, by simp only [PyData.depth, dp]; omega⟩
  | .lst ds, h, g => by
    obtain ⟨ps, e, l, k⟩ := pys_of (ds := ds) (by simpa [okF] using h) (by simpa [nE] using g)
    exact ⟨.list ps, by simp [toPy, e], by simpa [PyData.canLay0] using l, by simp only [PyData.depth, dp]; omega⟩
theorem pys_of : ∀ {ds : List D}, okFs ds = true → nEs ds = true → ∃ ps, toPys ds = some ps ∧ PyData.canLayAll0 ps = true ∧ PyData.depthAll ps ≤ dps ds
  | [], _, _ => ⟨[], rfl, rfl, Nat.le_refl _⟩
  | d :: ds, h, g => by
    have h' : okF d = true ∧ okFs ds = true := by simpa [okFs] using h
    have g' : nE d = true ∧ nEs ds = true := by simpa [nEs] using g
    obtain ⟨p, e1, l1, k1⟩ := py_of h'.1 g'.1
    obtain ⟨ps, e2, l2, k2⟩ := pys_of h'.2 g'.2
    exact ⟨p :: ps, by simp [toPys, e1, e2], by simp [PyData.canLayAll0, l1, l2], by simp only [PyData.depthAll, dps]; omega⟩
end
theorem eqF_self {d : D} (h : okF d = true) (g : nE d = true) (k : dp d ≤ 64) (neg : Bool) (S : Store) : eqF neg d d S = .ok (.bl (!neg)) S := by
  obtain ⟨p, e, l, z⟩ := py_of h g
  have e' : toPyS S d = some p := by
    cases d with
    | hd n => simp [nE] at g
    | _ => exact e
  have sh : SeqAt.shaped p = true := by simp only [SeqAt.shaped, l, Bool.true_and, decide_eq_true_eq]; omega
  unfold eqF
  rw [e']
  simp only [sh, and_self, if_true, SeqAt.eqv_refl p l]
  cases neg <;> rfl
theorem nEs_iff : ∀ {ds : List D}, nEs ds = true ↔ ∀ d ∈ ds, nE d = true
  | [] => by simp [nEs]
  | d :: ds => by
    have := nEs_iff (ds := ds)
    simp [nEs, this]
theorem At.nE {d : D} (h : At d) : nE d = true := by
  rcases h with ⟨i, rfl, hi⟩ | ⟨x, rfl, hx⟩ <;> rfl
theorem Cmd.nE {c : D} (h : Cmd c) : nE c = true := by
  obtain ⟨w, ps, ks, as, qs, rfl, hk, ha, hw, sh, _⟩ := cmd_shape h
  have hq : P64.nE (.tup qs) = true := by
    simp only [P64.nE]
    refine nEs_iff.mpr fun q hq => ?_
    obtain ⟨x, i, rfl, _, _⟩ := pair_at3 (sh.q q hq)
    rfl
  rcases sh.e with ⟨e, _⟩ | e
  · rw [e]
    simp only [P64.nE]
    exact nEs_iff.mpr fun d hd => (sh.a d hd).nE
  · rw [e]
    simp only [P64.nE]
    refine nEs_iff.mpr fun d hd => ?_
    rcases List.mem_append.mp hd with hd | hd
    · exact (sh.a d hd).nE
    · rw [List.mem_singleton.mp hd]; exact hq
/-! ### calls -/
theorem eCall1 {F : FF} {i : Nat} {ρ : Rho} {v : D} {S : Store} (h : ρ[i]? = some (some v)) : eCall F 1 (aC (eV i) aN) ρ S = F [v] S := by
  simp only [eCall, aC, eV, aN, R.bind, h, List.length_cons, List.length_nil, Nat.reduceAdd, if_true]
theorem eCall2 {F : FF} {i j : Nat} {ρ : Rho} {v u : D} {S : Store} (h : ρ[i]? = some (some v)) (g : ρ[j]? = some (some u)) : eCall F 2 (aC (eV i) (aC (eV j) aN)) ρ S = F [v, u] S := by
  simp only [eCall, aC, eV, aN, R.bind, h, g, List.length_cons, List.length_nil, Nat.reduceAdd, if_true]
theorem eL1 {F : List D → Store → R D} {f : EF} {ρ : Rho} {v : D} {S S1 : Store} (h : f ρ S = .ok v S1) : eL F (aC f aN) ρ S = F [v] S1 := by
  simp only [eL, aC, aN, R.bind, h]
theorem e2_ok {F : D → D → Store → R D} {f g : EF} {ρ : Rho} {v u : D} {S S1 S2 : Store} (h : f ρ S = .ok v S1) (h2 : g ρ S1 = .ok u S2) : DL.e2 F f g ρ S = F v u S2 := by
  simp only [DL.e2, R.bind, h, h2]
theorem eM1 {T : String} {F : D → List D → Store → R D} {f g : EF} {ρ : Rho} {d v : D} {S S1 S2 : Store} (h : f ρ S = .ok d S1) (t : tagF S1 d = some T) (h2 : g ρ S1 = .ok v S2) : eM T F f (aC g aN) ρ S = F d [v] S2 := by
  simp only [eM, aC, aN, R.bind, h, t, if_true, h2]
theorem asB_ok {f : EF} {ρ : Rho} {b : Bool} {S S1 : Store} (h : f ρ S = .ok (.bl b) S1) : asB f ρ S = .ok b S1 := by
  simp only [asB, R.bind, h]
theorem bOr_no {f g : BF} {ρ : Rho} {S S1 S2 : Store} {b : Bool} (h : f ρ S = .ok false S1) (h2 : g ρ S1 = .ok b S2) : bOr f g ρ S = .ok b S2 := by
  simp only [bOr, R.bind, h, Bool.false_eq_true, if_false, h2]
theorem sIf_no {t : BF} {f g : SF} {ρ : Rho} {S S1 : Store} (h : t ρ S = .ok false S1) : sIf t f g ρ S = g ρ S1 := by
  simp only [sIf, R.bind, h, Bool.false_eq_true, if_false]
theorem sAsg_ok {f : EF} {i : Nat} {ρ : Rho} {v : D} {S S1 : Store} (h : f ρ S = .ok v S1) : sAsg f (gN i) ρ S = .ok (.nx, ρ.set i (some v)) S1 := by
  simp only [sAsg, R.bind, h, gN]
theorem eV_ok {i : Nat} {ρ : Rho} {v : D} (h : ρ[i]? = some (some v)) (S : Store) : eV i ρ S = .ok v S := by
  simp only [eV, h]
theorem repr_two {d : D} (h : okF d = true) (hw : wt d ≤ 2 ^ 20) (hd : dp d ≤ 64) {f g : EF} {ρ : Rho} {S S1 S2 : Store} (e1 : f ρ S = .ok d S1) (e2 : g ρ S1 = .ok d S2) : asB (DL.e2 (eqF true) (eL reprF (aC f aN)) (eL reprF (aC g aN))) ρ S = .ok false S2 := by
  obtain ⟨x, r⟩ := repr_same h hw hd
  have a := eL1 (F := reprF) e1
  rw [(r S1).1] at a
  have b := eL1 (F := reprF) e2
  rw [(r S2).1] at b
  refine asB_ok ?_
  exact (e2_ok a b).trans ((r S2).2 S2)
theorem HSok (xs : List Int) (st : Int) : okS (HS xs st []) := okS_hs xs st
/-! ### values spoilt -/
abbrev l11 : SF := sAsg (eCall F__law_spoilt 2 (aC (eV 1) (aC (eV 4) aN))) (gN 7)
abbrev l12c : BF := bAnd (asB (DL.e2 (eqF false) (eV 6) (eC (.int 2)))) (bAnd (asB (DL.e1 (isiF "tuple") (eV 7))) (asB (DL.e2 neEF (eV 7) (eTup aN))))
abbrev l12 : SF := sAsg (eIf l12c (eCall F__law_spoilt 2 (aC (eV 1) (aC (eV 7) aN))) (eV 7)) (gN 7)
abbrev l13 : SF := sAsg (eL reprF (aC (eV 7) aN)) (gN 8)
abbrev l14 : SF := sIf (bOr (asB (DL.e2 (eqF true) (eL reprF (aC (eCall F_is_command 1 (aC (eV 7) aN)) aN)) (eL reprF (aC (eCall F__law_is_command 1 (aC (eV 7) aN)) aN)))) (asB (DL.e2 (eqF true) (eL reprF (aC (eV 7) aN)) (eV 8))))
 (sRet (eC (.bl false)))
 sNil
theorem law1_body : B_law_1 = sSeq l11 (sSeq l12 (sSeq l13 l14)) := rfl
theorem l12_cond {v : D} (hv : (∀ n, v ≠ .hd n) ∧ ∀ n, v ≠ .rol n) {t : Int} {ρ : Rho} (h6 : ρ[6]? = some (some (.int t))) (h7 : ρ[7]? = some (some v)) (S : Store) : ∃ b, l12c ρ S = .ok b S := by
  have q := eqF_int (neg := false) (x := t) (y := 2) (S := S)
  have a1 : asB (DL.e2 (eqF false) (eV 6) (eC (.int 2))) ρ S = .ok (t == 2) S := asB_ok ((e2_ok (eV_ok h6 S) rfl).trans q)
  have a2 : ∃ b, bAnd (asB (DL.e1 (isiF "tuple") (eV 7))) (asB (DL.e2 neEF (eV 7) (eTup aN))) ρ S = .ok b S := by
    have v7 := eV_ok h7 S
    have ta : asB (DL.e1 (isiF "tuple") (eV 7)) ρ S = (match isiF "tuple" v S with | .ok (.bl b) S1 => .ok b S1 | .ok _ _ => .no | .no => .no | .ex e S => .ex e S) := by
      simp only [asB, DL.e1, R.bind, v7]
      cases isiF "tuple" v S with
      | ok d S1 => cases d <;> rfl
      | _ => rfl
    cases v with
    | hd n => exact absurd rfl (hv.1 n)
    | rol n => exact absurd rfl (hv.2 n)
    | tup ds =>
      have t1 : isiF "tuple" (.tup ds) S = .ok (.bl true) S := rfl
      have n1 : asB (DL.e2 neEF (eV 7) (eTup aN)) ρ S = .ok (!ds.isEmpty) S := by
        refine asB_ok ((e2_ok v7 (show eTup aN ρ S = .ok (.tup []) S from rfl)).trans rfl)
      rw [t1] at ta
      exact ⟨!ds.isEmpty, by unfold bAnd; rw [ta]; exact n1⟩
    | _ => exact ⟨false, by unfold bAnd; rw [ta]; rfl⟩
  obtain ⟨b2, a2⟩ := a2
  unfold l12c
  cases hb : (t == 2) with
  | true => exact ⟨b2, by rw [bAnd, a1, hb]; exact a2⟩
  | false => exact ⟨false, by rw [bAnd, a1, hb]; rfl⟩
theorem law1 {c : D} (hc : Cmd c) (t : Int) {xs : List Int} (h : HO xs) (st : Int) (z0 z2 z3 z5 z7 z8 z9 z10 z11 : Option D) :
    ∃ z7' z8' ys st', B_law_1 [z0, some (.hd 1), z2, z3, some c, z5, some (.int t), z7, z8, z9, z10, z11] (HS xs st []) = .ok (.nx, [z0, some (.hd 1), z2, z3, some c, z5, some (.int t), z7', z8', z9, z10, z11]) (HS ys st' []) ∧ HO ys := by
  obtain ⟨v, x1, s1, e1, h1, g1⟩ := spoilt_eq (by decide) (by decide) (by decide) hc.gd h st
  have f1 : l11 [z0, some (.hd 1), z2, z3, some c, z5, some (.int t), z7, z8, z9, z10, z11] (HS xs st []) = .ok (.nx, [z0, some (.hd 1), z2, z3, some c, z5, some (.int t), some v, z8, z9, z10, z11]) (HS x1 s1 []) :=
    sAsg_ok ((eCall2 (v := .hd 1) (u := c) rfl rfl).trans e1)
  obtain ⟨b, eb⟩ := l12_cond (dt_nh g1.t) (t := t) (ρ := [z0, some (.hd 1), z2, z3, some c, z5, some (.int t), some v, z8, z9, z10, z11]) rfl rfl (HS x1 s1 [])
  obtain ⟨u, x2, s2, e2, h2, g2⟩ : ∃ u x2 s2, eIf l12c (eCall F__law_spoilt 2 (aC (eV 1) (aC (eV 7) aN))) (eV 7) [z0, some (.hd 1), z2, z3, some c, z5, some (.int t), some v, z8, z9, z10, z11] (HS x1 s1 []) = .ok u (HS x2 s2 []) ∧ HO x2 ∧ Gd 1000003 60000 13 u := by
    cases b with
    | true =>
      obtain ⟨u, x2, s2, e2, h2, g2⟩ := spoilt_eq (by decide) (by decide) (by decide) g1 h1 s1
      refine ⟨u, x2, s2, ?_, h2, g2.mono (by decide) (by decide) (by decide)⟩
      rw [← e2, ← eCall2 (F := F__law_spoilt) (i := 1) (j := 7) (ρ := [z0, some (.hd 1), z2, z3, some c, z5, some (.int t), some v, z8, z9, z10, z11]) (v := .hd 1) (u := v) rfl rfl]
      simp only [eIf, R.bind, eb, if_true]
    | false =>
      refine ⟨v, x1, s1, ?_, h1, g1.mono (by decide) (by decide) (by decide)⟩
      simp only [eIf, R.bind, eb, Bool.false_eq_true, if_false]
      rfl
  have f2 : l12 [z0, some (.hd 1), z2, z3, some c, z5, some (.int t), some v, z8, z9, z10, z11] (HS x1 s1 []) = .ok (.nx, [z0, some (.hd 1), z2, z3, some c, z5, some (.int t), some u, z8, z9, z10, z11]) (HS x2 s2 []) := sAsg_ok e2
  have ou : okF u = true := dt_ok (by decide) g2.t
  have wu : wt u ≤ 2 ^ 20 := Nat.le_trans g2.w (by decide)
  have du : dp u ≤ 64 := Nat.le_trans g2.k (by decide)
  have su : Sm 100000 u := ⟨ou, Nat.le_trans g2.w (by decide)⟩
  obtain ⟨x, rx⟩ := repr_same ou wu du
  have f3 : l13 [z0, some (.hd 1), z2, z3, some c, z5, some (.int t), some u, z8, z9, z10, z11] (HS x2 s2 []) = .ok (.nx, [z0, some (.hd 1), z2, z3, some c, z5, some (.int t), some u, some x, z9, z10, z11]) (HS x2 s2 []) :=
    sAsg_ok ((eL1 (eV_ok (v := u) rfl _)).trans (rx _).1)
  have i1 : eCall F_is_command 1 (aC (eV 7) aN) [z0, some (.hd 1), z2, z3, some c, z5, some (.int t), some u, some x, z9, z10, z11] (HS x2 s2 []) = .ok (.bl (cmdB u)) (HS x2 s2 []) := (eCall1 (v := u) rfl).trans (is_command_eq su _)
  have i2 : eCall F__law_is_command 1 (aC (eV 7) aN) [z0, some (.hd 1), z2, z3, some c, z5, some (.int t), some u, some x, z9, z10, z11] (HS x2 s2 []) = .ok (.bl (cmdB u)) (HS x2 s2 []) := (eCall1 (v := u) rfl).trans (law_is_command_eq su _)
  have c1 := repr_two (d := .bl (cmdB u)) rfl (by simp [wt]) (by simp [dp]) i1 i2
  have c2 : asB (DL.e2 (eqF true) (eL reprF (aC (eV 7) aN)) (eV 8)) [z0, some (.hd 1), z2, z3, some c, z5, some (.int t), some u, some x, z9, z10, z11] (HS x2 s2 []) = .ok false (HS x2 s2 []) :=
    asB_ok ((e2_ok ((eL1 (eV_ok (v := u) rfl _)).trans (rx _).1) (eV_ok (v := x) rfl _)).trans ((rx (HS x2 s2 [])).2 _))
  have f4 : l14 [z0, some (.hd 1), z2, z3, some c, z5, some (.int t), some u, some x, z9, z10, z11] (HS x2 s2 []) = .ok (.nx, [z0, some (.hd 1), z2, z3, some c, z5, some (.int t), some u, some x, z9, z10, z11]) (HS x2 s2 []) :=
    (sIf_no (bOr_no c1 c2)).trans rfl
  refine ⟨some u, some x, x2, s2, ?_, h2⟩
  rw [law1_body, sSeq_nx f1, sSeq_nx f2, sSeq_nx f3]
  exact f4
/-! ### each command -/
abbrev l21 : SF := sAsg (eM "str" joinF (eC (.str " ")) (aC (eCall F__law_words 1 (aC (eV 4) aN)) aN)) (gN 5)
noncomputable abbrev l22 : SF := sIf (bOr (bNot (asB (eCall F__law_is_command 1 (aC (eV 4) aN)))) (bOr (asB (DL.e2 (isF true) (eCall F_is_command 1 (aC (eV 4) aN)) (eC (.bl true)))) (asB (DL.e2 (eqF true) (eL reprF (aC (eCall F_show_command 1 (aC (eV 4) aN)) aN)) (eL reprF (aC (eV 5) aN))))))
 (sRet (eC (.bl false)))
 sNil
noncomputable abbrev l23 : SF := sIf (bOr (asB (DL.e2 (isF true) (eCall F_is_command 1 (aC (eV 4) aN)) (eC (.bl true)))) (asB (DL.e2 (eqF true) (eCall F_show_command 1 (aC (eV 4) aN)) (eV 5))))
 (sRet (eC (.bl false)))
 sNil
noncomputable abbrev l24 : SF := sFor (iR1 (aC (eC (.int 3)) aN)) (gN 6) B_law_1
theorem law2_body : B_law_2 = sSeq l21 (sSeq l22 (sSeq l23 l24)) := rfl
theorem Cmd.sm {c : D} (h : Cmd c) : Sm 100000 c := ⟨h.ok, Nat.le_trans h.w (by decide)⟩
theorem line_join_e {c : D} (hc : Cmd c) {ρ : Rho} (h4 : ρ[4]? = some (some c)) {S : Store} (hS : okS S) : eM "str" joinF (eC (.str " ")) (aC (eCall F__law_words 1 (aC (eV 4) aN)) aN) ρ S = .ok (.str (lineD (wordsD c))) S := by
  exact (eM1 rfl rfl ((eCall1 h4).trans (law_words_eq hc hS))).trans (line_join (by decide) (cmd_wds hc) S)
theorem law2 {c : D} (hc : Cmd c) {xs : List Int} (h : HO xs) (st : Int) (z0 z2 z3 z5 z6 z7 z8 z9 z10 z11 : Option D) :
    ∃ z5' z6' z7' z8' ys st', B_law_2 [z0, some (.hd 1), z2, z3, some c, z5, z6, z7, z8, z9, z10, z11] (HS xs st []) = .ok (.nx, [z0, some (.hd 1), z2, z3, some c, z5', z6', z7', z8', z9, z10, z11]) (HS ys st' []) ∧ HO ys := by
  have f1 : l21 [z0, some (.hd 1), z2, z3, some c, z5, z6, z7, z8, z9, z10, z11] (HS xs st []) = .ok (.nx, [z0, some (.hd 1), z2, z3, some c, some (.str (lineD (wordsD c))), z6, z7, z8, z9, z10, z11]) (HS xs st []) := sAsg_ok (line_join_e hc rfl (HSok xs st))
  generalize hl : lineD (wordsD c) = ln at f1
  have lo : PyData.strOk ln = true := hl ▸ line_ok (cmd_wds hc)
  have ll : ln.length ≤ 168 := hl ▸ line_len (cmd_wds hc)
  have i1 : eCall F_is_command 1 (aC (eV 4) aN) [z0, some (.hd 1), z2, z3, some c, some (.str ln), z6, z7, z8, z9, z10, z11] (HS xs st []) = .ok (.bl true) (HS xs st []) := (eCall1 (v := c) rfl).trans ((is_command_eq hc.sm _).trans (by rw [hc.c]))
  have i2 : eCall F__law_is_command 1 (aC (eV 4) aN) [z0, some (.hd 1), z2, z3, some c, some (.str ln), z6, z7, z8, z9, z10, z11] (HS xs st []) = .ok (.bl true) (HS xs st []) := (eCall1 (v := c) rfl).trans ((law_is_command_eq hc.sm _).trans (by rw [hc.c]))
  have i3 : eCall F_show_command 1 (aC (eV 4) aN) [z0, some (.hd 1), z2, z3, some c, some (.str ln), z6, z7, z8, z9, z10, z11] (HS xs st []) = .ok (.str ln) (HS xs st []) := (eCall1 (v := c) rfl).trans ((show_command_eq hc (HSok xs st)).trans (by rw [hl]))
  have n1 : bNot (asB (eCall F__law_is_command 1 (aC (eV 4) aN))) [z0, some (.hd 1), z2, z3, some c, some (.str ln), z6, z7, z8, z9, z10, z11] (HS xs st []) = .ok false (HS xs st []) := by
    rw [bNot, asB_ok i2]; rfl
  have n2 : asB (DL.e2 (isF true) (eCall F_is_command 1 (aC (eV 4) aN)) (eC (.bl true))) [z0, some (.hd 1), z2, z3, some c, some (.str ln), z6, z7, z8, z9, z10, z11] (HS xs st []) = .ok false (HS xs st []) := asB_ok ((e2_ok i1 rfl).trans rfl)
  have n3 := repr_two (d := .str ln) lo (by simp only [wt]; omega) (by simp [dp]) i3 (eV_ok (i := 5) (v := .str ln) (ρ := [z0, some (.hd 1), z2, z3, some c, some (.str ln), z6, z7, z8, z9, z10, z11]) rfl (HS xs st []))
  have n4 : asB (DL.e2 (eqF true) (eCall F_show_command 1 (aC (eV 4) aN)) (eV 5)) [z0, some (.hd 1), z2, z3, some c, some (.str ln), z6, z7, z8, z9, z10, z11] (HS xs st []) = .ok false (HS xs st []) := asB_ok ((e2_ok i3 (eV_ok (v := .str ln) rfl _)).trans (eqF_self (d := .str ln) lo rfl (by simp [dp]) true _))
  have f2 : l22 [z0, some (.hd 1), z2, z3, some c, some (.str ln), z6, z7, z8, z9, z10, z11] (HS xs st []) = .ok (.nx, [z0, some (.hd 1), z2, z3, some c, some (.str ln), z6, z7, z8, z9, z10, z11]) (HS xs st []) := (sIf_no (bOr_no n1 (bOr_no n2 n3))).trans rfl
  have f3 : l23 [z0, some (.hd 1), z2, z3, some c, some (.str ln), z6, z7, z8, z9, z10, z11] (HS xs st []) = .ok (.nx, [z0, some (.hd 1), z2, z3, some c, some (.str ln), z6, z7, z8, z9, z10, z11]) (HS xs st []) := (sIf_no (bOr_no n2 n4)).trans rfl
  obtain ⟨a7, a8, x1, s1, e1, h1⟩ := law1 hc 0 h st z0 z2 z3 (some (.str ln)) z7 z8 z9 z10 z11
  obtain ⟨b7, b8, x2, s2, e2, h2⟩ := law1 hc 1 h1 s1 z0 z2 z3 (some (.str ln)) a7 a8 z9 z10 z11
  obtain ⟨c7, c8, x3, s3, e3, h3⟩ := law1 hc 2 h2 s2 z0 z2 z3 (some (.str ln)) b7 b8 z9 z10 z11
  refine ⟨some (.str ln), some (.int 2), c7, c8, x3, s3, ?_, h3⟩
  rw [law2_body, sSeq_nx f1, sSeq_nx f2, sSeq_nx f3]
  have r : l24 [z0, some (.hd 1), z2, z3, some c, some (.str ln), z6, z7, z8, z9, z10, z11] (HS xs st []) = forGo (gN 6) B_law_1 [.int 0, .int 1, .int 2] [z0, some (.hd 1), z2, z3, some c, some (.str ln), z6, z7, z8, z9, z10, z11] (HS xs st []) := rfl
  rw [r, forGo_nx (ρ1 := [z0, some (.hd 1), z2, z3, some c, some (.str ln), some (.int 0), z7, z8, z9, z10, z11]) rfl e1, forGo_nx (ρ1 := [z0, some (.hd 1), z2, z3, some c, some (.str ln), some (.int 1), a7, a8, z9, z10, z11]) rfl e2, forGo_nx (ρ1 := [z0, some (.hd 1), z2, z3, some c, some (.str ln), some (.int 2), b7, b8, z9, z10, z11]) rfl e3]
  rfl
end P64
end
section
set_option maxRecDepth 100000
set_option maxHeartbeats 8000000
set_option autoImplicit false
set_option linter.all false
namespace P64
open PySem L2 DL
/-! ### the law -/
theorem eCallE {F : FF} {f : EF} {ρ : Rho} {v : D} {S S1 : Store} (h : f ρ S = .ok v S1) : eCall F 1 (aC f aN) ρ S = F [v] S1 := by
  simp only [eCall, aC, aN, R.bind, h, List.length_cons, List.length_nil, Nat.reduceAdd, if_true]
theorem eCallE2 {F : FF} {f g : EF} {ρ : Rho} {v u : D} {S S1 S2 : Store} (h : f ρ S = .ok v S1) (h2 : g ρ S1 = .ok u S2) : eCall F 2 (aC f (aC g aN)) ρ S = F [v, u] S2 := by
  simp only [eCall, aC, aN, R.bind, h, h2, List.length_cons, List.length_nil, Nat.reduceAdd, if_true]
theorem iR1_n {fa : AF} {ρ : Rho} {S S1 : Store} {n : Nat} (h : fa ρ S = .ok [.int (n : Int)] S1) (hn : n ≤ 1000) : iR1 fa ρ S = .ok ((List.range n).map fun (i : Nat) => .int ((0 : Int) + (i : Int))) S1 := by
  simp only [iR1, R.bind, h]
  rw [if_pos ⟨by omega, by omega⟩]
  rfl
abbrev l51 : SF := sAsg (eLc (iR1 (aC (eCall F__law_pick 2 (aC (eV 1) (aC (eLst (aC (eC (.int 6)) (aC (eC (.int 4)) (aC (eC (.int 9)) (aC (eC (.int 1)) aN))))) aN))) aN)) (gN 6) bY E_law_0 [6]) (gN 3)
noncomputable abbrev l52 : SF := sFor (iL (eV 3)) (gN 4) B_law_2
abbrev l53 : SF := sAsg (eM "str" joinF (eC (.str "\n")) (aC (eLc (iL (eV 3)) (gN 4) bY E_law_3 [4]) aN)) (gN 9)
noncomputable abbrev l54 : SF := sIf (bOr (asB (DL.e2 (eqF true) (eL reprF (aC (eCall F_show_commands 1 (aC (eL tupF (aC (eV 3) aN)) aN)) aN)) (eL reprF (aC (eV 9) aN)))) (asB (DL.e2 (eqF true) (eCall F_show_commands 1 (aC (eL tupF (aC (eV 3) aN)) aN)) (eV 9))))
 (sRet (eC (.bl false)))
 sNil
abbrev l55 (C : Addr) : SF := sIf (bOr (asB (DL.e2 (eqF true) (eL reprF (aC (eCall (F_read_commands C) 1 (aC (eV 9) aN)) aN)) (eL reprF (aC (eL tupF (aC (eV 3) aN)) aN)))) (asB (DL.e2 (eqF true) (eCall (F_read_commands C) 1 (aC (eV 9) aN)) (eL tupF (aC (eV 3) aN)))))
 (sRet (eC (.bl false)))
 sNil
noncomputable abbrev l56 (C : Addr) : SF := sFor (iR1 (aC (eC (.int 3)) aN)) (gN 6) (B_law_4 C)
abbrev l57 (C : Addr) : SF := sIf (asB (DL.e2 (eqF true) (eCall (F__law_heard C) 1 (aC (eCall F__law_pick 2 (aC (eV 1) (aC (eLst (aC (eC .non) (aC (eC (.int 3)) (aC (eLst (aC (eC (.str "now")) aN)) (aC (eTup (aC (eC (.str "now")) aN)) (aC (eC (.bl true)) aN)))))) aN))) aN)) (eTup (aC (eC (.str "refused")) (aC (DL.e2 subF (eC (.int 0)) (eC (.int 1))) (aC (DL.e2 subF (eC (.int 0)) (eC (.int 1))) aN))))))
 (sRet (eC (.bl false)))
 sNil
theorem law5_body (C : Addr) : B_law_5 C = sSeq l51 (sSeq l52 (sSeq l53 (sSeq l54 (sSeq (l55 C) (sSeq (l56 C) (l57 C)))))) := rfl
theorem l51_eq {xs : List Int} (h : HO xs) (st : Int) (z0 z2 z3 z4 z5 z6 z7 z8 z9 z10 z11 : Option D) :
    ∃ cs ys st', l51 [z0, some (.hd 1), z2, z3, z4, z5, z6, z7, z8, z9, z10, z11] (HS xs st []) = .ok (.nx, [z0, some (.hd 1), z2, some (.lst cs), z4, z5, z6, z7, z8, z9, z10, z11]) (HS ys st' []) ∧ HO ys ∧ (∀ c ∈ cs, Cmd c) ∧ cs ≠ [] ∧ cs.length ≤ 20 := by
  obtain ⟨d, x1, s1, hd, e1, h1⟩ := pickH (ds := [.int 6, .int 4, .int 9, .int 1]) (by simp) (by simp) h st []
  obtain ⟨n, rfl, n1, n2⟩ : ∃ n : Nat, d = .int (n : Int) ∧ 1 ≤ n ∧ n ≤ 20 := by
    simp only [List.mem_cons, List.not_mem_nil, or_false] at hd
    rcases hd with rfl | rfl | rfl | rfl
    · exact ⟨6, rfl, by decide, by decide⟩
    · exact ⟨4, rfl, by decide, by decide⟩
    · exact ⟨9, rfl, by decide, by decide⟩
    · exact ⟨1, rfl, by decide, by decide⟩
  generalize hr : [z0, some (D.hd 1), z2, z3, z4, z5, z6, z7, z8, z9, z10, z11] = ρ
  have v1 : ∀ S, eV 1 ρ S = .ok (.hd 1) S := fun _ => by subst hr; rfl
  have pk : eCall F__law_pick 2 (aC (eV 1) (aC (eLst (aC (eC (.int 6)) (aC (eC (.int 4)) (aC (eC (.int 9)) (aC (eC (.int 1)) aN))))) aN)) ρ (HS xs st []) = .ok (.int (n : Int)) (HS x1 s1 []) :=
    (eCallE2 (v1 _) (show eLst (aC (eC (.int 6)) (aC (eC (.int 4)) (aC (eC (.int 9)) (aC (eC (.int 1)) aN)))) ρ (HS xs st []) = .ok (.lst [.int 6, .int 4, .int 9, .int 1]) (HS xs st []) from rfl)).trans e1
  have it : iR1 (aC (eCall F__law_pick 2 (aC (eV 1) (aC (eLst (aC (eC (.int 6)) (aC (eC (.int 4)) (aC (eC (.int 9)) (aC (eC (.int 1)) aN))))) aN))) aN) ρ (HS xs st []) = .ok ((List.range n).map fun (i : Nat) => .int ((0 : Int) + (i : Int))) (HS x1 s1 []) := by
    refine iR1_n ?_ (by omega)
    generalize eCall F__law_pick 2 (aC (eV 1) (aC (eLst (aC (eC (.int 6)) (aC (eC (.int 4)) (aC (eC (.int 9)) (aC (eC (.int 1)) aN))))) aN)) = q at pk
    simp only [aC, aN, R.bind, pk]
  have w : wipeR ρ [6] = [z0, some (.hd 1), z2, z3, z4, z5, none, z7, z8, z9, z10, z11] := by subst hr; rfl
  obtain ⟨cs, ys, st', e2, h2, l2, c2⟩ := lcGo_st (b := gN 6) (fe := E_law_0) (ρ := [z0, some (.hd 1), z2, z3, z4, z5, none, z7, z8, z9, z10, z11]) (T := []) Cmd ((List.range n).map fun (i : Nat) => .int ((0 : Int) + (i : Int)))
    (fun d _ xs st h => ⟨_, rfl, by
      obtain ⟨c, ys, st', e, h', hc⟩ := command_eq h st []
      refine ⟨c, ys, st', ?_, h', hc⟩
      exact (eCallE2 (F := F__law_command) (v := .hd 1) (u := .lst [.str "level", .str "b"]) rfl rfl).trans e⟩) x1 s1 h1
  have l3 : cs.length = n := by simpa using l2
  refine ⟨cs, ys, st', ?_, h2, c2, fun e => by rw [e] at l3; simp at l3; omega, by omega⟩
  have lc : eLc (iR1 (aC (eCall F__law_pick 2 (aC (eV 1) (aC (eLst (aC (eC (.int 6)) (aC (eC (.int 4)) (aC (eC (.int 9)) (aC (eC (.int 1)) aN))))) aN))) aN)) (gN 6) bY E_law_0 [6] ρ (HS xs st []) = .ok (.lst cs) (HS ys st' []) := by
    unfold eLc
    rw [it]
    simp only [R.bind]
    rw [w, e2]
    dsimp only
    rw [if_pos (by simp; omega)]
  have := sAsg_ok (i := 3) lc
  subst hr
  exact this
theorem l52_eq (z0 z2 z3 z9 z10 z11 : Option D) : ∀ (cs : List D) (xs : List Int) (st : Int) (z4 z5 z6 z7 z8 : Option D), (∀ c ∈ cs, Cmd c) → HO xs →
    ∃ y4 y5 y6 y7 y8 ys st', forGo (gN 4) B_law_2 cs [z0, some (.hd 1), z2, z3, z4, z5, z6, z7, z8, z9, z10, z11] (HS xs st []) = .ok (.nx, [z0, some (.hd 1), z2, z3, y4, y5, y6, y7, y8, z9, z10, z11]) (HS ys st' []) ∧ HO ys
  | [], xs, st, z4, z5, z6, z7, z8, _, h => ⟨z4, z5, z6, z7, z8, xs, st, rfl, h⟩
  | c :: cs, xs, st, z4, z5, z6, z7, z8, hc, h => by
    obtain ⟨a5, a6, a7, a8, x1, s1, e1, h1⟩ := law2 (hc c List.mem_cons_self) h st z0 z2 z3 z5 z6 z7 z8 z9 z10 z11
    obtain ⟨b4, b5, b6, b7, b8, x2, s2, e2, h2⟩ := l52_eq z0 z2 z3 z9 z10 z11 cs x1 s1 (some c) a5 a6 a7 a8 (fun d hd => hc d (List.mem_cons_of_mem _ hd)) h1
    refine ⟨b4, b5, b6, b7, b8, x2, s2, ?_, h2⟩
    rw [forGo_nx (ρ1 := [z0, some (.hd 1), z2, z3, some c, z5, z6, z7, z8, z9, z10, z11]) rfl e1]
    exact e2
theorem l53_eq {cs : List D} (hc : ∀ c ∈ cs, Cmd c) (hn : cs.length ≤ 20) (xs : List Int) (st : Int) (z0 z1 z2 z4 z5 z6 z7 z8 z9 z10 z11 : Option D) :
    l53 [z0, z1, z2, some (.lst cs), z4, z5, z6, z7, z8, z9, z10, z11] (HS xs st []) = .ok (.nx, [z0, z1, z2, some (.lst cs), z4, z5, z6, z7, z8, some (.str (textD cs)), z10, z11]) (HS xs st []) := by
  have e := eLc_map (fa := iL (eV 3)) (b := gN 4) (fe := E_law_3) (vs := [4]) (ρ := [z0, z1, z2, some (.lst cs), z4, z5, z6, z7, z8, z9, z10, z11]) (S := HS xs st []) (g := fun c => .str (lineD (wordsD c))) (ds := cs) rfl (fun c hm => ⟨_, rfl, line_join_e (hc c hm) rfl (HSok xs st)⟩) (by omega)
  exact sAsg_ok ((eM1 (F := joinF) (T := "str") (f := eC (.str "\n")) rfl rfl e).trans (text_join hc hn _))
theorem cmds_rp {cs : List D} (hc : ∀ c ∈ cs, Cmd c) (hn : cs.length ≤ 20) : okF (.tup cs) = true ∧ wt (.tup cs) ≤ 2 ^ 20 ∧ dp (.tup cs) ≤ 64 ∧ nE (.tup cs) = true := by
  refine ⟨by simp only [okF]; exact okFs_of fun c h => (hc c h).ok, ?_, ?_, by simp only [nE]; exact nEs_iff.mpr fun c h => (hc c h).nE⟩
  · have key : ∀ l : List D, (∀ c ∈ l, Cmd c) → wts l ≤ 2001 * l.length := by
      intro l
      induction l with
      | nil => intro _; simp [wts]
      | cons a l ih =>
        intro hl
        have h1 := ih fun z hz => hl z (List.mem_cons_of_mem _ hz)
        have h2 := (hl a List.mem_cons_self).w
        simp only [wts, List.length_cons, Nat.mul_succ]; omega
    have := key cs hc
    simp only [wt]
    omega
  · have := dps_le (ds := cs) (n := 3) fun c h => (hc c h).z
    simp only [dp]; omega
theorem tup_e {cs : List D} {ρ : Rho} (h3 : ρ[3]? = some (some (.lst cs))) (S : Store) : eL tupF (aC (eV 3) aN) ρ S = .ok (.tup cs) S := (eL1 (eV_ok h3 S)).trans rfl
theorem l54_eq {cs : List D} (hc : ∀ c ∈ cs, Cmd c) (hn : cs.length ≤ 20) {ρ : Rho} (h3 : ρ[3]? = some (some (.lst cs))) (h9 : ρ[9]? = some (some (.str (textD cs)))) {S : Store} (hS : okS S) : l54 ρ S = .ok (.nx, ρ) S := by
  have sc : eCall F_show_commands 1 (aC (eL tupF (aC (eV 3) aN)) aN) ρ S = .ok (.str (textD cs)) S := (eCallE (tup_e h3 S)).trans (show_commands_eq hc hn hS)
  have ok : okF (.str (textD cs)) = true := text_ok hc
  have ln := text_len hc hn
  have c1 := repr_two ok (by simp only [wt]; omega) (by simp [dp]) sc (eV_ok h9 S)
  have c2 : asB (DL.e2 (eqF true) (eCall F_show_commands 1 (aC (eL tupF (aC (eV 3) aN)) aN)) (eV 9)) ρ S = .ok false S := asB_ok ((e2_ok sc (eV_ok h9 S)).trans (eqF_self ok rfl (by simp [dp]) true S))
  exact (sIf_no (bOr_no c1 c2)).trans rfl
theorem l55_eq (C : Addr) {cs : List D} (hc : ∀ c ∈ cs, Cmd c) (hne : cs ≠ []) (hn : cs.length ≤ 20) {ρ : Rho} (h3 : ρ[3]? = some (some (.lst cs))) (h9 : ρ[9]? = some (some (.str (textD cs)))) {S : Store} (hS : okS S) : l55 C ρ S = .ok (.nx, ρ) S := by
  have rc : eCall (F_read_commands C) 1 (aC (eV 9) aN) ρ S = .ok (.tup cs) S := (eCall1 h9).trans (read_back C hc hne hn hS)
  obtain ⟨ok, w, k, ne⟩ := cmds_rp hc hn
  have c1 := repr_two ok w k rc (tup_e h3 S)
  have c2 : asB (DL.e2 (eqF true) (eCall (F_read_commands C) 1 (aC (eV 9) aN)) (eL tupF (aC (eV 3) aN))) ρ S = .ok false S := asB_ok ((e2_ok rc (tup_e h3 S)).trans (eqF_self ok ne k true S))
  exact (sIf_no (bOr_no c1 c2)).trans rfl
/-- both readings of a text -/
theorem both_eq (C : Addr) {t : Str} (ht : TextOk t) {ρ : Rho} (h : ρ[10]? = some (some (.str t))) {S : Store} (hS : okS S) : asB (DL.e2 (eqF true) (eL reprF (aC (eCall (F__law_heard C) 1 (aC (eV 10) aN)) aN)) (eL reprF (aC (eCall F__law_read 1 (aC (eV 10) aN)) aN))) ρ S = .ok false S := by
  have r := read_rp ht
  exact repr_two r.o r.w r.z ((eCall1 h).trans (heard_eq C ht hS)) ((eCall1 h).trans (law_read_eq ht hS))
theorem law4 (C : Addr) {cs : List D} (hc : ∀ c ∈ cs, Cmd c) (hne : cs ≠ []) (hn : cs.length ≤ 20) {xs : List Int} (h : HO xs) (st : Int) (z0 z2 z4 z5 z6 z7 z8 z9 z10 z11 : Option D) :
    ∃ z10' ys st', B_law_4 C [z0, some (.hd 1), z2, some (.lst cs), z4, z5, z6, z7, z8, z9, z10, z11] (HS xs st []) = .ok (.nx, [z0, some (.hd 1), z2, some (.lst cs), z4, z5, z6, z7, z8, z9, z10', z11]) (HS ys st' []) ∧ HO ys := by
  obtain ⟨t, ys, st', e, h', tk⟩ := text_eq hc hne hn h st
  refine ⟨some (.str t), ys, st', ?_, h'⟩
  have f1 : sAsg (eCall F__law_text 2 (aC (eV 1) (aC (eV 3) aN))) (gN 10) [z0, some (.hd 1), z2, some (.lst cs), z4, z5, z6, z7, z8, z9, z10, z11] (HS xs st []) = .ok (.nx, [z0, some (.hd 1), z2, some (.lst cs), z4, z5, z6, z7, z8, z9, some (.str t), z11]) (HS ys st' []) := sAsg_ok ((eCall2 (v := .hd 1) (u := .lst cs) rfl rfl).trans e)
  unfold B_law_4
  rw [sSeq_nx f1]
  exact (sIf_no (both_eq C tk rfl (HSok ys st'))).trans rfl
theorem l57_eq (C : Addr) {xs : List Int} (h : HO xs) (st : Int) {ρ : Rho} (h1 : ρ[1]? = some (some (.hd 1))) : ∃ ys st', l57 C ρ (HS xs st []) = .ok (.nx, ρ) (HS ys st' []) ∧ HO ys := by
  obtain ⟨d, ys, st', hd, e, h'⟩ := pickH (ds := [.non, .int 3, .lst [.str "now"], .tup [.str "now"], .bl true]) (by simp) (by simp) h st []
  refine ⟨ys, st', ?_, h'⟩
  have pk : eCall F__law_pick 2 (aC (eV 1) (aC (eLst (aC (eC .non) (aC (eC (.int 3)) (aC (eLst (aC (eC (.str "now")) aN)) (aC (eTup (aC (eC (.str "now")) aN)) (aC (eC (.bl true)) aN)))))) aN)) ρ (HS xs st []) = .ok d (HS ys st' []) :=
    (eCallE2 (eV_ok h1 _) (show eLst (aC (eC .non) (aC (eC (.int 3)) (aC (eLst (aC (eC (.str "now")) aN)) (aC (eTup (aC (eC (.str "now")) aN)) (aC (eC (.bl true)) aN))))) ρ (HS xs st []) = .ok (.lst [.non, .int 3, .lst [.str "now"], .tup [.str "now"], .bl true]) (HS xs st []) from rfl)).trans e
  have od : ∀ S, isiF "str" d S = .ok (.bl false) S := fun S => by
    simp only [List.mem_cons, List.not_mem_nil, or_false] at hd
    rcases hd with rfl | rfl | rfl | rfl | rfl <;> rfl
  have hh := (eCallE (F := F__law_heard C) pk).trans (heard_odd C od (HSok ys st'))
  have tu : eTup (aC (eC (.str "refused")) (aC (DL.e2 subF (eC (.int 0)) (eC (.int 1))) (aC (DL.e2 subF (eC (.int 0)) (eC (.int 1))) aN))) ρ (HS ys st' []) = .ok (.tup [.str "refused", .int (-1), .int (-1)]) (HS ys st' []) := rfl
  have q := eqF_self (d := .tup [.str "refused", .int (-1), .int (-1)]) (by decide +kernel) (by decide +kernel) (by decide +kernel) true (HS ys st' [])
  exact (sIf_no (asB_ok ((e2_ok hh tu).trans q))).trans rfl
theorem law5 (C : Addr) {xs : List Int} (h : HO xs) (st : Int) (z0 z2 z3 z4 z5 z6 z7 z8 z9 z10 z11 : Option D) :
    ∃ y3 y4 y5 y6 y7 y8 y9 y10 ys st', B_law_5 C [z0, some (.hd 1), z2, z3, z4, z5, z6, z7, z8, z9, z10, z11] (HS xs st []) = .ok (.nx, [z0, some (.hd 1), z2, y3, y4, y5, y6, y7, y8, y9, y10, z11]) (HS ys st' []) ∧ HO ys := by
  obtain ⟨cs, x1, s1, e1, h1, hc, hne, hn⟩ := l51_eq h st z0 z2 z3 z4 z5 z6 z7 z8 z9 z10 z11
  obtain ⟨a4, a5, a6, a7, a8, x2, s2, e2, h2⟩ := l52_eq z0 z2 (some (.lst cs)) z9 z10 z11 cs x1 s1 z4 z5 z6 z7 z8 hc h1
  have e2' : l52 [z0, some (.hd 1), z2, some (.lst cs), z4, z5, z6, z7, z8, z9, z10, z11] (HS x1 s1 []) = .ok (.nx, [z0, some (.hd 1), z2, some (.lst cs), a4, a5, a6, a7, a8, z9, z10, z11]) (HS x2 s2 []) := e2
  have e3 := l53_eq hc hn x2 s2 z0 (some (.hd 1)) z2 a4 a5 a6 a7 a8 z9 z10 z11
  have e4 := l54_eq hc hn (ρ := [z0, some (.hd 1), z2, some (.lst cs), a4, a5, a6, a7, a8, some (.str (textD cs)), z10, z11]) rfl rfl (HSok x2 s2)
  have e5 := l55_eq C hc hne hn (ρ := [z0, some (.hd 1), z2, some (.lst cs), a4, a5, a6, a7, a8, some (.str (textD cs)), z10, z11]) rfl rfl (HSok x2 s2)
  obtain ⟨b10, x3, s3, e6, h3⟩ := law4 C hc hne hn h2 s2 z0 z2 a4 a5 (some (.int 0)) a7 a8 (some (.str (textD cs))) z10 z11
  obtain ⟨c10, x4, s4, e7, h4⟩ := law4 C hc hne hn h3 s3 z0 z2 a4 a5 (some (.int 1)) a7 a8 (some (.str (textD cs))) b10 z11
  obtain ⟨d10, x5, s5, e8, h5⟩ := law4 C hc hne hn h4 s4 z0 z2 a4 a5 (some (.int 2)) a7 a8 (some (.str (textD cs))) c10 z11
  have e9 : l56 C [z0, some (.hd 1), z2, some (.lst cs), a4, a5, a6, a7, a8, some (.str (textD cs)), z10, z11] (HS x2 s2 []) = .ok (.nx, [z0, some (.hd 1), z2, some (.lst cs), a4, a5, some (.int 2), a7, a8, some (.str (textD cs)), d10, z11]) (HS x5 s5 []) := by
    have r : l56 C [z0, some (.hd 1), z2, some (.lst cs), a4, a5, a6, a7, a8, some (.str (textD cs)), z10, z11] (HS x2 s2 []) = forGo (gN 6) (B_law_4 C) [.int 0, .int 1, .int 2] [z0, some (.hd 1), z2, some (.lst cs), a4, a5, a6, a7, a8, some (.str (textD cs)), z10, z11] (HS x2 s2 []) := rfl
    rw [r, forGo_nx (ρ1 := [z0, some (.hd 1), z2, some (.lst cs), a4, a5, some (.int 0), a7, a8, some (.str (textD cs)), z10, z11]) rfl e6, forGo_nx (ρ1 := [z0, some (.hd 1), z2, some (.lst cs), a4, a5, some (.int 1), a7, a8, some (.str (textD cs)), b10, z11]) rfl e7, forGo_nx (ρ1 := [z0, some (.hd 1), z2, some (.lst cs), a4, a5, some (.int 2), a7, a8, some (.str (textD cs)), c10, z11]) rfl e8]
    rfl
  obtain ⟨x6, s6, e10, h6⟩ := l57_eq C h5 s5 (ρ := [z0, some (.hd 1), z2, some (.lst cs), a4, a5, some (.int 2), a7, a8, some (.str (textD cs)), d10, z11]) rfl
  refine ⟨some (.lst cs), a4, a5, some (.int 2), a7, a8, some (.str (textD cs)), d10, x6, s6, ?_, h6⟩
  rw [law5_body, sSeq_nx e1, sSeq_nx e2', sSeq_nx e3, sSeq_nx e4, sSeq_nx e5, sSeq_nx e9]
  exact e10
theorem law5_loop (C : Addr) (z0 : Option D) : ∀ (ts : List D) (xs : List Int) (st : Int) (z2 z3 z4 z5 z6 z7 z8 z9 z10 z11 : Option D), HO xs →
    ∃ y2 y3 y4 y5 y6 y7 y8 y9 y10 y11 ys st', forGo (gN 2) (B_law_5 C) ts [z0, some (.hd 1), z2, z3, z4, z5, z6, z7, z8, z9, z10, z11] (HS xs st []) = .ok (.nx, [z0, some (.hd 1), y2, y3, y4, y5, y6, y7, y8, y9, y10, y11]) (HS ys st' []) ∧ HO ys
  | [], xs, st, z2, z3, z4, z5, z6, z7, z8, z9, z10, z11, h => ⟨z2, z3, z4, z5, z6, z7, z8, z9, z10, z11, xs, st, rfl, h⟩
  | t :: ts, xs, st, z2, z3, z4, z5, z6, z7, z8, z9, z10, z11, h => by
    obtain ⟨a3, a4, a5, a6, a7, a8, a9, a10, x1, s1, e1, h1⟩ := law5 C h st z0 (some t) z3 z4 z5 z6 z7 z8 z9 z10 z11
    obtain ⟨b2, b3, b4, b5, b6, b7, b8, b9, b10, b11, x2, s2, e2, h2⟩ := law5_loop C z0 ts x1 s1 (some t) a3 a4 a5 a6 a7 a8 a9 a10 z11 h1
    refine ⟨b2, b3, b4, b5, b6, b7, b8, b9, b10, b11, x2, s2, ?_, h2⟩
    rw [forGo_nx (ρ1 := [z0, some (.hd 1), some t, z3, z4, z5, z6, z7, z8, z9, z10, z11]) rfl e1]
    exact e2
def texts1 : List Str := ["",
  " \n", "now",
  "now\n\nnows",
  "wish 0", "wish 0 a",
  "hold on", "rule 0 rise 0 a 1",
  "rule 0 rise a 00 1",
  "come 40",
  "\nease 1 30", "Now"]
def texts2 : List Str := ["come +1", "quantity a 1_0", "state a_b", "come 1.0", "quantity a 0x1", "quantity a --1", "quantity a -"]
theorem text_short {t : Str} (h : PyData.strOk t = true) (hl : t.length ≤ 2500) : TextOk t := by
  refine ⟨h, by omega, fun p hp => ?_⟩
  have h4 := sum_mem (fun w : Str => w.length + 1) (show p ∈ Txt.split t ⟨#[10]⟩ from hp)
  rw [cut_len] at h4
  omega
theorem texts_ok : ∀ t ∈ texts1 ++ texts2, TextOk t := fun t ht => by
  have : ∀ t ∈ texts1 ++ texts2, PyData.strOk t = true ∧ t.length ≤ 2500 := by decide +kernel
  exact text_short (this t ht).1 (this t ht).2
theorem law6_loop (C : Addr) (z0 z1 z2 z3 z4 z5 z6 z7 z8 z9 z11 : Option D) {S : Store} (hS : okS S) : ∀ (ts : List Str) (z10 : Option D), (∀ t ∈ ts, TextOk t) →
    ∃ y10, forGo (gN 10) (B_law_6 C) (ts.map .str) [z0, z1, z2, z3, z4, z5, z6, z7, z8, z9, z10, z11] S = .ok (.nx, [z0, z1, z2, z3, z4, z5, z6, z7, z8, z9, y10, z11]) S
  | [], z10, _ => ⟨z10, rfl⟩
  | t :: ts, z10, h => by
    obtain ⟨y10, e⟩ := law6_loop C z0 z1 z2 z3 z4 z5 z6 z7 z8 z9 z11 hS ts (some (.str t)) fun u hu => h u (List.mem_cons_of_mem _ hu)
    have b : B_law_6 C [z0, z1, z2, z3, z4, z5, z6, z7, z8, z9, some (.str t), z11] S = .ok (.nx, [z0, z1, z2, z3, z4, z5, z6, z7, z8, z9, some (.str t), z11]) S := (sIf_no (both_eq C (h t List.mem_cons_self) rfl hS)).trans rfl
    refine ⟨y10, ?_⟩
    rw [List.map_cons, forGo_nx (ρ1 := [z0, z1, z2, z3, z4, z5, z6, z7, z8, z9, some (.str t), z11]) rfl b]
    exact e
def cEnd : D := .tup [.str "wish", .int 0, .tup [.tup [.str "a", .int 1], .tup [.str "a", .int (-2)]]]
theorem cEnd_cmd : Cmd cEnd := by
  refine ⟨by decide +kernel, by decide +kernel, by decide +kernel, by decide +kernel, "wish", [.int 0, .tup [.tup [.str "a", .int 1], .tup [.str "a", .int (-2)]]], rfl, by decide, fun p hp qs e => ?_⟩
  simp only [List.mem_cons, List.not_mem_nil, or_false] at hp
  rcases hp with rfl | rfl
  · cases e
  · cases e; decide
theorem cEnd_text : textD [cEnd] = "wish 0 a 1 a -2" := by decide +kernel
abbrev l0it : AF := iR1 (aC (DL.e2 addF (DL.e2 addF (eC (.int 1)) (eL intF (aC (DL.e2 gtF (eL lenF (aC (eV 0) aN)) (eC (.int 0))) aN))) (eL intF (aC (DL.e2 gtF (eL lenF (aC (eV 0) aN)) (eC (.int 1))) aN))) aN)
theorem l0it_eq {ds : List D} {ρ : Rho} (h : ρ[0]? = some (some (.rol ds))) (S : Store) : ∃ ts, l0it ρ S = .ok ts S := by
  have ln : eL lenF (aC (eV 0) aN) ρ S = .ok (.int (ds.length : Int)) S := (eL1 (eV_ok h S)).trans rfl
  have g : ∀ k : Int, eL intF (aC (DL.e2 gtF (eL lenF (aC (eV 0) aN)) (eC (.int k))) aN) ρ S = .ok (.int (if decide (k < (ds.length : Int)) = true then 1 else 0)) S := fun k => (eL1 ((e2_ok ln rfl).trans rfl)).trans rfl
  have s : DL.e2 addF (DL.e2 addF (eC (.int 1)) (eL intF (aC (DL.e2 gtF (eL lenF (aC (eV 0) aN)) (eC (.int 0))) aN))) (eL intF (aC (DL.e2 gtF (eL lenF (aC (eV 0) aN)) (eC (.int 1))) aN)) ρ S = .ok (.int (1 + (if decide ((0 : Int) < (ds.length : Int)) = true then 1 else 0) + (if decide ((1 : Int) < (ds.length : Int)) = true then 1 else 0))) S := (e2_ok ((e2_ok rfl (g 0)).trans rfl) (g 1)).trans rfl
  obtain ⟨n, hn, e⟩ : ∃ n : Nat, n ≤ 3 ∧ (1 + (if decide ((0 : Int) < (ds.length : Int)) = true then 1 else 0) + (if decide ((1 : Int) < (ds.length : Int)) = true then 1 else 0) : Int) = (n : Int) := by
    refine ⟨1 + (if decide ((0 : Int) < (ds.length : Int)) = true then 1 else 0) + (if decide ((1 : Int) < (ds.length : Int)) = true then 1 else 0), ?_, ?_⟩
    · split <;> split <;> decide
    · split <;> split <;> rfl
  rw [e] at s
  refine ⟨_, iR1_n (n := n) ?_ (by omega)⟩
  generalize DL.e2 addF (DL.e2 addF (eC (.int 1)) (eL intF (aC (DL.e2 gtF (eL lenF (aC (eV 0) aN)) (eC (.int 0))) aN))) (eL intF (aC (DL.e2 gtF (eL lenF (aC (eV 0) aN)) (eC (.int 1))) aN)) = q at s
  simp only [aC, aN, R.bind, s]
theorem plain (C : Addr) (ns : List Int) (hl : ns.length ≤ 63) : ∃ S', F_law C [.rol (ns.map D.int)] [] = .ok (.bl true) S' := by
  obtain ⟨xs, st, e0, hn, hx⟩ := heap_eq ns
  have h0 : HO xs := ⟨hn, hx⟩
  generalize hds : D.rol (ns.map D.int) = sc at e0
  have f1 : sAsg (eCall F__law_heap 1 (aC (eV 0) aN)) (gN 1) [some sc, none, none, none, none, none, none, none, none, none, none, none] [] = .ok (.nx, [some sc, some (.hd 1), none, none, none, none, none, none, none, none, none, none]) (HS xs st []) := sAsg_ok ((eCall1 (v := sc) rfl).trans e0)
  obtain ⟨ts, e1⟩ := l0it_eq (ds := ns.map D.int) (ρ := [some sc, some (.hd 1), none, none, none, none, none, none, none, none, none, none]) (by rw [hds]; rfl) (HS xs st [])
  obtain ⟨a2, a3, a4, a5, a6, a7, a8, a9, a10, a11, x1, s1, e2, h1⟩ := law5_loop C (some sc) ts xs st none none none none none none none none none none h0
  have f2 : sFor l0it (gN 2) (B_law_5 C) [some sc, some (.hd 1), none, none, none, none, none, none, none, none, none, none] (HS xs st []) = .ok (.nx, [some sc, some (.hd 1), a2, a3, a4, a5, a6, a7, a8, a9, a10, a11]) (HS x1 s1 []) := by
    unfold sFor
    rw [e1]
    exact e2
  have f3 : sAsg (eLst (aC (eC (.str "")) (aC (eC (.str " \n")) (aC (eC (.str "now")) (aC (eC (.str "now\n\nnows")) (aC (eC (.str "wish 0")) (aC (eC (.str "wish 0 a")) (aC (eC (.str "hold on")) (aC (eC (.str "rule 0 rise 0 a 1")) (aC (eC (.str "rule 0 rise a 00 1")) (aC (eC (.str "come 40")) (aC (eC (.str "\nease 1 30")) (aC (eC (.str "Now")) aN))))))))))))) (gN 11) [some sc, some (.hd 1), a2, a3, a4, a5, a6, a7, a8, a9, a10, a11] (HS x1 s1 []) = .ok (.nx, [some sc, some (.hd 1), a2, a3, a4, a5, a6, a7, a8, a9, a10, some (.lst (texts1.map .str))]) (HS x1 s1 []) := rfl
  have f4 : sAsg (DL.e2 addF (eV 11) (eLst (aC (eC (.str "come +1")) (aC (eC (.str "quantity a 1_0")) (aC (eC (.str "state a_b")) (aC (eC (.str "come 1.0")) (aC (eC (.str "quantity a 0x1")) (aC (eC (.str "quantity a --1")) (aC (eC (.str "quantity a -")) aN))))))))) (gN 11) [some sc, some (.hd 1), a2, a3, a4, a5, a6, a7, a8, a9, a10, some (.lst (texts1.map .str))] (HS x1 s1 []) = .ok (.nx, [some sc, some (.hd 1), a2, a3, a4, a5, a6, a7, a8, a9, a10, some (.lst ((texts1 ++ texts2).map .str))]) (HS x1 s1 []) :=
    sAsg_ok ((e2_ok (v := .lst (texts1.map .str)) (u := .lst (texts2.map .str)) rfl rfl).trans ((addF_lst (by decide) _).trans (by rw [List.map_append])))
  obtain ⟨b10, e5⟩ := law6_loop C (some sc) (some (.hd 1)) a2 a3 a4 a5 a6 a7 a8 a9 (some (.lst ((texts1 ++ texts2).map .str))) (HSok x1 s1) (texts1 ++ texts2) a10 texts_ok
  have f5 : sFor (iL (eV 11)) (gN 10) (B_law_6 C) [some sc, some (.hd 1), a2, a3, a4, a5, a6, a7, a8, a9, a10, some (.lst ((texts1 ++ texts2).map .str))] (HS x1 s1 []) = .ok (.nx, [some sc, some (.hd 1), a2, a3, a4, a5, a6, a7, a8, a9, b10, some (.lst ((texts1 ++ texts2).map .str))]) (HS x1 s1 []) := e5
  generalize hr : [some sc, some (D.hd 1), a2, a3, a4, a5, a6, a7, a8, a9, b10, some (.lst ((texts1 ++ texts2).map .str))] = ρ at f5
  have g1 : DL.e2 (eqF false) (eCall F_show_commands 1 (aC (eTup aN) aN)) (eC (.str "")) ρ (HS x1 s1 []) = .ok (.bl true) (HS x1 s1 []) :=
    (e2_ok ((eCallE (v := .tup []) rfl).trans (show_commands_eq (cs := []) (fun c hc => by cases hc) (by decide) (HSok x1 s1))) rfl).trans (eqF_self (d := .str "") (by decide +kernel) rfl (by simp [dp]) false _)
  have cm : ∀ c ∈ [cEnd], Cmd c := fun c hc => by rw [List.mem_singleton.mp hc]; exact cEnd_cmd
  obtain ⟨ok, w, k, ne⟩ := cmds_rp cm (by decide)
  have rb := read_back C cm (by simp) (by decide) (HSok x1 s1)
  rw [cEnd_text] at rb
  have g2 : DL.e2 (eqF false) (eCall (F_read_commands C) 1 (aC (eC (.str "wish 0 a 1 a -2")) aN)) (eTup (aC (eTup (aC (eC (.str "wish")) (aC (eC (.int 0)) (aC (eTup (aC (eTup (aC (eC (.str "a")) (aC (eC (.int 1)) aN))) (aC (eTup (aC (eC (.str "a")) (aC (DL.e2 subF (eC (.int 0)) (eC (.int 2))) aN))) aN))) aN)))) aN)) ρ (HS x1 s1 []) = .ok (.bl true) (HS x1 s1 []) :=
    (e2_ok ((eCallE (v := .str "wish 0 a 1 a -2") rfl).trans rb) (u := .tup [cEnd]) rfl).trans (eqF_self ok ne k false _)
  have f6 : sRet (eAnd (DL.e2 (eqF false) (eCall F_show_commands 1 (aC (eTup aN) aN)) (eC (.str ""))) (DL.e2 (eqF false) (eCall (F_read_commands C) 1 (aC (eC (.str "wish 0 a 1 a -2")) aN)) (eTup (aC (eTup (aC (eC (.str "wish")) (aC (eC (.int 0)) (aC (eTup (aC (eTup (aC (eC (.str "a")) (aC (eC (.int 1)) aN))) (aC (eTup (aC (eC (.str "a")) (aC (DL.e2 subF (eC (.int 0)) (eC (.int 2))) aN))) aN))) aN)))) aN)))) ρ (HS x1 s1 []) = .ok (.rt (.bl true), ρ) (HS x1 s1 []) := by
    generalize DL.e2 (eqF false) (eCall F_show_commands 1 (aC (eTup aN) aN)) (eC (.str "")) = q1 at g1
    generalize DL.e2 (eqF false) (eCall (F_read_commands C) 1 (aC (eC (.str "wish 0 a 1 a -2")) aN)) (eTup (aC (eTup (aC (eC (.str "wish")) (aC (eC (.int 0)) (aC (eTup (aC (eTup (aC (eC (.str "a")) (aC (eC (.int 1)) aN))) (aC (eTup (aC (eC (.str "a")) (aC (DL.e2 subF (eC (.int 0)) (eC (.int 2))) aN))) aN))) aN)))) aN)) = q2 at g2
    simp only [sRet, eAnd, asB, R.bind, g1, g2, if_true]
  refine ⟨HS x1 s1 [], ?_⟩
  unfold F_law
  simp only [fnF0, fnF, List.map_cons, List.map_nil, List.length_cons, List.length_nil, Nat.reduceAdd, Nat.reduceSub, List.replicate, List.cons_append, List.nil_append]
  rw [sSeq_nx f1, sSeq_nx f2, sSeq_nx f3, sSeq_nx f4, sSeq_nx f5, f6]
end P64
end
section
set_option maxRecDepth 100000
set_option maxHeartbeats 4000000
set_option autoImplicit false
set_option linter.all false

namespace P64
open PySem L2 DL
open PySem.W (mg_of mg_none_of fnOf)
def s_init : Stmt := match top 2 with
  | .ClassDef _ _ _ body _ _ _ _ _ _ _ => body.getD 0 (.Pass ⟨0, 0, 0, 0⟩)
  | s => s
abbrev prg := PySem.Challenge.pw_heldalways_k64_whole_commands_there_and
theorem knows_mk {P : Program} {w : World} {K : PySem.W.Frag} {mg : Str → Option Value} {base : Heap} {CX : CXT} {x : Str} {st : Stmt} {f : Addr} {fd : FuncData} {k : Nat} {ps : List Str} {F : FF} (U : Fun K x x st f fd) (hm : mg x = some (.ref f))
    (hb : ∀ (kV doc pm : Value) (an : Option Addr) (cdv ct : Value) (us : List Value), us.length = ps.length → bindArgs (fnOf x x (defArgs st) (defBody st) (defScope st) .none kV doc pm an cdv ct) ⟨us, []⟩ = pure (ps.zip us))
    (hk : ∀ (kV doc pm : Value) (an : Option Addr) (cdv ct : Value) (us : List Value), us.length = ps.length → bindArgs (fnOf x x (defArgs st) (defBody st) (defScope st) .none kV doc pm an cdv ct) ⟨[], ps.zip us⟩ = pure (ps.zip us))
    (h : FnM P w K mg base CX k f fd ps F) : Knows P w K mg base CX k x ps F := by
  have bnd := U.binds hb
  obtain ⟨oc, od, kV, doc, pm, an, cdv, ct, osl, rfl, lk, hcd⟩ := U.ex
  exact ⟨f, _, hm, U.kp, bnd, fun s ws _ hl => .of_eq (hk kV doc pm an cdv ct ws hl), h⟩
theorem exc_mk {K : PySem.W.Frag} {mg : Str → Option Value} {C fI : Addr} (ext : ExcTxt K mg (prg.main.file : Str) s_init "InvalidText.__init__" C fI) (oex : OexC K C) (noL : PySem.W.findIn K (.ref C) "line" = some none) (noA : PySem.W.findIn K (.ref C) "at" = some none) (gC : mg "InvalidText" = some (.ref C)) : Exc2 prg K mg C "InvalidText" "line" "at" :=
  ⟨⟨fI, ext.iC, ext.tI, fun w A mb va vb e t0 h g d t os R h1 h2 h3 h4 h5 h6 h7 h8 h9 =>
      init2_ok ext h1 h2 h3 h4 h5 rfl rfl (fun _ _ _ _ _ _ _ _ _ _ => rfl) (by decide +kernel) (by decide +kernel) ⟨rfl, rfl, rfl, by decide +kernel⟩ ⟨rfl, rfl, rfl, rfl, rfl⟩ (by decide) noL noA (fun _ _ _ _ => ⟨_, rfl⟩) h6 h7 h8 h9⟩, oex, by decide, gC⟩
theorem all_mk {w : World} {K : PySem.W.Frag} {h : Heap} {mg : Str → Option Value} {fa C B fI cda cc f0 f1 f2 f3 f4 f5 f6 f7 f8 f9 f10 f11 f12 f13 f14 f15 f16 f17 f18 f19 f20 f21 f22 f23 f24 f25 f26 f27 f28 f29 f30 f31 f32 d_KINDS d_PARTS : Addr} {oc0 kV0 dc0 pm0 cd0 ct0 oc1 kV1 dc1 pm1 cd1 ct1 oc2 kV2 dc2 pm2 cd2 ct2 oc3 kV3 dc3 pm3 cd3 ct3 oc4 kV4 dc4 pm4 cd4 ct4 oc5 kV5 dc5 pm5 cd5 ct5 oc6 kV6 dc6 pm6 cd6 ct6 oc7 kV7 dc7 pm7 cd7 ct7 oc8 kV8 dc8 pm8 cd8 ct8 oc9 kV9 dc9 pm9 cd9 ct9 oc10 kV10 dc10 pm10 cd10 ct10 oc11 kV11 dc11 pm11 cd11 ct11 oc12 kV12 dc12 pm12 cd12 ct12 oc13 kV13 dc13 pm13 cd13 ct13 oc14 kV14 dc14 pm14 cd14 ct14 oc15 kV15 dc15 pm15 cd15 ct15 oc16 kV16 dc16 pm16 cd16 ct16 oc17 kV17 dc17 pm17 cd17 ct17 oc18 kV18 dc18 pm18 cd18 ct18 oc19 kV19 dc19 pm19 cd19 ct19 oc20 kV20 dc20 pm20 cd20 ct20 oc21 kV21 dc21 pm21 cd21 ct21 oc22 kV22 dc22 pm22 cd22 ct22 oc23 kV23 dc23 pm23 cd23 ct23 oc24 kV24 dc24 pm24 cd24 ct24 oc25 kV25 dc25 pm25 cd25 ct25 oc26 kV26 dc26 pm26 cd26 ct26 oc27 kV27 dc27 pm27 cd27 ct27 oc28 kV28 dc28 pm28 cd28 ct28 oc29 kV29 dc29 pm29 cd29 ct29 oc30 kV30 dc30 pm30 cd30 ct30 oc31 kV31 dc31 pm31 cd31 ct31 oc32 kV32 dc32 pm32 cd32 ct32 ocI kVI dcI pmI ctI ccl cl : Value} {od0 an0 od1 an1 od2 an2 od3 an3 od4 an4 od5 an5 od6 an6 od7 an7 od8 an8 od9 an9 od10 an10 od11 an11 od12 an12 od13 an13 od14 an14 od15 an15 od16 an16 od17 an17 od18 an18 od19 an19 od20 an20 od21 an21 od22 an22 od23 an23 od24 an24 od25 an25 od26 an26 od27 an27 od28 an28 od29 an29 od30 an30 od31 an31 od32 an32 odI anI cdd cld dd dd_ : Option Addr} {sl0 sl1 sl2 sl3 sl4 sl5 sl6 sl7 sl8 sl9 sl10 sl11 sl12 sl13 sl14 sl15 sl16 sl17 sl18 sl19 sl20 sl21 sl22 sl23 sl24 sl25 sl26 sl27 sl28 sl29 sl30 sl31 sl32 slI ccs csl : Array (Option Value)}
    {t_LETTERS_ t_LONGEST_NAME_ t_MOST_MOVES_ t_MOST_RULES_ t_KINDS_0 t_KINDS_1 t_KINDS_2 t_DIGITS_ t_MOST_TOLD_WEIGHT_ t_MOST_TOLD_VALUE_ tfI : Tok} {n_KINDS : Nat} {n_PARTS : Nat} {es_PARTS : Array DictEntry} {vsI : Array Value} {nm q nm_ q_ : Str} {N N_ : Addr} {bs bs_ : List Value} {sn sn_ : List Str} {sub sub_ : List Value} {ab ab_ : Bool} {col col_ : Option Bool} {m0 m1 m2 m3 m5 m0_ m1_ m2_ m3_ m5_ : Option Value}
    (X : K.In h) (G : h.Ns mainGlobals mg) (hfa : mg "law" = some (.ref fa))
    (a0 : PySem.W.nsIn K mainGlobals "is_integer" = some (some (.ref f0)))
    (l0 : K.lookup f0 = some ⟨oc0, od0, .func (PySem.W.fnOf "is_integer" "is_integer" (defArgs s_is_integer) (defBody s_is_integer) (defScope s_is_integer) .none kV0 dc0 pm0 an0 cd0 ct0), sl0⟩)
    (c0 : PySem.W.codeIn K cd0 "is_integer" = true)
    (k0 : PySem.W.keepIn K (.ref f0) = true)
    (a1 : PySem.W.nsIn K mainGlobals "is_number" = some (some (.ref f1)))
    (l1 : K.lookup f1 = some ⟨oc1, od1, .func (PySem.W.fnOf "is_number" "is_number" (defArgs s_is_number) (defBody s_is_number) (defScope s_is_number) .none kV1 dc1 pm1 an1 cd1 ct1), sl1⟩)
    (c1 : PySem.W.codeIn K cd1 "is_number" = true)
    (k1 : PySem.W.keepIn K (.ref f1) = true)
    (a2 : PySem.W.nsIn K mainGlobals "is_name" = some (some (.ref f2)))
    (l2 : K.lookup f2 = some ⟨oc2, od2, .func (PySem.W.fnOf "is_name" "is_name" (defArgs s_is_name) (defBody s_is_name) (defScope s_is_name) .none kV2 dc2 pm2 an2 cd2 ct2), sl2⟩)
    (c2 : PySem.W.codeIn K cd2 "is_name" = true)
    (k2 : PySem.W.keepIn K (.ref f2) = true)
    (a3 : PySem.W.nsIn K mainGlobals "is_told_value" = some (some (.ref f3)))
    (l3 : K.lookup f3 = some ⟨oc3, od3, .func (PySem.W.fnOf "is_told_value" "is_told_value" (defArgs s_is_told_value) (defBody s_is_told_value) (defScope s_is_told_value) .none kV3 dc3 pm3 an3 cd3 ct3), sl3⟩)
    (c3 : PySem.W.codeIn K cd3 "is_told_value" = true)
    (k3 : PySem.W.keepIn K (.ref f3) = true)
    (a4 : PySem.W.nsIn K mainGlobals "are_pairs" = some (some (.ref f4)))
    (l4 : K.lookup f4 = some ⟨oc4, od4, .func (PySem.W.fnOf "are_pairs" "are_pairs" (defArgs s_are_pairs) (defBody s_are_pairs) (defScope s_are_pairs) .none kV4 dc4 pm4 an4 cd4 ct4), sl4⟩)
    (c4 : PySem.W.codeIn K cd4 "are_pairs" = true)
    (k4 : PySem.W.keepIn K (.ref f4) = true)
    (a5 : PySem.W.nsIn K mainGlobals "is_part" = some (some (.ref f5)))
    (l5 : K.lookup f5 = some ⟨oc5, od5, .func (PySem.W.fnOf "is_part" "is_part" (defArgs s_is_part) (defBody s_is_part) (defScope s_is_part) .none kV5 dc5 pm5 an5 cd5 ct5), sl5⟩)
    (c5 : PySem.W.codeIn K cd5 "is_part" = true)
    (k5 : PySem.W.keepIn K (.ref f5) = true)
    (a6 : PySem.W.nsIn K mainGlobals "is_command" = some (some (.ref f6)))
    (l6 : K.lookup f6 = some ⟨oc6, od6, .func (PySem.W.fnOf "is_command" "is_command" (defArgs s_is_command) (defBody s_is_command) (defScope s_is_command) .none kV6 dc6 pm6 an6 cd6 ct6), sl6⟩)
    (c6 : PySem.W.codeIn K cd6 "is_command" = true)
    (k6 : PySem.W.keepIn K (.ref f6) = true)
    (a7 : PySem.W.nsIn K mainGlobals "integer_told" = some (some (.ref f7)))
    (l7 : K.lookup f7 = some ⟨oc7, od7, .func (PySem.W.fnOf "integer_told" "integer_told" (defArgs s_integer_told) (defBody s_integer_told) (defScope s_integer_told) .none kV7 dc7 pm7 an7 cd7 ct7), sl7⟩)
    (c7 : PySem.W.codeIn K cd7 "integer_told" = true)
    (k7 : PySem.W.keepIn K (.ref f7) = true)
    (a8 : PySem.W.nsIn K mainGlobals "pairs_told" = some (some (.ref f8)))
    (l8 : K.lookup f8 = some ⟨oc8, od8, .func (PySem.W.fnOf "pairs_told" "pairs_told" (defArgs s_pairs_told) (defBody s_pairs_told) (defScope s_pairs_told) .none kV8 dc8 pm8 an8 cd8 ct8), sl8⟩)
    (c8 : PySem.W.codeIn K cd8 "pairs_told" = true)
    (k8 : PySem.W.keepIn K (.ref f8) = true)
    (a9 : PySem.W.nsIn K mainGlobals "command_told" = some (some (.ref f9)))
    (l9 : K.lookup f9 = some ⟨oc9, od9, .func (PySem.W.fnOf "command_told" "command_told" (defArgs s_command_told) (defBody s_command_told) (defScope s_command_told) .none kV9 dc9 pm9 an9 cd9 ct9), sl9⟩)
    (c9 : PySem.W.codeIn K cd9 "command_told" = true)
    (k9 : PySem.W.keepIn K (.ref f9) = true)
    (a10 : PySem.W.nsIn K mainGlobals "parts_told" = some (some (.ref f10)))
    (l10 : K.lookup f10 = some ⟨oc10, od10, .func (PySem.W.fnOf "parts_told" "parts_told" (defArgs s_parts_told) (defBody s_parts_told) (defScope s_parts_told) .none kV10 dc10 pm10 an10 cd10 ct10), sl10⟩)
    (c10 : PySem.W.codeIn K cd10 "parts_told" = true)
    (k10 : PySem.W.keepIn K (.ref f10) = true)
    (a11 : PySem.W.nsIn K mainGlobals "read_commands" = some (some (.ref f11)))
    (l11 : K.lookup f11 = some ⟨oc11, od11, .func (PySem.W.fnOf "read_commands" "read_commands" (defArgs s_read_commands) (defBody s_read_commands) (defScope s_read_commands) .none kV11 dc11 pm11 an11 cd11 ct11), sl11⟩)
    (c11 : PySem.W.codeIn K cd11 "read_commands" = true)
    (k11 : PySem.W.keepIn K (.ref f11) = true)
    (a12 : PySem.W.nsIn K mainGlobals "show_command" = some (some (.ref f12)))
    (l12 : K.lookup f12 = some ⟨oc12, od12, .func (PySem.W.fnOf "show_command" "show_command" (defArgs s_show_command) (defBody s_show_command) (defScope s_show_command) .none kV12 dc12 pm12 an12 cd12 ct12), sl12⟩)
    (c12 : PySem.W.codeIn K cd12 "show_command" = true)
    (k12 : PySem.W.keepIn K (.ref f12) = true)
    (a13 : PySem.W.nsIn K mainGlobals "show_commands" = some (some (.ref f13)))
    (l13 : K.lookup f13 = some ⟨oc13, od13, .func (PySem.W.fnOf "show_commands" "show_commands" (defArgs s_show_commands) (defBody s_show_commands) (defScope s_show_commands) .none kV13 dc13 pm13 an13 cd13 ct13), sl13⟩)
    (c13 : PySem.W.codeIn K cd13 "show_commands" = true)
    (k13 : PySem.W.keepIn K (.ref f13) = true)
    (a14 : PySem.W.nsIn K mainGlobals "_law_heap" = some (some (.ref f14)))
    (l14 : K.lookup f14 = some ⟨oc14, od14, .func (PySem.W.fnOf "_law_heap" "_law_heap" (defArgs s__law_heap) (defBody s__law_heap) (defScope s__law_heap) .none kV14 dc14 pm14 an14 cd14 ct14), sl14⟩)
    (c14 : PySem.W.codeIn K cd14 "_law_heap" = true)
    (k14 : PySem.W.keepIn K (.ref f14) = true)
    (a15 : PySem.W.nsIn K mainGlobals "_law_draw" = some (some (.ref f15)))
    (l15 : K.lookup f15 = some ⟨oc15, od15, .func (PySem.W.fnOf "_law_draw" "_law_draw" (defArgs s__law_draw) (defBody s__law_draw) (defScope s__law_draw) .none kV15 dc15 pm15 an15 cd15 ct15), sl15⟩)
    (c15 : PySem.W.codeIn K cd15 "_law_draw" = true)
    (k15 : PySem.W.keepIn K (.ref f15) = true)
    (a16 : PySem.W.nsIn K mainGlobals "_law_pick" = some (some (.ref f16)))
    (l16 : K.lookup f16 = some ⟨oc16, od16, .func (PySem.W.fnOf "_law_pick" "_law_pick" (defArgs s__law_pick) (defBody s__law_pick) (defScope s__law_pick) .none kV16 dc16 pm16 an16 cd16 ct16), sl16⟩)
    (c16 : PySem.W.codeIn K cd16 "_law_pick" = true)
    (k16 : PySem.W.keepIn K (.ref f16) = true)
    (a17 : PySem.W.nsIn K mainGlobals "_law_command" = some (some (.ref f17)))
    (l17 : K.lookup f17 = some ⟨oc17, od17, .func (PySem.W.fnOf "_law_command" "_law_command" (defArgs s__law_command) (defBody s__law_command) (defScope s__law_command) .none kV17 dc17 pm17 an17 cd17 ct17), sl17⟩)
    (c17 : PySem.W.codeIn K cd17 "_law_command" = true)
    (k17 : PySem.W.keepIn K (.ref f17) = true)
    (a18 : PySem.W.nsIn K mainGlobals "_law_is_name" = some (some (.ref f18)))
    (l18 : K.lookup f18 = some ⟨oc18, od18, .func (PySem.W.fnOf "_law_is_name" "_law_is_name" (defArgs s__law_is_name) (defBody s__law_is_name) (defScope s__law_is_name) .none kV18 dc18 pm18 an18 cd18 ct18), sl18⟩)
    (c18 : PySem.W.codeIn K cd18 "_law_is_name" = true)
    (k18 : PySem.W.keepIn K (.ref f18) = true)
    (a19 : PySem.W.nsIn K mainGlobals "_law_is_whole" = some (some (.ref f19)))
    (l19 : K.lookup f19 = some ⟨oc19, od19, .func (PySem.W.fnOf "_law_is_whole" "_law_is_whole" (defArgs s__law_is_whole) (defBody s__law_is_whole) (defScope s__law_is_whole) .none kV19 dc19 pm19 an19 cd19 ct19), sl19⟩)
    (c19 : PySem.W.codeIn K cd19 "_law_is_whole" = true)
    (k19 : PySem.W.keepIn K (.ref f19) = true)
    (a20 : PySem.W.nsIn K mainGlobals "_law_are_pairs" = some (some (.ref f20)))
    (l20 : K.lookup f20 = some ⟨oc20, od20, .func (PySem.W.fnOf "_law_are_pairs" "_law_are_pairs" (defArgs s__law_are_pairs) (defBody s__law_are_pairs) (defScope s__law_are_pairs) .none kV20 dc20 pm20 an20 cd20 ct20), sl20⟩)
    (c20 : PySem.W.codeIn K cd20 "_law_are_pairs" = true)
    (k20 : PySem.W.keepIn K (.ref f20) = true)
    (a21 : PySem.W.nsIn K mainGlobals "_law_fits" = some (some (.ref f21)))
    (l21 : K.lookup f21 = some ⟨oc21, od21, .func (PySem.W.fnOf "_law_fits" "_law_fits" (defArgs s__law_fits) (defBody s__law_fits) (defScope s__law_fits) .none kV21 dc21 pm21 an21 cd21 ct21), sl21⟩)
    (c21 : PySem.W.codeIn K cd21 "_law_fits" = true)
    (k21 : PySem.W.keepIn K (.ref f21) = true)
    (a22 : PySem.W.nsIn K mainGlobals "_law_kinds" = some (some (.ref f22)))
    (l22 : K.lookup f22 = some ⟨oc22, od22, .func (PySem.W.fnOf "_law_kinds" "_law_kinds" (defArgs s__law_kinds) (defBody s__law_kinds) (defScope s__law_kinds) .none kV22 dc22 pm22 an22 cd22 ct22), sl22⟩)
    (c22 : PySem.W.codeIn K cd22 "_law_kinds" = true)
    (k22 : PySem.W.keepIn K (.ref f22) = true)
    (a23 : PySem.W.nsIn K mainGlobals "_law_is_command" = some (some (.ref f23)))
    (l23 : K.lookup f23 = some ⟨oc23, od23, .func (PySem.W.fnOf "_law_is_command" "_law_is_command" (defArgs s__law_is_command) (defBody s__law_is_command) (defScope s__law_is_command) .none kV23 dc23 pm23 an23 cd23 ct23), sl23⟩)
    (c23 : PySem.W.codeIn K cd23 "_law_is_command" = true)
    (k23 : PySem.W.keepIn K (.ref f23) = true)
    (a24 : PySem.W.nsIn K mainGlobals "_law_other" = some (some (.ref f24)))
    (l24 : K.lookup f24 = some ⟨oc24, od24, .func (PySem.W.fnOf "_law_other" "_law_other" (defArgs s__law_other) (defBody s__law_other) (defScope s__law_other) .none kV24 dc24 pm24 an24 cd24 ct24), sl24⟩)
    (c24 : PySem.W.codeIn K cd24 "_law_other" = true)
    (k24 : PySem.W.keepIn K (.ref f24) = true)
    (a25 : PySem.W.nsIn K mainGlobals "_law_spoilt" = some (some (.ref f25)))
    (l25 : K.lookup f25 = some ⟨oc25, od25, .func (PySem.W.fnOf "_law_spoilt" "_law_spoilt" (defArgs s__law_spoilt) (defBody s__law_spoilt) (defScope s__law_spoilt) .none kV25 dc25 pm25 an25 cd25 ct25), sl25⟩)
    (c25 : PySem.W.codeIn K cd25 "_law_spoilt" = true)
    (k25 : PySem.W.keepIn K (.ref f25) = true)
    (a26 : PySem.W.nsIn K mainGlobals "_law_words" = some (some (.ref f26)))
    (l26 : K.lookup f26 = some ⟨oc26, od26, .func (PySem.W.fnOf "_law_words" "_law_words" (defArgs s__law_words) (defBody s__law_words) (defScope s__law_words) .none kV26 dc26 pm26 an26 cd26 ct26), sl26⟩)
    (c26 : PySem.W.codeIn K cd26 "_law_words" = true)
    (k26 : PySem.W.keepIn K (.ref f26) = true)
    (a27 : PySem.W.nsIn K mainGlobals "_law_number" = some (some (.ref f27)))
    (l27 : K.lookup f27 = some ⟨oc27, od27, .func (PySem.W.fnOf "_law_number" "_law_number" (defArgs s__law_number) (defBody s__law_number) (defScope s__law_number) .none kV27 dc27 pm27 an27 cd27 ct27), sl27⟩)
    (c27 : PySem.W.codeIn K cd27 "_law_number" = true)
    (k27 : PySem.W.keepIn K (.ref f27) = true)
    (a28 : PySem.W.nsIn K mainGlobals "_law_told" = some (some (.ref f28)))
    (l28 : K.lookup f28 = some ⟨oc28, od28, .func (PySem.W.fnOf "_law_told" "_law_told" (defArgs s__law_told) (defBody s__law_told) (defScope s__law_told) .none kV28 dc28 pm28 an28 cd28 ct28), sl28⟩)
    (c28 : PySem.W.codeIn K cd28 "_law_told" = true)
    (k28 : PySem.W.keepIn K (.ref f28) = true)
    (a29 : PySem.W.nsIn K mainGlobals "_law_read" = some (some (.ref f29)))
    (l29 : K.lookup f29 = some ⟨oc29, od29, .func (PySem.W.fnOf "_law_read" "_law_read" (defArgs s__law_read) (defBody s__law_read) (defScope s__law_read) .none kV29 dc29 pm29 an29 cd29 ct29), sl29⟩)
    (c29 : PySem.W.codeIn K cd29 "_law_read" = true)
    (k29 : PySem.W.keepIn K (.ref f29) = true)
    (a30 : PySem.W.nsIn K mainGlobals "_law_heard" = some (some (.ref f30)))
    (l30 : K.lookup f30 = some ⟨oc30, od30, .func (PySem.W.fnOf "_law_heard" "_law_heard" (defArgs s__law_heard) (defBody s__law_heard) (defScope s__law_heard) .none kV30 dc30 pm30 an30 cd30 ct30), sl30⟩)
    (c30 : PySem.W.codeIn K cd30 "_law_heard" = true)
    (k30 : PySem.W.keepIn K (.ref f30) = true)
    (a31 : PySem.W.nsIn K mainGlobals "_law_text" = some (some (.ref f31)))
    (l31 : K.lookup f31 = some ⟨oc31, od31, .func (PySem.W.fnOf "_law_text" "_law_text" (defArgs s__law_text) (defBody s__law_text) (defScope s__law_text) .none kV31 dc31 pm31 an31 cd31 ct31), sl31⟩)
    (c31 : PySem.W.codeIn K cd31 "_law_text" = true)
    (k31 : PySem.W.keepIn K (.ref f31) = true)
    (a32 : PySem.W.nsIn K mainGlobals "law" = some (some (.ref f32)))
    (l32 : K.lookup f32 = some ⟨oc32, od32, .func (PySem.W.fnOf "law" "law" (defArgs s_law) (defBody s_law) (defScope s_law) .none kV32 dc32 pm32 an32 cd32 ct32), sl32⟩)
    (c32 : PySem.W.codeIn K cd32 "law" = true)
    (k32 : PySem.W.keepIn K (.ref f32) = true)
    (v_LETTERS : PySem.W.nsIn K mainGlobals "LETTERS" = some (some (.str "abcdefghijklmnopqrstuvwxyz" t_LETTERS_)))
    (v_LONGEST_NAME : PySem.W.nsIn K mainGlobals "LONGEST_NAME" = some (some (.int 6 t_LONGEST_NAME_)))
    (v_MOST_MOVES : PySem.W.nsIn K mainGlobals "MOST_MOVES" = some (some (.int 40 t_MOST_MOVES_)))
    (v_MOST_RULES : PySem.W.nsIn K mainGlobals "MOST_RULES" = some (some (.int 30 t_MOST_RULES_)))
    (v_KINDS : PySem.W.nsIn K mainGlobals "KINDS" = some (some (.ref d_KINDS)))
    (w_KINDS : K.lookup d_KINDS = some ⟨.type "tuple", none, .seq #[.str "rise" t_KINDS_0, .str "fall" t_KINDS_1, .str "now" t_KINDS_2] n_KINDS, #[]⟩)
    (v_DIGITS : PySem.W.nsIn K mainGlobals "DIGITS" = some (some (.str "0123456789" t_DIGITS_)))
    (v_MOST_TOLD_WEIGHT : PySem.W.nsIn K mainGlobals "MOST_TOLD_WEIGHT" = some (some (.int 1000 t_MOST_TOLD_WEIGHT_)))
    (v_MOST_TOLD_VALUE : PySem.W.nsIn K mainGlobals "MOST_TOLD_VALUE" = some (some (.int 1000000 t_MOST_TOLD_VALUE_)))
    (v_PARTS : PySem.W.nsIn K mainGlobals "PARTS" = some (some (.ref d_PARTS)))
    (w_PARTS : K.lookup d_PARTS = some ⟨.type "dict", none, .dict es_PARTS n_PARTS, #[]⟩)
    (y_PARTS : PySem.W.KeysLit w.params es_PARTS.toList)
    (z_PARTS : (d_PARTS == sysModules) = false)
    (r_PARTS : RT K t_PARTS es_PARTS.toList)
    (z_isinstance : PySem.W.nsIn K mainGlobals "isinstance" = some none)
    (z_len : PySem.W.nsIn K mainGlobals "len" = some none)
    (z_abs : PySem.W.nsIn K mainGlobals "abs" = some none)
    (z_all : PySem.W.nsIn K mainGlobals "all" = some none)
    (z_repr : PySem.W.nsIn K mainGlobals "repr" = some none)
    (z_range : PySem.W.nsIn K mainGlobals "range" = some none)
    (z_zip : PySem.W.nsIn K mainGlobals "zip" = some none)
    (z_enumerate : PySem.W.nsIn K mainGlobals "enumerate" = some none)
    (z_str : PySem.W.nsIn K mainGlobals "str" = some none)
    (z_int : PySem.W.nsIn K mainGlobals "int" = some none)
    (z_bool : PySem.W.nsIn K mainGlobals "bool" = some none)
    (z_tuple : PySem.W.nsIn K mainGlobals "tuple" = some none)
    (z_list : PySem.W.nsIn K mainGlobals "list" = some none)
    (z_super : PySem.W.nsIn K mainGlobals "super" = some none)
    (aC : PySem.W.nsIn K mainGlobals "InvalidText" = some (some (.ref C)))
    (aB : PySem.W.nsIn K mainGlobals "PlantError" = some (some (.ref B)))
    (xL : K.lookup C = some (excClassObj nm q C N bs (.ref B :: [.type "ValueError", .type "Exception", .type "BaseException", .type "object"]) true sn sub ab col dd m0 m1 m2 m3 m5 "ValueError.__new__"))
    (xB : K.lookup B = some (excClassObj nm_ q_ B N_ bs_ [.type "ValueError", .type "Exception", .type "BaseException", .type "object"] true sn_ sub_ ab_ col_ dd_ m0_ m1_ m2_ m3_ m5_ "ValueError.__new__"))
    (sa : PySem.W.findIn K (.ref C) "__setattr__" = some (some (.builtin "object.__setattr__")))
    (ga : PySem.W.findIn K (.ref C) "__getattribute__" = some (some (.builtin "BaseException.__getattribute__")))
    (gg : PySem.W.findIn K (.ref C) "__getattr__" = some none)
    (iC : PySem.W.findIn K (.ref C) "__init__" = some (some (.ref fI)))
    (iB : PySem.W.findIn K (.ref B) "__init__" = some (some (.builtin "ValueError.__init__")))
    (tI : PySem.W.typeIn K (.ref fI) = some (.type "function"))
    (lI : K.lookup fI = some ⟨ocI, odI, .func (PySem.W.ksFn "__init__" "InvalidText.__init__" (defArgs s_init) (defBody s_init) (defScope s_init) .none kVI dcI pmI anI (.ref cda) ctI cc), slI⟩)
    (cI : PySem.W.codeIn K (.ref cda) "InvalidText.__init__" = true)
    (lc : K.lookup cda = some ⟨ccl, cdd, .fields vsI, ccs⟩)
    (lx : K.lookup cc = some ⟨cl, cld, .cell (some (.ref C)), csl⟩)
    (th : PySem.W.nsIn K cStatics "thirdparty.any" = some none)
    (ve : PySem.W.subIn K (.ref C) (.type "ValueError") = some true)
    (sf : PySem.W.mroIn K C (.ref C) = some true)
    (eC : PySem.W.subIn K (.ref C) (.type "BaseException") = some true)
    (tC : PySem.W.typeIn K (.ref C) = some (.type "type"))
    (kC : PySem.W.keepIn K (.ref C) = true)
    (hC : PySem.W.hasDictIn K C = true)
    (sC : PySem.W.subIn K (.ref C) (.ref C) = some true)
    (noL : PySem.W.findIn K (.ref C) "line" = some none)
    (noA : PySem.W.findIn K (.ref C) "at" = some none)
    (hcl : PySem.W.findIn K (.ref C) "__class__" = some (some (.builtin "object.__class__")))
    (hsp : PySem.W.specialIn K (.builtin "object.__class__") "__get__" = some (some (.builtin "getset_descriptor.__get__")))
    (htk : PySem.W.takesIn K (.builtin "object.__class__") = some true)
    (hmo : PySem.W.mroIn K C (.type "object") = some true)
    (kB : PySem.W.kitOne K (.ref C) (.ref B) = some true)
    (vf : vsI[2]? = some (.str (PySem.Challenge.pw_heldalways_k64_whole_commands_there_and.main.file : Str) tfI))
    : ∃ (fd : FuncData) (F : FF), (∀ (s : Shared) (u : Value), BindsTo s fd ⟨[u], []⟩ [("script", u)]) ∧ (∀ ns : List Int, ns.length ≤ 63 → ∃ S', F [.rol (ns.map D.int)] [] = .ok (.bl true) S') ∧
      ∀ base : Heap, K.In base → base.Ns mainGlobals mg → FnM prg w K mg base CX0 8 fa fd ["script"] F := by
  have e := hfa.symm.trans (mg_of X G a32)
  cases e
  have T : Txt w K mg := ⟨mg_none_of X G z_isinstance, mg_none_of X G z_len, mg_none_of X G z_abs, mg_none_of X G z_all, mg_none_of X G z_repr, mg_none_of X G z_range, mg_none_of X G z_zip, mg_none_of X G z_enumerate, mg_none_of X G z_str, mg_none_of X G z_int, mg_none_of X G z_bool, mg_none_of X G z_tuple, mg_none_of X G z_list, cst_of (PySem.W.mg_of X G v_LETTERS) KD.str, cst_of (PySem.W.mg_of X G v_LONGEST_NAME) KD.int, cst_of (PySem.W.mg_of X G v_MOST_MOVES) KD.int, cst_of (PySem.W.mg_of X G v_MOST_RULES) KD.int, cst_of (PySem.W.mg_of X G v_KINDS) (KD.tup w_KINDS rfl rfl (.cons .str (.cons .str (.cons .str .nil))) (by simp)), cst_of (PySem.W.mg_of X G v_DIGITS) KD.str, cst_of (PySem.W.mg_of X G v_MOST_TOLD_WEIGHT) KD.int, cst_of (PySem.W.mg_of X G v_MOST_TOLD_VALUE) KD.int, ⟨_, _, _, PySem.W.mg_of X G v_PARTS, ⟨w_PARTS, y_PARTS, z_PARTS⟩, r_PARTS⟩⟩
  have cdC : PySem.W.clsIn K C = some { name := nm, bases := bs, mro := .ref C :: (.ref B :: [.type "ValueError", .type "Exception", .type "BaseException", .type "object"]), ns := N, qualname := q, hasDict := true, slotNames := sn, subclasses := sub, abstract := ab, collection := col, hasDel := false } := by unfold PySem.W.clsIn; rw [xL] <;> rfl
  have al : PySem.W.alongIn K "__init__" (.ref B :: [.type "ValueError", .type "Exception", .type "BaseException", .type "object"]) = some (some (.builtin "ValueError.__init__")) := by
    have z := iB
    unfold PySem.W.findIn at z
    dsimp only at z
    rw [xB] at z
    exact z
  have oex : OexC K C := ⟨⟨nm, q, N, bs, _, sn, sub, ab, col, dd, m0, m1, m2, m3, m5, xL, rfl⟩, sa, eC, tC, kC⟩
  have ext : ExcTxt K mg (prg.main.file : Str) s_init "InvalidText.__init__" C fI := ⟨oex, ⟨_, fun cd z => by rw [cdC] at z; cases z; rfl, by rw [cdC]; rfl, al⟩, iC, tI, th, ve, sf, mg_none_of X G z_super, ⟨_, _, _, _, _, _, _, _, _, _, _, _, _, _, _, _, _, _, lI, cI, lc, vf, lx⟩⟩
  have exc := exc_mk ext oex noL noA (mg_of X G aC)
  have isc : IsC K C := ⟨by rw [cdC]; rfl, ⟨ga, gg, eC, hC⟩, hcl, hsp, htk, hmo⟩
  have exT : ExT K mg C B := ⟨mg_of X G aC, mg_of X G aB, PySem.W.exm_ref eC hC tC sC, isc, noL, noA, kB⟩
  refine ⟨fnOf "law" "law" (defArgs s_law) (defBody s_law) (defScope s_law) .none kV32 dc32 pm32 an32 cd32 ct32, F_law C, fun s u => ?_, fun ns hl => plain C ns hl, fun base _ _ => ?_⟩
  · exact (show BindsTo s (fnOf "law" "law" (defArgs s_law) (defBody s_law) (defScope s_law) .none kV32 dc32 pm32 an32 cd32 ct32) ⟨[u], []⟩ [("script", u)] from .of_eq rfl)
  · have u_is_integer := fun_mk (st := s_is_integer) l0 c0 k0
    have u_is_number := fun_mk (st := s_is_number) l1 c1 k1
    have u_is_name := fun_mk (st := s_is_name) l2 c2 k2
    have u_is_told_value := fun_mk (st := s_is_told_value) l3 c3 k3
    have u_are_pairs := fun_mk (st := s_are_pairs) l4 c4 k4
    have u_is_part := fun_mk (st := s_is_part) l5 c5 k5
    have u_is_command := fun_mk (st := s_is_command) l6 c6 k6
    have u_integer_told := fun_mk (st := s_integer_told) l7 c7 k7
    have u_pairs_told := fun_mk (st := s_pairs_told) l8 c8 k8
    have u_command_told := fun_mk (st := s_command_told) l9 c9 k9
    have u_parts_told := fun_mk (st := s_parts_told) l10 c10 k10
    have u_read_commands := fun_mk (st := s_read_commands) l11 c11 k11
    have u_show_command := fun_mk (st := s_show_command) l12 c12 k12
    have u_show_commands := fun_mk (st := s_show_commands) l13 c13 k13
    have u__law_heap := fun_mk (st := s__law_heap) l14 c14 k14
    have u__law_draw := fun_mk (st := s__law_draw) l15 c15 k15
    have u__law_pick := fun_mk (st := s__law_pick) l16 c16 k16
    have u__law_command := fun_mk (st := s__law_command) l17 c17 k17
    have u__law_is_name := fun_mk (st := s__law_is_name) l18 c18 k18
    have u__law_is_whole := fun_mk (st := s__law_is_whole) l19 c19 k19
    have u__law_are_pairs := fun_mk (st := s__law_are_pairs) l20 c20 k20
    have u__law_fits := fun_mk (st := s__law_fits) l21 c21 k21
    have u__law_kinds := fun_mk (st := s__law_kinds) l22 c22 k22
    have u__law_is_command := fun_mk (st := s__law_is_command) l23 c23 k23
    have u__law_other := fun_mk (st := s__law_other) l24 c24 k24
    have u__law_spoilt := fun_mk (st := s__law_spoilt) l25 c25 k25
    have u__law_words := fun_mk (st := s__law_words) l26 c26 k26
    have u__law_number := fun_mk (st := s__law_number) l27 c27 k27
    have u__law_told := fun_mk (st := s__law_told) l28 c28 k28
    have u__law_read := fun_mk (st := s__law_read) l29 c29 k29
    have u__law_heard := fun_mk (st := s__law_heard) l30 c30 k30
    have u__law_text := fun_mk (st := s__law_text) l31 c31 k31
    have u_law := fun_mk (st := s_law) l32 c32 k32
    have y_is_integer := knows_mk (P := prg) (w := w) (base := base) (mg := mg) u_is_integer (mg_of X G a0) (fun _ _ _ _ _ _ us hl => match us, hl with | [_], _ => rfl) (fun _ _ _ _ _ _ us hl => match us, hl with | [_], _ => rfl) (ok_is_integer u_is_integer T )
    have y_is_number := knows_mk (P := prg) (w := w) (base := base) (mg := mg) u_is_number (mg_of X G a1) (fun _ _ _ _ _ _ us hl => match us, hl with | [_], _ => rfl) (fun _ _ _ _ _ _ us hl => match us, hl with | [_], _ => rfl) (ok_is_number u_is_number T y_is_integer)
    have y_is_name := knows_mk (P := prg) (w := w) (base := base) (mg := mg) u_is_name (mg_of X G a2) (fun _ _ _ _ _ _ us hl => match us, hl with | [_], _ => rfl) (fun _ _ _ _ _ _ us hl => match us, hl with | [_], _ => rfl) (ok_is_name u_is_name T )
    have y_is_told_value := knows_mk (P := prg) (w := w) (base := base) (mg := mg) u_is_told_value (mg_of X G a3) (fun _ _ _ _ _ _ us hl => match us, hl with | [_], _ => rfl) (fun _ _ _ _ _ _ us hl => match us, hl with | [_], _ => rfl) (ok_is_told_value u_is_told_value T y_is_integer)
    have y_are_pairs := knows_mk (P := prg) (w := w) (base := base) (mg := mg) u_are_pairs (mg_of X G a4) (fun _ _ _ _ _ _ us hl => match us, hl with | [_], _ => rfl) (fun _ _ _ _ _ _ us hl => match us, hl with | [_], _ => rfl) (ok_are_pairs u_are_pairs T y_is_name y_is_told_value)
    have y_is_part := knows_mk (P := prg) (w := w) (base := base) (mg := mg) u_is_part (mg_of X G a5) (fun _ _ _ _ _ _ us hl => match us, hl with | [_, _], _ => rfl) (fun _ _ _ _ _ _ us hl => match us, hl with | [_, _], _ => rfl) (ok_is_part u_is_part T y_is_name y_is_told_value y_are_pairs y_is_number y_is_integer)
    have y_is_command := knows_mk (P := prg) (w := w) (base := base) (mg := mg) u_is_command (mg_of X G a6) (fun _ _ _ _ _ _ us hl => match us, hl with | [_], _ => rfl) (fun _ _ _ _ _ _ us hl => match us, hl with | [_], _ => rfl) (ok_is_command u_is_command T y_is_part)
    have y_integer_told := knows_mk (P := prg) (w := w) (base := base) (mg := mg) u_integer_told (mg_of X G a7) (fun _ _ _ _ _ _ us hl => match us, hl with | [_], _ => rfl) (fun _ _ _ _ _ _ us hl => match us, hl with | [_], _ => rfl) (ok_integer_told u_integer_told T )
    have y_pairs_told := knows_mk (P := prg) (w := w) (base := base) (mg := mg) u_pairs_told (mg_of X G a8) (fun _ _ _ _ _ _ us hl => match us, hl with | [_], _ => rfl) (fun _ _ _ _ _ _ us hl => match us, hl with | [_], _ => rfl) (ok_pairs_told u_pairs_told T y_integer_told)
    have y_parts_told := knows_mk (P := prg) (w := w) (base := base) (mg := mg) u_parts_told (mg_of X G a10) (fun _ _ _ _ _ _ us hl => match us, hl with | [_, _], _ => rfl) (fun _ _ _ _ _ _ us hl => match us, hl with | [_, _], _ => rfl) (ok_parts_told u_parts_told T y_integer_told)
    have y_show_command := knows_mk (P := prg) (w := w) (base := base) (mg := mg) u_show_command (mg_of X G a12) (fun _ _ _ _ _ _ us hl => match us, hl with | [_], _ => rfl) (fun _ _ _ _ _ _ us hl => match us, hl with | [_], _ => rfl) (ok_show_command u_show_command T )
    have y_show_commands := knows_mk (P := prg) (w := w) (base := base) (mg := mg) u_show_commands (mg_of X G a13) (fun _ _ _ _ _ _ us hl => match us, hl with | [_], _ => rfl) (fun _ _ _ _ _ _ us hl => match us, hl with | [_], _ => rfl) (ok_show_commands u_show_commands T y_show_command)
    have y__law_heap := knows_mk (P := prg) (w := w) (base := base) (mg := mg) u__law_heap (mg_of X G a14) (fun _ _ _ _ _ _ us hl => match us, hl with | [_], _ => rfl) (fun _ _ _ _ _ _ us hl => match us, hl with | [_], _ => rfl) (ok__law_heap u__law_heap T )
    have y__law_draw := knows_mk (P := prg) (w := w) (base := base) (mg := mg) u__law_draw (mg_of X G a15) (fun _ _ _ _ _ _ us hl => match us, hl with | [_, _], _ => rfl) (fun _ _ _ _ _ _ us hl => match us, hl with | [_, _], _ => rfl) (ok__law_draw u__law_draw T )
    have y__law_pick := knows_mk (P := prg) (w := w) (base := base) (mg := mg) u__law_pick (mg_of X G a16) (fun _ _ _ _ _ _ us hl => match us, hl with | [_, _], _ => rfl) (fun _ _ _ _ _ _ us hl => match us, hl with | [_, _], _ => rfl) (ok__law_pick u__law_pick T y__law_draw)
    have y__law_command := knows_mk (P := prg) (w := w) (base := base) (mg := mg) u__law_command (mg_of X G a17) (fun _ _ _ _ _ _ us hl => match us, hl with | [_, _], _ => rfl) (fun _ _ _ _ _ _ us hl => match us, hl with | [_, _], _ => rfl) (ok__law_command u__law_command T y__law_pick)
    have y__law_is_name := knows_mk (P := prg) (w := w) (base := base) (mg := mg) u__law_is_name (mg_of X G a18) (fun _ _ _ _ _ _ us hl => match us, hl with | [_], _ => rfl) (fun _ _ _ _ _ _ us hl => match us, hl with | [_], _ => rfl) (ok__law_is_name u__law_is_name T )
    have y__law_is_whole := knows_mk (P := prg) (w := w) (base := base) (mg := mg) u__law_is_whole (mg_of X G a19) (fun _ _ _ _ _ _ us hl => match us, hl with | [_, _, _], _ => rfl) (fun _ _ _ _ _ _ us hl => match us, hl with | [_, _, _], _ => rfl) (ok__law_is_whole u__law_is_whole T )
    have y__law_are_pairs := knows_mk (P := prg) (w := w) (base := base) (mg := mg) u__law_are_pairs (mg_of X G a20) (fun _ _ _ _ _ _ us hl => match us, hl with | [_], _ => rfl) (fun _ _ _ _ _ _ us hl => match us, hl with | [_], _ => rfl) (ok__law_are_pairs u__law_are_pairs T y__law_is_name y__law_is_whole)
    have y__law_fits := knows_mk (P := prg) (w := w) (base := base) (mg := mg) u__law_fits (mg_of X G a21) (fun _ _ _ _ _ _ us hl => match us, hl with | [_, _], _ => rfl) (fun _ _ _ _ _ _ us hl => match us, hl with | [_, _], _ => rfl) (ok__law_fits u__law_fits T y__law_is_name y__law_is_whole y__law_are_pairs)
    have y__law_kinds := knows_mk (P := prg) (w := w) (base := base) (mg := mg) u__law_kinds (mg_of X G a22) (fun _ _ _ _ _ _ us hl => match us, hl with | [_], _ => rfl) (fun _ _ _ _ _ _ us hl => match us, hl with | [_], _ => rfl) (ok__law_kinds u__law_kinds T )
    have y__law_is_command := knows_mk (P := prg) (w := w) (base := base) (mg := mg) u__law_is_command (mg_of X G a23) (fun _ _ _ _ _ _ us hl => match us, hl with | [_], _ => rfl) (fun _ _ _ _ _ _ us hl => match us, hl with | [_], _ => rfl) (ok__law_is_command u__law_is_command T y__law_kinds y__law_fits)
    have y__law_other := knows_mk (P := prg) (w := w) (base := base) (mg := mg) u__law_other (mg_of X G a24) (fun _ _ _ _ _ _ us hl => match us, hl with | [_, _], _ => rfl) (fun _ _ _ _ _ _ us hl => match us, hl with | [_, _], _ => rfl) (ok__law_other u__law_other T y__law_pick)
    have y__law_spoilt := knows_mk (P := prg) (w := w) (base := base) (mg := mg) u__law_spoilt (mg_of X G a25) (fun _ _ _ _ _ _ us hl => match us, hl with | [_, _], _ => rfl) (fun _ _ _ _ _ _ us hl => match us, hl with | [_, _], _ => rfl) (ok__law_spoilt u__law_spoilt T y__law_other y__law_draw)
    have y__law_words := knows_mk (P := prg) (w := w) (base := base) (mg := mg) u__law_words (mg_of X G a26) (fun _ _ _ _ _ _ us hl => match us, hl with | [_], _ => rfl) (fun _ _ _ _ _ _ us hl => match us, hl with | [_], _ => rfl) (ok__law_words u__law_words T )
    have y__law_number := knows_mk (P := prg) (w := w) (base := base) (mg := mg) u__law_number (mg_of X G a27) (fun _ _ _ _ _ _ us hl => match us, hl with | [_], _ => rfl) (fun _ _ _ _ _ _ us hl => match us, hl with | [_], _ => rfl) (ok__law_number u__law_number T )
    have y__law_told := knows_mk (P := prg) (w := w) (base := base) (mg := mg) u__law_told (mg_of X G a28) (fun _ _ _ _ _ _ us hl => match us, hl with | [_], _ => rfl) (fun _ _ _ _ _ _ us hl => match us, hl with | [_], _ => rfl) (ok__law_told u__law_told T y__law_kinds y__law_is_command y__law_number)
    have y__law_read := knows_mk (P := prg) (w := w) (base := base) (mg := mg) u__law_read (mg_of X G a29) (fun _ _ _ _ _ _ us hl => match us, hl with | [_], _ => rfl) (fun _ _ _ _ _ _ us hl => match us, hl with | [_], _ => rfl) (ok__law_read u__law_read T y__law_told)
    have y__law_text := knows_mk (P := prg) (w := w) (base := base) (mg := mg) u__law_text (mg_of X G a31) (fun _ _ _ _ _ _ us hl => match us, hl with | [_, _], _ => rfl) (fun _ _ _ _ _ _ us hl => match us, hl with | [_, _], _ => rfl) (ok__law_text u__law_text T y__law_words y__law_draw y__law_pick)
    have y_command_told := knows_mk (P := prg) (w := w) (base := base) (mg := mg) u_command_told (mg_of X G a9) (fun _ _ _ _ _ _ us hl => match us, hl with | [_], _ => rfl) (fun _ _ _ _ _ _ us hl => match us, hl with | [_], _ => rfl) (ok_command_told u_command_told T y_parts_told y_pairs_told)
    have y_read_commands := knows_mk (P := prg) (w := w) (base := base) (mg := mg) u_read_commands (mg_of X G a11) (fun _ _ _ _ _ _ us hl => match us, hl with | [_], _ => rfl) (fun _ _ _ _ _ _ us hl => match us, hl with | [_], _ => rfl) (ok_read_commands (C := C) u_read_commands T exc y_command_told y_is_command)
    have y__law_heard := knows_mk (P := prg) (w := w) (base := base) (mg := mg) u__law_heard (mg_of X G a30) (fun _ _ _ _ _ _ us hl => match us, hl with | [_], _ => rfl) (fun _ _ _ _ _ _ us hl => match us, hl with | [_], _ => rfl) (ok__law_heard u__law_heard T exT y_read_commands)
    exact (ok_law (C := C) u_law T y__law_heap y__law_command y__law_text y__law_heard y_show_commands y_read_commands y__law_words y__law_spoilt y__law_pick y__law_read y__law_is_command y_is_command y_show_command)
end P64
open PySem PySem.W PyProof.Rows
set_option maxRecDepth 100000 in
set_option maxHeartbeats 0 in
theorem PySem.Challenge.cw_heldalways_k64_whole_commands_there_and_holds : PySem.Challenge.rw_heldalways_k64_whole_commands_there_and.Holds := by
  w_on; o_law; k_head; (case hw => w_witness2)
  k_fill
  refine DL.walk_m (l := PySem.Challenge.rw_heldalways_k64_whole_commands_there_and) (n := 63) (k := 8) (x := "script") rfl (by decide) rfl ⟨rfl, by decide, by decide⟩ (fun w h Y => PySem.W.kIn_of Y) ?F
  case F =>
    intro w mg fa h KX G hmg
    refine' P64.all_mk KX G hmg ?a0 ?l0 ?c0 ?k0 ?a1 ?l1 ?c1 ?k1 ?a2 ?l2 ?c2 ?k2 ?a3 ?l3 ?c3 ?k3 ?a4 ?l4 ?c4 ?k4 ?a5 ?l5 ?c5 ?k5 ?a6 ?l6 ?c6 ?k6 ?a7 ?l7 ?c7 ?k7 ?a8 ?l8 ?c8 ?k8 ?a9 ?l9 ?c9 ?k9 ?a10 ?l10 ?c10 ?k10 ?a11 ?l11 ?c11 ?k11 ?a12 ?l12 ?c12 ?k12 ?a13 ?l13 ?c13 ?k13 ?a14 ?l14 ?c14 ?k14 ?a15 ?l15 ?c15 ?k15 ?a16 ?l16 ?c16 ?k16 ?a17 ?l17 ?c17 ?k17 ?a18 ?l18 ?c18 ?k18 ?a19 ?l19 ?c19 ?k19 ?a20 ?l20 ?c20 ?k20 ?a21 ?l21 ?c21 ?k21 ?a22 ?l22 ?c22 ?k22 ?a23 ?l23 ?c23 ?k23 ?a24 ?l24 ?c24 ?k24 ?a25 ?l25 ?c25 ?k25 ?a26 ?l26 ?c26 ?k26 ?a27 ?l27 ?c27 ?k27 ?a28 ?l28 ?c28 ?k28 ?a29 ?l29 ?c29 ?k29 ?a30 ?l30 ?c30 ?k30 ?a31 ?l31 ?c31 ?k31 ?a32 ?l32 ?c32 ?k32 ?v_LETTERS ?v_LONGEST_NAME ?v_MOST_MOVES ?v_MOST_RULES ?v_KINDS ?w_KINDS ?v_DIGITS ?v_MOST_TOLD_WEIGHT ?v_MOST_TOLD_VALUE ?v_PARTS ?w_PARTS ?y_PARTS ?z_PARTS ?r_PARTS ?z_isinstance ?z_len ?z_abs ?z_all ?z_repr ?z_range ?z_zip ?z_enumerate ?z_str ?z_int ?z_bool ?z_tuple ?z_list ?z_super ?aC ?aB ?xL ?xB ?sa ?ga ?gg ?iC ?iB ?tI ?lI ?cI ?lc ?lx ?th ?ve ?sf ?eC ?tC ?kC ?hC ?sC ?noL ?noA ?hcl ?hsp ?htk ?hmo ?kB ?vf
    (case a0 => k_is)
    (case l0 => k_is)
    (case c0 => k_is)
    (case k0 => k_is)
    (case a1 => k_is)
    (case l1 => k_is)
    (case c1 => k_is)
    (case k1 => k_is)
    (case a2 => k_is)
    (case l2 => k_is)
    (case c2 => k_is)
    (case k2 => k_is)
    (case a3 => k_is)
    (case l3 => k_is)
    (case c3 => k_is)
    (case k3 => k_is)
    (case a4 => k_is)
    (case l4 => k_is)
    (case c4 => k_is)
    (case k4 => k_is)
    (case a5 => k_is)
    (case l5 => k_is)
    (case c5 => k_is)
    (case k5 => k_is)
    (case a6 => k_is)
    (case l6 => k_is)
    (case c6 => k_is)
    (case k6 => k_is)
    (case a7 => k_is)
    (case l7 => k_is)
    (case c7 => k_is)
    (case k7 => k_is)
    (case a8 => k_is)
    (case l8 => k_is)
    (case c8 => k_is)
    (case k8 => k_is)
    (case a9 => k_is)
    (case l9 => k_is)
    (case c9 => k_is)
    (case k9 => k_is)
    (case a10 => k_is)
    (case l10 => k_is)
    (case c10 => k_is)
    (case k10 => k_is)
    (case a11 => k_is)
    (case l11 => k_is)
    (case c11 => k_is)
    (case k11 => k_is)
    (case a12 => k_is)
    (case l12 => k_is)
    (case c12 => k_is)
    (case k12 => k_is)
    (case a13 => k_is)
    (case l13 => k_is)
    (case c13 => k_is)
    (case k13 => k_is)
    (case a14 => k_is)
    (case l14 => k_is)
    (case c14 => k_is)
    (case k14 => k_is)
    (case a15 => k_is)
    (case l15 => k_is)
    (case c15 => k_is)
    (case k15 => k_is)
    (case a16 => k_is)
    (case l16 => k_is)
    (case c16 => k_is)
    (case k16 => k_is)
    (case a17 => k_is)
    (case l17 => k_is)
    (case c17 => k_is)
    (case k17 => k_is)
    (case a18 => k_is)
    (case l18 => k_is)
    (case c18 => k_is)
    (case k18 => k_is)
    (case a19 => k_is)
    (case l19 => k_is)
    (case c19 => k_is)
    (case k19 => k_is)
    (case a20 => k_is)
    (case l20 => k_is)
    (case c20 => k_is)
    (case k20 => k_is)
    (case a21 => k_is)
    (case l21 => k_is)
    (case c21 => k_is)
    (case k21 => k_is)
    (case a22 => k_is)
    (case l22 => k_is)
    (case c22 => k_is)
    (case k22 => k_is)
    (case a23 => k_is)
    (case l23 => k_is)
    (case c23 => k_is)
    (case k23 => k_is)
    (case a24 => k_is)
    (case l24 => k_is)
    (case c24 => k_is)
    (case k24 => k_is)
    (case a25 => k_is)
    (case l25 => k_is)
    (case c25 => k_is)
    (case k25 => k_is)
    (case a26 => k_is)
    (case l26 => k_is)
    (case c26 => k_is)
    (case k26 => k_is)
    (case a27 => k_is)
    (case l27 => k_is)
    (case c27 => k_is)
    (case k27 => k_is)
    (case a28 => k_is)
    (case l28 => k_is)
    (case c28 => k_is)
    (case k28 => k_is)
    (case a29 => k_is)
    (case l29 => k_is)
    (case c29 => k_is)
    (case k29 => k_is)
    (case a30 => k_is)
    (case l30 => k_is)
    (case c30 => k_is)
    (case k30 => k_is)
    (case a31 => k_is)
    (case l31 => k_is)
    (case c31 => k_is)
    (case k31 => k_is)
    (case a32 => k_is)
    (case l32 => k_is)
    (case c32 => k_is)
    (case k32 => k_is)
    (case v_LETTERS => k_is)
    (case v_LONGEST_NAME => k_is)
    (case v_MOST_MOVES => k_is)
    (case v_MOST_RULES => k_is)
    (case v_KINDS => k_is)
    (case w_KINDS => k_is)
    (case v_DIGITS => k_is)
    (case v_MOST_TOLD_WEIGHT => k_is)
    (case v_MOST_TOLD_VALUE => k_is)
    (case v_PARTS => k_is)
    (case w_PARTS => k_is)
    (case y_PARTS => k_keys)
    (case z_PARTS => decide)
    (case r_PARTS => (unfold P64.t_PARTS; repeat (first | exact DL.RT.nil | (refine' DL.RT.cons rfl (DL.KD.tup ?h1 ?h2 ?h3 ?h4 ?h5) ?_; (case h1 => first | k_is | exact rfl); (case h2 => exact rfl); (case h3 => exact rfl); (case h4 => repeat (first | exact DL.KDs.nil | refine DL.KDs.cons DL.KD.str ?_)); (case h5 => decide)))))
    (case z_isinstance => k_is)
    (case z_len => k_is)
    (case z_abs => k_is)
    (case z_all => k_is)
    (case z_repr => k_is)
    (case z_range => k_is)
    (case z_zip => k_is)
    (case z_enumerate => k_is)
    (case z_str => k_is)
    (case z_int => k_is)
    (case z_bool => k_is)
    (case z_tuple => k_is)
    (case z_list => k_is)
    (case z_super => k_is)
    (case aC => k_is)
    (case aB => k_is)
    (case xL => k_is)
    (case xB => k_is)
    (case sa => k_is)
    (case ga => k_is)
    (case gg => k_is)
    (case iC => k_is)
    (case iB => k_is)
    (case tI => k_is)
    (case lI => k_is)
    (case cI => k_is)
    (case lc => k_is)
    (case lx => k_is)
    (case th => k_is)
    (case ve => k_is)
    (case sf => k_is)
    (case eC => k_is)
    (case tC => k_is)
    (case kC => k_is)
    (case hC => k_is)
    (case sC => first | rfl | k_is)
    (case noL => k_is)
    (case noA => k_is)
    (case hcl => k_is)
    (case hsp => k_is)
    (case htk => k_is)
    (case hmo => k_is)
    (case kB => kit_is)
    (case vf => rfl)
end
