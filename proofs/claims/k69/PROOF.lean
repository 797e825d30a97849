import PyProof.Rows.All
import Wide.All
import OpenK.AllK
import Wide.FinOn
import HandS.ForMost
import HandS.ForExc
import HandS.TupAny
import HandS.TupMul
import HandS.Style
import HandS.Star
import HandS.Conv
import HandS.Zip
import HandS.Deep
import KE.GoesMore
import KE.GoesEnum
import PyProof.Draws
import KE.KRevSl
import PyProof.ReprRoads
import HandS.WordsExc
import HandS.HotCalls
import HandS.ExcIs
import HandS.SetFor
import HandS.Ends
import PySem.Challenge.RW_hoursheld_k69_rows_that_are_the_same
set_option Elab.async false
set_option linter.all false
section TDL1
set_option maxRecDepth 100000
set_option maxHeartbeats 1000000
/-! DL1: data, cells, what stands for what; readings of denotations. -/
namespace DL
open PySem L2

inductive D where
  | non | bl (b : Bool) | int (i : Int) | str (x : Str) | tup (ds : List D) | li (ds : List D) | mr (k : Nat) | fn (k : Nat)
instance : Inhabited D := ⟨.non⟩
inductive Cell where
  | lst (ds : List D) | ins (c : Nat) (fs : List (Str × D))
abbrev Mu := List Cell
abbrev Sl := List (Option D)
inductive R (α : Type) where
  | ok (a : α) (μ : Mu) | xc (c : Nat) (μ : Mu) | stk
def M (α : Type) := Mu → R α
def R.bind {α β : Type} (r : R α) (k : α → Mu → R β) : R β := match r with
  | .ok a μ => k a μ
  | .xc c μ => .xc c μ
  | .stk => .stk
def M.bind {α β : Type} (m : M α) (k : α → M β) : M β := fun μ => (m μ).bind k
instance : Monad M where
  pure a := fun μ => .ok a μ
  bind := M.bind
theorem bind_at {α β : Type} (m : M α) (k : α → M β) (μ : Mu) : (m >>= k) μ = (m μ).bind k := rfl
theorem pure_at {α : Type} (a : α) (μ : Mu) : (pure a : M α) μ = .ok a μ := rfl
@[simp] theorem bind_ok {α β : Type} (a : α) (μ : Mu) (k : α → Mu → R β) : (R.ok a μ).bind k = k a μ := rfl
@[simp] theorem bind_xc {α β : Type} (c : Nat) (μ : Mu) (k : α → Mu → R β) : (R.xc c μ : R α).bind k = .xc c μ := rfl
@[simp] theorem bind_stk {α β : Type} (k : α → Mu → R β) : (R.stk : R α).bind k = .stk := rfl
def stuck {α : Type} : M α := fun _ => .stk

structure Gs where
  K : PySem.W.Frag
  aa : Nat → Addr

/-- a list that is never changed: locked, or of the module -/
def LkL (K : PySem.W.Frag) (H : Hp) (a : Addr) (vs : List V) : Prop := (∃ o, H a = some (.frz o (.lst vs))) ∨ ∀ H', SqL K H' a vs
theorem LkL.sq {K : PySem.W.Frag} {H : Hp} {a : Addr} {vs : List V} (h : LkL K H a vs) : SqL K H a vs := by
  rcases h with ⟨o, h⟩ | h
  · exact .inl (.inr ⟨o, h⟩)
  · exact h H
mutual
def Rep (G : Gs) (ι : List Addr) (H : Hp) : D → V → Prop
  | .non, v => v = .non
  | .bl b, v => v = .bl b
  | .int i, v => v = .int i
  | .str x, v => v = .str x
  | .tup ds, v => ∃ a vs, v = .ref a ∧ SqT G.K H a vs ∧ Reps G ι H ds vs
  | .li ds, v => ∃ a vs, v = .ref a ∧ LkL G.K H a vs ∧ Reps G ι H ds vs
  | .mr k, v => ∃ a, ι[k]? = some a ∧ v = .ref a
  | .fn k, v => v = .ref (G.aa k)
def Reps (G : Gs) (ι : List Addr) (H : Hp) : List D → List V → Prop
  | [], vs => vs = []
  | d :: ds, vs => ∃ v r, vs = v :: r ∧ Rep G ι H d v ∧ Reps G ι H ds r
end

/-- what is read stays as it is: tuples, locked things -/
structure KeepT (H H' : Hp) : Prop where
  tups : ∀ a xs, H a = some (.tup xs) → H' a = some (.tup xs)
  frzs : ∀ a o u, H a = some (.frz o u) → H' a = some (.frz o u)
theorem KeepT.refl (H : Hp) : KeepT H H := ⟨fun _ _ h => h, fun _ _ _ h => h⟩
theorem KeepT.trans {H H1 H2 : Hp} (a : KeepT H H1) (b : KeepT H1 H2) : KeepT H H2 := ⟨fun c x h => b.1 c x (a.1 c x h), fun c o u h => b.2 c o u (a.2 c o u h)⟩
theorem KeepT.new {H : Hp} {p : Addr} {o : HO} (h : H p = none) : KeepT H (upd H p o) :=
  ⟨fun c x e => by rw [upd_ne (ne_of_none e h)]; exact e, fun c x u e => by rw [upd_ne (ne_of_none e h)]; exact e⟩
theorem KeepT.put {H : Hp} {p : Addr} {o o' : HO} (h : H p = some o) (h1 : ∀ xs, o ≠ .tup xs) (h2 : ∀ a u, o ≠ .frz a u) : KeepT H (upd H p o') :=
  ⟨fun c x e => by
    rw [upd_ne]
    · exact e
    · rintro rfl; rw [e] at h; exact h1 _ (Option.some.inj h).symm, fun c x u e => by
    rw [upd_ne]
    · exact e
    · rintro rfl; rw [e] at h; exact h2 _ _ (Option.some.inj h).symm⟩
theorem KeepT.sqt {K : PySem.W.Frag} {H H' : Hp} (k : KeepT H H') {a : Addr} {xs : List V} (h : SqT K H a xs) : SqT K H' a xs := by
  rcases h with (h | ⟨o, h⟩) | h
  · exact .inl (.inl (k.1 _ _ h))
  · exact .inl (.inr ⟨o, k.2 _ _ _ h⟩)
  · exact .inr h

structure Later (ι : List Addr) (H : Hp) (ι' : List Addr) (H' : Hp) : Prop where
  pre : ι <+: ι'
  keep : KeepT H H'
theorem Later.refl (ι : List Addr) (H : Hp) : Later ι H ι H := ⟨List.prefix_refl _, KeepT.refl _⟩
theorem Later.trans {a b c : List Addr} {H H1 H2 : Hp} (x : Later a H b H1) (y : Later b H1 c H2) : Later a H c H2 := ⟨x.1.trans y.1, x.2.trans y.2⟩
theorem pre_get {a b : List Addr} (h : a <+: b) {k : Nat} {x : Addr} (e : a[k]? = some x) : b[k]? = some x := by
  obtain ⟨t, rfl⟩ := h
  rw [List.getElem?_append_left (List.getElem?_eq_some_iff.mp e).1]
  exact e
mutual
theorem Rep.later {G : Gs} {ι ι' : List Addr} {H H' : Hp} (l : Later ι H ι' H') : ∀ {d : D} {v : V}, Rep G ι H d v → Rep G ι' H' d v
  | .non, v, h => by simpa only [Rep] using h
  | .bl b, v, h => by simpa only [Rep] using h
  | .int i, v, h => by simpa only [Rep] using h
  | .str x, v, h => by simpa only [Rep] using h
  | .tup ds, v, h => by
    simp only [Rep] at h ⊢
    obtain ⟨a, vs, e, s, r⟩ := h
    exact ⟨a, vs, e, l.keep.sqt s, Reps.later l r⟩
  | .li ds, v, h => by
    simp only [Rep] at h ⊢
    obtain ⟨a, vs, e, s, r⟩ := h
    refine ⟨a, vs, e, ?_, Reps.later l r⟩
    rcases s with ⟨o, s⟩ | s
    · exact .inl ⟨o, l.keep.frzs _ _ _ s⟩
    · exact .inr s
  | .mr k, v, h => by
    simp only [Rep] at h ⊢
    obtain ⟨a, e, r⟩ := h
    exact ⟨a, pre_get l.pre e, r⟩
  | .fn k, v, h => by simpa only [Rep] using h
theorem Reps.later {G : Gs} {ι ι' : List Addr} {H H' : Hp} (l : Later ι H ι' H') : ∀ {ds : List D} {vs : List V}, Reps G ι H ds vs → Reps G ι' H' ds vs
  | [], vs, h => by simpa only [Reps] using h
  | d :: ds, vs, h => by
    simp only [Reps] at h ⊢
    obtain ⟨v, r, e, h1, h2⟩ := h
    exact ⟨v, r, e, Rep.later l h1, Reps.later l h2⟩
end
section
variable {G : Gs} {ι : List Addr} {H : Hp}
theorem Reps.len : ∀ {ds : List D} {vs : List V}, Reps G ι H ds vs → ds.length = vs.length
  | [], vs, h => by simp only [Reps] at h; subst h; rfl
  | d :: ds, vs, h => by
    simp only [Reps] at h
    obtain ⟨v, r, rfl, h1, h2⟩ := h
    simp [Reps.len h2]
theorem Reps.get : ∀ {ds : List D} {vs : List V} {i : Nat} {d : D}, Reps G ι H ds vs → ds[i]? = some d → ∃ v, vs[i]? = some v ∧ Rep G ι H d v
  | [], vs, i, d, h, e => by simp at e
  | x :: ds, vs, 0, d, h, e => by
    simp only [Reps] at h
    obtain ⟨v, r, rfl, h1, h2⟩ := h
    simp at e; subst e
    exact ⟨v, rfl, h1⟩
  | x :: ds, vs, i + 1, d, h, e => by
    simp only [Reps] at h
    obtain ⟨v, r, rfl, h1, h2⟩ := h
    obtain ⟨w, e1, e2⟩ := Reps.get (i := i) (d := d) h2 (by simpa using e)
    exact ⟨w, by simpa using e1, e2⟩
theorem Reps.app : ∀ {ds es : List D} {vs ws : List V}, Reps G ι H ds vs → Reps G ι H es ws → Reps G ι H (ds ++ es) (vs ++ ws)
  | [], es, vs, ws, h, h' => by simp only [Reps] at h; subst h; simpa using h'
  | d :: ds, es, vs, ws, h, h' => by
    simp only [Reps] at h
    obtain ⟨v, r, rfl, h1, h2⟩ := h
    simp only [List.cons_append, Reps]
    exact ⟨v, r ++ ws, rfl, h1, Reps.app h2 h'⟩
theorem Reps.one {d : D} {v : V} (h : Rep G ι H d v) : Reps G ι H [d] [v] := by simp only [Reps]; exact ⟨v, [], rfl, h, rfl⟩
theorem Reps.nil : Reps G ι H [] [] := by simp only [Reps]
theorem Reps.cons {d : D} {ds : List D} {v : V} {vs : List V} (h : Rep G ι H d v) (h' : Reps G ι H ds vs) : Reps G ι H (d :: ds) (v :: vs) := by simp only [Reps]; exact ⟨v, vs, rfl, h, h'⟩
theorem Reps.cons_iff {d : D} {ds : List D} {vs : List V} (h : Reps G ι H (d :: ds) vs) : ∃ v r, vs = v :: r ∧ Rep G ι H d v ∧ Reps G ι H ds r := by simpa only [Reps] using h
theorem Reps.nil_iff {vs : List V} (h : Reps G ι H [] vs) : vs = [] := by simpa only [Reps] using h
theorem Reps.drop : ∀ {ds : List D} {vs : List V} (n : Nat), Reps G ι H ds vs → Reps G ι H (ds.drop n) (vs.drop n)
  | ds, vs, 0, h => h
  | [], vs, n + 1, h => by have := h.nil_iff; subst this; exact h
  | d :: ds, vs, n + 1, h => by
    obtain ⟨v, r, rfl, h1, h2⟩ := h.cons_iff
    exact Reps.drop n h2
theorem Reps.take : ∀ {ds : List D} {vs : List V} (n : Nat), Reps G ι H ds vs → Reps G ι H (ds.take n) (vs.take n)
  | ds, vs, 0, h => by simpa using Reps.nil
  | [], vs, n + 1, h => by have := h.nil_iff; subst this; exact h
  | d :: ds, vs, n + 1, h => by
    obtain ⟨v, r, rfl, h1, h2⟩ := h.cons_iff
    exact Reps.cons h1 (Reps.take n h2)
theorem Reps.set : ∀ {ds : List D} {vs : List V} (n : Nat) {d : D} {v : V}, Reps G ι H ds vs → Rep G ι H d v → Reps G ι H (ds.set n d) (vs.set n v)
  | [], vs, n, d, v, h, h' => by have := h.nil_iff; subst this; simpa using h
  | e :: ds, vs, 0, d, v, h, h' => by
    obtain ⟨w, r, rfl, h1, h2⟩ := h.cons_iff
    exact Reps.cons h' h2
  | e :: ds, vs, n + 1, d, v, h, h' => by
    obtain ⟨w, r, rfl, h1, h2⟩ := h.cons_iff
    exact Reps.cons h1 (Reps.set n h2 h')
theorem Reps.reverse : ∀ {ds : List D} {vs : List V}, Reps G ι H ds vs → Reps G ι H ds.reverse vs.reverse
  | [], vs, h => by have := h.nil_iff; subst this; exact h
  | d :: ds, vs, h => by
    obtain ⟨v, r, rfl, h1, h2⟩ := h.cons_iff
    rw [List.reverse_cons, List.reverse_cons]
    exact (Reps.reverse h2).app (Reps.one h1)
theorem Reps.dropLast : ∀ {ds : List D} {vs : List V}, Reps G ι H ds vs → Reps G ι H ds.dropLast vs.dropLast := fun {ds vs} h => by
  rw [List.dropLast_eq_take, List.dropLast_eq_take, h.len]
  exact h.take _
end

/-- a cell stands at its address -/
def FsR (G : Gs) (ι : List Addr) (H : Hp) : List (Str × D) → List (Str × V) → Prop
  | [], us => us = []
  | p :: ps, us => ∃ v r, us = (p.1, v) :: r ∧ Rep G ι H p.2 v ∧ FsR G ι H ps r
theorem FsR.later {G : Gs} {ι ι' : List Addr} {H H' : Hp} (l : Later ι H ι' H') : ∀ {fs : List (Str × D)} {us : List (Str × V)}, FsR G ι H fs us → FsR G ι' H' fs us
  | [], us, h => h
  | p :: ps, us, h => by
    obtain ⟨v, r, e, h1, h2⟩ := h
    exact ⟨v, r, e, h1.later l, FsR.later l h2⟩
def CellOk (G : Gs) (ι : List Addr) (H : Hp) (a : Addr) : Cell → Prop
  | .lst ds => ∃ vs, H a = some (.lst vs) ∧ Reps G ι H ds vs
  | .ins c fs => ∃ dx us, H a = some (.ins (G.aa c) dx us) ∧ FsR G ι H fs us
structure Cells (G : Gs) (ι : List Addr) (H : Hp) (μ : Mu) : Prop where
  nd : ι.Nodup
  len : ι.length = μ.length
  at_ : ∀ (k : Nat) (c : Cell) (a : Addr), μ[k]? = some c → ι[k]? = some a → CellOk G ι H a c
theorem Cells.addr {G : Gs} {ι : List Addr} {H : Hp} {μ : Mu} (C : Cells G ι H μ) {k : Nat} {c : Cell} (e : μ[k]? = some c) : ∃ a, ι[k]? = some a ∧ CellOk G ι H a c := by
  have hk : k < ι.length := by rw [C.len]; exact (List.getElem?_eq_some_iff.mp e).1
  exact ⟨ι[k], List.getElem?_eq_getElem hk, C.at_ k c _ e (List.getElem?_eq_getElem hk)⟩
/-- a cell that stands unchanged, over a later heap -/
theorem CellOk.later {G : Gs} {ι ι' : List Addr} {H H' : Hp} (l : Later ι H ι' H') {a : Addr} {c : Cell} (e : ∀ o, H a = some o → H' a = some o) (h : CellOk G ι H a c) : CellOk G ι' H' a c := by
  cases c with
  | lst ds => obtain ⟨vs, e1, r⟩ := h; exact ⟨vs, e _ e1, r.later l⟩
  | ins c fs => obtain ⟨dx, us, e1, r⟩ := h; exact ⟨dx, us, e _ e1, r.later l⟩
/-- new things beside the cells -/
theorem Cells.more {G : Gs} {ι : List Addr} {H H' : Hp} {μ : Mu} (C : Cells G ι H μ) (k : KeepT H H') (e : ∀ a o, H a = some o → H' a = some o) : Cells G ι H' μ :=
  ⟨C.nd, C.len, fun i c a h1 h2 => (C.at_ i c a h1 h2).later ⟨List.prefix_refl _, k⟩ fun o h => e a o h⟩
theorem Cells.new {G : Gs} {ι : List Addr} {H : Hp} {μ : Mu} {p : Addr} {o : HO} (C : Cells G ι H μ) (h : H p = none) : Cells G ι (upd H p o) μ :=
  C.more (KeepT.new h) fun a u e => by rw [upd_ne (ne_of_none e h)]; exact e
theorem CellOk.tracked {G : Gs} {ι : List Addr} {H : Hp} {a : Addr} {c : Cell} (h : CellOk G ι H a c) : ∃ o, H a = some o := by
  cases c with
  | lst ds => obtain ⟨vs, e1, r⟩ := h; exact ⟨_, e1⟩
  | ins c fs => obtain ⟨dx, us, e1, r⟩ := h; exact ⟨_, e1⟩
theorem Cells.fresh {G : Gs} {ι : List Addr} {H : Hp} {μ : Mu} {p : Addr} (C : Cells G ι H μ) (h : H p = none) : p ∉ ι := fun hp => by
  obtain ⟨i, hi, e⟩ := List.mem_iff_getElem.mp hp
  have h1 : i < μ.length := by rw [← C.len]; exact hi
  obtain ⟨o, q⟩ := (C.at_ i μ[i] p (List.getElem?_eq_getElem h1) (by rw [List.getElem?_eq_getElem hi, e])).tracked
  rw [h] at q; cases q
theorem pre_app (ι : List Addr) (p : Addr) : ι <+: ι ++ [p] := ⟨[p], rfl⟩
theorem Later.grow {ι : List Addr} {H : Hp} {p : Addr} {o : HO} (h : H p = none) : Later ι H (ι ++ [p]) (upd H p o) := ⟨pre_app _ _, KeepT.new h⟩
theorem Later.new {ι : List Addr} {H : Hp} {p : Addr} {o : HO} (h : H p = none) : Later ι H ι (upd H p o) := ⟨List.prefix_refl _, KeepT.new h⟩
/-- a fresh address is no cell's, where every locked list of the module has another one -/
theorem Cells.grow {G : Gs} {ι : List Addr} {H : Hp} {μ : Mu} {p : Addr} {o : HO} {c : Cell} (C : Cells G ι H μ) (h : H p = none) (hc : CellOk G (ι ++ [p]) (upd H p o) p c) : Cells G (ι ++ [p]) (upd H p o) (μ ++ [c]) := by
  refine ⟨?_, by simp [C.len], fun i c' a h1 h2 => ?_⟩
  · refine List.nodup_append.mpr ⟨C.nd, by simp, ?_⟩
    intro a ha b hb
    have : b = p := by simpa using hb
    subst this
    intro e; subst e; exact C.fresh h ha
  · by_cases hi : i < μ.length
    · rw [List.getElem?_append_left hi] at h1
      rw [List.getElem?_append_left (by rw [C.len]; exact hi)] at h2
      exact (C.at_ i c' a h1 h2).later (Later.grow h) fun u e => by rw [upd_ne (ne_of_none e h)]; exact e
    · have hi' : i = μ.length := by
        have := (List.getElem?_eq_some_iff.mp h1).1
        simp at this; omega
      subst hi'
      rw [List.getElem?_append_right (Nat.le_refl _)] at h1
      rw [List.getElem?_append_right (by rw [C.len]; exact Nat.le_refl _)] at h2
      simp [C.len] at h1 h2
      subst h1 h2
      exact hc
/-- one cell is changed -/
theorem Cells.put {G : Gs} {ι : List Addr} {H : Hp} {μ : Mu} {k : Nat} {a : Addr} {o o' : HO} {c : Cell} (C : Cells G ι H μ) (ha : ι[k]? = some a) (h : H a = some o) (h1 : ∀ xs, o ≠ .tup xs) (h2 : ∀ b u, o ≠ .frz b u) (hc : CellOk G ι (upd H a o') a c) :
    Cells G ι (upd H a o') (μ.set k c) := by
  refine ⟨C.nd, by simp [C.len], fun i c' b e1 e2 => ?_⟩
  by_cases hi : i = k
  · subst hi
    rw [ha] at e2; cases e2
    have : i < μ.length := by rw [← C.len]; exact (List.getElem?_eq_some_iff.mp ha).1
    rw [List.getElem?_set_self this] at e1
    cases e1
    exact hc
  · rw [List.getElem?_set_ne (Ne.symm hi)] at e1
    have hb : b ≠ a := by
      rintro rfl
      obtain ⟨p1, q1⟩ := List.getElem?_eq_some_iff.mp e2
      obtain ⟨p2, q2⟩ := List.getElem?_eq_some_iff.mp ha
      exact hi ((List.getElem_inj C.nd).mp (q1.trans q2.symm))
    exact (C.at_ i c' b e1 e2).later ⟨List.prefix_refl _, KeepT.put h h1 h2⟩ fun u e => by rw [upd_ne hb]; exact e
end DL
end TDL1

section TDL2
set_option maxRecDepth 100000
set_option maxHeartbeats 1000000
/-! DL2: readings of denotations; expressions. -/
namespace DL
open PySem L2
abbrev SV := L2.St

structure EnvR (G : Gs) (ι : List Addr) (H : Hp) (σ : SV) (ρ : Sl) : Prop where
  len : σ.length = ρ.length
  at_ : ∀ (i : Nat) (d : D), ρ[i]? = some (some d) → ∃ v, σ[i]? = some (some v) ∧ Rep G ι H d v
theorem EnvR.later {G : Gs} {ι ι' : List Addr} {H H' : Hp} {σ : SV} {ρ : Sl} (l : Later ι H ι' H') (e : EnvR G ι H σ ρ) : EnvR G ι' H' σ ρ :=
  ⟨e.len, fun i d h => let ⟨v, h1, h2⟩ := e.at_ i d h; ⟨v, h1, h2.later l⟩⟩
theorem EnvR.set {G : Gs} {ι : List Addr} {H : Hp} {σ : SV} {ρ : Sl} {d : D} {v : V} (e : EnvR G ι H σ ρ) (i : Nat) (r : Rep G ι H d v) : EnvR G ι H (σ.set i (some v)) (ρ.set i (some d)) := by
  refine ⟨by simp [e.len], fun j d' h => ?_⟩
  by_cases hj : j = i
  · subst hj
    have hl : j < ρ.length := by
      have := (List.getElem?_eq_some_iff.mp h).1
      simpa using this
    rw [List.getElem?_set_self hl] at h
    cases h
    exact ⟨v, by rw [List.getElem?_set_self (by rw [e.len]; exact hl)], r⟩
  · rw [List.getElem?_set_ne (Ne.symm hj)] at h
    obtain ⟨w, h1, h2⟩ := e.at_ j d' h
    exact ⟨w, by rw [List.getElem?_set_ne (Ne.symm hj)]; exact h1, h2⟩

/-- a result is taken: Q behind each end that it may have -/
def Acc {α β : Type} (W : Nat → Hp → Prop) (rep : List Addr → Hp → α → β → Prop) (G : Gs) (ι : List Addr) (H : Hp) (Q : β → Hp → Prop) : R α → Prop
  | .ok a μ => ∀ ι' H' b, Later ι H ι' H' → Cells G ι' H' μ → rep ι' H' a b → Q b H'
  | .xc c μ => ∀ ι' H', Later ι H ι' H' → Cells G ι' H' μ → W c H'
  | .stk => False
theorem Acc.base {α β : Type} {W : Nat → Hp → Prop} {rep : List Addr → Hp → α → β → Prop} {G : Gs} {ι ι1 : List Addr} {H H1 : Hp} {Q : β → Hp → Prop} {r : R α} (l : Later ι H ι1 H1) (h : Acc W rep G ι H Q r) : Acc W rep G ι1 H1 Q r := by
  cases r with
  | ok a μ => exact fun ι' H' b l' c r => h ι' H' b (l.trans l') c r
  | xc c μ => exact fun ι' H' l' c' => h ι' H' (l.trans l') c'
  | stk => exact h
theorem Acc.bind {α β γ δ : Type} {W : Nat → Hp → Prop} {rep : List Addr → Hp → α → β → Prop} {rep' : List Addr → Hp → γ → δ → Prop} {G : Gs} {ι : List Addr} {H : Hp} {Q : δ → Hp → Prop} {Q' : β → Hp → Prop} {r : R α} {k : α → Mu → R γ}
    (h : Acc W rep' G ι H Q (r.bind k)) (hk : ∀ ι' H' a b μ', Later ι H ι' H' → Cells G ι' H' μ' → rep ι' H' a b → Acc W rep' G ι' H' Q (k a μ') → Q' b H') : Acc W rep G ι H Q' r := by
  cases r with
  | ok a μ => exact fun ι' H' b l c rr => hk ι' H' a b μ l c rr (Acc.base l h)
  | xc c μ => exact h
  | stk => exact h
theorem Acc.mono {α β : Type} {W : Nat → Hp → Prop} {rep : List Addr → Hp → α → β → Prop} {G : Gs} {ι : List Addr} {H : Hp} {Q Q' : β → Hp → Prop} {r : R α} (h : Acc W rep G ι H Q r) (q : ∀ b H', Q b H' → Q' b H') : Acc W rep G ι H Q' r := by
  cases r with
  | ok a μ => exact fun ι' H' b l c rr => q _ _ (h ι' H' b l c rr)
  | xc c μ => exact h
  | stk => exact h
/-- the value at once -/
theorem Acc.now {α β : Type} {W : Nat → Hp → Prop} {rep : List Addr → Hp → α → β → Prop} {G : Gs} {ι : List Addr} {H : Hp} {Q : β → Hp → Prop} {a : α} {b : β} {μ : Mu} (h : Acc W rep G ι H Q (.ok a μ)) (c : Cells G ι H μ) (r : rep ι H a b) : Q b H := h ι H b (Later.refl _ _) c r

/-- the reading of a denotation -/
def tX {α β : Type} (rep : Gs → List Addr → Hp → α → β → Prop) (G : Gs) (W : WX) (m : Sl → M α) : SV → Hp → (β → Hp → Prop) → Prop := fun σ H Q =>
  ∃ ρ μ ι, EnvR G ι H σ ρ ∧ Cells G ι H μ ∧ Acc (fun c H' => W (.ref (G.aa c)) none σ H') (rep G) G ι H Q (m ρ μ)
abbrev tE (G : Gs) (W : WX) (m : Sl → M D) : TE := tX Rep G W m
abbrev tA (G : Gs) (W : WX) (m : Sl → M (List D)) : TA := tX Reps G W m
def repB (_ : Gs) (_ : List Addr) (_ : Hp) (a b : Bool) : Prop := a = b
abbrev tT (G : Gs) (W : WX) (m : Sl → M Bool) : TT := tX repB G W m
theorem PE.weak {X : Cx} {e : Expr} {t t' : TE} (h : PE X e t) (w : ∀ σ H Q, t' σ H Q → t σ H Q) : PE X e t' := ⟨fun pins s σ H Q I q => h.run pins s σ H Q I (w σ H Q q)⟩
theorem PT.weak {X : Cx} {e : Expr} {t t' : TT} (h : PT X e t) (w : ∀ σ H Q, t' σ H Q → t σ H Q) : PT X e t' := ⟨fun pins s σ H Q I q => h.run pins s σ H Q I (w σ H Q q)⟩
theorem PA.weak {X : Cx} {es : List Expr} {t t' : TA} (h : PA X es t) (w : ∀ σ H Q, t' σ H Q → t σ H Q) : PA X es t' := ⟨fun pos pins s σ H Q I q => h.run pos pins s σ H Q I (w σ H Q q)⟩
/-- two parts, one after the other -/
theorem tX.split {α β γ δ : Type} {rep : Gs → List Addr → Hp → α → β → Prop} {rep' : Gs → List Addr → Hp → γ → δ → Prop} {G : Gs} {W : WX} {m : Sl → M α} {k : Sl → α → M γ} {σ : SV} {H : Hp} {Q : δ → Hp → Prop} {Q' : β → Hp → Prop}
    (h : tX rep' G W (fun ρ => m ρ >>= k ρ) σ H Q)
    (hk : ∀ ρ ι H' a b μ', EnvR G ι H' σ ρ → Cells G ι H' μ' → rep G ι H' a b → Acc (fun c H' => W (.ref (G.aa c)) none σ H') (rep' G) G ι H' Q (k ρ a μ') → Q' b H') : tX rep G W m σ H Q' := by
  obtain ⟨ρ, μ, ι, e, c, h⟩ := h
  exact ⟨ρ, μ, ι, e, c, Acc.bind h fun ι' H' a b μ' l c' r q => hk ρ ι' H' a b μ' (e.later l) c' r q⟩

/-! ### the judgements -/
def ME (X : Cx) (aa : Nat → Addr) (W : WX) (e : Expr) (m : Sl → M D) : Prop := PE X e (tE ⟨X.K, aa⟩ W m)
def MA (X : Cx) (aa : Nat → Addr) (W : WX) (es : List Expr) (m : Sl → M (List D)) : Prop := PA X es (tA ⟨X.K, aa⟩ W m)
def MT (X : Cx) (aa : Nat → Addr) (W : WX) (e : Expr) (m : Sl → M Bool) : Prop := PT X e (tT ⟨X.K, aa⟩ W m)

/-! ### denotations -/
def varE (i : Nat) : Sl → M D := fun ρ μ => match ρ[i]? with
  | some (some d) => .ok d μ
  | _ => .stk
def cE (d : D) : Sl → M D := fun _ => pure d
def binE (g : D → D → M D) (a b : Sl → M D) : Sl → M D := fun ρ => a ρ >>= fun x => b ρ >>= fun y => g x y
def unE (g : D → M D) (a : Sl → M D) : Sl → M D := fun ρ => a ρ >>= fun x => g x
def nilA : Sl → M (List D) := fun _ => pure []
def consA (a : Sl → M D) (as : Sl → M (List D)) : Sl → M (List D) := fun ρ => a ρ >>= fun x => as ρ >>= fun xs => pure (x :: xs)
def starA (a : Sl → M D) (as : Sl → M (List D)) : Sl → M (List D) := fun ρ => a ρ >>= fun x => match x with
  | .tup ds => as ρ >>= fun xs => pure (ds ++ xs)
  | _ => stuck
def tupE (as : Sl → M (List D)) : Sl → M D := fun ρ => as ρ >>= fun xs => if xs.length ≤ sizeLine then pure (.tup xs) else stuck
/-- a new list -/
def newL (ds : List D) : M D := fun μ => .ok (.mr μ.length) (μ ++ [.lst ds])
def lstE (as : Sl → M (List D)) : Sl → M D := fun ρ => as ρ >>= fun xs => if xs.length ≤ sizeLine then newL xs else stuck
def ifE (t : Sl → M Bool) (a b : Sl → M D) : Sl → M D := fun ρ => t ρ >>= fun c => if c then a ρ else b ρ
def asB (d : D) : M Bool := match d with
  | .bl b => pure b
  | _ => stuck
def valT (a : Sl → M D) : Sl → M Bool := fun ρ => a ρ >>= asB
def andT (a b : Sl → M Bool) : Sl → M Bool := fun ρ => a ρ >>= fun c => if c then b ρ else pure false
def orT (a b : Sl → M Bool) : Sl → M Bool := fun ρ => a ρ >>= fun c => if c then pure true else b ρ
def notT (a : Sl → M Bool) : Sl → M Bool := fun ρ => a ρ >>= fun c => pure (!c)
def andE (a b : Sl → M D) : Sl → M D := fun ρ => a ρ >>= fun x => asB x >>= fun c => if c then b ρ else pure (.bl false)
def orE (a b : Sl → M D) : Sl → M D := fun ρ => a ρ >>= fun x => asB x >>= fun c => if c then pure (.bl true) else b ρ

section
variable {X : Cx} {aa : Nat → Addr} {W : WX} {a b c e : Expr} {es : List Expr} {fa fb : Sl → M D} {pos : Pos}
theorem me_var {i : Nat} {x : Str} (hN : X.N[i]? = some x) (hv : Vis X.env.scope x) (hd : (x == ("__debug__" : Str)) = false := by decide) (hcd : (x == ("__classdict__" : Str)) = false := by decide) : ME X aa W (.Name x pos) (varE i) := by
  refine PE.weak (pe_var hN hv hd hcd) fun σ H Q h => ?_
  obtain ⟨ρ, μ, ι, e, c, h⟩ := h
  unfold varE at h
  split at h
  · rename_i d hd
    obtain ⟨v, h1, h2⟩ := e.at_ i d hd
    exact ⟨v, h1, h.now c h2⟩
  · exact h.elim
theorem me_c {d : D} {v : V} (h : PE X e (tC v)) (r : ∀ ι H, Rep ⟨X.K, aa⟩ ι H d v) : ME X aa W e (cE d) := by
  refine PE.weak h fun σ H Q h => ?_
  obtain ⟨ρ, μ, ι, e, c, h⟩ := h
  exact Acc.now (a := d) (b := v) h c (r _ _)
theorem me_int {i : Int} {j} : ME X aa W (.Constant (.int i) j pos) (cE (.int i)) := me_c pe_int fun _ _ => rfl
theorem me_bl {i : Bool} {j} : ME X aa W (.Constant (.bool i) j pos) (cE (.bl i)) := me_c pe_bl fun _ _ => rfl
theorem me_non {j} : ME X aa W (.Constant .none j pos) (cE .non) := me_c pe_non fun _ _ => rfl
theorem me_str {x : Str} {j} : ME X aa W (.Constant (.str x) j pos) (cE (.str x)) := me_c pe_str fun _ _ => rfl
theorem me_globI {x : Str} {i : Int} {t : Tok} (hg : Gl X x) (hm : X.mg x = some (.int i t)) (hd : (x == ("__debug__" : Str)) = false := by decide) : ME X aa W (.Name x pos) (cE (.int i)) := me_c (v := .int i) (pe_glob hg hm ⟨t, rfl⟩ hd) fun _ _ => rfl
theorem me_globF {x : Str} {k : Nat} (hg : Gl X x) (hm : X.mg x = some (.ref (aa k))) (hd : (x == ("__debug__" : Str)) = false := by decide) : ME X aa W (.Name x pos) (cE (.fn k)) := me_c (v := .ref (aa k)) (pe_glob hg hm rfl hd) fun _ _ => rfl

/-- an operation on values, as it is read -/
def OpD (K : PySem.W.Frag) (aa : Nat → Addr) (r : R2) (g : D → D → M D) : Prop := ∀ (W : Nat → Hp → Prop) (ι : List Addr) (H : Hp) (μ : Mu) (dx dy : D) (x y : V) (Q : VK),
  Cells ⟨K, aa⟩ ι H μ → Rep ⟨K, aa⟩ ι H dx x → Rep ⟨K, aa⟩ ι H dy y → Acc W (Rep ⟨K, aa⟩) ⟨K, aa⟩ ι H Q (g dx dy μ) → r x y H Q
def UnD (K : PySem.W.Frag) (aa : Nat → Addr) (r : V → Hp → VK → Prop) (g : D → M D) : Prop := ∀ (W : Nat → Hp → Prop) (ι : List Addr) (H : Hp) (μ : Mu) (dx : D) (x : V) (Q : VK),
  Cells ⟨K, aa⟩ ι H μ → Rep ⟨K, aa⟩ ι H dx x → Acc W (Rep ⟨K, aa⟩) ⟨K, aa⟩ ι H Q (g dx μ) → r x H Q
def CallD (K : PySem.W.Frag) (aa : Nat → Addr) (r : List V → Hp → VK → Prop) (g : List D → M D) : Prop := ∀ (W : Nat → Hp → Prop) (ι : List Addr) (H : Hp) (μ : Mu) (ds : List D) (vs : List V) (Q : VK),
  Cells ⟨K, aa⟩ ι H μ → Reps ⟨K, aa⟩ ι H ds vs → Acc W (Rep ⟨K, aa⟩) ⟨K, aa⟩ ι H Q (g ds μ) → r vs H Q
def MtD (K : PySem.W.Frag) (aa : Nat → Addr) (r : V → List V → Hp → VK → Prop) (g : D → List D → M D) : Prop := ∀ (W : Nat → Hp → Prop) (ι : List Addr) (H : Hp) (μ : Mu) (d : D) (x : V) (ds : List D) (vs : List V) (Q : VK),
  Cells ⟨K, aa⟩ ι H μ → Rep ⟨K, aa⟩ ι H d x → Reps ⟨K, aa⟩ ι H ds vs → Acc W (Rep ⟨K, aa⟩) ⟨K, aa⟩ ι H Q (g d ds μ) → r x vs H Q

theorem read_op {r : R2} {g : D → D → M D} (hg : OpD X.K aa r g) {σ : SV} {H : Hp} {Q : VK} (h : tE ⟨X.K, aa⟩ W (binE g fa fb) σ H Q) : tOp r (tE ⟨X.K, aa⟩ W fa) (tE ⟨X.K, aa⟩ W fb) σ H Q :=
  tX.split (k := fun ρ x => fb ρ >>= fun y => g x y) h fun ρ ι H1 dx x μ1 e c rx h1 => by
    refine ⟨ρ, μ1, ι, e, c, Acc.bind h1 fun ι' H2 dy y μ2 l c2 ry h2 => ?_⟩
    exact hg _ ι' H2 μ2 dx dy x y Q c2 (rx.later l) ry h2
theorem me_op {op : Operator} {r : R2} {g : D → D → M D} (ho : OpR X (binaryOp op) r) (hg : OpD X.K aa r g) (ha : ME X aa W a fa) (hb : ME X aa W b fb) : ME X aa W (.BinOp a op b pos) (binE g fa fb) :=
  PE.weak (pe_op ho ha hb) fun σ H Q h => read_op hg h
theorem me_cmp {op : CmpOp} {r : R2} {g : D → D → M D} (ho : OpR X (compareOp op) r) (hg : OpD X.K aa r g) (ha : ME X aa W a fa) (hb : ME X aa W b fb) (hm : behindInMarks op b = false) : ME X aa W (.Compare a [op] [b] pos) (binE g fa fb) :=
  PE.weak (pe_cmpR ho ha hb hm) fun σ H Q h => read_op hg h
theorem read_test {t : TE} {f : Sl → M D} (ht : ∀ σ H Q, tE ⟨X.K, aa⟩ W f σ H Q → t σ H Q) {σ : SV} {H : Hp} {Q : Bool → Hp → Prop} (h : tT ⟨X.K, aa⟩ W (valT f) σ H Q) : tTest t σ H Q := by
  refine ht σ H _ (tX.split (k := fun _ => asB) h fun ρ ι H1 d v μ1 e c r h1 => ?_)
  unfold asB at h1
  split at h1
  · rename_i b
    exact ⟨b, r, h1.now c rfl⟩
  · exact h1.elim
theorem mt_cmp {op : CmpOp} {r : R2} {g : D → D → M D} (ho : OpR X (compareOp op) r) (hg : OpD X.K aa r g) (ha : ME X aa W a fa) (hb : ME X aa W b fb) (hm : behindInMarks op b = false) : MT X aa W (.Compare a [op] [b] pos) (valT (binE g fa fb)) :=
  PT.weak (pt_cmpR ho ha hb hm) fun σ H Q h => read_test (fun σ H Q h => read_op hg h) h
theorem mt_val {f : Sl → M D} (h : ME X aa W e f) (he : ∀ whole, isTrue e X.env whole = (do let v ← whole; standAt e.pos; holding [v] (truthy v)) := by intro _; rfl) : MT X aa W e (valT f) :=
  PT.weak (pt_val h he) fun σ H Q h => read_test (fun σ H Q h => h) h
theorem me_un {op : UnaryOp} {r : V → Hp → VK → Prop} {g : D → M D} (ho : UnR X (unaryOp op) r) (hg : UnD X.K aa r g) (ha : ME X aa W a fa) : ME X aa W (.UnaryOp op a pos) (unE g fa) :=
  PE.weak (pe_un ho ha) fun σ H Q h => tX.split (k := fun _ => g) h fun ρ ι H1 d v μ1 e c r h1 => hg _ ι H1 μ1 d v Q c r h1

/-! and, or, not, if -/
variable {ta tb : Sl → M Bool} {rest : List Expr}
def MW (X : Cx) (aa : Nat → Addr) (W : WX) (e : Expr) (m : Sl → M Bool) : Prop := PW X e (tT ⟨X.K, aa⟩ W m)
theorem PW.weak {X : Cx} {e : Expr} {t t' : TT} (h : PW X e t) (w : ∀ σ H Q, t' σ H Q → t σ H Q) : PW X e t' := ⟨fun wh pins s σ H Q I q => h.run wh pins s σ H Q I (w σ H Q q)⟩
theorem mw_pt (h : MW X aa W e ta) : MT X aa W e ta := L2.PW.pt h
theorem mw_and1 (ha : MT X aa W a ta) : MW X aa W (.BoolOp .And [a] pos) ta := pw_and1 ha
theorem mw_or1 (ha : MT X aa W a ta) : MW X aa W (.BoolOp .Or [a] pos) ta := pw_or1 ha
theorem mw_and (ha : MT X aa W a ta) (hb : MW X aa W (.BoolOp .And (b :: rest) pos) tb) : MW X aa W (.BoolOp .And (a :: b :: rest) pos) (andT ta tb) :=
  PW.weak (pw_and ha hb) fun σ H Q h => tX.split (k := fun ρ c => if c then tb ρ else pure false) h fun ρ ι H1 d v μ1 e c r h1 => by
    cases (show d = v from r)
    cases d with
    | true => exact ⟨ρ, μ1, ι, e, c, h1⟩
    | false => exact h1.now c rfl
theorem mw_or (ha : MT X aa W a ta) (hb : MW X aa W (.BoolOp .Or (b :: rest) pos) tb) : MW X aa W (.BoolOp .Or (a :: b :: rest) pos) (orT ta tb) :=
  PW.weak (pw_or ha hb) fun σ H Q h => tX.split (k := fun ρ c => if c then pure true else tb ρ) h fun ρ ι H1 d v μ1 e c r h1 => by
    cases (show d = v from r)
    cases d with
    | false => exact ⟨ρ, μ1, ι, e, c, h1⟩
    | true => exact h1.now c rfl
theorem mt_not (ha : MT X aa W a ta) : MT X aa W (.UnaryOp .Not a pos) (notT ta) :=
  PT.weak (pt_not ha) fun σ H Q h => tX.split (k := fun _ c => pure (!c)) h fun ρ ι H1 d v μ1 e c r h1 => by
    cases (show d = v from r)
    exact h1.now c rfl
theorem me_ifE {fc : Sl → M Bool} (hc : MT X aa W c fc) (ha : ME X aa W a fa) (hb : ME X aa W b fb) : ME X aa W (.IfExp c a b pos) (ifE fc fa fb) :=
  PE.weak (pe_ifExp hc ha hb) fun σ H Q h => tX.split (k := fun ρ c => if c then fa ρ else fb ρ) h fun ρ ι H1 d v μ1 e c r h1 => by
    cases (show d = v from r)
    cases d with
    | true => exact ⟨ρ, μ1, ι, e, c, h1⟩
    | false => exact ⟨ρ, μ1, ι, e, c, h1⟩
theorem me_one {op} (ha : ME X aa W a fa) : ME X aa W (.BoolOp op [a] pos) fa := pe_one ha
theorem read_asB {W : Nat → Hp → Prop} {β γ : Type} {rep : List Addr → Hp → β → γ → Prop} {G : Gs} {ι : List Addr} {H : Hp} {Q : γ → Hp → Prop} {d : D} {v : V} {μ : Mu} {k : Bool → M β} (r : Rep G ι H d v) (h : Acc W rep G ι H Q ((asB d >>= k) μ)) :
    ∃ c, d = .bl c ∧ v = .bl c ∧ Acc W rep G ι H Q (k c μ) := by
  rw [bind_at] at h
  unfold asB at h
  split at h
  · exact ⟨_, rfl, r, h⟩
  · exact h.elim
theorem me_and (ha : ME X aa W a fa) (hb : ME X aa W (.BoolOp .And (b :: rest) pos) fb) : ME X aa W (.BoolOp .And (a :: b :: rest) pos) (andE fa fb) :=
  PE.weak (pe_and ha hb) fun σ H Q h => tX.split (k := fun ρ x => asB x >>= fun c => if c then fb ρ else pure (.bl false)) h fun ρ ι H1 d v μ1 e c r h1 => by
    obtain ⟨k, rfl, rfl, h2⟩ := read_asB r h1
    refine ⟨k, rfl, ?_⟩
    cases k with
    | true => exact ⟨ρ, μ1, ι, e, c, h2⟩
    | false => exact h2.now (b := V.bl false) c rfl
theorem me_or (ha : ME X aa W a fa) (hb : ME X aa W (.BoolOp .Or (b :: rest) pos) fb) : ME X aa W (.BoolOp .Or (a :: b :: rest) pos) (orE fa fb) :=
  PE.weak (pe_or ha hb) fun σ H Q h => tX.split (k := fun ρ x => asB x >>= fun c => if c then pure (.bl true) else fb ρ) h fun ρ ι H1 d v μ1 e c r h1 => by
    obtain ⟨k, rfl, rfl, h2⟩ := read_asB r h1
    refine ⟨k, rfl, ?_⟩
    cases k with
    | false => exact ⟨ρ, μ1, ι, e, c, h2⟩
    | true => exact h2.now (b := V.bl true) c rfl

/-! arguments, displays -/
variable {fs : Sl → M (List D)}
theorem ma_nil : MA X aa W [] nilA := PA.weak pa_nil fun σ H Q h => by
  obtain ⟨ρ, μ, ι, e, c, h⟩ := h
  exact Acc.now (a := ([] : List D)) h c Reps.nil
theorem ma_cons (ha : ME X aa W e fa) (hr : MA X aa W es fs) (hs : starEach (e :: es) X.env = (false, eval e X.env) :: starEach es X.env := by rfl) : MA X aa W (e :: es) (consA fa fs) :=
  PA.weak (pa_cons ha hr hs) fun σ H Q h => tX.split (k := fun ρ x => fs ρ >>= fun xs => pure (x :: xs)) h fun ρ ι H1 d v μ1 e c r h1 => by
    refine ⟨ρ, μ1, ι, e, c, Acc.bind h1 fun ι' H2 ds vs μ2 l c2 rs h2 => ?_⟩
    exact h2.now c2 (Reps.cons (r.later l) rs)
theorem me_tup {x1} (h : MA X aa W es fs) : ME X aa W (.Tuple es x1 pos) (tupE fs) :=
  PE.weak (pe_tup h) fun σ H Q h => tX.split (rep := Reps) (k := fun _ xs => if xs.length ≤ sizeLine then pure (D.tup xs) else stuck) h fun ρ ι H1 ds vs μ1 e c r h1 => by
    split at h1
    · rename_i hz
      refine ⟨by rw [← r.len]; exact hz, fun p hp => h1 ι (upd H1 p (.tup vs)) (V.ref p) (Later.new hp) (c.new hp) ?_⟩
      exact ⟨p, vs, rfl, SqT.of upd_same, r.later (Later.new hp)⟩
    · exact h1.elim
theorem newL_acc {W : Nat → Hp → Prop} {G : Gs} {ι : List Addr} {H : Hp} {Q : VK} {ds : List D} {vs : List V} {μ : Mu} (h : Acc W (Rep G) G ι H Q (newL ds μ)) (c : Cells G ι H μ) (r : Reps G ι H ds vs) {p : Addr} (hp : H p = none) : Q (.ref p) (upd H p (.lst vs)) := by
  refine h (ι ++ [p]) (upd H p (.lst vs)) (.ref p) (Later.grow hp) (c.grow hp ⟨vs, upd_same, r.later (Later.grow hp)⟩) ⟨p, ?_, rfl⟩
  rw [← c.len]; simp
theorem me_lst (h : MA X aa W es fs) : ME X aa W (.List es pos) (lstE fs) :=
  PE.weak (pe_lst h) fun σ H Q h => tX.split (k := fun _ xs => if xs.length ≤ sizeLine then newL xs else stuck) h fun ρ ι H1 ds vs μ1 e c r h1 => by
    split at h1
    · rename_i hz
      exact ⟨by rw [← r.len]; exact hz, fun p hp => newL_acc h1 c r hp⟩
    · exact h1.elim
theorem ma_star {p : Pos} (ha : ME X aa W e fa) (hr : MA X aa W es fs) (hs : starEach (.Starred e p :: es) X.env = (true, eval e X.env) :: starEach es X.env := by rfl) : MA X aa W (.Starred e p :: es) (starA fa fs) :=
  PA.weak (StX.pa_star ha hr hs) fun σ H Q h => tX.split (rep := Rep) (k := fun ρ x => match x with
    | .tup ds => fs ρ >>= fun xs => pure (ds ++ xs)
    | _ => stuck) h fun ρ ι H1 d v μ1 e c r h1 => by
    cases d with
    | tup ds =>
      obtain ⟨a, vs, rfl, hq, rs⟩ := r
      refine ⟨a, vs, rfl, .inl hq, ρ, μ1, ι, e, c, Acc.bind h1 fun ι' H2 ds' vs' μ2 l c2 rs2 h2 => ?_⟩
      exact h2.now c2 ((rs.later l).app rs2)
    | _ => exact h1.elim
end
end DL
end TDL2

section TDL3
set_option maxRecDepth 100000
set_option maxHeartbeats 1000000
/-! DL3: operations on data. -/
namespace DL
open PySem L2

theorem opr_or {X : Cx} {f : Value → Value → Sem Value} {r r' : R2} (h : OpR X f r) (h' : OpR X f r') : OpR X f (fun x y H Q => r x y H Q ∨ r' x y H Q) := fun pins s σ H x y v u Q I rx ry q =>
  q.elim (fun q => h pins s σ H x y v u Q I rx ry q) fun q => h' pins s σ H x y v u Q I rx ry q
theorem callr_or {X : Cx} {f : Value} {r r' : List V → Hp → VK → Prop} (h : CallR X f r) (h' : CallR X f r') : CallR X f (fun xs H Q => r xs H Q ∨ r' xs H Q) := fun pins s σ H xs us Q I rv q =>
  q.elim (fun q => h pins s σ H xs us Q I rv q) fun q => h' pins s σ H xs us Q I rv q
def asks {α : Type} (p : Prop) [Decidable p] (m : M α) : M α := if p then m else stuck
theorem asks_acc {α β : Type} {W : Nat → Hp → Prop} {rep : List Addr → Hp → α → β → Prop} {G : Gs} {ι : List Addr} {H : Hp} {Q : β → Hp → Prop} {p : Prop} [Decidable p] {m : M α} {μ : Mu} (h : Acc W rep G ι H Q (asks p m μ)) : p ∧ Acc W rep G ι H Q (m μ) := by
  unfold asks at h
  split at h
  · rename_i hp; exact ⟨hp, h⟩
  · exact h.elim
theorem asks_at {α : Type} {p : Prop} [Decidable p] {m : M α} (h : p) : asks p m = m := if_pos h
/-- the items of a list: a cell, or a locked list -/
def lstOf (μ : Mu) : D → Option (List D)
  | .mr k => match μ[k]? with
    | some (.lst ds) => some ds
    | _ => none
  | .li ds => some ds
  | _ => none
/-- .. or of a tuple -/
def seqOf (μ : Mu) : D → Option (List D)
  | .tup ds => some ds
  | d => lstOf μ d
section
variable {G : Gs} {ι : List Addr} {H : Hp} {μ : Mu}
theorem lst_mr {k : Nat} {ds : List D} {v : V} (C : Cells G ι H μ) (r : Rep G ι H (.mr k) v) (e : μ[k]? = some (.lst ds)) : ∃ a vs, v = .ref a ∧ ι[k]? = some a ∧ H a = some (.lst vs) ∧ Reps G ι H ds vs := by
  obtain ⟨a, ha, rfl⟩ := r
  obtain ⟨vs, h1, h2⟩ := C.at_ k _ a e ha
  exact ⟨a, vs, rfl, ha, h1, h2⟩
theorem lstOf_rep {d : D} {v : V} {ds : List D} (C : Cells G ι H μ) (r : Rep G ι H d v) (e : lstOf μ d = some ds) : ∃ a vs, v = .ref a ∧ SqL G.K H a vs ∧ Reps G ι H ds vs := by
  cases d with
  | mr k =>
    unfold lstOf at e
    simp only at e
    split at e
    · rename_i ds' hk
      cases e
      obtain ⟨a, vs, e1, _, h1, h2⟩ := lst_mr C r hk
      exact ⟨a, vs, e1, SqL.of h1, h2⟩
    · cases e
  | li ds' =>
    cases e
    obtain ⟨a, vs, e1, h1, h2⟩ := r
    exact ⟨a, vs, e1, h1.sq, h2⟩
  | _ => cases e
theorem seqOf_rep {d : D} {v : V} {ds : List D} (C : Cells G ι H μ) (r : Rep G ι H d v) (e : seqOf μ d = some ds) : ∃ a vs, v = .ref a ∧ (SqL G.K H a vs ∨ SqT G.K H a vs) ∧ Reps G ι H ds vs := by
  cases d with
  | tup ds' =>
    cases e
    obtain ⟨a, vs, e1, h1, h2⟩ := r
    exact ⟨a, vs, e1, .inr h1, h2⟩
  | mr k =>
    obtain ⟨a, vs, e1, h1, h2⟩ := lstOf_rep C r (show lstOf μ (.mr k) = some ds from e)
    exact ⟨a, vs, e1, .inl h1, h2⟩
  | li ds' =>
    obtain ⟨a, vs, e1, h1, h2⟩ := lstOf_rep C r (show lstOf μ (.li ds') = some ds from e)
    exact ⟨a, vs, e1, .inl h1, h2⟩
  | _ => cases e
theorem atI_reps {ds : List D} {vs : List V} {i : Int} {d : D} (r : Reps G ι H ds vs) (h : atI ds i = some d) : ∃ v, atI vs i = some v ∧ Rep G ι H d v := by
  unfold atI at h ⊢
  rw [r.len] at h
  cases e : ixN vs.length i with
  | none => rw [e] at h; cases h
  | some j =>
    rw [e] at h
    exact r.get h
def cutD (xs : List D) (lo hi : Option Int) : List D := (xs.drop (HT.sIx xs.length 0 lo)).take (HT.sIx xs.length xs.length hi - HT.sIx xs.length 0 lo)
theorem cut_reps {ds : List D} {vs : List V} (lo hi : Option Int) (r : Reps G ι H ds vs) : Reps G ι H (cutD ds lo hi) (cutV vs lo hi) := by
  unfold cutD cutV
  rw [r.len]
  exact (r.drop _).take _
end

/-! ### + - * // % -/
def addD : D → D → M D
  | .int i, .int j => pure (.int (i + j))
  | .str a, .str b => asks (a.length + b.length ≤ sizeLine) (pure (.str (a ++ b)))
  | .tup a, .tup b => asks (a.length + b.length ≤ sizeLine) (pure (.tup (a ++ b)))
  | .mr k, .mr l => fun μ => match μ[k]?, μ[l]? with
    | some (.lst a), some (.lst b) => asks (a.length + b.length ≤ sizeLine) (newL (a ++ b)) μ
    | _, _ => .stk
  | _, _ => stuck
def rAddAll (K : PySem.W.Frag) : R2 := fun x y H Q => ((rI0 (fun i j => .int (i + j)) x y H Q ∨ (∃ i j, x = .str i ∧ y = .str j ∧ i.length + j.length ≤ sizeLine ∧ Q (.str (i ++ j)) H)) ∨ rCatA K x y H Q) ∨ rCat x y H Q
theorem op_addAll {X : Cx} : OpR X (binaryOp .Add) (rAddAll X.K) := opr_or (opr_or (opr_or op_add op_add_str) op_catA) op_cat
theorem add_ok {K : PySem.W.Frag} {aa : Nat → Addr} : OpD K aa (rAddAll K) addD := by
  intro W ι H μ dx dy x y Q C rx ry h
  cases dx <;> cases dy <;> first | exact h.elim | skip
  · rename_i i j
    cases rx; cases ry
    exact .inl (.inl (.inl ⟨i, j, rfl, rfl, h.now C rfl⟩))
  · rename_i a b
    cases rx; cases ry
    obtain ⟨hz, h⟩ := asks_acc h
    exact .inl (.inl (.inr ⟨a, b, rfl, rfl, hz, h.now C rfl⟩))
  · rename_i a b
    obtain ⟨hz, h⟩ := asks_acc h
    obtain ⟨p, xs, rfl, hp, rp⟩ := rx
    obtain ⟨q, ys, rfl, hq, rq⟩ := ry
    refine .inl (.inr ⟨p, q, xs, ys, rfl, rfl, hp, hq, by rw [← rp.len, ← rq.len]; exact hz, fun e => ?_, fun e1 e2 => ?_, fun e1 e2 t ht => ?_⟩)
    · subst e
      have : a = [] := List.eq_nil_of_length_eq_zero (by rw [rp.len]; rfl)
      subst this
      exact h.now C ⟨q, ys, rfl, hq, rq⟩
    · subst e2
      have : b = [] := List.eq_nil_of_length_eq_zero (by rw [rq.len]; rfl)
      subst this
      rw [List.append_nil] at h
      exact h.now C ⟨p, xs, rfl, hp, rp⟩
    · exact h ι _ _ (Later.new ht) (C.new ht) ⟨t, _, rfl, SqT.of upd_same, (rp.app rq).later (Later.new ht)⟩
  · rename_i k l
    unfold addD at h
    simp only at h
    split at h
    · rename_i a b e1 e2
      obtain ⟨hz, h⟩ := asks_acc h
      obtain ⟨p, xs, rfl, _, hp, rp⟩ := lst_mr C rx e1
      obtain ⟨q, ys, rfl, _, hq, rq⟩ := lst_mr C ry e2
      exact .inr ⟨p, q, xs, ys, rfl, rfl, hp, hq, by rw [← rp.len, ← rq.len]; exact hz, fun t ht => newL_acc h C (rp.app rq) ht⟩
    · exact h.elim
theorem me_add {X : Cx} {aa : Nat → Addr} {W : WX} {a b : Expr} {fa fb : Sl → M D} {pos : Pos} (ha : ME X aa W a fa) (hb : ME X aa W b fb) : ME X aa W (.BinOp a .Add b pos) (binE addD fa fb) := me_op op_addAll add_ok ha hb
def intD (C : Int → Int → Prop) [∀ i j, Decidable (C i j)] (g : Int → Int → D) : D → D → M D
  | .int i, .int j => asks (C i j) (pure (g i j))
  | _, _ => stuck
theorem int_ok {K : PySem.W.Frag} {aa : Nat → Addr} {C : Int → Int → Prop} [∀ i j, Decidable (C i j)] {g : Int → Int → D} {g' : Int → Int → V} (hg : ∀ ι H i j, Rep ⟨K, aa⟩ ι H (g i j) (g' i j)) : OpD K aa (rI C g') (intD C g) := by
  intro W ι H μ dx dy x y Q c rx ry h
  cases dx <;> cases dy <;> first | exact h.elim | skip
  rename_i i j
  cases rx; cases ry
  obtain ⟨hc, h⟩ := asks_acc h
  exact ⟨i, j, rfl, rfl, hc, h.now c (hg ι H i j)⟩
theorem int0_ok {K : PySem.W.Frag} {aa : Nat → Addr} {g : Int → Int → D} {g' : Int → Int → V} (hg : ∀ ι H i j, Rep ⟨K, aa⟩ ι H (g i j) (g' i j)) : OpD K aa (rI0 g') (intD (fun _ _ => True) g) := by
  intro W ι H μ dx dy x y Q c rx ry h
  obtain ⟨i, j, e1, e2, _, q⟩ := int_ok (C := fun _ _ => True) hg W ι H μ dx dy x y Q c rx ry h
  exact ⟨i, j, e1, e2, q⟩
section
variable {X : Cx} {aa : Nat → Addr} {W : WX} {a b c e : Expr} {es : List Expr} {fa fb fc : Sl → M D} {fs : Sl → M (List D)} {pos : Pos}
instance : ∀ i j, Decidable (CMul i j) := fun i j => by unfold CMul; infer_instance
instance : ∀ i j, Decidable (CDiv i j) := fun i j => by unfold CDiv; infer_instance
abbrev subD : D → D → M D := intD (fun _ _ => True) fun i j => .int (i - j)
theorem me_sub (ha : ME X aa W a fa) (hb : ME X aa W b fb) : ME X aa W (.BinOp a .Sub b pos) (binE subD fa fb) := me_op op_sub (int0_ok fun _ _ _ _ => rfl) ha hb
abbrev mulI : D → D → M D := intD CMul fun i j => .int (i * j)
theorem me_mulI (ha : ME X aa W a fa) (hb : ME X aa W b fb) : ME X aa W (.BinOp a .Mult b pos) (binE mulI fa fb) := me_op op_mul (int_ok fun _ _ _ _ => rfl) ha hb
abbrev fdivD : D → D → M D := intD CDiv fun i j => .int (i / j)
theorem me_fdiv (ha : ME X aa W a fa) (hb : ME X aa W b fb) : ME X aa W (.BinOp a .FloorDiv b pos) (binE fdivD fa fb) := me_op op_fdiv (int_ok fun _ _ _ _ => rfl) ha hb
abbrev modD : D → D → M D := intD (fun _ j => 0 < j) fun i j => .int (i % j)
theorem me_mod (ha : ME X aa W a fa) (hb : ME X aa W b fb) : ME X aa W (.BinOp a .Mod b pos) (binE modD fa fb) := me_op op_mod (int_ok fun _ _ _ _ => rfl) ha hb
/-- a list k times -/
def repL : D → D → M D
  | .mr k, .int j => fun μ => match μ[k]? with
    | some (.lst a) => asks (-(2 ^ 63) ≤ j ∧ j < 2 ^ 63 ∧ a.length * j.toNat ≤ sizeLine) (newL (List.replicate j.toNat a).flatten) μ
    | _ => .stk
  | _, _ => stuck
theorem reps_rep {G : Gs} {ι : List Addr} {H : Hp} {ds : List D} {vs : List V} (r : Reps G ι H ds vs) : ∀ n, Reps G ι H (List.replicate n ds).flatten (List.replicate n vs).flatten
  | 0 => Reps.nil
  | n + 1 => by
    rw [List.replicate_succ, List.replicate_succ, List.flatten_cons, List.flatten_cons]
    exact r.app (reps_rep r n)
theorem repL_ok {K : PySem.W.Frag} : OpD K aa rRep repL := by
  intro W ι H μ dx dy x y Q C rx ry h
  cases dx <;> cases dy <;> first | exact h.elim | skip
  rename_i k j
  cases ry
  unfold repL at h
  simp only at h
  split at h
  · rename_i a e1
    obtain ⟨⟨h1, h2, h3⟩, h⟩ := asks_acc h
    obtain ⟨p, xs, rfl, _, hp, rp⟩ := lst_mr C rx e1
    exact ⟨p, j, xs, rfl, rfl, hp, h1, h2, by rw [← rp.len]; exact h3, fun t ht => newL_acc h C (reps_rep rp _) ht⟩
  · exact h.elim
theorem me_mulL (ha : ME X aa W a fa) (hb : ME X aa W b fb) : ME X aa W (.BinOp a .Mult b pos) (binE repL fa fb) := me_op op_rep repL_ok ha hb
def negD : D → M D
  | .int i => pure (.int (-i))
  | _ => stuck
theorem me_neg (ha : ME X aa W a fa) : ME X aa W (.UnaryOp .USub a pos) (unE negD fa) := me_un un_neg (fun W ι H μ d x Q C r h => by
  cases d with
  | int i => cases r; exact ⟨i, rfl, h.now C rfl⟩
  | _ => exact h.elim) ha

/-! ### comparisons -/
abbrev ltD : D → D → M D := intD (fun _ _ => True) fun i j => .bl (decide (i < j))
abbrev leD : D → D → M D := intD (fun _ _ => True) fun i j => .bl (decide (i ≤ j))
abbrev gtD : D → D → M D := intD (fun _ _ => True) fun i j => .bl (decide (j < i))
abbrev geD : D → D → M D := intD (fun _ _ => True) fun i j => .bl (decide (j ≤ i))
theorem lt_ok {K : PySem.W.Frag} : OpD K aa (rI0 fun i j => .bl (decide (i < j))) ltD := int0_ok fun _ _ _ _ => rfl
theorem le_ok {K : PySem.W.Frag} : OpD K aa (rI0 fun i j => .bl (decide (i ≤ j))) leD := int0_ok fun _ _ _ _ => rfl
theorem gt_ok {K : PySem.W.Frag} : OpD K aa (rI0 fun i j => .bl (decide (j < i))) gtD := int0_ok fun _ _ _ _ => rfl
theorem ge_ok {K : PySem.W.Frag} : OpD K aa (rI0 fun i j => .bl (decide (j ≤ i))) geD := int0_ok fun _ _ _ _ => rfl
/-- is None, is True .. -/
def isD (neg : Bool) : D → D → M D
  | d, .non => pure (.bl (xor neg (match d with | .non => true | _ => false)))
  | .bl a, .bl b => pure (.bl (xor neg (decide (a = b))))
  | _, _ => stuck
def rIsN (neg : Bool) : R2 := fun x y H Q => (y = .non ∧ Q (.bl (xor neg (decide (x = .non)))) H) ∨ ∃ a b : Bool, x = .bl a ∧ y = .bl b ∧ Q (.bl (xor neg (decide (a = b)))) H
theorem rep_non {G : Gs} {ι : List Addr} {H : Hp} {d : D} {v : V} (r : Rep G ι H d v) : decide (v = .non) = (match d with | .non => true | _ => false) := by
  cases d with
  | non => cases r; rfl
  | bl _ => cases r; rfl
  | int _ => cases r; rfl
  | str _ => cases r; rfl
  | tup _ => obtain ⟨a, vs, rfl, _⟩ := r; rfl
  | li _ => obtain ⟨a, vs, rfl, _⟩ := r; rfl
  | mr _ => obtain ⟨a, _, rfl⟩ := r; rfl
  | fn _ => cases r; rfl
theorem is_ok {K : PySem.W.Frag} (neg : Bool) : OpD K aa (rIsN neg) (isD neg) := by
  intro W ι H μ dx dy x y Q C rx ry h
  cases dy with
  | non =>
    cases ry
    refine .inl ⟨rfl, ?_⟩
    rw [rep_non rx]
    cases dx <;> exact h.now C rfl
  | bl b =>
    cases dx <;> first | exact h.elim | skip
    rename_i a
    cases rx; cases ry
    exact .inr ⟨a, b, rfl, rfl, h.now C rfl⟩
  | _ => cases dx <;> exact h.elim
theorem op_is : OpR X (compareOp .Is) (rIsN false) := fun pins s σ H x y v u Q I rx ry q => by
  rcases q with ⟨e, q⟩ | ⟨a, b, e1, e2, q⟩
  · exact op_isN pins s σ H x y v u Q I rx ry ⟨e, by simpa using q⟩
  · exact op_isBl pins s σ H x y v u Q I rx ry ⟨a, b, e1, e2, by simpa using q⟩
theorem op_isnt : OpR X (compareOp .IsNot) (rIsN true) := fun pins s σ H x y v u Q I rx ry q => by
  rcases q with ⟨e, q⟩ | ⟨a, b, e1, e2, q⟩
  · exact op_notN pins s σ H x y v u Q I rx ry ⟨e, by simpa using q⟩
  · exact op_notBl pins s σ H x y v u Q I rx ry ⟨a, b, e1, e2, by simpa using q⟩
mutual
/-- what is read, cells and all, n lists deep -/
def view (μ : Mu) : Nat → D → Option PyData
  | _, .non => some .none
  | _, .bl b => some (.bool b)
  | _, .int i => some (.int i)
  | _, .str x => some (.str x)
  | 0, _ => none
  | n + 1, .tup ds => (views μ n ds).map .tuple
  | n + 1, .li ds => (views μ n ds).map .list
  | n + 1, .mr k => match μ[k]? with
    | some (.lst ds) => (views μ n ds).map .list
    | _ => none
  | _, .fn _ => none
def views (μ : Mu) : Nat → List D → Option (List PyData)
  | _, [] => some []
  | n, d :: ds => (view μ n d).bind fun p => (views μ n ds).map fun ps => p :: ps
end
end
end DL
end TDL3

section TDL4
set_option maxRecDepth 100000
set_option maxHeartbeats 1000000
/-! DL4: equality, items, slices, built-in calls, methods of lists. -/
namespace DL
open PySem L2

/-! ### reading data whole -/
section
variable {G : Gs} {ι : List Addr} {H : Hp} {μ : Mu}
mutual
theorem view_dp (C : Cells G ι H μ) : ∀ (n : Nat) (d : D) (v : V) (p : PyData), Rep G ι H d v → view μ n d = some p → Dp G.K H v p
  | n, .non, v, p, r, h => by
    have h' : some PyData.none = some p := by simpa only [view] using h
    cases h'; cases r; exact .non
  | n, .bl b, v, p, r, h => by
    have h' : some (PyData.bool b) = some p := by simpa only [view] using h
    cases h'; cases r; exact .bl b
  | n, .int i, v, p, r, h => by
    have h' : some (PyData.int i) = some p := by simpa only [view] using h
    cases h'; cases r; exact .int i
  | n, .str x, v, p, r, h => by
    have h' : some (PyData.str x) = some p := by simpa only [view] using h
    cases h'; cases r; exact .str x
  | 0, .tup ds, v, p, r, h => by simp only [view] at h; cases h
  | 0, .li ds, v, p, r, h => by simp only [view] at h; cases h
  | 0, .mr k, v, p, r, h => by simp only [view] at h; cases h
  | n + 1, .tup ds, v, p, r, h => by
    simp only [view] at h
    obtain ⟨ps, h1, h2⟩ := Option.map_eq_some_iff.mp h
    subst h2
    obtain ⟨a, vs, rfl, q, rs⟩ := r
    exact .tup q (views_dp C n ds vs ps rs h1)
  | n + 1, .li ds, v, p, r, h => by
    simp only [view] at h
    obtain ⟨ps, h1, h2⟩ := Option.map_eq_some_iff.mp h
    subst h2
    obtain ⟨a, vs, rfl, q, rs⟩ := r
    exact .lst q.sq (views_dp C n ds vs ps rs h1)
  | n + 1, .mr k, v, p, r, h => by
    simp only [view] at h
    split at h
    · rename_i ds e
      obtain ⟨ps, h1, h2⟩ := Option.map_eq_some_iff.mp h
      subst h2
      obtain ⟨a, vs, rfl, _, q, rs⟩ := lst_mr C r e
      exact .lst (SqL.of q) (views_dp C n ds vs ps rs h1)
    · cases h
  | n, .fn k, v, p, r, h => by cases n <;> (simp only [view] at h; cases h)
theorem views_dp (C : Cells G ι H μ) : ∀ (n : Nat) (ds : List D) (vs : List V) (ps : List PyData), Reps G ι H ds vs → views μ n ds = some ps → DpAll G.K H vs ps
  | n, [], vs, ps, r, h => by
    have h' : some ([] : List PyData) = some ps := by simpa only [views] using h
    cases h'
    have := r.nil_iff; subst this
    exact .nil
  | n, d :: ds, vs, ps, r, h => by
    simp only [views] at h
    obtain ⟨p, h1, h2⟩ := Option.bind_eq_some_iff.mp h
    obtain ⟨qs, h3, h4⟩ := Option.map_eq_some_iff.mp h2
    subst h4
    obtain ⟨v, r', rfl, r1, r2⟩ := r.cons_iff
    exact .cons (view_dp C n d v p r1 h1) (views_dp C n ds r' qs r2 h3)
end
end
/-- == and != of data -/
def eqD (neg : Bool) (x y : D) : M D := fun μ => match view μ 8 x, view μ 8 y with
  | some p, some q => if SeqAt.shaped p = true ∧ SeqAt.shaped q = true then .ok (.bl (xor neg (PyData.eqv p q))) μ else .stk
  | _, _ => .stk
theorem eqD_ok {K : PySem.W.Frag} {aa : Nat → Addr} : OpD K aa (rEqD K) (eqD false) := by
  intro W ι H μ dx dy x y Q C rx ry h
  unfold eqD at h
  split at h
  · rename_i p q h1 h2
    split at h
    · rename_i hs
      have h' := Acc.now h C (b := V.bl (xor false (PyData.eqv p q))) rfl
      exact ⟨p, q, view_dp C 8 dx x p rx h1, view_dp C 8 dy y q ry h2, hs.1, hs.2, by simpa using h'⟩
    · exact h.elim
  · exact h.elim
theorem neD_ok {K : PySem.W.Frag} {aa : Nat → Addr} : OpD K aa (rNeD K) (eqD true) := by
  intro W ι H μ dx dy x y Q C rx ry h
  unfold eqD at h
  split at h
  · rename_i p q h1 h2
    split at h
    · rename_i hs
      have h' := Acc.now h C (b := V.bl (xor true (PyData.eqv p q))) rfl
      exact ⟨p, q, view_dp C 8 dx x p rx h1, view_dp C 8 dy y q ry h2, hs.1, hs.2, by simpa using h'⟩
    · exact h.elim
  · exact h.elim

/-! ### items -/
def ixS (d : D) (i : Int) : M D := fun μ => match seqOf μ d with
    | some ds => match atI ds i with
      | some x => .ok x μ
      | none => .stk
    | none => .stk
def ixD : D → D → M D
  | .str z, .int i => match atI z.cps.toList i with
    | some c => asks (z.length ≤ sizeLine) (pure (.str ⟨#[c]⟩))
    | none => stuck
  | d, .int i => ixS d i
  | _, _ => stuck
theorem ix_ok {K : PySem.W.Frag} {aa : Nat → Addr} : OpD K aa (rIx K) ixD := by
  intro W ι H μ dx dy x y Q C rx ry h
  cases dy with
  | int i =>
    cases ry
    have seq : ∀ d, Rep ⟨K, aa⟩ ι H d x → Acc W (Rep ⟨K, aa⟩) ⟨K, aa⟩ ι H Q (ixS d i μ) → rIx K x (.int i) H Q := fun d rx h => by
      unfold ixS at h
      split at h
      · rename_i ds hd
        split at h
        · rename_i z hz
          obtain ⟨a, vs, rfl, q, rs⟩ := seqOf_rep C rx hd
          obtain ⟨w, hw, rw'⟩ := atI_reps rs hz
          rcases q with q | q
          · exact .inl ⟨a, vs, i, w, rfl, rfl, q, hw, h.now C rw'⟩
          · exact .inr (.inl ⟨a, vs, i, w, rfl, rfl, q, hw, h.now C rw'⟩)
        · exact h.elim
      · exact h.elim
    cases dx with
    | str z =>
      cases rx
      have h' : Acc W (Rep ⟨K, aa⟩) ⟨K, aa⟩ ι H Q ((match atI z.cps.toList i with
        | some c => asks (z.length ≤ sizeLine) (pure (D.str ⟨#[c]⟩))
        | none => stuck : M D) μ) := h
      cases hc : atI z.cps.toList i with
      | none => rw [hc] at h'; exact h'.elim
      | some c =>
        rw [hc] at h'
        obtain ⟨hz, h2⟩ := asks_acc h'
        exact .inr (.inr ⟨z, i, c, rfl, rfl, hz, hc, h2.now C rfl⟩)
    | tup ys => exact seq _ rx h
    | li ys => exact seq _ rx h
    | mr ys => exact seq _ rx h
    | _ => exact h.elim
  | _ => cases dx <;> exact h.elim
section
variable {X : Cx} {aa : Nat → Addr} {W : WX} {a b c e o : Expr} {es : List Expr} {fa fb fc fo : Sl → M D} {fs : Sl → M (List D)} {pos : Pos}
theorem me_ix (ha : ME X aa W a fa) (hb : ME X aa W b fb) (hs : PlainIx b) : ME X aa W (.Subscript a b pos) (binE ixD fa fb) :=
  PE.weak (pe_ix ix_seq ha hb hs) fun σ H Q h => read_op ix_ok h
theorem me_eq {k : Nat} (hr : Room k X.A) (ha : ME X aa W a fa) (hb : ME X aa W b fb) : ME X aa W (.Compare a [.Eq] [b] pos) (binE (eqD false) fa fb) := me_cmp (op_eqD hr.units) eqD_ok ha hb (nomark _)
theorem me_ne {k : Nat} (hr : Room k X.A) (ha : ME X aa W a fa) (hb : ME X aa W b fb) : ME X aa W (.Compare a [.NotEq] [b] pos) (binE (eqD true) fa fb) := me_cmp (op_neD hr.units) neD_ok ha hb (nomark _)
theorem mt_eq {k : Nat} (hr : Room k X.A) (ha : ME X aa W a fa) (hb : ME X aa W b fb) : MT X aa W (.Compare a [.Eq] [b] pos) (valT (binE (eqD false) fa fb)) := mt_cmp (op_eqD hr.units) eqD_ok ha hb (nomark _)
theorem mt_ne {k : Nat} (hr : Room k X.A) (ha : ME X aa W a fa) (hb : ME X aa W b fb) : MT X aa W (.Compare a [.NotEq] [b] pos) (valT (binE (eqD true) fa fb)) := mt_cmp (op_neD hr.units) neD_ok ha hb (nomark _)

/-! ### slices -/
def MO (X : Cx) (aa : Nat → Addr) (W : WX) (e : Option Expr) (m : Sl → M (Option Int)) : Prop := PO X e (tX (fun _ _ _ a b => a = b) ⟨X.K, aa⟩ W m)
theorem PO.weak {X : Cx} {e : Option Expr} {t t' : TO} (h : PO X e t) (w : ∀ σ H Q, t' σ H Q → t σ H Q) : PO X e t' := ⟨fun pins s σ H Q I q => h.run pins s σ H Q I (w σ H Q q)⟩
def noO : Sl → M (Option Int) := fun _ => pure none
def partO (f : Sl → M D) : Sl → M (Option Int) := fun ρ => f ρ >>= fun d => match d with
  | .int i => pure (some i)
  | _ => stuck
theorem mo_none : MO X aa W none noO := PO.weak po_none fun σ H Q h => by
  obtain ⟨ρ, μ, ι, e, c, h⟩ := h
  exact Acc.now (a := (none : Option Int)) h c rfl
theorem mo_some (h : ME X aa W e fa) : MO X aa W (some e) (partO fa) := PO.weak (po_some h) fun σ H Q h => by
  refine tX.split (rep := Rep) (k := fun _ d => match d with | .int i => pure (some i) | _ => stuck) h fun ρ ι H1 d v μ1 e c r h1 => ?_
  cases d with
  | int i => exact ⟨i, r, h1.now c rfl⟩
  | _ => exact h1.elim
/-- a[lo:hi] -/
def sliD (lo hi : Option Int) : D → M D
  | .tup ds => pure (.tup (cutD ds lo hi))
  | d => fun μ => match lstOf μ d with
    | some ds => newL (cutD ds lo hi) μ
    | none => .stk
def sliceE (f : Sl → M D) (lo hi : Sl → M (Option Int)) : Sl → M D := fun ρ => f ρ >>= fun d => lo ρ >>= fun l => hi ρ >>= fun h => sliD l h d
def rSlAll (K : PySem.W.Frag) : V → Option Int → Option Int → Hp → VK → Prop := fun x lo hi H Q => rSlA K x lo hi H Q ∨ rSlL K x lo hi H Q
theorem sl_all : SlR X (rSlAll X.K) := fun pins s σ H x v vl vu lo hi sl Q I rx hs pl pu h => h.elim (fun h => sl_tupA pins s σ H x v vl vu lo hi sl Q I rx hs pl pu h) fun h => sl_list pins s σ H x v vl vu lo hi sl Q I rx hs pl pu h
theorem cut_whole {ds : List D} {lo hi : Option Int} (h : HT.sIx ds.length 0 lo = 0 ∧ HT.sIx ds.length ds.length hi = ds.length) : cutD ds lo hi = ds := by
  unfold cutD
  rw [h.1, h.2]
  simp
theorem sli_ok {W : Nat → Hp → Prop} {K : PySem.W.Frag} {ι : List Addr} {H : Hp} {μ : Mu} {d : D} {x : V} {lo hi : Option Int} {Q : VK} (C : Cells ⟨K, aa⟩ ι H μ) (r : Rep ⟨K, aa⟩ ι H d x) (h : Acc W (Rep ⟨K, aa⟩) ⟨K, aa⟩ ι H Q (sliD lo hi d μ)) : rSlAll K x lo hi H Q := by
  have lst : ∀ (ds : List D), lstOf μ d = some ds → Acc W (Rep ⟨K, aa⟩) ⟨K, aa⟩ ι H Q (newL (cutD ds lo hi) μ) → rSlAll K x lo hi H Q := fun ds e h => by
    obtain ⟨a, vs, rfl, q, rs⟩ := lstOf_rep C r e
    exact .inr ⟨a, vs, rfl, q, fun p hp => newL_acc h C (cut_reps lo hi rs) hp⟩
  cases d with
  | tup ds =>
    obtain ⟨a, vs, rfl, q, rs⟩ := r
    refine .inl ⟨a, vs, rfl, q, fun hw => ?_, fun hw p hp => ?_⟩
    · rw [← rs.len] at hw
      have h' : Acc W (Rep ⟨K, aa⟩) ⟨K, aa⟩ ι H Q (.ok (.tup (cutD ds lo hi)) μ) := h
      rw [cut_whole hw] at h'
      exact h'.now C ⟨a, vs, rfl, q, rs⟩
    · exact h ι _ _ (Later.new hp) (C.new hp) ⟨p, _, rfl, SqT.of upd_same, (cut_reps lo hi rs).later (Later.new hp)⟩
  | mr k =>
    unfold sliD at h
    simp only at h
    split at h
    · rename_i ds e
      exact lst ds e h
    · exact h.elim
  | li ds' =>
    unfold sliD at h
    simp only at h
    split at h
    · rename_i ds e
      exact lst ds e h
    · exact h.elim
  | _ => exact h.elim
theorem me_slice {lo hi : Option Expr} {fl fh : Sl → M (Option Int)} {p2 : Pos} (he : ME X aa W e fa) (hl : MO X aa W lo fl) (hh : MO X aa W hi fh) : ME X aa W (.Subscript e (.Slice lo hi none p2) pos) (sliceE fa fl fh) :=
  PE.weak (pe_slice sl_all he hl hh) fun σ H Q h => by
    refine tX.split (rep := Rep) (k := fun ρ d => fl ρ >>= fun l => fh ρ >>= fun h => sliD l h d) h fun ρ ι H1 d v μ1 e c r h1 => ?_
    refine ⟨ρ, μ1, ι, e, c, Acc.bind h1 fun ι2 H2 l l' μ2 la c2 el h2 => ?_⟩
    cases (show l = l' from el)
    refine ⟨ρ, μ2, ι2, e.later la, c2, Acc.bind h2 fun ι3 H3 u u' μ3 lb c3 eu h3 => ?_⟩
    cases (show u = u' from eu)
    exact sli_ok c3 (r.later (la.trans lb)) h3

/-! ### built-in calls -/
def callE (g : List D → M D) (as : Sl → M (List D)) : Sl → M D := fun ρ => as ρ >>= fun ds => g ds
theorem read_call {r : List V → Hp → VK → Prop} {g : List D → M D} (hg : CallD X.K aa r g) {σ : SV} {H : Hp} {Q : VK} (h : tE ⟨X.K, aa⟩ W (callE g fs) σ H Q) : tCB r (tA ⟨X.K, aa⟩ W fs) σ H Q :=
  tX.split (rep := Reps) (k := fun _ ds => g ds) h fun ρ ι H1 ds vs μ1 e c rs h1 => hg _ ι H1 μ1 ds vs Q c rs h1
theorem me_callB {x : Str} {id : String} {r : List V → Hp → VK → Prop} {g : List D → M D} {p : Pos} (hc : CallR X (.builtin id) r) (hg' : CallD X.K aa r g) (hg : Gl X x) (hm : X.mg x = none) (hv : bootBuiltins x = some (.builtin id)) (ha : MA X aa W (e :: es) fs)
    (hn : x ≠ "__name__" := by decide) (hdb : (x == ("__debug__" : Str)) = false := by decide) (he : starEach (e :: es) X.env = (false, eval e X.env) :: starEach es X.env := by rfl) (hpl : (backTo pos (starEach es X.env)).any (·.1) = false := by rfl) :
    ME X aa W (.Call (.Name x p) (e :: es) [] pos) (callE g fs) := PE.weak (pe_callB hc hg hm hv ha hn hdb he hpl) fun σ H Q h => read_call hg' h
theorem me_callTy {x : Str} {T : String} {r : List V → Hp → VK → Prop} {g : List D → M D} {p : Pos} (hc : CallR X (.type T) r) (hg' : CallD X.K aa r g) (hg : Gl X x) (hm : X.mg x = none) (hv : bootBuiltins x = some (.type T)) (ha : MA X aa W (e :: es) fs)
    (hn : x ≠ "__name__" := by decide) (hdb : (x == ("__debug__" : Str)) = false := by decide) (he : starEach (e :: es) X.env = (false, eval e X.env) :: starEach es X.env := by rfl) (hpl : (backTo pos (starEach es X.env)).any (·.1) = false := by rfl) :
    ME X aa W (.Call (.Name x p) (e :: es) [] pos) (callE g fs) := PE.weak (pe_callTy hc hg hm hv ha hn hdb he hpl) fun σ H Q h => read_call hg' h
theorem reps1 {G : Gs} {ι : List Addr} {H : Hp} {d : D} {vs : List V} (r : Reps G ι H [d] vs) : ∃ v, vs = [v] ∧ Rep G ι H d v := by
  obtain ⟨v, r', rfl, r1, r2⟩ := r.cons_iff
  have := r2.nil_iff; subst this
  exact ⟨v, rfl, r1⟩
theorem reps2 {G : Gs} {ι : List Addr} {H : Hp} {d d' : D} {vs : List V} (r : Reps G ι H [d, d'] vs) : ∃ v v', vs = [v, v'] ∧ Rep G ι H d v ∧ Rep G ι H d' v' := by
  obtain ⟨v, r', rfl, r1, r2⟩ := r.cons_iff
  obtain ⟨v', rfl, r3⟩ := reps1 r2
  exact ⟨v, v', rfl, r1, r3⟩
def lenD : List D → M D
  | [.str z] => asks (z.length ≤ sizeLine) (pure (.int z.length))
  | [d] => fun μ => match seqOf μ d with
    | some ds => .ok (.int ds.length) μ
    | none => .stk
  | _ => stuck
def rLenAll (K : PySem.W.Frag) : List V → Hp → VK → Prop := fun xs H Q => (∃ p ys, xs = [.ref p] ∧ (SqL K H p ys ∨ SqT K H p ys) ∧ Q (.int ys.length) H) ∨ (∃ z, xs = [.str z] ∧ z.length ≤ sizeLine ∧ Q (.int z.length) H)
theorem cr_len : CallR X (.builtin "len") (rLenAll X.K) := callr_or call_len_seq call_len_str
theorem len_ok {K : PySem.W.Frag} : CallD K aa (rLenAll K) lenD := by
  intro W ι H μ ds vs Q C rs h
  match ds, rs, h with
  | [.str z], rs, h =>
    obtain ⟨v, rfl, r⟩ := reps1 rs
    cases r
    obtain ⟨hz, h⟩ := asks_acc h
    exact .inr ⟨z, rfl, hz, h.now C rfl⟩
  | [.tup xs], rs, h =>
    obtain ⟨v, rfl, r⟩ := reps1 rs
    obtain ⟨a, ws, rfl, q, rq⟩ := seqOf_rep (μ := μ) (ds := xs) C r rfl
    have h' : Acc W (Rep ⟨K, aa⟩) ⟨K, aa⟩ ι H Q (.ok (.int xs.length) μ) := h
    exact .inl ⟨a, ws, rfl, q, by rw [← rq.len]; exact h'.now C rfl⟩
  | [.li xs], rs, h =>
    obtain ⟨v, rfl, r⟩ := reps1 rs
    obtain ⟨a, ws, rfl, q, rq⟩ := seqOf_rep (μ := μ) (ds := xs) C r rfl
    have h' : Acc W (Rep ⟨K, aa⟩) ⟨K, aa⟩ ι H Q (.ok (.int xs.length) μ) := h
    exact .inl ⟨a, ws, rfl, q, by rw [← rq.len]; exact h'.now C rfl⟩
  | [.mr k], rs, h =>
    obtain ⟨v, rfl, r⟩ := reps1 rs
    unfold lenD at h
    simp only at h
    split at h
    · rename_i xs e
      obtain ⟨a, ws, rfl, q, rq⟩ := seqOf_rep C r e
      exact .inl ⟨a, ws, rfl, q, by rw [← rq.len]; exact h.now C rfl⟩
    · exact h.elim
  | [.non], _, h => exact h.elim
  | [.bl _], _, h => exact h.elim
  | [.int _], _, h => exact h.elim
  | [.fn _], _, h => exact h.elim
  | [], _, h => exact h.elim
  | x :: _ :: _, _, h => cases x <;> exact h.elim
def intCD : List D → M D
  | [.int i] => pure (.int i)
  | [.bl b] => pure (.int (if b then 1 else 0))
  | _ => stuck
theorem intC_ok {K : PySem.W.Frag} : CallD K aa (fun xs H Q => (∃ i, xs = [.int i] ∧ Q (.int i) H) ∨ ∃ k, xs = [.bl k] ∧ Q (.int (if k then 1 else 0)) H) intCD := by
  intro W ι H μ ds vs Q C rs h
  match ds, rs, h with
  | [.int i], rs, h =>
    obtain ⟨v, rfl, r⟩ := reps1 rs
    cases r
    exact .inl ⟨i, rfl, h.now C rfl⟩
  | [.bl i], rs, h =>
    obtain ⟨v, rfl, r⟩ := reps1 rs
    cases r
    exact .inr ⟨i, rfl, h.now C rfl⟩
  | [.non], _, h => exact h.elim
  | [.tup _], _, h => exact h.elim
  | [.li _], _, h => exact h.elim
  | [.str _], _, h => exact h.elim
  | [.mr _], _, h => exact h.elim
  | [.fn _], _, h => exact h.elim
  | [], _, h => exact h.elim
  | x :: _ :: _, _, h => cases x <;> exact h.elim
def listCD : List D → M D
  | [d] => fun μ => match seqOf μ d with
    | some ds => newL ds μ
    | none => .stk
  | _ => stuck
theorem listC_ok {K : PySem.W.Frag} : CallD K aa (fun xs H Q => ∃ p ys, xs = [.ref p] ∧ (SqL K H p ys ∨ SqT K H p ys) ∧ ∀ l, H l = none → Q (.ref l) (upd H l (.lst ys))) listCD := by
  intro W ι H μ ds vs Q C rs h
  match ds, rs, h with
  | [d], rs, h =>
    obtain ⟨v, rfl, r⟩ := reps1 rs
    unfold listCD at h
    simp only at h
    split at h
    · rename_i xs e
      obtain ⟨a, ws, rfl, q, rq⟩ := seqOf_rep C r e
      exact ⟨a, ws, rfl, q, fun l hl => newL_acc h C rq hl⟩
    · exact h.elim
  | [], _, h => exact h.elim
  | x :: _ :: _, _, h => cases x <;> exact h.elim
def tupleCD : List D → M D
  | [.tup ds] => pure (.tup ds)
  | [d] => fun μ => match lstOf μ d with
    | some ds => .ok (.tup ds) μ
    | none => .stk
  | _ => stuck
theorem tupleC_ok {K : PySem.W.Frag} : CallD K aa (fun xs H Q => ∃ p ys, xs = [.ref p] ∧ ((SqL K H p ys ∧ ∀ l, H l = none → Q (.ref l) (upd H l (.tup ys))) ∨ (SqT K H p ys ∧ Q (.ref p) H))) tupleCD := by
  intro W ι H μ ds vs Q C rs h
  have lst : ∀ (d : D) (xs : List D) (v : V), lstOf μ d = some xs → Rep ⟨K, aa⟩ ι H d v → Acc W (Rep ⟨K, aa⟩) ⟨K, aa⟩ ι H Q (.ok (.tup xs) μ) → ∃ p ys, [v] = [V.ref p] ∧ ((SqL K H p ys ∧ ∀ l, H l = none → Q (.ref l) (upd H l (.tup ys))) ∨ (SqT K H p ys ∧ Q (.ref p) H)) := fun d xs v e r h => by
    obtain ⟨a, ws, rfl, q, rq⟩ := lstOf_rep C r e
    exact ⟨a, ws, rfl, .inl ⟨q, fun l hl => h ι _ _ (Later.new hl) (C.new hl) ⟨l, ws, rfl, SqT.of upd_same, rq.later (Later.new hl)⟩⟩⟩
  match ds, rs, h with
  | [.tup xs], rs, h =>
    obtain ⟨v, rfl, r⟩ := reps1 rs
    have r' := r
    obtain ⟨a, ws, rfl, q, rq⟩ := r
    exact ⟨a, ws, rfl, .inr ⟨q, h.now C r'⟩⟩
  | [.mr k], rs, h =>
    obtain ⟨v, rfl, r⟩ := reps1 rs
    unfold tupleCD at h
    simp only at h
    split at h
    · rename_i xs e; exact lst _ xs v e r h
    · exact h.elim
  | [.li k], rs, h =>
    obtain ⟨v, rfl, r⟩ := reps1 rs
    exact lst (.li k) k v rfl r h
  | [.non], _, h => exact h.elim
  | [.bl _], _, h => exact h.elim
  | [.int _], _, h => exact h.elim
  | [.str _], _, h => exact h.elim
  | [.fn _], _, h => exact h.elim
  | [], _, h => exact h.elim
  | x :: _ :: _, _, h => cases x <;> exact h.elim
def two (g : Int → Int → Int) : List D → M D
  | [.int i, .int j] => pure (.int (g i j))
  | _ => stuck
theorem two_ok {K : PySem.W.Frag} (g : Int → Int → Int) : CallD K aa (fun xs H Q => ∃ i j, xs = [.int i, .int j] ∧ Q (.int (g i j)) H) (two g) := by
  intro W ι H μ ds vs Q C rs h
  unfold two at h
  split at h
  · obtain ⟨v, v', rfl, r1, r2⟩ := reps2 rs
    cases r1; cases r2
    exact ⟨_, _, rfl, h.now C rfl⟩
  · exact h.elim
abbrev maxD : List D → M D := two fun i j => if j > i then j else i
abbrev minD : List D → M D := two fun i j => if j < i then j else i
/-- the truth values of a list of them -/
def boolsOf : List D → Option (List Bool)
  | [] => some []
  | .bl b :: ds => (boolsOf ds).map (b :: ·)
  | _ :: _ => none
theorem bools_reps {G : Gs} {ι : List Addr} {H : Hp} : ∀ {ds : List D} {vs : List V} {bs : List Bool}, Reps G ι H ds vs → boolsOf ds = some bs → vs = bs.map V.bl
  | [], vs, bs, r, h => by cases h; exact r.nil_iff
  | .bl b :: ds, vs, bs, r, h => by
    obtain ⟨cs, h1, h2⟩ := Option.map_eq_some_iff.mp (show (boolsOf ds).map (b :: ·) = some bs from h)
    subst h2
    obtain ⟨v, r', rfl, r1, r2⟩ := r.cons_iff
    cases r1
    rw [bools_reps r2 h1]; rfl
  | .non :: ds, vs, bs, r, h => by cases h
  | .int _ :: ds, vs, bs, r, h => by cases h
  | .str _ :: ds, vs, bs, r, h => by cases h
  | .tup _ :: ds, vs, bs, r, h => by cases h
  | .li _ :: ds, vs, bs, r, h => by cases h
  | .mr _ :: ds, vs, bs, r, h => by cases h
  | .fn _ :: ds, vs, bs, r, h => by cases h
def quantD (q : List Bool → Bool) : List D → M D
  | [d] => fun μ => match (lstOf μ d).bind boolsOf with
    | some bs => .ok (.bl (q bs)) μ
    | none => .stk
  | _ => stuck
theorem quant_ok {K : PySem.W.Frag} (q : List Bool → Bool) : CallD K aa (fun vs H Q => ∃ (a : Addr) (bs : List Bool), vs = [V.ref a] ∧ SqL K H a (bs.map V.bl) ∧ Q (.bl (q bs)) H) (quantD q) := by
  intro W ι H μ ds vs Q C rs h
  match ds, rs, h with
  | [d], rs, h =>
    obtain ⟨v, rfl, r⟩ := reps1 rs
    unfold quantD at h
    simp only at h
    split at h
    · rename_i bs e
      obtain ⟨xs, e1, e2⟩ := Option.bind_eq_some_iff.mp e
      obtain ⟨a, ws, rfl, q, rq⟩ := lstOf_rep C r e1
      have := bools_reps rq e2
      subst this
      exact ⟨a, bs, rfl, q, h.now C rfl⟩
    · exact h.elim
  | [], _, h => exact h.elim
  | x :: _ :: _, _, h => cases x <;> exact h.elim
abbrev allD : List D → M D := quantD fun bs => bs.all id
abbrev anyD : List D → M D := quantD fun bs => bs.any id
end
end DL
end TDL4

section TDL5
set_option maxRecDepth 100000
set_option maxHeartbeats 1000000
/-! DL5: chains, truth, methods of lists, what is walked, comprehensions. -/
namespace DL
open PySem L2 PySem.Spec PyProof.Rows
section
variable {X : Cx} {aa : Nat → Addr} {W : WX} {a b b' c e o : Expr} {es bs : List Expr} {op op' : CmpOp} {ops : List CmpOp} {fa fb fc fo : Sl → M D} {fs : Sl → M (List D)} {pos : Pos}
/-! ### chains of comparisons -/
abbrev Ax (X : Cx) (aa : Nat → Addr) (W : WX) (σ : SV) : Nat → Hp → Prop := fun c H' => W (.ref (aa c)) none σ H'
def CH (X : Cx) (aa : Nat → Addr) (W : WX) (ops : List CmpOp) (bs : List Expr) (g : D → Sl → M D) : Prop :=
  ∀ (pos : Pos) (pins : List (Addr × Obj)) (s : Shared) (σ : SV) (H : Hp) (x : V) (v : Value) (Q : VK), Inv X pins σ H s → RelV x v →
    (∃ ρ μ ι d, EnvR ⟨X.K, aa⟩ ι H σ ρ ∧ Cells ⟨X.K, aa⟩ ι H μ ∧ Rep ⟨X.K, aa⟩ ι H d x ∧ Acc (Ax X aa W σ) (Rep ⟨X.K, aa⟩) ⟨X.K, aa⟩ ι H Q (g d ρ μ)) →
    wpAny (model X.prog X.w) X.A (compareChain pos v ops (evalEach bs X.env)) (EP X pins σ Q) X.xe s
def TH (X : Cx) (aa : Nat → Addr) (W : WX) (ops : List CmpOp) (bs : List Expr) (g : D → Sl → M Bool) : Prop :=
  ∀ (pos : Pos) (pins : List (Addr × Obj)) (s : Shared) (σ : SV) (H : Hp) (x : V) (v : Value) (Q : Bool → Hp → Prop), Inv X pins σ H s → RelV x v →
    (∃ ρ μ ι d, EnvR ⟨X.K, aa⟩ ι H σ ρ ∧ Cells ⟨X.K, aa⟩ ι H μ ∧ Rep ⟨X.K, aa⟩ ι H d x ∧ Acc (Ax X aa W σ) (repB ⟨X.K, aa⟩) ⟨X.K, aa⟩ ι H Q (g d ρ μ)) →
    wpAny (model X.prog X.w) X.A (testChain pos v ops (evalEach bs X.env)) (TP X pins σ Q) X.xe s
def lastC (g0 : D → D → M D) (fb : Sl → M D) : D → Sl → M D := fun x ρ => fb ρ >>= fun y => g0 x y
def linkC (g0 : D → D → M D) (fb : Sl → M D) (r : D → Sl → M D) : D → Sl → M D := fun x ρ => fb ρ >>= fun y => g0 x y >>= fun z => asB z >>= fun k => if k then r y ρ else pure (.bl false)
def lastT (g0 : D → D → M D) (fb : Sl → M D) : D → Sl → M Bool := fun x ρ => fb ρ >>= fun y => g0 x y >>= asB
def linkT (g0 : D → D → M D) (fb : Sl → M D) (r : D → Sl → M Bool) : D → Sl → M Bool := fun x ρ => fb ρ >>= fun y => g0 x y >>= fun z => asB z >>= fun k => if k then r y ρ else pure false
def chainE {α : Type} (fa : Sl → M D) (r : D → Sl → M α) : Sl → M α := fun ρ => fa ρ >>= fun x => r x ρ
variable {r0 : R2} {g0 : D → D → M D}
theorem ch_last (ho : OpR X (compareOp op) r0) (hg : OpD X.K aa r0 g0) (hb : ME X aa W b fb) : CH X aa W [op] [b] (lastC g0 fb) := fun pos pins s σ H x v Q I rx ⟨ρ, μ, ι, d, e, c, r, h⟩ => by
  show wpAny _ _ (compareChain pos v [op] [eval b X.env]) _ _ s
  refine chain_last (thn (PE.run hb pins s σ H (fun y H1 => r0 x y H1 Q) I ⟨ρ, μ, ι, e, c, Acc.bind h fun ι2 H2 dy y μ2 l c2 ry h2 => ?_⟩) fun u s2 ⟨y, H2, I2, r2, q2⟩ => ho pins s2 σ H2 x y v u Q I2 rx r2 q2)
  exact hg _ ι2 H2 μ2 d dy x y Q c2 (r.later l) ry h2
theorem ch_link {rf : D → Sl → M D} (ho : OpR X (compareOp op) r0) (hg : OpD X.K aa r0 g0) (hb : ME X aa W b fb) (hr : CH X aa W (op' :: ops) (b' :: bs) rf) : CH X aa W (op :: op' :: ops) (b :: b' :: bs) (linkC g0 fb rf) := fun pos pins s σ H x v Q I rx ⟨ρ, μ, ι, d, e, c, r, h⟩ => by
  show wpAny _ _ (compareChain pos v (op :: op' :: ops) (eval b X.env :: eval b' X.env :: evalEach bs X.env)) _ _ s
  refine chain_link (thn (PE.run hb pins s σ H (fun y H1 => r0 x y H1 fun z H2 => ∃ k, z = .bl k ∧ if k = true then (∃ ρ μ ι d, EnvR ⟨X.K, aa⟩ ι H2 σ ρ ∧ Cells ⟨X.K, aa⟩ ι H2 μ ∧ Rep ⟨X.K, aa⟩ ι H2 d y ∧ Acc (Ax X aa W σ) (Rep ⟨X.K, aa⟩) ⟨X.K, aa⟩ ι H2 Q (rf d ρ μ)) else Q (.bl false) H2) I
    ⟨ρ, μ, ι, e, c, Acc.bind h fun ι2 H2 dy y μ2 l c2 ry h2 => ?_⟩) fun u s2 ⟨y, H2, I2, r2, q2⟩ => thn (ho pins s2 σ H2 x y v u _ I2 rx r2 q2) fun w s3 ⟨z, H3, I3, r3, k, ez, q3⟩ => ?_)
  · refine hg (Ax X aa W σ) ι2 H2 μ2 d dy x y _ c2 (r.later l) ry (Acc.bind h2 fun ι3 H3 dz z μ3 l3 c3 rz h3 => ?_)
    obtain ⟨k, rfl, rfl, h4⟩ := read_asB rz h3
    refine ⟨k, rfl, ?_⟩
    cases k with
    | true => exact ⟨ρ, μ3, ι3, dy, e.later (l.trans l3), c3, ry.later l3, h4⟩
    | false => exact h4.now (b := V.bl false) c3 rfl
  · subst ez
    cases r3
    refine wpAny_truthy_bool ?_
    cases k with
    | true => exact ite_tt (hr pos pins s3 σ H3 y u Q I3 r2 q3)
    | false => exact ite_ff ⟨.bl false, H3, I3, rfl, q3⟩
theorem me_chain {r : D → Sl → M D} (ha : ME X aa W a fa) (hr : CH X aa W (op :: op' :: ops) (b :: b' :: bs) r) (hm : lastMarks (op :: op' :: ops) (b :: b' :: bs) = false := by with_unfolding_all rfl) :
    ME X aa W (.Compare a (op :: op' :: ops) (b :: b' :: bs) pos) (chainE fa r) := by
  refine ⟨fun pins s σ H Q I h => ?_⟩
  obtain ⟨ρ, μ, ι, e, c, h⟩ := h
  refine Compare_chain (thn (PE.run ha pins s σ H (fun x H1 => ∃ ρ μ ι d, EnvR ⟨X.K, aa⟩ ι H1 σ ρ ∧ Cells ⟨X.K, aa⟩ ι H1 μ ∧ Rep ⟨X.K, aa⟩ ι H1 d x ∧ Acc (Ax X aa W σ) (Rep ⟨X.K, aa⟩) ⟨X.K, aa⟩ ι H1 Q (r d ρ μ)) I
    ⟨ρ, μ, ι, e, c, Acc.bind h fun ι2 H2 dx x μ2 l c2 rx h2 => ⟨ρ, μ2, ι2, dx, e.later l, c2, rx, h2⟩⟩) fun v s1 ⟨x, H1, I1, r1, q1⟩ => ?_) hm
  exact hr pos pins s1 σ H1 x v Q I1 r1 q1
theorem th_last (ho : OpR X (compareOp op) r0) (hg : OpD X.K aa r0 g0) (hb : ME X aa W b fb) : TH X aa W [op] [b] (lastT g0 fb) := fun pos pins s σ H x v Q I rx ⟨ρ, μ, ι, d, e, c, r, h⟩ => by
  show wpAny _ _ (testChain pos v [op] [eval b X.env]) _ _ s
  refine test_last (thn (PE.run hb pins s σ H (fun y H1 => r0 x y H1 fun z H2 => ∃ k, z = .bl k ∧ Q k H2) I ⟨ρ, μ, ι, e, c, Acc.bind h fun ι2 H2 dy y μ2 l c2 ry h2 => ?_⟩) fun u s2 ⟨y, H2, I2, r2, q2⟩ =>
    thn (ho pins s2 σ H2 x y v u _ I2 rx r2 q2) fun w s3 ⟨z, H3, I3, r3, k, ez, q3⟩ => ?_)
  · refine hg (Ax X aa W σ) ι2 H2 μ2 d dy x y _ c2 (r.later l) ry (Acc.bind h2 fun ι3 H3 dz z μ3 l3 c3 rz h3 => ?_)
    unfold asB at h3
    split at h3
    · exact ⟨_, rz, h3.now c3 rfl⟩
    · exact h3.elim
  · subst ez
    cases r3
    exact wpAny_truthy_bool ⟨H3, I3, q3⟩
theorem th_link {rf : D → Sl → M Bool} (ho : OpR X (compareOp op) r0) (hg : OpD X.K aa r0 g0) (hb : ME X aa W b fb) (hr : TH X aa W (op' :: ops) (b' :: bs) rf) : TH X aa W (op :: op' :: ops) (b :: b' :: bs) (linkT g0 fb rf) := fun pos pins s σ H x v Q I rx ⟨ρ, μ, ι, d, e, c, r, h⟩ => by
  show wpAny _ _ (testChain pos v (op :: op' :: ops) (eval b X.env :: eval b' X.env :: evalEach bs X.env)) _ _ s
  refine test_link (thn (PE.run hb pins s σ H (fun y H1 => r0 x y H1 fun z H2 => ∃ k, z = .bl k ∧ if k = true then (∃ ρ μ ι d, EnvR ⟨X.K, aa⟩ ι H2 σ ρ ∧ Cells ⟨X.K, aa⟩ ι H2 μ ∧ Rep ⟨X.K, aa⟩ ι H2 d y ∧ Acc (Ax X aa W σ) (repB ⟨X.K, aa⟩) ⟨X.K, aa⟩ ι H2 Q (rf d ρ μ)) else Q false H2) I
    ⟨ρ, μ, ι, e, c, Acc.bind h fun ι2 H2 dy y μ2 l c2 ry h2 => ?_⟩) fun u s2 ⟨y, H2, I2, r2, q2⟩ => thn (ho pins s2 σ H2 x y v u _ I2 rx r2 q2) fun w s3 ⟨z, H3, I3, r3, k, ez, q3⟩ => ?_)
  · refine hg (Ax X aa W σ) ι2 H2 μ2 d dy x y _ c2 (r.later l) ry (Acc.bind h2 fun ι3 H3 dz z μ3 l3 c3 rz h3 => ?_)
    obtain ⟨k, rfl, rfl, h4⟩ := read_asB rz h3
    refine ⟨k, rfl, ?_⟩
    cases k with
    | true => exact ⟨ρ, μ3, ι3, dy, e.later (l.trans l3), c3, ry.later l3, h4⟩
    | false => exact h4.now c3 rfl
  · subst ez
    cases r3
    refine wpAny_truthy_bool ?_
    cases k with
    | true => exact ite_tt (hr pos pins s3 σ H3 y u Q I3 r2 q3)
    | false => exact ite_ff ⟨H3, I3, q3⟩
theorem mt_chain {r : D → Sl → M Bool} (ha : ME X aa W a fa) (hr : TH X aa W (op :: op' :: ops) (b :: b' :: bs) r) (hm : lastMarks (op :: op' :: ops) (b :: b' :: bs) = false := by with_unfolding_all rfl) :
    MT X aa W (.Compare a (op :: op' :: ops) (b :: b' :: bs) pos) (chainE fa r) := by
  refine ⟨fun pins s σ H Q I h => ?_⟩
  obtain ⟨ρ, μ, ι, e, c, h⟩ := h
  refine isTrue_chain (thn (PE.run ha pins s σ H (fun x H1 => ∃ ρ μ ι d, EnvR ⟨X.K, aa⟩ ι H1 σ ρ ∧ Cells ⟨X.K, aa⟩ ι H1 μ ∧ Rep ⟨X.K, aa⟩ ι H1 d x ∧ Acc (Ax X aa W σ) (repB ⟨X.K, aa⟩) ⟨X.K, aa⟩ ι H1 Q (r d ρ μ)) I
    ⟨ρ, μ, ι, e, c, Acc.bind h fun ι2 H2 dx x μ2 l c2 rx h2 => ⟨ρ, μ2, ι2, dx, e.later l, c2, rx, h2⟩⟩) fun v s1 ⟨x, H1, I1, r1, q1⟩ => ?_) hm
  exact hr pos pins s1 σ H1 x v Q I1 r1 q1

/-! ### truth -/
def truD : D → M Bool
  | .non => pure false
  | .bl b => pure b
  | .int i => pure (i != 0)
  | .str y => asks (y.length ≤ sizeLine) (pure ((y.length : Int) != 0))
  | .tup ds => pure (!ds.isEmpty)
  | .li ds => pure (!ds.isEmpty)
  | .mr k => fun μ => match μ[k]? with
    | some (.lst ds) => .ok (!ds.isEmpty) μ
    | _ => .stk
  | .fn _ => stuck
def truT (f : Sl → M D) : Sl → M Bool := fun ρ => f ρ >>= truD
theorem reps_emp {G : Gs} {ι : List Addr} {H : Hp} {ds : List D} {vs : List V} (r : Reps G ι H ds vs) : (!ds.isEmpty) = !vs.isEmpty := by
  cases ds with
  | nil => rw [r.nil_iff]; rfl
  | cons d ds => obtain ⟨v, r', rfl, _⟩ := r.cons_iff; rfl
theorem mt_truth (ha : ME X aa W a fa) (he : ∀ whole, isTrue a X.env whole = (do let v ← whole; standAt a.pos; holding [v] (truthy v)) := by intro _; rfl) : MT X aa W a (truT fa) :=
  PT.weak (pt_truth ha he) fun σ H Q h => by
    refine tX.split (rep := Rep) (k := fun _ => truD) h fun ρ ι H1 d v μ1 e c r h1 => ?_
    cases d with
    | non => cases r; exact ⟨false, rfl, h1.now c rfl⟩
    | bl b => cases r; exact ⟨b, rfl, h1.now c rfl⟩
    | int i => cases r; exact ⟨_, rfl, h1.now c rfl⟩
    | str y =>
      cases r
      obtain ⟨hz, h2⟩ := asks_acc (m := pure ((y.length : Int) != 0)) h1
      exact ⟨_, ⟨hz, rfl⟩, h2.now c rfl⟩
    | tup ds =>
      obtain ⟨p, vs, rfl, q, rs⟩ := r
      exact ⟨_, .inr (.inl ⟨vs, q, reps_emp rs⟩), h1.now c rfl⟩
    | li ds =>
      obtain ⟨p, vs, rfl, q, rs⟩ := r
      exact ⟨_, .inl ⟨vs, q.sq, reps_emp rs⟩, h1.now c rfl⟩
    | mr k =>
      unfold truD at h1
      simp only at h1
      split at h1
      · rename_i ds ek
        obtain ⟨p, vs, rfl, _, q, rs⟩ := lst_mr c r ek
        exact ⟨_, .inl ⟨vs, SqL.of q, reps_emp rs⟩, h1.now c rfl⟩
      · exact h1.elim
    | fn k => exact h1.elim

/-! ### methods of lists -/
/-- the receiver is a list -/
def recvL (d : D) : M Unit := fun μ => match lstOf μ d with
  | some _ => .ok () μ
  | none => .stk
def mtE (g : D → List D → M D) (fo : Sl → M D) (fs : Sl → M (List D)) : Sl → M D := fun ρ => fo ρ >>= fun d => recvL d >>= fun _ => fs ρ >>= fun ds => g d ds
theorem recv_acc {W : Nat → Hp → Prop} {K : PySem.W.Frag} {ι : List Addr} {H : Hp} {μ : Mu} {d : D} {v : V} {Q : VK} {k : Unit → M D} (C : Cells ⟨K, aa⟩ ι H μ) (r : Rep ⟨K, aa⟩ ι H d v) (h : Acc W (Rep ⟨K, aa⟩) ⟨K, aa⟩ ι H Q ((recvL d >>= k) μ)) :
    tyV K "list" v H ∧ Acc W (Rep ⟨K, aa⟩) ⟨K, aa⟩ ι H Q (k () μ) := by
  rw [bind_at] at h
  unfold recvL at h
  split at h
  · rename_i ds e
    obtain ⟨p, vs, rfl, q, rs⟩ := lstOf_rep C r e
    exact ⟨.inl ⟨rfl, vs, q⟩, h⟩
  · exact h.elim
variable {name : Str} {apos cpos : Pos} {id : String} {rm : V → List V → Hp → VK → Prop} {gm : D → List D → M D}
theorem me_mt0 (pa : PlainAttrs "list") (slot : Slot "list" name id) (hty : typeOf (.builtin id) = pure (.type "method_descriptor")) (hm : MtR X id rm) (hg : MtD X.K aa rm gm) (ho : ME X aa W o fo)
    (hbase : attributeBase o name X.env (eval o X.env) = eval o X.env := by rfl) (hline : (apos.endLine == cpos.line) = true := by rfl) : ME X aa W (.Call (.Attribute o name apos) [] [] cpos) (mtE gm fo nilA) :=
  PE.weak (pe_bm0 pa slot hty hm ho hbase hline) fun σ H Q h => by
    refine tX.split (rep := Rep) (k := fun ρ d => recvL d >>= fun _ => nilA ρ >>= fun ds => gm d ds) h fun ρ ι H1 d v μ1 e c r h1 => ?_
    obtain ⟨ty, h2⟩ := recv_acc c r h1
    exact ⟨ty, hg _ ι H1 μ1 d v [] [] Q c r Reps.nil h2⟩
theorem me_mt (pa : PlainAttrs "list") (slot : Slot "list" name id) (hty : typeOf (.builtin id) = pure (.type "method_descriptor")) (hm : MtR X id rm) (hg : MtD X.K aa rm gm) (ho : ME X aa W o fo) (ha : MA X aa W (e :: es) fs)
    (hbase : attributeBase o name X.env (eval o X.env) = eval o X.env := by rfl)
    (hfew : ((backTo cpos (starEach (e :: es) X.env)).all (fun x => !x.1) && (backToKw cpos (keywordEach [] X.env)).all (fun x => x.1.isSome)
      && decide ((e :: es).length + ([] : List Keyword).length + (if ([] : List Keyword).isEmpty then 0 else 1) < 30)) = true := by rfl)
    (hline : (apos.endLine == cpos.line) = true := by rfl) (hs : starEach (e :: es) X.env = (false, eval e X.env) :: starEach es X.env := by rfl) (hplain : (backTo cpos (starEach es X.env)).any (·.1) = false := by rfl) :
    ME X aa W (.Call (.Attribute o name apos) (e :: es) [] cpos) (mtE gm fo fs) :=
  PE.weak (pe_bm pa slot hty hm ho ha hbase hfew hline hs hplain) fun σ H Q h => by
    refine tX.split (rep := Rep) (k := fun ρ d => recvL d >>= fun _ => fs ρ >>= fun ds => gm d ds) h fun ρ ι H1 d v μ1 e c r h1 => ?_
    obtain ⟨ty, h2⟩ := recv_acc c r h1
    refine ⟨ty, ρ, μ1, ι, e, c, Acc.bind h2 fun ι2 H2 ds vs μ2 l c2 rs h3 => ?_⟩
    exact hg _ ι2 H2 μ2 d v ds vs Q c2 (r.later l) rs h3
/-- a list cell takes new items -/
def setL (k : Nat) (ds : List D) (d : D) : M D := fun μ => .ok d (μ.set k (.lst ds))
theorem setL_acc {W : Nat → Hp → Prop} {G : Gs} {ι : List Addr} {H : Hp} {μ : Mu} {k : Nat} {p : Addr} {vs ws : List V} {ds : List D} {d : D} {v : V} {Q : VK} (C : Cells G ι H μ) (ha : ι[k]? = some p) (hp : H p = some (.lst vs))
    (rs : Reps G ι H ds ws) (r : Rep G ι H d v) (h : Acc W (Rep G) G ι H Q (setL k ds d μ)) : Q v (upd H p (.lst ws)) := by
  have l : Later ι H ι (upd H p (.lst ws)) := ⟨List.prefix_refl _, KeepT.put hp (fun _ z => nomatch z) fun _ _ z => nomatch z⟩
  exact h ι _ v l (C.put ha hp (fun _ z => nomatch z) (fun _ _ z => nomatch z) ⟨ws, upd_same, rs.later l⟩) (r.later l)
def appendD : D → List D → M D
  | .mr k, [x] => fun μ => match μ[k]? with
    | some (.lst ds) => asks (ds.length < sizeLine) (setL k (ds ++ [x]) .non) μ
    | _ => .stk
  | _, _ => stuck
theorem append_ok {K : PySem.W.Frag} : MtD K aa rAppend appendD := by
  intro W ι H μ d x ds vs Q C r rs h
  cases d with
  | mr k =>
    cases ds with
    | nil => exact h.elim
    | cons y t =>
    cases t with
    | cons _ _ => exact h.elim
    | nil =>
    unfold appendD at h
    simp only at h
    split at h
    · rename_i xs ek
      obtain ⟨hz, h⟩ := asks_acc h
      obtain ⟨p, ws, rfl, hp, q, rq⟩ := lst_mr C r ek
      obtain ⟨v, rfl, rv⟩ := reps1 rs
      exact ⟨p, ws, v, rfl, rfl, q, by rw [← rq.len]; exact hz, setL_acc C hp q (rq.app (Reps.one rv)) (show Rep ⟨K, aa⟩ ι H D.non V.non from rfl) h⟩
    · exact h.elim
  | _ => exact h.elim
def extendD : D → List D → M D
  | .mr k, [.mr j] => fun μ => match μ[k]?, μ[j]? with
    | some (.lst ds), some (.lst es) => asks (ds.length + es.length ≤ sizeLine) (setL k (ds ++ es) .non) μ
    | _, _ => .stk
  | _, _ => stuck
theorem extend_ok {K : PySem.W.Frag} : MtD K aa rExtend extendD := by
  intro W ι H μ d x ds vs Q C r rs h
  cases d with
  | mr k =>
    cases ds with
    | nil => exact h.elim
    | cons y t =>
    cases t with
    | cons _ _ => cases y <;> exact h.elim
    | nil =>
    cases y with
    | mr j =>
     unfold extendD at h
     simp only at h
     split at h
     · rename_i xs ys ek ej
       obtain ⟨hz, h⟩ := asks_acc h
       obtain ⟨p, ws, rfl, hp, q, rq⟩ := lst_mr C r ek
       obtain ⟨v, rfl, rv⟩ := reps1 rs
       obtain ⟨p2, zs, rfl, hp2, q2, rq2⟩ := lst_mr C rv ej
       exact ⟨p, p2, ws, zs, rfl, rfl, q, q2, by rw [← rq.len, ← rq2.len]; exact hz, setL_acc C hp q (rq.app rq2) (show Rep ⟨K, aa⟩ ι H D.non V.non from rfl) h⟩
     · exact h.elim
    | _ => exact h.elim
  | _ => exact h.elim
def popD : D → List D → M D
  | .mr k, [] => fun μ => match μ[k]? with
    | some (.lst ds) => match ds[ds.length - 1]? with
      | some y => setL k ds.dropLast y μ
      | none => .stk
    | _ => .stk
  | _, _ => stuck
theorem pop_ok {K : PySem.W.Frag} : MtD K aa rPop popD := by
  intro W ι H μ d x ds vs Q C r rs h
  cases d with
  | mr k =>
    cases ds with
    | cons _ _ => exact h.elim
    | nil =>
    unfold popD at h
    simp only at h
    split at h
    · rename_i xs ek
      split at h
      · rename_i y ey
        obtain ⟨p, ws, rfl, hp, q, rq⟩ := lst_mr C r ek
        have := rs.nil_iff; subst this
        obtain ⟨v, ev, rv⟩ := rq.get ey
        exact ⟨p, ws, v, rfl, rfl, q, by rw [← rq.len]; exact ev, setL_acc C hp q rq.dropLast rv h⟩
      · exact h.elim
    · exact h.elim
  | _ => exact h.elim
def reverseD : D → List D → M D
  | .mr k, [] => fun μ => match μ[k]? with
    | some (.lst ds) => setL k ds.reverse .non μ
    | _ => .stk
  | _, _ => stuck
theorem reverse_ok {K : PySem.W.Frag} : MtD K aa rReverse reverseD := by
  intro W ι H μ d x ds vs Q C r rs h
  cases d with
  | mr k =>
    cases ds with
    | cons _ _ => exact h.elim
    | nil =>
    unfold reverseD at h
    simp only at h
    split at h
    · rename_i xs ek
      obtain ⟨p, ws, rfl, hp, q, rq⟩ := lst_mr C r ek
      have := rs.nil_iff; subst this
      exact ⟨p, ws, rfl, rfl, q, setL_acc C hp q rq.reverse (show Rep ⟨K, aa⟩ ι H D.non V.non from rfl) h⟩
    · exact h.elim
  | _ => exact h.elim
theorem me_append (ho : ME X aa W o fo) (ha : MA X aa W [e] fs) (hbase : attributeBase o "append" X.env (eval o X.env) = eval o X.env := by rfl)
    (hfew : ((backTo cpos (starEach [e] X.env)).all (fun x => !x.1) && (backToKw cpos (keywordEach [] X.env)).all (fun x => x.1.isSome)
      && decide ([e].length + ([] : List Keyword).length + (if ([] : List Keyword).isEmpty then 0 else 1) < 30)) = true := by rfl)
    (hline : (apos.endLine == cpos.line) = true := by rfl) (hs : starEach [e] X.env = (false, eval e X.env) :: starEach [] X.env := by rfl) (hplain : (backTo cpos (starEach [] X.env)).any (·.1) = false := by rfl) :
    ME X aa W (.Call (.Attribute o "append" apos) [e] [] cpos) (mtE appendD fo fs) := me_mt PySem.F.plainAttrs_list PySem.F.slot_list_append PySem.F.type_list_append mt_append append_ok ho ha hbase hfew hline hs hplain
theorem me_extend (ho : ME X aa W o fo) (ha : MA X aa W [e] fs) (hbase : attributeBase o "extend" X.env (eval o X.env) = eval o X.env := by rfl)
    (hfew : ((backTo cpos (starEach [e] X.env)).all (fun x => !x.1) && (backToKw cpos (keywordEach [] X.env)).all (fun x => x.1.isSome)
      && decide ([e].length + ([] : List Keyword).length + (if ([] : List Keyword).isEmpty then 0 else 1) < 30)) = true := by rfl)
    (hline : (apos.endLine == cpos.line) = true := by rfl) (hs : starEach [e] X.env = (false, eval e X.env) :: starEach [] X.env := by rfl) (hplain : (backTo cpos (starEach [] X.env)).any (·.1) = false := by rfl) :
    ME X aa W (.Call (.Attribute o "extend" apos) [e] [] cpos) (mtE extendD fo fs) := me_mt PySem.F.plainAttrs_list PySem.F.slot_list_extend PySem.F.type_list_extend mt_extend extend_ok ho ha hbase hfew hline hs hplain
theorem me_pop (ho : ME X aa W o fo) (hbase : attributeBase o "pop" X.env (eval o X.env) = eval o X.env := by rfl) (hline : (apos.endLine == cpos.line) = true := by rfl) :
    ME X aa W (.Call (.Attribute o "pop" apos) [] [] cpos) (mtE popD fo nilA) := me_mt0 PySem.F.plainAttrs_list PySem.F.slot_list_pop PySem.F.type_list_pop mt_pop pop_ok ho hbase hline
theorem me_reverse (ho : ME X aa W o fo) (hbase : attributeBase o "reverse" X.env (eval o X.env) = eval o X.env := by rfl) (hline : (apos.endLine == cpos.line) = true := by rfl) :
    ME X aa W (.Call (.Attribute o "reverse" apos) [] [] cpos) (mtE reverseD fo nilA) := me_mt0 PySem.F.plainAttrs_list PySem.F.slot_list_reverse PySem.F.type_list_reverse mt_reverse reverse_ok ho hbase hline
end
end DL
end TDL5

section TDL6
set_option maxRecDepth 100000
set_option maxHeartbeats 1000000
/-! DL6: what is walked, targets, comprehensions. -/
namespace DL
open PySem L2 PySem.Spec PyProof.Rows

/-! ### targets -/
inductive Tg where
  | nm (i : Nat) | tp (ts : List Tg)
mutual
def Tg.asg : Tg → D → Sl → Option Sl
  | .nm i, d, ρ => some (ρ.set i (some d))
  | .tp ts, .tup ds, ρ => Tg.asgs ts ds ρ
  | .tp _, _, _ => none
def Tg.asgs : List Tg → List D → Sl → Option Sl
  | [], [], ρ => some ρ
  | t :: ts, d :: ds, ρ => (Tg.asg t d ρ).bind fun ρ' => Tg.asgs ts ds ρ'
  | _, _, _ => none
end
mutual
def Tg.rd (K : PySem.W.Frag) : Tg → TG
  | .nm i => gName i
  | .tp ts => gTup K ts.length (Tg.rds K ts)
def Tg.rds (K : PySem.W.Frag) : List Tg → TGs
  | [] => gNil
  | t :: ts => gCons (Tg.rd K t) (Tg.rds K ts)
end
mutual
def Tg.slots : Tg → List Nat
  | .nm i => [i]
  | .tp ts => Tg.slotss ts
def Tg.slotss : List Tg → List Nat
  | [] => []
  | t :: ts => Tg.slots t ++ Tg.slotss ts
end
theorem Tg.asgs_len : ∀ {ts : List Tg} {ds : List D} {ρ ρ' : Sl}, Tg.asgs ts ds ρ = some ρ' → ts.length = ds.length
  | [], [], _, _, _ => rfl
  | [], _ :: _, _, _, h => by simp [Tg.asgs] at h
  | _ :: _, [], _, _, h => by simp [Tg.asgs] at h
  | t :: ts, d :: ds, ρ, ρ', h => by
    simp only [Tg.asgs] at h
    obtain ⟨ρ1, h1, h2⟩ := Option.bind_eq_some_iff.mp h
    simp [Tg.asgs_len h2]
theorem wipe_set {σ : SV} {i : Nat} {x : Option V} : ∀ {vs : List Nat}, i ∈ vs → wipe (σ.set i x) vs = wipe σ vs
  | [], h => by simp at h
  | v :: vs, h => by
    unfold wipe
    by_cases e : i ∈ vs
    · rw [wipe_set e]
    · have : v = i := by
        rcases List.mem_cons.mp h with z | z
        · exact z.symm
        · exact absurd z e
      subst this
      have w : ∀ (vs : List Nat), v ∉ vs → wipe (σ.set v x) vs = (wipe σ vs).set v x := by
        intro vs
        induction vs with
        | nil => intro _; rfl
        | cons u us ih =>
          intro hn
          simp only [List.mem_cons, not_or] at hn
          show (wipe (σ.set v x) us).set u none = ((wipe σ us).set u none).set v x
          rw [ih hn.2, List.set_comm _ _ hn.1]
      rw [w vs e, List.set_set]
theorem wipe_idem {σ : SV} : ∀ {vs : List Nat}, wipe (wipe σ vs) vs = wipe σ vs
  | [] => rfl
  | v :: vs => by
    have : wipe ((wipe σ vs).set v none) (v :: vs) = wipe (wipe σ vs) (v :: vs) := wipe_set List.mem_cons_self
    show wipe ((wipe σ vs).set v none) (v :: vs) = _
    rw [this]
    show (wipe (wipe σ vs) vs).set v none = _
    rw [wipe_idem]
    rfl
mutual
theorem Tg.run {G : Gs} {ι : List Addr} {H : Hp} : ∀ (t : Tg) {d : D} {v : V} {σ : SV} {ρ ρ' : Sl} {Q : SV → Hp → Prop}, Tg.asg t d ρ = some ρ' → EnvR G ι H σ ρ → Rep G ι H d v →
    (∀ σ', EnvR G ι H σ' ρ' → (∀ vs : List Nat, (∀ i ∈ t.slots, i ∈ vs) → wipe σ' vs = wipe σ vs) → Q σ' H) → Tg.rd G.K t v σ H Q
  | .nm i, d, v, σ, ρ, ρ', Q, h, e, r, q => by
    simp only [Tg.asg, Option.some.injEq] at h
    subst h
    exact q _ (e.set i r) fun vs hv => wipe_set (hv i (by simp [Tg.slots]))
  | .tp ts, d, v, σ, ρ, ρ', Q, h, e, r, q => by
    cases d with
    | tup ds =>
      simp only [Tg.asg] at h
      obtain ⟨a, vs, rfl, hq, rs⟩ := r
      have hl := Tg.asgs_len h
      exact ⟨a, vs, rfl, hq, by rw [← rs.len, hl], Tg.runs ts h e rs fun σ' e' w => q σ' e' fun vs hv => w vs (by simpa only [Tg.slots] using hv)⟩
    | _ => simp [Tg.asg] at h
theorem Tg.runs {G : Gs} {ι : List Addr} {H : Hp} : ∀ (ts : List Tg) {ds : List D} {vs : List V} {σ : SV} {ρ ρ' : Sl} {Q : SV → Hp → Prop}, Tg.asgs ts ds ρ = some ρ' → EnvR G ι H σ ρ → Reps G ι H ds vs →
    (∀ σ', EnvR G ι H σ' ρ' → (∀ vs : List Nat, (∀ i ∈ Tg.slotss ts, i ∈ vs) → wipe σ' vs = wipe σ vs) → Q σ' H) → Tg.rds G.K ts vs σ H Q
  | [], ds, vs, σ, ρ, ρ', Q, h, e, r, q => by
    cases ds with
    | nil =>
      simp only [Tg.asgs, Option.some.injEq] at h
      subst h
      exact ⟨r.nil_iff, q σ e fun _ _ => rfl⟩
    | cons _ _ => simp [Tg.asgs] at h
  | t :: ts, ds, vs, σ, ρ, ρ', Q, h, e, r, q => by
    cases ds with
    | nil => simp [Tg.asgs] at h
    | cons d ds =>
      simp only [Tg.asgs] at h
      obtain ⟨ρ1, h1, h2⟩ := Option.bind_eq_some_iff.mp h
      obtain ⟨v, r', rfl, r1, r2⟩ := r.cons_iff
      refine ⟨v, r', rfl, Tg.run t h1 e r1 fun σ1 e1 w1 => ?_⟩
      exact Tg.runs ts h2 e1 r2 fun σ2 e2 w2 => q σ2 e2 fun us hu => (w2 us fun i hi => hu i (by simp only [Tg.slotss]; exact List.mem_append_right _ hi)).trans (w1 us fun i hi => hu i (by simp only [Tg.slotss]; exact List.mem_append_left _ hi))
end
def MG (X : Cx) (tg : Expr) (t : Tg) : Prop := PG X tg (Tg.rd X.K t)
structure MGs (X : Cx) (tgs : List Expr) (ts : List Tg) : Prop where
  go : PGs X tgs (Tg.rds X.K ts)
  len : tgs.length = ts.length
section
variable {X : Cx} {pos : Pos}
theorem mg_name {i : Nat} {x : Str} (hN : X.N.Nodup) (hi : X.N[i]? = some x) (hx : Loc X.env.scope x) (hf : X.fn x = true ∨ X.env.scope.names.lookup x = some .local := by first | exact .inl rfl | exact .inr rfl | assumption) : MG X (.Name x pos) (.nm i) := by
  show PG _ _ (gName i)
  exact pg_name hN hi hx hf
theorem mgs_nil : MGs X [] [] := ⟨pgs_nil, rfl⟩
theorem mgs_cons {e : Expr} {es : List Expr} {t : Tg} {ts : List Tg} (h1 : MG X e t) (h2 : MGs X es ts) (hs : (assignEach (e :: es) X.env).map (·.2) = assign e X.env :: (assignEach es X.env).map (·.2) := by rfl) : MGs X (e :: es) (t :: ts) :=
  ⟨pgs_cons h1 h2.go hs, by simp [h2.len]⟩
theorem mg_tup {es : List Expr} {k : Nat} {ts : List Tg} (hc : X.calm = true) (h : MGs X es ts) (hn : (assignEach es X.env).length = ts.length := by rfl) (hst : (assignEach es X.env).findIdx? (·.1) = none := by rfl) : MG X (.Tuple es k pos) (.tp ts) := by
  show PG _ _ (gTup X.K ts.length (Tg.rds X.K ts))
  exact pg_tup hc h.go hn hst
end

/-! ### what is walked -/
structure ItD where
  fuel : Nat
  get : Mu → Nat → Option (Option D)
def ItOk (G : Gs) (ι : List Addr) (H : Hp) (J : It) (get : Mu → Nat → Option (Option D)) : Prop :=
  ∀ (ι' : List Addr) (H' : Hp) (μ' : Mu), Later ι H ι' H' → Cells G ι' H' μ' → ∀ i : Nat, (get μ' i = some none → J.stop i H') ∧
    ∀ d, get μ' i = some (some d) → J.go i H' ∧ ∀ x H'', J.yld i H' x H'' → Later ι' H' ι' H'' ∧ Cells G ι' H'' μ' ∧ Rep G ι' H'' d x
theorem ItOk.later {G : Gs} {ι ι1 : List Addr} {H H1 : Hp} {J : It} {get : Mu → Nat → Option (Option D)} (h : ItOk G ι H J get) (l : Later ι H ι1 H1) : ItOk G ι1 H1 J get := fun ι' H' μ' l' c => h ι' H' μ' (l.trans l') c
def repI (G : Gs) (ι : List Addr) (H : Hp) (it : ItD) (J : It) : Prop := ItOk G ι H J it.get
abbrev tI (G : Gs) (W : WX) (m : Sl → M ItD) : TI := tX repI G W m
def MI (X : Cx) (aa : Nat → Addr) (W : WX) (tg iter : Expr) (m : Sl → M ItD) : Prop := PI X tg iter (tI ⟨X.K, aa⟩ W m)
theorem PI.weak {X : Cx} {tg e : Expr} {t t' : TI} (h : PI X tg e t) (w : ∀ σ H Q, t' σ H Q → t σ H Q) : PI X tg e t' := ⟨fun pins s σ H R I q => h.run pins s σ H R I (w σ H R q)⟩
def fixI (ds : List D) : ItD := ⟨ds.length + 1, fun _ i => some ds[i]?⟩
def cellI (k n : Nat) : ItD := ⟨n + 1, fun μ i => match μ[k]? with
  | some (.lst ds) => some ds[i]?
  | _ => none⟩
def seqI (f : Sl → M D) : Sl → M ItD := fun ρ => f ρ >>= fun d => match d with
  | .tup ds => pure (fixI ds)
  | .li ds => pure (fixI ds)
  | .mr k => fun μ => match μ[k]? with
    | some (.lst ds) => .ok (cellI k ds.length) μ
    | _ => .stk
  | _ => stuck
def rngD (lo : Int) (n : Nat) : List D := (List.range n).map fun i => D.int (lo + (i : Nat))
def rngI1 (fs : Sl → M (List D)) : Sl → M ItD := fun ρ => fs ρ >>= fun ds => match ds with
  | [.int j] => asks (-(2 ^ 62) ≤ j ∧ j < 2 ^ 62) (pure (fixI (rngD 0 j.toNat)))
  | _ => stuck
def rngI2 (fs : Sl → M (List D)) : Sl → M ItD := fun ρ => fs ρ >>= fun ds => match ds with
  | [.int i, .int j] => asks (-(2 ^ 62) ≤ i ∧ i < 2 ^ 62 ∧ -(2 ^ 62) ≤ j ∧ j < 2 ^ 62) (pure (fixI (rngD i (j - i).toNat)))
  | _ => stuck
def zipI (fs : Sl → M (List D)) : Sl → M ItD := fun ρ => fs ρ >>= fun ds => match ds with
  | [.tup as, .tup bs] => pure (fixI (List.zipWith (fun a b => D.tup [a, b]) as bs))
  | _ => stuck
theorem fix_get {ds : List D} {μ : Mu} {i : Nat} {d : D} (h : (fixI ds).get μ i = some (some d)) : ds[i]? = some d := Option.some.inj h
section
variable {X : Cx} {aa : Nat → Addr} {W : WX} {tg e e2 : Expr} {es : List Expr} {fa : Sl → M D} {fs : Sl → M (List D)} {pos : Pos}
/-- lists and tuples alike -/
def iSeq (K : PySem.W.Frag) (tl : TE) : TI := fun σ H R => tl σ H fun x H1 => ∃ a, x = V.ref a ∧ (((∃ xs, SqL K H1 a xs) ∧ R (Itl K a) H1) ∨ ((∃ xs, SqT K H1 a xs) ∧ R (Itt K a) H1))
theorem pi_seq {l : Expr} {tl : TE} (hl : PE X l tl) : PI X tg l (iSeq X.K tl) := by
  refine ⟨fun pins s σ H R I h => thn (hl.run pins s σ H _ I h) fun v s1 ⟨x, H1, I1, r1, a, ea, q1⟩ => ?_⟩
  subst ea
  cases r1
  have new := I1.fpOk (H' := H1) (Nat.le_refl _) (I1.hok.fresh (Nat.le_refl _))
  have grown : ∀ (o : Obj), Inv X pins σ H1 { s1 with heap := s1.heap.push o } := fun o => I1.kept (t' := s1.toks) fun b u z => Heap.get?_push_of_some _ z
  rcases q1 with ⟨⟨xs, hq⟩, q⟩ | ⟨⟨xs, hq⟩, q⟩
  · obtain ⟨its, rv, pl, _⟩ := I1.list hq
    exact wpAny_pyIter_list pl.isList ⟨s1.heap.objs.size, [s1.heap.objs.size], _, Itl X.K a, H1, rfl, grown _, turn_list a _, ⟨_, Heap.get?_push_size _ rfl, rfl, rfl⟩,
      fun b hb => by rw [show b = s1.heap.objs.size by simpa using hb]; exact new, q⟩
  · obtain ⟨its, rv, pt, _⟩ := I1.tuple hq
    exact wpAny_pyIter_tuple (show s1.heap.IsTuple a its.toArray from pt) ⟨s1.heap.objs.size, [s1.heap.objs.size], _, Itt X.K a, H1, rfl, grown _, turn_tuple a _, ⟨_, Heap.get?_push_size _ rfl, rfl, rfl⟩,
      fun b hb => by rw [show b = s1.heap.objs.size by simpa using hb]; exact new, q⟩
theorem reps_get_eq {G : Gs} {ι : List Addr} {H : Hp} {ds : List D} {vs : List V} {i : Nat} {d : D} {x : V} (rs : Reps G ι H ds vs) (hd : ds[i]? = some d) (hx : vs[i]? = some x) : Rep G ι H d x := by
  obtain ⟨v, h1, h2⟩ := rs.get hd
  rw [hx] at h1
  cases h1
  exact h2
theorem reps_past {G : Gs} {ι : List Addr} {H : Hp} {ds : List D} {vs : List V} {i : Nat} (rs : Reps G ι H ds vs) (hd : ds[i]? = none) : vs.length ≤ i := by
  rw [← rs.len]
  exact List.getElem?_eq_none_iff.mp hd
theorem itok_lst {G : Gs} {ι : List Addr} {H : Hp} {a : Addr} {get : Mu → Nat → Option (Option D)}
    (h : ∀ (ι' : List Addr) (H' : Hp) (μ' : Mu), Later ι H ι' H' → Cells G ι' H' μ' → ∀ (i : Nat) (o : Option D), get μ' i = some o → ∃ ds vs, SqL G.K H' a vs ∧ Reps G ι' H' ds vs ∧ ds[i]? = o) : ItOk G ι H (Itl G.K a) get := fun ι' H' μ' l c i => by
  refine ⟨fun e => ?_, fun d e => ?_⟩
  · obtain ⟨ds, vs, q, rs, hi⟩ := h ι' H' μ' l c i _ e
    exact ⟨vs, q, reps_past rs hi⟩
  · obtain ⟨ds, vs, q, rs, hi⟩ := h ι' H' μ' l c i _ e
    obtain ⟨v, hv, _⟩ := rs.get hi
    refine ⟨⟨vs, v, q, hv⟩, fun x H'' y => ?_⟩
    obtain ⟨rfl, hx⟩ := y
    exact ⟨Later.refl _ _, c, reps_get_eq rs hi (hx vs q)⟩
theorem itok_tup {G : Gs} {ι : List Addr} {H : Hp} {a : Addr} {ds : List D} {vs : List V} (q : SqT G.K H a vs) (rs : Reps G ι H ds vs) : ItOk G ι H (Itt G.K a) (fixI ds).get := fun ι' H' μ' l c i => by
  have q' := l.keep.sqt q
  have rs' := rs.later l
  refine ⟨fun e => ⟨vs, q', reps_past rs' (Option.some.inj e)⟩, fun d e => ?_⟩
  have hi := fix_get e
  obtain ⟨v, hv, _⟩ := rs'.get hi
  refine ⟨⟨vs, v, q', hv⟩, fun x H'' y => ?_⟩
  obtain ⟨rfl, hx⟩ := y
  exact ⟨Later.refl _ _, c, reps_get_eq rs' hi (hx vs q')⟩
theorem mi_seq (ha : ME X aa W e fa) : MI X aa W tg e (seqI fa) := PI.weak (pi_seq ha) fun σ H R h => by
  refine tX.split (rep := Rep) (k := fun _ d => match d with
    | .tup ds => pure (fixI ds)
    | .li ds => pure (fixI ds)
    | .mr k => fun μ => match μ[k]? with
      | some (.lst ds) => .ok (cellI k ds.length) μ
      | _ => .stk
    | _ => stuck) h fun ρ ι H1 d v μ1 e c r h1 => ?_
  cases d with
  | tup ds =>
    obtain ⟨a, vs, rfl, q, rs⟩ := r
    exact ⟨a, rfl, .inr ⟨⟨vs, q⟩, h1.now c (itok_tup q rs)⟩⟩
  | li ds =>
    obtain ⟨a, vs, rfl, q, rs⟩ := r
    refine ⟨a, rfl, .inl ⟨⟨vs, q.sq⟩, h1.now c (itok_lst fun ι' H' μ' l c' i o e => ?_)⟩⟩
    obtain ⟨a', vs', ea, q', rs'⟩ := Rep.later (d := .li ds) l ⟨a, vs, rfl, q, rs⟩
    cases ea
    exact ⟨ds, vs', q'.sq, rs', Option.some.inj e⟩
  | mr k =>
    simp only at h1
    split at h1
    · rename_i ds ek
      obtain ⟨a, vs, rfl, ha, q, rs⟩ := lst_mr c r ek
      refine ⟨a, rfl, .inl ⟨⟨vs, SqL.of q⟩, h1.now c (itok_lst fun ι' H' μ' l c' i o e => ?_)⟩⟩
      have e' : (match μ'[k]? with
        | some (.lst ds) => some ds[i]?
        | _ => none) = some o := e
      split at e'
      · rename_i ds' ek'
        cases e'
        obtain ⟨a', vs', ea, _, q', rs'⟩ := lst_mr c' (Rep.later (d := .mr k) l ⟨a, ha, rfl⟩) ek'
        cases ea
        exact ⟨ds', vs', SqL.of q', rs', rfl⟩
      · cases e'
    · exact h1.elim
  | _ => exact h1.elim
theorem rng_get {lo : Int} {n i : Nat} {o : Option D} (h : (rngD lo n)[i]? = o) : (i < n ∧ o = some (.int (lo + (i : Nat)))) ∨ (n ≤ i ∧ o = none) := by
  unfold rngD at h
  by_cases hi : i < n
  · rw [List.getElem?_map, List.getElem?_range hi] at h
    exact .inl ⟨hi, h.symm⟩
  · rw [List.getElem?_eq_none (by simp; omega)] at h
    exact .inr ⟨by omega, h.symm⟩
theorem itok_rng {G : Gs} {ι : List Addr} {H : Hp} {lo : Int} {n : Nat} : ItOk G ι H (Itr lo n) (fixI (rngD lo n)).get := fun ι' H' μ' l c i => by
  refine ⟨fun e => ?_, fun d e => ?_⟩
  · rcases rng_get (Option.some.inj e) with ⟨_, z⟩ | ⟨h, _⟩
    · cases z
    · exact h
  · rcases rng_get (Option.some.inj e) with ⟨h, z⟩ | ⟨_, z⟩
    · cases z
      refine ⟨h, fun x H'' y => ?_⟩
      obtain ⟨rfl, rfl⟩ := y
      exact ⟨Later.refl _ _, c, rfl⟩
    · cases z
theorem mi_rng1 {a : Expr} {p : Pos} (hg : Gl X "range") (hm : X.mg "range" = none) (ha : MA X aa W [a] fs) (hs : starEach [a] X.env = [(false, eval a X.env)] := by rfl) : MI X aa W tg (.Call (.Name "range" p) [a] [] pos) (rngI1 fs) :=
  PI.weak (pi_range1 hg hm ha hs) fun σ H R h => by
    refine tX.split (rep := Reps) (k := fun _ ds => match ds with
      | [.int j] => asks (-(2 ^ 62) ≤ j ∧ j < 2 ^ 62) (pure (fixI (rngD 0 j.toNat)))
      | _ => stuck) h fun ρ ι H1 ds vs μ1 e c rs h1 => ?_
    split at h1
    · obtain ⟨v, rfl, r⟩ := reps1 rs
      cases r
      obtain ⟨⟨h3, h4⟩, h5⟩ := asks_acc h1
      exact ⟨_, rfl, h3, h4, h5.now c itok_rng⟩
    · exact h1.elim
theorem mi_rng2 {a b : Expr} {p : Pos} (hg : Gl X "range") (hm : X.mg "range" = none) (ha : MA X aa W [a, b] fs) (hs : starEach [a, b] X.env = [(false, eval a X.env), (false, eval b X.env)] := by rfl) (hs2 : starEach [b] X.env = [(false, eval b X.env)] := by rfl) :
    MI X aa W tg (.Call (.Name "range" p) [a, b] [] pos) (rngI2 fs) :=
  PI.weak (pi_range2 hg hm ha hs hs2) fun σ H R h => by
    refine tX.split (rep := Reps) (k := fun _ ds => match ds with
      | [.int i, .int j] => asks (-(2 ^ 62) ≤ i ∧ i < 2 ^ 62 ∧ -(2 ^ 62) ≤ j ∧ j < 2 ^ 62) (pure (fixI (rngD i (j - i).toNat)))
      | _ => stuck) h fun ρ ι H1 ds vs μ1 e c rs h1 => ?_
    split at h1
    · obtain ⟨v, v', rfl, r, r'⟩ := reps2 rs
      cases r; cases r'
      obtain ⟨hh, h5⟩ := asks_acc h1
      exact ⟨_, _, rfl, hh, h5.now c itok_rng⟩
    · exact h1.elim
theorem zip_get {as bs : List D} {i : Nat} {o : Option D} (h : (List.zipWith (fun a b => D.tup [a, b]) as bs)[i]? = o) : (∃ a b, as[i]? = some a ∧ bs[i]? = some b ∧ o = some (.tup [a, b])) ∨ ((as.length ≤ i ∨ bs.length ≤ i) ∧ o = none) := by
  rw [List.getElem?_zipWith] at h
  cases ha : as[i]? with
  | none => rw [ha] at h; exact .inr ⟨.inl (List.getElem?_eq_none_iff.mp ha), h.symm⟩
  | some a =>
    cases hb : bs[i]? with
    | none => rw [ha, hb] at h; exact .inr ⟨.inr (List.getElem?_eq_none_iff.mp hb), h.symm⟩
    | some b => rw [ha, hb] at h; exact .inl ⟨a, b, rfl, rfl, h.symm⟩
theorem itok_zip {G : Gs} {ι : List Addr} {H : Hp} {a b : Addr} {as bs : List D} {vs ws : List V} (q : SqT G.K H a vs) (rs : Reps G ι H as vs) (q2 : SqT G.K H b ws) (rs2 : Reps G ι H bs ws) :
    ItOk G ι H (RZ.ItzT G.K a b) (fixI (List.zipWith (fun a b => D.tup [a, b]) as bs)).get := fun ι' H' μ' l c i => by
  have q' := l.keep.sqt q
  have rs' := rs.later l
  have q2' := l.keep.sqt q2
  have rs2' := rs2.later l
  refine ⟨fun e => ?_, fun d e => ?_⟩
  · rcases zip_get (Option.some.inj e) with ⟨_, _, _, _, z⟩ | ⟨h, _⟩
    · cases z
    · exact ⟨vs, ws, q', q2', by rw [← rs'.len, ← rs2'.len]; exact h⟩
  · rcases zip_get (Option.some.inj e) with ⟨x, y, hx, hy, z⟩ | ⟨_, z⟩
    · cases z
      obtain ⟨v, hv, rv⟩ := rs'.get hx
      obtain ⟨w, hw, rw'⟩ := rs2'.get hy
      refine ⟨⟨vs, ws, v, w, q', q2', hv, hw⟩, fun u H'' yy => ?_⟩
      obtain ⟨T, x', y', rfl, nT, rfl, f1, f2⟩ := yy
      have e1 : x' = v := Option.some.inj ((f1 _ q').symm.trans hv)
      have e2 : y' = w := Option.some.inj ((f2 _ q2').symm.trans hw)
      subst e1 e2
      have l2 : Later ι' H' ι' (upd H' T (.tup [x', y'])) := Later.new nT
      exact ⟨l2, c.new nT, ⟨T, _, rfl, SqT.of upd_same, Reps.cons (rv.later l2) (Reps.one (rw'.later l2))⟩⟩
    · cases z
theorem mi_zip {p tpos : Pos} {elts : List Expr} {kk : Nat} (hg : Gl X "zip") (hm : X.mg "zip" = none) (ha : MA X aa W [e, e2] fs) (hs : starEach [e, e2] X.env = (false, eval e X.env) :: starEach [e2] X.env := by rfl)
    (hpl : (backTo pos (starEach [e2] X.env)).any (·.1) = false := by rfl) : MI X aa W (.Tuple elts kk tpos) (.Call (.Name "zip" p) [e, e2] [] pos) (zipI fs) :=
  PI.weak (RZ.pi_zipA hg hm ha hs hpl) fun σ H R h => by
    refine tX.split (rep := Reps) (k := fun _ ds => match ds with
      | [.tup as, .tup bs] => pure (fixI (List.zipWith (fun a b => D.tup [a, b]) as bs))
      | _ => stuck) h fun ρ ι H1 ds vs μ1 e c rs h1 => ?_
    split at h1
    · obtain ⟨v, v', rfl, r, r'⟩ := reps2 rs
      obtain ⟨a, us, rfl, q, rq⟩ := r
      obtain ⟨b, ws, rfl, q2, rq2⟩ := r'
      exact ⟨a, b, us, ws, rfl, .inr ⟨q, q2, h1.now c (itok_zip q rq q2 rq2)⟩⟩
    · exact h1.elim
end

/-! ### list comprehensions -/
def wipeD (ρ : Sl) : List Nat → Sl
  | [] => ρ
  | v :: vs => (wipeD ρ vs).set v none
theorem EnvR.wipe {G : Gs} {ι : List Addr} {H : Hp} {σ : SV} {ρ : Sl} (e : EnvR G ι H σ ρ) : ∀ vs : List Nat, EnvR G ι H (wipe σ vs) (wipeD ρ vs)
  | [] => e
  | v :: vs => by
    have ih := EnvR.wipe e vs
    refine ⟨by show ((L2.wipe σ vs).set v none).length = ((wipeD ρ vs).set v none).length; simp [ih.len], fun i d h => ?_⟩
    have h' : ((wipeD ρ vs).set v none)[i]? = some (some d) := h
    by_cases hi : i = v
    · subst hi
      by_cases hl : i < (wipeD ρ vs).length
      · rw [List.getElem?_set_self hl] at h'; cases h'
      · rw [List.getElem?_eq_none (by simp; omega)] at h'; cases h'
    · rw [List.getElem?_set_ne (Ne.symm hi)] at h'
      obtain ⟨w, h1, h2⟩ := ih.at_ i d h'
      exact ⟨w, by show ((L2.wipe σ vs).set v none)[i]? = _; rw [List.getElem?_set_ne (Ne.symm hi)]; exact h1, h2⟩
def addTo (k : Nat) (y : D) : Mu → Option Mu := fun μ => match μ[k]? with
  | some (.lst acc) => if acc.length < sizeLine then some (μ.set k (.lst (acc ++ [y]))) else none
  | _ => none
/-- one for's loop: turn i, n turns at most left; `one ρ μ` is what a kept or dropped item leaves -/
def lcLoop (get : Mu → Nat → Option (Option D)) (tg : Tg) (vs : List Nat) (one : Sl → Mu → Option Mu) (ρ : Sl) : Nat → Nat → Mu → Option Mu
  | 0, _, _ => none
  | n + 1, i, μ => match get μ i with
    | none => none
    | some none => some μ
    | some (some d) => match tg.asg d (wipeD ρ vs) with
      | none => none
      | some ρ1 => match one ρ1 μ with
        | none => none
        | some μ1 => lcLoop get tg vs one ρ n (i + 1) μ1
/-- an item's test and value -/
def lcItem (k : Nat) (tt : Sl → M Bool) (fe : Sl → M D) : Sl → Mu → Option Mu := fun ρ μ => match tt ρ μ with
  | .ok true μ1 => match fe ρ μ1 with
    | .ok y μ2 => addTo k y μ2
    | _ => none
  | .ok false μ1 => some μ1
  | _ => none
def lcE (fi : Sl → M ItD) (tg : Tg) (tt : Sl → M Bool) (fe : Sl → M D) (vs : List Nat) : Sl → M D := fun ρ => fi ρ >>= fun it => fun μ =>
  match lcLoop it.get tg vs (lcItem μ.length tt fe) ρ it.fuel 0 (μ ++ [.lst []]) with
  | some μ' => .ok (.mr μ.length) μ'
  | none => .stk
def yesT : Sl → M Bool := fun _ => pure true
def MTs (X : Cx) (aa : Nat → Addr) (W : WX) (es : List Expr) (m : Sl → M Bool) : Prop := PTs X es (tT ⟨X.K, aa⟩ W m)
section
variable {X : Cx} {aa : Nat → Addr} {W : WX} {elt tg iter c : Expr} {ifs : List Expr} {fi : Sl → M ItD} {t : Tg} {tt : Sl → M Bool} {fe : Sl → M D} {pos : Pos}
theorem mts_nil : MTs X aa W [] yesT := ⟨fun pins s σ H Q I h => (pts_nil (X := X)).run pins s σ H Q I (by
  obtain ⟨ρ, μ, ι, e, c, h⟩ := h
  exact Acc.now (a := true) h c rfl)⟩
theorem mts_one (h : MT X aa W c tt) : MTs X aa W [c] tt := pts_one h
/-- no exception leaves a comprehension's block -/
def W0 : WX := fun _ _ _ _ => False
theorem acc_w0 {α β : Type} {rep : List Addr → Hp → α → β → Prop} {G : Gs} {ι : List Addr} {H : Hp} {Q : β → Hp → Prop} {r : R α} {W1 : Nat → Hp → Prop} (h : ∀ a μ, r = .ok a μ → Acc W1 rep G ι H Q (.ok a μ)) (h2 : ∃ a μ, r = .ok a μ) : Acc W1 rep G ι H Q r := by
  obtain ⟨a, μ, rfl⟩ := h2
  exact h a μ rfl
/-- what an added item leaves -/
theorem add_run {G : Gs} {ι : List Addr} {H : Hp} {μ μ' : Mu} {k : Nat} {p : Addr} {y : D} {v : V} (C : Cells G ι H μ) (hp : ι[k]? = some p) (r : Rep G ι H y v) (h : addTo k y μ = some μ') :
    ∃ acc, H p = some (.lst acc) ∧ acc.length < sizeLine ∧ Later ι H ι (upd H p (.lst (acc ++ [v]))) ∧ Cells G ι (upd H p (.lst (acc ++ [v]))) μ' := by
  unfold addTo at h
  split at h
  · rename_i ds ek
    split at h
    · rename_i hz
      cases h
      obtain ⟨p', vs, e, hp', q, rs⟩ := lst_mr C ⟨p, hp, rfl⟩ ek
      cases e
      have l : Later ι H ι (upd H p (.lst (vs ++ [v]))) := ⟨List.prefix_refl _, KeepT.put q (fun _ z => nomatch z) fun _ _ z => nomatch z⟩
      exact ⟨vs, q, by rw [← rs.len]; exact hz, l, C.put hp q (fun _ z => nomatch z) (fun _ _ z => nomatch z) ⟨_, upd_same, (rs.app (Reps.one r)).later l⟩⟩
    · cases h
  · cases h
end
end DL
end TDL6

section TDL7
set_option maxRecDepth 100000
set_option maxHeartbeats 1000000
/-! DL7: comprehensions with two fors; statements. -/
namespace DL
open PySem L2 PySem.Spec PyProof.Rows

/-- a comprehension's loop, its turn's body apart -/
theorem loop_run {G : Gs} {ι : List Addr} {H : Hp} {σ : SV} {ρ : Sl} {J : It} {get : Mu → Nat → Option (Option D)} {t : Tg} {vs : List Nat} {one : Sl → Mu → Option Mu} {fuel : Nat} {μ μe : Mu} {Q : Hp → Prop} {body : SV → Hp → (Hp → Prop) → Prop}
    (r : ItOk G ι H J get) (e : EnvR G ι H σ ρ) (c : Cells G ι H μ) (hsl : ∀ i ∈ t.slots, i ∈ vs) (hl : lcLoop get t vs one ρ fuel 0 μ = some μe) (q : ∀ ι' H', Later ι H ι' H' → Cells G ι' H' μe → Q H')
    (hb : ∀ ρ1 μ1 μ2 σ1 ι1 H1 (N : Hp → Prop), one ρ1 μ1 = some μ2 → Later ι H ι1 H1 → EnvR G ι1 H1 σ1 ρ1 → Cells G ι1 H1 μ1 → (∀ ι' H', Later ι1 H1 ι' H' → Cells G ι' H' μ2 → N H') → body σ1 H1 N) :
    ∃ Wr : Nat → Nat → Hp → Prop, (∃ m, Wr 0 m H) ∧ ∀ i m H', Wr i m H' → (J.stop i H' ∧ Q H') ∨ (J.go i H' ∧ ∃ Nx : Hp → Prop, (∀ H2, Nx H2 → ∃ m', m' < m ∧ Wr (i + 1) m' H2) ∧
      ∀ x H2, J.yld i H' x H2 → Tg.rd G.K t x (wipe σ vs) H2 fun σ2 H3 => wipe σ2 vs = wipe σ vs ∧ body σ2 H3 Nx) := by
  refine ⟨fun i m H' => ∃ ι' μ', lcLoop get t vs one ρ m i μ' = some μe ∧ Later ι H ι' H' ∧ Cells G ι' H' μ', ⟨fuel, ι, μ, hl, Later.refl _ _, c⟩, ?_⟩
  rintro i m H' ⟨ι', μ', hl', l', c'⟩
  cases m with
  | zero => simp [lcLoop] at hl'
  | succ m =>
    simp only [lcLoop] at hl'
    obtain ⟨r1, r2⟩ := r ι' H' μ' l' c' i
    split at hl'
    · cases hl'
    · rename_i hget
      cases hl'
      exact .inl ⟨r1 hget, q ι' H' l' c'⟩
    · rename_i d hget
      obtain ⟨go, yl⟩ := r2 d hget
      split at hl'
      · cases hl'
      · rename_i ρ1 hasg
        split at hl'
        · cases hl'
        · rename_i μ2 hone
          refine .inr ⟨go, fun H3 => ∃ ι3, Later ι H ι3 H3 ∧ Cells G ι3 H3 μ2, fun H3 ⟨ι3, l3, c3⟩ => ⟨m, Nat.lt_succ_self _, ι3, μ2, hl', l3, c3⟩, fun x H3 y => ?_⟩
          obtain ⟨l3, c3, r3⟩ := yl x H3 y
          refine Tg.run t hasg ((e.later (l'.trans l3)).wipe _) r3 fun σ' e' w => ⟨(w _ hsl).trans wipe_idem, ?_⟩
          exact hb ρ1 μ' μ2 σ' ι' H3 _ hone (l'.trans l3) e' c3 fun ι4 H4 l4 c4 => ⟨ι4, (l'.trans l3).trans l4, c4⟩
/-- a reading that ends well -/
theorem tX_ok {α β : Type} {rep : Gs → List Addr → Hp → α → β → Prop} {G : Gs} {W : WX} {m : Sl → M α} {σ : SV} {H : Hp} {Q : β → Hp → Prop} {ρ : Sl} {μ μ' : Mu} {ι : List Addr} {a : α} (e : EnvR G ι H σ ρ) (c : Cells G ι H μ) (h : m ρ μ = .ok a μ')
    (q : ∀ ι' H' b, Later ι H ι' H' → Cells G ι' H' μ' → rep G ι' H' a b → Q b H') : tX rep G W m σ H Q := ⟨ρ, μ, ι, e, c, by rw [h]; exact q⟩
def lc2Item (k : Nat) (tt : Sl → M Bool) (fi1 : Sl → M ItD) (tg1 : Tg) (tt1 : Sl → M Bool) (fe : Sl → M D) (vs1 : List Nat) : Sl → Mu → Option Mu := fun ρ μ => match tt ρ μ with
  | .ok true μ1 => match fi1 ρ μ1 with
    | .ok it μ2 => lcLoop it.get tg1 vs1 (lcItem k tt1 fe) ρ it.fuel 0 μ2
    | _ => none
  | .ok false μ1 => some μ1
  | _ => none
def lc2E (fi : Sl → M ItD) (tg : Tg) (tt : Sl → M Bool) (fi1 : Sl → M ItD) (tg1 : Tg) (tt1 : Sl → M Bool) (fe : Sl → M D) (vs vs1 : List Nat) : Sl → M D := fun ρ => fi ρ >>= fun it => fun μ =>
  match lcLoop it.get tg vs (lc2Item μ.length tt fi1 tg1 tt1 fe vs1) ρ it.fuel 0 (μ ++ [.lst []]) with
  | some μ' => .ok (.mr μ.length) μ'
  | none => .stk
section
variable {X : Cx} {aa : Nat → Addr} {W : WX} {elt tg iter tg1 iter1 c : Expr} {ifs ifs1 : List Expr} {fi fi1 : Sl → M ItD} {t t1 : Tg} {tt tt1 : Sl → M Bool} {fe : Sl → M D} {pos : Pos}
theorem item_run {G : Gs} {ι : List Addr} {H : Hp} {σ : SV} {ρ : Sl} {k : Nat} {p : Addr} {μ μ2 : Mu} {N : Hp → Prop} (e : EnvR G ι H σ ρ) (c : Cells G ι H μ) (hk : ι[k]? = some p) (h : lcItem k tt fe ρ μ = some μ2)
    (q : ∀ ι' H', Later ι H ι' H' → Cells G ι' H' μ2 → N H') :
    tT G W0 tt σ H fun b H3 => if b = true then tE G W0 fe σ H3 fun y H4 => ∃ acc, H4 p = some (.lst acc) ∧ acc.length < sizeLine ∧ N (upd H4 p (.lst (acc ++ [y]))) else N H3 := by
  unfold lcItem at h
  split at h
  · rename_i μ3 htt
    split at h
    · rename_i z μ4 hfe
      refine tX_ok e c htt fun ι4 H4 b' l4 c4 eb => ?_
      cases (show true = b' from eb)
      refine tX_ok (e.later l4) c4 hfe fun ι5 H5 v l5 c5 rv => ?_
      obtain ⟨acc, ha, hz, la, ca⟩ := add_run c5 (pre_get (l4.trans l5).pre hk) rv h
      exact ⟨acc, ha, hz, q ι5 _ ((l4.trans l5).trans la) ca⟩
    · cases h
  · rename_i μ3 htt
    cases h
    refine tX_ok e c htt fun ι4 H4 b' l4 c4 eb => ?_
    cases (show false = b' from eb)
    exact q ι4 H4 l4 c4
  · cases h
theorem lc_read {G : Gs} {vs : List Nat} {σ : SV} {H : Hp} {Q : VK} (hsl : ∀ i ∈ t.slots, i ∈ vs) (h : tE G W (lcE fi t tt fe vs) σ H Q) : tLc (tI G W fi) (Tg.rd G.K t) (tT G W0 tt) (tE G W0 fe) vs σ H Q := by
  refine tX.split (rep := repI) (k := fun ρ it => fun μ => match lcLoop it.get t vs (lcItem μ.length tt fe) ρ it.fuel 0 (μ ++ [.lst []]) with
    | some μ' => .ok (D.mr μ.length) μ'
    | none => .stk) h fun ρ ι H1 it J μ1 e c r h1 p hD => ?_
  have lD : Later ι H1 (ι ++ [p]) (upd H1 p (.lst [])) := Later.grow hD
  have hk : (ι ++ [p])[μ1.length]? = some p := by rw [← c.len]; simp
  split at h1
  · rename_i μe hl
    refine loop_run (ItOk.later r lD) (e.later lD) (c.grow (c := Cell.lst []) hD ⟨[], upd_same, Reps.nil⟩) hsl hl (fun ι2 H2 l2 c2 => h1 ι2 H2 (V.ref p) (lD.trans l2) c2 ⟨p, pre_get l2.pre hk, rfl⟩) ?_
    intro ρ1 μ2 μ3 σ1 ι1 H2 N hone l1 e1 c1 hN2
    exact item_run e1 c1 (pre_get l1.pre hk) hone hN2
  · exact h1.elim
theorem lc2_read {G : Gs} {vs vs1 : List Nat} {σ : SV} {H : Hp} {Q : VK} (hsl : ∀ i ∈ t.slots, i ∈ vs) (hsl1 : ∀ i ∈ t1.slots, i ∈ vs1) (h : tE G W (lc2E fi t tt fi1 t1 tt1 fe vs vs1) σ H Q) :
    tLc2 (tI G W fi) (Tg.rd G.K t) (tT G W0 tt) (tI G W0 fi1) (Tg.rd G.K t1) (tT G W0 tt1) (tE G W0 fe) vs vs1 σ H Q := by
  refine tX.split (rep := repI) (k := fun ρ it => fun μ => match lcLoop it.get t vs (lc2Item μ.length tt fi1 t1 tt1 fe vs1) ρ it.fuel 0 (μ ++ [.lst []]) with
    | some μ' => .ok (D.mr μ.length) μ'
    | none => .stk) h fun ρ ι H1 it J μ1 e c r h1 p hD => ?_
  have lD : Later ι H1 (ι ++ [p]) (upd H1 p (.lst [])) := Later.grow hD
  have hk : (ι ++ [p])[μ1.length]? = some p := by rw [← c.len]; simp
  split at h1
  · rename_i μe hl
    refine loop_run (ItOk.later r lD) (e.later lD) (c.grow (c := Cell.lst []) hD ⟨[], upd_same, Reps.nil⟩) hsl hl (fun ι2 H2 l2 c2 => h1 ι2 H2 (V.ref p) (lD.trans l2) c2 ⟨p, pre_get l2.pre hk, rfl⟩) ?_
    intro ρ1 μ2 μ3 σ1 ι1 H2 N hone l1 e1 c1 hN2
    unfold lc2Item at hone
    split at hone
    · rename_i μ4 htt
      split at hone
      · rename_i it1 μ5 hfi
        refine tX_ok e1 c1 htt fun ι4 H4 b' l4 c4 eb => ?_
        cases (show true = b' from eb)
        refine tX_ok (e1.later l4) c4 hfi fun ι5 H5 J1 l5 c5 r5 => ?_
        refine loop_run r5 ((e1.later l4).later l5) c5 hsl1 hone (fun ι6 H6 l6 c6 => hN2 ι6 H6 ((l4.trans l5).trans l6) c6) ?_
        intro ρ6 μ6 μ7 σ6 ι6 H6 N6 h6 l6 e6 c6 hN6
        exact item_run e6 c6 (pre_get (((l1.trans l4).trans l5).trans l6).pre hk) h6 hN6
      · cases hone
    · rename_i μ4 htt
      cases hone
      refine tX_ok e1 c1 htt fun ι4 H4 b' l4 c4 eb => ?_
      cases (show false = b' from eb)
      exact hN2 ι4 H4 l4 c4
    · cases hone
  · exact h1.elim
/-- in a comprehension's block -/
abbrev Bl (X : Cx) (scope : Scope) (P : Cx → Prop) : Prop := ∀ (s : Shared) (H : Hp) (C : Addr) (cl : List (Str × Addr)) (fp : List Addr), P (X.blk s H scope (compEnvC scope cl C X.env) fp)
theorem me_lc {scope : Scope} {own : List (Str × Nat)} {vs : List Nat} (hc : X.calm = true) (hN : X.N.Nodup) (hi : MI X aa W tg iter fi) (ok : BlkOk X.N X.env.scope scope own) (hsl : ∀ i ∈ t.slots, i ∈ vs)
    (hg : Bl X scope fun Y => MG Y tg t) (ht : Bl X scope fun Y => MTs Y aa W0 ifs tt) (he : Bl X scope fun Y => ME Y aa W0 elt fe) (hs : ∀ x, foldedSetIterable iter X.env x = pure x := by intro _; rfl) (hvs : own.map (·.2) = vs := by rfl) :
    ME X aa W (.ListComp elt [⟨tg, iter, ifs, 0⟩] scope pos) (lcE fi t tt fe vs) := by
  subst hvs
  exact PE.weak (pe_lc (g := Tg.rd X.K t) (tt := tT ⟨X.K, aa⟩ W0 tt) (te := tE ⟨X.K, aa⟩ W0 fe) hc hN hi ok (fun s H C cl fp => hg s H C cl fp) (fun s H C cl fp => ht s H C cl fp) (fun s H C cl fp => he s H C cl fp) hs) fun σ H Q h => lc_read hsl h
theorem me_lc2 {scope : Scope} {own : List (Str × Nat)} {vs vs1 : List Nat} (hc : X.calm = true) (hN : X.N.Nodup) (hi : MI X aa W tg iter fi) (ok : BlkOk X.N X.env.scope scope own) (hv : ∀ i ∈ vs1, i ∈ vs) (hsl : ∀ i ∈ t.slots, i ∈ vs) (hsl1 : ∀ i ∈ t1.slots, i ∈ vs1)
    (hg : Bl X scope fun Y => MG Y tg t) (ht : Bl X scope fun Y => MTs Y aa W0 ifs tt) (hi1 : Bl X scope fun Y => MI Y aa W0 tg1 iter1 fi1) (hg1 : Bl X scope fun Y => MG Y tg1 t1) (ht1 : Bl X scope fun Y => MTs Y aa W0 ifs1 tt1) (he : Bl X scope fun Y => ME Y aa W0 elt fe)
    (hs : ∀ x, foldedSetIterable iter X.env x = pure x := by intro _; rfl) (hs1 : ∀ env x, foldedSetIterable iter1 env x = pure x := by intro _ _; rfl) (hvs : own.map (·.2) = vs := by rfl) :
    ME X aa W (.ListComp elt [⟨tg, iter, ifs, 0⟩, ⟨tg1, iter1, ifs1, 0⟩] scope pos) (lc2E fi t tt fi1 t1 tt1 fe vs vs1) := by
  subst hvs
  exact PE.weak (pe_lc2 (g := Tg.rd X.K t) (tt := tT ⟨X.K, aa⟩ W0 tt) (wi1 := tI ⟨X.K, aa⟩ W0 fi1) (g1 := Tg.rd X.K t1) (tt1 := tT ⟨X.K, aa⟩ W0 tt1) (te := tE ⟨X.K, aa⟩ W0 fe) hc hN hi ok hv (fun s H C cl fp => hg s H C cl fp) (fun s H C cl fp => ht s H C cl fp)
      (fun s H C cl fp => hi1 s H C cl fp) (fun s H C cl fp => hg1 s H C cl fp) (fun s H C cl fp => ht1 s H C cl fp) (fun s H C cl fp => he s H C cl fp) hs hs1) fun σ H Q h => lc2_read hsl hsl1 h
end

/-! ### statements -/
inductive SR where
  | nx (ρ : Sl) (μ : Mu) | rt (d : D) (μ : Mu) | bk (ρ : Sl) (μ : Mu) | ct (ρ : Sl) (μ : Mu) | xc (c : Nat) (ρ : Sl) (μ : Mu) | stk
abbrev DS := Sl → Mu → SR
def AccS (G : Gs) (W : WX) (D : Ends) (ι : List Addr) (H : Hp) : SR → Prop
  | .nx ρ μ => ∀ ι' H' σ', Later ι H ι' H' → EnvR G ι' H' σ' ρ → Cells G ι' H' μ → D.nx σ' H'
  | .rt d μ => ∀ ι' H' v, Later ι H ι' H' → Cells G ι' H' μ → Rep G ι' H' d v → D.rt v H'
  | .bk ρ μ => ∀ ι' H' σ', Later ι H ι' H' → EnvR G ι' H' σ' ρ → Cells G ι' H' μ → D.bk σ' H'
  | .ct ρ μ => ∀ ι' H' σ', Later ι H ι' H' → EnvR G ι' H' σ' ρ → Cells G ι' H' μ → D.ct σ' H'
  | .xc c ρ μ => ∀ ι' H' σ', Later ι H ι' H' → EnvR G ι' H' σ' ρ → Cells G ι' H' μ → W (.ref (G.aa c)) none σ' H'
  | .stk => False
theorem AccS.base {G : Gs} {W : WX} {D : Ends} {ι ι1 : List Addr} {H H1 : Hp} {r : SR} (l : Later ι H ι1 H1) (h : AccS G W D ι H r) : AccS G W D ι1 H1 r := by
  cases r with
  | rt d μ => exact fun ι' H' b l' c r => h ι' H' b (l.trans l') c r
  | stk => exact h
  | nx ρ μ => exact fun ι' H' σ' l' e c => h ι' H' σ' (l.trans l') e c
  | bk ρ μ => exact fun ι' H' σ' l' e c => h ι' H' σ' (l.trans l') e c
  | ct ρ μ => exact fun ι' H' σ' l' e c => h ι' H' σ' (l.trans l') e c
  | xc k ρ μ => exact fun ι' H' σ' l' e c => h ι' H' σ' (l.trans l') e c
def tS (G : Gs) (W : WX) (m : DS) : TS := fun D σ H => ∃ ρ μ ι, EnvR G ι H σ ρ ∧ Cells G ι H μ ∧ AccS G W D ι H (m ρ μ)
def MS (X : Cx) (aa : Nat → Addr) (W : WX) (st : Stmt) (m : DS) : Prop := PS X st (tS ⟨X.K, aa⟩ W m)
def MB (X : Cx) (aa : Nat → Addr) (W : WX) (st : List Stmt) (m : DS) : Prop := PSs X st (tS ⟨X.K, aa⟩ W m)
theorem PS.weak {X : Cx} {st : Stmt} {t t' : TS} (h : PS X st t) (w : ∀ D σ H, t' D σ H → t D σ H) : PS X st t' := ⟨fun pins s σ H D I q => h.run pins s σ H D I (w D σ H q)⟩
theorem PSs.weak {X : Cx} {st : List Stmt} {t t' : TS} (h : PSs X st t) (w : ∀ D σ H, t' D σ H → t D σ H) : PSs X st t' := ⟨fun pins s σ H D I q => h.run pins s σ H D I (w D σ H q)⟩
def R.toS {α : Type} (r : R α) (ρ : Sl) (k : α → Mu → SR) : SR := match r with
  | .ok a μ => k a μ
  | .xc c μ => .xc c ρ μ
  | .stk => .stk
def seqS (a b : DS) : DS := fun ρ μ => match a ρ μ with
  | .nx ρ' μ' => b ρ' μ'
  | r => r
def nextS : DS := fun ρ μ => .nx ρ μ
def exprS (f : Sl → M D) : DS := fun ρ μ => (f ρ μ).toS ρ fun _ μ' => .nx ρ μ'
def retS (f : Sl → M D) : DS := fun ρ μ => (f ρ μ).toS ρ fun d μ' => .rt d μ'
def retNS : DS := fun _ μ => .rt .non μ
def breakS : DS := fun ρ μ => .bk ρ μ
def contS : DS := fun ρ μ => .ct ρ μ
def setS (i : Nat) (f : Sl → M D) : DS := fun ρ μ => (f ρ μ).toS ρ fun d μ' => .nx (ρ.set i (some d)) μ'
def asgS (t : Tg) (f : Sl → M D) : DS := fun ρ μ => (f ρ μ).toS ρ fun d μ' => match t.asg d ρ with
  | some ρ' => .nx ρ' μ'
  | none => .stk
def ifS (c : Sl → M Bool) (a b : DS) : DS := fun ρ μ => (c ρ μ).toS ρ fun k μ' => if k then a ρ μ' else b ρ μ'
section
variable {X : Cx} {aa : Nat → Addr} {W : WX} {e c : Expr} {st : Stmt} {rest as bs : List Stmt} {f : Sl → M D} {fc : Sl → M Bool} {m m1 m2 : DS} {pos : Pos}
/-- a part that is read first -/
theorem tS.part {α β : Type} {rep : Gs → List Addr → Hp → α → β → Prop} {G : Gs} {W : WX} {m : Sl → M α} {k : Sl → α → Mu → SR} {σ : SV} {H : Hp} {D : Ends} {Q' : β → Hp → Prop} (h : tS G W (fun ρ μ => (m ρ μ).toS ρ (k ρ)) D σ H)
    (hk : ∀ ρ ι H' a b μ', EnvR G ι H' σ ρ → Cells G ι H' μ' → rep G ι H' a b → AccS G W D ι H' (k ρ a μ') → Q' b H') : tX rep G W m σ H Q' := by
  obtain ⟨ρ, μ, ι, e, c, h⟩ := h
  refine ⟨ρ, μ, ι, e, c, ?_⟩
  replace h : AccS G W D ι H ((m ρ μ).toS ρ (k ρ)) := h
  unfold R.toS at h
  split at h
  · rename_i a μ' heq
    rw [heq]
    exact fun ι' H' b l c' r => hk ρ ι' H' a b μ' (e.later l) c' r (AccS.base l h)
  · rename_i x μ' heq
    rw [heq]
    exact fun ι' H' l c' => h ι' H' σ l (e.later l) c'
  · exact h.elim
theorem mb_nil : MB X aa W [] nextS := PSs.weak pss_nil fun D σ H ⟨ρ, μ, ι, e, c, h⟩ => h ι H σ (Later.refl _ _) e c
theorem mb_cons (h1 : MS X aa W st m1) (h2 : MB X aa W rest m2) : MB X aa W (st :: rest) (seqS m1 m2) := PSs.weak (pss_cons h1 h2) fun D σ H ⟨ρ, μ, ι, e, c, h⟩ => by
  refine ⟨ρ, μ, ι, e, c, ?_⟩
  unfold seqS at h
  split at h
  · rename_i ρ' μ' heq
    rw [heq]
    exact fun ι' H' σ' l e' c' => ⟨ρ', μ', ι', e', c', AccS.base l h⟩
  · rename_i hne
    generalize m1 ρ μ = r at *
    cases r with
    | nx ρ' μ' => exact (hne ρ' μ' rfl).elim
    | rt d μ' => exact h
    | bk ρ' μ' => exact h
    | ct ρ' μ' => exact h
    | xc k ρ' μ' => exact h
    | stk => exact h
theorem mb_one (h1 : MS X aa W st m) : MB X aa W [st] m := pss_one h1
theorem ms_pass : MS X aa W (.Pass pos) nextS := PS.weak ps_pass fun D σ H ⟨ρ, μ, ι, e, c, h⟩ => h ι H σ (Later.refl _ _) e c
theorem ms_break : MS X aa W (.Break pos) breakS := PS.weak ps_break fun D σ H ⟨ρ, μ, ι, e, c, h⟩ => h ι H σ (Later.refl _ _) e c
theorem ms_cont : MS X aa W (.Continue pos) contS := PS.weak ps_continue fun D σ H ⟨ρ, μ, ι, e, c, h⟩ => h ι H σ (Later.refl _ _) e c
theorem ms_expr (he : ME X aa W e f) (hs : swapsWith e none pos.line X.env = pure false := by rfl) : MS X aa W (.Expr e pos) (exprS f) := PS.weak (ps_expr he hs) fun D σ H h =>
  tS.part (k := fun ρ _ μ' => .nx ρ μ') h fun ρ ι H' a b μ' e' c r q => q ι H' σ (Later.refl _ _) e' c
theorem ms_ret (he : ME X aa W e f) : MS X aa W (.Return (some e) pos) (retS f) := PS.weak (ps_ret he) fun D σ H h =>
  tS.part (k := fun ρ d μ' => .rt d μ') h fun ρ ι H' a b μ' e' c r q => q ι H' b (Later.refl _ _) c r
theorem ms_retN : MS X aa W (.Return none pos) retNS := PS.weak ps_retN fun D σ H ⟨ρ, μ, ι, e, c, h⟩ => h ι H .non (Later.refl _ _) c rfl
theorem ms_set {i : Nat} {x : Str} {pos' : Pos} (hN : X.N.Nodup) (hi : X.N[i]? = some x) (hx : Loc X.env.scope x) (he : ME X aa W e f) (hs : swapsWith e (some (.Name x pos')) pos.line X.env = pure false := by rfl)
    (hf : X.fn x = true ∨ X.env.scope.names.lookup x = some .local := by first | exact .inl rfl | exact .inr rfl | assumption) : MS X aa W (.Assign [.Name x pos'] e pos) (setS i f) := PS.weak (ps_set hN hi hx he hs hf) fun D σ H h =>
  tS.part (k := fun ρ d μ' => .nx (ρ.set i (some d)) μ') h fun ρ ι H' a b μ' e' c r q => q ι H' _ (Later.refl _ _) (e'.set i r) c
theorem ms_asg {tg : Expr} {t : Tg} (he : ME X aa W e f) (hg : MG X tg t) (hs : swapsWithSole [tg] e pos.line X.env = pure false := by rfl) (hw : swappedStores [tg] e X.env = pure none := by rfl) (h1 : (assignEach [tg] X.env).map (·.2) = [assign tg X.env] := by rfl) :
    MS X aa W (.Assign [tg] e pos) (asgS t f) := PS.weak (ps_asg he hg hs hw h1) fun D σ H h =>
  tS.part (k := fun ρ d μ' => match t.asg d ρ with
    | some ρ' => .nx ρ' μ'
    | none => .stk) h fun ρ ι H' a b μ' e' c r q => by
    split at q
    · rename_i ρ' ha
      exact Tg.run t ha e' r fun σ' e2 _ => q ι H' σ' (Later.refl _ _) e2 c
    · exact q.elim
theorem ms_if (hc : MT X aa W c fc) (ha : MB X aa W as m1) (hb : MB X aa W bs m2) : MS X aa W (.If c as bs pos) (ifS fc m1 m2) := PS.weak (ps_if hc ha hb) fun D σ H h =>
  tS.part (rep := repB) (k := fun ρ k μ' => if k then m1 ρ μ' else m2 ρ μ') h fun ρ ι H' a b μ' e' c r q => by
    cases (show a = b from r)
    cases a with
    | true => exact ⟨ρ, μ', ι, e', c, q⟩
    | false => exact ⟨ρ, μ', ι, e', c, q⟩
theorem read_set {te : TE} {i : Nat} (ht : ∀ σ H Q, tE ⟨X.K, aa⟩ W f σ H Q → te σ H Q) {D : Ends} {σ : SV} {H : Hp} (h : tS ⟨X.K, aa⟩ W (setS i f) D σ H) : tAsg te (gName i) D σ H :=
  ht σ H _ (tS.part (k := fun ρ d μ' => .nx (ρ.set i (some d)) μ') h fun ρ ι H' a b μ' e' c r q => q ι H' _ (Later.refl _ _) (e'.set i r) c)
variable {elt tg iter tg1 iter1 : Expr} {ifs ifs1 : List Expr} {fi fi1 : Sl → M ItD} {t t1 : Tg} {tt tt1 : Sl → M Bool} {fe : Sl → M D}
theorem ms_setLc {i : Nat} {y : Str} {py spos : Pos} {scope : Scope} {own : List (Str × Nat)} {vs : List Nat} (hc : X.calm = true) (hN : X.N.Nodup) (hy : X.N[i]? = some y) (hyl : X.env.scope.names.lookup y = some .local)
    (hsw : swapsWith (.ListComp elt [⟨tg, iter, ifs, 0⟩] scope pos) (some (.Name y py)) spos.line X.env = pure true) (hi : MI X aa W tg iter fi) (ok : BlkOk X.N X.env.scope scope own) (hsl : ∀ i ∈ t.slots, i ∈ vs)
    (hg : Bl X scope fun Y => MG Y tg t) (ht : Bl X scope fun Y => MTs Y aa W0 ifs tt) (he : Bl X scope fun Y => ME Y aa W0 elt fe) (hs : ∀ x, foldedSetIterable iter X.env x = pure x := by intro _; rfl) (hvs : own.map (·.2) = vs := by rfl) :
    MS X aa W (.Assign [.Name y py] (.ListComp elt [⟨tg, iter, ifs, 0⟩] scope pos) spos) (setS i (lcE fi t tt fe vs)) := by
  subst hvs
  exact PS.weak (ps_setLc (g := Tg.rd X.K t) (tt := tT ⟨X.K, aa⟩ W0 tt) (te := tE ⟨X.K, aa⟩ W0 fe) hc hN hy hyl hsw hi ok (fun s H C cl fp => hg s H C cl fp) (fun s H C cl fp => ht s H C cl fp) (fun s H C cl fp => he s H C cl fp) hs) fun D σ H h => read_set (fun σ H Q h => lc_read hsl h) h
theorem ms_setLc2 {i : Nat} {y : Str} {py spos : Pos} {scope : Scope} {own : List (Str × Nat)} {vs vs1 : List Nat} (hc : X.calm = true) (hN : X.N.Nodup) (hy : X.N[i]? = some y) (hyl : X.env.scope.names.lookup y = some .local)
    (hsw : swapsWith (.ListComp elt [⟨tg, iter, ifs, 0⟩, ⟨tg1, iter1, ifs1, 0⟩] scope pos) (some (.Name y py)) spos.line X.env = pure true) (hi : MI X aa W tg iter fi) (ok : BlkOk X.N X.env.scope scope own) (hv : ∀ i ∈ vs1, i ∈ vs) (hsl : ∀ i ∈ t.slots, i ∈ vs) (hsl1 : ∀ i ∈ t1.slots, i ∈ vs1)
    (hg : Bl X scope fun Y => MG Y tg t) (ht : Bl X scope fun Y => MTs Y aa W0 ifs tt) (hi1 : Bl X scope fun Y => MI Y aa W0 tg1 iter1 fi1) (hg1 : Bl X scope fun Y => MG Y tg1 t1) (ht1 : Bl X scope fun Y => MTs Y aa W0 ifs1 tt1) (he : Bl X scope fun Y => ME Y aa W0 elt fe)
    (hs : ∀ x, foldedSetIterable iter X.env x = pure x := by intro _; rfl) (hs1 : ∀ env x, foldedSetIterable iter1 env x = pure x := by intro _ _; rfl) (hvs : own.map (·.2) = vs := by rfl) :
    MS X aa W (.Assign [.Name y py] (.ListComp elt [⟨tg, iter, ifs, 0⟩, ⟨tg1, iter1, ifs1, 0⟩] scope pos) spos) (setS i (lc2E fi t tt fi1 t1 tt1 fe vs vs1)) := by
  subst hvs
  exact PS.weak (ps_setLc2 (g := Tg.rd X.K t) (tt := tT ⟨X.K, aa⟩ W0 tt) (wi1 := tI ⟨X.K, aa⟩ W0 fi1) (g1 := Tg.rd X.K t1) (tt1 := tT ⟨X.K, aa⟩ W0 tt1) (te := tE ⟨X.K, aa⟩ W0 fe) hc hN hy hyl hsw hi ok hv (fun s H C cl fp => hg s H C cl fp) (fun s H C cl fp => ht s H C cl fp)
      (fun s H C cl fp => hi1 s H C cl fp) (fun s H C cl fp => hg1 s H C cl fp) (fun s H C cl fp => ht1 s H C cl fp) (fun s H C cl fp => he s H C cl fp) hs hs1) fun D σ H h => read_set (fun σ H Q h => lc2_read hsl hsl1 h) h
end
end DL
end TDL7

section TDL8
set_option maxRecDepth 100000
set_option maxHeartbeats 1000000
/-! DL8: loops, calls of defs, instances, errors. -/
namespace DL
open PySem L2 PySem.Spec PyProof.Rows
section
variable {X : Cx} {aa : Nat → Addr} {W : WX} {e o c tg iter : Expr} {es : List Expr} {st : Stmt} {rest as bs body : List Stmt} {f fo fi' : Sl → M D} {fs : Sl → M (List D)} {fc : Sl → M Bool} {fi : Sl → M ItD} {t : Tg} {m m1 m2 : DS} {pos : Pos}

/-! ### loops -/
def forLoop (get : Mu → Nat → Option (Option D)) (tg : Tg) (body : DS) : Nat → Nat → Sl → Mu → SR
  | 0, _, _, _ => .stk
  | n + 1, i, ρ, μ => match get μ i with
    | none => .stk
    | some none => .nx ρ μ
    | some (some d) => match tg.asg d ρ with
      | none => .stk
      | some ρ1 => match body ρ1 μ with
        | .nx ρ2 μ2 => forLoop get tg body n (i + 1) ρ2 μ2
        | .ct ρ2 μ2 => forLoop get tg body n (i + 1) ρ2 μ2
        | .bk ρ2 μ2 => .nx ρ2 μ2
        | .rt d μ2 => .rt d μ2
        | .xc c ρ2 μ2 => .xc c ρ2 μ2
        | .stk => .stk
def forS (fi : Sl → M ItD) (tg : Tg) (body : DS) : DS := fun ρ μ => (fi ρ μ).toS ρ fun it μ' => forLoop it.get tg body it.fuel 0 ρ μ'
theorem ms_for (hp : PassesOwn (model X.prog X.w) X.A X.env X.xe) (hc : X.calm = true) (hi : MI X aa W tg iter fi) (hg : MG X tg t) (hb : MB X aa W body m) (hs : ∀ x, foldedSetIterable iter X.env x = pure x := by intro _; rfl) :
    MS X aa W (.For tg iter body [] pos) (forS fi t m) := PS.weak (ps_for hp hc hi hg hb hs) fun D σ H h => by
  refine tS.part (rep := repI) (k := fun ρ it μ' => forLoop it.get t m it.fuel 0 ρ μ') h fun ρ ι H1 it J μ1 e' c' r h1 => ?_
  refine ⟨fun i n σ' H' => ∃ ρ' μ' ι', Later ι H1 ι' H' ∧ EnvR ⟨X.K, aa⟩ ι' H' σ' ρ' ∧ Cells ⟨X.K, aa⟩ ι' H' μ' ∧ AccS ⟨X.K, aa⟩ W D ι' H' (forLoop it.get t m n i ρ' μ'), ⟨it.fuel, ρ, μ1, ι, Later.refl _ _, e', c', h1⟩, ?_⟩
  rintro i n σ' H' ⟨ρ', μ', ι', l', e2, c2, h2⟩
  cases n with
  | zero => exact h2.elim
  | succ n =>
    obtain ⟨r1, r2⟩ := r ι' H' μ' l' c2 i
    rw [forLoop] at h2
    split at h2
    · exact h2.elim
    · rename_i hget
      exact .inl ⟨r1 hget, h2 ι' H' σ' (Later.refl _ _) e2 c2⟩
    · rename_i d hget
      obtain ⟨go, yl⟩ := r2 d hget
      split at h2
      · exact h2.elim
      · rename_i ρ1 hasg
        refine .inr ⟨go, fun σ3 H3 => ∃ ρ3 μ3 ι3, Later ι H1 ι3 H3 ∧ EnvR ⟨X.K, aa⟩ ι3 H3 σ3 ρ3 ∧ Cells ⟨X.K, aa⟩ ι3 H3 μ3 ∧ AccS ⟨X.K, aa⟩ W D ι3 H3 (forLoop it.get t m n (i + 1) ρ3 μ3), fun σ3 H3 ⟨ρ3, μ3, ι3, q⟩ => ⟨n, Nat.lt_succ_self _, ρ3, μ3, ι3, q⟩, fun x H3 y => ?_⟩
        obtain ⟨l3, c3, r3⟩ := yl x H3 y
        refine Tg.run t hasg (e2.later l3) r3 fun σ4 e4 _ => ⟨ρ1, μ', ι', e4, c3, ?_⟩
        have h3 := AccS.base l3 h2
        have go2 : ∀ ρ2 μ2, AccS ⟨X.K, aa⟩ W D ι' H3 (forLoop it.get t m n (i + 1) ρ2 μ2) → ∀ ι5 H5 σ5, Later ι' H3 ι5 H5 → EnvR ⟨X.K, aa⟩ ι5 H5 σ5 ρ2 → Cells ⟨X.K, aa⟩ ι5 H5 μ2 →
            ∃ ρ3 μ3 ι3, Later ι H1 ι3 H5 ∧ EnvR ⟨X.K, aa⟩ ι3 H5 σ5 ρ3 ∧ Cells ⟨X.K, aa⟩ ι3 H5 μ3 ∧ AccS ⟨X.K, aa⟩ W D ι3 H5 (forLoop it.get t m n (i + 1) ρ3 μ3) := fun ρ2 μ2 q ι5 H5 σ5 l5 e5 c5 => ⟨ρ2, μ2, ι5, (l'.trans l3).trans l5, e5, c5, AccS.base l5 q⟩
        generalize m ρ1 μ' = r at *
        cases r with
        | nx ρ2 μ2 => exact go2 ρ2 μ2 h3
        | ct ρ2 μ2 => exact go2 ρ2 μ2 h3
        | bk ρ2 μ2 => exact h3
        | rt d μ2 => exact h3
        | xc k ρ2 μ2 => exact h3
        | stk => exact h3
def whileLoop (c : Sl → M Bool) (body : DS) : Nat → Sl → Mu → SR
  | 0, _, _ => .stk
  | n + 1, ρ, μ => (c ρ μ).toS ρ fun k μ1 => if k then (match body ρ μ1 with
      | .nx ρ2 μ2 => whileLoop c body n ρ2 μ2
      | .ct ρ2 μ2 => whileLoop c body n ρ2 μ2
      | .bk ρ2 μ2 => .nx ρ2 μ2
      | .rt d μ2 => .rt d μ2
      | .xc c ρ2 μ2 => .xc c ρ2 μ2
      | .stk => .stk) else .nx ρ μ1
def whileS (n : Nat) (c : Sl → M Bool) (body : DS) : DS := whileLoop c body n
theorem ms_while (n : Nat) (hp : PassesOwn (model X.prog X.w) X.A X.env X.xe) (hc : MT X aa W c fc) (hb : MB X aa W body m) : MS X aa W (.While c body [] pos) (whileS n fc m) := PS.weak (ps_while hp hc hb) fun D σ H h => by
  obtain ⟨ρ, μ, ι, e0, c0, h⟩ := h
  refine ⟨fun n σ' H' => ∃ ρ' μ' ι', EnvR ⟨X.K, aa⟩ ι' H' σ' ρ' ∧ Cells ⟨X.K, aa⟩ ι' H' μ' ∧ AccS ⟨X.K, aa⟩ W D ι' H' (whileLoop fc m n ρ' μ'), ⟨n, ρ, μ, ι, e0, c0, h⟩, ?_⟩
  rintro n σ' H' ⟨ρ', μ', ι', e2, c2, h2⟩
  cases n with
  | zero => exact h2.elim
  | succ n =>
    rw [whileLoop] at h2
    refine tS.part (rep := repB) (G := ⟨X.K, aa⟩) (D := D) (k := fun ρ k μ1 => if k then (match m ρ μ1 with
      | .nx ρ2 μ2 => whileLoop fc m n ρ2 μ2
      | .ct ρ2 μ2 => whileLoop fc m n ρ2 μ2
      | .bk ρ2 μ2 => .nx ρ2 μ2
      | .rt d μ2 => .rt d μ2
      | .xc c ρ2 μ2 => .xc c ρ2 μ2
      | .stk => .stk) else .nx ρ μ1) ⟨ρ', μ', ι', e2, c2, h2⟩ fun ρ1 ι1 H1 a b μ1 e1 c1 r h3 => ?_
    cases (show a = b from r)
    cases a with
    | false => exact h3 ι1 H1 σ' (Later.refl _ _) e1 c1
    | true =>
      refine ⟨fun σ3 H3 => ∃ ρ3 μ3 ι3, EnvR ⟨X.K, aa⟩ ι3 H3 σ3 ρ3 ∧ Cells ⟨X.K, aa⟩ ι3 H3 μ3 ∧ AccS ⟨X.K, aa⟩ W D ι3 H3 (whileLoop fc m n ρ3 μ3), fun σ3 H3 ⟨ρ3, μ3, ι3, q⟩ => ⟨n, Nat.lt_succ_self _, ρ3, μ3, ι3, q⟩, ρ1, μ1, ι1, e1, c1, ?_⟩
      simp only [if_true] at h3
      generalize m ρ1 μ1 = r at *
      cases r with
      | nx ρ2 μ2 => exact fun ι5 H5 σ5 l5 e5 c5 => ⟨ρ2, μ2, ι5, e5, c5, AccS.base l5 h3⟩
      | ct ρ2 μ2 => exact fun ι5 H5 σ5 l5 e5 c5 => ⟨ρ2, μ2, ι5, e5, c5, AccS.base l5 h3⟩
      | bk ρ2 μ2 => exact h3
      | rt d μ2 => exact h3
      | xc k ρ2 μ2 => exact h3
      | stk => exact h3

/-! ### a, b = x, y -/
def parS (i j : Nat) (fs : Sl → M (List D)) : DS := fun ρ μ => (fs ρ μ).toS ρ fun ds μ' => match ds with
  | [v, w] => .nx ((ρ.set i (some v)).set j (some w)) μ'
  | _ => .stk
theorem ms_par {i j : Nat} {x y : Str} {a b : Expr} {px py pt : Pos} {kt k2 pt2} (hc : X.calm = true) (hN : X.N.Nodup) (hi : X.N[i]? = some x) (hj : X.N[j]? = some y) (hij : i ≠ j)
    (hx : X.env.scope.names.lookup x = some .local) (hy : X.env.scope.names.lookup y = some .local) (ha : MA X aa W [a, b] fs)
    (hw : swappedStores [.Tuple [.Name x px, .Name y py] kt pt] (.Tuple [a, b] k2 pt2) X.env = pure (some [x, y]))
    (hs : swapsWithSole [.Tuple [.Name x px, .Name y py] kt pt] (.Tuple [a, b] k2 pt2) pos.line X.env = pure false := by rfl) :
    MS X aa W (.Assign [.Tuple [.Name x px, .Name y py] kt pt] (.Tuple [a, b] k2 pt2) pos) (parS i j fs) := PS.weak (ps_par hc hN hi hj hij hx hy ha hw hs) fun D σ H h => by
  refine tS.part (rep := Reps) (k := fun ρ ds μ' => match ds with
    | [v, w] => .nx ((ρ.set i (some v)).set j (some w)) μ'
    | _ => .stk) h fun ρ ι H' ds vs μ' e' c' r q => ?_
  split at q
  · obtain ⟨v, w, rfl, r1, r2⟩ := reps2 r
    exact ⟨v, w, rfl, q ι H' _ (Later.refl _ _) ((e'.set i r1).set j r2) c'⟩
  · exact q.elim

/-! ### x op= e -/
def augS (i : Nat) (g : D → D → M D) (f : Sl → M D) : DS := fun ρ μ => match ρ[i]? with
  | some (some x) => ((f ρ >>= fun y => g x y) μ).toS ρ fun z μ' => .nx (ρ.set i (some z)) μ'
  | _ => .stk
def IpD (K : PySem.W.Frag) (aa : Nat → Addr) (r : TIp) (g : D → D → M D) : Prop := OpD K aa r g
theorem ip_mul : PIp X .Mult (rI CMul fun i j => .int (i * j)) := fun pins s σ H x y v u Q I r1 r2 h => by
  obtain ⟨i, j, e1, e2, hc, q⟩ := h
  subst e1; subst e2
  obtain ⟨t, rfl⟩ := r1
  obtain ⟨t', rfl⟩ := r2
  exact PyProof.Rows.imul_int (hm := hc.ok) ⟨.int _, H, I.tok _, ⟨_, rfl⟩, q⟩
theorem ms_aug {i : Nat} {x : Str} {op : Operator} {ti : TIp} {g : D → D → M D} {pos' : Pos} (hN : X.N.Nodup) (hi : X.N[i]? = some x) (hx : Loc X.env.scope x) (he : ME X aa W e f) (ho : PIp X op ti) (hg : OpD X.K aa ti g)
    (hf : X.fn x = true ∨ X.env.scope.names.lookup x = some .local := by first | exact .inl rfl | exact .inr rfl | assumption) : MS X aa W (.AugAssign (.Name x pos') op e pos) (augS i g f) := PS.weak (ps_aug hN hi hx he ho hf) fun D σ H h => by
  obtain ⟨ρ, μ, ι, e0, c0, h⟩ := h
  unfold augS at h
  split at h
  · rename_i d hd
    obtain ⟨v, hv, rv⟩ := e0.at_ i d hd
    refine ⟨v, hv, ρ, μ, ι, e0, c0, ?_⟩
    rw [bind_at] at h
    cases hfe : f ρ μ with
    | ok y μ1 =>
      rw [hfe] at h
      intro ι1 H1 w l1 c1 rw1
      refine hg (Ax X aa W σ) ι1 H1 μ1 d y v w _ c1 (rv.later l1) rw1 ?_
      have h2 : AccS ⟨X.K, aa⟩ W D ι H ((g d y μ1).toS ρ fun z μ' => .nx (ρ.set i (some z)) μ') := h
      generalize g d y μ1 = r at *
      cases r with
      | ok z μ2 => exact fun ι2 H2 b l2 c2 rb => h2 ι2 H2 _ (l1.trans l2) ((e0.later (l1.trans l2)).set i rb) c2
      | xc k μ2 => exact fun ι2 H2 l2 c2 => h2 ι2 H2 σ (l1.trans l2) (e0.later (l1.trans l2)) c2
      | stk => exact h2
    | xc k μ1 => rw [hfe] at h; exact fun ι1 H1 l1 c1 => h ι1 H1 σ l1 (e0.later l1) c1
    | stk => rw [hfe] at h; exact h
  · exact h.elim

/-! ### calls of defs -/
mutual
def D.und (n : Nat) : D → Bool
  | .mr k => decide (k < n)
  | .tup ds => Ds.und n ds
  | .li ds => Ds.und n ds
  | _ => true
def Ds.und (n : Nat) : List D → Bool
  | [] => true
  | d :: ds => d.und n && Ds.und n ds
end
def Cell.und (n : Nat) : Cell → Bool
  | .lst ds => Ds.und n ds
  | .ins _ fs => Ds.und n (fs.map (·.2))
/-- what was there before, and the value: the rest is dropped, where nothing leads there -/
def gcR (n : Nat) : R D → R D
  | .ok d μ => if (d.und n && (μ.take n).all (Cell.und n)) = true then .ok d (μ.take n) else .ok d μ
  | .xc c μ => if (μ.take n).all (Cell.und n) = true then .xc c (μ.take n) else .xc c μ
  | .stk => .stk
mutual
theorem D.shrink {G : Gs} {ι ι' : List Addr} {H : Hp} (p : ι <+: ι') : ∀ (d : D) (v : V), d.und ι.length = true → Rep G ι' H d v → Rep G ι H d v
  | .non, v, _, h => h
  | .bl _, v, _, h => h
  | .int _, v, _, h => h
  | .str _, v, _, h => h
  | .fn _, v, _, h => h
  | .mr k, v, b, h => by
    obtain ⟨a, ha, e⟩ := h
    have hk : k < ι.length := by simpa [D.und] using b
    obtain ⟨t, rfl⟩ := p
    rw [List.getElem?_append_left hk] at ha
    exact ⟨a, ha, e⟩
  | .tup ds, v, b, h => by
    obtain ⟨a, vs, e, q, rs⟩ := h
    exact ⟨a, vs, e, q, Ds.shrink p ds vs (by simpa only [D.und] using b) rs⟩
  | .li ds, v, b, h => by
    obtain ⟨a, vs, e, q, rs⟩ := h
    exact ⟨a, vs, e, q, Ds.shrink p ds vs (by simpa only [D.und] using b) rs⟩
theorem Ds.shrink {G : Gs} {ι ι' : List Addr} {H : Hp} (p : ι <+: ι') : ∀ (ds : List D) (vs : List V), Ds.und ι.length ds = true → Reps G ι' H ds vs → Reps G ι H ds vs
  | [], vs, _, h => h
  | d :: ds, vs, b, h => by
    obtain ⟨v, r, rfl, r1, r2⟩ := h.cons_iff
    simp only [Ds.und, Bool.and_eq_true] at b
    exact Reps.cons (D.shrink p d v b.1 r1) (Ds.shrink p ds r b.2 r2)
end
theorem fs_shrink {G : Gs} {ι ι' : List Addr} {H : Hp} (p : ι <+: ι') : ∀ (fs : List (Str × D)) (us : List (Str × V)), Ds.und ι.length (fs.map (·.2)) = true → FsR G ι' H fs us → FsR G ι H fs us
  | [], us, _, h => h
  | q :: fs, us, b, h => by
    obtain ⟨v, r, rfl, r1, r2⟩ := h
    simp only [List.map_cons, Ds.und, Bool.and_eq_true] at b
    exact ⟨v, r, rfl, D.shrink p q.2 v b.1 r1, fs_shrink p fs r b.2 r2⟩
theorem cells_shrink {G : Gs} {ι ι' : List Addr} {H : Hp} {μ : Mu} (p : ι <+: ι') (C : Cells G ι' H μ) (b : (μ.take ι.length).all (Cell.und ι.length) = true) : Cells G ι H (μ.take ι.length) := by
  have hle : ι.length ≤ μ.length := by rw [← C.len]; exact p.length_le
  refine ⟨C.nd.sublist p.sublist, by simp; omega, fun k c a h1 h2 => ?_⟩
  have hk : k < ι.length := (List.getElem?_eq_some_iff.mp h2).1
  rw [List.getElem?_take_of_lt hk] at h1
  have q := C.at_ k c a h1 (pre_get p h2)
  have bc := List.all_eq_true.mp b c (List.mem_of_getElem? (by rw [List.getElem?_take_of_lt hk]; exact h1))
  cases c with
  | lst ds => obtain ⟨vs, e, r⟩ := q; exact ⟨vs, e, Ds.shrink p ds vs bc r⟩
  | ins c fs => obtain ⟨dx, us, e, r⟩ := q; exact ⟨dx, us, e, fs_shrink p fs us bc r⟩
theorem gc_acc {W : Nat → Hp → Prop} {G : Gs} {ι : List Addr} {H : Hp} {Q : VK} {r : R D} (h : Acc W (Rep G) G ι H Q (gcR ι.length r)) : Acc W (Rep G) G ι H Q r := by
  cases r with
  | ok d μ =>
    replace h : Acc W (Rep G) G ι H Q (if (d.und ι.length && (μ.take ι.length).all (Cell.und ι.length)) = true then .ok d (μ.take ι.length) else .ok d μ) := h
    split at h
    · rename_i hb
      simp only [Bool.and_eq_true] at hb
      exact fun ι' H' b l c r => h ι H' b ⟨List.prefix_refl _, l.keep⟩ (cells_shrink l.pre c hb.2) (D.shrink l.pre d b hb.1 r)
    · exact h
  | xc k μ =>
    replace h : Acc W (Rep G) G ι H Q (if (μ.take ι.length).all (Cell.und ι.length) = true then .xc k (μ.take ι.length) else .xc k μ) := h
    split at h
    · rename_i hb
      exact fun ι' H' l c => h ι H' ⟨List.prefix_refl _, l.keep⟩ (cells_shrink l.pre c hb)
    · exact h
  | stk => exact h
/-- an expression, what it leaves behind dropped -/
def gcE (f : Sl → M D) : Sl → M D := fun ρ μ => gcR μ.length (f ρ μ)
theorem me_gc (h : ME X aa W e f) : ME X aa W e (gcE f) := PE.weak h fun σ H Q ⟨ρ, μ, ι, e0, c0, q⟩ => ⟨ρ, μ, ι, e0, c0, gc_acc (by rw [c0.len]; exact q)⟩
/-- a def's promise: its denotation -/
def spD (G : Gs) (g : List D → M D) : Sp := fun vs H Q E => ∃ ds μ ι, Reps G ι H ds vs ∧ Cells G ι H μ ∧ Acc (fun c H' => E (.ref (G.aa c)) none H') (Rep G) G ι H Q (g ds μ)
def SR.toR : SR → R D
  | .rt d μ => .ok d μ
  | .nx _ μ => .ok .non μ
  | .xc c _ μ => .xc c μ
  | _ => .stk
/-- n parameters, m names -/
def denF (n m : Nat) (body : DS) : List D → M D := fun ds => asks (ds.length = n) fun μ => gcR μ.length (body (ds.map some ++ List.replicate (m - n) none) μ).toR
theorem envR_start {G : Gs} {ι : List Addr} {H : Hp} {ds : List D} {vs : List V} {N : List Str} (rs : Reps G ι H ds vs) : EnvR G ι H (L2.start N vs) (ds.map some ++ List.replicate (N.length - ds.length) none) := by
  refine ⟨by unfold L2.start; simp [rs.len], fun i d h => ?_⟩
  by_cases hi : i < ds.length
  · rw [List.getElem?_append_left (by simpa using hi), List.getElem?_map] at h
    cases e : ds[i]? with
    | none => rw [e] at h; cases h
    | some d' =>
      rw [e] at h
      cases h
      obtain ⟨v, hv, r⟩ := rs.get e
      refine ⟨v, ?_, r⟩
      unfold L2.start
      rw [List.getElem?_append_left (by rw [List.length_map, ← rs.len]; exact hi), List.getElem?_map, hv]
      rfl
  · rw [List.getElem?_append_right (by simpa using hi), List.getElem?_replicate] at h
    split at h <;> cases h
/-- how a body's end is taken -/
theorem body_end {G : Gs} {ι : List Addr} {H : Hp} {Q : VK} {E : XK} {r : SR} (h : Acc (fun c H' => E (.ref (G.aa c)) none H') (Rep G) G ι H Q r.toR) : AccS G (fun cls d _ H' => E cls d H') { nx := fun _ H' => Q .non H', rt := Q } ι H r := by
  cases r with
  | rt d μ => exact fun ι' H' v l c r => h ι' H' v l c r
  | nx ρ μ => exact fun ι' H' σ' l e c => h ι' H' .non l c rfl
  | xc k ρ μ => exact fun ι' H' σ' l e c => h ι' H' l c
  | bk ρ μ => exact False.elim h
  | ct ρ μ => exact False.elim h
  | stk => exact h
/-- W of a def's body -/
abbrev WF (E : XK) : WX := fun cls d _ H' => E cls d H'
theorem fn_den {P : Program} {w : World} {K : PySem.W.Frag} {mg : Str → Option Value} {base : Heap} {x qual : Str} {st : Stmt} {f : Addr} {fd : FuncData} {N ps : List Str} {k : Nat} {m : DS} (F : Fun K x qual st f fd) (S : FnScope N ps (defScope st))
    (hb : ∀ (cdv : Value) (A : Around) (outer : List PySem.Env) (s : Shared) (H : Hp) (E : XK), Room k (A.deeper (envOfC qual (defScope st) s.heap.objs.size f cdv)) → MB (cxOf (L2.CX P w) P w K mg base N qual (defScope st) f cdv A outer s H E) aa (WF E) (defBody st) m) :
    FnOk P w K mg base (L2.CX P w) (k + 1) f fd ps (spD ⟨K, aa⟩ (denF ps.length N.length m)) := by
  refine F.okX S (fun vs H Q E h => ?_) (fun cdv A outer s H vs Q E hr h => ⟨_, hb cdv A outer s H E hr, ?_⟩)
  · obtain ⟨ds, μ, ι, rs, c, h⟩ := h
    unfold denF at h
    obtain ⟨hl, _⟩ := asks_acc h
    rw [← rs.len, hl]
  · obtain ⟨ds, μ, ι, rs, c, h⟩ := h
    unfold denF at h
    obtain ⟨hl, h⟩ := asks_acc h
    refine ⟨_, μ, ι, envR_start rs, c, body_end (gc_acc ?_)⟩
    rw [c.len, hl]
    exact h
variable {k : Nat} {fA C : Addr} {fd : FuncData} {ps : List Str} {g : List D → M D} {x name : Str} {p apos : Pos}
theorem read_fn {σ : SV} {H : Hp} {Q : VK} (h : tE ⟨X.K, aa⟩ W (callE g fs) σ H Q) : tCallS (spD ⟨X.K, aa⟩ g) (WE W) (tA ⟨X.K, aa⟩ W fs) σ H Q :=
  tX.split (rep := Reps) (k := fun _ ds => g ds) h fun ρ ι H1 ds vs μ1 e' c' rs h1 => ⟨ds, μ1, ι, rs, c', h1⟩
theorem me_call (F : FnOk X.prog X.w X.K X.mg X.base (L2.CX X.prog X.w) k fA fd ps (spD ⟨X.K, aa⟩ g)) (hr : Room k X.A) (hg : Gl X x) (hm : X.mg x = some (.ref fA)) (hk : PySem.W.keepIn X.K (.ref fA) = true) (hb : Binds X.K fd ps []) (tk : Takes X W) (ha : MA X aa W (e :: es) fs)
    (hdb : (x == ("__debug__" : Str)) = false := by decide) (he : starEach (e :: es) X.env = (false, eval e X.env) :: starEach es X.env := by rfl) (hpl : (backTo pos (starEach es X.env)).any (·.1) = false := by rfl) :
    ME X aa W (.Call (.Name x p) (e :: es) [] pos) (callE g fs) := PE.weak (pe_callS F hr hg hm hk hb (fun σ => passAt tk σ) ha hdb he hpl) fun σ H Q h => read_fn h
/-- no exception may leave -/
def noX (r : R D) : R D := match r with
  | .ok d μ => .ok d μ
  | _ => .stk
theorem noX_acc {W W' : Nat → Hp → Prop} {G : Gs} {ι : List Addr} {H : Hp} {Q : VK} {r : R D} (h : Acc W (Rep G) G ι H Q (noX r)) : Acc W' (Rep G) G ι H Q r := by
  cases r with
  | ok d μ => exact h
  | xc c μ => exact h.elim
  | stk => exact h.elim
theorem passE0 : Passes (L2.CX X.prog X.w) X E0 := fun pins σ H s e s' I c => by
  obtain ⟨a, B, H', cls, d, _, _, _, _, _, _, _, h⟩ := c
  exact h.elim

/-! ### instances -/
def insOf (c : Nat) (μ : Mu) : D → Option (List (Str × D))
  | .mr k => match μ[k]? with
    | some (.ins c' fs) => if c' = c then some fs else none
    | _ => none
  | _ => none
theorem ins_rep {G : Gs} {ι : List Addr} {H : Hp} {μ : Mu} {c : Nat} {d : D} {v : V} {fs : List (Str × D)} (C : Cells G ι H μ) (r : Rep G ι H d v) (h : insOf c μ d = some fs) :
    ∃ k a dx us, d = .mr k ∧ v = .ref a ∧ ι[k]? = some a ∧ μ[k]? = some (.ins c fs) ∧ H a = some (.ins (G.aa c) dx us) ∧ FsR G ι H fs us := by
  cases d with
  | mr k =>
    unfold insOf at h
    simp only at h
    split at h
    · rename_i c' fs' ek
      split at h
      · rename_i hc
        cases h; subst hc
        obtain ⟨a, ha, rfl⟩ := r
        obtain ⟨dx, us, e, q⟩ := C.at_ k _ a ek ha
        exact ⟨k, a, dx, us, rfl, rfl, ha, ek, e, q⟩
      · cases h
    · cases h
  | _ => cases h
theorem fs_lookup {G : Gs} {ι : List Addr} {H : Hp} (f : Str) : ∀ {fs : List (Str × D)} {us : List (Str × V)}, FsR G ι H fs us → (∀ d, fs.lookup f = some d → ∃ v, us.lookup f = some v ∧ Rep G ι H d v) ∧ (fs.lookup f = none → us.lookup f = none)
  | [], us, h => by
    have h' : us = [] := h
    subst h'
    exact ⟨fun d e => (by cases e), fun _ => rfl⟩
  | q :: fs, us, h => by
    obtain ⟨v, r, rfl, r1, r2⟩ := h
    obtain ⟨ih1, ih2⟩ := fs_lookup f r2
    simp only [List.lookup]
    cases hq : (f == q.1) with
    | true => exact ⟨fun d e => (by cases e; exact ⟨v, rfl, r1⟩), fun e => (by cases e)⟩
    | false => exact ⟨ih1, ih2⟩
theorem fs_len {G : Gs} {ι : List Addr} {H : Hp} : ∀ {fs : List (Str × D)} {us : List (Str × V)}, FsR G ι H fs us → fs.length = us.length
  | [], us, h => by have h' : us = [] := h; subst h'; rfl
  | q :: fs, us, h => by
    obtain ⟨v, r, rfl, r1, r2⟩ := h
    simp [fs_len r2]
def putD (f : Str) (d : D) : List (Str × D) → List (Str × D)
  | [] => [(f, d)]
  | (h, x) :: r => if h = f then (h, d) :: r else (h, x) :: putD f d r
theorem fs_put {G : Gs} {ι : List Addr} {H : Hp} {f : Str} {d : D} {v : V} (rd : Rep G ι H d v) : ∀ {fs : List (Str × D)} {us : List (Str × V)}, FsR G ι H fs us → FsR G ι H (putD f d fs) (putF f v us)
  | [], us, h => by have h' : us = [] := h; subst h'; exact ⟨v, [], rfl, rd, rfl⟩
  | (h, x) :: fs, us, hh => by
    obtain ⟨w, r, rfl, r1, r2⟩ := hh
    unfold putD putF
    split
    · exact ⟨v, r, rfl, rd, r2⟩
    · exact ⟨w, _, rfl, r1, fs_put rd r2⟩
def fldE (c : Nat) (f : Str) (fo : Sl → M D) : Sl → M D := fun ρ => fo ρ >>= fun d => fun μ => match (insOf c μ d).bind (·.lookup f) with
  | some x => .ok x μ
  | none => .stk
theorem me_fld {c : Nat} (hC : Cls X.K (aa c)) (hn : NoAttr X.K (aa c) name) (ho : ME X aa W o fo) (hb : attributeBase o name X.env (eval o X.env) = eval o X.env := by rfl) : ME X aa W (.Attribute o name pos) (fldE c name fo) :=
  PE.weak (pe_fld ho hb) fun σ H Q h => by
    refine tX.split (rep := Rep) (k := fun _ d => fun μ => match (insOf c μ d).bind (·.lookup name) with
      | some x => .ok x μ
      | none => .stk) h fun ρ ι H1 d v μ1 e' c' r h1 => ?_
    split at h1
    · rename_i x hx
      obtain ⟨fs, e1, e2⟩ := Option.bind_eq_some_iff.mp hx
      obtain ⟨k, a, dx, us, rfl, rfl, _, _, ea, q⟩ := ins_rep c' r e1
      obtain ⟨v, hv, rv⟩ := (fs_lookup name q).1 x e2
      exact ⟨a, _, dx, us, v, rfl, ea, hC, hn, hv, h1.now c' rv⟩
    · exact h1.elim
/-- o.f = e: the value first -/
def putFld (c : Nat) (f : Str) (x d : D) : M Unit := fun μ => match d, insOf c μ d with
  | .mr k, some fs => if fs.length < 1000 then .ok () (μ.set k (.ins c (putD f x fs))) else .stk
  | _, _ => .stk
def setF (c : Nat) (f : Str) (fo fv : Sl → M D) : DS := fun ρ μ => ((fv ρ >>= fun x => fo ρ >>= fun d => putFld c f x d) μ).toS ρ fun _ μ' => .nx ρ μ'
theorem ms_fld {c : Nat} {value : Expr} {pos' : Pos} {fv : Sl → M D} (hC : Cls X.K (aa c)) (hn : NoAttr X.K (aa c) name) (ho : ME X aa W o fo) (hv : ME X aa W value fv) (hs : swapsWith value (some (.Attribute o name pos')) pos.line X.env = pure false := by rfl) :
    MS X aa W (.Assign [.Attribute o name pos'] value pos) (setF c name fo fv) := PS.weak (ps_fld ho hv hs) fun D σ H ⟨ρ, μ, ι, e0, c0, h⟩ => by
  unfold setF at h
  rw [bind_at] at h
  refine ⟨ρ, μ, ι, e0, c0, ?_⟩
  cases hfv : fv ρ μ with
  | stk => rw [hfv] at h; exact h
  | xc k μ1 => rw [hfv] at h; exact fun ι1 H1 l1 c1 => h ι1 H1 σ l1 (e0.later l1) c1
  | ok x μ1 =>
    rw [hfv] at h
    replace h : AccS ⟨X.K, aa⟩ W D ι H (((fo ρ >>= fun d => putFld c name x d) μ1).toS ρ fun _ μ' => .nx ρ μ') := h
    rw [bind_at] at h
    intro ι1 H1 y l1 c1 ry
    refine ⟨ρ, μ1, ι1, e0.later l1, c1, ?_⟩
    cases hfo : fo ρ μ1 with
    | stk => rw [hfo] at h; exact h
    | xc k μ2 => rw [hfo] at h; exact fun ι2 H2 l2 c2 => h ι2 H2 σ (l1.trans l2) (e0.later (l1.trans l2)) c2
    | ok d μ2 =>
      rw [hfo] at h
      replace h : AccS ⟨X.K, aa⟩ W D ι H ((putFld c name x d μ2).toS ρ fun _ μ' => .nx ρ μ') := h
      intro ι2 H2 v l2 c2 rv
      unfold putFld at h
      split at h
      · rename_i k fs hk
        split at h
        · rename_i hz
          obtain ⟨k', a, dx, us, ek, rfl, ha, hm, ea, q⟩ := ins_rep c2 rv hk
          cases ek
          have l3 : Later ι2 H2 ι2 (upd H2 a (.ins (aa c) dx (putF name y us))) := ⟨List.prefix_refl _, KeepT.put ea (fun _ z => nomatch z) fun _ _ z => nomatch z⟩
          refine ⟨a, _, dx, us, rfl, ea, hC, hn, by rw [← fs_len q]; exact hz, ?_⟩
          exact h ι2 _ σ ((l1.trans l2).trans l3) (e0.later ((l1.trans l2).trans l3)) (c2.put ha ea (fun _ z => nomatch z) (fun _ _ z => nomatch z) ⟨dx, _, upd_same, (fs_put (ry.later l2) q).later l3⟩)
        · exact h.elim
      · exact h.elim
/-- o.m(e, ..), by the method's denotation -/
def recvI (c : Nat) (m : Str) (d : D) : M Unit := fun μ => match (insOf c μ d).map (·.lookup m) with
  | some none => .ok () μ
  | _ => .stk
def callNX (g : List D → M D) (ds : List D) : M D := fun μ => noX (g ds μ)
def methE (c : Nat) (m : Str) (g : List D → M D) (fo : Sl → M D) (fs : Sl → M (List D)) : Sl → M D := fun ρ => fo ρ >>= fun d => recvI c m d >>= fun _ => fs ρ >>= fun ds => callNX g (d :: ds)
theorem read_meth {c : Nat} {σ : SV} {H : Hp} {Q : VK} (h : tE ⟨X.K, aa⟩ W (methE c name g fo fs) σ H Q) : tMeth (aa c) name (spD ⟨X.K, aa⟩ g) [] E0 (tE ⟨X.K, aa⟩ W fo) (tA ⟨X.K, aa⟩ W fs) σ H Q := by
  refine tX.split (rep := Rep) (k := fun ρ d => recvI c name d >>= fun _ => fs ρ >>= fun ds => callNX g (d :: ds)) h fun ρ ι H1 d v μ1 e' c' r h1 => ?_
  rw [bind_at] at h1
  unfold recvI at h1
  split at h1
  · rename_i hm
    obtain ⟨fl, e1, e2⟩ := Option.map_eq_some_iff.mp hm
    have r0 := r
    obtain ⟨k', a, dx, us, rfl, rfl, _, _, ea, q⟩ := ins_rep c' r e1
    refine ⟨a, dx, us, rfl, ea, (fs_lookup name q).2 e2, ρ, μ1, ι, e', c', Acc.bind h1 fun ι2 H2 ds vs μ2 l2 c2 rs h2 => ?_⟩
    rw [List.append_nil]
    exact ⟨_, μ2, ι2, Reps.cons (Rep.later (d := .mr k') l2 r0) rs, c2, noX_acc h2⟩
  · exact h1.elim
theorem me_meth {c : Nat} {pl : Sem Bool} (ho : ME X aa W o fo) (hC : Cls X.K (aa c)) (hm : Meth X.K (aa c) name fA) (F : FnOk X.prog X.w X.K X.mg X.base (L2.CX X.prog X.w) k fA fd ps (spD ⟨X.K, aa⟩ g)) (hr : Room k X.A) (hb : Binds X.K fd ps []) (ha : MA X aa W (e :: es) fs)
    (hst : starEach (e :: es) X.env = (false, eval e X.env) :: starEach es X.env := by rfl) (hpl : (backTo pos (starEach es X.env)).any (·.1) = false := by rfl)
    (ht : eval (.Call (.Attribute o name apos) (e :: es) [] pos) X.env = (do
      let ov ← eval o X.env
      standAt apos.atName
      let (f, first) ← holding [ov] (getMethod ov name pl)
      callWith pos f first (backTo pos (starEach (e :: es) X.env)) (backToKw pos (keywordEach [] X.env))) := by rfl) :
    ME X aa W (.Call (.Attribute o name apos) (e :: es) [] pos) (methE c name g fo fs) := PE.weak (pe_meth (pl := pl) ho hC hm F hr hb .nil passE0 ha hst hpl ht) fun σ H Q h => read_meth h
theorem me_meth0 {c : Nat} {pl : Sem Bool} (ho : ME X aa W o fo) (hC : Cls X.K (aa c)) (hm : Meth X.K (aa c) name fA) (F : FnOk X.prog X.w X.K X.mg X.base (L2.CX X.prog X.w) k fA fd ps (spD ⟨X.K, aa⟩ g)) (hr : Room k X.A) (hb : Binds X.K fd ps [])
    (ht : eval (.Call (.Attribute o name apos) [] [] pos) X.env = (do
      let ov ← eval o X.env
      standAt apos.atName
      let (f, first) ← holding [ov] (getMethod ov name pl)
      callWith pos f first (backTo pos (starEach [] X.env)) (backToKw pos (keywordEach [] X.env))) := by rfl) :
    ME X aa W (.Call (.Attribute o name apos) [] [] pos) (methE c name g fo nilA) := PE.weak (pe_meth0 (pl := pl) ho hC hm F hr hb .nil passE0 ht) fun σ H Q h => by
  have h' := read_meth (fs := nilA) h
  obtain ⟨ρ, μ, ι, e0, c0, q⟩ := h'
  refine ⟨ρ, μ, ι, e0, c0, Acc.mono q fun v H1 q1 => ?_⟩
  obtain ⟨a, dx, us, e1, e2, e3, ρ2, μ2, ι2, e4, c4, q4⟩ := q1
  exact ⟨a, dx, us, e1, e2, e3, Acc.now (a := ([] : List D)) q4 c4 Reps.nil⟩
/-- C(e, ..): a new instance, then __init__ -/
def makeE (c : Nat) (g : List D → M D) (fs : Sl → M (List D)) : Sl → M D := fun ρ => fs ρ >>= fun ds => fun μ => match g (.mr μ.length :: ds) (μ ++ [.ins c []]) with
  | .ok .non μ' => .ok (.mr μ.length) μ'
  | _ => .stk
theorem me_make {c : Nat} (M : Mk X.K (aa c) fA) (F : FnOk X.prog X.w X.K X.mg X.base (L2.CX X.prog X.w) k fA fd ps (spD ⟨X.K, aa⟩ g)) (hr : Room (k + 1) X.A) (hg : Gl X x) (hm : X.mg x = some (.ref (aa c))) (hb : Binds X.K fd ps []) (ha : MA X aa W (e :: es) fs)
    (hdb : (x == ("__debug__" : Str)) = false := by decide) (he : starEach (e :: es) X.env = (false, eval e X.env) :: starEach es X.env := by rfl) (hpl : (backTo pos (starEach es X.env)).any (·.1) = false := by rfl) :
    ME X aa W (.Call (.Name x p) (e :: es) [] pos) (makeE c g fs) := PE.weak (pe_make M F hr hg hm hb .nil passE0 ha hdb he hpl) fun σ H Q h => by
  refine tX.split (rep := Reps) (k := fun _ ds => fun μ => match g (.mr μ.length :: ds) (μ ++ [.ins c []]) with
    | .ok .non μ' => .ok (D.mr μ.length) μ'
    | _ => .stk) h fun ρ ι H1 ds vs μ1 e' c' rs h1 => fun a dx na ndx ne => ?_
  have n1 : upd H1 dx (.own a) a = none := by rw [upd_ne (Ne.symm ne)]; exact na
  have l1 : Later ι H1 ι (upd H1 dx (.own a)) := Later.new ndx
  have l2 : Later ι (upd H1 dx (.own a)) (ι ++ [a]) (upd (upd H1 dx (.own a)) a (.ins (aa c) dx [])) := Later.grow n1
  have hk : (ι ++ [a])[μ1.length]? = some a := by rw [← c'.len]; simp
  rw [List.append_nil]
  refine ⟨.mr μ1.length :: ds, μ1 ++ [.ins c []], ι ++ [a], Reps.cons ⟨a, hk, rfl⟩ (rs.later (l1.trans l2)), (c'.new ndx).grow (c := Cell.ins c []) n1 ⟨dx, [], upd_same, rfl⟩, ?_⟩
  split at h1
  · rename_i μ2 hg2
    rw [hg2]
    intro ι3 H3 b l3 c3 rb
    have eb : b = V.non := rb
    subst eb
    exact ⟨rfl, h1 ι3 H3 (V.ref a) ((l1.trans l2).trans l3) c3 ⟨a, pre_get l3.pre hk, rfl⟩⟩
  · exact h1.elim

/-! ### errors -/
def raiseS (c : Nat) : DS := fun ρ μ => .xc c ρ μ
theorem ms_raise {c : Nat} (hc : X.calm = true) (tk : Takes X W) (he : PMk X e (fun _ H Q => Q (.ref (aa c)) none H)) : MS X aa W (.Raise (some e) none pos) (raiseS c) := PS.weak (ps_raise hc tk he) fun D σ H ⟨ρ, μ, ι, e0, c0, h⟩ => h ι H σ (Later.refl _ _) e0 c0
end
end DL
end TDL8

section TDLE
set_option maxRecDepth 100000
set_option maxHeartbeats 1000000
/-! DLE: enumerate of a tuple; t[::-1] of a tuple; a tuple k times; list(range(..)). -/
namespace PySem
open PySem.Spec PyProof.Rows
theorem dl_enum_new {v : Value} {o : Obj} {Y : Heap → Prop} (B : Begins v o Y) :
    Meets (Builtin.«enumerate.__new__» ⟨[.type "enumerate", v], []⟩) (fun _ R s => Y s.heap ∧
      R (.ok (.ret (.ref (s.heap.push o).objs.size))) { s with heap := (s.heap.push o).push { cls := .type "enumerate", data := .fields #[.none, .bool false, .ref s.heap.objs.size, rawInt 0, .none, .none] } }) :=
  .of_wp fun prog w A R s h => by
    obtain ⟨hp, g, d, tk, os⟩ := s
    obtain ⟨hy, h⟩ := h
    have hsub := sub_enumerate
    have go : ∀ {A' : Around} {E : Value → Shared → Prop} {Q : Value → Shared → Prop}, Q (.ref hp.objs.size) ⟨hp.push o, g, d, tk, os⟩ → wpAny (model prog w) A' (pyIter v) Q E ⟨hp, g, d, tk, os⟩ := fun q => B.iter prog w _ _ ⟨hp, g, d, tk, os⟩ _ hy q
    wp_walk using go
    refine wpAny_stack_any fun st => wpAny_pure ?_
    split
    · rename_i c _ _ _ _ _
      cases (c == Value.type "enumerate") <;> (wp_walk using go; exact ⟨_, rfl, h⟩)
    · (wp_walk using go; exact ⟨_, rfl, h⟩)
section
variable {prog : Program} {w : World} {A : Around} {E : Value → Shared → Prop} {s : Shared}
theorem dl_call_enum {v : Value} {o : Obj} {Y : Heap → Prop} {Q : Value → Shared → Prop} (B : Begins v o Y) (hy : Y s.heap)
    (h : ∀ h', IsEnum h' (s.heap.objs.size + 1) s.heap.objs.size 0 .none → h'.get? s.heap.objs.size = some o → (∀ b u, s.heap.get? b = some u → h'.get? b = some u) → Q (.ref (s.heap.objs.size + 1)) { s with heap := h' }) :
    wpAny (model prog w) A (call (.type "enumerate") [v]) Q E s := by
  refine callType_new F.called_enumerate (by decide) (F.typeCall_enumerate_1 _) (F.newCall_enumerate_1 _) (fun obj => F.args_object_init_2 obj _) F.entry_enumerate_new (dl_enum_new B) ⟨hy, ?_⟩
  have z1 : (s.heap.push o).objs.size = s.heap.objs.size + 1 := Heap.size_push ..
  show _ ∧ _
  rw [z1]
  have en : IsEnum ((s.heap.push o).push { cls := .type "enumerate", data := .fields #[.none, .bool false, .ref s.heap.objs.size, rawInt 0, .none, .none] }) (s.heap.objs.size + 1) s.heap.objs.size 0 .none := by
    have e2 := Heap.get?_push_size (s.heap.push o) (o := { cls := .type "enumerate", data := .fields #[.none, .bool false, .ref s.heap.objs.size, rawInt 0, .none, .none] }) rfl
    rw [z1] at e2
    exact e2
  exact ⟨⟨_, en, rfl⟩, h _ en (Heap.get?_push_of_some _ (Heap.get?_push_size _ B.free)) fun b u q => Heap.get?_push_of_some _ (Heap.get?_push_of_some _ q)⟩
end
end PySem
namespace DL
open PySem L2 PySem.Spec PyProof.Rows
/-- a tuple's items and their places, in new pairs -/
def IteT (K : PySem.W.Frag) (a : Addr) : It :=
  ⟨fun i H => ∃ (xs : List V) (x : V), SqT K H a xs ∧ xs[i]? = some x, fun i H v H' => ∃ T x, v = .ref T ∧ H T = none ∧ H' = upd H T (.tup [.int (i : Nat), x]) ∧ ∀ xs, SqT K H a xs → xs[i]? = some x, fun i H => ∃ xs : List V, SqT K H a xs ∧ xs.length ≤ i⟩
theorem draws_tup {prog : Program} {w : World} {A : Around} (hh : A.handled = none) (it t : Addr) (hne : t ≠ it) (items : Array Value) : Draws prog w A it [it, t] items.size (fun i v => items[i]? = some v) (fun i h => h.IsTupleIter it t i ∧ h.IsTuple t items) := Draws.tuple hh it t hne items
theorem draws_end {prog : Program} {w : World} {A : Around} (hh : A.handled = none) (it t : Addr) (i : Nat) (items : Array Value) (hx : items[i]? = none) : Draws prog w A it [it, t] 0 (fun _ _ => True) (fun _ h => h.IsTupleIter it t i ∧ h.IsTuple t items) where
  live := fun _ _ st => let ⟨o, ho, _⟩ := st.1; ⟨o, ho⟩
  frame := fun _ _ _ st hk => ⟨st.1.at fun o e => hk it (by simp) o e, st.2.at fun o e => hk t (by simp) o e⟩
  item := fun i s Q E hi st hQ => absurd hi (Nat.not_lt_zero _)
  done := fun s Q E st hE => wpAny_nextOf_tuple_end hh st.1 st.2 hx hE
theorem turn_enumT {P : Program} {w : World} {K : PySem.W.Frag} {elts : List Expr} {kk : Nat} {tpos : Pos} (a e it : Addr) (nae : a ≠ e) (nai : a ≠ it) :
    Turn P w K (.Tuple elts kk tpos) (IteT K a) [e, it] e (fun i h => (∃ old, IsEnum h e it ((i : Nat) : Int) old) ∧ h.IsTupleIter it a i ∧ e ≠ it) where
  mem := by simp
  obj := fun i h st b hb => by
    obtain ⟨⟨old, en⟩, ⟨o, ho, hc, hd⟩, _⟩ := st
    rcases (by simpa using hb : b = e ∨ b = it) with rfl | rfl
    · exact ⟨_, en, fun v q => nomatch q⟩
    · exact ⟨o, ho, fun v q => by rw [hd] at q; cases q⟩
  keep := fun i h h' st k => let ⟨⟨old, en⟩, ti, hne⟩ := st; ⟨⟨old, k e (by simp) _ en⟩, ti.at fun o q => k it (by simp) o q, hne⟩
  item := by
    intro X hP hw hK hc i pins s σ H E I hf st hg
    subst hP hw hK
    obtain ⟨⟨old, en⟩, ti, hne⟩ := st
    obtain ⟨xs, x, hq, hx⟩ := hg
    obtain ⟨its, rv, pt, hz⟩ := I.tuple hq
    obtain ⟨u, hu, ru⟩ := rv.get hx
    have le : e < s.heap.objs.size := Heap.lt_size en
    have li : it < s.heap.objs.size := by obtain ⟨_, q, _⟩ := ti; exact Heap.lt_size q
    have li2 : i < its.toArray.size := by rw [List.size_toArray]; exact (List.getElem?_eq_some_iff.mp hu).1
    refine wpAny_pyNext_enum_itemD (draws_tup (A := X.A.in1) (show X.A.in1.handled = none from I.ok.hd hc) it a nai its.toArray) en ⟨ti, (show s.heap.IsTuple a its.toArray from pt)⟩ li2 hne (by simp [hne, Ne.symm nae]) fun y h' tk hy ho st' hT hsz hk => ?_
    have ey : y = u := by
      have e2 : its[i]? = some y := by simpa using hy
      rw [hu] at e2
      exact (Option.some.inj e2).symm
    subst ey
    refine ⟨_, rfl, wpAny_letOwnedTupleGo_enum (s := { s with heap := h', toks := tk + 1 }) ho fun h'' en' sb => ?_⟩
    have hT2 : h''.get? s.heap.objs.size = some { cls := .type "tuple", data := .seq #[.int i tk, y] } := (sb.2 _ (Nat.ne_of_gt le)).trans hT
    have new : ObjOk X.prog X.w (upd H s.heap.objs.size (.tup [.int (i : Nat), x])) h'' s.heap.objs.size (.tup [.int (i : Nat), x]) :=
      ⟨by show 2 ≤ sizeLine; decide, [.int i tk, y], .cons ⟨_, rfl⟩ (.cons ru .nil), ⟨_, hT2, rfl, _, rfl⟩⟩
    have I1 : Inv X pins σ (upd H s.heap.objs.size (.tup [.int (i : Nat), x])) { s with heap := h'', toks := tk + 1 } :=
      I.turnedNew (ch := [e, it]) (fun b ob hb q => (sb.2 b (fun z => hb (by simp [z]))).trans (hk b ob (fun z => hb (by simp [z])) (fun z => hb (by simp [z])) q)) hf (Nat.le_refl _) new
    refine ⟨.ref s.heap.objs.size, _, I1, rfl, ⟨_, x, rfl, I.hok.fresh (Nat.le_refl _), rfl, fun ys hy => by rw [I.tuple_inj hy hq]; exact hx⟩, ⟨⟨y, ?_⟩, st'.1.at fun o q => (sb.2 it (Ne.symm hne)).trans q, hne⟩, fun b hb => ?_⟩
    · rw [show ((i + 1 : Nat) : Int) = (i : Int) + 1 by omega]
      exact en'
    · have lb : b < s.heap.objs.size := by
        rcases (by simpa using hb : b = e ∨ b = it) with rfl | rfl
        · exact le
        · exact li
      rw [upd_ne (Nat.ne_of_lt lb)]
      exact (hf b hb).1
  done := by
    intro X hP hw hK hc i pins s σ H E I hf st hg
    subst hP hw hK
    obtain ⟨⟨old, en⟩, ti, hne⟩ := st
    obtain ⟨xs, hq, hx⟩ := hg
    obtain ⟨its, rv, pt, hz⟩ := I.tuple hq
    obtain ⟨f0, f1, f2, f3, f4, f5⟩ := hf it (by simp)
    have hl := rv.length
    have pt' : s.heap.IsTuple a its.toArray := pt
    refine wpAny_pyNext_enum_endD (draws_end (prog := X.prog) (w := X.w) (A := X.A.in1) (show X.A.in1.handled = none from I.ok.hd hc) it a i its.toArray (by simp; omega)) en ⟨ti, pt'⟩ fun h' eb => ⟨rfl, I.turned (t' := s.toks) (fun b o hb q => eb b o hb q) f0 f1 f3 f4 f5⟩
  self := fun A i s Q E st h => let ⟨⟨_, en⟩, _⟩ := st; wpAny_pyIter_enum en h
def iEnumT (K : PySem.W.Frag) (ta : TA) : TI := fun σ H R => ta σ H fun vs H1 => ∃ a xs, vs = [V.ref a] ∧ SqT K H1 a xs ∧ R (IteT K a) H1
theorem pi_enumT {X : Cx} {e : Expr} {ta : TA} {p pos tpos : Pos} {elts : List Expr} {kk : Nat} (hg : Gl X "enumerate") (hm : X.mg "enumerate" = none) (ha : PA X [e] ta) (hs : starEach [e] X.env = [(false, eval e X.env)] := by rfl) :
    PI X (.Tuple elts kk tpos) (.Call (.Name "enumerate" p) [e] [] pos) (iEnumT X.K ta) := by
  refine ⟨fun pins s σ H R I h => Call_ (ld_blt I hg hm boot_enumerate (PyProof.Rows.callWith_type1 (thn (ha.run pos pins s σ H _ I h) fun us s1 ⟨vs, H1, I1, r1, a, xs, ev, hq, q⟩ => ?_) hs rfl))⟩
  subst ev
  obtain ⟨u, rfl, ru⟩ : ∃ u, us = [u] ∧ RelV (V.ref a) u := by
    cases r1 with
    | cons r rr => cases rr; exact ⟨_, rfl, r⟩
  cases ru
  obtain ⟨its, rv, pt, hz⟩ := I1.tuple hq
  have pt' : s1.heap.IsTuple a its.toArray := pt
  refine dl_call_enum (begins_tuple a its.toArray) pt' fun h' en hit hk => wpAny_pyIter_enum en ?_
  have I2 : Inv X pins σ H1 { s1 with heap := h' } := I1.kept (t' := s1.toks) hk
  have la : a < s1.heap.objs.size := pt.lt
  have n1 : a ≠ s1.heap.objs.size + 1 := Nat.ne_of_lt (Nat.lt_succ_of_lt la)
  have n2 : a ≠ s1.heap.objs.size := Nat.ne_of_lt la
  refine ⟨s1.heap.objs.size + 1, [s1.heap.objs.size + 1, s1.heap.objs.size], _, _, H1, rfl, I2, turn_enumT a (s1.heap.objs.size + 1) s1.heap.objs.size n1 n2, ⟨⟨.none, en⟩, ⟨_, hit, rfl, rfl⟩, Nat.succ_ne_self _⟩, fun b hb => ?_, q⟩
  have le : s1.heap.objs.size ≤ b := by
    rcases (by simpa using hb : b = s1.heap.objs.size + 1 ∨ b = s1.heap.objs.size) with rfl | rfl <;> omega
  exact I1.fpOk le (I1.hok.fresh le)
/-- enumerate(t) -/
def enumL : Nat → List D → List D
  | _, [] => []
  | i, d :: ds => .tup [.int (i : Nat), d] :: enumL (i + 1) ds
def enumI (fs : Sl → M (List D)) : Sl → M ItD := fun ρ => fs ρ >>= fun ds => match ds with
  | [.tup as] => pure (fixI (enumL 0 as))
  | _ => stuck
theorem enum_get : ∀ (ds : List D) (k i : Nat), (enumL k ds)[i]? = (ds[i]?).map fun d => D.tup [.int ((k + i : Nat) : Int), d]
  | [], k, i => by simp [enumL]
  | d :: ds, k, 0 => by simp [enumL]
  | d :: ds, k, i + 1 => by
    simp only [enumL, List.getElem?_cons_succ]
    rw [enum_get ds (k + 1) i, show k + 1 + i = k + (i + 1) by omega]
theorem itok_enum {G : Gs} {ι : List Addr} {H : Hp} {a : Addr} {as : List D} {vs : List V} (q : SqT G.K H a vs) (rs : Reps G ι H as vs) : ItOk G ι H (IteT G.K a) (fixI (enumL 0 as)).get := fun ι' H' μ' l c i => by
  have q' := l.keep.sqt q
  have rs' := rs.later l
  refine ⟨fun e => ?_, fun d e => ?_⟩
  · have e' := Option.some.inj e
    rw [enum_get, Option.map_eq_none_iff] at e'
    exact ⟨vs, q', reps_past rs' e'⟩
  · have e' := Option.some.inj e
    rw [enum_get] at e'
    obtain ⟨x, hx, ed⟩ := Option.map_eq_some_iff.mp e'
    subst ed
    obtain ⟨v, hv, rv⟩ := rs'.get hx
    refine ⟨⟨vs, v, q', hv⟩, fun u H'' y => ?_⟩
    obtain ⟨T, x', rfl, nT, rfl, f1⟩ := y
    have e1 : x' = v := Option.some.inj ((f1 _ q').symm.trans hv)
    subst e1
    have l2 : Later ι' H' ι' (upd H' T (.tup [.int (i : Nat), x'])) := Later.new nT
    refine ⟨l2, c.new nT, ⟨T, _, rfl, SqT.of upd_same, Reps.cons ?_ (Reps.one (rv.later l2))⟩⟩
    show V.int (i : Nat) = V.int ((0 + i : Nat) : Int)
    rw [Nat.zero_add]
section
variable {X : Cx} {aa : Nat → Addr} {W : WX} {e : Expr} {fs : Sl → M (List D)} {fa : Sl → M D} {pos : Pos}
theorem mi_enum {p tpos : Pos} {elts : List Expr} {kk : Nat} (hg : Gl X "enumerate") (hm : X.mg "enumerate" = none) (ha : MA X aa W [e] fs) (hs : starEach [e] X.env = [(false, eval e X.env)] := by rfl) :
    MI X aa W (.Tuple elts kk tpos) (.Call (.Name "enumerate" p) [e] [] pos) (enumI fs) := PI.weak (pi_enumT hg hm ha hs) fun σ H R h => by
  refine tX.split (rep := Reps) (k := fun _ ds => match ds with
    | [.tup as] => pure (fixI (enumL 0 as))
    | _ => stuck) h fun ρ ι H1 ds vs μ1 e c rs h1 => ?_
  split at h1
  · obtain ⟨v, rfl, r⟩ := reps1 rs
    obtain ⟨a, us, rfl, q, rq⟩ := r
    exact ⟨a, us, rfl, q, h1.now c (itok_enum q rq)⟩
  · exact h1.elim
end
end DL
end TDLE

section TDLF
set_option maxRecDepth 100000
set_option maxHeartbeats 1000000
/-! DLF: t[::-1], t * k, list(range(..)), stores by place, repr. -/
namespace HT
open PySem PySem.Spec PyProof.Rows
section
variable {prog : Program} {w : World} {A : Around} {E : Value → Shared → Prop} {s : Shared}
theorem dl_down (n : Nat) : Builtin.Slice.slicePlaces ((n : Int) - 1) (-1) (-1) = n := by
  unfold Builtin.Slice.slicePlaces
  have h1 : ¬ ((-1 : Int) > 0) := by omega
  simp only [h1, if_false]
  by_cases h : n = 0
  · subst h; rfl
  · have h2 : ((n : Int) - 1 > -1) := by omega
    simp only [h2, if_true]
    have e : ((n : Int) - 1 - -1 - 1) / (- -1) + 1 = n := by
      have : (- -1 : Int) = 1 := rfl
      rw [this, Int.ediv_one]; omega
    rw [e]; simp
theorem dl_pick (xs : Array Value) : ((List.range xs.size).filterMap fun (m : Nat) => xs[(((xs.size : Int) - 1) + (m : Int) * (-1)).toNat]?).toArray = xs.toList.reverse.toArray := by
  have e : ((List.range xs.size).filterMap fun (m : Nat) => xs[(((xs.size : Int) - 1) + (m : Int) * (-1)).toNat]?) = xs.toList.reverse := by
    apply List.ext_getElem?
    intro i
    have all : ∀ m, m < xs.size → xs[(((xs.size : Int) - 1) + (m : Int) * (-1)).toNat]? = some (xs.toList.reverse.getD m default) := fun m hm => by
      have e1 : (((xs.size : Int) - 1) + (m : Int) * (-1)).toNat = xs.size - 1 - m := by omega
      rw [e1, Array.getElem?_eq_getElem (by omega)]
      simp [List.getD, List.getElem?_reverse, hm]
    have e2 : ∀ (l : List Nat), (∀ m ∈ l, m < xs.size) → l.filterMap (fun (m : Nat) => xs[(((xs.size : Int) - 1) + (m : Int) * (-1)).toNat]?) = l.map fun m => xs.toList.reverse.getD m default := by
      intro l
      induction l with
      | nil => intro _; rfl
      | cons m l ih =>
        intro hl
        rw [List.filterMap_cons, all m (hl m (by simp)), List.map_cons, ih fun k hk => hl k (List.mem_cons_of_mem _ hk)]
    rw [e2 _ fun m hm => List.mem_range.mp hm, List.getElem?_map]
    by_cases hi : i < xs.size
    · rw [List.getElem?_range hi]
      simp [List.getD, List.getElem?_reverse, hi]
    · rw [List.getElem?_eq_none (by simp; omega), List.getElem?_eq_none (by simp; omega)]
      rfl
  rw [e]
theorem dl_tuple_back {t sl : Addr} {items : Array Value} {vs : Value} {Q : Value → Shared → Prop} (ht : IsTup s.heap t items) (hs : s.heap.IsSliceOf sl .none .none vs) (pt : IsPart vs (some (-1)))
    (h : Q (.ref s.heap.objs.size) { s with heap := s.heap.push { cls := .type "tuple", data := .seq items.toList.reverse.toArray } }) (hsz : items.size ≤ sizeLine) : wpAny (model prog w) A (getItem (.ref t) (.ref sl)) Q E s := by
  have fits : sizeOk (.seq items.toList.reverse.toArray) := by
    show items.toList.reverse.toArray.size ≤ sizeLine
    rw [List.size_toArray, List.length_reverse, Array.length_toList]
    exact hsz
  obtain ⟨ob, hob, hcl, hda⟩ := id hs
  have ty : s.TypeIs (.ref sl) "slice" := ⟨ob, hob, hcl⟩
  unfold getItem
  try with_reducible refine wpAny_holding ?_
  first | refine wpAny_bind (wpAny_pure ?_) | skip
  refine wpAny_bind (wpAny_sequenceKey ht.typeIs (by decide) (wpAny_bind (wpAny_callSpecial?_slot (name := Str.ofString "__getitem__") ht.typeIs PyProof.Rows.slot_tuple_getitem
    (wpAny_call_entry PyProof.Rows.slot_tuple_getitem ht.typeIs entry_tuple_getitem ?_ (args_tuple_getitem _ _)))))
  show wpAny _ _ (Builtin.Tuple.tupleItemsOf (.ref t) >>= _) _ _ s
  refine wpAny_bind (tupleItemsOf_ ht (wpAny_bind (wpAny_typeOf ty ?_)))
  rw [if_pos (by decide)]
  have app : wpAny (model prog w) A.in1 (Builtin.Slice.sliceApplied (.ref sl) (pure (items.size : Int))) (fun r s' => r = ((items.size : Int) - 1, -1, items.size) ∧ s' = s) (fun _ _ => False) s := by
    unfold Builtin.Slice.sliceApplied Builtin.Slice.sliceFields
    refine wpAny_bind (wpAny_bind (wpAny_field hob hda (x := .none) rfl (wpAny_bind (wpAny_field hob hda (x := .none) rfl (wpAny_bind (wpAny_field hob hda (x := vs) rfl (wpAny_pure ?_)))))))
    refine wpAny_bind (slicePart_ pt ?_)
    show wpAny _ _ (if ((-1 : Int) == 0) = true then _ else _) _ _ s
    rw [if_neg (by decide)]
    refine wpAny_bind (slicePart_none (wpAny_bind (slicePart_none (wpAny_bind (wpAny_pure ?_)))))
    show wpAny _ _ (pure ((items.size : Int) - 1, (-1 : Int), Builtin.Slice.slicePlaces ((items.size : Int) - 1) (-1) (-1))) _ _ s
    rw [dl_down]
    exact wpAny_pure ⟨rfl, rfl⟩
  refine wpAny_bind (wpAny_mono app (fun r s' hr => ?_) fun _ _ z => z.elim)
  obtain ⟨rfl, rfl⟩ := hr
  have hno : ¬ ((((items.size : Int) - 1) == 0 && (-1 : Int) == 1 && items.size == items.size) = true) := by simp
  show wpAny _ _ (if (((items.size : Int) - 1) == 0 && (-1 : Int) == 1 && items.size == items.size) = true then _ else _) _ _ s'
  rw [if_neg hno, dl_pick]
  first
    | exact wpAny_bind (m := Builtin.Tuple.tupleExact _) (wpAny_newObj_type (wpAny_pure ⟨_, rfl, wpAny_pure h⟩) fits)
    | exact wpAny_bind (m := Builtin.Tuple.tupleExact _) (wpAny_newObj_type (wpAny_bind (wpAny_pure (wpAny_pure ⟨_, rfl, wpAny_pure h⟩))) fits)
    | exact wpAny_bind (wpAny_bind (m := Builtin.Tuple.tupleExact _) (wpAny_newObj_type (wpAny_pure (wpAny_pure ⟨_, rfl, wpAny_pure h⟩)) fits))
end
end HT

namespace L2
open PySem PySem.Spec PyProof.Rows
/-- () k times is () -/
theorem dl_mul0 (l : Addr) (n : Nat) (dd : Option Addr) (sl : Array (Option Value)) (x : Int) (u : Tok) (c0 : (decide (x < -(2 ^ 63)) || decide (x ≥ 2 ^ 63)) = false) :
    Meets (Builtin.«tuple.__mul__» ⟨[.ref l, .int x u], []⟩) (fun _ R s => s.heap.get? l = some { cls := .type "tuple", dict := dd, data := .seq #[] n, slots := sl } ∧ R (.ok (.ret (Value.ref l))) s) :=
  .of_wp fun prog w A R s h => by
    obtain ⟨hp, g, d, tk, os⟩ := s
    obtain ⟨hl, h⟩ := h
    have f1 := AutoSeq1.idx_int
    have c1 : ((#[] : Array Value).isEmpty || x == 1) = true := by simp
    wp_walk using wpAny_loadPart' hl
    repeat (first
      | (refine wpAny_ite_false (decide_eq_false (by rw [c0]; exact Bool.false_ne_true)) ?_; wp_walk using wpAny_loadPart' hl)
      | (refine wpAny_ite_true (decide_eq_true c1) ?_; wp_walk using wpAny_loadPart' hl))
    exact ⟨_, rfl, h⟩
end L2
end TDLF

section TDLG
set_option maxRecDepth 100000
set_option maxHeartbeats 1000000
/-! DLG: the rest of the expressions and stores. -/
namespace DL
open PySem L2 PySem.Spec PyProof.Rows
section
variable {X : Cx} {aa : Nat → Addr} {W : WX} {e o i a b : Expr} {es : List Expr} {fa fb fo fi fe : Sl → M D} {fs : Sl → M (List D)} {pos : Pos}

/-! ### t[::-1] -/
def tRevT (K : PySem.W.Frag) (te : TE) : TE := fun σ H Q => te σ H fun x H1 => ∃ a xs, x = V.ref a ∧ SqT K H1 a xs ∧ ∀ p, H1 p = none → Q (V.ref p) (upd H1 p (.tup xs.reverse))
theorem pe_revT {te : TE} {k : Nat} {p1 p2 p3 : Pos} (he : PE X e te) : PE X (.Subscript e (.Slice none none (some (.UnaryOp .USub (.Constant (.int 1) k p1) p2)) p3) pos) (tRevT X.K te) := by
  refine ⟨fun pins s σ H Q I h => Subscript_ (thn (he.run pins s σ H _ I h) fun v s1 ⟨x, H1, I1, r1, a, xs, ex, hx, q⟩ => ?_)⟩
  subst ex
  cases r1
  have step : PO X (some (.UnaryOp .USub (.Constant (.int 1) k p1) p2)) (tPart (tUn (rU fun i => .int (-i)) (tC (.int 1)))) := po_some (pe_un un_neg pe_int)
  refine wpAny_Slice (thn (po_none.run pins s1 σ H1 (fun o H2 => o = none ∧ H2 = H1) I1 ⟨rfl, rfl⟩) fun vl s2 ⟨l, H2, I2, pl, e1, e2⟩ => thn (po_none.run pins s2 σ H2 (fun o H3 => o = none ∧ H3 = H2) I2 ⟨rfl, rfl⟩) fun vu s3 ⟨u, H3, I3, pu, e3, e4⟩ =>
    thn (step.run pins s3 σ H3 (fun o H4 => o = some (-1) ∧ H4 = H3) I3 ⟨1, rfl, -1, rfl, rfl, rfl⟩) fun vs s4 ⟨w, H4, I4, ps, e5, e6⟩ => ?_)
  subst e1 e2 e3 e4 e5 e6
  cases pl
  cases pu
  have I5 : Inv X pins σ H4 { s4 with heap := s4.heap.push { cls := .type "slice", data := .fields #[.none, .none, vs] } } := I4.kept (t' := s4.toks) fun b ob q => Heap.get?_push_of_some _ q
  obtain ⟨its, r, ht, hz⟩ := I5.tuple hx
  have hl := r.length
  show wpAny (model X.prog X.w) X.A (subscriptTail e (.Slice none none (some (.UnaryOp .USub (.Constant (.int 1) k p1) p2)) p3) (.ref a) (.ref s4.heap.objs.size)) (EP X pins σ Q) X.xe { s4 with heap := s4.heap.push { cls := .type "slice", data := .fields #[.none, .none, vs] } }
  refine tail_any (ops := [.ref a, .ref s4.heap.objs.size]) ht.typeIs PyProof.Rows.slot_tuple_getitem.lookup ?_ (by with_unfolding_all rfl)
  refine HT.dl_tuple_back ht (Heap.IsSliceOf.new _ .none .none vs) ps ?_ (by rw [List.size_toArray]; omega)
  refine ⟨.ref _, _, I5.laid (t' := s4.toks) (o := .tup xs.reverse) (fun b ob q => Heap.get?_push_of_some _ q) (Nat.le_refl _) ?_, rfl, q _ (I5.hok.fresh (Nat.le_refl _))⟩
  exact ⟨by rw [List.length_reverse]; exact hz, _, r.reverse, IsTup.new _ _⟩
def revD : D → M D
  | .tup ds => pure (.tup ds.reverse)
  | _ => stuck
theorem me_revT {k : Nat} {p1 p2 p3 : Pos} (he : ME X aa W e fa) : ME X aa W (.Subscript e (.Slice none none (some (.UnaryOp .USub (.Constant (.int 1) k p1) p2)) p3) pos) (unE revD fa) := PE.weak (pe_revT he) fun σ H Q h => by
  refine tX.split (rep := Rep) (k := fun _ => revD) h fun ρ ι H1 d v μ1 e c r h1 => ?_
  cases d with
  | tup ds =>
    obtain ⟨a, vs, rfl, q, rs⟩ := r
    exact ⟨a, vs, rfl, q, fun p hp => h1 ι _ _ (Later.new hp) (c.new hp) ⟨p, _, rfl, SqT.of upd_same, rs.reverse.later (Later.new hp)⟩⟩
  | _ => exact h1.elim

/-! ### a tuple k times -/
def rRepT0 (K : PySem.W.Frag) : R2 := fun x y H Q => ∃ l k, x = .ref l ∧ y = .int k ∧ SqT K H l [] ∧ 2 ≤ k ∧ k ≤ 1000 ∧ Q (.ref l) H
theorem op_repT0 : OpR X (binaryOp .Mult) (rRepT0 X.K) := by
  intro pins s σ H x y v u Q I rx ry h
  obtain ⟨l, k, rfl, rfl, hT, h1, h2, q⟩ := h
  cases rx
  obtain ⟨t, rfl⟩ := ry
  obtain ⟨its, r, ⟨⟨cls, dd, data, sl⟩, ho, hc, n, hd⟩, hs⟩ := I.tuple hT
  simp only at hc hd
  subst hc hd
  cases r
  have c0 : (decide (k < -(2 ^ 63)) || decide (k ≥ 2 ^ 63)) = false := by
    rw [decide_eq_false (by omega), decide_eq_false (by omega)] <;> rfl
  exact wpAny_binaryOp_repeat_ref (T := "tuple") (U := "int") (by decide) ⟨_, ho, rfl⟩ (fun s' => typeIs_int s' k t) noFill_tuple_mul F.fills_int_mul F.slot_int_rmul repeat_tuple F.slot_int_index.lookup
    (call_meets F.slot_int_rmul (typeIs_int s k t) F.entry_int_rmul (F.args_int_rmul_2 _ _) (int_rmul_tuple k t l #[] n dd sl)
      ⟨ho, rfl, ⟨_, ho, rfl⟩, call_meets F.slot_tuple_mul ⟨_, ho, rfl⟩ F.entry_tuple_mul (F.args_tuple_mul_2 _ _) (dl_mul0 l n dd sl k t c0) ⟨ho, ⟨.ref l, H, I, rfl, q⟩⟩⟩)
def repT : D → D → M D
  | .tup ds, .int k => asks (2 ≤ k ∧ k ≤ 1000 ∧ ds.length ≤ 1000) (pure (.tup (List.replicate k.toNat ds).flatten))
  | _, _ => stuck
theorem flat_nil {α : Type} : ∀ n, (List.replicate n ([] : List α)).flatten = []
  | 0 => rfl
  | n + 1 => by rw [List.replicate_succ, List.flatten_cons, flat_nil n]; rfl
theorem repT_ok {K : PySem.W.Frag} : OpD K aa (fun x y H Q => rRepT K x y H Q ∨ rRepT0 K x y H Q) repT := by
  intro W ι H μ dx dy x y Q C rx ry h
  cases dx with
  | tup ds =>
    cases dy with
    | int k =>
      cases ry
      obtain ⟨⟨h1, h2, h3⟩, h⟩ := asks_acc h
      obtain ⟨a, vs, rfl, q, rs⟩ := rx
      by_cases hn : vs = []
      · subst hn
        have : ds = [] := List.eq_nil_of_length_eq_zero (by rw [rs.len]; rfl)
        subst this
        rw [flat_nil] at h
        exact .inr ⟨a, k, rfl, rfl, q, h1, h2, h.now C ⟨a, [], rfl, q, rs⟩⟩
      · exact .inl ⟨a, k, vs, rfl, rfl, q, hn, h1, h2, by rw [← rs.len]; exact h3, fun p hp => h ι _ _ (Later.new hp) (C.new hp) ⟨p, _, rfl, SqT.of upd_same, (reps_rep rs _).later (Later.new hp)⟩⟩
    | _ => exact h.elim
  | _ => cases dy <;> exact h.elim
theorem me_mulT (ha : ME X aa W a fa) (hb : ME X aa W b fb) : ME X aa W (.BinOp a .Mult b pos) (binE repT fa fb) := me_op (opr_or op_repT op_repT0) repT_ok ha hb

/-! ### list(range(a, b)) -/
instance : ∀ i j : Int, Decidable (RgOk i j) := fun i j => by unfold RgOk; infer_instance
def listR2 (fa fb : Sl → M D) : Sl → M D := fun ρ => fa ρ >>= fun x => fb ρ >>= fun y => match x, y with
  | .int i, .int j => asks (RgOk i j) (newL (rngD i (j - i).toNat))
  | _, _ => stuck
theorem rng_reps {G : Gs} {ι : List Addr} {H : Hp} (i : Int) : ∀ (l : List Nat), Reps G ι H (l.map fun n => D.int (i + (n : Nat))) (l.map fun n => V.int (i + (n : Nat)))
  | [] => Reps.nil
  | n :: l => Reps.cons rfl (rng_reps i l)
theorem me_listRg2 {p p2 q : Pos} (hc : X.calm = true) (hg : Gl X "list") (hm : X.mg "list" = none) (hg2 : Gl X "range") (hm2 : X.mg "range" = none) (ha : ME X aa W a fa) (hb : ME X aa W b fb)
    (na : starEach [a, b] X.env = (false, eval a X.env) :: starEach [b] X.env := by rfl) (nb : starEach [b] X.env = (false, eval b X.env) :: starEach [] X.env := by rfl) (hp : (backTo q (starEach [b] X.env)).any (·.1) = false := by rfl)
    (nl : starEach [Expr.Call (.Name "range" p2) [a, b] [] q] X.env = (false, eval (Expr.Call (.Name "range" p2) [a, b] [] q) X.env) :: starEach [] X.env := by rfl) :
    ME X aa W (.Call (.Name "list" p) [.Call (.Name "range" p2) [a, b] [] q] [] pos) (listR2 fa fb) := PE.weak (pe_listRg hc hg hm (prg_2 hg2 hm2 ha hb na nb hp) nl) fun σ H Q h => by
  refine tX.split (rep := Rep) (k := fun ρ x => fb ρ >>= fun y => match x, y with
    | .int i, .int j => asks (RgOk i j) (newL (rngD i (j - i).toNat))
    | _, _ => stuck) h fun ρ ι H1 d v μ1 e c r h1 => ?_
  refine ⟨ρ, μ1, ι, e, c, Acc.bind h1 fun ι2 H2 d2 v2 μ2 l2 c2 r2 h2 => ?_⟩
  split at h2
  · cases r; cases r2
    obtain ⟨hr, h3⟩ := asks_acc h2
    exact ⟨_, _, rfl, rfl, hr, fun q hq => newL_acc h3 c2 (rng_reps _ _) hq⟩
  · exact h2.elim

/-! ### stores by place -/
def repU (_ : Gs) (_ : List Addr) (_ : Hp) (_ _ : Unit) : Prop := True
def effS (m : Sl → M Unit) : DS := fun ρ μ => (m ρ μ).toS ρ fun _ μ' => .nx ρ μ'
theorem read_eff {m : Sl → M Unit} {D : Ends} {σ : SV} {H : Hp} (h : tS ⟨X.K, aa⟩ W (effS m) D σ H) : tX repU ⟨X.K, aa⟩ W m σ H fun _ H' => D.nx σ H' :=
  tS.part (rep := repU) (k := fun ρ _ μ' => .nx ρ μ') h fun ρ ι H' a b μ' e' c r q => q ι H' σ (Later.refl _ _) e' c
def putIx (d i x : D) : M Unit := fun μ => match d, i with
  | .mr k, .int j => match μ[k]? with
    | some (.lst ds) => match ixN ds.length j with
      | some n => .ok () (μ.set k (.lst (ds.set n x)))
      | none => .stk
    | _ => .stk
  | _, _ => .stk
theorem put_acc {W : Nat → Hp → Prop} {K : PySem.W.Frag} {ι : List Addr} {H : Hp} {μ : Mu} {d i x : D} {v u w : V} {Q : Hp → Prop} (C : Cells ⟨K, aa⟩ ι H μ) (rd : Rep ⟨K, aa⟩ ι H d v) (ri : Rep ⟨K, aa⟩ ι H i u) (rx : Rep ⟨K, aa⟩ ι H x w)
    (h : Acc W (repU ⟨K, aa⟩) ⟨K, aa⟩ ι H (fun _ H' => Q H') (putIx d i x μ)) : rSetL v u w H Q := by
  unfold putIx at h
  split at h
  · rename_i k j
    cases ri
    split at h
    · rename_i ds ek
      split at h
      · rename_i n hn
        obtain ⟨a, vs, rfl, ha, q, rs⟩ := lst_mr C rd ek
        have l : Later ι H ι (upd H a (.lst (vs.set n w))) := ⟨List.prefix_refl _, KeepT.put q (fun _ z => nomatch z) fun _ _ z => nomatch z⟩
        refine ⟨a, vs, j, n, rfl, rfl, q, by rw [← rs.len]; exact hn, ?_⟩
        exact h ι _ () l (C.put ha q (fun _ z => nomatch z) (fun _ _ z => nomatch z) ⟨_, upd_same, (rs.set n rx).later l⟩) trivial
      · exact h.elim
    · exact h.elim
  · exact h.elim
def setIxE (fo fi fe : Sl → M D) : Sl → M Unit := fun ρ => fe ρ >>= fun x => fo ρ >>= fun d => fi ρ >>= fun i => putIx d i x
theorem ms_setIx {pos' : Pos} (ho : ME X aa W o fo) (hi : ME X aa W i fi) (he : ME X aa W e fe)
    (ha : ∀ v, assign (.Subscript o i pos') X.env v = (do
      let ov ← holding [v] (eval o X.env)
      let iv ← holding [v, ov] (eval i X.env)
      standAt pos'
      holding [v, ov, iv] (setItem ov iv v)
      release [v, ov, iv] []) := by intro _; rfl)
    (hs : swapsWithSole [.Subscript o i pos'] e pos.line X.env = pure false := by rfl) (hw : swappedStores [.Subscript o i pos'] e X.env = pure none := by rfl) (h1 : (assignEach [.Subscript o i pos'] X.env).map (·.2) = [assign (.Subscript o i pos') X.env] := by rfl) :
    MS X aa W (.Assign [.Subscript o i pos'] e pos) (effS (setIxE fo fi fe)) := PS.weak (ps_asg he (pg_sub ho hi set_list ha) hs hw h1) fun D σ H h => by
  refine tX.split (rep := Rep) (k := fun ρ x => fo ρ >>= fun d => fi ρ >>= fun i => putIx d i x) (read_eff h) fun ρ ι H1 x w μ1 e c rx h1 => ?_
  refine ⟨ρ, μ1, ι, e, c, Acc.bind h1 fun ι2 H2 d v μ2 l2 c2 rd h2 => ⟨ρ, μ2, ι2, e.later l2, c2, Acc.bind h2 fun ι3 H3 j u μ3 l3 c3 rj h3 => ?_⟩⟩
  exact put_acc c3 (rd.later l3) rj (rx.later (l2.trans l3)) h3
/-- xs[i] op= e -/
def ixL (d i : D) : M D := fun μ => match d, i with
  | .mr k, .int j => match μ[k]? with
    | some (.lst ds) => if 0 ≤ j ∧ j < 2 ^ 63 then (match ds[j.toNat]? with
      | some x => .ok x μ
      | none => .stk) else .stk
    | _ => .stk
  | _, _ => .stk
def rGetL (K : PySem.W.Frag) : V → V → Hp → VK → Prop := fun o i H Q => ∃ p xs k v, o = .ref p ∧ i = .int k ∧ SqL K H p xs ∧ 0 ≤ k ∧ k < 2 ^ 63 ∧ xs[k.toNat]? = some v ∧ Q v H
theorem get_list : PGet X (rGetL X.K) := fun pins s σ H o i ov iv Q I ro ri ⟨p, xs, k, v, e1, e2, hq, h0, h1, hv, q⟩ => by
  subst e1 e2
  cases ro
  obtain ⟨t, rfl⟩ := ri
  obtain ⟨its, r, pl, hz⟩ := I.list hq
  obtain ⟨u, hu, ru⟩ := r.get hv
  exact wpAny_getItem_list pl.isList h0 h1 (by simpa using hu) ⟨v, H, I, ru, q⟩
def augIxE (g : D → D → M D) (fo fi fe : Sl → M D) : Sl → M Unit := fun ρ => fo ρ >>= fun d => fi ρ >>= fun i => ixL d i >>= fun x => fe ρ >>= fun y => g x y >>= fun z => putIx d i z
theorem ms_augIx {op : Operator} {ti : TIp} {g : D → D → M D} {tpos : Pos} (ho : ME X aa W o fo) (hi : ME X aa W i fi) (he : ME X aa W e fe) (hp : PIp X op ti) (hg : OpD X.K aa ti g)
    (ha : ∀ ov iv new, augStore i ov iv new = (do holding [new, ov, iv] (setItem ov iv new); release [new, ov, iv] []; pure .next) := by intros; rfl) : MS X aa W (.AugAssign (.Subscript o i tpos) op e pos) (effS (augIxE g fo fi fe)) :=
  PS.weak (ps_augS ho hi get_list he hp set_list ha) fun D σ H h => by
  refine tX.split (rep := Rep) (k := fun ρ d => fi ρ >>= fun i => ixL d i >>= fun x => fe ρ >>= fun y => g x y >>= fun z => putIx d i z) (read_eff h) fun ρ ι H1 d v μ1 e c rd h1 => ?_
  refine ⟨ρ, μ1, ι, e, c, Acc.bind h1 fun ι2 H2 j u μ2 l2 c2 rj h2 => ?_⟩
  rw [bind_at] at h2
  have rd2 := rd.later l2
  cases hx : ixL d j μ2 with
  | stk => rw [hx] at h2; exact h2.elim
  | xc k μ3 =>
    exfalso
    unfold ixL at hx
    split at hx
    · split at hx
      · split at hx
        · split at hx <;> cases hx
        · cases hx
      · cases hx
    · cases hx
  | ok x μ3 =>
    rw [hx] at h2
    unfold ixL at hx
    split at hx
    · rename_i k n
      split at hx
      · rename_i ds ek
        split at hx
        · rename_i hb
          split at hx
          · rename_i x' hx'
            cases hx
            have rd2' := rd2
            obtain ⟨a, vs, rfl, ha, q, rs⟩ := lst_mr c2 rd2 ek
            obtain ⟨w, hw, rw'⟩ := rs.get hx'
            cases rj
            refine ⟨a, vs, n, w, rfl, rfl, SqL.of q, hb.1, hb.2, hw, ρ, μ2, ι2, e.later l2, c2, Acc.bind (show Acc _ _ _ ι2 H2 _ ((fe ρ μ2).bind fun y => (g x y >>= fun z => putIx (.mr k) (.int n) z)) from h2) fun ι3 H3 y wy μ4 l3 c3 ry h3 => ?_⟩
            refine hg (Ax X aa W σ) ι3 H3 μ4 x y w wy _ c3 (rw'.later l3) ry (Acc.bind h3 fun ι4 H4 z wz μ5 l4 c4 rz h4 => ?_)
            exact put_acc c4 (rd2'.later (l3.trans l4)) (i := .int n) rfl rz h4
          · cases hx
        · cases hx
      · cases hx
    · cases hx

/-! ### a call of a value -/
def callVE (tab : Nat → Option (List D → M D)) (ff : Sl → M D) (fs : Sl → M (List D)) : Sl → M D := fun ρ => ff ρ >>= fun d => match d with
  | .fn j => match tab j with
    | some g => fs ρ >>= fun ds => g ds
    | none => stuck
  | _ => stuck
theorem me_callV {f : Expr} {ff : Sl → M D} {tab : Nat → Option (List D → M D)} {k : Nat} (hf : ME X aa W f ff) (cal : ∀ j g, tab j = some g → ∃ fd ps, FnOk X.prog X.w X.K X.mg X.base (L2.CX X.prog X.w) k (aa j) fd ps (spD ⟨X.K, aa⟩ g) ∧ PySem.W.keepIn X.K (.ref (aa j)) = true ∧ Binds X.K fd ps [])
    (hr : Room k X.A) (tk : Takes X W) (ha : MA X aa W (e :: es) fs) (he : starEach (e :: es) X.env = (false, eval e X.env) :: starEach es X.env := by rfl) (hpl : (backTo pos (starEach es X.env)).any (·.1) = false := by rfl)
    (hc : eval (.Call f (e :: es) [] pos) X.env = (do callWith pos (← eval f X.env) [] (backTo pos (starEach (e :: es) X.env)) (backToKw pos (keywordEach [] X.env))) := by rfl) : ME X aa W (.Call f (e :: es) [] pos) (callVE tab ff fs) := by
  refine ⟨fun pins s σ H Q I h => Call_ (thn (PE.run hf pins s σ H (fun v H1 => ∃ j g, v = V.ref (aa j) ∧ tab j = some g ∧ tE ⟨X.K, aa⟩ W (callE g fs) σ H1 Q) I ?_) fun u s1 ⟨v, H1, I1, r1, j, g, ev, hj, q⟩ => ?_) hc⟩
  · refine tX.split (rep := Rep) (k := fun ρ d => match d with
      | .fn j => match tab j with
        | some g => fs ρ >>= fun ds => g ds
        | none => stuck
      | _ => stuck) h fun ρ ι H1 d v μ1 e c r h1 => ?_
    cases d with
    | fn j =>
      cases hj : tab j with
      | none => simp only [hj] at h1; exact h1.elim
      | some g =>
        simp only [hj] at h1
        cases r
        exact ⟨j, g, rfl, hj, ρ, μ1, ι, e, c, h1⟩
    | _ => exact h1.elim
  · subst ev
    cases r1
    obtain ⟨fd, ps, F, kp, b⟩ := cal j g hj
    refine PySem.W.callWith_K (h₀ := X.base) I1.ok.mod.kin kp (thn (PA.run ha pos pins s1 σ H1 _ I1 (read_fn q)) fun us s2 ⟨vs, H2, I2, r2, q2⟩ => ⟨I2.kIn, ?_⟩) he hpl
    exact run_fnS F hr b (passAt tk σ) I2 r2 q2
end

/-! ### repr -/
section
variable {X : Cx} {aa : Nat → Addr} {W : WX} {e : Expr} {fs : Sl → M (List D)} {pos : Pos}
def rRepr (K : PySem.W.Frag) : List V → Hp → VK → Prop := fun xs H Q => ∃ a d, xs = [.ref a] ∧ Dp K H (.ref a) d ∧ d.showable = true ∧ d.hasDict = false ∧ d.depth ≤ 60 ∧ d.shown.length ≤ sizeLine ∧ Q (.str d.shown) H
theorem cr_repr {k : Nat} (hr : Room k X.A) (hg : X.A.guards = some []) : CallR X (.builtin "repr") (rRepr X.K) := by
  intro pins s σ H xs us Q I rv ⟨a, d, ex, hd, h1, h2, h3, h4, q⟩
  subst ex
  obtain ⟨u, rfl, ru⟩ : ∃ u, us = [u] ∧ RelV (V.ref a) u := by
    cases rv with
    | cons r rr => cases rr; exact ⟨_, rfl, r⟩
  cases ru
  obtain ⟨as, rd⟩ := Dp.reads I d _ _ hd rfl
  have hu := hr.units
  exact repr_of_reads' rd h1 (fun z => by rw [h2] at z; cases z) hg (by omega) (fun _ _ z => z) (fun h' u' tk hk => ⟨.str d.shown, H, I.kept (t' := tk) hk, ⟨u', rfl⟩, q⟩) h4
def reprO (d : D) : M D := fun μ => match lstOf μ d, view μ 8 d with
  | some _, some p => if p.showable = true ∧ p.hasDict = false ∧ p.depth ≤ 60 ∧ p.shown.length ≤ sizeLine then .ok (.str p.shown) μ else .stk
  | _, _ => .stk
def reprD : List D → M D
  | [d] => reprO d
  | _ => stuck
theorem reprO_at {d : D} {μ : Mu} {xs : List D} {p : PyData} (e1 : lstOf μ d = some xs) (e2 : view μ 8 d = some p) (h : p.showable = true ∧ p.hasDict = false ∧ p.depth ≤ 60 ∧ p.shown.length ≤ sizeLine) : reprO d μ = .ok (.str p.shown) μ := by
  unfold reprO
  rw [e1, e2]
  exact if_pos h
theorem reprO_inv {d : D} {μ : Mu} : reprO d μ = .stk ∨ ∃ xs p, lstOf μ d = some xs ∧ view μ 8 d = some p ∧ (p.showable = true ∧ p.hasDict = false ∧ p.depth ≤ 60 ∧ p.shown.length ≤ sizeLine) ∧ reprO d μ = .ok (.str p.shown) μ := by
  cases e1 : lstOf μ d with
  | none => left; unfold reprO; rw [e1]
  | some xs =>
    cases e2 : view μ 8 d with
    | none => left; unfold reprO; rw [e1, e2]
    | some p =>
      by_cases h : p.showable = true ∧ p.hasDict = false ∧ p.depth ≤ 60 ∧ p.shown.length ≤ sizeLine
      · exact .inr ⟨xs, p, rfl, rfl, h, reprO_at e1 e2 h⟩
      · left; unfold reprO; rw [e1, e2]; exact if_neg h
theorem repr_ok {K : PySem.W.Frag} : CallD K aa (rRepr K) reprD := by
  intro W ι H μ ds vs Q C rs h
  cases ds with
  | nil => exact False.elim h
  | cons d t =>
  cases t with
  | cons _ _ => exact False.elim h
  | nil =>
    obtain ⟨v, rfl, r⟩ := reps1 rs
    have h' : Acc W (Rep ⟨K, aa⟩) ⟨K, aa⟩ ι H Q (reprO d μ) := h
    rcases reprO_inv (d := d) (μ := μ) with e | ⟨xs, p, e1, e2, hp, e⟩
    · rw [e] at h'; exact False.elim h'
    · rw [e] at h'
      obtain ⟨a, ws, rfl, _, _⟩ := lstOf_rep C r e1
      exact ⟨a, p, rfl, view_dp C 8 d _ p r e2, hp.1, hp.2.1, hp.2.2.1, hp.2.2.2, h'.now C rfl⟩
theorem me_repr {k : Nat} {p : Pos} (hr : Room k X.A) (hgd : X.A.guards = some []) (hg : Gl X "repr") (hm : X.mg "repr" = none) (ha : MA X aa W [e] fs) (he : starEach [e] X.env = (false, eval e X.env) :: starEach [] X.env := by rfl)
    (hpl : (backTo pos (starEach [] X.env)).any (·.1) = false := by rfl) : ME X aa W (.Call (.Name "repr" p) [e] [] pos) (callE reprD fs) := me_callB (cr_repr hr hgd) repr_ok hg hm (by decide +kernel) ha (by decide) (by decide) he hpl
end
end DL
end TDLG

section TDLH
set_option maxRecDepth 100000
set_option maxHeartbeats 1000000
/-! DLH: short words for generated derivations; defs as they stand; try. -/
namespace DL
open PySem L2 PySem.Spec PyProof.Rows
section
variable {X : Cx} {aa : Nat → Addr} {W : WX} {e o a b : Expr} {es : List Expr} {fa fb fo : Sl → M D} {fs : Sl → M (List D)} {pos : Pos}
theorem mv (i : Nat) {x : Str} (hN : X.N[i]? = some x := by rfl) (hv : Vis X.env.scope x := by first | exact Or.inl rfl | exact Or.inr (Or.inl rfl) | exact Or.inr (Or.inr rfl)) (hd : (x == ("__debug__" : Str)) = false := by decide)
    (hcd : (x == ("__classdict__" : Str)) = false := by decide) : ME X aa W (.Name x pos) (varE i) := me_var hN hv hd hcd
theorem me_globC {x : Str} {i : Int} (hm : ∃ t, X.mg x = some (.int i t)) (hg : Gl X x := by rfl) (hd : (x == ("__debug__" : Str)) = false := by decide) : ME X aa W (.Name x pos) (cE (.int i)) := let ⟨_, h⟩ := hm; me_globI hg h hd
/-- all products -/
def mulD : D → D → M D
  | .int i, .int j => mulI (.int i) (.int j)
  | .mr k, .int j => repL (.mr k) (.int j)
  | .tup ds, .int j => repT (.tup ds) (.int j)
  | _, _ => stuck
def rMulAll (K : PySem.W.Frag) : R2 := fun x y H Q => (rI CMul (fun i j => .int (i * j)) x y H Q ∨ rRep x y H Q) ∨ (rRepT K x y H Q ∨ rRepT0 K x y H Q)
theorem op_mulAll : OpR X (binaryOp .Mult) (rMulAll X.K) := opr_or (opr_or op_mul op_rep) (opr_or op_repT op_repT0)
theorem mul_ok {K : PySem.W.Frag} : OpD K aa (rMulAll K) mulD := by
  intro W ι H μ dx dy x y Q C rx ry h
  cases dy with
  | int j =>
    cases dx with
    | int i => exact .inl (.inl (int_ok (g := fun i j => .int (i * j)) (g' := fun i j => .int (i * j)) (fun _ _ _ _ => rfl) W ι H μ (.int i) (.int j) x y Q C rx ry h))
    | mr k => exact .inl (.inr (repL_ok W ι H μ (.mr k) (.int j) x y Q C rx ry h))
    | tup ds => exact .inr (repT_ok W ι H μ (.tup ds) (.int j) x y Q C rx ry h)
    | _ => exact h.elim
  | _ => cases dx <;> exact h.elim
theorem me_mul (ha : ME X aa W a fa) (hb : ME X aa W b fb) : ME X aa W (.BinOp a .Mult b pos) (binE mulD fa fb) := me_op op_mulAll mul_ok ha hb
/-- a def that stands at f and holds its denotation -/
structure CalD (P : Program) (w : World) (K : PySem.W.Frag) (mg : Str → Option Value) (base : Heap) (aa : Nat → Addr) (nm : Str) (k : Nat) (f : Addr) (ps : List Str) (g : List D → M D) : Prop where
  ex : ∃ fd, FnOk P w K mg base (L2.CX P w) k f fd ps (spD ⟨K, aa⟩ g) ∧ Binds K fd ps []
  m : mg nm = some (.ref f)
  kp : PySem.W.keepIn K (.ref f) = true
/-- a method -/
structure CalM (P : Program) (w : World) (K : PySem.W.Frag) (mg : Str → Option Value) (base : Heap) (aa : Nat → Addr) (C : Addr) (nm : Str) (k : Nat) (f : Addr) (ps : List Str) (g : List D → M D) : Prop where
  ex : ∃ fd, FnOk P w K mg base (L2.CX P w) k f fd ps (spD ⟨K, aa⟩ g) ∧ Binds K fd ps []
  m : Meth K C nm f
variable {j k : Nat} {f : Addr} {ps : List Str} {g : List D → M D} {x : Str} {p : Pos} {name : Str} {apos : Pos} {c : Nat}
theorem me_callD (F : CalD X.prog X.w X.K X.mg X.base aa x k f ps g) (hr : Room j X.A) (hk : k ≤ j) (tk : Takes X W) (ha : MA X aa W (e :: es) fs) (hg : Gl X x := by rfl) (hdb : (x == ("__debug__" : Str)) = false := by decide)
    (he : starEach (e :: es) X.env = (false, eval e X.env) :: starEach es X.env := by rfl) (hpl : (backTo pos (starEach es X.env)).any (·.1) = false := by rfl) :
    ME X aa W (.Call (.Name x p) (e :: es) [] pos) (callE g fs) := let ⟨_, h, b⟩ := F.ex; me_call h (hr.mono hk) hg F.m F.kp b tk ha hdb he hpl
theorem me_methD {pl : Sem Bool} (ho : ME X aa W o fo) (hC : Cls X.K (aa c)) (F : CalM X.prog X.w X.K X.mg X.base aa (aa c) name k f ps g) (hr : Room j X.A) (hk : k ≤ j) (ha : MA X aa W (e :: es) fs)
    (hst : starEach (e :: es) X.env = (false, eval e X.env) :: starEach es X.env := by rfl) (hpl : (backTo pos (starEach es X.env)).any (·.1) = false := by rfl)
    (ht : eval (.Call (.Attribute o name apos) (e :: es) [] pos) X.env = (do
      let ov ← eval o X.env
      standAt apos.atName
      let (f, first) ← holding [ov] (getMethod ov name pl)
      callWith pos f first (backTo pos (starEach (e :: es) X.env)) (backToKw pos (keywordEach [] X.env))) := by rfl) :
    ME X aa W (.Call (.Attribute o name apos) (e :: es) [] pos) (methE c name g fo fs) := let ⟨_, h, b⟩ := F.ex; me_meth ho hC F.m h (hr.mono hk) b ha hst hpl ht
theorem me_methD0 {pl : Sem Bool} (ho : ME X aa W o fo) (hC : Cls X.K (aa c)) (F : CalM X.prog X.w X.K X.mg X.base aa (aa c) name k f ps g) (hr : Room j X.A) (hk : k ≤ j)
    (ht : eval (.Call (.Attribute o name apos) [] [] pos) X.env = (do
      let ov ← eval o X.env
      standAt apos.atName
      let (f, first) ← holding [ov] (getMethod ov name pl)
      callWith pos f first (backTo pos (starEach [] X.env)) (backToKw pos (keywordEach [] X.env))) := by rfl) :
    ME X aa W (.Call (.Attribute o name apos) [] [] pos) (methE c name g fo nilA) := let ⟨_, h, b⟩ := F.ex; me_meth0 ho hC F.m h (hr.mono hk) b ht
/-- a class that can be made -/
structure ClsAt (K : PySem.W.Frag) (mg : Str → Option Value) (nm : Str) (C : Addr) : Prop where
  cls : Cls K C
  makes : PySem.W.makesIn K C = true
  kp : PySem.W.keepIn K (.ref C) = true
  m : mg nm = some (.ref C)
theorem me_makeD (hC : ClsAt X.K X.mg x (aa c)) (F : CalM X.prog X.w X.K X.mg X.base aa (aa c) "__init__" k f ps g) (hr : Room j X.A) (hk : k + 1 ≤ j) (ha : MA X aa W (e :: es) fs) (hg : Gl X x := by rfl)
    (hdb : (x == ("__debug__" : Str)) = false := by decide) (he : starEach (e :: es) X.env = (false, eval e X.env) :: starEach es X.env := by rfl) (hpl : (backTo pos (starEach es X.env)).any (·.1) = false := by rfl) :
    ME X aa W (.Call (.Name x p) (e :: es) [] pos) (makeE c g fs) := let ⟨_, h, b⟩ := F.ex; me_make ⟨hC.makes, F.m.at_, F.m.fn, hC.kp⟩ h (hr.mono hk) hg hC.m b ha hdb he hpl
theorem Mk.dummy : True := trivial
/-- an own error, as it stands -/
structure ErrAt (K : PySem.W.Frag) (mg : Str → Option Value) (nm : Str) (C : Addr) : Prop where
  m : mg nm = some (.ref C)
  ex : PySem.W.excIn K C [.type "ValueError", .type "Exception", .type "BaseException", .type "object"] "ValueError.__new__" = true
  kp : PySem.W.keepIn K (.ref C) = true
  sb : PySem.W.subIn K (.ref C) (.type "BaseException") = some true
  ty : PySem.W.typeIn K (.ref C) = some (.type "type")
theorem ms_raiseD {m : Str} {jj : Nat} {p2 rpos : Pos} (E : ErrAt X.K X.mg x (aa c)) (hc : X.calm = true) (tk : Takes X W) (hg : Gl X x := by rfl) (hdb : (x == ("__debug__" : Str)) = false := by decide) :
    MS X aa W (.Raise (some (.Call (.Name x p) [.Constant (.str m) jj p2] [] pos)) none rpos) (raiseS c) := ms_raise hc tk (pmk_own PySem.F.excBase_ValueError E.ex E.m E.kp (raises_own E.sb E.ty) hg hdb)
/-- an expression whose last value's cells are its own: tests -/
def gcB (n : Nat) : R Bool → R Bool
  | .ok d μ => if (μ.take n).all (Cell.und n) = true then .ok d (μ.take n) else .ok d μ
  | .xc c μ => .xc c μ
  | .stk => .stk
theorem gcB_acc {W : Nat → Hp → Prop} {G : Gs} {ι : List Addr} {H : Hp} {Q : Bool → Hp → Prop} {r : R Bool} (h : Acc W (repB G) G ι H Q (gcB ι.length r)) : Acc W (repB G) G ι H Q r := by
  cases r with
  | ok d μ =>
    replace h : Acc W (repB G) G ι H Q (if (μ.take ι.length).all (Cell.und ι.length) = true then .ok d (μ.take ι.length) else .ok d μ) := h
    split at h
    · rename_i hb
      exact fun ι' H' b l c r => h ι H' b ⟨List.prefix_refl _, l.keep⟩ (cells_shrink l.pre c hb) r
    · exact h
  | xc k μ => exact h
  | stk => exact h
def gcT (f : Sl → M Bool) : Sl → M Bool := fun ρ μ => gcB μ.length (f ρ μ)
theorem mt_gc {t : Sl → M Bool} (h : MT X aa W e t) : MT X aa W e (gcT t) := PT.weak h fun σ H Q ⟨ρ, μ, ι, e0, c0, q⟩ => ⟨ρ, μ, ι, e0, c0, gcB_acc (by rw [c0.len]; exact q)⟩

/-! ### try: body, except x as n: suite that gives a text for the class of the error -/
def tryS (h : Nat → Option Str) (i : Nat) (m : DS) : DS := fun ρ μ => match m ρ μ with
  | .xc c ρ' μ' => match h c with
    | some s => if i < ρ'.length then .rt (.str s) μ' else .stk
    | none => .stk
  | r => r
/-- what such a suite is asked: its error's class is one that h knows; all that stands may be more behind it -/
def tsK (aa : Nat → Addr) (h : Nat → Option Str) (i : Nat) : Addr → Value → Option Addr → TS := fun a cls d D σ H => d = none ∧ σ[i]? = some (some (.ref a)) ∧ ∃ c s, h c = some s ∧ cls = .ref (aa c) ∧ ∀ H' : Hp, (∀ b u, H b = some u → H' b = some u) → D.rt (.str s) H'
theorem ms_try {h : Nat → Option Str} {x n : Str} {cv : Value} {i : Nat} {body suite : List Stmt} {b₀ : Stmt} {np pos' : Pos} {m : DS} (hs : X.stack = X.env :: X.outer) (hf : X.env.frame = some X.env.locals) (hN : X.N.Nodup) (hi : X.N[i]? = some n) (hln : X.env.kindOf n = some .local) (hc : Names X x cv)
    (hm : ∀ c s, h c = some s → PySem.W.exmOne X.K (.ref (aa c)) cv = some true)
    (hb : ∀ (W : WX) (pn : List (Addr × Obj)) (xe : Value → Shared → Prop), Takes (X.tr pn xe) W → PassesOwn (model X.prog X.w) X.A X.env xe → MB (X.tr pn xe) aa W body m)
    (hsu : ∀ (a : Addr) (oe : Obj) (cls : Value) (d : Option Addr) (pn : List (Addr × Obj)), Zc cls d oe → (∃ vs, oe.data = .fields vs) → PSs (X.suite a ((a, oe) :: pn)) (b₀ :: suite) (tsK aa h i a cls d)) :
    MS X aa W (.Try body [.ExceptHandler (some (.Name x np)) (some n) (b₀ :: suite) pos'] [] [] pos) (tryS h i m) := PS.weak (ps_try_as (Wout := fun _ _ _ _ => False) (tb := fun W => tS ⟨X.K, aa⟩ W m) hs hf hN hi hln hc takes0 (fun W pn xe tk hp => hb W pn xe tk hp) hsu) fun D σ H ⟨ρ, μ, ι, e0, c0, q⟩ => by
  refine ⟨ρ, μ, ι, e0, c0, ?_⟩
  unfold tryS at q
  generalize m ρ μ = r at *
  cases r with
  | xc c ρ' μ' =>
    simp only at q
    cases hh : h c with
    | none => rw [hh] at q; exact q.elim
    | some s =>
      rw [hh] at q
      simp only at q
      split at q
      case isFalse => exact q.elim
      rename_i hil
      refine fun ι1 H1 σ1 l1 e1 c1 => ⟨true, hm c s hh, fun _ a ha => ⟨rfl, ?_, c, s, hh, rfl, fun H' k => ?_⟩, fun z => by cases z⟩
      · exact List.getElem?_set_self (by rw [e1.len]; exact hil)
      · exact q ι1 H' (.str s) (l1.trans ⟨List.prefix_refl _, ⟨fun b xs z => k b _ z, fun b o u z => k b _ z⟩⟩) (c1.more ⟨fun b xs z => k b _ z, fun b o u z => k b _ z⟩ k) rfl
  | nx ρ' μ' => exact q
  | rt d μ' => exact q
  | bk ρ' μ' => exact q
  | ct ρ' μ' => exact q
  | stk => exact q
end
end DL
end TDLH

section TDLK
set_option maxRecDepth 100000
set_option maxHeartbeats 2000000
/-! DLK: a def called in an except suite with the error that is handled. -/
namespace DL
open PySem L2 PySem.Spec PyProof.Rows
open L2H (RoomH PinOk cxH inv_startH roomH_of)

/-- xs.count(y), flat things -/
def rCntV (K : PySem.W.Frag) : V → List V → Hp → VK → Prop := fun x xs H Q => ∃ p ys y, x = .ref p ∧ xs = [y] ∧ SqL K H p ys ∧ flatV y = true ∧ ys.all flatV = true ∧ Q (.int ((ys.countP fun z => eqV z y : Nat) : Int)) H
theorem cnt_vals {y : V} : ∀ {ys : List V} {us : List Value}, Vals ys us → ys.all flatV = true → us.countP (eqU y) = ys.countP fun z => eqV z y
  | _, _, .nil, _ => rfl
  | z :: ys, u :: us, .cons r t, f => by
    rw [List.all_cons, Bool.and_eq_true] at f
    rw [List.countP_cons, List.countP_cons, cnt_vals t f.2, eqU_of r f.1]
theorem mt_cntV {X : Cx} : MtR X "list.count" (rCntV X.K) := by
  intro pins s σ H x xs v us Q I rx rxs h
  obtain ⟨p, ys, y, rfl, rfl, hs, fy, fys, q⟩ := h
  cases rx
  obtain ⟨u, rfl, ru⟩ : ∃ u, us = [u] ∧ RelV y u := by
    cases rxs with
    | cons r rr => cases rr; exact ⟨_, rfl, r⟩
  obtain ⟨its, rv, ⟨⟨cls, dd, data, sl⟩, n, ho, hc, hdn, hd⟩, hlen⟩ := I.list hs
  simp only at hc hd
  subst hc hd
  refine call_meets PySem.F.slot_list_count ⟨_, ho, rfl⟩ PySem.F.entry_list_count (PySem.F.args_list_count_2 _ _) (SeqAt.list_countAt p its.toArray n dd sl u (eqU y)) ⟨ho, fun z hz => mem_eqAt ru fy rv fys z (by simpa using hz), ?_⟩
  rw [show its.toArray.toList = its from rfl, cnt_vals rv fys]
  exact ⟨.int _, H, I.tok _, ⟨s.toks, rfl⟩, q⟩

/-- isinstance(e, c), e the pinned error -/
theorem cr_isP {X : Cx} {a C : Addr} {oe : Obj} (hp : (a, oe) ∈ X.pn) (k : ExcC X.K C) (hz : Zc (.ref C) none oe) (hf : ∃ vs, oe.data = .fields vs) : CallR X (.builtin "isinstance") (rIsE X.K C a) := by
  intro pins s σ H xs us Q I rv ⟨c, cv, b, ex, hcv, e, q⟩
  subst ex
  obtain ⟨u, w, rfl, r1, r2⟩ : ∃ u w, us = [u, w] ∧ RelV (V.ref a) u ∧ RelV c w := by
    cases rv with
    | cons r rr =>
      cases rr with
      | cons r' rr' => cases rr'; exact ⟨_, _, rfl, r, r'⟩
  cases r1
  have ew := hcv _ r2
  subst ew
  have hget := (I.pin (a, oe) (List.mem_append_left _ hp)).1
  obtain ⟨vs, hv⟩ := hf
  have J : PySem.W.InstAt s.heap a oe C none := by
    obtain ⟨oc, od, oda, osl⟩ := oe
    obtain ⟨h1, h2⟩ := hz
    dsimp only at h1 h2 hv
    subst h1 h2 hv
    exact ⟨hget, rfl, rfl, trivial⟩
  exact PySem.W.kia_one (PySem.W.handS_kitx_exc k.hg k.hk k.hs k.hd k.ha k.hn k.ht k.hm) I.kIn J e (fun z => nomatch z) fun tk => ⟨.bl b, H, I.kept (t' := tk) fun _ _ z => z, rfl, q⟩

/-- a def of one parameter that is called with the error p: its body in p's context -/
theorem run_pin {CX : CXT} {P : Program} {w : World} {K : PySem.W.Frag} {mg : Str → Option Value} {base : Heap} {k : Nat} {f : Addr} {x qual : Str} {st : Stmt} {fd : FuncData} {N : List Str} {pr : Str} (F : Fun K x qual st f fd) (S : FnScope N [pr] (defScope st))
    {A : Around} {outer : List PySem.Env} {s : Shared} {H : Hp} {args : Args} {u : Value} {Q : VK} {E : XK} {p : Addr × Obj} (hr : RoomH (k + 1) A) (hp : PinOk outer H s p) (e0 : Env0 P w K mg base A outer s H) (hb : BindsTo s fd args [(pr, u)]) (ru : RelV (.ref p.1) u)
    (body : ∀ cdv, RoomH k (A.deeper (envOfC qual (defScope st) s.heap.objs.size f cdv)) → ∃ t, PSs (cxH CX P w K mg base N qual (defScope st) f cdv A outer s H E p) (defBody st) t ∧ t { nx := fun _ H' => Q .non H', rt := Q } (L2.start N [.ref p.1]) H) :
    codeAny (model P w) A (.call (.ref f) args) (CR CX outer P w H s Q E) s := by
  obtain ⟨oc, od, kV, doc, pm, an, cdv, ct, osl, rfl, lk, hcd⟩ := F.ex
  have kin : K.In s.heap := e0.mod.kin.keeps fun b o z => (e0.bs b o z).1
  have nol : s.heap.NoLimit := e0.mod.nolimit.keeps fun b o z => (e0.bs b o z).1
  have places : ∀ y ∈ [(pr, u)], (defScope st).names.lookup y.1 = some .local ∨ ((defScope st).names.lookup y.1 = some .cell ∧ ((cellsFrom (s.heap.objs.size + 1) (defScope st).names []).lookup y.1).isSome = true) := fun y hy => by
    have ey : y = (pr, u) := by simpa using hy
    subst ey
    rcases S.par pr (by simp) with q | q
    · exact .inl q
    · exact .inr ⟨q, PySem.W.cellsFrom_some _ _ _ (.inl q)⟩
  refine codeAny_call_function hr.depth (kin _ _ lk) rfl S.co S.gen rfl (PySem.W.codeRec_of kin hcd) (hb _ _ _ _ (wpAny_newFunctionEnv_cells S.kind places fun env he s1 y => ?_))
  subst he
  refine ⟨nol.keeps y.toInCall.keep, codeAny_func ?_⟩
  obtain ⟨t, ht, q⟩ := body cdv (hr.deeper _)
  have I : Inv (cxH CX P w K mg base N qual (defScope st) f cdv A outer s H E p) [] (L2.start N [.ref p.1]) H s1 := inv_startH (ps := [pr]) (us := [u]) S hp e0 rfl (.cons ru .nil) y
  refine wpAny_mono (ht.run [] s1 (L2.start N [.ref p.1]) H _ I q) (fun fl s' z => ?_) fun e s' z => z
  cases fl with
  | ret v =>
    obtain ⟨vv, σ', H', J, rv, q'⟩ := z
    exact ⟨vv, H', J.os, J.bare, J.base, J.hok, rv, q'⟩
  | next =>
    obtain ⟨σ', H', J, q'⟩ := z
    exact ⟨V.non, H', J.os, J.bare, J.base, J.hok, (show RelV V.non Value.none from rfl), q'⟩
  | brk => obtain ⟨_, _, _, z⟩ := z; exact z.elim
  | cont => obtain ⟨_, _, _, z⟩ := z; exact z.elim
end DL
end TDLK

section TDLM
set_option maxRecDepth 100000
set_option maxHeartbeats 2000000
/-! DLM: the law's own def, called from the bottom with the script as a locked list. -/
namespace DL
open PySem L2 PySem.Spec PyProof.Rows
theorem body_run {P : Program} {w : World} {K : PySem.W.Frag} {mg : Str → Option Value} {base : Heap} {aa : Nat → Addr} {k : Nat} {f : Addr} {x qual : Str} {st : Stmt} {fd : FuncData} {N : List Str} {pr : Str} {m : DS} (F : Fun K x qual st f fd) (S : FnScope N [pr] (defScope st))
    {A : Around} {outer : List PySem.Env} {s : Shared} {H : Hp} {args : Args} {u : Value} {v : V} {Q : VK} {E : XK} (hr : Room (k + 1) A) (e0 : Env0 P w K mg base A outer s H) (hb : BindsTo s fd args [(pr, u)]) (ru : RelV v u)
    (body : ∀ cdv, Room k (A.deeper (envOfC qual (defScope st) s.heap.objs.size f cdv)) → MB (cxOf (L2.CX P w) P w K mg base N qual (defScope st) f cdv A outer s H E) aa (WF E) (defBody st) m) (q : spD ⟨K, aa⟩ (denF 1 N.length m) [v] H Q E) :
    codeAny (model P w) A (.call (.ref f) args) (CR (L2.CX P w) outer P w H s Q E) s := by
  obtain ⟨oc, od, kV, doc, pm, an, cdv, ct, osl, rfl, lk, hcd⟩ := F.ex
  have kin : K.In s.heap := e0.mod.kin.keeps fun b o z => (e0.bs b o z).1
  have nol : s.heap.NoLimit := e0.mod.nolimit.keeps fun b o z => (e0.bs b o z).1
  have places : ∀ y ∈ [(pr, u)], (defScope st).names.lookup y.1 = some .local ∨ ((defScope st).names.lookup y.1 = some .cell ∧ ((cellsFrom (s.heap.objs.size + 1) (defScope st).names []).lookup y.1).isSome = true) := fun y hy => by
    have ey : y = (pr, u) := by simpa using hy
    subst ey
    rcases S.par pr (by simp) with z | z
    · exact .inl z
    · exact .inr ⟨z, PySem.W.cellsFrom_some _ _ _ (.inl z)⟩
  refine codeAny_call_function hr.depth (kin _ _ lk) rfl S.co S.gen rfl (PySem.W.codeRec_of kin hcd) (hb _ _ _ _ (wpAny_newFunctionEnv_cells S.kind places fun env he s1 y => ?_))
  subst he
  refine ⟨nol.keeps y.toInCall.keep, codeAny_func ?_⟩
  have ht := body cdv (hr.deeper _)
  have I : Inv (cxOf (L2.CX P w) P w K mg base N qual (defScope st) f cdv A outer s H E) [] (L2.start N [v]) H s1 := inv_start (ps := [pr]) (us := [u]) S hr.hd e0 rfl (.cons ru .nil) y
  have q' : tS ⟨K, aa⟩ (WF E) m { nx := fun _ H' => Q .non H', rt := Q } (L2.start N [v]) H := by
    obtain ⟨ds, μ, ι, rs, c, h⟩ := q
    unfold denF at h
    obtain ⟨hl, h⟩ := asks_acc h
    exact ⟨_, μ, ι, envR_start rs, c, body_end (gc_acc (by rw [c.len, hl]; exact h))⟩
  refine wpAny_mono (ht.run [] s1 (L2.start N [v]) H _ I q') (fun fl s' z => ?_) fun e s' z => z
  cases fl with
  | ret u' =>
    obtain ⟨vv, σ', H', J, rv, q2⟩ := z
    exact ⟨vv, H', J.os, J.bare, J.base, J.hok, rv, q2⟩
  | next =>
    obtain ⟨σ', H', J, q2⟩ := z
    exact ⟨V.non, H', J.os, J.bare, J.base, J.hok, (show RelV V.non Value.none from rfl), q2⟩
  | brk => obtain ⟨_, _, _, z⟩ := z; exact z.elim
  | cont => obtain ⟨_, _, _, z⟩ := z; exact z.elim
open Classical in
/-- what is tracked at the call: the script, where the module does not hold it -/
noncomputable def hp0 (K : PySem.W.Frag) (a : Addr) (o : Obj) (xs : List V) : Hp := fun b => if b = a ∧ K.lookup a = none then some (.frz o (.lst xs)) else none
theorem hp0_at {K : PySem.W.Frag} {a : Addr} {o : Obj} {xs : List V} (h : K.lookup a = none) : hp0 K a o xs a = some (.frz o (.lst xs)) := if_pos ⟨rfl, h⟩
theorem hp0_inv {K : PySem.W.Frag} {a b : Addr} {o : Obj} {xs : List V} {u : HO} (h : hp0 K a o xs b = some u) : b = a ∧ K.lookup a = none ∧ u = .frz o (.lst xs) := by
  unfold hp0 at h
  split at h
  · rename_i z; injection h with h; exact ⟨z.1, z.2, h.symm⟩
  · cases h
theorem reps_ints {G : Gs} {ι : List Addr} {H : Hp} : ∀ ns : List Int, Reps G ι H (ns.map D.int) (ns.map V.int)
  | [] => Reps.nil
  | n :: ns => Reps.cons (show Rep G ι H (.int n) (.int n) from rfl) (reps_ints ns)
theorem law_top {P : Program} {w : World} {K : PySem.W.Frag} {mg mb : Str → Option Value} {aa : Nat → Addr} {k : Nat} {fa a : Addr} {x qual pr : Str} {st : Stmt} {fd : FuncData} {N : List Str} {m : DS} {s₁ : Shared} {vs : List Value} {ns : List Int} (KX : K.In s₁.heap) (hns : s₁.heap.Ns mainGlobals mg)
    (hb : s₁.heap.Ns builtinsNs mb) (hbb : ∀ x : Str, x ≠ "__name__" → mb x = bootBuiltins x) (hlim : s₁.heap.NoLimit) (hg : s₁.gens = #[]) (ha : s₁.heap.get? a = some { cls := .type "list", data := .seq vs.toArray }) (hi : IntsAre vs ns) (hl : ns.length ≤ sizeLine)
    (hr : Room (k + 1) callerA) (F : Fun K x qual st fa fd) (S : FnScope N [pr] (defScope st)) (hbind : ∀ (s : Shared) (u : Value), BindsTo s fd ⟨[u], []⟩ [(pr, u)])
    (body : ∀ base : Heap, K.In base → base.Ns mainGlobals mg → ∀ (cdv : Value) (s : Shared) (H : Hp) (E : XK), Room k (callerA.deeper (envOfC qual (defScope st) s.heap.objs.size fa cdv)) → MB (cxOf (L2.CX P w) P w K mg base N qual (defScope st) fa cdv callerA [] s H E) aa (WF E) (defBody st) m)
    (truth : ∃ μ, denF 1 N.length m [.li (ns.map D.int)] [] = .ok (.bl true) μ) :
    codeAny (model P w) callerA (.call (.ref fa) ⟨[.ref a], []⟩) (fun r s' => r = .ok (.ret (.bool true)) ∧ OldK s₁.heap s'.heap ∧ s'.os = s₁.os ∧ AllBare s'.gens) s₁ := by
  have rv := vals_ints hi
  let so : Obj := { cls := .type "list", data := .seq vs.toArray }
  let H := hp0 K a so (ns.map V.int)
  have hok : HOk P w H s₁.heap := fun b u z => by
    obtain ⟨rfl, _, rfl⟩ := hp0_inv z
    exact ⟨ha, (by rw [List.length_map]; exact hl), vs, _, rv, ha⟩
  have lk : LkL K H a (ns.map V.int) := by
    cases hk : K.lookup a with
    | none => exact .inl ⟨so, hp0_at hk⟩
    | some o =>
      have e := KX a o hk
      rw [ha] at e
      cases e
      exact .inr fun H' => .inr ⟨_, vs.toArray, _, hk, rfl, rfl, rfl, (by rw [List.size_toArray, hi.length]; exact hl), by simpa using rv⟩
  have stay : ∀ {b : Addr} {o : Obj}, s₁.heap.get? b = some o → b ≠ a → (hidT s₁.heap H).get? b = some o := fun {b o} e n => hidT_get e (by cases q : H b with | none => rfl | some u => exact absurd (hp0_inv q).1 n)
  have nsK : ∀ {b : Addr} {g : Str → Option Value}, s₁.heap.Ns b g → (hidT s₁.heap H).Ns b g := fun {b g} ⟨o, es, ep, e, d, r⟩ => ⟨o, es, ep, stay e (fun z => by subst z; rw [ha] at e; cases e; have d' : Data.seq vs.toArray _ = Data.dict es ep := d; cases d'), d, r⟩
  have kin : K.In (hidT s₁.heap H) := fun b o e => hidT_get (KX b o e) (by
    cases q : H b with
    | none => rfl
    | some u => obtain ⟨rfl, z, _⟩ := hp0_inv q; rw [z] at e; cases e)
  obtain ⟨mc, hc1, hc2⟩ := hlim
  have e0 : Env0 P w K mg (hidT s₁.heap H) callerA [] s₁ H := ⟨rfl, ⟨kin, nsK hns, ⟨mb, nsK hb, hbb⟩, ⟨mc, nsK hc1, hc2⟩⟩, fun b o e => of_hidT e, Nat.le_of_eq (hidT_size _ _), trivial, fun b z => (List.not_mem_nil z).elim, hok, .of_eq hg⟩
  have q : spD ⟨K, aa⟩ (denF 1 N.length m) [V.ref a] H (fun v _ => v = .bl true) (fun _ _ _ => False) := by
    obtain ⟨μ, e⟩ := truth
    refine ⟨[.li (ns.map D.int)], [], [], Reps.one ⟨a, _, rfl, lk, reps_ints ns⟩, ⟨List.nodup_nil, rfl, fun k a c _ z => (by simp at z)⟩, ?_⟩
    rw [e]
    exact fun ι' H' v l c r => r
  refine codeAny_mono (body_run (v := V.ref a) F S hr e0 (hbind s₁ (.ref a)) rfl (fun cdv r => body _ kin (nsK hns) cdv s₁ H _ r) q) fun r s' h => ?_
  cases r with
  | error e => obtain ⟨_, _, _, _, _, _, _, _, _, _, _, _, z⟩ := h; exact z.elim
  | ok fl =>
    cases fl with
    | next => exact False.elim h
    | brk => exact False.elim h
    | cont => exact False.elim h
    | ret u =>
      obtain ⟨v, H', os, bare, un, hok', r', q2⟩ := h
      have ev : v = V.bl true := q2
      subst ev
      have eu : u = Value.bool true := r'
      subst eu
      refine ⟨rfl, OldK.of_keep fun b o e => ?_, os, bare⟩
      cases z : H b with
      | none => exact un.keep b o e z (fun t => (List.not_mem_nil t).elim) (fun t => (List.not_mem_nil t).elim)
      | some u =>
        obtain ⟨rfl, _, rfl⟩ := hp0_inv z
        obtain ⟨e1, _⟩ := hok _ _ z
        obtain ⟨e2, _⟩ := hok' _ _ (un.frzs _ so _ z)
        rw [e] at e1
        cases e1
        exact e2
end DL
end TDLM

section TP69A
set_option maxRecDepth 100000
set_option maxHeartbeats 4000000
namespace K69
open PySem PySem.Spec PyProof.Rows L2 DL
abbrev SV := L2.St
def topS (i : Nat) : Stmt := PySem.Challenge.pw_hoursheld_k69_rows_that_are_the_same.main.body.getD i (.Pass ⟨0, 0, 0, 0⟩)
/-- the words of the errors that the law meets -/
def hK : Nat → Option Str := fun j => if j = 6 then some "!program" else if j = 8 then some "!number" else none
abbrev s_is_outlet : Stmt := topS 22
abbrev N_is_outlet : List Str := ["outlet", "first", "last", "place", "factor"]
theorem sc_is_outlet : FnScope N_is_outlet ["outlet", "first", "last"] (defScope s_is_outlet) := ⟨rfl, rfl, rfl, by decide +kernel, rfl, by decide +kernel, by decide +kernel⟩
abbrev s_is_kind : Stmt := topS 24
abbrev N_is_kind : List Str := ["kind", "last", "place", "amount"]
theorem sc_is_kind : FnScope N_is_kind ["kind", "last"] (defScope s_is_kind) := ⟨rfl, rfl, rfl, by decide +kernel, rfl, by decide +kernel, by decide +kernel⟩
abbrev s_fits : Stmt := topS 27
abbrev N_fits : List Str := ["program", "level", "registers", "one", "entry"]
theorem sc_fits : FnScope N_fits ["program", "level"] (defScope s_fits) := ⟨rfl, rfl, rfl, by decide +kernel, rfl, by decide +kernel, by decide +kernel⟩
abbrev s_are_kinds : Stmt := topS 30
abbrev N_are_kinds : List Str := ["program", "row", "kind"]
theorem sc_are_kinds : FnScope N_are_kinds ["program", "row"] (defScope s_are_kinds) := ⟨rfl, rfl, rfl, by decide +kernel, rfl, by decide +kernel, by decide +kernel⟩
abbrev s_levels_of : Stmt := topS 32
abbrev N_levels_of : List Str := ["program", "found", "low", "high", "_", "level", "entry"]
theorem sc_levels_of : FnScope N_levels_of ["program"] (defScope s_levels_of) := ⟨rfl, rfl, rfl, by decide +kernel, rfl, by decide +kernel, by decide +kernel⟩
abbrev s_Books_init : Stmt := inClass (topS 33) 0
abbrev N_Books_init : List Str := ["self", "program", "level"]
theorem sc_Books_init : FnScope N_Books_init ["self", "program", "level"] (defScope s_Books_init) := ⟨rfl, rfl, rfl, by decide +kernel, rfl, by decide +kernel, by decide +kernel⟩
abbrev s_Books_put : Stmt := inClass (topS 33) 1
abbrev N_Books_put : List Str := ["self", "place", "amount", "made", "outlet", "low", "high", "_", "over", "under"]
theorem sc_Books_put : FnScope N_Books_put ["self", "place", "amount"] (defScope s_Books_put) := ⟨rfl, rfl, rfl, by decide +kernel, rfl, by decide +kernel, by decide +kernel⟩
abbrev s_Books_told : Stmt := inClass (topS 33) 3
abbrev N_Books_told : List Str := ["self"]
theorem sc_Books_told : FnScope N_Books_told ["self"] (defScope s_Books_told) := ⟨rfl, rfl, rfl, by decide +kernel, rfl, by decide +kernel, by decide +kernel⟩
abbrev s_kind_pairs : Stmt := topS 38
abbrev N_kind_pairs : List Str := ["program", "many", "k", "l"]
theorem sc_kind_pairs : FnScope N_kind_pairs ["program"] (defScope s_kind_pairs) := ⟨rfl, rfl, rfl, by decide +kernel, rfl, by decide +kernel, by decide +kernel⟩
abbrev s_u_law_number : Stmt := topS 41
abbrev N_u_law_number : List Str := ["cell"]
theorem sc_u_law_number : FnScope N_u_law_number ["cell"] (defScope s_u_law_number) := ⟨rfl, rfl, rfl, by decide +kernel, rfl, by decide +kernel, by decide +kernel⟩
abbrev s_u_law_next : Stmt := topS 43
abbrev N_u_law_next : List Str := ["draws"]
theorem sc_u_law_next : FnScope N_u_law_next ["draws"] (defScope s_u_law_next) := ⟨rfl, rfl, rfl, by decide +kernel, rfl, by decide +kernel, by decide +kernel⟩
abbrev s_u_law_kind : Stmt := topS 46
abbrev N_u_law_kind : List Str := ["error", "names", "found"]
theorem sc_u_law_kind : FnScope N_u_law_kind ["error"] (defScope s_u_law_kind) := ⟨rfl, rfl, rfl, by decide +kernel, rfl, by decide +kernel, by decide +kernel⟩
abbrev s_u_law_end : Stmt := topS 48
abbrev N_u_law_end : List Str := ["program", "level", "row", "kind", "registers", "purses", "kinds", "pay", "place", "amount", "turn", "made", "factor", "low", "high", "begin", "over", "under"]
theorem sc_u_law_end : FnScope N_u_law_end ["program", "level", "row"] (defScope s_u_law_end) := ⟨rfl, rfl, rfl, by decide +kernel, rfl, by decide +kernel, by decide +kernel⟩
abbrev s_u_law_levels : Stmt := topS 49
abbrev N_u_law_levels : List Str := ["program", "found", "low", "high", "begin", "over", "under", "longer", "level", "entry"]
theorem sc_u_law_levels : FnScope N_u_law_levels ["program"] (defScope s_u_law_levels) := ⟨rfl, rfl, rfl, by decide +kernel, rfl, by decide +kernel, by decide +kernel⟩
abbrev s_u_law_account : Stmt := topS 51
abbrev N_u_law_account : List Str := ["low", "high"]
theorem sc_u_law_account : FnScope N_u_law_account ["low", "high"] (defScope s_u_law_account) := ⟨rfl, rfl, rfl, by decide +kernel, rfl, by decide +kernel, by decide +kernel⟩
abbrev s_is_register : Stmt := topS 23
abbrev N_is_register : List Str := ["register", "at", "last", "low", "high", "begin", "over", "under"]
theorem sc_is_register : FnScope N_is_register ["register", "at", "last"] (defScope s_is_register) := ⟨rfl, rfl, rfl, by decide +kernel, rfl, by decide +kernel, by decide +kernel⟩
abbrev s_check_row : Stmt := topS 31
abbrev N_check_row : List Str := ["program", "row"]
theorem sc_check_row : FnScope N_check_row ["program", "row"] (defScope s_check_row) := ⟨rfl, rfl, rfl, by decide +kernel, rfl, by decide +kernel, by decide +kernel⟩
abbrev s_Books_book : Stmt := inClass (topS 33) 2
abbrev N_Books_book : List Str := ["self", "kind", "place", "amount"]
theorem sc_Books_book : FnScope N_Books_book ["self", "kind"] (defScope s_Books_book) := ⟨rfl, rfl, rfl, by decide +kernel, rfl, by decide +kernel, by decide +kernel⟩
abbrev s_u_law_draws : Stmt := topS 42
abbrev N_u_law_draws : List Str := ["script", "draws", "cell", "rest", "k", "once", "twice"]
theorem sc_u_law_draws : FnScope N_u_law_draws ["script"] (defScope s_u_law_draws) := ⟨rfl, rfl, rfl, by decide +kernel, rfl, by decide +kernel, by decide +kernel⟩
abbrev s_u_law_more : Stmt := topS 44
abbrev N_u_law_more : List Str := ["draws", "many", "seed", "more", "k"]
theorem sc_u_law_more : FnScope N_u_law_more ["draws", "many"] (defScope s_u_law_more) := ⟨rfl, rfl, rfl, by decide +kernel, rfl, by decide +kernel, by decide +kernel⟩
abbrev s_u_law_pick : Stmt := topS 45
abbrev N_u_law_pick : List Str := ["draws", "some"]
theorem sc_u_law_pick : FnScope N_u_law_pick ["draws", "some"] (defScope s_u_law_pick) := ⟨rfl, rfl, rfl, by decide +kernel, rfl, by decide +kernel, by decide +kernel⟩
abbrev s_u_law_row : Stmt := topS 50
abbrev N_u_law_row : List Str := ["draws", "program", "most", "k"]
theorem sc_u_law_row : FnScope N_u_law_row ["draws", "program", "most"] (defScope s_u_law_row) := ⟨rfl, rfl, rfl, by decide +kernel, rfl, by decide +kernel, by decide +kernel⟩
abbrev s_u_law_apart : Stmt := topS 54
abbrev N_u_law_apart : List Str := ["program", "one", "other", "level"]
theorem sc_u_law_apart : FnScope N_u_law_apart ["program", "one", "other"] (defScope s_u_law_apart) := ⟨rfl, rfl, rfl, by decide +kernel, rfl, by decide +kernel, by decide +kernel⟩
abbrev s_is_program : Stmt := topS 25
abbrev N_is_program : List Str := ["program", "last", "many", "registers", "purses", "kinds", "low", "high", "_", "kind", "at", "register"]
theorem sc_is_program : FnScope N_is_program ["program"] (defScope s_is_program) := ⟨rfl, rfl, rfl, by decide +kernel, rfl, by decide +kernel, by decide +kernel⟩
abbrev s_end_at : Stmt := topS 34
abbrev N_end_at : List Str := ["program", "level", "row", "books", "kind"]
theorem sc_end_at : FnScope N_end_at ["program", "level", "row"] (defScope s_end_at) := ⟨rfl, rfl, rfl, by decide +kernel, rfl, by decide +kernel, by decide +kernel⟩
abbrev s_u_law_program : Stmt := topS 47
abbrev N_u_law_program : List Str := ["draws", "many", "purses", "wide", "registers", "k", "signs", "kinds", "begin", "outlets", "side", "kind", "turn", "low", "high", "place"]
theorem sc_u_law_program : FnScope N_u_law_program ["draws"] (defScope s_u_law_program) := ⟨rfl, rfl, rfl, by decide +kernel, rfl, by decide +kernel, by decide +kernel⟩
abbrev s_u_law_wide : Stmt := topS 53
abbrev N_u_law_wide : List Str := ["draws", "spans", "many", "purses", "registers", "k", "kinds", "low", "high", "begin", "outlets", "side", "place", "turn"]
theorem sc_u_law_wide : FnScope N_u_law_wide ["draws", "spans"] (defScope s_u_law_wide) := ⟨rfl, rfl, rfl, by decide +kernel, rfl, by decide +kernel, by decide +kernel⟩
abbrev s_check_program : Stmt := topS 26
abbrev N_check_program : List Str := ["program"]
theorem sc_check_program : FnScope N_check_program ["program"] (defScope s_check_program) := ⟨rfl, rfl, rfl, by decide +kernel, rfl, by decide +kernel, by decide +kernel⟩
abbrev s_is_level : Stmt := topS 28
abbrev N_is_level : List Str := ["program", "level"]
theorem sc_is_level : FnScope N_is_level ["program", "level"] (defScope s_is_level) := ⟨rfl, rfl, rfl, by decide +kernel, rfl, by decide +kernel, by decide +kernel⟩
abbrev s_first_apart : Stmt := topS 36
abbrev N_first_apart : List Str := ["program", "one", "other", "level"]
theorem sc_first_apart : FnScope N_first_apart ["program", "one", "other"] (defScope s_first_apart) := ⟨rfl, rfl, rfl, by decide +kernel, rfl, by decide +kernel, by decide +kernel⟩
abbrev s_check_level : Stmt := topS 29
abbrev N_check_level : List Str := ["program", "level"]
theorem sc_check_level : FnScope N_check_level ["program", "level"] (defScope s_check_level) := ⟨rfl, rfl, rfl, by decide +kernel, rfl, by decide +kernel, by decide +kernel⟩
abbrev s_are_same : Stmt := topS 37
abbrev N_are_same : List Str := ["program", "one", "other"]
theorem sc_are_same : FnScope N_are_same ["program", "one", "other"] (defScope s_are_same) := ⟨rfl, rfl, rfl, by decide +kernel, rfl, by decide +kernel, by decide +kernel⟩
abbrev s_commuting : Stmt := topS 39
abbrev N_commuting : List Str := ["program", "k", "l"]
theorem sc_commuting : FnScope N_commuting ["program"] (defScope s_commuting) := ⟨rfl, rfl, rfl, by decide +kernel, rfl, by decide +kernel, by decide +kernel⟩
abbrev s_end_from : Stmt := topS 35
abbrev N_end_from : List Str := ["program", "level", "row"]
theorem sc_end_from : FnScope N_end_from ["program", "level", "row"] (defScope s_end_from) := ⟨rfl, rfl, rfl, by decide +kernel, rfl, by decide +kernel, by decide +kernel⟩
abbrev s_u_law_asked : Stmt := topS 52
abbrev N_u_law_asked : List Str := ["way", "program", "one", "other", "error"]
theorem sc_u_law_asked : FnScope N_u_law_asked ["way", "program", "one", "other"] (defScope s_u_law_asked) := ⟨rfl, rfl, rfl, by decide +kernel, rfl, by decide +kernel, by decide +kernel⟩
abbrev s_law : Stmt := topS 55
abbrev N_law : List Str := ["script", "draws", "program", "many", "due", "k", "turn", "account", "bad", "told", "one", "at", "moved", "other", "level", "ahead", "behind", "way", "j"]
theorem sc_law : FnScope N_law ["script"] (defScope s_law) := ⟨rfl, rfl, rfl, by decide +kernel, rfl, by decide +kernel, by decide +kernel⟩
def b_is_outlet : DS := (seqS (asgS (.tp [(.nm 3), (.nm 4)]) (varE 0))
  (seqS (ifS (valT (binE (eqD false) (varE 3) (cE (.int (-1)))))
  (retS (binE (eqD false) (varE 4) (cE (.int 0))))
  nextS)
  (retS (andE (chainE (varE 1) (linkC leD (varE 3) (lastC leD (varE 2)))) (chainE (unE negD (cE (.int (9)))) (linkC leD (varE 4) (lastC leD (cE (.int (9))))))))))
abbrev d_is_outlet : List D → M D := denF 3 5 b_is_outlet
def b_is_kind : DS := (seqS (ifS (notT (chainE (cE (.int 1)) (linkT leD (callE lenD (consA (varE 0) nilA)) (lastT leD (cE (.int (4)))))))
  (retS (cE (.bl false)))
  nextS)
  (retS (gcE (callE allD (consA (lcE (seqI (varE 0)) (.tp [(.nm 2), (.nm 3)]) yesT (andE (chainE (cE (.int 0)) (linkC leD (varE 2) (lastC leD (varE 1)))) (chainE (unE negD (cE (.int (99)))) (linkC leD (varE 3) (lastC leD (cE (.int (99))))))) [2, 3]) nilA)))))
abbrev d_is_kind : List D → M D := denF 2 4 b_is_kind
def b_fits : DS := (seqS (setS 2 (binE ixD (varE 0) (cE (.int 0))))
  (retS (andE (binE (eqD false) (callE lenD (consA (varE 1) nilA)) (callE lenD (consA (varE 2) nilA))) (gcE (callE allD (consA (lcE (zipI (consA (varE 2) (consA (varE 1) nilA))) (.tp [(.nm 3), (.nm 4)]) yesT (chainE (binE ixD (varE 3) (cE (.int 0))) (linkC leD (varE 4) (lastC leD (binE ixD (varE 3) (cE (.int 1)))))) [3, 4]) nilA))))))
abbrev d_fits : List D → M D := denF 2 5 b_fits
def b_are_kinds : DS := (retS (gcE (callE allD (consA (lcE (seqI (varE 1)) (.nm 2) yesT (chainE (cE (.int 0)) (linkC leD (varE 2) (lastC ltD (callE lenD (consA (binE ixD (varE 0) (cE (.int 2))) nilA))))) [2]) nilA))))
abbrev d_are_kinds : List D → M D := denF 2 3 b_are_kinds
def b_levels_of : DS := (seqS (setS 1 (lstE (consA (tupE nilA) nilA)))
  (seqS (forS (seqI (binE ixD (varE 0) (cE (.int 0)))) (.tp [(.nm 2), (.nm 3), (.nm 4), (.nm 4), (.nm 4)])
  (setS 1 (lc2E (seqI (varE 1)) (.nm 5) yesT (rngI2 (consA (varE 2) (consA (binE addD (varE 3) (cE (.int 1))) nilA))) (.nm 6) yesT (tupE (starA (varE 5) (consA (varE 6) nilA))) [5, 6] [6])))
  (retS (varE 1))))
abbrev d_levels_of : List D → M D := denF 1 7 b_levels_of
def b_Books_init : DS := (seqS (setF 11 "registers" (varE 0) (binE ixD (varE 1) (cE (.int 0))))
  (seqS (setF 11 "level" (varE 0) (callE listCD (consA (varE 2) nilA)))
  (setF 11 "pay" (varE 0) (binE mulD (lstE (consA (cE (.int 0)) nilA)) (binE ixD (varE 1) (cE (.int 1)))))))
abbrev d_Books_init : List D → M D := denF 3 3 b_Books_init
def b_Books_put : DS := (whileS 100 (valT (binE (eqD true) (varE 1) (cE (.int (-1)))))
  (seqS (ifS (valT (binE geD (varE 1) (callE lenD (consA (fldE 11 "registers" (varE 0)) nilA))))
  (seqS (effS (augIxE (intD (fun _ _ => True) fun i j => .int (i + j)) (fldE 11 "pay" (varE 0)) (binE subD (varE 1) (callE lenD (consA (fldE 11 "registers" (varE 0)) nilA))) (varE 2)))
  retNS)
  nextS)
  (seqS (asgS (.tp [(.nm 5), (.nm 6), (.nm 7), (.nm 8), (.nm 9)]) (binE ixD (fldE 11 "registers" (varE 0)) (varE 1)))
  (seqS (setS 3 (binE addD (binE ixD (fldE 11 "level" (varE 0)) (varE 1)) (varE 2)))
  (seqS (effS (setIxE (fldE 11 "level" (varE 0)) (varE 1) (callE maxD (consA (varE 5) (consA (callE minD (consA (varE 6) (consA (varE 3) nilA))) nilA)))))
  (seqS (ifS (chainE (varE 5) (linkT leD (varE 3) (lastT leD (varE 6))))
  retNS
  nextS)
  (seqS (setS 4 (ifE (valT (binE gtD (varE 3) (varE 6))) (varE 8) (varE 9)))
  (seqS (setS 2 (binE mulD (binE subD (varE 3) (binE ixD (fldE 11 "level" (varE 0)) (varE 1))) (binE ixD (varE 4) (cE (.int 1)))))
  (setS 1 (binE ixD (varE 4) (cE (.int 0))))))))))))
abbrev d_Books_put : List D → M D := denF 3 10 b_Books_put
def b_Books_told : DS := (retS (tupE (consA (callE tupleCD (consA (fldE 11 "level" (varE 0)) nilA)) (consA (callE tupleCD (consA (fldE 11 "pay" (varE 0)) nilA)) nilA))))
abbrev d_Books_told : List D → M D := denF 1 1 b_Books_told
def b_kind_pairs : DS := (seqS (setS 1 (callE lenD (consA (binE ixD (varE 0) (cE (.int 2))) nilA)))
  (retS (lc2E (rngI1 (consA (varE 1) nilA)) (.nm 2) yesT (rngI2 (consA (binE addD (varE 2) (cE (.int 1))) (consA (varE 1) nilA))) (.nm 3) yesT (tupE (consA (varE 2) (consA (varE 3) nilA))) [2, 3] [3])))
abbrev d_kind_pairs : List D → M D := denF 1 4 b_kind_pairs
def b_u_law_number : DS := (seqS (ifS (valT (binE ltD (varE 0) (cE (.int 0))))
  (retS (binE subD (cE (.int 0)) (varE 0)))
  nextS)
  (retS (varE 0)))
abbrev d_u_law_number : List D → M D := denF 1 1 b_u_law_number
def b_u_law_next : DS := (seqS (ifS (truT (varE 0))
  (retS (mtE popD (varE 0) nilA))
  nextS)
  (retS (cE (.int 0))))
abbrev d_u_law_next : List D → M D := denF 1 1 b_u_law_next
def b_u_law_end : DS := (seqS (asgS (.tp [(.nm 4), (.nm 5), (.nm 6)]) (varE 0))
  (seqS (parS 1 7 (consA (callE listCD (consA (varE 1) nilA)) (consA (binE mulD (lstE (consA (cE (.int 0)) nilA)) (varE 5)) nilA)))
  (seqS (forS (seqI (varE 2)) (.nm 3)
  (forS (seqI (binE ixD (varE 6) (varE 3))) (.tp [(.nm 8), (.nm 9)])
  (forS (rngI1 (consA (binE addD (callE lenD (consA (varE 4) nilA)) (cE (.int 1))) nilA)) (.nm 10)
  (seqS (ifS (valT (binE ltD (varE 8) (cE (.int 0))))
  breakS
  nextS)
  (seqS (ifS (valT (binE geD (varE 8) (callE lenD (consA (varE 4) nilA))))
  (seqS (effS (setIxE (varE 7) (binE subD (varE 8) (callE lenD (consA (varE 4) nilA))) (binE addD (binE ixD (varE 7) (binE subD (varE 8) (callE lenD (consA (varE 4) nilA)))) (varE 9))))
  breakS)
  nextS)
  (seqS (asgS (.tp [(.nm 13), (.nm 14), (.nm 15), (.nm 16), (.nm 17)]) (binE ixD (varE 4) (varE 8)))
  (seqS (setS 11 (binE addD (binE ixD (varE 1) (varE 8)) (varE 9)))
  (seqS (effS (setIxE (varE 1) (varE 8) (callE minD (consA (varE 14) (consA (callE maxD (consA (varE 13) (consA (varE 11) nilA))) nilA)))))
  (seqS (ifS (chainE (varE 13) (linkT leD (varE 11) (lastT leD (varE 14))))
  breakS
  nextS)
  (seqS (setS 12 (ifE (valT (binE gtD (varE 11) (varE 14))) (binE ixD (varE 16) (cE (.int 1))) (binE ixD (varE 17) (cE (.int 1)))))
  (seqS (setS 9 (binE mulD (binE subD (varE 11) (binE ixD (varE 1) (varE 8))) (varE 12)))
  (setS 8 (ifE (valT (binE gtD (varE 11) (varE 14))) (binE ixD (varE 16) (cE (.int 0))) (binE ixD (varE 17) (cE (.int 0))))))))))))))))
  (retS (tupE (consA (callE tupleCD (consA (varE 1) nilA)) (consA (callE tupleCD (consA (varE 7) nilA)) nilA)))))))
abbrev d_u_law_end : List D → M D := denF 3 18 b_u_law_end
def b_u_law_levels : DS := (seqS (setS 1 (lstE (consA (tupE nilA) nilA)))
  (seqS (forS (seqI (binE ixD (varE 0) (cE (.int 0)))) (.tp [(.nm 2), (.nm 3), (.nm 4), (.nm 5), (.nm 6)])
  (seqS (setS 7 (lstE nilA))
  (seqS (forS (seqI (varE 1)) (.nm 8)
  (exprS (gcE (mtE extendD (varE 7) (consA (lcE (rngI2 (consA (varE 2) (consA (binE addD (varE 3) (cE (.int 1))) nilA))) (.nm 9) yesT (binE addD (varE 8) (tupE (consA (varE 9) nilA))) [9]) nilA)))))
  (setS 1 (varE 7)))))
  (retS (varE 1))))
abbrev d_u_law_levels : List D → M D := denF 1 10 b_u_law_levels
def b_u_law_account : DS := (retS (tupE (consA (tupE (consA (tupE (consA (varE 0) (consA (varE 1) (consA (cE (.int 0)) (consA (tupE (consA (cE (.int 1)) (consA (cE (.int 3)) nilA))) (consA (tupE (consA (cE (.int 1)) (consA (cE (.int 2)) nilA))) nilA)))))) nilA)) (consA (cE (.int 1)) (consA (tupE (consA (tupE (consA (tupE (consA (cE (.int 0)) (consA (cE (.int 8)) nilA))) nilA)) (consA (tupE (consA (tupE (consA (cE (.int 0)) (consA (unE negD (cE (.int 5))) nilA))) nilA)) nilA))) nilA)))))
abbrev d_u_law_account : List D → M D := denF 2 2 b_u_law_account
def b_is_register : DS := (seqS (asgS (.tp [(.nm 3), (.nm 4), (.nm 5), (.nm 6), (.nm 7)]) (varE 0))
  (seqS (ifS (notT (chainE (unE negD (cE (.int (400)))) (linkT leD (varE 3) (linkT leD (varE 5) (linkT leD (varE 4) (lastT leD (cE (.int (400)))))))))
  (retS (cE (.bl false)))
  nextS)
  (retS (andE (callE d_is_outlet (consA (varE 6) (consA (binE addD (varE 1) (cE (.int 1))) (consA (varE 2) nilA)))) (callE d_is_outlet (consA (varE 7) (consA (binE addD (varE 1) (cE (.int 1))) (consA (varE 2) nilA))))))))
abbrev d_is_register : List D → M D := denF 3 8 b_is_register
def b_check_row : DS := (ifS (notT (valT (callE d_are_kinds (consA (varE 0) (consA (varE 1) nilA)))))
  (raiseS 8)
  nextS)
abbrev d_check_row : List D → M D := denF 2 2 b_check_row
def b_Books_book : DS := (forS (seqI (varE 1)) (.tp [(.nm 2), (.nm 3)])
  (exprS (methE 11 "put" d_Books_put (varE 0) (consA (varE 2) (consA (varE 3) nilA)))))
abbrev d_Books_book : List D → M D := denF 2 4 b_Books_book
def b_u_law_draws : DS := (seqS (setS 1 (lstE nilA))
  (seqS (forS (seqI (varE 0)) (.nm 2)
  (seqS (setS 3 (callE d_u_law_number (consA (varE 2) nilA)))
  (ifS (valT (binE geD (varE 3) (cE (.int 1000000000000000000))))
  (forS (rngI1 (consA (cE (.int 60)) nilA)) (.nm 4)
  (seqS (ifS (valT (binE (eqD false) (varE 3) (cE (.int 0))))
  breakS
  nextS)
  (seqS (exprS (mtE appendD (varE 1) (consA (binE modD (callE intCD (consA (varE 3) nilA)) (cE (.int 1000))) nilA)))
  (setS 3 (binE fdivD (varE 3) (cE (.int 1000)))))))
  (seqS (setS 5 (binE modD (callE intCD (consA (binE addD (binE mulD (varE 3) (cE (.int 48271))) (cE (.int 11))) nilA)) (cE (.int 2147483647))))
  (seqS (setS 6 (binE modD (callE intCD (consA (binE addD (binE mulD (varE 5) (cE (.int 69621))) (varE 3)) nilA)) (cE (.int 2147483629))))
  (exprS (gcE (mtE extendD (varE 1) (consA (lstE (consA (binE modD (callE intCD (consA (varE 3) nilA)) (cE (.int 1000))) (consA (binE modD (callE intCD (consA (varE 5) nilA)) (cE (.int 1000))) (consA (binE modD (callE intCD (consA (varE 6) nilA)) (cE (.int 1000))) nilA)))) nilA)))))))))
  (seqS (exprS (mtE reverseD (varE 1) nilA))
  (retS (varE 1)))))
abbrev d_u_law_draws : List D → M D := denF 1 7 b_u_law_draws
def b_u_law_more : DS := (seqS (setS 2 (binE addD (binE addD (binE mulD (cE (.int 1000)) (callE d_u_law_next (consA (varE 0) nilA))) (callE d_u_law_next (consA (varE 0) nilA))) (cE (.int 1))))
  (seqS (setS 3 (lstE nilA))
  (seqS (forS (rngI1 (consA (varE 1) nilA)) (.nm 4)
  (seqS (setS 2 (binE modD (callE intCD (consA (binE addD (binE mulD (varE 2) (cE (.int 48271))) (cE (.int 12345))) nilA)) (cE (.int 2147483647))))
  (exprS (mtE appendD (varE 3) (consA (binE modD (callE intCD (consA (binE fdivD (varE 2) (cE (.int 7))) nilA)) (cE (.int 1000))) nilA)))))
  (retS (binE addD (varE 3) (varE 0))))))
abbrev d_u_law_more : List D → M D := denF 2 5 b_u_law_more
def b_u_law_pick : DS := (retS (binE ixD (varE 1) (binE modD (callE intCD (consA (callE d_u_law_next (consA (varE 0) nilA)) nilA)) (callE lenD (consA (varE 1) nilA)))))
abbrev d_u_law_pick : List D → M D := denF 2 2 b_u_law_pick
def b_u_law_row : DS := (retS (gcE (callE tupleCD (consA (lcE (rngI1 (consA (binE modD (callE intCD (consA (callE d_u_law_next (consA (varE 0) nilA)) nilA)) (binE addD (varE 2) (cE (.int 1)))) nilA)) (.nm 3) yesT (binE modD (callE intCD (consA (callE d_u_law_next (consA (varE 0) nilA)) nilA)) (callE lenD (consA (binE ixD (varE 1) (cE (.int 2))) nilA))) [3]) nilA))))
abbrev d_u_law_row : List D → M D := denF 3 4 b_u_law_row
def b_u_law_apart : DS := (seqS (forS (seqI (callE d_u_law_levels (consA (varE 0) nilA))) (.nm 3)
  (ifS (valT (binE (eqD true) (callE d_u_law_end (consA (varE 0) (consA (varE 3) (consA (varE 1) nilA)))) (callE d_u_law_end (consA (varE 0) (consA (varE 3) (consA (varE 2) nilA))))))
  (retS (varE 3))
  nextS))
  (retS (cE .non)))
abbrev d_u_law_apart : List D → M D := denF 3 4 b_u_law_apart
def b_is_program : DS := (seqS (asgS (.tp [(.nm 3), (.nm 4), (.nm 5)]) (varE 0))
  (seqS (ifS (orT (valT (binE gtD (callE lenD (consA (varE 3) nilA)) (cE (.int (3))))) (orT (notT (chainE (cE (.int 1)) (linkT leD (varE 4) (lastT leD (cE (.int (3))))))) (notT (chainE (cE (.int 1)) (linkT leD (callE lenD (consA (varE 5) nilA)) (lastT leD (cE (.int (6)))))))))
  (retS (cE (.bl false)))
  nextS)
  (seqS (setS 1 (binE subD (binE addD (callE lenD (consA (varE 3) nilA)) (varE 4)) (cE (.int 1))))
  (seqS (ifS (notT (valT (gcE (callE allD (consA (lcE (enumI (consA (varE 3) nilA)) (.tp [(.nm 10), (.nm 11)]) yesT (callE d_is_register (consA (varE 11) (consA (varE 10) (consA (varE 1) nilA)))) [10, 11]) nilA)))))
  (retS (cE (.bl false)))
  nextS)
  (seqS (setS 2 (cE (.int 1)))
  (seqS (forS (seqI (varE 3)) (.tp [(.nm 6), (.nm 7), (.nm 8), (.nm 8), (.nm 8)])
  (augS 2 mulI (binE addD (binE subD (varE 7) (varE 6)) (cE (.int 1)))))
  (retS (andE (binE leD (varE 2) (cE (.int (2000)))) (gcE (callE allD (consA (lcE (seqI (varE 5)) (.nm 9) yesT (callE d_is_kind (consA (varE 9) (consA (varE 1) nilA))) [9]) nilA)))))))))))
abbrev d_is_program : List D → M D := denF 1 12 b_is_program
def b_end_at : DS := (seqS (setS 3 (makeE 11 d_Books_init (consA (varE 0) (consA (varE 1) nilA))))
  (seqS (forS (seqI (varE 2)) (.nm 4)
  (exprS (methE 11 "book" d_Books_book (varE 3) (consA (binE ixD (binE ixD (varE 0) (cE (.int 2))) (varE 4)) nilA))))
  (retS (methE 11 "told" d_Books_told (varE 3) nilA))))
abbrev d_end_at : List D → M D := denF 3 5 b_end_at
def b_u_law_program : DS := (seqS (setS 1 (gcE (callE d_u_law_pick (consA (varE 0) (consA (lstE (consA (cE (.int 1)) (consA (cE (.int 2)) (consA (cE (.int 1)) (consA (cE (.int 2)) (consA (cE (.int 1)) (consA (cE (.int 0)) (consA (cE (.int 3)) nilA)))))))) nilA)))))
  (seqS (setS 2 (gcE (callE d_u_law_pick (consA (varE 0) (consA (lstE (consA (cE (.int 1)) (consA (cE (.int 1)) (consA (cE (.int 2)) (consA (cE (.int 3)) nilA))))) nilA)))))
  (seqS (setS 3 (gcE (binE ixD (lstE (consA (cE (.int 9)) (consA (cE (.int 9)) (consA (cE (.int 6)) (consA (cE (.int 3)) nilA))))) (varE 1))))
  (seqS (setS 4 (lstE nilA))
  (seqS (forS (rngI1 (consA (varE 1) nilA)) (.nm 5)
  (seqS (parS 13 14 (consA (binE subD (cE (.int 0)) (binE modD (callE intCD (consA (callE d_u_law_next (consA (varE 0) nilA)) nilA)) (cE (.int 4)))) (consA (binE modD (callE intCD (consA (callE d_u_law_next (consA (varE 0) nilA)) nilA)) (varE 3)) nilA)))
  (seqS (setS 8 (binE addD (varE 13) (binE modD (callE intCD (consA (callE d_u_law_next (consA (varE 0) nilA)) nilA)) (binE addD (binE subD (varE 14) (varE 13)) (cE (.int 1))))))
  (seqS (setS 9 (lstE nilA))
  (seqS (forS (rngI1 (consA (cE (.int 2)) nilA)) (.nm 10)
  (seqS (setS 15 (gcE (callE d_u_law_pick (consA (varE 0) (consA (binE addD (lstE (consA (unE negD (cE (.int 1))) nilA)) (listR2 (binE addD (varE 5) (cE (.int 1))) (binE addD (varE 1) (varE 2)))) nilA)))))
  (exprS (mtE appendD (varE 9) (consA (tupE (consA (varE 15) (consA (ifE (valT (binE ltD (varE 15) (cE (.int 0)))) (cE (.int 0)) (binE subD (binE modD (callE intCD (consA (callE d_u_law_next (consA (varE 0) nilA)) nilA)) (cE (.int 6))) (cE (.int 2)))) nilA))) nilA)))))
  (exprS (mtE appendD (varE 4) (consA (tupE (consA (varE 13) (consA (varE 14) (consA (varE 8) (consA (binE ixD (varE 9) (cE (.int 0))) (consA (binE ixD (varE 9) (cE (.int 1))) nilA)))))) nilA))))))))
  (seqS (setS 6 (gcE (callE d_u_law_pick (consA (varE 0) (consA (lstE (consA (tupE (consA (cE (.int 0)) (consA (cE (.int 4)) nilA))) (consA (tupE (consA (unE negD (cE (.int 4))) (consA (cE (.int 9)) nilA))) (consA (tupE (consA (unE negD (cE (.int 4))) (consA (cE (.int 9)) nilA))) (consA (tupE (consA (unE negD (cE (.int 4))) (consA (cE (.int 9)) nilA))) nilA))))) nilA)))))
  (seqS (setS 7 (lstE nilA))
  (seqS (forS (rngI1 (consA (binE addD (cE (.int 2)) (binE modD (callE intCD (consA (callE d_u_law_next (consA (varE 0) nilA)) nilA)) (cE (.int 3)))) nilA)) (.nm 5)
  (seqS (setS 11 (lstE nilA))
  (seqS (forS (rngI1 (consA (gcE (callE d_u_law_pick (consA (varE 0) (consA (lstE (consA (cE (.int 1)) (consA (cE (.int 1)) (consA (cE (.int 2)) (consA (cE (.int 3)) nilA))))) nilA)))) nilA)) (.nm 12)
  (exprS (mtE appendD (varE 11) (consA (tupE (consA (binE modD (callE intCD (consA (callE d_u_law_next (consA (varE 0) nilA)) nilA)) (binE addD (varE 1) (varE 2))) (consA (binE addD (binE ixD (varE 6) (cE (.int 0))) (binE modD (callE intCD (consA (callE d_u_law_next (consA (varE 0) nilA)) nilA)) (binE ixD (varE 6) (cE (.int 1))))) nilA))) nilA))))
  (exprS (mtE appendD (varE 7) (consA (callE tupleCD (consA (varE 11) nilA)) nilA))))))
  (retS (tupE (consA (callE tupleCD (consA (varE 4) nilA)) (consA (varE 2) (consA (callE tupleCD (consA (varE 7) nilA)) nilA)))))))))))))
abbrev d_u_law_program : List D → M D := denF 1 16 b_u_law_program
def b_u_law_wide : DS := (seqS (setS 2 (gcE (callE d_u_law_pick (consA (varE 0) (consA (lstE (consA (cE (.int 1)) (consA (cE (.int 1)) (consA (cE (.int 2)) (consA (cE (.int 3)) nilA))))) nilA)))))
  (seqS (setS 3 (binE addD (cE (.int 1)) (binE modD (callE intCD (consA (callE d_u_law_next (consA (varE 0) nilA)) nilA)) (cE (.int 3)))))
  (seqS (setS 4 (lstE nilA))
  (seqS (forS (rngI1 (consA (varE 2) nilA)) (.nm 5)
  (seqS (setS 7 (binE subD (binE modD (callE intCD (consA (callE d_u_law_next (consA (varE 0) nilA)) nilA)) (cE (.int 801))) (cE (.int 400))))
  (seqS (setS 8 (callE minD (consA (cE (.int 400)) (consA (binE addD (varE 7) (binE modD (callE intCD (consA (callE d_u_law_next (consA (varE 0) nilA)) nilA)) (binE ixD (varE 1) (binE subD (varE 2) (cE (.int 1)))))) nilA))))
  (seqS (setS 9 (binE addD (varE 7) (binE modD (callE intCD (consA (callE d_u_law_next (consA (varE 0) nilA)) nilA)) (binE addD (binE subD (varE 8) (varE 7)) (cE (.int 1))))))
  (seqS (setS 10 (lstE nilA))
  (seqS (forS (rngI1 (consA (cE (.int 2)) nilA)) (.nm 11)
  (seqS (setS 12 (gcE (callE d_u_law_pick (consA (varE 0) (consA (binE addD (lstE (consA (unE negD (cE (.int 1))) nilA)) (listR2 (binE addD (varE 5) (cE (.int 1))) (binE addD (varE 2) (varE 3)))) nilA)))))
  (exprS (mtE appendD (varE 10) (consA (tupE (consA (varE 12) (consA (ifE (valT (binE ltD (varE 12) (cE (.int 0)))) (cE (.int 0)) (binE subD (binE modD (callE intCD (consA (callE d_u_law_next (consA (varE 0) nilA)) nilA)) (cE (.int 19))) (cE (.int 9)))) nilA))) nilA)))))
  (exprS (mtE appendD (varE 4) (consA (tupE (consA (varE 7) (consA (varE 8) (consA (varE 9) (consA (binE ixD (varE 10) (cE (.int 0))) (consA (binE ixD (varE 10) (cE (.int 1))) nilA)))))) nilA)))))))))
  (seqS (setS 6 (lstE nilA))
  (seqS (forS (rngI1 (consA (binE addD (cE (.int 1)) (binE modD (callE intCD (consA (callE d_u_law_next (consA (varE 0) nilA)) nilA)) (cE (.int 6)))) nilA)) (.nm 5)
  (exprS (gcE (mtE appendD (varE 6) (consA (gcE (callE tupleCD (consA (lcE (rngI1 (consA (binE addD (cE (.int 1)) (binE modD (callE intCD (consA (callE d_u_law_next (consA (varE 0) nilA)) nilA)) (cE (.int 4)))) nilA)) (.nm 13) yesT (tupE (consA (binE modD (callE intCD (consA (callE d_u_law_next (consA (varE 0) nilA)) nilA)) (binE addD (varE 2) (varE 3))) (consA (binE subD (binE modD (callE intCD (consA (callE d_u_law_next (consA (varE 0) nilA)) nilA)) (cE (.int 199))) (cE (.int 99))) nilA))) [13]) nilA))) nilA)))))
  (retS (tupE (consA (callE tupleCD (consA (varE 4) nilA)) (consA (varE 3) (consA (callE tupleCD (consA (varE 6) nilA)) nilA)))))))))))
abbrev d_u_law_wide : List D → M D := denF 2 14 b_u_law_wide
def b_check_program : DS := (ifS (notT (valT (callE d_is_program (consA (varE 0) nilA))))
  (raiseS 6)
  nextS)
abbrev d_check_program : List D → M D := denF 1 1 b_check_program
def b_is_level : DS := (seqS (exprS (callE d_check_program (consA (varE 0) nilA)))
  (retS (callE d_fits (consA (varE 0) (consA (varE 1) nilA)))))
abbrev d_is_level : List D → M D := denF 2 2 b_is_level
def b_first_apart : DS := (seqS (exprS (callE d_check_program (consA (varE 0) nilA)))
  (seqS (exprS (callE d_check_row (consA (varE 0) (consA (varE 1) nilA))))
  (seqS (exprS (callE d_check_row (consA (varE 0) (consA (varE 2) nilA))))
  (seqS (forS (seqI (callE d_levels_of (consA (varE 0) nilA))) (.nm 3)
  (ifS (valT (binE (eqD true) (callE d_end_at (consA (varE 0) (consA (varE 3) (consA (varE 1) nilA)))) (callE d_end_at (consA (varE 0) (consA (varE 3) (consA (varE 2) nilA))))))
  (retS (varE 3))
  nextS))
  (retS (cE .non))))))
abbrev d_first_apart : List D → M D := denF 3 4 b_first_apart
def b_check_level : DS := (ifS (notT (valT (callE d_is_level (consA (varE 0) (consA (varE 1) nilA)))))
  (raiseS 8)
  nextS)
abbrev d_check_level : List D → M D := denF 2 2 b_check_level
def b_are_same : DS := (retS (binE (isD false) (callE d_first_apart (consA (varE 0) (consA (varE 1) (consA (varE 2) nilA)))) (cE .non)))
abbrev d_are_same : List D → M D := denF 3 3 b_are_same
def b_commuting : DS := (seqS (exprS (callE d_check_program (consA (varE 0) nilA)))
  (retS (lcE (seqI (callE d_kind_pairs (consA (varE 0) nilA))) (.tp [(.nm 1), (.nm 2)]) (valT (binE (isD false) (callE d_first_apart (consA (varE 0) (consA (tupE (consA (varE 1) (consA (varE 2) nilA))) (consA (tupE (consA (varE 2) (consA (varE 1) nilA))) nilA)))) (cE .non))) (tupE (consA (varE 1) (consA (varE 2) nilA))) [1, 2])))
abbrev d_commuting : List D → M D := denF 1 3 b_commuting
def b_end_from : DS := (seqS (exprS (callE d_check_level (consA (varE 0) (consA (varE 1) nilA))))
  (seqS (exprS (callE d_check_row (consA (varE 0) (consA (varE 2) nilA))))
  (retS (callE d_end_at (consA (varE 0) (consA (varE 1) (consA (varE 2) nilA)))))))
abbrev d_end_from : List D → M D := denF 3 3 b_end_from
def b_u_law_asked : DS := (tryS hK 4
  (retS (ifE (valT (binE (eqD false) (varE 0) (cE (.int 2)))) (callE d_commuting (consA (varE 1) nilA)) (gcE (callVE (fun j => if j = 30 then some d_are_same else if j = 29 then some d_first_apart else none) (gcE (binE ixD (lstE (consA (cE (.fn 30)) (consA (cE (.fn 29)) nilA))) (varE 0))) (consA (varE 1) (consA (varE 2) (consA (varE 3) nilA))))))))
abbrev d_u_law_asked : List D → M D := denF 4 5 b_u_law_asked
def b_law : DS := (seqS (setS 1 (callE d_u_law_draws (consA (varE 0) nilA)))
  (seqS (setS 1 (callE d_u_law_more (consA (varE 1) (consA (cE (.int 200)) nilA))))
  (seqS (setS 2 (ifE (valT (binE (eqD false) (binE modD (callE intCD (consA (callE d_u_law_next (consA (varE 1) nilA)) nilA)) (cE (.int 4))) (cE (.int 1)))) (gcE (callE d_u_law_wide (consA (varE 1) (consA (lstE (consA (cE (.int 120)) (consA (cE (.int 11)) (consA (cE (.int 5)) nilA)))) nilA)))) (callE d_u_law_program (consA (varE 1) nilA))))
  (seqS (setS 3 (callE lenD (consA (binE ixD (varE 2) (cE (.int 2))) nilA)))
  (seqS (setS 4 (lstE nilA))
  (seqS (forS (rngI1 (consA (varE 3) nilA)) (.nm 5)
  (exprS (gcE (mtE extendD (varE 4) (consA (lcE (rngI2 (consA (binE addD (varE 5) (cE (.int 1))) (consA (varE 3) nilA))) (.nm 18) (valT (binE (isD false) (callE d_u_law_apart (consA (varE 2) (consA (tupE (consA (varE 5) (consA (varE 18) nilA))) (consA (tupE (consA (varE 18) (consA (varE 5) nilA))) nilA)))) (cE .non))) (tupE (consA (varE 5) (consA (varE 18) nilA))) [18]) nilA)))))
  (seqS (ifS (valT (binE (eqD true) (callE reprD (consA (callE d_u_law_asked (consA (cE (.int 2)) (consA (varE 2) (consA (cE .non) (consA (cE .non) nilA))))) nilA)) (callE reprD (consA (varE 4) nilA))))
  (retS (cE (.bl false)))
  nextS)
  (seqS (forS (rngI1 (consA (cE (.int 5)) nilA)) (.nm 6)
  (seqS (setS 10 (callE d_u_law_row (consA (varE 1) (consA (varE 2) (consA (cE (.int 6)) nilA)))))
  (seqS (setS 11 (binE modD (callE intCD (consA (callE d_u_law_next (consA (varE 1) nilA)) nilA)) (callE maxD (consA (cE (.int 1)) (consA (binE subD (callE lenD (consA (varE 10) nilA)) (cE (.int 1))) nilA)))))
  (seqS (setS 12 (binE addD (binE addD (sliceE (varE 10) noO (partO (varE 11))) (unE revD (sliceE (varE 10) (partO (varE 11)) (partO (binE addD (varE 11) (cE (.int 2))))))) (sliceE (varE 10) (partO (binE addD (varE 11) (cE (.int 2)))) noO)))
  (seqS (setS 13 (gcE (callE d_u_law_pick (consA (varE 1) (consA (lstE (consA (varE 12) (consA (varE 12) (consA (callE d_u_law_row (consA (varE 1) (consA (varE 2) (consA (cE (.int 6)) nilA)))) (consA (binE addD (varE 10) (sliceE (varE 10) (partO (unE negD (cE (.int 1)))) noO)) (consA (binE mulD (varE 10) (cE (.int 2))) (consA (varE 10) nilA))))))) nilA)))))
  (seqS (setS 14 (callE d_u_law_apart (consA (varE 2) (consA (varE 10) (consA (varE 13) nilA)))))
  (seqS (ifS (valT (binE (eqD true) (gcE (callE reprD (consA (lcE (rngI1 (consA (cE (.int 2)) nilA)) (.nm 17) yesT (callE d_u_law_asked (consA (varE 17) (consA (varE 2) (consA (varE 10) (consA (varE 13) nilA))))) [17]) nilA))) (gcE (callE reprD (consA (lstE (consA (binE (isD false) (varE 14) (cE .non)) (consA (varE 14) nilA))) nilA)))))
  (retS (cE (.bl false)))
  nextS)
  (seqS (ifS (andT (valT (binE (isD true) (varE 14) (cE .non))) (valT (binE (eqD false) (callE d_end_from (consA (varE 2) (consA (varE 14) (consA (varE 10) nilA)))) (callE d_end_from (consA (varE 2) (consA (varE 14) (consA (varE 13) nilA)))))))
  (retS (cE (.bl false)))
  nextS)
  (seqS (parS 15 16 (consA (callE d_u_law_row (consA (varE 1) (consA (varE 2) (consA (cE (.int 3)) nilA)))) (consA (callE d_u_law_row (consA (varE 1) (consA (varE 2) (consA (cE (.int 3)) nilA)))) nilA)))
  (ifS (andT (valT (binE (isD false) (varE 14) (cE .non))) (valT (binE (isD true) (callE d_are_same (consA (varE 2) (consA (binE addD (binE addD (varE 15) (varE 10)) (varE 16)) (consA (binE addD (binE addD (varE 15) (varE 13)) (varE 16)) nilA)))) (cE (.bl true)))))
  (retS (cE (.bl false)))
  nextS))))))))))
  (seqS (setS 7 (callE d_u_law_account (consA (cE (.int 0)) (consA (cE (.int 10)) nilA))))
  (seqS (ifS (valT (binE (eqD true) (gcE (callE reprD (consA (lstE (consA (callE d_commuting (consA (varE 7) nilA)) (consA (callE d_first_apart (consA (varE 7) (consA (tupE (consA (cE (.int 0)) (consA (cE (.int 1)) nilA))) (consA (tupE (consA (cE (.int 1)) (consA (cE (.int 0)) nilA))) nilA)))) (consA (callE d_first_apart (consA (varE 7) (consA (tupE (consA (cE (.int 0)) (consA (cE (.int 0)) (consA (cE (.int 0)) nilA)))) (consA (tupE (consA (cE (.int 0)) (consA (cE (.int 0)) nilA))) nilA)))) nilA)))) nilA))) (gcE (callE reprD (consA (lstE (consA (lstE nilA) (consA (tupE (consA (cE (.int 0)) nilA)) (consA (tupE (consA (cE (.int 0)) nilA)) nilA)))) nilA)))))
  (retS (cE (.bl false)))
  nextS)
  (seqS (setS 8 (tupE (consA (tupE nilA) (consA (cE (.int 0)) (consA (tupE nilA) nilA)))))
  (seqS (setS 9 (binE addD (lcE (rngI1 (consA (cE (.int 3)) nilA)) (.nm 17) yesT (callE d_u_law_asked (consA (varE 17) (consA (varE 8) (consA (tupE (consA (cE (.int 99)) nilA)) (consA (tupE nilA) nilA))))) [17]) (lcE (rngI1 (consA (cE (.int 2)) nilA)) (.nm 17) yesT (callE d_u_law_asked (consA (varE 17) (consA (varE 2) (consA (tupE (consA (varE 3) nilA)) (consA (tupE (consA (cE (.int 99)) nilA)) nilA))))) [17])))
  (retS (binE (eqD false) (binE addD (varE 9) (lcE (rngI1 (consA (cE (.int 2)) nilA)) (.nm 17) yesT (callE d_u_law_asked (consA (varE 17) (consA (varE 2) (consA (tupE (consA (cE (.int 0)) nilA)) (consA (tupE (consA (cE (.int 0)) (consA (unE negD (cE (.int 1))) nilA))) nilA))))) [17])) (binE addD (binE mulD (lstE (consA (cE (.str "!program")) nilA)) (cE (.int 3))) (binE mulD (lstE (consA (cE (.str "!number")) nilA)) (cE (.int 4))))))))))))))))))
abbrev d_law : List D → M D := denF 1 19 b_law
structure Txt (K : PySem.W.Frag) (mg : Str → Option Value) (aa : Nat → Addr) : Prop where
  e_NotProgram : ErrAt K mg "NotProgram" (aa 6)
  e_BadNumber : ErrAt K mg "BadNumber" (aa 8)
  c_Books : ClsAt K mg "Books" (aa 11)
  n_Books_level : NoAttr K (aa 11) "level"
  n_Books_pay : NoAttr K (aa 11) "pay"
  n_Books_registers : NoAttr K (aa 11) "registers"
  b_all : mg "all" = none
  b_enumerate : mg "enumerate" = none
  b_int : mg "int" = none
  b_len : mg "len" = none
  b_list : mg "list" = none
  b_max : mg "max" = none
  b_min : mg "min" = none
  b_range : mg "range" = none
  b_repr : mg "repr" = none
  b_tuple : mg "tuple" = none
  b_zip : mg "zip" = none
  g_MOST_AMOUNT : ∃ t, mg "MOST_AMOUNT" = some (.int (99) t)
  g_MOST_BOUND : ∃ t, mg "MOST_BOUND" = some (.int (400) t)
  g_MOST_ENTRIES : ∃ t, mg "MOST_ENTRIES" = some (.int (4) t)
  g_MOST_FACTOR : ∃ t, mg "MOST_FACTOR" = some (.int (9) t)
  g_MOST_KINDS : ∃ t, mg "MOST_KINDS" = some (.int (6) t)
  g_MOST_LEVELS : ∃ t, mg "MOST_LEVELS" = some (.int (2000) t)
  g_MOST_PURSES : ∃ t, mg "MOST_PURSES" = some (.int (3) t)
  g_MOST_REGISTERS : ∃ t, mg "MOST_REGISTERS" = some (.int (3) t)
  g_NOWHERE : ∃ t, mg "NOWHERE" = some (.int (-1) t)
  f_is_outlet : ∃ fd, Fun K "is_outlet" "is_outlet" s_is_outlet (aa 12) fd ∧ Binds K fd ["outlet", "first", "last"] []
  m_is_outlet : mg "is_outlet" = some (.ref (aa 12))
  f_is_register : ∃ fd, Fun K "is_register" "is_register" s_is_register (aa 13) fd ∧ Binds K fd ["register", "at", "last"] []
  m_is_register : mg "is_register" = some (.ref (aa 13))
  f_is_kind : ∃ fd, Fun K "is_kind" "is_kind" s_is_kind (aa 14) fd ∧ Binds K fd ["kind", "last"] []
  m_is_kind : mg "is_kind" = some (.ref (aa 14))
  f_is_program : ∃ fd, Fun K "is_program" "is_program" s_is_program (aa 15) fd ∧ Binds K fd ["program"] []
  m_is_program : mg "is_program" = some (.ref (aa 15))
  f_check_program : ∃ fd, Fun K "check_program" "check_program" s_check_program (aa 16) fd ∧ Binds K fd ["program"] []
  m_check_program : mg "check_program" = some (.ref (aa 16))
  f_fits : ∃ fd, Fun K "fits" "fits" s_fits (aa 17) fd ∧ Binds K fd ["program", "level"] []
  m_fits : mg "fits" = some (.ref (aa 17))
  f_is_level : ∃ fd, Fun K "is_level" "is_level" s_is_level (aa 18) fd ∧ Binds K fd ["program", "level"] []
  m_is_level : mg "is_level" = some (.ref (aa 18))
  f_check_level : ∃ fd, Fun K "check_level" "check_level" s_check_level (aa 19) fd ∧ Binds K fd ["program", "level"] []
  m_check_level : mg "check_level" = some (.ref (aa 19))
  f_are_kinds : ∃ fd, Fun K "are_kinds" "are_kinds" s_are_kinds (aa 20) fd ∧ Binds K fd ["program", "row"] []
  m_are_kinds : mg "are_kinds" = some (.ref (aa 20))
  f_check_row : ∃ fd, Fun K "check_row" "check_row" s_check_row (aa 21) fd ∧ Binds K fd ["program", "row"] []
  m_check_row : mg "check_row" = some (.ref (aa 21))
  f_levels_of : ∃ fd, Fun K "levels_of" "levels_of" s_levels_of (aa 22) fd ∧ Binds K fd ["program"] []
  m_levels_of : mg "levels_of" = some (.ref (aa 22))
  f_Books_init : ∃ fd, Fun K "__init__" "Books.__init__" s_Books_init (aa 23) fd ∧ Binds K fd ["self", "program", "level"] []
  m_Books_init : Meth K (aa 11) "__init__" (aa 23)
  f_Books_put : ∃ fd, Fun K "put" "Books.put" s_Books_put (aa 24) fd ∧ Binds K fd ["self", "place", "amount"] []
  m_Books_put : Meth K (aa 11) "put" (aa 24)
  f_Books_book : ∃ fd, Fun K "book" "Books.book" s_Books_book (aa 25) fd ∧ Binds K fd ["self", "kind"] []
  m_Books_book : Meth K (aa 11) "book" (aa 25)
  f_Books_told : ∃ fd, Fun K "told" "Books.told" s_Books_told (aa 26) fd ∧ Binds K fd ["self"] []
  m_Books_told : Meth K (aa 11) "told" (aa 26)
  f_end_at : ∃ fd, Fun K "end_at" "end_at" s_end_at (aa 27) fd ∧ Binds K fd ["program", "level", "row"] []
  m_end_at : mg "end_at" = some (.ref (aa 27))
  f_end_from : ∃ fd, Fun K "end_from" "end_from" s_end_from (aa 28) fd ∧ Binds K fd ["program", "level", "row"] []
  m_end_from : mg "end_from" = some (.ref (aa 28))
  f_first_apart : ∃ fd, Fun K "first_apart" "first_apart" s_first_apart (aa 29) fd ∧ Binds K fd ["program", "one", "other"] []
  m_first_apart : mg "first_apart" = some (.ref (aa 29))
  f_are_same : ∃ fd, Fun K "are_same" "are_same" s_are_same (aa 30) fd ∧ Binds K fd ["program", "one", "other"] []
  m_are_same : mg "are_same" = some (.ref (aa 30))
  f_kind_pairs : ∃ fd, Fun K "kind_pairs" "kind_pairs" s_kind_pairs (aa 31) fd ∧ Binds K fd ["program"] []
  m_kind_pairs : mg "kind_pairs" = some (.ref (aa 31))
  f_commuting : ∃ fd, Fun K "commuting" "commuting" s_commuting (aa 32) fd ∧ Binds K fd ["program"] []
  m_commuting : mg "commuting" = some (.ref (aa 32))
  f_u_law_number : ∃ fd, Fun K "_law_number" "_law_number" s_u_law_number (aa 33) fd ∧ Binds K fd ["cell"] []
  m_u_law_number : mg "_law_number" = some (.ref (aa 33))
  f_u_law_draws : ∃ fd, Fun K "_law_draws" "_law_draws" s_u_law_draws (aa 34) fd ∧ Binds K fd ["script"] []
  m_u_law_draws : mg "_law_draws" = some (.ref (aa 34))
  f_u_law_next : ∃ fd, Fun K "_law_next" "_law_next" s_u_law_next (aa 35) fd ∧ Binds K fd ["draws"] []
  m_u_law_next : mg "_law_next" = some (.ref (aa 35))
  f_u_law_more : ∃ fd, Fun K "_law_more" "_law_more" s_u_law_more (aa 36) fd ∧ Binds K fd ["draws", "many"] []
  m_u_law_more : mg "_law_more" = some (.ref (aa 36))
  f_u_law_pick : ∃ fd, Fun K "_law_pick" "_law_pick" s_u_law_pick (aa 37) fd ∧ Binds K fd ["draws", "some"] []
  m_u_law_pick : mg "_law_pick" = some (.ref (aa 37))
  f_u_law_kind : ∃ fd, Fun K "_law_kind" "_law_kind" s_u_law_kind (aa 38) fd ∧ Binds K fd ["error"] []
  m_u_law_kind : mg "_law_kind" = some (.ref (aa 38))
  f_u_law_program : ∃ fd, Fun K "_law_program" "_law_program" s_u_law_program (aa 39) fd ∧ Binds K fd ["draws"] []
  m_u_law_program : mg "_law_program" = some (.ref (aa 39))
  f_u_law_end : ∃ fd, Fun K "_law_end" "_law_end" s_u_law_end (aa 40) fd ∧ Binds K fd ["program", "level", "row"] []
  m_u_law_end : mg "_law_end" = some (.ref (aa 40))
  f_u_law_levels : ∃ fd, Fun K "_law_levels" "_law_levels" s_u_law_levels (aa 41) fd ∧ Binds K fd ["program"] []
  m_u_law_levels : mg "_law_levels" = some (.ref (aa 41))
  f_u_law_row : ∃ fd, Fun K "_law_row" "_law_row" s_u_law_row (aa 42) fd ∧ Binds K fd ["draws", "program", "most"] []
  m_u_law_row : mg "_law_row" = some (.ref (aa 42))
  f_u_law_account : ∃ fd, Fun K "_law_account" "_law_account" s_u_law_account (aa 43) fd ∧ Binds K fd ["low", "high"] []
  m_u_law_account : mg "_law_account" = some (.ref (aa 43))
  f_u_law_asked : ∃ fd, Fun K "_law_asked" "_law_asked" s_u_law_asked (aa 44) fd ∧ Binds K fd ["way", "program", "one", "other"] []
  m_u_law_asked : mg "_law_asked" = some (.ref (aa 44))
  f_u_law_wide : ∃ fd, Fun K "_law_wide" "_law_wide" s_u_law_wide (aa 45) fd ∧ Binds K fd ["draws", "spans"] []
  m_u_law_wide : mg "_law_wide" = some (.ref (aa 45))
  f_u_law_apart : ∃ fd, Fun K "_law_apart" "_law_apart" s_u_law_apart (aa 46) fd ∧ Binds K fd ["program", "one", "other"] []
  m_u_law_apart : mg "_law_apart" = some (.ref (aa 46))
  f_law : ∃ fd, Fun K "law" "law" s_law (aa 47) fd ∧ Binds K fd ["script"] []
  m_law : mg "law" = some (.ref (aa 47))
end K69
end TP69A

section TP69B
set_option maxRecDepth 100000
set_option maxHeartbeats 4000000
namespace K69
open PySem PySem.Spec PyProof.Rows L2 DL
section
variable {P : Program} {w : World} {K : PySem.W.Frag} {mg : Str → Option Value} {base : Heap} {aa : Nat → Addr}
theorem c_is_outlet (T : Txt K mg aa) : CalD P w K mg base aa "is_outlet" 1 (aa 12) ["outlet", "first", "last"] d_is_outlet := by
  obtain ⟨fd, F, b⟩ := T.f_is_outlet
  refine ⟨⟨fd, fn_den F sc_is_outlet (fun cdv A outer s H E hr => ?_), b⟩, T.m_is_outlet, F.kp⟩
  have nd := sc_is_outlet.nd
  exact (mb_cons (ms_asg (mv 0) (mg_tup rfl (mgs_cons (mg_name nd rfl (by first | exact .inl rfl | exact .inr rfl)) (mgs_cons (mg_name nd rfl (by first | exact .inl rfl | exact .inr rfl)) mgs_nil))))
    (mb_cons (ms_if (mt_cmp (op_eqD hr.units) eqD_ok (mv 3) (me_globC T.g_NOWHERE) (nomark _))
    (mb_one (ms_ret (me_cmp (op_eqD hr.units) eqD_ok (mv 4) me_int (nomark _))))
    mb_nil)
    (mb_one (ms_ret (me_and (me_chain (mv 1) (ch_link op_le le_ok (mv 3) (ch_last op_le le_ok (mv 2)))) (me_one (me_chain (me_neg (me_globC T.g_MOST_FACTOR)) (ch_link op_le le_ok (mv 4) (ch_last op_le le_ok (me_globC T.g_MOST_FACTOR))))))))))
theorem c_is_kind (T : Txt K mg aa) : CalD P w K mg base aa "is_kind" 1 (aa 14) ["kind", "last"] d_is_kind := by
  obtain ⟨fd, F, b⟩ := T.f_is_kind
  refine ⟨⟨fd, fn_den F sc_is_kind (fun cdv A outer s H E hr => ?_), b⟩, T.m_is_kind, F.kp⟩
  have nd := sc_is_kind.nd
  exact (mb_cons (ms_if (mt_not (mt_chain me_int (th_link op_le le_ok (me_callB cr_len len_ok rfl T.b_len PySem.boot_len (ma_cons (mv 0) ma_nil)) (th_last op_le le_ok (me_globC T.g_MOST_ENTRIES)))))
    (mb_one (ms_ret me_bl))
    mb_nil)
    (mb_one (ms_ret (me_gc (me_callB (cr_all rfl) (quant_ok _) rfl T.b_all (by decide +kernel) (ma_cons (me_lc rfl nd (mi_seq (mv 0)) (blkOk_by (own := [("place", 2), ("amount", 3)]) (N := N_is_kind) (sc := defScope s_is_kind) (by decide +kernel)) (by decide) (fun _ _ _ _ _ => (mg_tup rfl (mgs_cons (mg_name nd rfl (by first | exact .inl rfl | exact .inr rfl)) (mgs_cons (mg_name nd rfl (by first | exact .inl rfl | exact .inr rfl)) mgs_nil)))) (fun _ _ _ _ _ => mts_nil) (fun _ _ _ _ _ => (me_and (me_chain me_int (ch_link op_le le_ok (mv 2) (ch_last op_le le_ok (mv 1)))) (me_one (me_chain (me_neg (me_globC T.g_MOST_AMOUNT)) (ch_link op_le le_ok (mv 3) (ch_last op_le le_ok (me_globC T.g_MOST_AMOUNT)))))))) ma_nil))))))
theorem c_fits (T : Txt K mg aa) : CalD P w K mg base aa "fits" 1 (aa 17) ["program", "level"] d_fits := by
  obtain ⟨fd, F, b⟩ := T.f_fits
  refine ⟨⟨fd, fn_den F sc_fits (fun cdv A outer s H E hr => ?_), b⟩, T.m_fits, F.kp⟩
  have nd := sc_fits.nd
  exact (mb_cons (ms_set (i := 2) nd rfl (by first | exact .inl rfl | exact .inr rfl) (me_ix (mv 0) me_int (fun _ _ => rfl)))
    (mb_one (ms_ret (me_and (me_cmp (op_eqD hr.units) eqD_ok (me_callB cr_len len_ok rfl T.b_len PySem.boot_len (ma_cons (mv 1) ma_nil)) (me_callB cr_len len_ok rfl T.b_len PySem.boot_len (ma_cons (mv 2) ma_nil)) (nomark _)) (me_one (me_gc (me_callB (cr_all rfl) (quant_ok _) rfl T.b_all (by decide +kernel) (ma_cons (me_lc rfl nd (mi_zip (by rfl) T.b_zip (ma_cons (mv 2) (ma_cons (mv 1) ma_nil))) (blkOk_by (own := [("one", 3), ("entry", 4)]) (N := N_fits) (sc := defScope s_fits) (by decide +kernel)) (by decide) (fun _ _ _ _ _ => (mg_tup rfl (mgs_cons (mg_name nd rfl (by first | exact .inl rfl | exact .inr rfl)) (mgs_cons (mg_name nd rfl (by first | exact .inl rfl | exact .inr rfl)) mgs_nil)))) (fun _ _ _ _ _ => mts_nil) (fun _ _ _ _ _ => (me_chain (me_ix (mv 3) me_int (fun _ _ => rfl)) (ch_link op_le le_ok (mv 4) (ch_last op_le le_ok (me_ix (mv 3) me_int (fun _ _ => rfl))))))) ma_nil))))))))
theorem c_are_kinds (T : Txt K mg aa) : CalD P w K mg base aa "are_kinds" 1 (aa 20) ["program", "row"] d_are_kinds := by
  obtain ⟨fd, F, b⟩ := T.f_are_kinds
  refine ⟨⟨fd, fn_den F sc_are_kinds (fun cdv A outer s H E hr => ?_), b⟩, T.m_are_kinds, F.kp⟩
  have nd := sc_are_kinds.nd
  exact (mb_one (ms_ret (me_gc (me_callB (cr_all rfl) (quant_ok _) rfl T.b_all (by decide +kernel) (ma_cons (me_lc rfl nd (mi_seq (mv 1)) (blkOk_by (own := [("kind", 2)]) (N := N_are_kinds) (sc := defScope s_are_kinds) (by decide +kernel)) (by decide) (fun _ _ _ _ _ => (mg_name nd rfl (by first | exact .inl rfl | exact .inr rfl))) (fun _ _ _ _ _ => mts_nil) (fun _ _ _ _ _ => (me_chain me_int (ch_link op_le le_ok (mv 2) (ch_last op_lt lt_ok (me_callB cr_len len_ok rfl T.b_len PySem.boot_len (ma_cons (me_ix (mv 0) me_int (fun _ _ => rfl)) ma_nil))))))) ma_nil)))))
theorem c_levels_of (T : Txt K mg aa) : CalD P w K mg base aa "levels_of" 1 (aa 22) ["program"] d_levels_of := by
  obtain ⟨fd, F, b⟩ := T.f_levels_of
  refine ⟨⟨fd, fn_den F sc_levels_of (fun cdv A outer s H E hr => ?_), b⟩, T.m_levels_of, F.kp⟩
  have nd := sc_levels_of.nd
  exact (mb_cons (ms_set (i := 1) nd rfl (by first | exact .inl rfl | exact .inr rfl) (me_lst (ma_cons (me_tup ma_nil) ma_nil)))
    (mb_cons (ms_for (passes_of rfl) rfl (mi_seq (me_ix (mv 0) me_int (fun _ _ => rfl))) (mg_tup rfl (mgs_cons (mg_name nd rfl (by first | exact .inl rfl | exact .inr rfl)) (mgs_cons (mg_name nd rfl (by first | exact .inl rfl | exact .inr rfl)) (mgs_cons (mg_name nd rfl (by first | exact .inl rfl | exact .inr rfl)) (mgs_cons (mg_name nd rfl (by first | exact .inl rfl | exact .inr rfl)) (mgs_cons (mg_name nd rfl (by first | exact .inl rfl | exact .inr rfl)) mgs_nil))))))
    (mb_one (ms_setLc2 (i := 1) rfl nd rfl rfl (sw_true rfl rfl rfl (by decide +kernel)) (mi_seq (mv 1)) (blkOk_by (own := [("level", 5), ("entry", 6)]) (N := N_levels_of) (sc := defScope s_levels_of) (by decide +kernel)) (by decide) (by decide) (by decide) (fun _ _ _ _ _ => (mg_name nd rfl (by first | exact .inl rfl | exact .inr rfl))) (fun _ _ _ _ _ => mts_nil) (fun _ _ _ _ _ => (mi_rng2 (by rfl) T.b_range (ma_cons (mv 2) (ma_cons (me_add (mv 3) me_int) ma_nil)))) (fun _ _ _ _ _ => (mg_name nd rfl (by first | exact .inl rfl | exact .inr rfl))) (fun _ _ _ _ _ => mts_nil) (fun _ _ _ _ _ => (me_tup (ma_star (mv 5) (ma_cons (mv 6) ma_nil)))))))
    (mb_one (ms_ret (mv 1)))))
theorem c_Books_init (T : Txt K mg aa) : CalM P w K mg base aa (aa 11) "__init__" 1 (aa 23) ["self", "program", "level"] d_Books_init := by
  obtain ⟨fd, F, b⟩ := T.f_Books_init
  refine ⟨⟨fd, fn_den F sc_Books_init (fun cdv A outer s H E hr => ?_), b⟩, T.m_Books_init⟩
  have nd := sc_Books_init.nd
  exact (mb_cons (ms_fld T.c_Books.cls T.n_Books_registers (mv 0) (me_ix (mv 1) me_int (fun _ _ => rfl)))
    (mb_cons (ms_fld T.c_Books.cls T.n_Books_level (mv 0) (me_callTy call_list_of listC_ok rfl T.b_list (by decide +kernel) (ma_cons (mv 2) ma_nil)))
    (mb_one (ms_fld T.c_Books.cls T.n_Books_pay (mv 0) (me_mul (me_lst (ma_cons me_int ma_nil)) (me_ix (mv 1) me_int (fun _ _ => rfl)))))))
theorem c_Books_put (T : Txt K mg aa) : CalM P w K mg base aa (aa 11) "put" 1 (aa 24) ["self", "place", "amount"] d_Books_put := by
  obtain ⟨fd, F, b⟩ := T.f_Books_put
  refine ⟨⟨fd, fn_den F sc_Books_put (fun cdv A outer s H E hr => ?_), b⟩, T.m_Books_put⟩
  have nd := sc_Books_put.nd
  exact (mb_one (ms_while 100 (passes_of rfl) (mt_cmp (op_neD hr.units) neD_ok (mv 1) (me_globC T.g_NOWHERE) (nomark _))
    (mb_cons (ms_if (mt_cmp op_ge ge_ok (mv 1) (me_callB cr_len len_ok rfl T.b_len PySem.boot_len (ma_cons (me_fld T.c_Books.cls T.n_Books_registers (mv 0)) ma_nil)) (nomark _))
    (mb_cons (ms_augIx (me_fld T.c_Books.cls T.n_Books_pay (mv 0)) (me_sub (mv 1) (me_callB cr_len len_ok rfl T.b_len PySem.boot_len (ma_cons (me_fld T.c_Books.cls T.n_Books_registers (mv 0)) ma_nil))) (mv 2) ip_add (int0_ok (g' := fun i j => .int (i + j)) fun _ _ _ _ => rfl))
    (mb_one ms_retN))
    mb_nil)
    (mb_cons (ms_asg (me_ix (me_fld T.c_Books.cls T.n_Books_registers (mv 0)) (mv 1) (fun _ _ => rfl)) (mg_tup rfl (mgs_cons (mg_name nd rfl (by first | exact .inl rfl | exact .inr rfl)) (mgs_cons (mg_name nd rfl (by first | exact .inl rfl | exact .inr rfl)) (mgs_cons (mg_name nd rfl (by first | exact .inl rfl | exact .inr rfl)) (mgs_cons (mg_name nd rfl (by first | exact .inl rfl | exact .inr rfl)) (mgs_cons (mg_name nd rfl (by first | exact .inl rfl | exact .inr rfl)) mgs_nil)))))))
    (mb_cons (ms_set (i := 3) nd rfl (by first | exact .inl rfl | exact .inr rfl) (me_add (me_ix (me_fld T.c_Books.cls T.n_Books_level (mv 0)) (mv 1) (fun _ _ => rfl)) (mv 2)))
    (mb_cons (ms_setIx (me_fld T.c_Books.cls T.n_Books_level (mv 0)) (mv 1) (me_callB (call_max2 rfl) (two_ok _) rfl T.b_max (by decide +kernel) (ma_cons (mv 5) (ma_cons (me_callB (call_min2 rfl) (two_ok _) rfl T.b_min (by decide +kernel) (ma_cons (mv 6) (ma_cons (mv 3) ma_nil))) ma_nil))))
    (mb_cons (ms_if (mt_chain (mv 5) (th_link op_le le_ok (mv 3) (th_last op_le le_ok (mv 6))))
    (mb_one ms_retN)
    mb_nil)
    (mb_cons (ms_set (i := 4) nd rfl (by first | exact .inl rfl | exact .inr rfl) (me_ifE (mt_cmp op_gt gt_ok (mv 3) (mv 6) (nomark _)) (mv 8) (mv 9)))
    (mb_cons (ms_set (i := 2) nd rfl (by first | exact .inl rfl | exact .inr rfl) (me_mul (me_sub (mv 3) (me_ix (me_fld T.c_Books.cls T.n_Books_level (mv 0)) (mv 1) (fun _ _ => rfl))) (me_ix (mv 4) me_int (fun _ _ => rfl))))
    (mb_one (ms_set (i := 1) nd rfl (by first | exact .inl rfl | exact .inr rfl) (me_ix (mv 4) me_int (fun _ _ => rfl)))))))))))))
theorem c_Books_told (T : Txt K mg aa) : CalM P w K mg base aa (aa 11) "told" 1 (aa 26) ["self"] d_Books_told := by
  obtain ⟨fd, F, b⟩ := T.f_Books_told
  refine ⟨⟨fd, fn_den F sc_Books_told (fun cdv A outer s H E hr => ?_), b⟩, T.m_Books_told⟩
  have nd := sc_Books_told.nd
  exact (mb_one (ms_ret (me_tup (ma_cons (me_callTy call_tuple_of tupleC_ok rfl T.b_tuple (by decide +kernel) (ma_cons (me_fld T.c_Books.cls T.n_Books_level (mv 0)) ma_nil)) (ma_cons (me_callTy call_tuple_of tupleC_ok rfl T.b_tuple (by decide +kernel) (ma_cons (me_fld T.c_Books.cls T.n_Books_pay (mv 0)) ma_nil)) ma_nil)))))
theorem c_kind_pairs (T : Txt K mg aa) : CalD P w K mg base aa "kind_pairs" 1 (aa 31) ["program"] d_kind_pairs := by
  obtain ⟨fd, F, b⟩ := T.f_kind_pairs
  refine ⟨⟨fd, fn_den F sc_kind_pairs (fun cdv A outer s H E hr => ?_), b⟩, T.m_kind_pairs, F.kp⟩
  have nd := sc_kind_pairs.nd
  exact (mb_cons (ms_set (i := 1) nd rfl (by first | exact .inl rfl | exact .inr rfl) (me_callB cr_len len_ok rfl T.b_len PySem.boot_len (ma_cons (me_ix (mv 0) me_int (fun _ _ => rfl)) ma_nil)))
    (mb_one (ms_ret (me_lc2 rfl nd (mi_rng1 (by rfl) T.b_range (ma_cons (mv 1) ma_nil)) (blkOk_by (own := [("k", 2), ("l", 3)]) (N := N_kind_pairs) (sc := defScope s_kind_pairs) (by decide +kernel)) (by decide) (by decide) (by decide) (fun _ _ _ _ _ => (mg_name nd rfl (by first | exact .inl rfl | exact .inr rfl))) (fun _ _ _ _ _ => mts_nil) (fun _ _ _ _ _ => (mi_rng2 (by rfl) T.b_range (ma_cons (me_add (mv 2) me_int) (ma_cons (mv 1) ma_nil)))) (fun _ _ _ _ _ => (mg_name nd rfl (by first | exact .inl rfl | exact .inr rfl))) (fun _ _ _ _ _ => mts_nil) (fun _ _ _ _ _ => (me_tup (ma_cons (mv 2) (ma_cons (mv 3) ma_nil))))))))
theorem c_u_law_number (T : Txt K mg aa) : CalD P w K mg base aa "_law_number" 1 (aa 33) ["cell"] d_u_law_number := by
  obtain ⟨fd, F, b⟩ := T.f_u_law_number
  refine ⟨⟨fd, fn_den F sc_u_law_number (fun cdv A outer s H E hr => ?_), b⟩, T.m_u_law_number, F.kp⟩
  have nd := sc_u_law_number.nd
  exact (mb_cons (ms_if (mt_cmp op_lt lt_ok (mv 0) me_int (nomark _))
    (mb_one (ms_ret (me_sub me_int (mv 0))))
    mb_nil)
    (mb_one (ms_ret (mv 0))))
theorem c_u_law_next (T : Txt K mg aa) : CalD P w K mg base aa "_law_next" 1 (aa 35) ["draws"] d_u_law_next := by
  obtain ⟨fd, F, b⟩ := T.f_u_law_next
  refine ⟨⟨fd, fn_den F sc_u_law_next (fun cdv A outer s H E hr => ?_), b⟩, T.m_u_law_next, F.kp⟩
  have nd := sc_u_law_next.nd
  exact (mb_cons (ms_if (mt_truth (mv 0))
    (mb_one (ms_ret (me_pop (mv 0))))
    mb_nil)
    (mb_one (ms_ret me_int)))
theorem c_u_law_end (T : Txt K mg aa) : CalD P w K mg base aa "_law_end" 1 (aa 40) ["program", "level", "row"] d_u_law_end := by
  obtain ⟨fd, F, b⟩ := T.f_u_law_end
  refine ⟨⟨fd, fn_den F sc_u_law_end (fun cdv A outer s H E hr => ?_), b⟩, T.m_u_law_end, F.kp⟩
  have nd := sc_u_law_end.nd
  exact (mb_cons (ms_asg (mv 0) (mg_tup rfl (mgs_cons (mg_name nd rfl (by first | exact .inl rfl | exact .inr rfl)) (mgs_cons (mg_name nd rfl (by first | exact .inl rfl | exact .inr rfl)) (mgs_cons (mg_name nd rfl (by first | exact .inl rfl | exact .inr rfl)) mgs_nil)))))
    (mb_cons (ms_par (i := 1) (j := 7) rfl nd rfl rfl (by decide) rfl rfl (ma_cons (me_callTy call_list_of listC_ok rfl T.b_list (by decide +kernel) (ma_cons (mv 1) ma_nil)) (ma_cons (me_mul (me_lst (ma_cons me_int ma_nil)) (mv 5)) ma_nil)) (by rfl))
    (mb_cons (ms_for (passes_of rfl) rfl (mi_seq (mv 2)) (mg_name nd rfl (by first | exact .inl rfl | exact .inr rfl))
    (mb_one (ms_for (passes_of rfl) rfl (mi_seq (me_ix (mv 6) (mv 3) (fun _ _ => rfl))) (mg_tup rfl (mgs_cons (mg_name nd rfl (by first | exact .inl rfl | exact .inr rfl)) (mgs_cons (mg_name nd rfl (by first | exact .inl rfl | exact .inr rfl)) mgs_nil)))
    (mb_one (ms_for (passes_of rfl) rfl (mi_rng1 (by rfl) T.b_range (ma_cons (me_add (me_callB cr_len len_ok rfl T.b_len PySem.boot_len (ma_cons (mv 4) ma_nil)) me_int) ma_nil)) (mg_name nd rfl (by first | exact .inl rfl | exact .inr rfl))
    (mb_cons (ms_if (mt_cmp op_lt lt_ok (mv 8) me_int (nomark _))
    (mb_one ms_break)
    mb_nil)
    (mb_cons (ms_if (mt_cmp op_ge ge_ok (mv 8) (me_callB cr_len len_ok rfl T.b_len PySem.boot_len (ma_cons (mv 4) ma_nil)) (nomark _))
    (mb_cons (ms_setIx (mv 7) (me_sub (mv 8) (me_callB cr_len len_ok rfl T.b_len PySem.boot_len (ma_cons (mv 4) ma_nil))) (me_add (me_ix (mv 7) (me_sub (mv 8) (me_callB cr_len len_ok rfl T.b_len PySem.boot_len (ma_cons (mv 4) ma_nil))) (fun _ _ => rfl)) (mv 9)))
    (mb_one ms_break))
    mb_nil)
    (mb_cons (ms_asg (me_ix (mv 4) (mv 8) (fun _ _ => rfl)) (mg_tup rfl (mgs_cons (mg_name nd rfl (by first | exact .inl rfl | exact .inr rfl)) (mgs_cons (mg_name nd rfl (by first | exact .inl rfl | exact .inr rfl)) (mgs_cons (mg_name nd rfl (by first | exact .inl rfl | exact .inr rfl)) (mgs_cons (mg_name nd rfl (by first | exact .inl rfl | exact .inr rfl)) (mgs_cons (mg_name nd rfl (by first | exact .inl rfl | exact .inr rfl)) mgs_nil)))))))
    (mb_cons (ms_set (i := 11) nd rfl (by first | exact .inl rfl | exact .inr rfl) (me_add (me_ix (mv 1) (mv 8) (fun _ _ => rfl)) (mv 9)))
    (mb_cons (ms_setIx (mv 1) (mv 8) (me_callB (call_min2 rfl) (two_ok _) rfl T.b_min (by decide +kernel) (ma_cons (mv 14) (ma_cons (me_callB (call_max2 rfl) (two_ok _) rfl T.b_max (by decide +kernel) (ma_cons (mv 13) (ma_cons (mv 11) ma_nil))) ma_nil))))
    (mb_cons (ms_if (mt_chain (mv 13) (th_link op_le le_ok (mv 11) (th_last op_le le_ok (mv 14))))
    (mb_one ms_break)
    mb_nil)
    (mb_cons (ms_set (i := 12) nd rfl (by first | exact .inl rfl | exact .inr rfl) (me_ifE (mt_cmp op_gt gt_ok (mv 11) (mv 14) (nomark _)) (me_ix (mv 16) me_int (fun _ _ => rfl)) (me_ix (mv 17) me_int (fun _ _ => rfl))))
    (mb_cons (ms_set (i := 9) nd rfl (by first | exact .inl rfl | exact .inr rfl) (me_mul (me_sub (mv 11) (me_ix (mv 1) (mv 8) (fun _ _ => rfl))) (mv 12)))
    (mb_one (ms_set (i := 8) nd rfl (by first | exact .inl rfl | exact .inr rfl) (me_ifE (mt_cmp op_gt gt_ok (mv 11) (mv 14) (nomark _)) (me_ix (mv 16) me_int (fun _ _ => rfl)) (me_ix (mv 17) me_int (fun _ _ => rfl))))))))))))))))))
    (mb_one (ms_ret (me_tup (ma_cons (me_callTy call_tuple_of tupleC_ok rfl T.b_tuple (by decide +kernel) (ma_cons (mv 1) ma_nil)) (ma_cons (me_callTy call_tuple_of tupleC_ok rfl T.b_tuple (by decide +kernel) (ma_cons (mv 7) ma_nil)) ma_nil))))))))
theorem c_u_law_levels (T : Txt K mg aa) : CalD P w K mg base aa "_law_levels" 1 (aa 41) ["program"] d_u_law_levels := by
  obtain ⟨fd, F, b⟩ := T.f_u_law_levels
  refine ⟨⟨fd, fn_den F sc_u_law_levels (fun cdv A outer s H E hr => ?_), b⟩, T.m_u_law_levels, F.kp⟩
  have nd := sc_u_law_levels.nd
  exact (mb_cons (ms_set (i := 1) nd rfl (by first | exact .inl rfl | exact .inr rfl) (me_lst (ma_cons (me_tup ma_nil) ma_nil)))
    (mb_cons (ms_for (passes_of rfl) rfl (mi_seq (me_ix (mv 0) me_int (fun _ _ => rfl))) (mg_tup rfl (mgs_cons (mg_name nd rfl (by first | exact .inl rfl | exact .inr rfl)) (mgs_cons (mg_name nd rfl (by first | exact .inl rfl | exact .inr rfl)) (mgs_cons (mg_name nd rfl (by first | exact .inl rfl | exact .inr rfl)) (mgs_cons (mg_name nd rfl (by first | exact .inl rfl | exact .inr rfl)) (mgs_cons (mg_name nd rfl (by first | exact .inl rfl | exact .inr rfl)) mgs_nil))))))
    (mb_cons (ms_set (i := 7) nd rfl (by first | exact .inl rfl | exact .inr rfl) (me_lst ma_nil))
    (mb_cons (ms_for (passes_of rfl) rfl (mi_seq (mv 1)) (mg_name nd rfl (by first | exact .inl rfl | exact .inr rfl))
    (mb_one (ms_expr (me_gc (me_extend (mv 7) (ma_cons (me_lc rfl nd (mi_rng2 (by rfl) T.b_range (ma_cons (mv 2) (ma_cons (me_add (mv 3) me_int) ma_nil))) (blkOk_by (own := [("entry", 9)]) (N := N_u_law_levels) (sc := defScope s_u_law_levels) (by decide +kernel)) (by decide) (fun _ _ _ _ _ => (mg_name nd rfl (by first | exact .inl rfl | exact .inr rfl))) (fun _ _ _ _ _ => mts_nil) (fun _ _ _ _ _ => (me_add (mv 8) (me_tup (ma_cons (mv 9) ma_nil))))) ma_nil))))))
    (mb_one (ms_set (i := 1) nd rfl (by first | exact .inl rfl | exact .inr rfl) (mv 7))))))
    (mb_one (ms_ret (mv 1)))))
theorem c_u_law_account (T : Txt K mg aa) : CalD P w K mg base aa "_law_account" 1 (aa 43) ["low", "high"] d_u_law_account := by
  obtain ⟨fd, F, b⟩ := T.f_u_law_account
  refine ⟨⟨fd, fn_den F sc_u_law_account (fun cdv A outer s H E hr => ?_), b⟩, T.m_u_law_account, F.kp⟩
  have nd := sc_u_law_account.nd
  exact (mb_one (ms_ret (me_tup (ma_cons (me_tup (ma_cons (me_tup (ma_cons (mv 0) (ma_cons (mv 1) (ma_cons me_int (ma_cons (me_tup (ma_cons me_int (ma_cons me_int ma_nil))) (ma_cons (me_tup (ma_cons me_int (ma_cons me_int ma_nil))) ma_nil)))))) ma_nil)) (ma_cons me_int (ma_cons (me_tup (ma_cons (me_tup (ma_cons (me_tup (ma_cons me_int (ma_cons me_int ma_nil))) ma_nil)) (ma_cons (me_tup (ma_cons (me_tup (ma_cons me_int (ma_cons (me_neg me_int) ma_nil))) ma_nil)) ma_nil))) ma_nil))))))
theorem c_is_register (T : Txt K mg aa) (h_is_outlet : CalD P w K mg base aa "is_outlet" 1 (aa 12) ["outlet", "first", "last"] d_is_outlet) : CalD P w K mg base aa "is_register" 2 (aa 13) ["register", "at", "last"] d_is_register := by
  obtain ⟨fd, F, b⟩ := T.f_is_register
  refine ⟨⟨fd, fn_den F sc_is_register (fun cdv A outer s H E hr => ?_), b⟩, T.m_is_register, F.kp⟩
  have nd := sc_is_register.nd
  exact (mb_cons (ms_asg (mv 0) (mg_tup rfl (mgs_cons (mg_name nd rfl (by first | exact .inl rfl | exact .inr rfl)) (mgs_cons (mg_name nd rfl (by first | exact .inl rfl | exact .inr rfl)) (mgs_cons (mg_name nd rfl (by first | exact .inl rfl | exact .inr rfl)) (mgs_cons (mg_name nd rfl (by first | exact .inl rfl | exact .inr rfl)) (mgs_cons (mg_name nd rfl (by first | exact .inl rfl | exact .inr rfl)) mgs_nil)))))))
    (mb_cons (ms_if (mt_not (mt_chain (me_neg (me_globC T.g_MOST_BOUND)) (th_link op_le le_ok (mv 3) (th_link op_le le_ok (mv 5) (th_link op_le le_ok (mv 4) (th_last op_le le_ok (me_globC T.g_MOST_BOUND)))))))
    (mb_one (ms_ret me_bl))
    mb_nil)
    (mb_one (ms_ret (me_and (me_callD h_is_outlet hr (by decide) (takes_of rfl rfl rfl rfl) (ma_cons (mv 6) (ma_cons (me_add (mv 1) me_int) (ma_cons (mv 2) ma_nil)))) (me_one (me_callD h_is_outlet hr (by decide) (takes_of rfl rfl rfl rfl) (ma_cons (mv 7) (ma_cons (me_add (mv 1) me_int) (ma_cons (mv 2) ma_nil))))))))))
theorem c_check_row (T : Txt K mg aa) (h_are_kinds : CalD P w K mg base aa "are_kinds" 1 (aa 20) ["program", "row"] d_are_kinds) : CalD P w K mg base aa "check_row" 2 (aa 21) ["program", "row"] d_check_row := by
  obtain ⟨fd, F, b⟩ := T.f_check_row
  refine ⟨⟨fd, fn_den F sc_check_row (fun cdv A outer s H E hr => ?_), b⟩, T.m_check_row, F.kp⟩
  have nd := sc_check_row.nd
  exact (mb_one (ms_if (mt_not (mt_val (me_callD h_are_kinds hr (by decide) (takes_of rfl rfl rfl rfl) (ma_cons (mv 0) (ma_cons (mv 1) ma_nil)))))
    (mb_one (ms_raiseD T.e_BadNumber rfl (takes_of rfl rfl rfl rfl)))
    mb_nil))
theorem c_Books_book (T : Txt K mg aa) (h_Books_put : CalM P w K mg base aa (aa 11) "put" 1 (aa 24) ["self", "place", "amount"] d_Books_put) : CalM P w K mg base aa (aa 11) "book" 2 (aa 25) ["self", "kind"] d_Books_book := by
  obtain ⟨fd, F, b⟩ := T.f_Books_book
  refine ⟨⟨fd, fn_den F sc_Books_book (fun cdv A outer s H E hr => ?_), b⟩, T.m_Books_book⟩
  have nd := sc_Books_book.nd
  exact (mb_one (ms_for (passes_of rfl) rfl (mi_seq (mv 1)) (mg_tup rfl (mgs_cons (mg_name nd rfl (by first | exact .inl rfl | exact .inr rfl)) (mgs_cons (mg_name nd rfl (by first | exact .inl rfl | exact .inr rfl)) mgs_nil)))
    (mb_one (ms_expr (me_methD (mv 0) T.c_Books.cls h_Books_put hr (by decide) (ma_cons (mv 2) (ma_cons (mv 3) ma_nil)))))))
theorem c_u_law_draws (T : Txt K mg aa) (h_u_law_number : CalD P w K mg base aa "_law_number" 1 (aa 33) ["cell"] d_u_law_number) : CalD P w K mg base aa "_law_draws" 2 (aa 34) ["script"] d_u_law_draws := by
  obtain ⟨fd, F, b⟩ := T.f_u_law_draws
  refine ⟨⟨fd, fn_den F sc_u_law_draws (fun cdv A outer s H E hr => ?_), b⟩, T.m_u_law_draws, F.kp⟩
  have nd := sc_u_law_draws.nd
  exact (mb_cons (ms_set (i := 1) nd rfl (by first | exact .inl rfl | exact .inr rfl) (me_lst ma_nil))
    (mb_cons (ms_for (passes_of rfl) rfl (mi_seq (mv 0)) (mg_name nd rfl (by first | exact .inl rfl | exact .inr rfl))
    (mb_cons (ms_set (i := 3) nd rfl (by first | exact .inl rfl | exact .inr rfl) (me_callD h_u_law_number hr (by decide) (takes_of rfl rfl rfl rfl) (ma_cons (mv 2) ma_nil)))
    (mb_one (ms_if (mt_cmp op_ge ge_ok (mv 3) me_int (nomark _))
    (mb_one (ms_for (passes_of rfl) rfl (mi_rng1 (by rfl) T.b_range (ma_cons me_int ma_nil)) (mg_name nd rfl (by first | exact .inl rfl | exact .inr rfl))
    (mb_cons (ms_if (mt_cmp (op_eqD hr.units) eqD_ok (mv 3) me_int (nomark _))
    (mb_one ms_break)
    mb_nil)
    (mb_cons (ms_expr (me_append (mv 1) (ma_cons (me_mod (me_callTy call_int1 intC_ok rfl T.b_int (by decide +kernel) (ma_cons (mv 3) ma_nil)) me_int) ma_nil)))
    (mb_one (ms_set (i := 3) nd rfl (by first | exact .inl rfl | exact .inr rfl) (me_fdiv (mv 3) me_int)))))))
    (mb_cons (ms_set (i := 5) nd rfl (by first | exact .inl rfl | exact .inr rfl) (me_mod (me_callTy call_int1 intC_ok rfl T.b_int (by decide +kernel) (ma_cons (me_add (me_mul (mv 3) me_int) me_int) ma_nil)) me_int))
    (mb_cons (ms_set (i := 6) nd rfl (by first | exact .inl rfl | exact .inr rfl) (me_mod (me_callTy call_int1 intC_ok rfl T.b_int (by decide +kernel) (ma_cons (me_add (me_mul (mv 5) me_int) (mv 3)) ma_nil)) me_int))
    (mb_one (ms_expr (me_gc (me_extend (mv 1) (ma_cons (me_lst (ma_cons (me_mod (me_callTy call_int1 intC_ok rfl T.b_int (by decide +kernel) (ma_cons (mv 3) ma_nil)) me_int) (ma_cons (me_mod (me_callTy call_int1 intC_ok rfl T.b_int (by decide +kernel) (ma_cons (mv 5) ma_nil)) me_int) (ma_cons (me_mod (me_callTy call_int1 intC_ok rfl T.b_int (by decide +kernel) (ma_cons (mv 6) ma_nil)) me_int) ma_nil)))) ma_nil)))))))))))
    (mb_cons (ms_expr (me_reverse (mv 1)))
    (mb_one (ms_ret (mv 1))))))
theorem c_u_law_more (T : Txt K mg aa) (h_u_law_next : CalD P w K mg base aa "_law_next" 1 (aa 35) ["draws"] d_u_law_next) : CalD P w K mg base aa "_law_more" 2 (aa 36) ["draws", "many"] d_u_law_more := by
  obtain ⟨fd, F, b⟩ := T.f_u_law_more
  refine ⟨⟨fd, fn_den F sc_u_law_more (fun cdv A outer s H E hr => ?_), b⟩, T.m_u_law_more, F.kp⟩
  have nd := sc_u_law_more.nd
  exact (mb_cons (ms_set (i := 2) nd rfl (by first | exact .inl rfl | exact .inr rfl) (me_add (me_add (me_mul me_int (me_callD h_u_law_next hr (by decide) (takes_of rfl rfl rfl rfl) (ma_cons (mv 0) ma_nil))) (me_callD h_u_law_next hr (by decide) (takes_of rfl rfl rfl rfl) (ma_cons (mv 0) ma_nil))) me_int))
    (mb_cons (ms_set (i := 3) nd rfl (by first | exact .inl rfl | exact .inr rfl) (me_lst ma_nil))
    (mb_cons (ms_for (passes_of rfl) rfl (mi_rng1 (by rfl) T.b_range (ma_cons (mv 1) ma_nil)) (mg_name nd rfl (by first | exact .inl rfl | exact .inr rfl))
    (mb_cons (ms_set (i := 2) nd rfl (by first | exact .inl rfl | exact .inr rfl) (me_mod (me_callTy call_int1 intC_ok rfl T.b_int (by decide +kernel) (ma_cons (me_add (me_mul (mv 2) me_int) me_int) ma_nil)) me_int))
    (mb_one (ms_expr (me_append (mv 3) (ma_cons (me_mod (me_callTy call_int1 intC_ok rfl T.b_int (by decide +kernel) (ma_cons (me_fdiv (mv 2) me_int) ma_nil)) me_int) ma_nil))))))
    (mb_one (ms_ret (me_add (mv 3) (mv 0)))))))
theorem c_u_law_pick (T : Txt K mg aa) (h_u_law_next : CalD P w K mg base aa "_law_next" 1 (aa 35) ["draws"] d_u_law_next) : CalD P w K mg base aa "_law_pick" 2 (aa 37) ["draws", "some"] d_u_law_pick := by
  obtain ⟨fd, F, b⟩ := T.f_u_law_pick
  refine ⟨⟨fd, fn_den F sc_u_law_pick (fun cdv A outer s H E hr => ?_), b⟩, T.m_u_law_pick, F.kp⟩
  have nd := sc_u_law_pick.nd
  exact (mb_one (ms_ret (me_ix (mv 1) (me_mod (me_callTy call_int1 intC_ok rfl T.b_int (by decide +kernel) (ma_cons (me_callD h_u_law_next hr (by decide) (takes_of rfl rfl rfl rfl) (ma_cons (mv 0) ma_nil)) ma_nil)) (me_callB cr_len len_ok rfl T.b_len PySem.boot_len (ma_cons (mv 1) ma_nil))) (fun _ _ => rfl))))
theorem c_u_law_row (T : Txt K mg aa) (h_u_law_next : CalD P w K mg base aa "_law_next" 1 (aa 35) ["draws"] d_u_law_next) : CalD P w K mg base aa "_law_row" 2 (aa 42) ["draws", "program", "most"] d_u_law_row := by
  obtain ⟨fd, F, b⟩ := T.f_u_law_row
  refine ⟨⟨fd, fn_den F sc_u_law_row (fun cdv A outer s H E hr => ?_), b⟩, T.m_u_law_row, F.kp⟩
  have nd := sc_u_law_row.nd
  exact (mb_one (ms_ret (me_gc (me_callTy call_tuple_of tupleC_ok rfl T.b_tuple (by decide +kernel) (ma_cons (me_lc rfl nd (mi_rng1 (by rfl) T.b_range (ma_cons (me_mod (me_callTy call_int1 intC_ok rfl T.b_int (by decide +kernel) (ma_cons (me_callD h_u_law_next hr (by decide) (takes_of rfl rfl rfl rfl) (ma_cons (mv 0) ma_nil)) ma_nil)) (me_add (mv 2) me_int)) ma_nil)) (blkOk_by (own := [("k", 3)]) (N := N_u_law_row) (sc := defScope s_u_law_row) (by decide +kernel)) (by decide) (fun _ _ _ _ _ => (mg_name nd rfl (by first | exact .inl rfl | exact .inr rfl))) (fun _ _ _ _ _ => mts_nil) (fun _ _ _ _ _ => (me_mod (me_callTy call_int1 intC_ok rfl T.b_int (by decide +kernel) (ma_cons (me_callD h_u_law_next hr (by decide) takes0 (ma_cons (mv 0) ma_nil)) ma_nil)) (me_callB cr_len len_ok rfl T.b_len PySem.boot_len (ma_cons (me_ix (mv 1) me_int (fun _ _ => rfl)) ma_nil))))) ma_nil)))))
theorem c_u_law_apart (T : Txt K mg aa) (h_u_law_levels : CalD P w K mg base aa "_law_levels" 1 (aa 41) ["program"] d_u_law_levels) (h_u_law_end : CalD P w K mg base aa "_law_end" 1 (aa 40) ["program", "level", "row"] d_u_law_end) : CalD P w K mg base aa "_law_apart" 2 (aa 46) ["program", "one", "other"] d_u_law_apart := by
  obtain ⟨fd, F, b⟩ := T.f_u_law_apart
  refine ⟨⟨fd, fn_den F sc_u_law_apart (fun cdv A outer s H E hr => ?_), b⟩, T.m_u_law_apart, F.kp⟩
  have nd := sc_u_law_apart.nd
  exact (mb_cons (ms_for (passes_of rfl) rfl (mi_seq (me_callD h_u_law_levels hr (by decide) (takes_of rfl rfl rfl rfl) (ma_cons (mv 0) ma_nil))) (mg_name nd rfl (by first | exact .inl rfl | exact .inr rfl))
    (mb_one (ms_if (mt_cmp (op_neD hr.units) neD_ok (me_callD h_u_law_end hr (by decide) (takes_of rfl rfl rfl rfl) (ma_cons (mv 0) (ma_cons (mv 3) (ma_cons (mv 1) ma_nil)))) (me_callD h_u_law_end hr (by decide) (takes_of rfl rfl rfl rfl) (ma_cons (mv 0) (ma_cons (mv 3) (ma_cons (mv 2) ma_nil)))) (nomark _))
    (mb_one (ms_ret (mv 3)))
    mb_nil)))
    (mb_one (ms_ret me_non)))
theorem c_is_program (T : Txt K mg aa) (h_is_register : CalD P w K mg base aa "is_register" 2 (aa 13) ["register", "at", "last"] d_is_register) (h_is_kind : CalD P w K mg base aa "is_kind" 1 (aa 14) ["kind", "last"] d_is_kind) : CalD P w K mg base aa "is_program" 3 (aa 15) ["program"] d_is_program := by
  obtain ⟨fd, F, b⟩ := T.f_is_program
  refine ⟨⟨fd, fn_den F sc_is_program (fun cdv A outer s H E hr => ?_), b⟩, T.m_is_program, F.kp⟩
  have nd := sc_is_program.nd
  exact (mb_cons (ms_asg (mv 0) (mg_tup rfl (mgs_cons (mg_name nd rfl (by first | exact .inl rfl | exact .inr rfl)) (mgs_cons (mg_name nd rfl (by first | exact .inl rfl | exact .inr rfl)) (mgs_cons (mg_name nd rfl (by first | exact .inl rfl | exact .inr rfl)) mgs_nil)))))
    (mb_cons (ms_if (mw_pt (mw_or (mt_cmp op_gt gt_ok (me_callB cr_len len_ok rfl T.b_len PySem.boot_len (ma_cons (mv 3) ma_nil)) (me_globC T.g_MOST_REGISTERS) (nomark _)) (mw_or (mt_not (mt_chain me_int (th_link op_le le_ok (mv 4) (th_last op_le le_ok (me_globC T.g_MOST_PURSES))))) (mw_or1 (mt_not (mt_chain me_int (th_link op_le le_ok (me_callB cr_len len_ok rfl T.b_len PySem.boot_len (ma_cons (mv 5) ma_nil)) (th_last op_le le_ok (me_globC T.g_MOST_KINDS)))))))))
    (mb_one (ms_ret me_bl))
    mb_nil)
    (mb_cons (ms_set (i := 1) nd rfl (by first | exact .inl rfl | exact .inr rfl) (me_sub (me_add (me_callB cr_len len_ok rfl T.b_len PySem.boot_len (ma_cons (mv 3) ma_nil)) (mv 4)) me_int))
    (mb_cons (ms_if (mt_not (mt_val (me_gc (me_callB (cr_all rfl) (quant_ok _) rfl T.b_all (by decide +kernel) (ma_cons (me_lc rfl nd (mi_enum (by rfl) T.b_enumerate (ma_cons (mv 3) ma_nil)) (blkOk_by (own := [("at", 10), ("register", 11)]) (N := N_is_program) (sc := defScope s_is_program) (by decide +kernel)) (by decide) (fun _ _ _ _ _ => (mg_tup rfl (mgs_cons (mg_name nd rfl (by first | exact .inl rfl | exact .inr rfl)) (mgs_cons (mg_name nd rfl (by first | exact .inl rfl | exact .inr rfl)) mgs_nil)))) (fun _ _ _ _ _ => mts_nil) (fun _ _ _ _ _ => (me_callD h_is_register hr (by decide) takes0 (ma_cons (mv 11) (ma_cons (mv 10) (ma_cons (mv 1) ma_nil)))))) ma_nil)))))
    (mb_one (ms_ret me_bl))
    mb_nil)
    (mb_cons (ms_set (i := 2) nd rfl (by first | exact .inl rfl | exact .inr rfl) me_int)
    (mb_cons (ms_for (passes_of rfl) rfl (mi_seq (mv 3)) (mg_tup rfl (mgs_cons (mg_name nd rfl (by first | exact .inl rfl | exact .inr rfl)) (mgs_cons (mg_name nd rfl (by first | exact .inl rfl | exact .inr rfl)) (mgs_cons (mg_name nd rfl (by first | exact .inl rfl | exact .inr rfl)) (mgs_cons (mg_name nd rfl (by first | exact .inl rfl | exact .inr rfl)) (mgs_cons (mg_name nd rfl (by first | exact .inl rfl | exact .inr rfl)) mgs_nil))))))
    (mb_one (ms_aug (i := 2) nd rfl (by first | exact .inl rfl | exact .inr rfl) (me_add (me_sub (mv 7) (mv 6)) me_int) ip_mul (int_ok fun _ _ _ _ => rfl))))
    (mb_one (ms_ret (me_and (me_cmp op_le le_ok (mv 2) (me_globC T.g_MOST_LEVELS) (nomark _)) (me_one (me_gc (me_callB (cr_all rfl) (quant_ok _) rfl T.b_all (by decide +kernel) (ma_cons (me_lc rfl nd (mi_seq (mv 5)) (blkOk_by (own := [("kind", 9)]) (N := N_is_program) (sc := defScope s_is_program) (by decide +kernel)) (by decide) (fun _ _ _ _ _ => (mg_name nd rfl (by first | exact .inl rfl | exact .inr rfl))) (fun _ _ _ _ _ => mts_nil) (fun _ _ _ _ _ => (me_callD h_is_kind hr (by decide) takes0 (ma_cons (mv 9) (ma_cons (mv 1) ma_nil))))) ma_nil)))))))))))))
theorem c_end_at (T : Txt K mg aa) (h_Books_init : CalM P w K mg base aa (aa 11) "__init__" 1 (aa 23) ["self", "program", "level"] d_Books_init) (h_Books_told : CalM P w K mg base aa (aa 11) "told" 1 (aa 26) ["self"] d_Books_told) (h_Books_book : CalM P w K mg base aa (aa 11) "book" 2 (aa 25) ["self", "kind"] d_Books_book) : CalD P w K mg base aa "end_at" 3 (aa 27) ["program", "level", "row"] d_end_at := by
  obtain ⟨fd, F, b⟩ := T.f_end_at
  refine ⟨⟨fd, fn_den F sc_end_at (fun cdv A outer s H E hr => ?_), b⟩, T.m_end_at, F.kp⟩
  have nd := sc_end_at.nd
  exact (mb_cons (ms_set (i := 3) nd rfl (by first | exact .inl rfl | exact .inr rfl) (me_makeD T.c_Books h_Books_init hr (by decide) (ma_cons (mv 0) (ma_cons (mv 1) ma_nil))))
    (mb_cons (ms_for (passes_of rfl) rfl (mi_seq (mv 2)) (mg_name nd rfl (by first | exact .inl rfl | exact .inr rfl))
    (mb_one (ms_expr (me_methD (mv 3) T.c_Books.cls h_Books_book hr (by decide) (ma_cons (me_ix (me_ix (mv 0) me_int (fun _ _ => rfl)) (mv 4) (fun _ _ => rfl)) ma_nil)))))
    (mb_one (ms_ret (me_methD0 (mv 3) T.c_Books.cls h_Books_told hr (by decide))))))
theorem c_u_law_program (T : Txt K mg aa) (h_u_law_pick : CalD P w K mg base aa "_law_pick" 2 (aa 37) ["draws", "some"] d_u_law_pick) (h_u_law_next : CalD P w K mg base aa "_law_next" 1 (aa 35) ["draws"] d_u_law_next) : CalD P w K mg base aa "_law_program" 3 (aa 39) ["draws"] d_u_law_program := by
  obtain ⟨fd, F, b⟩ := T.f_u_law_program
  refine ⟨⟨fd, fn_den F sc_u_law_program (fun cdv A outer s H E hr => ?_), b⟩, T.m_u_law_program, F.kp⟩
  have nd := sc_u_law_program.nd
  exact (mb_cons (ms_set (i := 1) nd rfl (by first | exact .inl rfl | exact .inr rfl) (me_gc (me_callD h_u_law_pick hr (by decide) (takes_of rfl rfl rfl rfl) (ma_cons (mv 0) (ma_cons (me_lst (ma_cons me_int (ma_cons me_int (ma_cons me_int (ma_cons me_int (ma_cons me_int (ma_cons me_int (ma_cons me_int ma_nil)))))))) ma_nil)))))
    (mb_cons (ms_set (i := 2) nd rfl (by first | exact .inl rfl | exact .inr rfl) (me_gc (me_callD h_u_law_pick hr (by decide) (takes_of rfl rfl rfl rfl) (ma_cons (mv 0) (ma_cons (me_lst (ma_cons me_int (ma_cons me_int (ma_cons me_int (ma_cons me_int ma_nil))))) ma_nil)))))
    (mb_cons (ms_set (i := 3) nd rfl (by first | exact .inl rfl | exact .inr rfl) (me_gc (me_ix (me_lst (ma_cons me_int (ma_cons me_int (ma_cons me_int (ma_cons me_int ma_nil))))) (mv 1) (fun _ _ => rfl))))
    (mb_cons (ms_set (i := 4) nd rfl (by first | exact .inl rfl | exact .inr rfl) (me_lst ma_nil))
    (mb_cons (ms_for (passes_of rfl) rfl (mi_rng1 (by rfl) T.b_range (ma_cons (mv 1) ma_nil)) (mg_name nd rfl (by first | exact .inl rfl | exact .inr rfl))
    (mb_cons (ms_par (i := 13) (j := 14) rfl nd rfl rfl (by decide) rfl rfl (ma_cons (me_sub me_int (me_mod (me_callTy call_int1 intC_ok rfl T.b_int (by decide +kernel) (ma_cons (me_callD h_u_law_next hr (by decide) (takes_of rfl rfl rfl rfl) (ma_cons (mv 0) ma_nil)) ma_nil)) me_int)) (ma_cons (me_mod (me_callTy call_int1 intC_ok rfl T.b_int (by decide +kernel) (ma_cons (me_callD h_u_law_next hr (by decide) (takes_of rfl rfl rfl rfl) (ma_cons (mv 0) ma_nil)) ma_nil)) (mv 3)) ma_nil)) (by rfl))
    (mb_cons (ms_set (i := 8) nd rfl (by first | exact .inl rfl | exact .inr rfl) (me_add (mv 13) (me_mod (me_callTy call_int1 intC_ok rfl T.b_int (by decide +kernel) (ma_cons (me_callD h_u_law_next hr (by decide) (takes_of rfl rfl rfl rfl) (ma_cons (mv 0) ma_nil)) ma_nil)) (me_add (me_sub (mv 14) (mv 13)) me_int))))
    (mb_cons (ms_set (i := 9) nd rfl (by first | exact .inl rfl | exact .inr rfl) (me_lst ma_nil))
    (mb_cons (ms_for (passes_of rfl) rfl (mi_rng1 (by rfl) T.b_range (ma_cons me_int ma_nil)) (mg_name nd rfl (by first | exact .inl rfl | exact .inr rfl))
    (mb_cons (ms_set (i := 15) nd rfl (by first | exact .inl rfl | exact .inr rfl) (me_gc (me_callD h_u_law_pick hr (by decide) (takes_of rfl rfl rfl rfl) (ma_cons (mv 0) (ma_cons (me_add (me_lst (ma_cons (me_neg me_int) ma_nil)) (me_listRg2 rfl rfl T.b_list rfl T.b_range (me_add (mv 5) me_int) (me_add (mv 1) (mv 2)))) ma_nil)))))
    (mb_one (ms_expr (me_append (mv 9) (ma_cons (me_tup (ma_cons (mv 15) (ma_cons (me_ifE (mt_cmp op_lt lt_ok (mv 15) me_int (nomark _)) me_int (me_sub (me_mod (me_callTy call_int1 intC_ok rfl T.b_int (by decide +kernel) (ma_cons (me_callD h_u_law_next hr (by decide) (takes_of rfl rfl rfl rfl) (ma_cons (mv 0) ma_nil)) ma_nil)) me_int) me_int)) ma_nil))) ma_nil))))))
    (mb_one (ms_expr (me_append (mv 4) (ma_cons (me_tup (ma_cons (mv 13) (ma_cons (mv 14) (ma_cons (mv 8) (ma_cons (me_ix (mv 9) me_int (fun _ _ => rfl)) (ma_cons (me_ix (mv 9) me_int (fun _ _ => rfl)) ma_nil)))))) ma_nil)))))))))
    (mb_cons (ms_set (i := 6) nd rfl (by first | exact .inl rfl | exact .inr rfl) (me_gc (me_callD h_u_law_pick hr (by decide) (takes_of rfl rfl rfl rfl) (ma_cons (mv 0) (ma_cons (me_lst (ma_cons (me_tup (ma_cons me_int (ma_cons me_int ma_nil))) (ma_cons (me_tup (ma_cons (me_neg me_int) (ma_cons me_int ma_nil))) (ma_cons (me_tup (ma_cons (me_neg me_int) (ma_cons me_int ma_nil))) (ma_cons (me_tup (ma_cons (me_neg me_int) (ma_cons me_int ma_nil))) ma_nil))))) ma_nil)))))
    (mb_cons (ms_set (i := 7) nd rfl (by first | exact .inl rfl | exact .inr rfl) (me_lst ma_nil))
    (mb_cons (ms_for (passes_of rfl) rfl (mi_rng1 (by rfl) T.b_range (ma_cons (me_add me_int (me_mod (me_callTy call_int1 intC_ok rfl T.b_int (by decide +kernel) (ma_cons (me_callD h_u_law_next hr (by decide) (takes_of rfl rfl rfl rfl) (ma_cons (mv 0) ma_nil)) ma_nil)) me_int)) ma_nil)) (mg_name nd rfl (by first | exact .inl rfl | exact .inr rfl))
    (mb_cons (ms_set (i := 11) nd rfl (by first | exact .inl rfl | exact .inr rfl) (me_lst ma_nil))
    (mb_cons (ms_for (passes_of rfl) rfl (mi_rng1 (by rfl) T.b_range (ma_cons (me_gc (me_callD h_u_law_pick hr (by decide) (takes_of rfl rfl rfl rfl) (ma_cons (mv 0) (ma_cons (me_lst (ma_cons me_int (ma_cons me_int (ma_cons me_int (ma_cons me_int ma_nil))))) ma_nil)))) ma_nil)) (mg_name nd rfl (by first | exact .inl rfl | exact .inr rfl))
    (mb_one (ms_expr (me_append (mv 11) (ma_cons (me_tup (ma_cons (me_mod (me_callTy call_int1 intC_ok rfl T.b_int (by decide +kernel) (ma_cons (me_callD h_u_law_next hr (by decide) (takes_of rfl rfl rfl rfl) (ma_cons (mv 0) ma_nil)) ma_nil)) (me_add (mv 1) (mv 2))) (ma_cons (me_add (me_ix (mv 6) me_int (fun _ _ => rfl)) (me_mod (me_callTy call_int1 intC_ok rfl T.b_int (by decide +kernel) (ma_cons (me_callD h_u_law_next hr (by decide) (takes_of rfl rfl rfl rfl) (ma_cons (mv 0) ma_nil)) ma_nil)) (me_ix (mv 6) me_int (fun _ _ => rfl)))) ma_nil))) ma_nil)))))
    (mb_one (ms_expr (me_append (mv 7) (ma_cons (me_callTy call_tuple_of tupleC_ok rfl T.b_tuple (by decide +kernel) (ma_cons (mv 11) ma_nil)) ma_nil)))))))
    (mb_one (ms_ret (me_tup (ma_cons (me_callTy call_tuple_of tupleC_ok rfl T.b_tuple (by decide +kernel) (ma_cons (mv 4) ma_nil)) (ma_cons (mv 2) (ma_cons (me_callTy call_tuple_of tupleC_ok rfl T.b_tuple (by decide +kernel) (ma_cons (mv 7) ma_nil)) ma_nil))))))))))))))
theorem c_u_law_wide (T : Txt K mg aa) (h_u_law_pick : CalD P w K mg base aa "_law_pick" 2 (aa 37) ["draws", "some"] d_u_law_pick) (h_u_law_next : CalD P w K mg base aa "_law_next" 1 (aa 35) ["draws"] d_u_law_next) : CalD P w K mg base aa "_law_wide" 3 (aa 45) ["draws", "spans"] d_u_law_wide := by
  obtain ⟨fd, F, b⟩ := T.f_u_law_wide
  refine ⟨⟨fd, fn_den F sc_u_law_wide (fun cdv A outer s H E hr => ?_), b⟩, T.m_u_law_wide, F.kp⟩
  have nd := sc_u_law_wide.nd
  exact (mb_cons (ms_set (i := 2) nd rfl (by first | exact .inl rfl | exact .inr rfl) (me_gc (me_callD h_u_law_pick hr (by decide) (takes_of rfl rfl rfl rfl) (ma_cons (mv 0) (ma_cons (me_lst (ma_cons me_int (ma_cons me_int (ma_cons me_int (ma_cons me_int ma_nil))))) ma_nil)))))
    (mb_cons (ms_set (i := 3) nd rfl (by first | exact .inl rfl | exact .inr rfl) (me_add me_int (me_mod (me_callTy call_int1 intC_ok rfl T.b_int (by decide +kernel) (ma_cons (me_callD h_u_law_next hr (by decide) (takes_of rfl rfl rfl rfl) (ma_cons (mv 0) ma_nil)) ma_nil)) me_int)))
    (mb_cons (ms_set (i := 4) nd rfl (by first | exact .inl rfl | exact .inr rfl) (me_lst ma_nil))
    (mb_cons (ms_for (passes_of rfl) rfl (mi_rng1 (by rfl) T.b_range (ma_cons (mv 2) ma_nil)) (mg_name nd rfl (by first | exact .inl rfl | exact .inr rfl))
    (mb_cons (ms_set (i := 7) nd rfl (by first | exact .inl rfl | exact .inr rfl) (me_sub (me_mod (me_callTy call_int1 intC_ok rfl T.b_int (by decide +kernel) (ma_cons (me_callD h_u_law_next hr (by decide) (takes_of rfl rfl rfl rfl) (ma_cons (mv 0) ma_nil)) ma_nil)) me_int) me_int))
    (mb_cons (ms_set (i := 8) nd rfl (by first | exact .inl rfl | exact .inr rfl) (me_callB (call_min2 rfl) (two_ok _) rfl T.b_min (by decide +kernel) (ma_cons me_int (ma_cons (me_add (mv 7) (me_mod (me_callTy call_int1 intC_ok rfl T.b_int (by decide +kernel) (ma_cons (me_callD h_u_law_next hr (by decide) (takes_of rfl rfl rfl rfl) (ma_cons (mv 0) ma_nil)) ma_nil)) (me_ix (mv 1) (me_sub (mv 2) me_int) (fun _ _ => rfl)))) ma_nil))))
    (mb_cons (ms_set (i := 9) nd rfl (by first | exact .inl rfl | exact .inr rfl) (me_add (mv 7) (me_mod (me_callTy call_int1 intC_ok rfl T.b_int (by decide +kernel) (ma_cons (me_callD h_u_law_next hr (by decide) (takes_of rfl rfl rfl rfl) (ma_cons (mv 0) ma_nil)) ma_nil)) (me_add (me_sub (mv 8) (mv 7)) me_int))))
    (mb_cons (ms_set (i := 10) nd rfl (by first | exact .inl rfl | exact .inr rfl) (me_lst ma_nil))
    (mb_cons (ms_for (passes_of rfl) rfl (mi_rng1 (by rfl) T.b_range (ma_cons me_int ma_nil)) (mg_name nd rfl (by first | exact .inl rfl | exact .inr rfl))
    (mb_cons (ms_set (i := 12) nd rfl (by first | exact .inl rfl | exact .inr rfl) (me_gc (me_callD h_u_law_pick hr (by decide) (takes_of rfl rfl rfl rfl) (ma_cons (mv 0) (ma_cons (me_add (me_lst (ma_cons (me_neg me_int) ma_nil)) (me_listRg2 rfl rfl T.b_list rfl T.b_range (me_add (mv 5) me_int) (me_add (mv 2) (mv 3)))) ma_nil)))))
    (mb_one (ms_expr (me_append (mv 10) (ma_cons (me_tup (ma_cons (mv 12) (ma_cons (me_ifE (mt_cmp op_lt lt_ok (mv 12) me_int (nomark _)) me_int (me_sub (me_mod (me_callTy call_int1 intC_ok rfl T.b_int (by decide +kernel) (ma_cons (me_callD h_u_law_next hr (by decide) (takes_of rfl rfl rfl rfl) (ma_cons (mv 0) ma_nil)) ma_nil)) me_int) me_int)) ma_nil))) ma_nil))))))
    (mb_one (ms_expr (me_append (mv 4) (ma_cons (me_tup (ma_cons (mv 7) (ma_cons (mv 8) (ma_cons (mv 9) (ma_cons (me_ix (mv 10) me_int (fun _ _ => rfl)) (ma_cons (me_ix (mv 10) me_int (fun _ _ => rfl)) ma_nil)))))) ma_nil))))))))))
    (mb_cons (ms_set (i := 6) nd rfl (by first | exact .inl rfl | exact .inr rfl) (me_lst ma_nil))
    (mb_cons (ms_for (passes_of rfl) rfl (mi_rng1 (by rfl) T.b_range (ma_cons (me_add me_int (me_mod (me_callTy call_int1 intC_ok rfl T.b_int (by decide +kernel) (ma_cons (me_callD h_u_law_next hr (by decide) (takes_of rfl rfl rfl rfl) (ma_cons (mv 0) ma_nil)) ma_nil)) me_int)) ma_nil)) (mg_name nd rfl (by first | exact .inl rfl | exact .inr rfl))
    (mb_one (ms_expr (me_gc (me_append (mv 6) (ma_cons (me_gc (me_callTy call_tuple_of tupleC_ok rfl T.b_tuple (by decide +kernel) (ma_cons (me_lc rfl nd (mi_rng1 (by rfl) T.b_range (ma_cons (me_add me_int (me_mod (me_callTy call_int1 intC_ok rfl T.b_int (by decide +kernel) (ma_cons (me_callD h_u_law_next hr (by decide) (takes_of rfl rfl rfl rfl) (ma_cons (mv 0) ma_nil)) ma_nil)) me_int)) ma_nil)) (blkOk_by (own := [("turn", 13)]) (N := N_u_law_wide) (sc := defScope s_u_law_wide) (by decide +kernel)) (by decide) (fun _ _ _ _ _ => (mg_name nd rfl (by first | exact .inl rfl | exact .inr rfl))) (fun _ _ _ _ _ => mts_nil) (fun _ _ _ _ _ => (me_tup (ma_cons (me_mod (me_callTy call_int1 intC_ok rfl T.b_int (by decide +kernel) (ma_cons (me_callD h_u_law_next hr (by decide) takes0 (ma_cons (mv 0) ma_nil)) ma_nil)) (me_add (mv 2) (mv 3))) (ma_cons (me_sub (me_mod (me_callTy call_int1 intC_ok rfl T.b_int (by decide +kernel) (ma_cons (me_callD h_u_law_next hr (by decide) takes0 (ma_cons (mv 0) ma_nil)) ma_nil)) me_int) me_int) ma_nil))))) ma_nil))) ma_nil))))))
    (mb_one (ms_ret (me_tup (ma_cons (me_callTy call_tuple_of tupleC_ok rfl T.b_tuple (by decide +kernel) (ma_cons (mv 4) ma_nil)) (ma_cons (mv 3) (ma_cons (me_callTy call_tuple_of tupleC_ok rfl T.b_tuple (by decide +kernel) (ma_cons (mv 6) ma_nil)) ma_nil))))))))))))
theorem c_check_program (T : Txt K mg aa) (h_is_program : CalD P w K mg base aa "is_program" 3 (aa 15) ["program"] d_is_program) : CalD P w K mg base aa "check_program" 4 (aa 16) ["program"] d_check_program := by
  obtain ⟨fd, F, b⟩ := T.f_check_program
  refine ⟨⟨fd, fn_den F sc_check_program (fun cdv A outer s H E hr => ?_), b⟩, T.m_check_program, F.kp⟩
  have nd := sc_check_program.nd
  exact (mb_one (ms_if (mt_not (mt_val (me_callD h_is_program hr (by decide) (takes_of rfl rfl rfl rfl) (ma_cons (mv 0) ma_nil))))
    (mb_one (ms_raiseD T.e_NotProgram rfl (takes_of rfl rfl rfl rfl)))
    mb_nil))
theorem c_is_level (T : Txt K mg aa) (h_check_program : CalD P w K mg base aa "check_program" 4 (aa 16) ["program"] d_check_program) (h_fits : CalD P w K mg base aa "fits" 1 (aa 17) ["program", "level"] d_fits) : CalD P w K mg base aa "is_level" 5 (aa 18) ["program", "level"] d_is_level := by
  obtain ⟨fd, F, b⟩ := T.f_is_level
  refine ⟨⟨fd, fn_den F sc_is_level (fun cdv A outer s H E hr => ?_), b⟩, T.m_is_level, F.kp⟩
  have nd := sc_is_level.nd
  exact (mb_cons (ms_expr (me_callD h_check_program hr (by decide) (takes_of rfl rfl rfl rfl) (ma_cons (mv 0) ma_nil)))
    (mb_one (ms_ret (me_callD h_fits hr (by decide) (takes_of rfl rfl rfl rfl) (ma_cons (mv 0) (ma_cons (mv 1) ma_nil))))))
theorem c_first_apart (T : Txt K mg aa) (h_check_program : CalD P w K mg base aa "check_program" 4 (aa 16) ["program"] d_check_program) (h_check_row : CalD P w K mg base aa "check_row" 2 (aa 21) ["program", "row"] d_check_row) (h_levels_of : CalD P w K mg base aa "levels_of" 1 (aa 22) ["program"] d_levels_of) (h_end_at : CalD P w K mg base aa "end_at" 3 (aa 27) ["program", "level", "row"] d_end_at) : CalD P w K mg base aa "first_apart" 5 (aa 29) ["program", "one", "other"] d_first_apart := by
  obtain ⟨fd, F, b⟩ := T.f_first_apart
  refine ⟨⟨fd, fn_den F sc_first_apart (fun cdv A outer s H E hr => ?_), b⟩, T.m_first_apart, F.kp⟩
  have nd := sc_first_apart.nd
  exact (mb_cons (ms_expr (me_callD h_check_program hr (by decide) (takes_of rfl rfl rfl rfl) (ma_cons (mv 0) ma_nil)))
    (mb_cons (ms_expr (me_callD h_check_row hr (by decide) (takes_of rfl rfl rfl rfl) (ma_cons (mv 0) (ma_cons (mv 1) ma_nil))))
    (mb_cons (ms_expr (me_callD h_check_row hr (by decide) (takes_of rfl rfl rfl rfl) (ma_cons (mv 0) (ma_cons (mv 2) ma_nil))))
    (mb_cons (ms_for (passes_of rfl) rfl (mi_seq (me_callD h_levels_of hr (by decide) (takes_of rfl rfl rfl rfl) (ma_cons (mv 0) ma_nil))) (mg_name nd rfl (by first | exact .inl rfl | exact .inr rfl))
    (mb_one (ms_if (mt_cmp (op_neD hr.units) neD_ok (me_callD h_end_at hr (by decide) (takes_of rfl rfl rfl rfl) (ma_cons (mv 0) (ma_cons (mv 3) (ma_cons (mv 1) ma_nil)))) (me_callD h_end_at hr (by decide) (takes_of rfl rfl rfl rfl) (ma_cons (mv 0) (ma_cons (mv 3) (ma_cons (mv 2) ma_nil)))) (nomark _))
    (mb_one (ms_ret (mv 3)))
    mb_nil)))
    (mb_one (ms_ret me_non))))))
theorem c_check_level (T : Txt K mg aa) (h_is_level : CalD P w K mg base aa "is_level" 5 (aa 18) ["program", "level"] d_is_level) : CalD P w K mg base aa "check_level" 6 (aa 19) ["program", "level"] d_check_level := by
  obtain ⟨fd, F, b⟩ := T.f_check_level
  refine ⟨⟨fd, fn_den F sc_check_level (fun cdv A outer s H E hr => ?_), b⟩, T.m_check_level, F.kp⟩
  have nd := sc_check_level.nd
  exact (mb_one (ms_if (mt_not (mt_val (me_callD h_is_level hr (by decide) (takes_of rfl rfl rfl rfl) (ma_cons (mv 0) (ma_cons (mv 1) ma_nil)))))
    (mb_one (ms_raiseD T.e_BadNumber rfl (takes_of rfl rfl rfl rfl)))
    mb_nil))
theorem c_are_same (T : Txt K mg aa) (h_first_apart : CalD P w K mg base aa "first_apart" 5 (aa 29) ["program", "one", "other"] d_first_apart) : CalD P w K mg base aa "are_same" 6 (aa 30) ["program", "one", "other"] d_are_same := by
  obtain ⟨fd, F, b⟩ := T.f_are_same
  refine ⟨⟨fd, fn_den F sc_are_same (fun cdv A outer s H E hr => ?_), b⟩, T.m_are_same, F.kp⟩
  have nd := sc_are_same.nd
  exact (mb_one (ms_ret (me_cmp op_is (is_ok false) (me_callD h_first_apart hr (by decide) (takes_of rfl rfl rfl rfl) (ma_cons (mv 0) (ma_cons (mv 1) (ma_cons (mv 2) ma_nil)))) me_non (nomark _))))
theorem c_commuting (T : Txt K mg aa) (h_check_program : CalD P w K mg base aa "check_program" 4 (aa 16) ["program"] d_check_program) (h_kind_pairs : CalD P w K mg base aa "kind_pairs" 1 (aa 31) ["program"] d_kind_pairs) (h_first_apart : CalD P w K mg base aa "first_apart" 5 (aa 29) ["program", "one", "other"] d_first_apart) : CalD P w K mg base aa "commuting" 6 (aa 32) ["program"] d_commuting := by
  obtain ⟨fd, F, b⟩ := T.f_commuting
  refine ⟨⟨fd, fn_den F sc_commuting (fun cdv A outer s H E hr => ?_), b⟩, T.m_commuting, F.kp⟩
  have nd := sc_commuting.nd
  exact (mb_cons (ms_expr (me_callD h_check_program hr (by decide) (takes_of rfl rfl rfl rfl) (ma_cons (mv 0) ma_nil)))
    (mb_one (ms_ret (me_lc rfl nd (mi_seq (me_callD h_kind_pairs hr (by decide) (takes_of rfl rfl rfl rfl) (ma_cons (mv 0) ma_nil))) (blkOk_by (own := [("k", 1), ("l", 2)]) (N := N_commuting) (sc := defScope s_commuting) (by decide +kernel)) (by decide) (fun _ _ _ _ _ => (mg_tup rfl (mgs_cons (mg_name nd rfl (by first | exact .inl rfl | exact .inr rfl)) (mgs_cons (mg_name nd rfl (by first | exact .inl rfl | exact .inr rfl)) mgs_nil)))) (fun _ _ _ _ _ => (mts_one (mt_cmp op_is (is_ok false) (me_callD h_first_apart hr (by decide) takes0 (ma_cons (mv 0) (ma_cons (me_tup (ma_cons (mv 1) (ma_cons (mv 2) ma_nil))) (ma_cons (me_tup (ma_cons (mv 2) (ma_cons (mv 1) ma_nil))) ma_nil)))) me_non (nomark _)))) (fun _ _ _ _ _ => (me_tup (ma_cons (mv 1) (ma_cons (mv 2) ma_nil))))))))
theorem c_end_from (T : Txt K mg aa) (h_check_level : CalD P w K mg base aa "check_level" 6 (aa 19) ["program", "level"] d_check_level) (h_check_row : CalD P w K mg base aa "check_row" 2 (aa 21) ["program", "row"] d_check_row) (h_end_at : CalD P w K mg base aa "end_at" 3 (aa 27) ["program", "level", "row"] d_end_at) : CalD P w K mg base aa "end_from" 7 (aa 28) ["program", "level", "row"] d_end_from := by
  obtain ⟨fd, F, b⟩ := T.f_end_from
  refine ⟨⟨fd, fn_den F sc_end_from (fun cdv A outer s H E hr => ?_), b⟩, T.m_end_from, F.kp⟩
  have nd := sc_end_from.nd
  exact (mb_cons (ms_expr (me_callD h_check_level hr (by decide) (takes_of rfl rfl rfl rfl) (ma_cons (mv 0) (ma_cons (mv 1) ma_nil))))
    (mb_cons (ms_expr (me_callD h_check_row hr (by decide) (takes_of rfl rfl rfl rfl) (ma_cons (mv 0) (ma_cons (mv 2) ma_nil))))
    (mb_one (ms_ret (me_callD h_end_at hr (by decide) (takes_of rfl rfl rfl rfl) (ma_cons (mv 0) (ma_cons (mv 1) (ma_cons (mv 2) ma_nil))))))))
end
end K69
end TP69B

section TP69C
set_option maxRecDepth 100000
set_option maxHeartbeats 4000000
namespace K69
open PySem PySem.Spec PyProof.Rows L2 DL
open L2H (RoomH PinOk cxH roomH_of)
/-- the errors, as _law_kind asks them -/
structure TxK (K : PySem.W.Frag) (mg : Str → Option Value) (aa : Nat → Addr) : Prop where
  b_isi : mg "isinstance" = none
  g0 : mg "HoursError" = some (.ref (aa 0))
  g1 : mg "NotCalendar" = some (.ref (aa 1))
  g2 : mg "NotDuties" = some (.ref (aa 2))
  g3 : mg "NotRule" = some (.ref (aa 3))
  g4 : mg "NotRoster" = some (.ref (aa 4))
  g5 : mg "NotDemand" = some (.ref (aa 5))
  g6 : mg "NotProgram" = some (.ref (aa 6))
  g7 : mg "NotPaper" = some (.ref (aa 7))
  g8 : mg "BadNumber" = some (.ref (aa 8))
  g9 : mg "NoAnswer" = some (.ref (aa 9))
  g10 : mg "TooLarge" = some (.ref (aa 10))
  x6 : ExcC K (aa 6)
  x8 : ExcC K (aa 8)
  m6 : PySem.W.exmOne K (.ref (aa 6)) (.ref (aa 0)) = some true
  m8 : PySem.W.exmOne K (.ref (aa 8)) (.ref (aa 0)) = some true
  k6 : ∀ c ∈ [1, 2, 3, 4, 5, 6, 7, 8, 9, 10], PySem.W.kitOne K (.ref (aa 6)) (.ref (aa c)) = some (decide (c = 6))
  k8 : ∀ c ∈ [1, 2, 3, 4, 5, 6, 7, 8, 9, 10], PySem.W.kitOne K (.ref (aa 8)) (.ref (aa c)) = some (decide (c = 8))
section
variable {P : Program} {w : World} {K : PySem.W.Frag} {mg : Str → Option Value} {base : Heap} {aa : Nat → Addr}
theorem isi_read {C a c : Addr} {b : Bool} {σ : L2.St} {H : Hp} {Q : VK} (h0 : σ[0]? = some (some (.ref a))) (k : PySem.W.kitOne K (.ref C) (.ref c) = some b) (q : Q (.bl b) H) : tCB (rIsE K C a) (tCons (tVar 0) (tCons (tC (.ref c)) tNil)) σ H Q :=
  ⟨.ref a, h0, .ref c, .ref c, b, rfl, fun _ hu => hu, k, q⟩
/-- the words, and which one is told -/
def words : List Str := ["calendar", "duties", "rule", "roster", "demand", "program", "paper", "number", "none", "large"]
theorem kind_body {aD : Nat} {bs : Nat → Bool} {wd : Str} {N : List Str} (eN : N = (["error", "names", "found"] : List Str)) {cdv : Value} {f : Addr} {A : Around} {outer : List PySem.Env} {s : Shared} {H : Hp} {E : XK} {Q : VK} {p : Addr × Obj}
    (T : TxK K mg aa) (X : ExcC K (aa aD)) (hz : Zc (.ref (aa aD)) none p.2) (hf : ∃ vs, p.2.data = .fields vs)
    (hk : ∀ c ∈ [1, 2, 3, 4, 5, 6, 7, 8, 9, 10], PySem.W.kitOne K (.ref (aa aD)) (.ref (aa c)) = some (bs c)) (hb : (aD = 6 ∧ bs = (fun c => decide (c = 6)) ∧ wd = "!program") ∨ (aD = 8 ∧ bs = (fun c => decide (c = 8)) ∧ wd = "!number"))
    (q : ∀ H' : Hp, (∀ b u, H b = some u → H' b = some u) → Q (.str wd) H') :
    ∃ t, PSs (cxH (L2.CX P w) P w K mg base N "_law_kind" (defScope s_u_law_kind) f cdv A outer s H E p) (defBody s_u_law_kind) t ∧ t { nx := fun _ H' => Q .non H', rt := Q } (L2.start N [.ref p.1]) H := by
  subst eN
  have nd : (["error", "names", "found"] : List Str).Nodup := by decide +kernel
  refine ⟨_, pss_cons (ps_set (i := 1) nd rfl (Or.inl rfl) (pe_lst (pa_cons pe_str (pa_cons pe_str (pa_cons pe_str (pa_cons pe_str (pa_cons pe_str (pa_cons pe_str (pa_cons pe_str (pa_cons pe_str (pa_cons pe_str (pa_cons pe_str pa_nil))))))))))))
    (pss_cons (ps_set (i := 2) nd rfl (Or.inl rfl) (pe_lst (pa_cons (pe_callB (cr_isP (a := p.1) (oe := p.2) (List.mem_singleton.mpr rfl) X hz hf) rfl T.b_isi (by decide +kernel) (pa_cons (pv 0) (pa_cons (pe_glob (v := .ref (aa 1)) rfl T.g1 rfl) pa_nil)))
      (pa_cons (pe_callB (cr_isP (a := p.1) (oe := p.2) (List.mem_singleton.mpr rfl) X hz hf) rfl T.b_isi (by decide +kernel) (pa_cons (pv 0) (pa_cons (pe_glob (v := .ref (aa 2)) rfl T.g2 rfl) pa_nil)))
      (pa_cons (pe_callB (cr_isP (a := p.1) (oe := p.2) (List.mem_singleton.mpr rfl) X hz hf) rfl T.b_isi (by decide +kernel) (pa_cons (pv 0) (pa_cons (pe_glob (v := .ref (aa 3)) rfl T.g3 rfl) pa_nil)))
      (pa_cons (pe_callB (cr_isP (a := p.1) (oe := p.2) (List.mem_singleton.mpr rfl) X hz hf) rfl T.b_isi (by decide +kernel) (pa_cons (pv 0) (pa_cons (pe_glob (v := .ref (aa 4)) rfl T.g4 rfl) pa_nil))) pa_nil))))))
    (pss_cons (ps_set (i := 2) nd rfl (Or.inl rfl) (pe_op op_cat (pv 2) (pe_lst (pa_cons (pe_callB (cr_isP (a := p.1) (oe := p.2) (List.mem_singleton.mpr rfl) X hz hf) rfl T.b_isi (by decide +kernel) (pa_cons (pv 0) (pa_cons (pe_glob (v := .ref (aa 5)) rfl T.g5 rfl) pa_nil)))
      (pa_cons (pe_callB (cr_isP (a := p.1) (oe := p.2) (List.mem_singleton.mpr rfl) X hz hf) rfl T.b_isi (by decide +kernel) (pa_cons (pv 0) (pa_cons (pe_glob (v := .ref (aa 6)) rfl T.g6 rfl) pa_nil)))
      (pa_cons (pe_callB (cr_isP (a := p.1) (oe := p.2) (List.mem_singleton.mpr rfl) X hz hf) rfl T.b_isi (by decide +kernel) (pa_cons (pv 0) (pa_cons (pe_glob (v := .ref (aa 7)) rfl T.g7 rfl) pa_nil)))
      (pa_cons (pe_callB (cr_isP (a := p.1) (oe := p.2) (List.mem_singleton.mpr rfl) X hz hf) rfl T.b_isi (by decide +kernel) (pa_cons (pv 0) (pa_cons (pe_glob (v := .ref (aa 8)) rfl T.g8 rfl) pa_nil))) pa_nil)))))))
    (pss_cons (ps_set (i := 2) nd rfl (Or.inl rfl) (pe_op op_cat (pv 2) (pe_lst (pa_cons (pe_callB (cr_isP (a := p.1) (oe := p.2) (List.mem_singleton.mpr rfl) X hz hf) rfl T.b_isi (by decide +kernel) (pa_cons (pv 0) (pa_cons (pe_glob (v := .ref (aa 9)) rfl T.g9 rfl) pa_nil)))
      (pa_cons (pe_callB (cr_isP (a := p.1) (oe := p.2) (List.mem_singleton.mpr rfl) X hz hf) rfl T.b_isi (by decide +kernel) (pa_cons (pv 0) (pa_cons (pe_glob (v := .ref (aa 10)) rfl T.g10 rfl) pa_nil))) pa_nil)))))
    (pss_one (ps_ret (pe_ifExp (pt_cmpR op_eq (pe_bm PySem.F.plainAttrs_list PySem.F.slot_list_count PySem.F.type_list_count mt_cntV (pv 2) (pa_cons pe_bl pa_nil)) pe_int (nomark _))
      (pe_op op_add_str pe_str (pe_ix ix_list (pv 1) (pe_bm PySem.F.plainAttrs_list PySem.F.slot_list_index PySem.F.type_list_index mt_index (pv 2) (pa_cons pe_bl pa_nil)) (fun _ _ => rfl))) pe_str)))))), ?_⟩
  have k1 := hk 1 (by decide); have k2 := hk 2 (by decide); have k3 := hk 3 (by decide); have k4 := hk 4 (by decide); have k5 := hk 5 (by decide)
  have k6 := hk 6 (by decide); have k7 := hk 7 (by decide); have k8 := hk 8 (by decide); have k9 := hk 9 (by decide); have k10 := hk 10 (by decide)
  refine ⟨by decide, fun l1 n1 => isi_read rfl k1 (isi_read rfl k2 (isi_read rfl k3 (isi_read rfl k4 ⟨(show (4 : Nat) ≤ sizeLine from by decide), fun l2 n2 => ⟨.ref l2, rfl, isi_read rfl k5 (isi_read rfl k6 (isi_read rfl k7 (isi_read rfl k8 ⟨(show (4 : Nat) ≤ sizeLine from by decide), fun l3 n3 => ?_⟩)))⟩⟩)))⟩
  have e21 : l1 ≠ l2 := fun e => by subst e; rw [upd_same] at n2; cases n2
  have e32 : l2 ≠ l3 := fun e => by subst e; rw [upd_same] at n3; cases n3
  have e31 : l1 ≠ l3 := fun e => by subst e; rw [upd_ne e21, upd_same] at n3; cases n3
  refine ⟨l2, l3, [.bl (bs 1), .bl (bs 2), .bl (bs 3), .bl (bs 4)], [.bl (bs 5), .bl (bs 6), .bl (bs 7), .bl (bs 8)], rfl, rfl, (by rw [upd_ne e32]; exact upd_same), upd_same, (show (8 : Nat) ≤ sizeLine from by decide), fun l4 n4 => ⟨.ref l4, rfl, isi_read rfl k9 (isi_read rfl k10 ⟨(show (2 : Nat) ≤ sizeLine from by decide), fun l5 n5 => ?_⟩)⟩⟩
  have e43 : l3 ≠ l4 := fun e => by subst e; rw [upd_same] at n4; cases n4
  have e41 : l1 ≠ l4 := fun e => by subst e; rw [upd_ne e31, upd_ne e21, upd_same] at n4; cases n4
  have e54 : l4 ≠ l5 := fun e => by subst e; rw [upd_same] at n5; cases n5
  have e51 : l1 ≠ l5 := fun e => by subst e; rw [upd_ne e41, upd_ne e31, upd_ne e21, upd_same] at n5; cases n5
  refine ⟨l4, l5, ([V.bl (bs 1), V.bl (bs 2), V.bl (bs 3), V.bl (bs 4), V.bl (bs 5), V.bl (bs 6), V.bl (bs 7), V.bl (bs 8)] : List V), [.bl (bs 9), .bl (bs 10)], rfl, rfl, (by rw [upd_ne e54]; exact upd_same), upd_same, (show (10 : Nat) ≤ sizeLine from by decide), fun l6 n6 => ?_⟩
  have e61 : l1 ≠ l6 := fun e => by subst e; rw [upd_ne e51, upd_ne e41, upd_ne e31, upd_ne e21, upd_same] at n6; cases n6
  have old : ∀ b u, H b = some u → upd (upd (upd (upd (upd (upd H l1 (.lst (words.map V.str))) l2 (.lst [.bl (bs 1), .bl (bs 2), .bl (bs 3), .bl (bs 4)])) l3 (.lst [.bl (bs 5), .bl (bs 6), .bl (bs 7), .bl (bs 8)])) l4 (.lst ([.bl (bs 1), .bl (bs 2), .bl (bs 3), .bl (bs 4)] ++ [.bl (bs 5), .bl (bs 6), .bl (bs 7), .bl (bs 8)]))) l5 (.lst [.bl (bs 9), .bl (bs 10)]))
      l6 (.lst ([.bl (bs 1), .bl (bs 2), .bl (bs 3), .bl (bs 4)] ++ [.bl (bs 5), .bl (bs 6), .bl (bs 7), .bl (bs 8)] ++ [.bl (bs 9), .bl (bs 10)])) b = some u := fun b u z => by
    have z1 : upd H l1 (.lst (words.map V.str)) b = some u := by rw [upd_ne (ne_of_none z n1)]; exact z
    have z2 := (upd_ne (o := HO.lst [.bl (bs 1), .bl (bs 2), .bl (bs 3), .bl (bs 4)]) (ne_of_none z1 n2)).trans z1
    have z3 := (upd_ne (o := HO.lst [.bl (bs 5), .bl (bs 6), .bl (bs 7), .bl (bs 8)]) (ne_of_none z2 n3)).trans z2
    have z4 := (upd_ne (o := HO.lst ([.bl (bs 1), .bl (bs 2), .bl (bs 3), .bl (bs 4)] ++ [.bl (bs 5), .bl (bs 6), .bl (bs 7), .bl (bs 8)])) (ne_of_none z3 n4)).trans z3
    have z5 := (upd_ne (o := HO.lst [.bl (bs 9), .bl (bs 10)]) (ne_of_none z4 n5)).trans z4
    exact (upd_ne (ne_of_none z5 n6)).trans z5
  refine ⟨.ref l6, rfl, .inl ⟨rfl, _, SqL.of upd_same⟩, l6, _, _, rfl, rfl, SqL.of upd_same, rfl, rfl, ?_⟩
  refine ⟨rfl, _, rfl, ?_⟩
  rcases hb with ⟨_, eb, ew⟩ | ⟨_, eb, ew⟩ <;> subst eb ew
  · refine iteT ?_
    refine ⟨.ref l1, rfl, .ref l6, rfl, .inl ⟨rfl, _, SqL.of upd_same⟩, l6, _, _, 5, _, rfl, rfl, SqL.of upd_same, rfl, rfl, rfl, rfl, (fun m z' hm e => ?_), l1, words.map V.str, 5, _, rfl, rfl, SqL.of (by rw [upd_ne e61, upd_ne e51, upd_ne e41, upd_ne e31, upd_ne e21, upd_same]; rfl), rfl, _, _, rfl, rfl, by decide +kernel, ?_⟩
    · have hm' : m = 0 ∨ m = 1 ∨ m = 2 ∨ m = 3 ∨ m = 4 := by omega
      rcases hm' with rfl | rfl | rfl | rfl | rfl <;> (cases e; rfl)
    · exact q _ old
  · refine iteT ?_
    refine ⟨.ref l1, rfl, .ref l6, rfl, .inl ⟨rfl, _, SqL.of upd_same⟩, l6, _, _, 7, _, rfl, rfl, SqL.of upd_same, rfl, rfl, rfl, rfl, (fun m z' hm e => ?_), l1, words.map V.str, 7, _, rfl, rfl, SqL.of (by rw [upd_ne e61, upd_ne e51, upd_ne e41, upd_ne e31, upd_ne e21, upd_same]; rfl), rfl, _, _, rfl, rfl, by decide +kernel, ?_⟩
    · have hm' : m = 0 ∨ m = 1 ∨ m = 2 ∨ m = 3 ∨ m = 4 ∨ m = 5 ∨ m = 6 := by omega
      rcases hm' with rfl | rfl | rfl | rfl | rfl | rfl | rfl <;> (cases e; rfl)
    · exact q _ old
end
end K69
end TP69C

section TP69D
set_option maxRecDepth 100000
set_option maxHeartbeats 4000000
namespace K69
open PySem PySem.Spec PyProof.Rows L2 DL
open L2H (RoomH PinOk cxH roomH_of)
/-- what the suite's call is asked -/
def tKind (aa : Nat → Addr) (a : Addr) (cls : Value) (d : Option Addr) : TE := fun σ H Q => d = none ∧ σ[4]? = some (some (.ref a)) ∧ ∃ c wd, hK c = some wd ∧ cls = .ref (aa c) ∧ ∀ H' : Hp, (∀ b u, H b = some u → H' b = some u) → Q (.str wd) H'
theorem hK_cases {c : Nat} {wd : Str} (h : hK c = some wd) : (c = 6 ∧ wd = "!program") ∨ (c = 8 ∧ wd = "!number") := by
  unfold hK at h
  by_cases e : c = 6
  · rw [if_pos e] at h; injection h with h; exact .inl ⟨e, h.symm⟩
  · rw [if_neg e] at h
    by_cases e8 : c = 8
    · rw [if_pos e8] at h; injection h with h; exact .inr ⟨e8, h.symm⟩
    · rw [if_neg e8] at h; cases h
theorem hm_hK {K : PySem.W.Frag} {mg : Str → Option Value} {aa : Nat → Addr} (T : TxK K mg aa) (c : Nat) (s : Str) (h : hK c = some s) : PySem.W.exmOne K (.ref (aa c)) (.ref (aa 0)) = some true := by
  rcases hK_cases h with ⟨rfl, _⟩ | ⟨rfl, _⟩
  · exact T.m6
  · exact T.m8
theorem pe_kind {X : Cx} {aa : Nat → Addr} {p q pos : Pos} (T : Txt X.K X.mg aa) (T2 : TxK X.K X.mg aa) {a : Addr} {oe : Obj} {cls : Value} {d : Option Addr} {pn : List (Addr × Obj)} (hz : Zc cls d oe) (hf : ∃ vs, oe.data = .fields vs) (hr : RoomH 2 X.A) (hN : X.N[4]? = some ("error" : Str)) (hv : Vis X.env.scope "error") (hg : Gl X "_law_kind") :
    PE (X.suite a ((a, oe) :: pn)) (.Call (.Name "_law_kind" p) [.Name "error" q] [] pos) (tKind aa a cls d) := by
  refine ⟨fun pins s σ H Q I ⟨ed, e4, c, wd, hc, ec, k⟩ => ?_⟩
  subst ed ec
  obtain ⟨fd, F, b⟩ := T.f_u_law_kind
  refine wpAny_Call_Name_kw (ld_glob I hg T.m_u_law_kind ?_ (by decide))
  refine PySem.W.callWith_K (h₀ := X.base) I.ok.mod.kin F.kp (thn ((pa_cons (pe_var (X := X.suite a ((a, oe) :: pn)) (pos := q) hN hv (by decide) (by decide)) pa_nil).run pos pins s σ H (fun vs H1 => vs = [V.ref a] ∧ H1 = H) I ⟨_, e4, rfl, rfl⟩) fun us s1 ⟨vs, H1, I1, r, ev, eh⟩ => ⟨I1.kIn, ?_⟩) rfl rfl
  subst ev eh
  obtain ⟨u, rfl, ru⟩ : ∃ u, us = [u] ∧ RelV (V.ref a) u := by
    cases r with
    | cons r rr => cases rr; exact ⟨_, rfl, r⟩
  have P1 := I1.pin (a, oe) (List.mem_append_left _ (List.mem_cons_self ..))
  have hpin : PinOk X.stack H1 s1 (a, oe) := ⟨P1.1, P1.2.1, fun hm => (List.mem_cons.mp (I1.stkSub a hm)).elim P1.2.2.1 P1.2.2.2.1, P1.2.2.2.2⟩
  have hb : BindsTo s1 fd ⟨[u], []⟩ [("error", u)] := by
    have := b s1 [u] I1.kIn rfl
    simpa using this
  refine wpAny_call (codeAny_mono (run_pin (CX := L2.CX X.prog X.w) (k := 1) (E := fun _ _ _ => False) (Q := Q) F sc_u_law_kind ⟨hr.dp, hr.un⟩ hpin I1.env0 hb ru (fun cdv _ => ?_)) fun r s' hq => ?_)
  · rcases hK_cases hc with ⟨rfl, rfl⟩ | ⟨rfl, rfl⟩
    · exact kind_body (aD := 6) (bs := fun c => decide (c = 6)) rfl T2 T2.x6 hz hf T2.k6 (.inl ⟨rfl, rfl, rfl⟩) (fun H' h => k H' h)
    · exact kind_body (aD := 8) (bs := fun c => decide (c = 8)) rfl T2 T2.x8 hz hf T2.k8 (.inr ⟨rfl, rfl, rfl⟩) (fun H' h => k H' h)
  · cases r with
    | error e => obtain ⟨_, _, _, _, _, _, _, _, _, _, _, _, z⟩ := hq; exact z.elim
    | ok fl =>
      cases fl with
      | ret u => exact I1.after hq
      | next => exact False.elim hq
      | brk => exact False.elim hq
      | cont => exact False.elim hq
theorem hsu_kind {X : Cx} {aa : Nat → Addr} {p q pos rp : Pos} (T : Txt X.K X.mg aa) (T2 : TxK X.K X.mg aa) {a : Addr} {oe : Obj} {cls : Value} {d : Option Addr} {pn : List (Addr × Obj)} (hz : Zc cls d oe) (hf : ∃ vs, oe.data = .fields vs) (hr : RoomH 2 X.A) (hN : X.N[4]? = some ("error" : Str)) (hv : Vis X.env.scope "error") (hg : Gl X "_law_kind") :
    PSs (X.suite a ((a, oe) :: pn)) [.Return (some (.Call (.Name "_law_kind" p) [.Name "error" q] [] pos)) rp] (tsK aa hK 4 a cls d) :=
  PSs.weak (pss_one (ps_ret (pe_kind T T2 hz hf hr hN hv hg))) fun D σ H h => h
section
variable {P : Program} {w : World} {K : PySem.W.Frag} {mg : Str → Option Value} {base : Heap} {aa : Nat → Addr}
theorem c_u_law_asked (T : Txt K mg aa) (T2 : TxK K mg aa) (h_commuting : CalD P w K mg base aa "commuting" 6 (aa 32) ["program"] d_commuting) (h_are_same : CalD P w K mg base aa "are_same" 6 (aa 30) ["program", "one", "other"] d_are_same) (h_first_apart : CalD P w K mg base aa "first_apart" 5 (aa 29) ["program", "one", "other"] d_first_apart) : CalD P w K mg base aa "_law_asked" 7 (aa 44) ["way", "program", "one", "other"] d_u_law_asked := by
  obtain ⟨fd, F, b⟩ := T.f_u_law_asked
  refine ⟨⟨fd, fn_den F sc_u_law_asked (fun cdv A outer s H E hr => ?_), b⟩, T.m_u_law_asked, F.kp⟩
  have nd := sc_u_law_asked.nd
  exact (mb_one (ms_try (h := hK) rfl rfl nd rfl rfl ⟨rfl, by decide, .inl T2.g0⟩ (hm_hK T2) (fun W pn xe tkT hpT => (mb_one (ms_ret (me_ifE (mt_cmp (op_eqD hr.units) eqD_ok (mv 0) me_int (nomark _)) (me_callD h_commuting hr (by decide) tkT (ma_cons (mv 1) ma_nil)) (me_gc (me_callV (me_gc (me_ix (me_lst (ma_cons (me_globF rfl h_are_same.m) (ma_cons (me_globF rfl h_first_apart.m) ma_nil))) (mv 0) (fun _ _ => rfl))) (fun j g hj => (by (try dsimp only at hj); by_cases q30 : j = 30; (subst q30; (try simp at hj); subst hj; exact (let ⟨fd, h, b⟩ := h_are_same.ex; ⟨fd, _, h.mono (by decide), h_are_same.kp, b⟩)); by_cases q29 : j = 29; (subst q29; (try simp at hj); subst hj; exact (let ⟨fd, h, b⟩ := h_first_apart.ex; ⟨fd, _, h.mono (by decide), h_first_apart.kp, b⟩)); simp [q30, q29] at hj)) (hr.mono (j := 6) (by decide)) tkT (ma_cons (mv 1) (ma_cons (mv 2) (ma_cons (mv 3) ma_nil))))))))) (fun a oe cls d pn hz hf => hsu_kind T T2 hz hf ((roomH_of hr).mono (by decide)) rfl (by first | exact Or.inl rfl | exact Or.inr (Or.inl rfl) | exact Or.inr (Or.inr rfl)) rfl)))

end
end K69
end TP69D

section TP69E
set_option maxRecDepth 100000
set_option maxHeartbeats 8000000
namespace K69
open PySem PySem.Spec PyProof.Rows L2 DL
section
variable {P : Program} {w : World} {K : PySem.W.Frag} {mg : Str → Option Value} {base : Heap} {aa : Nat → Addr}
theorem body_law (T : Txt K mg aa) (h_u_law_draws : CalD P w K mg base aa "_law_draws" 2 (aa 34) ["script"] d_u_law_draws) (h_u_law_more : CalD P w K mg base aa "_law_more" 2 (aa 36) ["draws", "many"] d_u_law_more) (h_u_law_account : CalD P w K mg base aa "_law_account" 1 (aa 43) ["low", "high"] d_u_law_account) (h_u_law_wide : CalD P w K mg base aa "_law_wide" 3 (aa 45) ["draws", "spans"] d_u_law_wide) (h_u_law_program : CalD P w K mg base aa "_law_program" 3 (aa 39) ["draws"] d_u_law_program) (h_u_law_row : CalD P w K mg base aa "_law_row" 2 (aa 42) ["draws", "program", "most"] d_u_law_row) (h_u_law_pick : CalD P w K mg base aa "_law_pick" 2 (aa 37) ["draws", "some"] d_u_law_pick) (h_u_law_apart : CalD P w K mg base aa "_law_apart" 2 (aa 46) ["program", "one", "other"] d_u_law_apart) (h_u_law_asked : CalD P w K mg base aa "_law_asked" 7 (aa 44) ["way", "program", "one", "other"] d_u_law_asked) (h_u_law_next : CalD P w K mg base aa "_law_next" 1 (aa 35) ["draws"] d_u_law_next) (h_end_from : CalD P w K mg base aa "end_from" 7 (aa 28) ["program", "level", "row"] d_end_from) (h_are_same : CalD P w K mg base aa "are_same" 6 (aa 30) ["program", "one", "other"] d_are_same) (h_commuting : CalD P w K mg base aa "commuting" 6 (aa 32) ["program"] d_commuting) (h_first_apart : CalD P w K mg base aa "first_apart" 5 (aa 29) ["program", "one", "other"] d_first_apart) {f : Addr} (cdv : Value) (s : Shared) (H : Hp) (E : XK) (hr : Room 7 (callerA.deeper (envOfC "law" (defScope s_law) s.heap.objs.size f cdv))) :
    MB (cxOf (L2.CX P w) P w K mg base N_law "law" (defScope s_law) f cdv callerA [] s H E) aa (WF E) (defBody s_law) b_law := by
  have nd := sc_law.nd
  have hgd : (callerA.deeper (envOfC "law" (defScope s_law) s.heap.objs.size f cdv)).guards = some [] := rfl
  exact (mb_cons (ms_set (i := 1) nd rfl (by first | exact .inl rfl | exact .inr rfl) (me_callD h_u_law_draws hr (by decide) (takes_of rfl rfl rfl rfl) (ma_cons (mv 0) ma_nil)))
    (mb_cons (ms_set (i := 1) nd rfl (by first | exact .inl rfl | exact .inr rfl) (me_callD h_u_law_more hr (by decide) (takes_of rfl rfl rfl rfl) (ma_cons (mv 1) (ma_cons me_int ma_nil))))
    (mb_cons (ms_set (i := 2) nd rfl (by first | exact .inl rfl | exact .inr rfl) (me_ifE (mt_cmp (op_eqD hr.units) eqD_ok (me_mod (me_callTy call_int1 intC_ok rfl T.b_int (by decide +kernel) (ma_cons (me_callD h_u_law_next hr (by decide) (takes_of rfl rfl rfl rfl) (ma_cons (mv 1) ma_nil)) ma_nil)) me_int) me_int (nomark _)) (me_gc (me_callD h_u_law_wide hr (by decide) (takes_of rfl rfl rfl rfl) (ma_cons (mv 1) (ma_cons (me_lst (ma_cons me_int (ma_cons me_int (ma_cons me_int ma_nil)))) ma_nil)))) (me_callD h_u_law_program hr (by decide) (takes_of rfl rfl rfl rfl) (ma_cons (mv 1) ma_nil))))
    (mb_cons (ms_set (i := 3) nd rfl (by first | exact .inl rfl | exact .inr rfl) (me_callB cr_len len_ok rfl T.b_len PySem.boot_len (ma_cons (me_ix (mv 2) me_int (fun _ _ => rfl)) ma_nil)))
    (mb_cons (ms_set (i := 4) nd rfl (by first | exact .inl rfl | exact .inr rfl) (me_lst ma_nil))
    (mb_cons (ms_for (passes_of rfl) rfl (mi_rng1 (by rfl) T.b_range (ma_cons (mv 3) ma_nil)) (mg_name nd rfl (by first | exact .inl rfl | exact .inr rfl))
    (mb_one (ms_expr (me_gc (me_extend (mv 4) (ma_cons (me_lc rfl nd (mi_rng2 (by rfl) T.b_range (ma_cons (me_add (mv 5) me_int) (ma_cons (mv 3) ma_nil))) (blkOk_by (own := [("j", 18)]) (N := N_law) (sc := defScope s_law) (by decide +kernel)) (by decide) (fun _ _ _ _ _ => (mg_name nd rfl (by first | exact .inl rfl | exact .inr rfl))) (fun _ _ _ _ _ => (mts_one (mt_cmp op_is (is_ok false) (me_callD h_u_law_apart hr (by decide) takes0 (ma_cons (mv 2) (ma_cons (me_tup (ma_cons (mv 5) (ma_cons (mv 18) ma_nil))) (ma_cons (me_tup (ma_cons (mv 18) (ma_cons (mv 5) ma_nil))) ma_nil)))) me_non (nomark _)))) (fun _ _ _ _ _ => (me_tup (ma_cons (mv 5) (ma_cons (mv 18) ma_nil))))) ma_nil))))))
    (mb_cons (ms_if (mt_cmp (op_neD hr.units) neD_ok (me_repr hr hgd rfl T.b_repr (ma_cons (me_callD h_u_law_asked hr (by decide) (takes_of rfl rfl rfl rfl) (ma_cons me_int (ma_cons (mv 2) (ma_cons me_non (ma_cons me_non ma_nil))))) ma_nil)) (me_repr hr hgd rfl T.b_repr (ma_cons (mv 4) ma_nil)) (nomark _))
    (mb_one (ms_ret me_bl))
    mb_nil)
    (mb_cons (ms_for (passes_of rfl) rfl (mi_rng1 (by rfl) T.b_range (ma_cons me_int ma_nil)) (mg_name nd rfl (by first | exact .inl rfl | exact .inr rfl))
    (mb_cons (ms_set (i := 10) nd rfl (by first | exact .inl rfl | exact .inr rfl) (me_callD h_u_law_row hr (by decide) (takes_of rfl rfl rfl rfl) (ma_cons (mv 1) (ma_cons (mv 2) (ma_cons me_int ma_nil)))))
    (mb_cons (ms_set (i := 11) nd rfl (by first | exact .inl rfl | exact .inr rfl) (me_mod (me_callTy call_int1 intC_ok rfl T.b_int (by decide +kernel) (ma_cons (me_callD h_u_law_next hr (by decide) (takes_of rfl rfl rfl rfl) (ma_cons (mv 1) ma_nil)) ma_nil)) (me_callB (call_max2 rfl) (two_ok _) rfl T.b_max (by decide +kernel) (ma_cons me_int (ma_cons (me_sub (me_callB cr_len len_ok rfl T.b_len PySem.boot_len (ma_cons (mv 10) ma_nil)) me_int) ma_nil)))))
    (mb_cons (ms_set (i := 12) nd rfl (by first | exact .inl rfl | exact .inr rfl) (me_add (me_add (me_slice (mv 10) mo_none (mo_some (mv 11))) (me_revT (me_slice (mv 10) (mo_some (mv 11)) (mo_some (me_add (mv 11) me_int))))) (me_slice (mv 10) (mo_some (me_add (mv 11) me_int)) mo_none)))
    (mb_cons (ms_set (i := 13) nd rfl (by first | exact .inl rfl | exact .inr rfl) (me_gc (me_callD h_u_law_pick hr (by decide) (takes_of rfl rfl rfl rfl) (ma_cons (mv 1) (ma_cons (me_lst (ma_cons (mv 12) (ma_cons (mv 12) (ma_cons (me_callD h_u_law_row hr (by decide) (takes_of rfl rfl rfl rfl) (ma_cons (mv 1) (ma_cons (mv 2) (ma_cons me_int ma_nil)))) (ma_cons (me_add (mv 10) (me_slice (mv 10) (mo_some (me_neg me_int)) mo_none)) (ma_cons (me_mul (mv 10) me_int) (ma_cons (mv 10) ma_nil))))))) ma_nil)))))
    (mb_cons (ms_set (i := 14) nd rfl (by first | exact .inl rfl | exact .inr rfl) (me_callD h_u_law_apart hr (by decide) (takes_of rfl rfl rfl rfl) (ma_cons (mv 2) (ma_cons (mv 10) (ma_cons (mv 13) ma_nil)))))
    (mb_cons (ms_if (mt_cmp (op_neD hr.units) neD_ok (me_gc (me_repr hr hgd rfl T.b_repr (ma_cons (me_lc rfl nd (mi_rng1 (by rfl) T.b_range (ma_cons me_int ma_nil)) (blkOk_by (own := [("way", 17)]) (N := N_law) (sc := defScope s_law) (by decide +kernel)) (by decide) (fun _ _ _ _ _ => (mg_name nd rfl (by first | exact .inl rfl | exact .inr rfl))) (fun _ _ _ _ _ => mts_nil) (fun _ _ _ _ _ => (me_callD h_u_law_asked hr (by decide) takes0 (ma_cons (mv 17) (ma_cons (mv 2) (ma_cons (mv 10) (ma_cons (mv 13) ma_nil))))))) ma_nil))) (me_gc (me_repr hr hgd rfl T.b_repr (ma_cons (me_lst (ma_cons (me_cmp op_is (is_ok false) (mv 14) me_non (nomark _)) (ma_cons (mv 14) ma_nil))) ma_nil))) (nomark _))
    (mb_one (ms_ret me_bl))
    mb_nil)
    (mb_cons (ms_if (mw_pt (mw_and (mt_cmp op_isnt (is_ok true) (mv 14) me_non (nomark _)) (mw_and1 (mt_cmp (op_eqD hr.units) eqD_ok (me_callD h_end_from hr (by decide) (takes_of rfl rfl rfl rfl) (ma_cons (mv 2) (ma_cons (mv 14) (ma_cons (mv 10) ma_nil)))) (me_callD h_end_from hr (by decide) (takes_of rfl rfl rfl rfl) (ma_cons (mv 2) (ma_cons (mv 14) (ma_cons (mv 13) ma_nil)))) (nomark _)))))
    (mb_one (ms_ret me_bl))
    mb_nil)
    (mb_cons (ms_par (i := 15) (j := 16) rfl nd rfl rfl (by decide) rfl rfl (ma_cons (me_callD h_u_law_row hr (by decide) (takes_of rfl rfl rfl rfl) (ma_cons (mv 1) (ma_cons (mv 2) (ma_cons me_int ma_nil)))) (ma_cons (me_callD h_u_law_row hr (by decide) (takes_of rfl rfl rfl rfl) (ma_cons (mv 1) (ma_cons (mv 2) (ma_cons me_int ma_nil)))) ma_nil)) (by rfl))
    (mb_one (ms_if (mw_pt (mw_and (mt_cmp op_is (is_ok false) (mv 14) me_non (nomark _)) (mw_and1 (mt_cmp op_isnt (is_ok true) (me_callD h_are_same hr (by decide) (takes_of rfl rfl rfl rfl) (ma_cons (mv 2) (ma_cons (me_add (me_add (mv 15) (mv 10)) (mv 16)) (ma_cons (me_add (me_add (mv 15) (mv 13)) (mv 16)) ma_nil)))) me_bl (nomark _)))))
    (mb_one (ms_ret me_bl))
    mb_nil)))))))))))
    (mb_cons (ms_set (i := 7) nd rfl (by first | exact .inl rfl | exact .inr rfl) (me_callD h_u_law_account hr (by decide) (takes_of rfl rfl rfl rfl) (ma_cons me_int (ma_cons me_int ma_nil))))
    (mb_cons (ms_if (mt_cmp (op_neD hr.units) neD_ok (me_gc (me_repr hr hgd rfl T.b_repr (ma_cons (me_lst (ma_cons (me_callD h_commuting hr (by decide) (takes_of rfl rfl rfl rfl) (ma_cons (mv 7) ma_nil)) (ma_cons (me_callD h_first_apart hr (by decide) (takes_of rfl rfl rfl rfl) (ma_cons (mv 7) (ma_cons (me_tup (ma_cons me_int (ma_cons me_int ma_nil))) (ma_cons (me_tup (ma_cons me_int (ma_cons me_int ma_nil))) ma_nil)))) (ma_cons (me_callD h_first_apart hr (by decide) (takes_of rfl rfl rfl rfl) (ma_cons (mv 7) (ma_cons (me_tup (ma_cons me_int (ma_cons me_int (ma_cons me_int ma_nil)))) (ma_cons (me_tup (ma_cons me_int (ma_cons me_int ma_nil))) ma_nil)))) ma_nil)))) ma_nil))) (me_gc (me_repr hr hgd rfl T.b_repr (ma_cons (me_lst (ma_cons (me_lst ma_nil) (ma_cons (me_tup (ma_cons me_int ma_nil)) (ma_cons (me_tup (ma_cons me_int ma_nil)) ma_nil)))) ma_nil))) (nomark _))
    (mb_one (ms_ret me_bl))
    mb_nil)
    (mb_cons (ms_set (i := 8) nd rfl (by first | exact .inl rfl | exact .inr rfl) (me_tup (ma_cons (me_tup ma_nil) (ma_cons me_int (ma_cons (me_tup ma_nil) ma_nil)))))
    (mb_cons (ms_set (i := 9) nd rfl (by first | exact .inl rfl | exact .inr rfl) (me_add (me_lc rfl nd (mi_rng1 (by rfl) T.b_range (ma_cons me_int ma_nil)) (blkOk_by (own := [("way", 17)]) (N := N_law) (sc := defScope s_law) (by decide +kernel)) (by decide) (fun _ _ _ _ _ => (mg_name nd rfl (by first | exact .inl rfl | exact .inr rfl))) (fun _ _ _ _ _ => mts_nil) (fun _ _ _ _ _ => (me_callD h_u_law_asked hr (by decide) takes0 (ma_cons (mv 17) (ma_cons (mv 8) (ma_cons (me_tup (ma_cons me_int ma_nil)) (ma_cons (me_tup ma_nil) ma_nil))))))) (me_lc rfl nd (mi_rng1 (by rfl) T.b_range (ma_cons me_int ma_nil)) (blkOk_by (own := [("way", 17)]) (N := N_law) (sc := defScope s_law) (by decide +kernel)) (by decide) (fun _ _ _ _ _ => (mg_name nd rfl (by first | exact .inl rfl | exact .inr rfl))) (fun _ _ _ _ _ => mts_nil) (fun _ _ _ _ _ => (me_callD h_u_law_asked hr (by decide) takes0 (ma_cons (mv 17) (ma_cons (mv 2) (ma_cons (me_tup (ma_cons (mv 3) ma_nil)) (ma_cons (me_tup (ma_cons me_int ma_nil)) ma_nil)))))))))
    (mb_one (ms_ret (me_cmp (op_eqD hr.units) eqD_ok (me_add (mv 9) (me_lc rfl nd (mi_rng1 (by rfl) T.b_range (ma_cons me_int ma_nil)) (blkOk_by (own := [("way", 17)]) (N := N_law) (sc := defScope s_law) (by decide +kernel)) (by decide) (fun _ _ _ _ _ => (mg_name nd rfl (by first | exact .inl rfl | exact .inr rfl))) (fun _ _ _ _ _ => mts_nil) (fun _ _ _ _ _ => (me_callD h_u_law_asked hr (by decide) takes0 (ma_cons (mv 17) (ma_cons (mv 2) (ma_cons (me_tup (ma_cons me_int ma_nil)) (ma_cons (me_tup (ma_cons me_int (ma_cons (me_neg me_int) ma_nil))) ma_nil)))))))) (me_add (me_mul (me_lst (ma_cons me_str ma_nil)) me_int) (me_mul (me_lst (ma_cons me_str ma_nil)) me_int)) (nomark _))))))))))))))))
end
end K69
end TP69E

section TP69F
set_option maxRecDepth 100000
set_option maxHeartbeats 8000000
namespace K69
open PySem PySem.Spec PyProof.Rows L2 DL
open PySem.W (mg_of mg_none_of)
def adr (as : List Addr) : Nat → Addr := fun i => as.getD i 0
theorem kit_of {K : PySem.W.Frag} {a C : Addr} {b : Bool} (hi : PySem.W.isClsIn K C = true) (ht : PySem.W.typeIn K (.ref C) = some (.type "type")) (hs : PySem.W.subIn K (.ref a) (.ref C) = some b) : PySem.W.kitCls K (.ref a) (.ref C) = some b := by
  have e : ((PySem.W.clsIn K C).isSome && PySem.W.typeIn K (.ref C) == some (.type "type")) = true := by
    rw [show (PySem.W.clsIn K C).isSome = true from hi, ht]
    rfl
  show (if ((PySem.W.clsIn K C).isSome && PySem.W.typeIn K (.ref C) == some (.type "type")) = true then PySem.W.subIn K (.ref a) (.ref C) else none) = some b
  rw [if_pos e]
  exact hs
theorem kit1_of {K : PySem.W.Frag} {a C : Addr} {b : Bool} (hself : PySem.W.subIn K (.ref a) (.ref a) = some true) (hi : PySem.W.isClsIn K C = true) (ht : PySem.W.typeIn K (.ref C) = some (.type "type")) (hs : PySem.W.subIn K (.ref a) (.ref C) = some b) : PySem.W.kitOne K (.ref a) (.ref C) = some b := by
  unfold PySem.W.kitOne
  by_cases e : a = C
  · subst e
    rw [hself] at hs
    injection hs with hs
    subst hs
    rw [if_pos (beq_self_eq_true _)]
  · rw [if_neg (fun z => e (by have := eq_of_beq z; injection this))]
    exact kit_of hi ht hs
theorem exm1_of {K : PySem.W.Frag} {a C : Addr} (hb : PySem.W.subIn K (.ref C) (.type "BaseException") = some true) (hi : PySem.W.isClsIn K C = true) (ht : PySem.W.typeIn K (.ref C) = some (.type "type")) (hs : PySem.W.subIn K (.ref a) (.ref C) = some true) : PySem.W.exmOne K (.ref a) (.ref C) = some true := by
  unfold PySem.W.exmOne
  rw [if_pos (by rw [hb]; rfl)]
  exact kit_of hi ht hs
theorem all_mk {K : PySem.W.Frag} {h : Heap} {mg : Str → Option Value} {fa : Addr} (X : K.In h) (G : h.Ns mainGlobals mg) (hfa : mg "law" = some (.ref fa))
    {a0 a1 a2 a3 a4 a5 a6 a7 a8 a9 a10 a11 a12 a13 a14 a15 a16 a17 a18 a19 a20 a21 a22 a23 a24 a25 a26 a27 a28 a29 a30 a31 a32 a33 a34 a35 a36 a37 a38 a39 a40 a41 a42 a43 a44 a45 a46 a47 : Addr} {od12 an12 : Option Addr} {sl12 : Array (Option Value)} {oc12 kV12 dc12 pm12 cd12 ct12 : Value} {od13 an13 : Option Addr} {sl13 : Array (Option Value)} {oc13 kV13 dc13 pm13 cd13 ct13 : Value} {od14 an14 : Option Addr} {sl14 : Array (Option Value)} {oc14 kV14 dc14 pm14 cd14 ct14 : Value} {od15 an15 : Option Addr} {sl15 : Array (Option Value)} {oc15 kV15 dc15 pm15 cd15 ct15 : Value} {od16 an16 : Option Addr} {sl16 : Array (Option Value)} {oc16 kV16 dc16 pm16 cd16 ct16 : Value} {od17 an17 : Option Addr} {sl17 : Array (Option Value)} {oc17 kV17 dc17 pm17 cd17 ct17 : Value} {od18 an18 : Option Addr} {sl18 : Array (Option Value)} {oc18 kV18 dc18 pm18 cd18 ct18 : Value} {od19 an19 : Option Addr} {sl19 : Array (Option Value)} {oc19 kV19 dc19 pm19 cd19 ct19 : Value} {od20 an20 : Option Addr} {sl20 : Array (Option Value)} {oc20 kV20 dc20 pm20 cd20 ct20 : Value} {od21 an21 : Option Addr} {sl21 : Array (Option Value)} {oc21 kV21 dc21 pm21 cd21 ct21 : Value} {od22 an22 : Option Addr} {sl22 : Array (Option Value)} {oc22 kV22 dc22 pm22 cd22 ct22 : Value} {od23 an23 : Option Addr} {sl23 : Array (Option Value)} {oc23 kV23 dc23 pm23 cd23 ct23 : Value} {od24 an24 : Option Addr} {sl24 : Array (Option Value)} {oc24 kV24 dc24 pm24 cd24 ct24 : Value} {od25 an25 : Option Addr} {sl25 : Array (Option Value)} {oc25 kV25 dc25 pm25 cd25 ct25 : Value} {od26 an26 : Option Addr} {sl26 : Array (Option Value)} {oc26 kV26 dc26 pm26 cd26 ct26 : Value} {od27 an27 : Option Addr} {sl27 : Array (Option Value)} {oc27 kV27 dc27 pm27 cd27 ct27 : Value} {od28 an28 : Option Addr} {sl28 : Array (Option Value)} {oc28 kV28 dc28 pm28 cd28 ct28 : Value} {od29 an29 : Option Addr} {sl29 : Array (Option Value)} {oc29 kV29 dc29 pm29 cd29 ct29 : Value} {od30 an30 : Option Addr} {sl30 : Array (Option Value)} {oc30 kV30 dc30 pm30 cd30 ct30 : Value} {od31 an31 : Option Addr} {sl31 : Array (Option Value)} {oc31 kV31 dc31 pm31 cd31 ct31 : Value} {od32 an32 : Option Addr} {sl32 : Array (Option Value)} {oc32 kV32 dc32 pm32 cd32 ct32 : Value} {od33 an33 : Option Addr} {sl33 : Array (Option Value)} {oc33 kV33 dc33 pm33 cd33 ct33 : Value} {od34 an34 : Option Addr} {sl34 : Array (Option Value)} {oc34 kV34 dc34 pm34 cd34 ct34 : Value} {od35 an35 : Option Addr} {sl35 : Array (Option Value)} {oc35 kV35 dc35 pm35 cd35 ct35 : Value} {od36 an36 : Option Addr} {sl36 : Array (Option Value)} {oc36 kV36 dc36 pm36 cd36 ct36 : Value} {od37 an37 : Option Addr} {sl37 : Array (Option Value)} {oc37 kV37 dc37 pm37 cd37 ct37 : Value} {od38 an38 : Option Addr} {sl38 : Array (Option Value)} {oc38 kV38 dc38 pm38 cd38 ct38 : Value} {od39 an39 : Option Addr} {sl39 : Array (Option Value)} {oc39 kV39 dc39 pm39 cd39 ct39 : Value} {od40 an40 : Option Addr} {sl40 : Array (Option Value)} {oc40 kV40 dc40 pm40 cd40 ct40 : Value} {od41 an41 : Option Addr} {sl41 : Array (Option Value)} {oc41 kV41 dc41 pm41 cd41 ct41 : Value} {od42 an42 : Option Addr} {sl42 : Array (Option Value)} {oc42 kV42 dc42 pm42 cd42 ct42 : Value} {od43 an43 : Option Addr} {sl43 : Array (Option Value)} {oc43 kV43 dc43 pm43 cd43 ct43 : Value} {od44 an44 : Option Addr} {sl44 : Array (Option Value)} {oc44 kV44 dc44 pm44 cd44 ct44 : Value} {od45 an45 : Option Addr} {sl45 : Array (Option Value)} {oc45 kV45 dc45 pm45 cd45 ct45 : Value} {od46 an46 : Option Addr} {sl46 : Array (Option Value)} {oc46 kV46 dc46 pm46 cd46 ct46 : Value} {od47 an47 : Option Addr} {sl47 : Array (Option Value)} {oc47 kV47 dc47 pm47 cd47 ct47 : Value} {t_MOST_AMOUNT : Nat} {t_MOST_BOUND : Nat} {t_MOST_ENTRIES : Nat} {t_MOST_FACTOR : Nat} {t_MOST_KINDS : Nat} {t_MOST_LEVELS : Nat} {t_MOST_PURSES : Nat} {t_MOST_REGISTERS : Nat} {t_NOWHERE : Nat}
    (e0 : PySem.W.nsIn K mainGlobals "HoursError" = some (some (.ref a0)))
    (e1 : PySem.W.nsIn K mainGlobals "NotCalendar" = some (some (.ref a1)))
    (e2 : PySem.W.nsIn K mainGlobals "NotDuties" = some (some (.ref a2)))
    (e3 : PySem.W.nsIn K mainGlobals "NotRule" = some (some (.ref a3)))
    (e4 : PySem.W.nsIn K mainGlobals "NotRoster" = some (some (.ref a4)))
    (e5 : PySem.W.nsIn K mainGlobals "NotDemand" = some (some (.ref a5)))
    (e6 : PySem.W.nsIn K mainGlobals "NotProgram" = some (some (.ref a6)))
    (e7 : PySem.W.nsIn K mainGlobals "NotPaper" = some (some (.ref a7)))
    (e8 : PySem.W.nsIn K mainGlobals "BadNumber" = some (some (.ref a8)))
    (e9 : PySem.W.nsIn K mainGlobals "NoAnswer" = some (some (.ref a9)))
    (e10 : PySem.W.nsIn K mainGlobals "TooLarge" = some (some (.ref a10)))
    (e11 : PySem.W.nsIn K mainGlobals "Books" = some (some (.ref a11)))
    (e12 : PySem.W.nsIn K mainGlobals "is_outlet" = some (some (.ref a12)))
    (l12 : K.lookup a12 = some ⟨oc12, od12, .func (PySem.W.fnOf "is_outlet" "is_outlet" (defArgs s_is_outlet) (defBody s_is_outlet) (defScope s_is_outlet) .none kV12 dc12 pm12 an12 cd12 ct12), sl12⟩)
    (c12 : PySem.W.codeIn K cd12 "is_outlet" = true)
    (k12 : PySem.W.keepIn K (.ref a12) = true)
    (e13 : PySem.W.nsIn K mainGlobals "is_register" = some (some (.ref a13)))
    (l13 : K.lookup a13 = some ⟨oc13, od13, .func (PySem.W.fnOf "is_register" "is_register" (defArgs s_is_register) (defBody s_is_register) (defScope s_is_register) .none kV13 dc13 pm13 an13 cd13 ct13), sl13⟩)
    (c13 : PySem.W.codeIn K cd13 "is_register" = true)
    (k13 : PySem.W.keepIn K (.ref a13) = true)
    (e14 : PySem.W.nsIn K mainGlobals "is_kind" = some (some (.ref a14)))
    (l14 : K.lookup a14 = some ⟨oc14, od14, .func (PySem.W.fnOf "is_kind" "is_kind" (defArgs s_is_kind) (defBody s_is_kind) (defScope s_is_kind) .none kV14 dc14 pm14 an14 cd14 ct14), sl14⟩)
    (c14 : PySem.W.codeIn K cd14 "is_kind" = true)
    (k14 : PySem.W.keepIn K (.ref a14) = true)
    (e15 : PySem.W.nsIn K mainGlobals "is_program" = some (some (.ref a15)))
    (l15 : K.lookup a15 = some ⟨oc15, od15, .func (PySem.W.fnOf "is_program" "is_program" (defArgs s_is_program) (defBody s_is_program) (defScope s_is_program) .none kV15 dc15 pm15 an15 cd15 ct15), sl15⟩)
    (c15 : PySem.W.codeIn K cd15 "is_program" = true)
    (k15 : PySem.W.keepIn K (.ref a15) = true)
    (e16 : PySem.W.nsIn K mainGlobals "check_program" = some (some (.ref a16)))
    (l16 : K.lookup a16 = some ⟨oc16, od16, .func (PySem.W.fnOf "check_program" "check_program" (defArgs s_check_program) (defBody s_check_program) (defScope s_check_program) .none kV16 dc16 pm16 an16 cd16 ct16), sl16⟩)
    (c16 : PySem.W.codeIn K cd16 "check_program" = true)
    (k16 : PySem.W.keepIn K (.ref a16) = true)
    (e17 : PySem.W.nsIn K mainGlobals "fits" = some (some (.ref a17)))
    (l17 : K.lookup a17 = some ⟨oc17, od17, .func (PySem.W.fnOf "fits" "fits" (defArgs s_fits) (defBody s_fits) (defScope s_fits) .none kV17 dc17 pm17 an17 cd17 ct17), sl17⟩)
    (c17 : PySem.W.codeIn K cd17 "fits" = true)
    (k17 : PySem.W.keepIn K (.ref a17) = true)
    (e18 : PySem.W.nsIn K mainGlobals "is_level" = some (some (.ref a18)))
    (l18 : K.lookup a18 = some ⟨oc18, od18, .func (PySem.W.fnOf "is_level" "is_level" (defArgs s_is_level) (defBody s_is_level) (defScope s_is_level) .none kV18 dc18 pm18 an18 cd18 ct18), sl18⟩)
    (c18 : PySem.W.codeIn K cd18 "is_level" = true)
    (k18 : PySem.W.keepIn K (.ref a18) = true)
    (e19 : PySem.W.nsIn K mainGlobals "check_level" = some (some (.ref a19)))
    (l19 : K.lookup a19 = some ⟨oc19, od19, .func (PySem.W.fnOf "check_level" "check_level" (defArgs s_check_level) (defBody s_check_level) (defScope s_check_level) .none kV19 dc19 pm19 an19 cd19 ct19), sl19⟩)
    (c19 : PySem.W.codeIn K cd19 "check_level" = true)
    (k19 : PySem.W.keepIn K (.ref a19) = true)
    (e20 : PySem.W.nsIn K mainGlobals "are_kinds" = some (some (.ref a20)))
    (l20 : K.lookup a20 = some ⟨oc20, od20, .func (PySem.W.fnOf "are_kinds" "are_kinds" (defArgs s_are_kinds) (defBody s_are_kinds) (defScope s_are_kinds) .none kV20 dc20 pm20 an20 cd20 ct20), sl20⟩)
    (c20 : PySem.W.codeIn K cd20 "are_kinds" = true)
    (k20 : PySem.W.keepIn K (.ref a20) = true)
    (e21 : PySem.W.nsIn K mainGlobals "check_row" = some (some (.ref a21)))
    (l21 : K.lookup a21 = some ⟨oc21, od21, .func (PySem.W.fnOf "check_row" "check_row" (defArgs s_check_row) (defBody s_check_row) (defScope s_check_row) .none kV21 dc21 pm21 an21 cd21 ct21), sl21⟩)
    (c21 : PySem.W.codeIn K cd21 "check_row" = true)
    (k21 : PySem.W.keepIn K (.ref a21) = true)
    (e22 : PySem.W.nsIn K mainGlobals "levels_of" = some (some (.ref a22)))
    (l22 : K.lookup a22 = some ⟨oc22, od22, .func (PySem.W.fnOf "levels_of" "levels_of" (defArgs s_levels_of) (defBody s_levels_of) (defScope s_levels_of) .none kV22 dc22 pm22 an22 cd22 ct22), sl22⟩)
    (c22 : PySem.W.codeIn K cd22 "levels_of" = true)
    (k22 : PySem.W.keepIn K (.ref a22) = true)
    (e23 : PySem.W.findIn K (.ref a11) "__init__" = some (some (.ref a23)))
    (i23 : PySem.W.isFn K (.ref a23) = true)
    (l23 : K.lookup a23 = some ⟨oc23, od23, .func (PySem.W.fnOf "__init__" "Books.__init__" (defArgs s_Books_init) (defBody s_Books_init) (defScope s_Books_init) .none kV23 dc23 pm23 an23 cd23 ct23), sl23⟩)
    (c23 : PySem.W.codeIn K cd23 "Books.__init__" = true)
    (k23 : PySem.W.keepIn K (.ref a23) = true)
    (e24 : PySem.W.findIn K (.ref a11) "put" = some (some (.ref a24)))
    (i24 : PySem.W.isFn K (.ref a24) = true)
    (l24 : K.lookup a24 = some ⟨oc24, od24, .func (PySem.W.fnOf "put" "Books.put" (defArgs s_Books_put) (defBody s_Books_put) (defScope s_Books_put) .none kV24 dc24 pm24 an24 cd24 ct24), sl24⟩)
    (c24 : PySem.W.codeIn K cd24 "Books.put" = true)
    (k24 : PySem.W.keepIn K (.ref a24) = true)
    (e25 : PySem.W.findIn K (.ref a11) "book" = some (some (.ref a25)))
    (i25 : PySem.W.isFn K (.ref a25) = true)
    (l25 : K.lookup a25 = some ⟨oc25, od25, .func (PySem.W.fnOf "book" "Books.book" (defArgs s_Books_book) (defBody s_Books_book) (defScope s_Books_book) .none kV25 dc25 pm25 an25 cd25 ct25), sl25⟩)
    (c25 : PySem.W.codeIn K cd25 "Books.book" = true)
    (k25 : PySem.W.keepIn K (.ref a25) = true)
    (e26 : PySem.W.findIn K (.ref a11) "told" = some (some (.ref a26)))
    (i26 : PySem.W.isFn K (.ref a26) = true)
    (l26 : K.lookup a26 = some ⟨oc26, od26, .func (PySem.W.fnOf "told" "Books.told" (defArgs s_Books_told) (defBody s_Books_told) (defScope s_Books_told) .none kV26 dc26 pm26 an26 cd26 ct26), sl26⟩)
    (c26 : PySem.W.codeIn K cd26 "Books.told" = true)
    (k26 : PySem.W.keepIn K (.ref a26) = true)
    (e27 : PySem.W.nsIn K mainGlobals "end_at" = some (some (.ref a27)))
    (l27 : K.lookup a27 = some ⟨oc27, od27, .func (PySem.W.fnOf "end_at" "end_at" (defArgs s_end_at) (defBody s_end_at) (defScope s_end_at) .none kV27 dc27 pm27 an27 cd27 ct27), sl27⟩)
    (c27 : PySem.W.codeIn K cd27 "end_at" = true)
    (k27 : PySem.W.keepIn K (.ref a27) = true)
    (e28 : PySem.W.nsIn K mainGlobals "end_from" = some (some (.ref a28)))
    (l28 : K.lookup a28 = some ⟨oc28, od28, .func (PySem.W.fnOf "end_from" "end_from" (defArgs s_end_from) (defBody s_end_from) (defScope s_end_from) .none kV28 dc28 pm28 an28 cd28 ct28), sl28⟩)
    (c28 : PySem.W.codeIn K cd28 "end_from" = true)
    (k28 : PySem.W.keepIn K (.ref a28) = true)
    (e29 : PySem.W.nsIn K mainGlobals "first_apart" = some (some (.ref a29)))
    (l29 : K.lookup a29 = some ⟨oc29, od29, .func (PySem.W.fnOf "first_apart" "first_apart" (defArgs s_first_apart) (defBody s_first_apart) (defScope s_first_apart) .none kV29 dc29 pm29 an29 cd29 ct29), sl29⟩)
    (c29 : PySem.W.codeIn K cd29 "first_apart" = true)
    (k29 : PySem.W.keepIn K (.ref a29) = true)
    (e30 : PySem.W.nsIn K mainGlobals "are_same" = some (some (.ref a30)))
    (l30 : K.lookup a30 = some ⟨oc30, od30, .func (PySem.W.fnOf "are_same" "are_same" (defArgs s_are_same) (defBody s_are_same) (defScope s_are_same) .none kV30 dc30 pm30 an30 cd30 ct30), sl30⟩)
    (c30 : PySem.W.codeIn K cd30 "are_same" = true)
    (k30 : PySem.W.keepIn K (.ref a30) = true)
    (e31 : PySem.W.nsIn K mainGlobals "kind_pairs" = some (some (.ref a31)))
    (l31 : K.lookup a31 = some ⟨oc31, od31, .func (PySem.W.fnOf "kind_pairs" "kind_pairs" (defArgs s_kind_pairs) (defBody s_kind_pairs) (defScope s_kind_pairs) .none kV31 dc31 pm31 an31 cd31 ct31), sl31⟩)
    (c31 : PySem.W.codeIn K cd31 "kind_pairs" = true)
    (k31 : PySem.W.keepIn K (.ref a31) = true)
    (e32 : PySem.W.nsIn K mainGlobals "commuting" = some (some (.ref a32)))
    (l32 : K.lookup a32 = some ⟨oc32, od32, .func (PySem.W.fnOf "commuting" "commuting" (defArgs s_commuting) (defBody s_commuting) (defScope s_commuting) .none kV32 dc32 pm32 an32 cd32 ct32), sl32⟩)
    (c32 : PySem.W.codeIn K cd32 "commuting" = true)
    (k32 : PySem.W.keepIn K (.ref a32) = true)
    (e33 : PySem.W.nsIn K mainGlobals "_law_number" = some (some (.ref a33)))
    (l33 : K.lookup a33 = some ⟨oc33, od33, .func (PySem.W.fnOf "_law_number" "_law_number" (defArgs s_u_law_number) (defBody s_u_law_number) (defScope s_u_law_number) .none kV33 dc33 pm33 an33 cd33 ct33), sl33⟩)
    (c33 : PySem.W.codeIn K cd33 "_law_number" = true)
    (k33 : PySem.W.keepIn K (.ref a33) = true)
    (e34 : PySem.W.nsIn K mainGlobals "_law_draws" = some (some (.ref a34)))
    (l34 : K.lookup a34 = some ⟨oc34, od34, .func (PySem.W.fnOf "_law_draws" "_law_draws" (defArgs s_u_law_draws) (defBody s_u_law_draws) (defScope s_u_law_draws) .none kV34 dc34 pm34 an34 cd34 ct34), sl34⟩)
    (c34 : PySem.W.codeIn K cd34 "_law_draws" = true)
    (k34 : PySem.W.keepIn K (.ref a34) = true)
    (e35 : PySem.W.nsIn K mainGlobals "_law_next" = some (some (.ref a35)))
    (l35 : K.lookup a35 = some ⟨oc35, od35, .func (PySem.W.fnOf "_law_next" "_law_next" (defArgs s_u_law_next) (defBody s_u_law_next) (defScope s_u_law_next) .none kV35 dc35 pm35 an35 cd35 ct35), sl35⟩)
    (c35 : PySem.W.codeIn K cd35 "_law_next" = true)
    (k35 : PySem.W.keepIn K (.ref a35) = true)
    (e36 : PySem.W.nsIn K mainGlobals "_law_more" = some (some (.ref a36)))
    (l36 : K.lookup a36 = some ⟨oc36, od36, .func (PySem.W.fnOf "_law_more" "_law_more" (defArgs s_u_law_more) (defBody s_u_law_more) (defScope s_u_law_more) .none kV36 dc36 pm36 an36 cd36 ct36), sl36⟩)
    (c36 : PySem.W.codeIn K cd36 "_law_more" = true)
    (k36 : PySem.W.keepIn K (.ref a36) = true)
    (e37 : PySem.W.nsIn K mainGlobals "_law_pick" = some (some (.ref a37)))
    (l37 : K.lookup a37 = some ⟨oc37, od37, .func (PySem.W.fnOf "_law_pick" "_law_pick" (defArgs s_u_law_pick) (defBody s_u_law_pick) (defScope s_u_law_pick) .none kV37 dc37 pm37 an37 cd37 ct37), sl37⟩)
    (c37 : PySem.W.codeIn K cd37 "_law_pick" = true)
    (k37 : PySem.W.keepIn K (.ref a37) = true)
    (e38 : PySem.W.nsIn K mainGlobals "_law_kind" = some (some (.ref a38)))
    (l38 : K.lookup a38 = some ⟨oc38, od38, .func (PySem.W.fnOf "_law_kind" "_law_kind" (defArgs s_u_law_kind) (defBody s_u_law_kind) (defScope s_u_law_kind) .none kV38 dc38 pm38 an38 cd38 ct38), sl38⟩)
    (c38 : PySem.W.codeIn K cd38 "_law_kind" = true)
    (k38 : PySem.W.keepIn K (.ref a38) = true)
    (e39 : PySem.W.nsIn K mainGlobals "_law_program" = some (some (.ref a39)))
    (l39 : K.lookup a39 = some ⟨oc39, od39, .func (PySem.W.fnOf "_law_program" "_law_program" (defArgs s_u_law_program) (defBody s_u_law_program) (defScope s_u_law_program) .none kV39 dc39 pm39 an39 cd39 ct39), sl39⟩)
    (c39 : PySem.W.codeIn K cd39 "_law_program" = true)
    (k39 : PySem.W.keepIn K (.ref a39) = true)
    (e40 : PySem.W.nsIn K mainGlobals "_law_end" = some (some (.ref a40)))
    (l40 : K.lookup a40 = some ⟨oc40, od40, .func (PySem.W.fnOf "_law_end" "_law_end" (defArgs s_u_law_end) (defBody s_u_law_end) (defScope s_u_law_end) .none kV40 dc40 pm40 an40 cd40 ct40), sl40⟩)
    (c40 : PySem.W.codeIn K cd40 "_law_end" = true)
    (k40 : PySem.W.keepIn K (.ref a40) = true)
    (e41 : PySem.W.nsIn K mainGlobals "_law_levels" = some (some (.ref a41)))
    (l41 : K.lookup a41 = some ⟨oc41, od41, .func (PySem.W.fnOf "_law_levels" "_law_levels" (defArgs s_u_law_levels) (defBody s_u_law_levels) (defScope s_u_law_levels) .none kV41 dc41 pm41 an41 cd41 ct41), sl41⟩)
    (c41 : PySem.W.codeIn K cd41 "_law_levels" = true)
    (k41 : PySem.W.keepIn K (.ref a41) = true)
    (e42 : PySem.W.nsIn K mainGlobals "_law_row" = some (some (.ref a42)))
    (l42 : K.lookup a42 = some ⟨oc42, od42, .func (PySem.W.fnOf "_law_row" "_law_row" (defArgs s_u_law_row) (defBody s_u_law_row) (defScope s_u_law_row) .none kV42 dc42 pm42 an42 cd42 ct42), sl42⟩)
    (c42 : PySem.W.codeIn K cd42 "_law_row" = true)
    (k42 : PySem.W.keepIn K (.ref a42) = true)
    (e43 : PySem.W.nsIn K mainGlobals "_law_account" = some (some (.ref a43)))
    (l43 : K.lookup a43 = some ⟨oc43, od43, .func (PySem.W.fnOf "_law_account" "_law_account" (defArgs s_u_law_account) (defBody s_u_law_account) (defScope s_u_law_account) .none kV43 dc43 pm43 an43 cd43 ct43), sl43⟩)
    (c43 : PySem.W.codeIn K cd43 "_law_account" = true)
    (k43 : PySem.W.keepIn K (.ref a43) = true)
    (e44 : PySem.W.nsIn K mainGlobals "_law_asked" = some (some (.ref a44)))
    (l44 : K.lookup a44 = some ⟨oc44, od44, .func (PySem.W.fnOf "_law_asked" "_law_asked" (defArgs s_u_law_asked) (defBody s_u_law_asked) (defScope s_u_law_asked) .none kV44 dc44 pm44 an44 cd44 ct44), sl44⟩)
    (c44 : PySem.W.codeIn K cd44 "_law_asked" = true)
    (k44 : PySem.W.keepIn K (.ref a44) = true)
    (e45 : PySem.W.nsIn K mainGlobals "_law_wide" = some (some (.ref a45)))
    (l45 : K.lookup a45 = some ⟨oc45, od45, .func (PySem.W.fnOf "_law_wide" "_law_wide" (defArgs s_u_law_wide) (defBody s_u_law_wide) (defScope s_u_law_wide) .none kV45 dc45 pm45 an45 cd45 ct45), sl45⟩)
    (c45 : PySem.W.codeIn K cd45 "_law_wide" = true)
    (k45 : PySem.W.keepIn K (.ref a45) = true)
    (e46 : PySem.W.nsIn K mainGlobals "_law_apart" = some (some (.ref a46)))
    (l46 : K.lookup a46 = some ⟨oc46, od46, .func (PySem.W.fnOf "_law_apart" "_law_apart" (defArgs s_u_law_apart) (defBody s_u_law_apart) (defScope s_u_law_apart) .none kV46 dc46 pm46 an46 cd46 ct46), sl46⟩)
    (c46 : PySem.W.codeIn K cd46 "_law_apart" = true)
    (k46 : PySem.W.keepIn K (.ref a46) = true)
    (e47 : PySem.W.nsIn K mainGlobals "law" = some (some (.ref a47)))
    (l47 : K.lookup a47 = some ⟨oc47, od47, .func (PySem.W.fnOf "law" "law" (defArgs s_law) (defBody s_law) (defScope s_law) .none kV47 dc47 pm47 an47 cd47 ct47), sl47⟩)
    (c47 : PySem.W.codeIn K cd47 "law" = true)
    (k47 : PySem.W.keepIn K (.ref a47) = true)
    (pg11 : PySem.W.plainGet K a11 Str.empty = true)
    (hd11 : PySem.W.hasDictIn K a11 = true)
    (po11 : PySem.W.plainOver K a11 = true)
    (sa11 : PySem.W.findIn K (.ref a11) "__setattr__" = some (some (.builtin "object.__setattr__")))
    (mk11 : PySem.W.makesIn K a11 = true)
    (kc11 : PySem.W.keepIn K (.ref a11) = true)
    (n_Books_level : PySem.W.findIn K (.ref a11) "level" = some none)
    (n_Books_pay : PySem.W.findIn K (.ref a11) "pay" = some none)
    (n_Books_registers : PySem.W.findIn K (.ref a11) "registers" = some none)
    (b_all : PySem.W.nsIn K mainGlobals "all" = some none)
    (b_enumerate : PySem.W.nsIn K mainGlobals "enumerate" = some none)
    (b_int : PySem.W.nsIn K mainGlobals "int" = some none)
    (b_len : PySem.W.nsIn K mainGlobals "len" = some none)
    (b_list : PySem.W.nsIn K mainGlobals "list" = some none)
    (b_max : PySem.W.nsIn K mainGlobals "max" = some none)
    (b_min : PySem.W.nsIn K mainGlobals "min" = some none)
    (b_range : PySem.W.nsIn K mainGlobals "range" = some none)
    (b_repr : PySem.W.nsIn K mainGlobals "repr" = some none)
    (b_tuple : PySem.W.nsIn K mainGlobals "tuple" = some none)
    (b_zip : PySem.W.nsIn K mainGlobals "zip" = some none)
    (b_isinstance : PySem.W.nsIn K mainGlobals "isinstance" = some none)
    (g_MOST_AMOUNT : PySem.W.nsIn K mainGlobals "MOST_AMOUNT" = some (some (.int (99) t_MOST_AMOUNT)))
    (g_MOST_BOUND : PySem.W.nsIn K mainGlobals "MOST_BOUND" = some (some (.int (400) t_MOST_BOUND)))
    (g_MOST_ENTRIES : PySem.W.nsIn K mainGlobals "MOST_ENTRIES" = some (some (.int (4) t_MOST_ENTRIES)))
    (g_MOST_FACTOR : PySem.W.nsIn K mainGlobals "MOST_FACTOR" = some (some (.int (9) t_MOST_FACTOR)))
    (g_MOST_KINDS : PySem.W.nsIn K mainGlobals "MOST_KINDS" = some (some (.int (6) t_MOST_KINDS)))
    (g_MOST_LEVELS : PySem.W.nsIn K mainGlobals "MOST_LEVELS" = some (some (.int (2000) t_MOST_LEVELS)))
    (g_MOST_PURSES : PySem.W.nsIn K mainGlobals "MOST_PURSES" = some (some (.int (3) t_MOST_PURSES)))
    (g_MOST_REGISTERS : PySem.W.nsIn K mainGlobals "MOST_REGISTERS" = some (some (.int (3) t_MOST_REGISTERS)))
    (g_NOWHERE : PySem.W.nsIn K mainGlobals "NOWHERE" = some (some (.int (-1) t_NOWHERE)))
    (x8 : PySem.W.excIn K a8 [.type "ValueError", .type "Exception", .type "BaseException", .type "object"] "ValueError.__new__" = true)
    (q8 : PySem.W.keepIn K (.ref a8) = true)
    (s8 : PySem.W.subIn K (.ref a8) (.type "BaseException") = some true)
    (ty8 : PySem.W.typeIn K (.ref a8) = some (.type "type"))
    (x6 : PySem.W.excIn K a6 [.type "ValueError", .type "Exception", .type "BaseException", .type "object"] "ValueError.__new__" = true)
    (q6 : PySem.W.keepIn K (.ref a6) = true)
    (s6 : PySem.W.subIn K (.ref a6) (.type "BaseException") = some true)
    (ty6 : PySem.W.typeIn K (.ref a6) = some (.type "type"))
    (xg6 : PySem.W.findIn K (.ref a6) "__getattribute__" = some (some (.builtin "BaseException.__getattribute__")))
    (xk6 : PySem.W.findIn K (.ref a6) "__getattr__" = some none)
    (xd6 : PySem.W.hasDictIn K a6 = true)
    (xa6 : PySem.W.findIn K (.ref a6) "__class__" = some (some (.builtin "object.__class__")))
    (xm6 : PySem.W.mroIn K a6 (.type "object") = some true)
    (xg8 : PySem.W.findIn K (.ref a8) "__getattribute__" = some (some (.builtin "BaseException.__getattribute__")))
    (xk8 : PySem.W.findIn K (.ref a8) "__getattr__" = some none)
    (xd8 : PySem.W.hasDictIn K a8 = true)
    (xa8 : PySem.W.findIn K (.ref a8) "__class__" = some (some (.builtin "object.__class__")))
    (xm8 : PySem.W.mroIn K a8 (.type "object") = some true)
    (xn : PySem.W.specialIn K (.builtin "object.__class__") "__get__" = some (some (.builtin "getset_descriptor.__get__")))
    (xt : PySem.W.takesIn K (.builtin "object.__class__") = some true)
    (sb0 : PySem.W.subIn K (.ref a0) (.type "BaseException") = some true)
    (ic0 : PySem.W.isClsIn K a0 = true)
    (tc0 : PySem.W.typeIn K (.ref a0) = some (.type "type"))
    (u6_0 : PySem.W.subIn K (.ref a6) (.ref a0) = some true)
    (u8_0 : PySem.W.subIn K (.ref a8) (.ref a0) = some true)
    (ic1 : PySem.W.isClsIn K a1 = true)
    (tc1 : PySem.W.typeIn K (.ref a1) = some (.type "type"))
    (u6_1 : PySem.W.subIn K (.ref a6) (.ref a1) = some false)
    (u8_1 : PySem.W.subIn K (.ref a8) (.ref a1) = some false)
    (ic2 : PySem.W.isClsIn K a2 = true)
    (tc2 : PySem.W.typeIn K (.ref a2) = some (.type "type"))
    (u6_2 : PySem.W.subIn K (.ref a6) (.ref a2) = some false)
    (u8_2 : PySem.W.subIn K (.ref a8) (.ref a2) = some false)
    (ic3 : PySem.W.isClsIn K a3 = true)
    (tc3 : PySem.W.typeIn K (.ref a3) = some (.type "type"))
    (u6_3 : PySem.W.subIn K (.ref a6) (.ref a3) = some false)
    (u8_3 : PySem.W.subIn K (.ref a8) (.ref a3) = some false)
    (ic4 : PySem.W.isClsIn K a4 = true)
    (tc4 : PySem.W.typeIn K (.ref a4) = some (.type "type"))
    (u6_4 : PySem.W.subIn K (.ref a6) (.ref a4) = some false)
    (u8_4 : PySem.W.subIn K (.ref a8) (.ref a4) = some false)
    (ic5 : PySem.W.isClsIn K a5 = true)
    (tc5 : PySem.W.typeIn K (.ref a5) = some (.type "type"))
    (u6_5 : PySem.W.subIn K (.ref a6) (.ref a5) = some false)
    (u8_5 : PySem.W.subIn K (.ref a8) (.ref a5) = some false)
    (ic6 : PySem.W.isClsIn K a6 = true)
    (tc6 : PySem.W.typeIn K (.ref a6) = some (.type "type"))
    (u6_6 : PySem.W.subIn K (.ref a6) (.ref a6) = some true)
    (u8_6 : PySem.W.subIn K (.ref a8) (.ref a6) = some false)
    (ic7 : PySem.W.isClsIn K a7 = true)
    (tc7 : PySem.W.typeIn K (.ref a7) = some (.type "type"))
    (u6_7 : PySem.W.subIn K (.ref a6) (.ref a7) = some false)
    (u8_7 : PySem.W.subIn K (.ref a8) (.ref a7) = some false)
    (ic8 : PySem.W.isClsIn K a8 = true)
    (tc8 : PySem.W.typeIn K (.ref a8) = some (.type "type"))
    (u6_8 : PySem.W.subIn K (.ref a6) (.ref a8) = some false)
    (u8_8 : PySem.W.subIn K (.ref a8) (.ref a8) = some true)
    (ic9 : PySem.W.isClsIn K a9 = true)
    (tc9 : PySem.W.typeIn K (.ref a9) = some (.type "type"))
    (u6_9 : PySem.W.subIn K (.ref a6) (.ref a9) = some false)
    (u8_9 : PySem.W.subIn K (.ref a8) (.ref a9) = some false)
    (ic10 : PySem.W.isClsIn K a10 = true)
    (tc10 : PySem.W.typeIn K (.ref a10) = some (.type "type"))
    (u6_10 : PySem.W.subIn K (.ref a6) (.ref a10) = some false)
    (u8_10 : PySem.W.subIn K (.ref a8) (.ref a10) = some false)
    : ∃ aa : Nat → Addr, Txt K mg aa ∧ TxK K mg aa ∧ fa = aa 47 := by
  have e := hfa.symm.trans (mg_of X G e47)
  injection e with e; injection e with e
  refine ⟨adr [a0, a1, a2, a3, a4, a5, a6, a7, a8, a9, a10, a11, a12, a13, a14, a15, a16, a17, a18, a19, a20, a21, a22, a23, a24, a25, a26, a27, a28, a29, a30, a31, a32, a33, a34, a35, a36, a37, a38, a39, a40, a41, a42, a43, a44, a45, a46, a47], ?_, ?_, e⟩
  · exact ⟨⟨mg_of X G e6, x6, q6, s6, ty6⟩,
      ⟨mg_of X G e8, x8, q8, s8, ty8⟩,
      ⟨⟨pg11, hd11, po11, sa11⟩, mk11, kc11, mg_of X G e11⟩,
      n_Books_level,
      n_Books_pay,
      n_Books_registers,
      mg_none_of X G b_all,
      mg_none_of X G b_enumerate,
      mg_none_of X G b_int,
      mg_none_of X G b_len,
      mg_none_of X G b_list,
      mg_none_of X G b_max,
      mg_none_of X G b_min,
      mg_none_of X G b_range,
      mg_none_of X G b_repr,
      mg_none_of X G b_tuple,
      mg_none_of X G b_zip,
      ⟨_, mg_of X G g_MOST_AMOUNT⟩,
      ⟨_, mg_of X G g_MOST_BOUND⟩,
      ⟨_, mg_of X G g_MOST_ENTRIES⟩,
      ⟨_, mg_of X G g_MOST_FACTOR⟩,
      ⟨_, mg_of X G g_MOST_KINDS⟩,
      ⟨_, mg_of X G g_MOST_LEVELS⟩,
      ⟨_, mg_of X G g_MOST_PURSES⟩,
      ⟨_, mg_of X G g_MOST_REGISTERS⟩,
      ⟨_, mg_of X G g_NOWHERE⟩,
      ⟨_, fun_mk l12 c12 k12, (fun_mk l12 c12 k12).binds fun _ _ _ _ _ _ us hl => match us, hl with | [_, _, _], _ => rfl⟩,
      mg_of X G e12,
      ⟨_, fun_mk l13 c13 k13, (fun_mk l13 c13 k13).binds fun _ _ _ _ _ _ us hl => match us, hl with | [_, _, _], _ => rfl⟩,
      mg_of X G e13,
      ⟨_, fun_mk l14 c14 k14, (fun_mk l14 c14 k14).binds fun _ _ _ _ _ _ us hl => match us, hl with | [_, _], _ => rfl⟩,
      mg_of X G e14,
      ⟨_, fun_mk l15 c15 k15, (fun_mk l15 c15 k15).binds fun _ _ _ _ _ _ us hl => match us, hl with | [_], _ => rfl⟩,
      mg_of X G e15,
      ⟨_, fun_mk l16 c16 k16, (fun_mk l16 c16 k16).binds fun _ _ _ _ _ _ us hl => match us, hl with | [_], _ => rfl⟩,
      mg_of X G e16,
      ⟨_, fun_mk l17 c17 k17, (fun_mk l17 c17 k17).binds fun _ _ _ _ _ _ us hl => match us, hl with | [_, _], _ => rfl⟩,
      mg_of X G e17,
      ⟨_, fun_mk l18 c18 k18, (fun_mk l18 c18 k18).binds fun _ _ _ _ _ _ us hl => match us, hl with | [_, _], _ => rfl⟩,
      mg_of X G e18,
      ⟨_, fun_mk l19 c19 k19, (fun_mk l19 c19 k19).binds fun _ _ _ _ _ _ us hl => match us, hl with | [_, _], _ => rfl⟩,
      mg_of X G e19,
      ⟨_, fun_mk l20 c20 k20, (fun_mk l20 c20 k20).binds fun _ _ _ _ _ _ us hl => match us, hl with | [_, _], _ => rfl⟩,
      mg_of X G e20,
      ⟨_, fun_mk l21 c21 k21, (fun_mk l21 c21 k21).binds fun _ _ _ _ _ _ us hl => match us, hl with | [_, _], _ => rfl⟩,
      mg_of X G e21,
      ⟨_, fun_mk l22 c22 k22, (fun_mk l22 c22 k22).binds fun _ _ _ _ _ _ us hl => match us, hl with | [_], _ => rfl⟩,
      mg_of X G e22,
      ⟨_, fun_mk l23 c23 k23, (fun_mk l23 c23 k23).binds fun _ _ _ _ _ _ us hl => match us, hl with | [_, _, _], _ => rfl⟩,
      ⟨e23, i23, k23⟩,
      ⟨_, fun_mk l24 c24 k24, (fun_mk l24 c24 k24).binds fun _ _ _ _ _ _ us hl => match us, hl with | [_, _, _], _ => rfl⟩,
      ⟨e24, i24, k24⟩,
      ⟨_, fun_mk l25 c25 k25, (fun_mk l25 c25 k25).binds fun _ _ _ _ _ _ us hl => match us, hl with | [_, _], _ => rfl⟩,
      ⟨e25, i25, k25⟩,
      ⟨_, fun_mk l26 c26 k26, (fun_mk l26 c26 k26).binds fun _ _ _ _ _ _ us hl => match us, hl with | [_], _ => rfl⟩,
      ⟨e26, i26, k26⟩,
      ⟨_, fun_mk l27 c27 k27, (fun_mk l27 c27 k27).binds fun _ _ _ _ _ _ us hl => match us, hl with | [_, _, _], _ => rfl⟩,
      mg_of X G e27,
      ⟨_, fun_mk l28 c28 k28, (fun_mk l28 c28 k28).binds fun _ _ _ _ _ _ us hl => match us, hl with | [_, _, _], _ => rfl⟩,
      mg_of X G e28,
      ⟨_, fun_mk l29 c29 k29, (fun_mk l29 c29 k29).binds fun _ _ _ _ _ _ us hl => match us, hl with | [_, _, _], _ => rfl⟩,
      mg_of X G e29,
      ⟨_, fun_mk l30 c30 k30, (fun_mk l30 c30 k30).binds fun _ _ _ _ _ _ us hl => match us, hl with | [_, _, _], _ => rfl⟩,
      mg_of X G e30,
      ⟨_, fun_mk l31 c31 k31, (fun_mk l31 c31 k31).binds fun _ _ _ _ _ _ us hl => match us, hl with | [_], _ => rfl⟩,
      mg_of X G e31,
      ⟨_, fun_mk l32 c32 k32, (fun_mk l32 c32 k32).binds fun _ _ _ _ _ _ us hl => match us, hl with | [_], _ => rfl⟩,
      mg_of X G e32,
      ⟨_, fun_mk l33 c33 k33, (fun_mk l33 c33 k33).binds fun _ _ _ _ _ _ us hl => match us, hl with | [_], _ => rfl⟩,
      mg_of X G e33,
      ⟨_, fun_mk l34 c34 k34, (fun_mk l34 c34 k34).binds fun _ _ _ _ _ _ us hl => match us, hl with | [_], _ => rfl⟩,
      mg_of X G e34,
      ⟨_, fun_mk l35 c35 k35, (fun_mk l35 c35 k35).binds fun _ _ _ _ _ _ us hl => match us, hl with | [_], _ => rfl⟩,
      mg_of X G e35,
      ⟨_, fun_mk l36 c36 k36, (fun_mk l36 c36 k36).binds fun _ _ _ _ _ _ us hl => match us, hl with | [_, _], _ => rfl⟩,
      mg_of X G e36,
      ⟨_, fun_mk l37 c37 k37, (fun_mk l37 c37 k37).binds fun _ _ _ _ _ _ us hl => match us, hl with | [_, _], _ => rfl⟩,
      mg_of X G e37,
      ⟨_, fun_mk l38 c38 k38, (fun_mk l38 c38 k38).binds fun _ _ _ _ _ _ us hl => match us, hl with | [_], _ => rfl⟩,
      mg_of X G e38,
      ⟨_, fun_mk l39 c39 k39, (fun_mk l39 c39 k39).binds fun _ _ _ _ _ _ us hl => match us, hl with | [_], _ => rfl⟩,
      mg_of X G e39,
      ⟨_, fun_mk l40 c40 k40, (fun_mk l40 c40 k40).binds fun _ _ _ _ _ _ us hl => match us, hl with | [_, _, _], _ => rfl⟩,
      mg_of X G e40,
      ⟨_, fun_mk l41 c41 k41, (fun_mk l41 c41 k41).binds fun _ _ _ _ _ _ us hl => match us, hl with | [_], _ => rfl⟩,
      mg_of X G e41,
      ⟨_, fun_mk l42 c42 k42, (fun_mk l42 c42 k42).binds fun _ _ _ _ _ _ us hl => match us, hl with | [_, _, _], _ => rfl⟩,
      mg_of X G e42,
      ⟨_, fun_mk l43 c43 k43, (fun_mk l43 c43 k43).binds fun _ _ _ _ _ _ us hl => match us, hl with | [_, _], _ => rfl⟩,
      mg_of X G e43,
      ⟨_, fun_mk l44 c44 k44, (fun_mk l44 c44 k44).binds fun _ _ _ _ _ _ us hl => match us, hl with | [_, _, _, _], _ => rfl⟩,
      mg_of X G e44,
      ⟨_, fun_mk l45 c45 k45, (fun_mk l45 c45 k45).binds fun _ _ _ _ _ _ us hl => match us, hl with | [_, _], _ => rfl⟩,
      mg_of X G e45,
      ⟨_, fun_mk l46 c46 k46, (fun_mk l46 c46 k46).binds fun _ _ _ _ _ _ us hl => match us, hl with | [_, _, _], _ => rfl⟩,
      mg_of X G e46,
      ⟨_, fun_mk l47 c47 k47, (fun_mk l47 c47 k47).binds fun _ _ _ _ _ _ us hl => match us, hl with | [_], _ => rfl⟩,
      mg_of X G e47⟩
  · exact ⟨mg_none_of X G b_isinstance,
      mg_of X G e0,
      mg_of X G e1,
      mg_of X G e2,
      mg_of X G e3,
      mg_of X G e4,
      mg_of X G e5,
      mg_of X G e6,
      mg_of X G e7,
      mg_of X G e8,
      mg_of X G e9,
      mg_of X G e10,
      ⟨xg6, xk6, s6, xd6, xa6, xn, xt, xm6⟩,
      ⟨xg8, xk8, s8, xd8, xa8, xn, xt, xm8⟩,
      exm1_of sb0 ic0 tc0 u6_0,
      exm1_of sb0 ic0 tc0 u8_0,
      fun c hc => by
        rcases (by simpa using hc : c = 1 ∨ c = 2 ∨ c = 3 ∨ c = 4 ∨ c = 5 ∨ c = 6 ∨ c = 7 ∨ c = 8 ∨ c = 9 ∨ c = 10) with rfl | rfl | rfl | rfl | rfl | rfl | rfl | rfl | rfl | rfl
        · exact kit1_of u6_6 ic1 tc1 u6_1
        · exact kit1_of u6_6 ic2 tc2 u6_2
        · exact kit1_of u6_6 ic3 tc3 u6_3
        · exact kit1_of u6_6 ic4 tc4 u6_4
        · exact kit1_of u6_6 ic5 tc5 u6_5
        · exact kit1_of u6_6 ic6 tc6 u6_6
        · exact kit1_of u6_6 ic7 tc7 u6_7
        · exact kit1_of u6_6 ic8 tc8 u6_8
        · exact kit1_of u6_6 ic9 tc9 u6_9
        · exact kit1_of u6_6 ic10 tc10 u6_10,
      fun c hc => by
        rcases (by simpa using hc : c = 1 ∨ c = 2 ∨ c = 3 ∨ c = 4 ∨ c = 5 ∨ c = 6 ∨ c = 7 ∨ c = 8 ∨ c = 9 ∨ c = 10) with rfl | rfl | rfl | rfl | rfl | rfl | rfl | rfl | rfl | rfl
        · exact kit1_of u8_8 ic1 tc1 u8_1
        · exact kit1_of u8_8 ic2 tc2 u8_2
        · exact kit1_of u8_8 ic3 tc3 u8_3
        · exact kit1_of u8_8 ic4 tc4 u8_4
        · exact kit1_of u8_8 ic5 tc5 u8_5
        · exact kit1_of u8_8 ic6 tc6 u8_6
        · exact kit1_of u8_8 ic7 tc7 u8_7
        · exact kit1_of u8_8 ic8 tc8 u8_8
        · exact kit1_of u8_8 ic9 tc9 u8_9
        · exact kit1_of u8_8 ic10 tc10 u8_10⟩
end K69
end TP69F

section TP69G
set_option maxRecDepth 100000
set_option maxHeartbeats 8000000
namespace K69
open PySem PySem.Spec PyProof.Rows L2 DL
section
variable {P : Program} {w : World} {K : PySem.W.Frag} {mg : Str → Option Value} {base : Heap} {aa : Nat → Addr}
theorem law_all (T : Txt K mg aa) (T2 : TxK K mg aa) {f : Addr} (cdv : Value) (s : Shared) (H : Hp) (E : XK) (hr : Room 7 (callerA.deeper (envOfC "law" (defScope s_law) s.heap.objs.size f cdv))) :
    MB (cxOf (L2.CX P w) P w K mg base N_law "law" (defScope s_law) f cdv callerA [] s H E) aa (WF E) (defBody s_law) b_law := by
  have h_is_outlet := c_is_outlet (P := P) (w := w) (base := base) T 
  have h_is_kind := c_is_kind (P := P) (w := w) (base := base) T 
  have h_fits := c_fits (P := P) (w := w) (base := base) T 
  have h_are_kinds := c_are_kinds (P := P) (w := w) (base := base) T 
  have h_levels_of := c_levels_of (P := P) (w := w) (base := base) T 
  have h_Books_init := c_Books_init (P := P) (w := w) (base := base) T 
  have h_Books_put := c_Books_put (P := P) (w := w) (base := base) T 
  have h_Books_told := c_Books_told (P := P) (w := w) (base := base) T 
  have h_kind_pairs := c_kind_pairs (P := P) (w := w) (base := base) T 
  have h_u_law_number := c_u_law_number (P := P) (w := w) (base := base) T 
  have h_u_law_next := c_u_law_next (P := P) (w := w) (base := base) T 
  have h_u_law_end := c_u_law_end (P := P) (w := w) (base := base) T 
  have h_u_law_levels := c_u_law_levels (P := P) (w := w) (base := base) T 
  have h_u_law_account := c_u_law_account (P := P) (w := w) (base := base) T 
  have h_is_register := c_is_register (P := P) (w := w) (base := base) T h_is_outlet
  have h_check_row := c_check_row (P := P) (w := w) (base := base) T h_are_kinds
  have h_Books_book := c_Books_book (P := P) (w := w) (base := base) T h_Books_put
  have h_u_law_draws := c_u_law_draws (P := P) (w := w) (base := base) T h_u_law_number
  have h_u_law_more := c_u_law_more (P := P) (w := w) (base := base) T h_u_law_next
  have h_u_law_pick := c_u_law_pick (P := P) (w := w) (base := base) T h_u_law_next
  have h_u_law_row := c_u_law_row (P := P) (w := w) (base := base) T h_u_law_next
  have h_u_law_apart := c_u_law_apart (P := P) (w := w) (base := base) T h_u_law_levels h_u_law_end
  have h_is_program := c_is_program (P := P) (w := w) (base := base) T h_is_register h_is_kind
  have h_end_at := c_end_at (P := P) (w := w) (base := base) T h_Books_init h_Books_told h_Books_book
  have h_u_law_program := c_u_law_program (P := P) (w := w) (base := base) T h_u_law_pick h_u_law_next
  have h_u_law_wide := c_u_law_wide (P := P) (w := w) (base := base) T h_u_law_pick h_u_law_next
  have h_check_program := c_check_program (P := P) (w := w) (base := base) T h_is_program
  have h_is_level := c_is_level (P := P) (w := w) (base := base) T h_check_program h_fits
  have h_first_apart := c_first_apart (P := P) (w := w) (base := base) T h_check_program h_check_row h_levels_of h_end_at
  have h_check_level := c_check_level (P := P) (w := w) (base := base) T h_is_level
  have h_are_same := c_are_same (P := P) (w := w) (base := base) T h_first_apart
  have h_commuting := c_commuting (P := P) (w := w) (base := base) T h_check_program h_kind_pairs h_first_apart
  have h_end_from := c_end_from (P := P) (w := w) (base := base) T h_check_level h_check_row h_end_at
  have h_u_law_asked := c_u_law_asked (P := P) (w := w) (base := base) T T2 h_commuting h_are_same h_first_apart
  exact body_law T h_u_law_draws h_u_law_more h_u_law_account h_u_law_wide h_u_law_program h_u_law_row h_u_law_pick h_u_law_apart h_u_law_asked h_u_law_next h_end_from h_are_same h_commuting h_first_apart cdv s H E hr
end
/-- what is left: the plain law -/
def Plain : Prop := ∀ ns : List Int, ns.length ≤ 63 → ∃ μ, d_law [.li (ns.map D.int)] [] = .ok (.bl true) μ
theorem walk69 (truth : Plain) {l : PySem.W.OpenLaw} {q : Program} {loose : List Str} {XP : (Str → Option Value) → Heap → Prop} {YP : World → Heap → Prop} {d : DefRec} {K : Params → PySem.W.Frag} (hn : l.most = some 63) (hdf : d.params.defaults = [])
    (hY : ∀ (w : World) (h : Heap), YP w h → (K w.params).In h)
    (F : ∀ (w : World) (mg : Str → Option Value) (fa : Addr) (h : Heap), (K w.params).In h → h.Ns mainGlobals mg → mg d.name = some (.ref fa) → ∃ aa : Nat → Addr, Txt (K w.params) mg aa ∧ TxK (K w.params) mg aa ∧ fa = aa 47) :
    PySem.W.WalkO q loose XP YP l.row.toRowW d [] (fun f vs => PySem.call f vs) := by
  refine Att.attach_call hn hdf fun w s₀ s₁ mg mb fa o pm cd doc a vs ns G Y ho hd hcd hmg hobj hints hlen hg => ?_
  have KX := hY w _ Y
  obtain ⟨aa, T, T2, rfl⟩ := F w mg fa _ KX G.T.g hmg
  obtain ⟨fd, Fl, hb⟩ := T.f_law
  exact law_top (k := 7) (pr := "script") (m := b_law) KX G.T.g G.T.b G.T.builtins G.T.nolimit hg hobj hints (Nat.le_trans hlen (by decide)) ⟨rfl, by decide, by decide⟩ Fl sc_law
    (fun s u => by
      obtain ⟨oc, od, kV, doc2, pm2, an, cdv, ct, osl, rfl, lk, hcd2⟩ := Fl.ex
      exact .of_eq rfl)
    (fun base _ _ cdv s H E hr => law_all T T2 cdv s H E hr) (truth ns hlen)
end K69
end TP69G

section TDLP
set_option maxRecDepth 100000
set_option maxHeartbeats 2000000
/-! DLP: what a denotation ends in, as plain statements. -/
namespace DL
open PySem L2 PySem.Spec PyProof.Rows
def Ev {α : Type} (X : Nat → Mu → Prop) (Q : α → Mu → Prop) : R α → Prop
  | .ok a μ => Q a μ
  | .xc c μ => X c μ
  | .stk => False
structure En where
  nx : Sl → Mu → Prop
  rt : D → Mu → Prop
  bk : Sl → Mu → Prop
  xc : Nat → Mu → Prop
def Ws (E : En) : SR → Prop
  | .nx ρ μ => E.nx ρ μ
  | .rt d μ => E.rt d μ
  | .bk ρ μ => E.bk ρ μ
  | .xc c _ μ => E.xc c μ
  | .ct _ _ => False
  | .stk => False
section
variable {α β : Type} {X : Nat → Mu → Prop} {Q : α → Mu → Prop} {QD : D → Mu → Prop} {QL : List D → Mu → Prop} {QB : Bool → Mu → Prop} {QU : Unit → Mu → Prop} {QI : ItD → Mu → Prop} {μ : Mu} {ρ : Sl} {a b f fo : Sl → M D} {as fs : Sl → M (List D)} {t u : Sl → M Bool}
theorem Ev.imp {Q' : α → Mu → Prop} {X' : Nat → Mu → Prop} {r : R α} (h : Ev X Q r) (hq : ∀ a μ, Q a μ → Q' a μ) (hx : ∀ c μ, X c μ → X' c μ) : Ev X' Q' r := by
  cases r with
  | ok a μ => exact hq _ _ h
  | xc c μ => exact hx _ _ h
  | stk => exact h
theorem Ev.post {Q' : α → Mu → Prop} {r : R α} (h : Ev (fun _ _ => False) Q r) (hq : ∀ a μ, Q a μ → Q' a μ) : Ev X Q' r := h.imp hq fun _ _ z => z.elim
theorem ev_bind (m : M β) (k : β → M α) : Ev X Q ((m >>= k) μ) = Ev X (fun x μ' => Ev X Q (k x μ')) (m μ) := by
  rw [bind_at]; cases m μ <;> rfl
theorem ev_ok (x : α) : Ev X Q (.ok x μ) = Q x μ := rfl
theorem ev_xc (c : Nat) : Ev X Q (.xc c μ) = X c μ := rfl
theorem ev_stk : Ev X Q .stk = False := rfl
theorem ev_pure (x : α) : Ev X Q ((pure x : M α) μ) = Q x μ := rfl
theorem ev_stuck : Ev X Q (stuck μ) = False := rfl
theorem ev_asks {p : Prop} [Decidable p] {m : M α} : Ev X Q (asks p m μ) = (p ∧ Ev X Q (m μ)) := by
  unfold asks
  by_cases h : p
  · rw [if_pos h]; simp [h]
  · rw [if_neg h]; simp [h]; exact fun z => z
theorem ev_ite {p : Prop} [Decidable p] {r s : R α} : Ev X Q (if p then r else s) = if p then Ev X Q r else Ev X Q s := by split <;> rfl
theorem ev_iteM {p : Prop} [Decidable p] {r s : M α} : Ev X Q ((if p then r else s) μ) = if p then Ev X Q (r μ) else Ev X Q (s μ) := by split <;> rfl
theorem ev_varE (i : Nat) : Ev X QD (varE i ρ μ) = match ρ[i]? with
    | some (some d) => QD d μ
    | _ => False := by
  unfold varE
  rcases ρ[i]? with _ | _ | d <;> rfl
theorem ev_cE (d : D) : Ev X QD (cE d ρ μ) = QD d μ := rfl
theorem ev_binE {g : D → D → M D} : Ev X QD (binE g a b ρ μ) = Ev X (fun x μ1 => Ev X (fun y μ2 => Ev X QD (g x y μ2)) (b ρ μ1)) (a ρ μ) := by
  unfold binE; rw [ev_bind]; congr 1; funext x μ1; rw [ev_bind]
theorem ev_unE {g : D → M D} : Ev X QD (unE g a ρ μ) = Ev X (fun x μ1 => Ev X QD (g x μ1)) (a ρ μ) := by unfold unE; rw [ev_bind]
theorem ev_nilA : Ev X QL (nilA ρ μ) = QL [] μ := rfl
theorem ev_consA : Ev X QL (consA a as ρ μ) = Ev X (fun x μ1 => Ev X (fun xs μ2 => QL (x :: xs) μ2) (as ρ μ1)) (a ρ μ) := by
  unfold consA; rw [ev_bind]; congr 1; funext x μ1; rw [ev_bind]; rfl
theorem ev_starA : Ev X QL (starA a as ρ μ) = Ev X (fun x μ1 => match x with
    | .tup ds => Ev X (fun xs μ2 => QL (ds ++ xs) μ2) (as ρ μ1)
    | _ => False) (a ρ μ) := by
  unfold starA; rw [ev_bind]; congr 1; funext x μ1; cases x <;> first | rfl | (simp only []; rw [ev_bind]; rfl)
theorem ev_tupE : Ev X QD (tupE as ρ μ) = Ev X (fun xs μ1 => xs.length ≤ sizeLine ∧ QD (.tup xs) μ1) (as ρ μ) := by
  unfold tupE; rw [ev_bind]; congr 1; funext x μ1
  by_cases h : x.length ≤ sizeLine
  · rw [if_pos h]; simp [h]; rfl
  · rw [if_neg h]; simp [h]; exact fun z => z
theorem ev_newL (ds : List D) : Ev X QD (newL ds μ) = QD (.mr μ.length) (μ ++ [.lst ds]) := rfl
theorem ev_lstE : Ev X QD (lstE as ρ μ) = Ev X (fun xs μ1 => xs.length ≤ sizeLine ∧ QD (.mr μ1.length) (μ1 ++ [.lst xs])) (as ρ μ) := by
  unfold lstE; rw [ev_bind]; congr 1; funext x μ1
  by_cases h : x.length ≤ sizeLine
  · rw [if_pos h]; simp [h]; rfl
  · rw [if_neg h]; simp [h]; exact fun z => z
theorem ev_ifE : Ev X QD (ifE t a b ρ μ) = Ev X (fun c μ1 => if c = true then Ev X QD (a ρ μ1) else Ev X QD (b ρ μ1)) (t ρ μ) := by
  unfold ifE; rw [ev_bind]; congr 1; funext c μ1; cases c <;> rfl
theorem ev_asB (c : Bool) : Ev X QB (asB (.bl c) μ) = QB c μ := rfl
theorem ev_valT : Ev X QB (valT a ρ μ) = Ev X (fun x μ1 => Ev X QB (asB x μ1)) (a ρ μ) := by unfold valT; rw [ev_bind]
theorem ev_andT : Ev X QB (andT t u ρ μ) = Ev X (fun c μ1 => if c = true then Ev X QB (u ρ μ1) else QB false μ1) (t ρ μ) := by
  unfold andT; rw [ev_bind]; congr 1; funext c μ1; cases c <;> rfl
theorem ev_orT : Ev X QB (orT t u ρ μ) = Ev X (fun c μ1 => if c = true then QB true μ1 else Ev X QB (u ρ μ1)) (t ρ μ) := by
  unfold orT; rw [ev_bind]; congr 1; funext c μ1; cases c <;> rfl
theorem ev_notT : Ev X QB (notT t ρ μ) = Ev X (fun c μ1 => QB (!c) μ1) (t ρ μ) := by unfold notT; rw [ev_bind]; rfl
theorem ev_andE : Ev X QD (andE a b ρ μ) = Ev X (fun x μ1 => Ev X (fun c μ2 => if c = true then Ev X QD (b ρ μ2) else QD (.bl false) μ2) (asB x μ1)) (a ρ μ) := by
  unfold andE; rw [ev_bind]; congr 1; funext x μ1; rw [ev_bind]; congr 1; funext c μ2; cases c <;> rfl
theorem ev_intD {C : Int → Int → Prop} [∀ i j, Decidable (C i j)] {g : Int → Int → D} (i j : Int) : Ev X QD (intD C g (.int i) (.int j) μ) = (C i j ∧ QD (g i j) μ) := by
  unfold intD; rw [ev_asks]; rfl
theorem ev_addI (i j : Int) : Ev X QD (addD (.int i) (.int j) μ) = QD (.int (i + j)) μ := rfl
theorem ev_addT (x y : List D) : Ev X QD (addD (.tup x) (.tup y) μ) = (x.length + y.length ≤ sizeLine ∧ QD (.tup (x ++ y)) μ) := by unfold addD; rw [ev_asks]; rfl
theorem ev_addL {k l : Nat} {x y : List D} (h1 : μ[k]? = some (.lst x)) (h2 : μ[l]? = some (.lst y)) : Ev X QD (addD (.mr k) (.mr l) μ) = (x.length + y.length ≤ sizeLine ∧ QD (.mr μ.length) (μ ++ [.lst (x ++ y)])) := by
  unfold addD; simp only [h1, h2]; rw [ev_asks, ev_newL]
theorem ev_mulI (i j : Int) : Ev X QD (mulD (.int i) (.int j) μ) = (CMul i j ∧ QD (.int (i * j)) μ) := by unfold mulD; rw [ev_intD]
theorem ev_mulL {k : Nat} {j : Int} {x : List D} (h1 : μ[k]? = some (.lst x)) : Ev X QD (mulD (.mr k) (.int j) μ) = ((-(2 ^ 63) ≤ j ∧ j < 2 ^ 63 ∧ x.length * j.toNat ≤ sizeLine) ∧ QD (.mr μ.length) (μ ++ [.lst (List.replicate j.toNat x).flatten])) := by
  unfold mulD repL; simp only [h1]; rw [ev_asks, ev_newL]
theorem ev_mulT {j : Int} {x : List D} : Ev X QD (mulD (.tup x) (.int j) μ) = ((2 ≤ j ∧ j ≤ 1000 ∧ x.length ≤ 1000) ∧ QD (.tup (List.replicate j.toNat x).flatten) μ) := by
  unfold mulD repT; rw [ev_asks]; rfl
theorem ev_negI (i : Int) : Ev X QD (negD (.int i) μ) = QD (.int (-i)) μ := rfl
theorem ev_isN {neg : Bool} (d : D) : Ev X QD (isD neg d .non μ) = QD (.bl (xor neg (match d with | .non => true | _ => false))) μ := by cases d <;> rfl
theorem ev_isB {neg x y : Bool} : Ev X QD (isD neg (.bl x) (.bl y) μ) = QD (.bl (xor neg (decide (x = y)))) μ := rfl
theorem ev_eqD {neg : Bool} {x y : D} {p q : PyData} (h1 : view μ 8 x = some p) (h2 : view μ 8 y = some q) (s1 : SeqAt.shaped p = true) (s2 : SeqAt.shaped q = true) : Ev X QD (eqD neg x y μ) = QD (.bl (xor neg (PyData.eqv p q))) μ := by
  unfold eqD; simp only [h1, h2]; rw [if_pos ⟨s1, s2⟩]; rfl
theorem ev_eqI {neg : Bool} (i j : Int) : Ev X QD (eqD neg (.int i) (.int j) μ) = QD (.bl (xor neg (decide (i = j)))) μ := by
  rw [ev_eqD (p := .int i) (q := .int j) (by simp only [view]) (by simp only [view]) (by rfl) (by rfl)]
  have e : PyData.eqv (.int i) (.int j) = decide (i = j) := by
    by_cases h : i = j
    · subst h; simp [PyData.eqv]
    · simp [PyData.eqv, h]
  rw [e]
theorem ev_ixT {ds : List D} {i : Int} {x : D} (h : atI ds i = some x) : Ev X QD (ixD (.tup ds) (.int i) μ) = QD x μ := by
  show Ev X QD (ixS (.tup ds) i μ) = _
  unfold ixS; simp only [seqOf, h]; rfl
theorem ev_ixL {k : Nat} {ds : List D} {i : Int} {x : D} (hk : μ[k]? = some (.lst ds)) (h : atI ds i = some x) : Ev X QD (ixD (.mr k) (.int i) μ) = QD x μ := by
  show Ev X QD (ixS (.mr k) i μ) = _
  unfold ixS; simp only [seqOf, lstOf, hk, h]; rfl
theorem ev_callE {g : List D → M D} : Ev X QD (callE g as ρ μ) = Ev X (fun ds μ1 => Ev X QD (g ds μ1)) (as ρ μ) := by unfold callE; rw [ev_bind]
theorem ev_lenT (ds : List D) : Ev X QD (lenD [.tup ds] μ) = QD (.int ds.length) μ := rfl
theorem ev_lenL {k : Nat} {ds : List D} (hk : μ[k]? = some (.lst ds)) : Ev X QD (lenD [.mr k] μ) = QD (.int ds.length) μ := by
  show Ev X QD (match seqOf μ (.mr k) with | some ds => R.ok (D.int ds.length) μ | none => .stk) = _
  simp only [seqOf, lstOf, hk]; rfl
theorem ev_intC (i : Int) : Ev X QD (intCD [.int i] μ) = QD (.int i) μ := rfl
theorem ev_listT (ds : List D) : Ev X QD (listCD [.tup ds] μ) = QD (.mr μ.length) (μ ++ [.lst ds]) := rfl
theorem ev_tupL {k : Nat} {ds : List D} (hk : μ[k]? = some (.lst ds)) : Ev X QD (tupleCD [.mr k] μ) = QD (.tup ds) μ := by
  show Ev X QD (match lstOf μ (.mr k) with | some ds => R.ok (D.tup ds) μ | none => .stk) = _
  simp only [lstOf, hk]; rfl
theorem ev_two {g : Int → Int → Int} (i j : Int) : Ev X QD (two g [.int i, .int j] μ) = QD (.int (g i j)) μ := rfl
theorem ev_quant {q : List Bool → Bool} {k : Nat} {ds : List D} {bs : List Bool} (hk : μ[k]? = some (.lst ds)) (hb : boolsOf ds = some bs) : Ev X QD (quantD q [.mr k] μ) = QD (.bl (q bs)) μ := by
  show Ev X QD (match (lstOf μ (.mr k)).bind boolsOf with | some bs => R.ok (D.bl (q bs)) μ | none => .stk) = _
  simp only [lstOf, hk, Option.bind_some, hb]; rfl
theorem ev_chainE {r : D → Sl → M α} : Ev X Q (chainE a r ρ μ) = Ev X (fun x μ1 => Ev X Q (r x ρ μ1)) (a ρ μ) := by unfold chainE; rw [ev_bind]
theorem ev_lastC {g : D → D → M D} {x : D} : Ev X QD (lastC g b x ρ μ) = Ev X (fun y μ1 => Ev X QD (g x y μ1)) (b ρ μ) := by unfold lastC; rw [ev_bind]
theorem ev_lastT {g : D → D → M D} {x : D} : Ev X QB (lastT g b x ρ μ) = Ev X (fun y μ1 => Ev X (fun z μ2 => Ev X QB (asB z μ2)) (g x y μ1)) (b ρ μ) := by unfold lastT; rw [ev_bind]; congr 1; funext y μ1; rw [ev_bind]
theorem ev_linkC {g : D → D → M D} {r : D → Sl → M D} {x : D} : Ev X QD (linkC g b r x ρ μ) = Ev X (fun y μ1 => Ev X (fun z μ2 => Ev X (fun c μ3 => if c = true then Ev X QD (r y ρ μ3) else QD (.bl false) μ3) (asB z μ2)) (g x y μ1)) (b ρ μ) := by
  unfold linkC; rw [ev_bind]; congr 1; funext y μ1; rw [ev_bind]; congr 1; funext z μ2; rw [ev_bind]; congr 1; funext c μ3; cases c <;> rfl
theorem ev_linkT {g : D → D → M D} {r : D → Sl → M Bool} {x : D} : Ev X QB (linkT g b r x ρ μ) = Ev X (fun y μ1 => Ev X (fun z μ2 => Ev X (fun c μ3 => if c = true then Ev X QB (r y ρ μ3) else QB false μ3) (asB z μ2)) (g x y μ1)) (b ρ μ) := by
  unfold linkT; rw [ev_bind]; congr 1; funext y μ1; rw [ev_bind]; congr 1; funext z μ2; rw [ev_bind]; congr 1; funext c μ3; cases c <;> rfl
theorem ev_truT : Ev X QB (truT a ρ μ) = Ev X (fun x μ1 => Ev X QB (truD x μ1)) (a ρ μ) := by unfold truT; rw [ev_bind]
theorem ev_truL {k : Nat} {ds : List D} (hk : μ[k]? = some (.lst ds)) : Ev X QB (truD (.mr k) μ) = QB (!ds.isEmpty) μ := by unfold truD; simp only [hk]; rfl
theorem ev_mtE {g : D → List D → M D} : Ev X QD (mtE g fo fs ρ μ) = Ev X (fun d μ1 => Ev X (fun _ μ2 => Ev X (fun ds μ3 => Ev X QD (g d ds μ3)) (fs ρ μ2)) (recvL d μ1)) (fo ρ μ) := by
  unfold mtE; rw [ev_bind]; congr 1; funext d μ1; rw [ev_bind]; congr 1; funext x μ2; rw [ev_bind]
theorem ev_recvL {k : Nat} {ds : List D} (hk : μ[k]? = some (.lst ds)) : Ev X QU (recvL (.mr k) μ) = QU () μ := by unfold recvL; simp only [lstOf, hk]; rfl
theorem ev_append {k : Nat} {ds : List D} {x : D} (hk : μ[k]? = some (.lst ds)) : Ev X QD (appendD (.mr k) [x] μ) = (ds.length < sizeLine ∧ QD .non (μ.set k (.lst (ds ++ [x])))) := by
  unfold appendD; simp only [hk]; rw [ev_asks]; rfl
theorem ev_extend {k j : Nat} {ds es : List D} (hk : μ[k]? = some (.lst ds)) (hj : μ[j]? = some (.lst es)) : Ev X QD (extendD (.mr k) [.mr j] μ) = (ds.length + es.length ≤ sizeLine ∧ QD .non (μ.set k (.lst (ds ++ es)))) := by
  unfold extendD; simp only [hk, hj]; rw [ev_asks]; rfl
theorem ev_reverse {k : Nat} {ds : List D} (hk : μ[k]? = some (.lst ds)) : Ev X QD (reverseD (.mr k) [] μ) = QD .non (μ.set k (.lst ds.reverse)) := by unfold reverseD; simp only [hk]; rfl
theorem ev_pop {k : Nat} {ds : List D} {x : D} (hk : μ[k]? = some (.lst (ds ++ [x]))) : Ev X QD (popD (.mr k) [] μ) = QD x (μ.set k (.lst ds)) := by
  unfold popD; simp only [hk]
  rw [show (ds ++ [x])[(ds ++ [x]).length - 1]? = some x by simp]
  show QD x (μ.set k (.lst (ds ++ [x]).dropLast)) = _
  rw [List.dropLast_concat]
theorem ev_yesT : Ev X QB (yesT ρ μ) = QB true μ := rfl

/-! ### what is dropped behind -/
def gcM (n : Nat) (d : D) (μ : Mu) : Mu := if (d.und n && (μ.take n).all (Cell.und n)) = true then μ.take n else μ
def gcX (n : Nat) (μ : Mu) : Mu := if (μ.take n).all (Cell.und n) = true then μ.take n else μ
theorem ev_gcR {n : Nat} {r : R D} : Ev X QD (gcR n r) = Ev (fun c μ' => X c (gcX n μ')) (fun d μ' => QD d (gcM n d μ')) r := by
  cases r with
  | ok d μ' =>
    show Ev X QD (if (d.und n && (μ'.take n).all (Cell.und n)) = true then .ok d (μ'.take n) else .ok d μ') = QD d (if (d.und n && (μ'.take n).all (Cell.und n)) = true then μ'.take n else μ')
    by_cases h : (d.und n && (μ'.take n).all (Cell.und n)) = true
    · rw [if_pos h, if_pos h]; rfl
    · rw [if_neg h, if_neg h]; rfl
  | xc c μ' =>
    show Ev X QD (if (μ'.take n).all (Cell.und n) = true then .xc c (μ'.take n) else .xc c μ') = X c (if (μ'.take n).all (Cell.und n) = true then μ'.take n else μ')
    by_cases h : (μ'.take n).all (Cell.und n) = true
    · rw [if_pos h, if_pos h]; rfl
    · rw [if_neg h, if_neg h]; rfl
  | stk => rfl
theorem ev_gcE : Ev X QD (gcE f ρ μ) = Ev (fun c μ' => X c (gcX μ.length μ')) (fun d μ' => QD d (gcM μ.length d μ')) (f ρ μ) := by unfold gcE; rw [ev_gcR]
theorem ev_toR {s : SR} : Ev X QD s.toR = Ws ⟨fun _ μ' => QD .non μ', QD, fun _ _ => False, X⟩ s := by cases s <;> rfl
theorem ev_den {n m : Nat} {body : DS} {ds : List D} (h : ds.length = n) : Ev X QD (denF n m body ds μ) = Ws ⟨fun _ μ' => QD .non (gcM μ.length .non μ'), fun d μ' => QD d (gcM μ.length d μ'), fun _ _ => False, fun c μ' => X c (gcX μ.length μ')⟩ (body (ds.map some ++ List.replicate (m - n) none) μ) := by
  have e : denF n m body ds μ = gcR μ.length (body (ds.map some ++ List.replicate (m - n) none) μ).toR := congrFun (asks_at (m := fun μ => gcR μ.length (body (ds.map some ++ List.replicate (m - n) none) μ).toR) h) μ
  rw [e, ev_gcR, ev_toR]

theorem den_of {n m : Nat} {body : DS} {ds : List D} (h : ds.length = n) (w : Ws ⟨fun _ μ' => QD .non (gcM μ.length .non μ'), fun d μ' => QD d (gcM μ.length d μ'), fun _ _ => False, fun c μ' => X c (gcX μ.length μ')⟩ (body (ds.map some ++ List.replicate (m - n) none) μ)) : Ev X QD (denF n m body ds μ) := (ev_den h).symm ▸ w

/-! ### statements -/
variable {E : En} {m m' : DS} {tg : Tg}
theorem ws_seq : Ws E (seqS m m' ρ μ) = Ws { E with nx := fun ρ' μ' => Ws E (m' ρ' μ') } (m ρ μ) := by
  unfold seqS; cases m ρ μ <;> rfl
theorem ws_toS {r : R α} {k : α → Mu → SR} : Ws E (r.toS ρ k) = Ev E.xc (fun x μ' => Ws E (k x μ')) r := by cases r <;> rfl
theorem ws_next : Ws E (nextS ρ μ) = E.nx ρ μ := rfl
theorem ws_expr : Ws E (exprS f ρ μ) = Ev E.xc (fun _ μ' => E.nx ρ μ') (f ρ μ) := by unfold exprS; rw [ws_toS]; rfl
theorem ws_ret : Ws E (retS f ρ μ) = Ev E.xc (fun d μ' => E.rt d μ') (f ρ μ) := by unfold retS; rw [ws_toS]; rfl
theorem ws_retN : Ws E (retNS ρ μ) = E.rt .non μ := rfl
theorem ws_break : Ws E (breakS ρ μ) = E.bk ρ μ := rfl
theorem ws_set {i : Nat} : Ws E (setS i f ρ μ) = Ev E.xc (fun d μ' => E.nx (ρ.set i (some d)) μ') (f ρ μ) := by unfold setS; rw [ws_toS]; rfl
theorem ws_asg : Ws E (asgS tg f ρ μ) = Ev E.xc (fun d μ' => match tg.asg d ρ with
    | some ρ' => E.nx ρ' μ'
    | none => False) (f ρ μ) := by
  unfold asgS; rw [ws_toS]; congr 1; funext d μ'; cases tg.asg d ρ <;> rfl
theorem ws_if {c : Sl → M Bool} : Ws E (ifS c m m' ρ μ) = Ev E.xc (fun k μ' => if k = true then Ws E (m ρ μ') else Ws E (m' ρ μ')) (c ρ μ) := by
  unfold ifS; rw [ws_toS]; congr 1; funext k μ'; cases k <;> rfl
theorem ws_raise {c : Nat} : Ws E (raiseS c ρ μ) = E.xc c μ := rfl
theorem ws_par {i j : Nat} : Ws E (parS i j fs ρ μ) = Ev E.xc (fun ds μ' => match ds with
    | [v, w] => E.nx ((ρ.set i (some v)).set j (some w)) μ'
    | _ => False) (fs ρ μ) := by
  unfold parS; rw [ws_toS]; congr 1; funext ds μ'
  rcases ds with _ | ⟨v, _ | ⟨w, _ | ⟨x, r⟩⟩⟩ <;> rfl
theorem ws_aug {i : Nat} {g : D → D → M D} {x : D} (h : ρ[i]? = some (some x)) : Ws E (augS i g f ρ μ) = Ev E.xc (fun y μ1 => Ev E.xc (fun z μ' => E.nx (ρ.set i (some z)) μ') (g x y μ1)) (f ρ μ) := by
  unfold augS; simp only [h]; rw [ws_toS, ev_bind]; rfl
theorem ws_eff {e : Sl → M Unit} : Ws E (effS e ρ μ) = Ev E.xc (fun _ μ' => E.nx ρ μ') (e ρ μ) := by unfold effS; rw [ws_toS]; rfl
theorem ws_for {fi : Sl → M ItD} : Ws E (forS fi tg m ρ μ) = Ev E.xc (fun it μ' => Ws E (forLoop it.get tg m it.fuel 0 ρ μ')) (fi ρ μ) := by unfold forS; rw [ws_toS]
theorem ws_loop {get : Mu → Nat → Option (Option D)} (I : Nat → Sl → Mu → Prop) (ds : List D) (hg : ∀ i ρ' μ', i ≤ ds.length → I i ρ' μ' → get μ' i = some ds[i]?) (hs : ∀ i d ρ' μ', ds[i]? = some d → I i ρ' μ' → ∃ ρ1, tg.asg d ρ' = some ρ1 ∧ Ws ⟨I (i + 1), E.rt, E.nx, E.xc⟩ (m ρ1 μ'))
    (hn : ∀ ρ' μ', I ds.length ρ' μ' → E.nx ρ' μ') : ∀ (n i : Nat) (ρ : Sl) (μ : Mu), i ≤ ds.length → n + i = ds.length + 1 → I i ρ μ → Ws E (forLoop get tg m n i ρ μ)
  | 0, i, ρ, μ, l, e, h => by omega
  | n + 1, i, ρ, μ, l, e, h => by
    unfold forLoop
    rw [hg i ρ μ l h]
    cases hd : ds[i]? with
    | none =>
      have : i = ds.length := by
        have := List.getElem?_eq_none_iff.mp hd
        omega
      subst this
      exact hn ρ μ h
    | some d =>
      obtain ⟨ρ1, e1, w⟩ := hs i d ρ μ hd h
      have il : i < ds.length := (List.getElem?_eq_some_iff.mp hd).1
      simp only [e1]
      cases hm : m ρ1 μ with
      | nx ρ2 μ2 => rw [hm] at w; exact ws_loop I ds hg hs hn n (i + 1) ρ2 μ2 il (by omega) w
      | ct ρ2 μ2 => rw [hm] at w; exact w.elim
      | bk ρ2 μ2 => rw [hm] at w; exact w
      | rt d μ2 => rw [hm] at w; exact w
      | xc c ρ2 μ2 => rw [hm] at w; exact w
      | stk => rw [hm] at w; exact w
/-- for over what stands fast -/
theorem ws_fix (I : Nat → Sl → Mu → Prop) {ds : List D} (h0 : I 0 ρ μ) (hs : ∀ i d ρ' μ', ds[i]? = some d → I i ρ' μ' → ∃ ρ1, tg.asg d ρ' = some ρ1 ∧ Ws ⟨I (i + 1), E.rt, E.nx, E.xc⟩ (m ρ1 μ')) (hn : ∀ ρ' μ', I ds.length ρ' μ' → E.nx ρ' μ') :
    Ws E (forLoop (fixI ds).get tg m (fixI ds).fuel 0 ρ μ) := ws_loop I ds (fun _ _ _ _ _ => rfl) hs hn _ 0 ρ μ (Nat.zero_le _) rfl h0
/-- for over a list's cell -/
theorem ws_cell (I : Nat → Sl → Mu → Prop) {k : Nat} {ds : List D} (h0 : I 0 ρ μ) (hk : ∀ i ρ' μ', I i ρ' μ' → μ'[k]? = some (.lst ds)) (hs : ∀ i d ρ' μ', ds[i]? = some d → I i ρ' μ' → ∃ ρ1, tg.asg d ρ' = some ρ1 ∧ Ws ⟨I (i + 1), E.rt, E.nx, E.xc⟩ (m ρ1 μ')) (hn : ∀ ρ' μ', I ds.length ρ' μ' → E.nx ρ' μ') :
    Ws E (forLoop (cellI k ds.length).get tg m (cellI k ds.length).fuel 0 ρ μ) := ws_loop I ds (fun i ρ' μ' _ h => by show (match μ'[k]? with | some (.lst ds) => some ds[i]? | _ => none) = _; rw [hk i ρ' μ' h]) hs hn _ 0 ρ μ (Nat.zero_le _) rfl h0
theorem ev_seqI : Ev X QI (seqI f ρ μ) = Ev X (fun d μ1 => match d with
    | .tup ds => QI (fixI ds) μ1
    | .li ds => QI (fixI ds) μ1
    | .mr k => match μ1[k]? with
      | some (.lst ds) => QI (cellI k ds.length) μ1
      | _ => False
    | _ => False) (f ρ μ) := by
  unfold seqI; rw [ev_bind]; congr 1; funext d μ1
  cases d with
  | mr k => simp only []; rcases μ1[k]? with _ | (ds | ⟨c, fs⟩) <;> rfl
  | _ => rfl
theorem ev_rng1 : Ev X QI (rngI1 fs ρ μ) = Ev X (fun ds μ1 => match ds with
    | [.int j] => (-(2 ^ 62) ≤ j ∧ j < 2 ^ 62) ∧ QI (fixI (rngD 0 j.toNat)) μ1
    | _ => False) (fs ρ μ) := by
  unfold rngI1; rw [ev_bind]; congr 1; funext ds μ1
  rcases ds with _ | ⟨d, _ | ⟨x, r⟩⟩
  · rfl
  · cases d with
    | int j => exact ev_asks
    | _ => rfl
  · cases d <;> rfl
theorem ev_rng2 : Ev X QI (rngI2 fs ρ μ) = Ev X (fun ds μ1 => match ds with
    | [.int i, .int j] => (-(2 ^ 62) ≤ i ∧ i < 2 ^ 62 ∧ -(2 ^ 62) ≤ j ∧ j < 2 ^ 62) ∧ QI (fixI (rngD i (j - i).toNat)) μ1
    | _ => False) (fs ρ μ) := by
  unfold rngI2; rw [ev_bind]; congr 1; funext ds μ1
  rcases ds with _ | ⟨d, _ | ⟨x, _ | ⟨y, r⟩⟩⟩
  · rfl
  · cases d <;> rfl
  · cases d with
    | int i =>
      cases x with
      | int j => exact ev_asks
      | _ => rfl
    | _ => cases x <;> rfl
  · cases d <;> first | rfl | (cases x <;> rfl)
theorem ev_zip : Ev X QI (zipI fs ρ μ) = Ev X (fun ds μ1 => match ds with
    | [.tup as, .tup bs] => QI (fixI (List.zipWith (fun a b => D.tup [a, b]) as bs)) μ1
    | _ => False) (fs ρ μ) := by
  unfold zipI; rw [ev_bind]; congr 1; funext ds μ1
  rcases ds with _ | ⟨d, _ | ⟨x, _ | ⟨y, r⟩⟩⟩
  · rfl
  · cases d <;> rfl
  · cases d <;> cases x <;> rfl
  · cases d <;> first | rfl | (cases x <;> rfl)
theorem ev_enum : Ev X QI (enumI fs ρ μ) = Ev X (fun ds μ1 => match ds with
    | [.tup as] => QI (fixI (enumL 0 as)) μ1
    | _ => False) (fs ρ μ) := by
  unfold enumI; rw [ev_bind]; congr 1; funext ds μ1
  rcases ds with _ | ⟨d, _ | ⟨x, r⟩⟩
  · rfl
  · cases d <;> rfl
  · cases d <;> rfl
/-! ### comprehensions -/
def Lc (Q : Mu → Prop) : Option Mu → Prop
  | some μ => Q μ
  | none => False
theorem ev_lcE {fi : Sl → M ItD} {tg : Tg} {vs : List Nat} : Ev X QD (lcE fi tg t f vs ρ μ) = Ev X (fun it μ1 => Lc (fun μ' => QD (.mr μ1.length) μ') (lcLoop it.get tg vs (lcItem μ1.length t f) ρ it.fuel 0 (μ1 ++ [.lst []]))) (fi ρ μ) := by
  unfold lcE; refine Eq.trans (ev_bind _ _) ?_; congr 1; funext it μ1
  cases lcLoop it.get tg vs (lcItem μ1.length t f) ρ it.fuel 0 (μ1 ++ [.lst []]) <;> rfl
theorem ev_lc2E {fi fi1 : Sl → M ItD} {tg tg1 : Tg} {vs vs1 : List Nat} : Ev X QD (lc2E fi tg t fi1 tg1 u f vs vs1 ρ μ) = Ev X (fun it μ1 => Lc (fun μ' => QD (.mr μ1.length) μ') (lcLoop it.get tg vs (lc2Item μ1.length t fi1 tg1 u f vs1) ρ it.fuel 0 (μ1 ++ [.lst []]))) (fi ρ μ) := by
  unfold lc2E; refine Eq.trans (ev_bind _ _) ?_; congr 1; funext it μ1
  cases lcLoop it.get tg vs (lc2Item μ1.length t fi1 tg1 u f vs1) ρ it.fuel 0 (μ1 ++ [.lst []]) <;> rfl
theorem lc_item {N : Mu → Prop} {k : Nat} : Lc N (lcItem k t f ρ μ) = Ev (fun _ _ => False) (fun c μ1 => if c = true then Ev (fun _ _ => False) (fun y μ2 => Lc N (addTo k y μ2)) (f ρ μ1) else N μ1) (t ρ μ) := by
  unfold lcItem
  cases t ρ μ with
  | ok c μ1 =>
    cases c with
    | false => rfl
    | true => show Lc N (match f ρ μ1 with | .ok y μ2 => addTo k y μ2 | _ => none) = Ev _ _ (f ρ μ1); cases f ρ μ1 <;> rfl
  | xc c μ1 => rfl
  | stk => rfl
theorem lc_item2 {N : Mu → Prop} {k : Nat} {fi1 : Sl → M ItD} {tg1 : Tg} {vs1 : List Nat} : Lc N (lc2Item k t fi1 tg1 u f vs1 ρ μ) = Ev (fun _ _ => False) (fun c μ1 => if c = true then Ev (fun _ _ => False) (fun it μ2 => Lc N (lcLoop it.get tg1 vs1 (lcItem k u f) ρ it.fuel 0 μ2)) (fi1 ρ μ1) else N μ1) (t ρ μ) := by
  unfold lc2Item
  cases t ρ μ with
  | ok c μ1 =>
    cases c with
    | false => rfl
    | true => show Lc N (match fi1 ρ μ1 with | .ok it μ2 => lcLoop it.get tg1 vs1 (lcItem k u f) ρ it.fuel 0 μ2 | _ => none) = Ev _ _ (fi1 ρ μ1); cases fi1 ρ μ1 <;> rfl
  | xc c μ1 => rfl
  | stk => rfl
theorem lc_add {N : Mu → Prop} {k : Nat} {y : D} {acc : List D} (h : μ[k]? = some (.lst acc)) : Lc N (addTo k y μ) = (acc.length < sizeLine ∧ N (μ.set k (.lst (acc ++ [y])))) := by
  unfold addTo; simp only [h]
  by_cases z : acc.length < sizeLine
  · rw [if_pos z]; simp [z]; rfl
  · rw [if_neg z]; simp [z]; exact fun z => z
theorem lc_loop {Q : Mu → Prop} {get : Mu → Nat → Option (Option D)} {tg : Tg} {vs : List Nat} {one : Sl → Mu → Option Mu} (J : Nat → Mu → Prop) (ds : List D) (hg : ∀ i μ', i ≤ ds.length → J i μ' → get μ' i = some ds[i]?)
    (hs : ∀ i d μ', ds[i]? = some d → J i μ' → ∃ ρ1, tg.asg d (wipeD ρ vs) = some ρ1 ∧ Lc (J (i + 1)) (one ρ1 μ')) (hn : ∀ μ', J ds.length μ' → Q μ') : ∀ (n i : Nat) (μ : Mu), i ≤ ds.length → n + i = ds.length + 1 → J i μ → Lc Q (lcLoop get tg vs one ρ n i μ)
  | 0, i, μ, l, e, h => by omega
  | n + 1, i, μ, l, e, h => by
    unfold lcLoop
    rw [hg i μ l h]
    cases hd : ds[i]? with
    | none =>
      have : i = ds.length := by
        have := List.getElem?_eq_none_iff.mp hd
        omega
      subst this
      exact hn μ h
    | some d =>
      obtain ⟨ρ1, e1, w⟩ := hs i d μ hd h
      have il : i < ds.length := (List.getElem?_eq_some_iff.mp hd).1
      simp only [e1]
      cases hm : one ρ1 μ with
      | none => rw [hm] at w; exact w.elim
      | some μ2 => rw [hm] at w; exact lc_loop J ds hg hs hn n (i + 1) μ2 il (by omega) w
theorem lc_fix {Q : Mu → Prop} {tg : Tg} {vs : List Nat} {one : Sl → Mu → Option Mu} (J : Nat → Mu → Prop) {ds : List D} (h0 : J 0 μ) (hs : ∀ i d μ', ds[i]? = some d → J i μ' → ∃ ρ1, tg.asg d (wipeD ρ vs) = some ρ1 ∧ Lc (J (i + 1)) (one ρ1 μ')) (hn : ∀ μ', J ds.length μ' → Q μ') :
    Lc Q (lcLoop (fixI ds).get tg vs one ρ (fixI ds).fuel 0 μ) := lc_loop J ds (fun _ _ _ _ => rfl) hs hn _ 0 μ (Nat.zero_le _) rfl h0
theorem lc_cell {Q : Mu → Prop} {tg : Tg} {vs : List Nat} {one : Sl → Mu → Option Mu} (J : Nat → Mu → Prop) {k : Nat} {ds : List D} (h0 : J 0 μ) (hk : ∀ i μ', J i μ' → μ'[k]? = some (.lst ds)) (hs : ∀ i d μ', ds[i]? = some d → J i μ' → ∃ ρ1, tg.asg d (wipeD ρ vs) = some ρ1 ∧ Lc (J (i + 1)) (one ρ1 μ')) (hn : ∀ μ', J ds.length μ' → Q μ') :
    Lc Q (lcLoop (cellI k ds.length).get tg vs one ρ (cellI k ds.length).fuel 0 μ) := lc_loop J ds (fun i μ' _ h => by show (match μ'[k]? with | some (.lst ds) => some ds[i]? | _ => none) = _; rw [hk i μ' h]) hs hn _ 0 μ (Nat.zero_le _) rfl h0
/-! ### while -/
theorem ws_while {c : Sl → M Bool} (I : Nat → Sl → Mu → Prop) (hs : ∀ n ρ' μ', I n ρ' μ' → Ev E.xc (fun k μ1 => if k = true then ∃ n', n = n' + 1 ∧ Ws ⟨I n', E.rt, E.nx, E.xc⟩ (m ρ' μ1) else E.nx ρ' μ1) (c ρ' μ')) : ∀ (n N : Nat) (ρ : Sl) (μ : Mu), n < N → I n ρ μ → Ws E (whileLoop c m N ρ μ)
  | n, 0, ρ, μ, l, h => by omega
  | n, N + 1, ρ, μ, l, h => by
    unfold whileLoop
    rw [ws_toS]
    refine (hs n ρ μ h).imp (fun k μ1 w => ?_) fun _ _ z => z
    cases k with
    | false => exact w
    | true =>
      obtain ⟨n', rfl, w⟩ := w
      show Ws E (match m ρ μ1 with
        | .nx ρ2 μ2 => whileLoop c m N ρ2 μ2
        | .ct ρ2 μ2 => whileLoop c m N ρ2 μ2
        | .bk ρ2 μ2 => .nx ρ2 μ2
        | .rt d μ2 => .rt d μ2
        | .xc c ρ2 μ2 => .xc c ρ2 μ2
        | .stk => .stk)
      cases hm : m ρ μ1 with
      | nx ρ2 μ2 => rw [hm] at w; exact ws_while I hs n' N ρ2 μ2 (by omega) w
      | ct ρ2 μ2 => rw [hm] at w; exact w.elim
      | bk ρ2 μ2 => rw [hm] at w; exact w
      | rt d μ2 => rw [hm] at w; exact w
      | xc c ρ2 μ2 => rw [hm] at w; exact w
      | stk => rw [hm] at w; exact w
end
/-! ### frames -/
structure Fr (S : Nat → Prop) (μ μ' : Mu) : Prop where
  len : μ.length ≤ μ'.length
  at_ : ∀ i c, μ[i]? = some c → ¬ S i → μ'[i]? = some c
def no : Nat → Prop := fun _ => False
theorem Fr.refl (S : Nat → Prop) (μ : Mu) : Fr S μ μ := ⟨Nat.le_refl _, fun _ _ h _ => h⟩
theorem Fr.trans {S : Nat → Prop} {μ μ1 μ2 : Mu} (a : Fr S μ μ1) (b : Fr S μ1 μ2) : Fr S μ μ2 := ⟨Nat.le_trans a.len b.len, fun i c h n => b.at_ i c (a.at_ i c h n) n⟩
theorem Fr.mono {S T : Nat → Prop} {μ μ' : Mu} (a : Fr S μ μ') (h : ∀ i, S i → T i) : Fr T μ μ' := ⟨a.len, fun i c e n => a.at_ i c e fun z => n (h i z)⟩
/-- what is written is fresh -/
theorem Fr.above {S T : Nat → Prop} {μ μ' : Mu} (a : Fr S μ μ') (h : ∀ i, i < μ.length → S i → T i) : Fr T μ μ' := ⟨a.len, fun i c e n => a.at_ i c e fun z => n (h i (List.getElem?_eq_some_iff.mp e).1 z)⟩
theorem Fr.get {μ μ' : Mu} (a : Fr no μ μ') {i : Nat} {c : Cell} (h : μ[i]? = some c) : μ'[i]? = some c := a.at_ i c h fun z => z
theorem Fr.new {S : Nat → Prop} {μ μ' : Mu} (a : Fr S μ μ') (c : List Cell) : Fr S μ (μ' ++ c) := ⟨by rw [List.length_append]; exact Nat.le_trans a.len (Nat.le_add_right _ _), fun i x h n => by
  have e := a.at_ i x h n
  rw [List.getElem?_append_left (List.getElem?_eq_some_iff.mp e).1]; exact e⟩
theorem Fr.set {S : Nat → Prop} {μ μ' : Mu} (a : Fr S μ μ') {k : Nat} (c : Cell) (h : k < μ.length → S k) : Fr S μ (μ'.set k c) := ⟨by rw [List.length_set]; exact a.len, fun i x e n => by
  have l := (List.getElem?_eq_some_iff.mp e).1
  have : k ≠ i := fun z => n (z ▸ h (z ▸ l))
  rw [List.getElem?_set_ne this]; exact a.at_ i x e n⟩
theorem gcM_get {n : Nat} {d : D} {μ : Mu} {i : Nat} {c : Cell} (h : μ[i]? = some c) (l : i < n) : (gcM n d μ)[i]? = some c := by
  unfold gcM; split
  · rw [List.getElem?_take_of_lt l]; exact h
  · exact h
theorem gcM_own {n : Nat} {i : Nat} {μ : Mu} {c : Cell} (h : μ[i]? = some c) : (gcM n (.mr i) μ)[i]? = some c := by
  unfold gcM; split
  · rename_i z
    have l : i < n := by
      have := (Bool.and_eq_true_iff.mp z).1
      simpa [D.und] using this
    rw [List.getElem?_take_of_lt l]; exact h
  · exact h
theorem Fr.gc {S : Nat → Prop} {μ μ' : Mu} {d : D} (a : Fr S μ μ') : Fr S μ (gcM μ.length d μ') := by
  refine ⟨?_, fun i c h n => gcM_get (a.at_ i c h n) (List.getElem?_eq_some_iff.mp h).1⟩
  unfold gcM; split
  · rw [List.length_take]; exact Nat.le_min.mpr ⟨Nat.le_refl _, a.len⟩
  · exact a.len
theorem Fr.gcx {S : Nat → Prop} {μ μ' : Mu} (a : Fr S μ μ') : Fr S μ (gcX μ.length μ') := by
  unfold gcX; split
  · refine ⟨by rw [List.length_take]; exact Nat.le_min.mpr ⟨Nat.le_refl _, a.len⟩, fun i c h n => ?_⟩
    rw [List.getElem?_take_of_lt (List.getElem?_eq_some_iff.mp h).1]; exact a.at_ i c h n
  · exact a
theorem lt_of_get {μ : Mu} {i : Nat} {c : Cell} (h : μ[i]? = some c) : i < μ.length := (List.getElem?_eq_some_iff.mp h).1
theorem get_new {μ : Mu} {c : Cell} : (μ ++ [c])[μ.length]? = some c := by simp
theorem get_old {μ : Mu} {i : Nat} {c x : Cell} (h : μ[i]? = some c) : (μ ++ [x])[i]? = some c := by rw [List.getElem?_append_left (lt_of_get h)]; exact h
theorem get_set {μ : Mu} {i : Nat} {c x : Cell} (h : μ[i]? = some c) : (μ.set i x)[i]? = some x := List.getElem?_set_self (lt_of_get h)
theorem get_set_ne {μ : Mu} {i j : Nat} {c x : Cell} (h : μ[i]? = some c) (n : j ≠ i) : (μ.set j x)[i]? = some c := by rw [List.getElem?_set_ne n]; exact h
end DL
end TDLP

section TPL1
set_option maxRecDepth 100000
set_option maxHeartbeats 2000000
namespace K69
open PySem L2 PySem.Spec PyProof.Rows DL
/-! ### what is drawn, as plain data -/
structure Reg where
  lo : Int
  hi : Int
  st : Int
  ov : Int × Int
  un : Int × Int
deriving DecidableEq
structure Pg where
  rs : List Reg
  ps : Int
  ks : List (List (Int × Int))
deriving DecidableEq
def oD (o : Int × Int) : D := .tup [.int o.1, .int o.2]
def rD (r : Reg) : D := .tup [.int r.lo, .int r.hi, .int r.st, oD r.ov, oD r.un]
def kD (k : List (Int × Int)) : D := .tup (k.map oD)
def pD (p : Pg) : D := .tup [.tup (p.rs.map rD), .int p.ps, .tup (p.ks.map kD)]
def iD (l : List Int) : D := .tup (l.map .int)
def OutOk (o : Int × Int) (f l : Int) : Prop := (o.1 = -1 ∧ o.2 = 0) ∨ (0 ≤ f ∧ f ≤ o.1 ∧ o.1 ≤ l ∧ -9 ≤ o.2 ∧ o.2 ≤ 9)
def RegOk (r : Reg) (at_ last : Int) : Prop := -400 ≤ r.lo ∧ r.lo ≤ r.st ∧ r.st ≤ r.hi ∧ r.hi ≤ 400 ∧ OutOk r.ov (at_ + 1) last ∧ OutOk r.un (at_ + 1) last
def KindOk (k : List (Int × Int)) (last : Int) : Prop := 1 ≤ k.length ∧ k.length ≤ 4 ∧ ∀ e ∈ k, (0 ≤ e.1 ∧ e.1 ≤ last) ∧ -99 ≤ e.2 ∧ e.2 ≤ 99
def Pg.last (p : Pg) : Int := p.rs.length + p.ps - 1
def sizes : List Reg → Int
  | [] => 1
  | r :: rs => (r.hi - r.lo + 1) * sizes rs
structure PgOk (p : Pg) : Prop where
  nr : p.rs.length ≤ 3
  np1 : 1 ≤ p.ps
  np2 : p.ps ≤ 3
  nk1 : 1 ≤ p.ks.length
  nk2 : p.ks.length ≤ 6
  rg : ∀ (i : Nat) (r : Reg), p.rs[i]? = some r → RegOk r i p.last
  sz : sizes p.rs ≤ 2000
  kd : ∀ k ∈ p.ks, KindOk k p.last
def nX : Nat → Mu → Prop := fun _ _ => False
theorem asg_nm {i : Nat} {d : D} {ρ : Sl} : Tg.asg (.nm i) d ρ = some (ρ.set i (some d)) := by simp only [Tg.asg]
theorem asg_tp {ts : List Tg} {ds : List D} {ρ : Sl} : Tg.asg (.tp ts) (.tup ds) ρ = Tg.asgs ts ds ρ := by simp only [Tg.asg]
theorem asgs_nil {ρ : Sl} : Tg.asgs [] [] ρ = some ρ := by simp only [Tg.asgs]
theorem asgs_cons {t : Tg} {ts : List Tg} {d : D} {ds : List D} {ρ : Sl} : Tg.asgs (t :: ts) (d :: ds) ρ = (Tg.asg t d ρ).bind fun ρ' => Tg.asgs ts ds ρ' := by simp only [Tg.asgs]
theorem ev_ix0 {X : Nat → Mu → Prop} {Q : D → Mu → Prop} {μ : Mu} {a : D} {r : List D} : Ev X Q (ixD (.tup (a :: r)) (.int 0) μ) = Q a μ := ev_ixT (by unfold atI ixN; rw [if_pos (by decide), if_pos (by simp only [List.length_cons]; omega)]; rfl)
theorem ev_ix1 {X : Nat → Mu → Prop} {Q : D → Mu → Prop} {μ : Mu} {a b : D} {r : List D} : Ev X Q (ixD (.tup (a :: b :: r)) (.int 1) μ) = Q b μ := ev_ixT (by unfold atI ixN; rw [if_pos (by decide), if_pos (by simp only [List.length_cons]; omega)]; rfl)
theorem ev_ix2 {X : Nat → Mu → Prop} {Q : D → Mu → Prop} {μ : Mu} {a b c : D} {r : List D} : Ev X Q (ixD (.tup (a :: b :: c :: r)) (.int 2) μ) = Q c μ := ev_ixT (by unfold atI ixN; rw [if_pos (by decide), if_pos (by simp only [List.length_cons]; omega)]; rfl)
/-! ### all(..), where each is true -/
def AllP (X : Nat → Mu → Prop) (Q : D → Mu → Prop) (fi : Sl → M ItD) (tg : Tg) (fe : Sl → M D) (vs : List Nat) (ρ : Sl) (μ : Mu) : Prop := Ev X Q (gcE (callE allD (consA (lcE fi tg yesT fe vs) nilA)) ρ μ)
theorem ev_all {X : Nat → Mu → Prop} {Q : D → Mu → Prop} {fi : Sl → M ItD} {tg : Tg} {fe : Sl → M D} {vs : List Nat} {ρ : Sl} {μ : Mu} : Ev X Q (gcE (callE allD (consA (lcE fi tg yesT fe vs) nilA)) ρ μ) = AllP X Q fi tg fe vs ρ μ := rfl
theorem bools_map {α : Type} (f : α → Bool) : ∀ l : List α, boolsOf (l.map fun x => .bl (f x)) = some (l.map f)
  | [] => rfl
  | x :: l => by rw [List.map_cons]; show (boolsOf _).map _ = _; rw [bools_map f l]; rfl
theorem all_gen {X : Nat → Mu → Prop} {Q : D → Mu → Prop} {fi : Sl → M ItD} {tg : Tg} {fe : Sl → M D} {vs : List Nat} {ρ : Sl} {μ : Mu} (ds : List D) (b : D → Bool) (hl : ds.length ≤ sizeLine) (hi : Ev nX (fun it μ1 => it = fixI ds ∧ Fr no μ μ1) (fi ρ μ))
    (he : ∀ (i : Nat) (d : D) (μ' : Mu), ds[i]? = some d → Fr no μ μ' → ∃ ρ1, tg.asg d (wipeD ρ vs) = some ρ1 ∧ Ev nX (fun x μ2 => x = .bl (b d) ∧ Fr no μ' μ2) (fe ρ1 μ')) (hq : ∀ μ', Fr no μ μ' → Q (.bl (ds.all b)) μ') : AllP X Q fi tg fe vs ρ μ := by
  unfold AllP
  simp only [ev_gcE, ev_callE, ev_consA, ev_nilA, ev_lcE]
  refine hi.imp (fun it μ1 ⟨e, f1⟩ => ?_) (fun c μ' h => h.elim)
  subst e
  refine lc_fix (fun i μ' => Fr no μ1 μ' ∧ μ'[μ1.length]? = some (.lst ((ds.take i).map fun d => .bl (b d))) ∧ i ≤ ds.length) ⟨(Fr.refl _ _).new _, get_new, Nat.zero_le _⟩ (fun i d μ' hd ⟨f, g, l⟩ => ?_) (fun μ' ⟨f, g, _⟩ => ?_)
  · obtain ⟨ρ1, e1, w⟩ := he i d μ' hd (f1.trans f)
    refine ⟨ρ1, e1, ?_⟩
    have il : i < ds.length := (List.getElem?_eq_some_iff.mp hd).1
    rw [lc_item, ev_yesT, if_pos rfl]
    refine w.post fun x μ2 ⟨e, f2⟩ => ?_
    subst e
    have g2 := f2.get g
    rw [lc_add g2]
    refine ⟨by rw [List.length_map, List.length_take]; omega, (f.trans f2).set _ (fun z => (Nat.lt_irrefl _ z).elim), ?_, il⟩
    rw [get_set g2, List.take_add_one, hd, Option.toList_some, List.map_append]
    rfl
  · rw [List.take_length] at g
    rw [ev_quant g (bools_map b ds)]
    rw [show (ds.map b).all id = ds.all b by rw [List.all_map]; rfl]
    exact hq _ ((f1.trans f).gc)
theorem all_true {X : Nat → Mu → Prop} {Q : D → Mu → Prop} {fi : Sl → M ItD} {tg : Tg} {fe : Sl → M D} {vs : List Nat} {ρ : Sl} {μ : Mu} (ds : List D) (hl : ds.length ≤ sizeLine) (hi : Ev nX (fun it μ1 => it = fixI ds ∧ Fr no μ μ1) (fi ρ μ))
    (he : ∀ (i : Nat) (d : D) (μ' : Mu), ds[i]? = some d → Fr no μ μ' → ∃ ρ1, tg.asg d (wipeD ρ vs) = some ρ1 ∧ Ev nX (fun x μ2 => x = .bl true ∧ Fr no μ' μ2) (fe ρ1 μ')) (hq : ∀ μ', Fr no μ μ' → Q (.bl true) μ') : AllP X Q fi tg fe vs ρ μ :=
  all_gen ds (fun _ => true) hl hi he fun μ' f => by rw [show (ds.all fun _ => true) = true by simp]; exact hq μ' f
section
variable {X : Nat → Mu → Prop} {Q : D → Mu → Prop} {μ : Mu}
theorem gid {S : Nat → Prop} {d : D} : Fr S μ (gcM μ.length d μ) := (Fr.refl S μ).gc
theorem w_is_outlet {o : Int × Int} {f l : Int} (ho : OutOk o f l) (h : ∀ μ', Fr no μ μ' → Q (.bl true) μ') : Ev X Q (d_is_outlet [oD o, .int f, .int l] μ) := by
  refine den_of rfl ?_
  unfold b_is_outlet oD
  simp only [ev_ix0, ev_ix1, ev_ix2, ws_seq, ws_next, ws_expr, ws_ret, ws_retN, ws_break, ws_set, ws_asg, ws_if, ws_raise, ws_par, ws_eff, ws_for, ev_varE, ev_cE, ev_binE, ev_unE, ev_nilA, ev_consA, ev_starA, ev_tupE, ev_newL, ev_lstE, ev_ifE, ev_asB, ev_valT, ev_andT, ev_orT, ev_notT, ev_andE, ev_intD, ev_addI, ev_addT, ev_mulI, ev_mulT, ev_negI, ev_isN, ev_isB, ev_eqI, ev_callE, ev_lenT, ev_intC, ev_listT, ev_two, ev_chainE, ev_lastC, ev_lastT, ev_linkC, ev_linkT, ev_truT, ev_mtE, ev_yesT, ev_all, ev_seqI, ev_rng1, ev_rng2, ev_zip, ev_enum, ev_lcE, ev_lc2E, lc_item, lc_item2, List.map_cons, List.map_nil, List.cons_append, List.nil_append, List.append_nil, List.replicate_succ, List.replicate_zero, Nat.reduceSub, Nat.reduceAdd, List.getElem?_cons_zero, List.getElem?_cons_succ, List.getElem?_nil, List.set_cons_zero, List.set_cons_succ, asg_nm, asg_tp, asgs_nil, asgs_cons, Option.bind_some, List.length_cons, List.length_nil, wipeD, true_and, and_true, if_true, if_false, Bool.false_eq_true, decide_eq_true_eq, Bool.not_true, Bool.not_false, Bool.xor_false, Bool.false_xor, Bool.true_xor, Bool.not_eq_true', decide_eq_false_iff_not, reduceIte]
  rcases ho with ⟨h1, h2⟩ | ⟨h0, h1, h2, h3, h4⟩
  · rw [if_pos h1, decide_eq_true h2]; exact h _ gid
  · rw [if_neg (by omega), if_pos h1, if_pos h2, if_pos h3, decide_eq_true h4]; exact h _ gid
theorem w_is_register {r : Reg} {a l : Int} (ho : RegOk r a l) (h : ∀ μ', Fr no μ μ' → Q (.bl true) μ') : Ev X Q (d_is_register [rD r, .int a, .int l] μ) := by
  refine den_of rfl ?_
  unfold b_is_register rD
  simp only [ev_ix0, ev_ix1, ev_ix2, ws_seq, ws_next, ws_expr, ws_ret, ws_retN, ws_break, ws_set, ws_asg, ws_if, ws_raise, ws_par, ws_eff, ws_for, ev_varE, ev_cE, ev_binE, ev_unE, ev_nilA, ev_consA, ev_starA, ev_tupE, ev_newL, ev_lstE, ev_ifE, ev_asB, ev_valT, ev_andT, ev_orT, ev_notT, ev_andE, ev_intD, ev_addI, ev_addT, ev_mulI, ev_mulT, ev_negI, ev_isN, ev_isB, ev_eqI, ev_callE, ev_lenT, ev_intC, ev_listT, ev_two, ev_chainE, ev_lastC, ev_lastT, ev_linkC, ev_linkT, ev_truT, ev_mtE, ev_yesT, ev_all, ev_seqI, ev_rng1, ev_rng2, ev_zip, ev_enum, ev_lcE, ev_lc2E, lc_item, lc_item2, List.map_cons, List.map_nil, List.cons_append, List.nil_append, List.append_nil, List.replicate_succ, List.replicate_zero, Nat.reduceSub, Nat.reduceAdd, List.getElem?_cons_zero, List.getElem?_cons_succ, List.getElem?_nil, List.set_cons_zero, List.set_cons_succ, asg_nm, asg_tp, asgs_nil, asgs_cons, Option.bind_some, List.length_cons, List.length_nil, wipeD, true_and, and_true, if_true, if_false, Bool.false_eq_true, decide_eq_true_eq, Bool.not_true, Bool.not_false, Bool.xor_false, Bool.false_xor, Bool.true_xor, Bool.not_eq_true', decide_eq_false_iff_not, reduceIte]
  obtain ⟨h1, h2, h3, h4, h5, h6⟩ := ho
  rw [if_pos (by omega), if_pos h2, if_pos h3]
  rw [if_neg (by omega)]
  refine w_is_outlet h5 fun μ1 f1 => ?_
  exact w_is_outlet h6 fun μ2 f2 => h _ (f1.trans f2).gc
theorem w_is_kind {k : List (Int × Int)} {l : Int} (ho : KindOk k l) (h : ∀ μ', Fr no μ μ' → Q (.bl true) μ') : Ev X Q (d_is_kind [kD k, .int l] μ) := by
  refine den_of rfl ?_
  unfold b_is_kind kD
  simp only [ev_ix0, ev_ix1, ev_ix2, ws_seq, ws_next, ws_expr, ws_ret, ws_retN, ws_break, ws_set, ws_asg, ws_if, ws_raise, ws_par, ws_eff, ws_for, ev_varE, ev_cE, ev_binE, ev_unE, ev_nilA, ev_consA, ev_starA, ev_tupE, ev_newL, ev_lstE, ev_ifE, ev_asB, ev_valT, ev_andT, ev_orT, ev_notT, ev_andE, ev_intD, ev_addI, ev_addT, ev_mulI, ev_mulT, ev_negI, ev_isN, ev_isB, ev_eqI, ev_callE, ev_lenT, ev_intC, ev_listT, ev_two, ev_chainE, ev_lastC, ev_lastT, ev_linkC, ev_linkT, ev_truT, ev_mtE, ev_yesT, ev_all, ev_seqI, ev_rng1, ev_rng2, ev_zip, ev_enum, ev_lcE, ev_lc2E, lc_item, lc_item2, List.map_cons, List.map_nil, List.cons_append, List.nil_append, List.append_nil, List.replicate_succ, List.replicate_zero, Nat.reduceSub, Nat.reduceAdd, List.getElem?_cons_zero, List.getElem?_cons_succ, List.getElem?_nil, List.set_cons_zero, List.set_cons_succ, asg_nm, asg_tp, asgs_nil, asgs_cons, Option.bind_some, List.length_cons, List.length_nil, wipeD, true_and, and_true, if_true, if_false, Bool.false_eq_true, decide_eq_true_eq, Bool.not_true, Bool.not_false, Bool.xor_false, Bool.false_xor, Bool.true_xor, Bool.not_eq_true', decide_eq_false_iff_not, reduceIte]
  obtain ⟨h1, h2, h3⟩ := ho
  simp only [List.length_map]
  rw [if_pos (by omega)]
  rw [if_neg (by omega)]
  refine all_true (k.map oD) (by rw [List.length_map]; exact Nat.le_trans h2 (by decide)) ?_ (fun i d μ' hd f => ?_) fun μ' f => h _ f.gc
  · simp only [ev_ix0, ev_ix1, ev_ix2, ws_seq, ws_next, ws_expr, ws_ret, ws_retN, ws_break, ws_set, ws_asg, ws_if, ws_raise, ws_par, ws_eff, ws_for, ev_varE, ev_cE, ev_binE, ev_unE, ev_nilA, ev_consA, ev_starA, ev_tupE, ev_newL, ev_lstE, ev_ifE, ev_asB, ev_valT, ev_andT, ev_orT, ev_notT, ev_andE, ev_intD, ev_addI, ev_addT, ev_mulI, ev_mulT, ev_negI, ev_isN, ev_isB, ev_eqI, ev_callE, ev_lenT, ev_intC, ev_listT, ev_two, ev_chainE, ev_lastC, ev_lastT, ev_linkC, ev_linkT, ev_truT, ev_mtE, ev_yesT, ev_all, ev_seqI, ev_rng1, ev_rng2, ev_zip, ev_enum, ev_lcE, ev_lc2E, lc_item, lc_item2, List.map_cons, List.map_nil, List.cons_append, List.nil_append, List.append_nil, List.replicate_succ, List.replicate_zero, Nat.reduceSub, Nat.reduceAdd, List.getElem?_cons_zero, List.getElem?_cons_succ, List.getElem?_nil, List.set_cons_zero, List.set_cons_succ, asg_nm, asg_tp, asgs_nil, asgs_cons, Option.bind_some, List.length_cons, List.length_nil, wipeD, true_and, and_true, if_true, if_false, Bool.false_eq_true, decide_eq_true_eq, Bool.not_true, Bool.not_false, Bool.xor_false, Bool.false_xor, Bool.true_xor, Bool.not_eq_true', decide_eq_false_iff_not, reduceIte]; exact Fr.refl _ _
  · rw [List.getElem?_map] at hd
    obtain ⟨e, he, rfl⟩ := Option.map_eq_some_iff.mp hd
    have := h3 e (List.mem_of_getElem? he)
    refine ⟨[some (.tup (k.map oD)), some (.int l), some (.int e.1), some (.int e.2)], rfl, ?_⟩
    simp only [ev_ix0, ev_ix1, ev_ix2, ws_seq, ws_next, ws_expr, ws_ret, ws_retN, ws_break, ws_set, ws_asg, ws_if, ws_raise, ws_par, ws_eff, ws_for, ev_varE, ev_cE, ev_binE, ev_unE, ev_nilA, ev_consA, ev_starA, ev_tupE, ev_newL, ev_lstE, ev_ifE, ev_asB, ev_valT, ev_andT, ev_orT, ev_notT, ev_andE, ev_intD, ev_addI, ev_addT, ev_mulI, ev_mulT, ev_negI, ev_isN, ev_isB, ev_eqI, ev_callE, ev_lenT, ev_intC, ev_listT, ev_two, ev_chainE, ev_lastC, ev_lastT, ev_linkC, ev_linkT, ev_truT, ev_mtE, ev_yesT, ev_all, ev_seqI, ev_rng1, ev_rng2, ev_zip, ev_enum, ev_lcE, ev_lc2E, lc_item, lc_item2, List.map_cons, List.map_nil, List.cons_append, List.nil_append, List.append_nil, List.replicate_succ, List.replicate_zero, Nat.reduceSub, Nat.reduceAdd, List.getElem?_cons_zero, List.getElem?_cons_succ, List.getElem?_nil, List.set_cons_zero, List.set_cons_succ, asg_nm, asg_tp, asgs_nil, asgs_cons, Option.bind_some, List.length_cons, List.length_nil, wipeD, true_and, and_true, if_true, if_false, Bool.false_eq_true, decide_eq_true_eq, Bool.not_true, Bool.not_false, Bool.xor_false, Bool.false_xor, Bool.true_xor, Bool.not_eq_true', decide_eq_false_iff_not, reduceIte]
    rw [if_pos this.1.1]
    rw [if_pos this.1.2, if_pos this.2.1, decide_eq_true this.2.2]
    exact ⟨rfl, Fr.refl _ _⟩
theorem enumL_get (ds : List D) (i : Nat) : (enumL 0 ds)[i]? = (ds[i]?).map fun d => D.tup [.int (i : Int), d] := by
  have := enum_get ds 0 i
  rw [this]; simp
theorem enumL_len : ∀ (ds : List D) (k : Nat), (enumL k ds).length = ds.length
  | [], _ => rfl
  | d :: ds, k => by simp only [enumL, List.length_cons, enumL_len ds]
theorem sizes_pos {last : Int} : ∀ {rs : List Reg}, (∀ r ∈ rs, r.lo ≤ r.hi) → 1 ≤ sizes rs
  | [], _ => by show (1 : Int) ≤ 1; omega
  | r :: rs, h => by
    have h1 : 1 ≤ sizes rs := sizes_pos (last := last) fun r hr => h r (List.mem_cons_of_mem _ hr)
    have h2 := h r (List.mem_cons_self ..)
    show 1 ≤ (r.hi - r.lo + 1) * sizes rs
    have := Int.mul_le_mul (show (1 : Int) ≤ r.hi - r.lo + 1 by omega) h1 (by omega) (by omega)
    omega
def prod : List Reg → Int := fun rs => rs.foldl (fun s r => s * (r.hi - r.lo + 1)) 1
theorem prod_from : ∀ (rs : List Reg) (s : Int), rs.foldl (fun s r => s * (r.hi - r.lo + 1)) s = s * sizes rs
  | [], s => by show s = s * 1; omega
  | r :: rs, s => by
    rw [List.foldl_cons, prod_from rs]
    show s * (r.hi - r.lo + 1) * sizes rs = s * ((r.hi - r.lo + 1) * sizes rs)
    rw [Int.mul_assoc]
theorem prod_eq (rs : List Reg) : prod rs = sizes rs := by unfold prod; rw [prod_from]; omega
theorem PgOk.le {p : Pg} (h : PgOk p) : ∀ r ∈ p.rs, r.lo ≤ r.hi := fun r hr => by
  obtain ⟨i, hi⟩ := List.getElem?_of_mem hr
  have := h.rg i r hi
  exact Int.le_trans this.2.1 this.2.2.1
theorem PgOk.bd {p : Pg} (h : PgOk p) : ∀ r ∈ p.rs, -400 ≤ r.lo ∧ r.hi ≤ 400 := fun r hr => by
  obtain ⟨i, hi⟩ := List.getElem?_of_mem hr
  have := h.rg i r hi
  exact ⟨this.1, this.2.2.2.1⟩
/-- what a prefix's sizes come to: not above the whole -/
theorem prod_le {p : Pg} (h : PgOk p) (i : Nat) : 1 ≤ prod (p.rs.take i) ∧ prod (p.rs.take i) ≤ 2000 := by
  have e : sizes p.rs = sizes (p.rs.take i) * sizes (p.rs.drop i) := by
    have : p.rs = p.rs.take i ++ p.rs.drop i := (List.take_append_drop i p.rs).symm
    have f : ∀ (a b : List Reg), sizes (a ++ b) = sizes a * sizes b := fun a b => by
      induction a with
      | nil => show sizes b = 1 * sizes b; omega
      | cons r a ih => show (r.hi - r.lo + 1) * sizes (a ++ b) = (r.hi - r.lo + 1) * sizes a * sizes b; rw [ih, Int.mul_assoc]
    conv => lhs; rw [this]
    exact f _ _
  have h1 : 1 ≤ sizes (p.rs.take i) := sizes_pos (last := 0) fun r hr => h.le r (List.mem_of_mem_take hr)
  have h2 : 1 ≤ sizes (p.rs.drop i) := sizes_pos (last := 0) fun r hr => h.le r (List.mem_of_mem_drop hr)
  have h3 := h.sz
  rw [e] at h3
  rw [prod_eq]
  refine ⟨h1, ?_⟩
  have := Int.mul_le_mul (Int.le_refl (sizes (p.rs.take i))) h2 (by omega) (by omega)
  omega
theorem prod_next {rs : List Reg} {i : Nat} {r : Reg} (h : rs[i]? = some r) : prod (rs.take (i + 1)) = prod (rs.take i) * (r.hi - r.lo + 1) := by
  rw [List.take_add_one, h]
  unfold prod
  rw [Option.toList_some, List.foldl_append]
  rfl
theorem w_is_program {p : Pg} (ho : PgOk p) (h : ∀ μ', Fr no μ μ' → Q (.bl true) μ') : Ev X Q (d_is_program [pD p] μ) := by
  refine den_of rfl ?_
  unfold b_is_program pD
  simp only [ev_ix0, ev_ix1, ev_ix2, ws_seq, ws_next, ws_expr, ws_ret, ws_retN, ws_break, ws_set, ws_asg, ws_if, ws_raise, ws_par, ws_eff, ws_for, ev_varE, ev_cE, ev_binE, ev_unE, ev_nilA, ev_consA, ev_starA, ev_tupE, ev_newL, ev_lstE, ev_ifE, ev_asB, ev_valT, ev_andT, ev_orT, ev_notT, ev_andE, ev_intD, ev_addI, ev_addT, ev_mulI, ev_mulT, ev_negI, ev_isN, ev_isB, ev_eqI, ev_callE, ev_lenT, ev_intC, ev_listT, ev_two, ev_chainE, ev_lastC, ev_lastT, ev_linkC, ev_linkT, ev_truT, ev_mtE, ev_yesT, ev_all, ev_seqI, ev_rng1, ev_rng2, ev_zip, ev_enum, ev_lcE, ev_lc2E, lc_item, lc_item2, List.map_cons, List.map_nil, List.cons_append, List.nil_append, List.append_nil, List.replicate_succ, List.replicate_zero, Nat.reduceSub, Nat.reduceAdd, List.getElem?_cons_zero, List.getElem?_cons_succ, List.getElem?_nil, List.set_cons_zero, List.set_cons_succ, asg_nm, asg_tp, asgs_nil, asgs_cons, Option.bind_some, List.length_cons, List.length_nil, wipeD, true_and, and_true, if_true, if_false, Bool.false_eq_true, decide_eq_true_eq, Bool.not_true, Bool.not_false, Bool.xor_false, Bool.false_xor, Bool.true_xor, Bool.not_eq_true', decide_eq_false_iff_not, reduceIte]
  have h1 := ho.nr; have h2 := ho.np1; have h3 := ho.np2; have h4 := ho.nk1; have h5 := ho.nk2
  simp only [List.length_map]
  rw [if_neg (by omega), if_pos (by omega), if_neg (by omega), if_pos (by omega), if_neg (by omega)]
  refine all_true (enumL 0 (p.rs.map rD)) (by rw [enumL_len, List.length_map]; exact Nat.le_trans h1 (by decide)) ?_ (fun i d μ' hd f => ?_) fun μ1 f1 => ?_
  · simp only [ev_ix0, ev_ix1, ev_ix2, ws_seq, ws_next, ws_expr, ws_ret, ws_retN, ws_break, ws_set, ws_asg, ws_if, ws_raise, ws_par, ws_eff, ws_for, ev_varE, ev_cE, ev_binE, ev_unE, ev_nilA, ev_consA, ev_starA, ev_tupE, ev_newL, ev_lstE, ev_ifE, ev_asB, ev_valT, ev_andT, ev_orT, ev_notT, ev_andE, ev_intD, ev_addI, ev_addT, ev_mulI, ev_mulT, ev_negI, ev_isN, ev_isB, ev_eqI, ev_callE, ev_lenT, ev_intC, ev_listT, ev_two, ev_chainE, ev_lastC, ev_lastT, ev_linkC, ev_linkT, ev_truT, ev_mtE, ev_yesT, ev_all, ev_seqI, ev_rng1, ev_rng2, ev_zip, ev_enum, ev_lcE, ev_lc2E, lc_item, lc_item2, List.map_cons, List.map_nil, List.cons_append, List.nil_append, List.append_nil, List.replicate_succ, List.replicate_zero, Nat.reduceSub, Nat.reduceAdd, List.getElem?_cons_zero, List.getElem?_cons_succ, List.getElem?_nil, List.set_cons_zero, List.set_cons_succ, asg_nm, asg_tp, asgs_nil, asgs_cons, Option.bind_some, List.length_cons, List.length_nil, wipeD, true_and, and_true, if_true, if_false, Bool.false_eq_true, decide_eq_true_eq, Bool.not_true, Bool.not_false, Bool.xor_false, Bool.false_xor, Bool.true_xor, Bool.not_eq_true', decide_eq_false_iff_not, reduceIte]; exact Fr.refl _ _
  · rw [enumL_get, List.getElem?_map] at hd
    obtain ⟨d1, hd1, rfl⟩ := Option.map_eq_some_iff.mp hd
    obtain ⟨r, hr, rfl⟩ := Option.map_eq_some_iff.mp hd1
    refine ⟨_, rfl, ?_⟩
    simp only [ev_ix0, ev_ix1, ev_ix2, ws_seq, ws_next, ws_expr, ws_ret, ws_retN, ws_break, ws_set, ws_asg, ws_if, ws_raise, ws_par, ws_eff, ws_for, ev_varE, ev_cE, ev_binE, ev_unE, ev_nilA, ev_consA, ev_starA, ev_tupE, ev_newL, ev_lstE, ev_ifE, ev_asB, ev_valT, ev_andT, ev_orT, ev_notT, ev_andE, ev_intD, ev_addI, ev_addT, ev_mulI, ev_mulT, ev_negI, ev_isN, ev_isB, ev_eqI, ev_callE, ev_lenT, ev_intC, ev_listT, ev_two, ev_chainE, ev_lastC, ev_lastT, ev_linkC, ev_linkT, ev_truT, ev_mtE, ev_yesT, ev_all, ev_seqI, ev_rng1, ev_rng2, ev_zip, ev_enum, ev_lcE, ev_lc2E, lc_item, lc_item2, List.map_cons, List.map_nil, List.cons_append, List.nil_append, List.append_nil, List.replicate_succ, List.replicate_zero, Nat.reduceSub, Nat.reduceAdd, List.getElem?_cons_zero, List.getElem?_cons_succ, List.getElem?_nil, List.set_cons_zero, List.set_cons_succ, asg_nm, asg_tp, asgs_nil, asgs_cons, Option.bind_some, List.length_cons, List.length_nil, wipeD, true_and, and_true, if_true, if_false, Bool.false_eq_true, decide_eq_true_eq, Bool.not_true, Bool.not_false, Bool.xor_false, Bool.false_xor, Bool.true_xor, Bool.not_eq_true', decide_eq_false_iff_not, reduceIte]
    exact w_is_register (ho.rg i r hr) fun μ2 f2 => ⟨rfl, f2⟩
  · rw [ev_asB, if_neg (by simp)]
    refine ws_fix (fun i ρ' μ' => Fr no μ1 μ' ∧ ∃ x6 x7 x8 x9 x10 x11, ρ' = [some (pD p), some (.int p.last), some (.int (prod (p.rs.take i))), some (.tup (p.rs.map rD)), some (.int p.ps), some (.tup (p.ks.map kD)), x6, x7, x8, x9, x10, x11]) ⟨Fr.refl _ _, _, _, _, _, _, _, rfl⟩ (fun i d ρ' μ' hd ⟨f, x6, x7, x8, x9, x10, x11, e⟩ => ?_) (fun ρ' μ' ⟨f, x6, x7, x8, x9, x10, x11, e⟩ => ?_)
    · subst e
      rw [List.getElem?_map] at hd
      obtain ⟨r, hr, rfl⟩ := Option.map_eq_some_iff.mp hd
      refine ⟨_, rfl, ?_⟩
      rw [ws_aug rfl]
      simp only [ev_ix0, ev_ix1, ev_ix2, ws_seq, ws_next, ws_expr, ws_ret, ws_retN, ws_break, ws_set, ws_asg, ws_if, ws_raise, ws_par, ws_eff, ws_for, ev_varE, ev_cE, ev_binE, ev_unE, ev_nilA, ev_consA, ev_starA, ev_tupE, ev_newL, ev_lstE, ev_ifE, ev_asB, ev_valT, ev_andT, ev_orT, ev_notT, ev_andE, ev_intD, ev_addI, ev_addT, ev_mulI, ev_mulT, ev_negI, ev_isN, ev_isB, ev_eqI, ev_callE, ev_lenT, ev_intC, ev_listT, ev_two, ev_chainE, ev_lastC, ev_lastT, ev_linkC, ev_linkT, ev_truT, ev_mtE, ev_yesT, ev_all, ev_seqI, ev_rng1, ev_rng2, ev_zip, ev_enum, ev_lcE, ev_lc2E, lc_item, lc_item2, List.map_cons, List.map_nil, List.cons_append, List.nil_append, List.append_nil, List.replicate_succ, List.replicate_zero, Nat.reduceSub, Nat.reduceAdd, List.getElem?_cons_zero, List.getElem?_cons_succ, List.getElem?_nil, List.set_cons_zero, List.set_cons_succ, asg_nm, asg_tp, asgs_nil, asgs_cons, Option.bind_some, List.length_cons, List.length_nil, wipeD, true_and, and_true, if_true, if_false, Bool.false_eq_true, decide_eq_true_eq, Bool.not_true, Bool.not_false, Bool.xor_false, Bool.false_xor, Bool.true_xor, Bool.not_eq_true', decide_eq_false_iff_not, reduceIte]
      have hb := prod_le ho i
      rw [prod_next hr]
      exact ⟨.inl ⟨by omega, by omega⟩, f, _, _, _, _, _, _, rfl⟩
    · subst e
      simp only [ev_ix0, ev_ix1, ev_ix2, ws_seq, ws_next, ws_expr, ws_ret, ws_retN, ws_break, ws_set, ws_asg, ws_if, ws_raise, ws_par, ws_eff, ws_for, ev_varE, ev_cE, ev_binE, ev_unE, ev_nilA, ev_consA, ev_starA, ev_tupE, ev_newL, ev_lstE, ev_ifE, ev_asB, ev_valT, ev_andT, ev_orT, ev_notT, ev_andE, ev_intD, ev_addI, ev_addT, ev_mulI, ev_mulT, ev_negI, ev_isN, ev_isB, ev_eqI, ev_callE, ev_lenT, ev_intC, ev_listT, ev_two, ev_chainE, ev_lastC, ev_lastT, ev_linkC, ev_linkT, ev_truT, ev_mtE, ev_yesT, ev_all, ev_seqI, ev_rng1, ev_rng2, ev_zip, ev_enum, ev_lcE, ev_lc2E, lc_item, lc_item2, List.map_cons, List.map_nil, List.cons_append, List.nil_append, List.append_nil, List.replicate_succ, List.replicate_zero, Nat.reduceSub, Nat.reduceAdd, List.getElem?_cons_zero, List.getElem?_cons_succ, List.getElem?_nil, List.set_cons_zero, List.set_cons_succ, asg_nm, asg_tp, asgs_nil, asgs_cons, Option.bind_some, List.length_cons, List.length_nil, wipeD, true_and, and_true, if_true, if_false, Bool.false_eq_true, decide_eq_true_eq, Bool.not_true, Bool.not_false, Bool.xor_false, Bool.false_xor, Bool.true_xor, Bool.not_eq_true', decide_eq_false_iff_not, reduceIte]
      rw [List.length_map, List.take_length, prod_eq, if_pos ho.sz]
      refine all_true (p.ks.map kD) (by rw [List.length_map]; exact Nat.le_trans h5 (by decide)) ?_ (fun i d μ' hd f => ?_) fun μ2 f2 => h _ ((f1.trans f).trans f2).gc
      · simp only [ev_ix0, ev_ix1, ev_ix2, ws_seq, ws_next, ws_expr, ws_ret, ws_retN, ws_break, ws_set, ws_asg, ws_if, ws_raise, ws_par, ws_eff, ws_for, ev_varE, ev_cE, ev_binE, ev_unE, ev_nilA, ev_consA, ev_starA, ev_tupE, ev_newL, ev_lstE, ev_ifE, ev_asB, ev_valT, ev_andT, ev_orT, ev_notT, ev_andE, ev_intD, ev_addI, ev_addT, ev_mulI, ev_mulT, ev_negI, ev_isN, ev_isB, ev_eqI, ev_callE, ev_lenT, ev_intC, ev_listT, ev_two, ev_chainE, ev_lastC, ev_lastT, ev_linkC, ev_linkT, ev_truT, ev_mtE, ev_yesT, ev_all, ev_seqI, ev_rng1, ev_rng2, ev_zip, ev_enum, ev_lcE, ev_lc2E, lc_item, lc_item2, List.map_cons, List.map_nil, List.cons_append, List.nil_append, List.append_nil, List.replicate_succ, List.replicate_zero, Nat.reduceSub, Nat.reduceAdd, List.getElem?_cons_zero, List.getElem?_cons_succ, List.getElem?_nil, List.set_cons_zero, List.set_cons_succ, asg_nm, asg_tp, asgs_nil, asgs_cons, Option.bind_some, List.length_cons, List.length_nil, wipeD, true_and, and_true, if_true, if_false, Bool.false_eq_true, decide_eq_true_eq, Bool.not_true, Bool.not_false, Bool.xor_false, Bool.false_xor, Bool.true_xor, Bool.not_eq_true', decide_eq_false_iff_not, reduceIte]; exact Fr.refl _ _
      · rw [List.getElem?_map] at hd
        obtain ⟨k, hk, rfl⟩ := Option.map_eq_some_iff.mp hd
        refine ⟨_, rfl, ?_⟩
        simp only [ev_ix0, ev_ix1, ev_ix2, ws_seq, ws_next, ws_expr, ws_ret, ws_retN, ws_break, ws_set, ws_asg, ws_if, ws_raise, ws_par, ws_eff, ws_for, ev_varE, ev_cE, ev_binE, ev_unE, ev_nilA, ev_consA, ev_starA, ev_tupE, ev_newL, ev_lstE, ev_ifE, ev_asB, ev_valT, ev_andT, ev_orT, ev_notT, ev_andE, ev_intD, ev_addI, ev_addT, ev_mulI, ev_mulT, ev_negI, ev_isN, ev_isB, ev_eqI, ev_callE, ev_lenT, ev_intC, ev_listT, ev_two, ev_chainE, ev_lastC, ev_lastT, ev_linkC, ev_linkT, ev_truT, ev_mtE, ev_yesT, ev_all, ev_seqI, ev_rng1, ev_rng2, ev_zip, ev_enum, ev_lcE, ev_lc2E, lc_item, lc_item2, List.map_cons, List.map_nil, List.cons_append, List.nil_append, List.append_nil, List.replicate_succ, List.replicate_zero, Nat.reduceSub, Nat.reduceAdd, List.getElem?_cons_zero, List.getElem?_cons_succ, List.getElem?_nil, List.set_cons_zero, List.set_cons_succ, asg_nm, asg_tp, asgs_nil, asgs_cons, Option.bind_some, List.length_cons, List.length_nil, wipeD, true_and, and_true, if_true, if_false, Bool.false_eq_true, decide_eq_true_eq, Bool.not_true, Bool.not_false, Bool.xor_false, Bool.false_xor, Bool.true_xor, Bool.not_eq_true', decide_eq_false_iff_not, reduceIte]
        exact w_is_kind (ho.kd k (List.mem_of_getElem? hk)) fun μ2 f2 => ⟨rfl, f2⟩
theorem w_check_program {p : Pg} (ho : PgOk p) (h : ∀ μ', Fr no μ μ' → Q .non μ') : Ev X Q (d_check_program [pD p] μ) := by
  refine den_of rfl ?_
  unfold b_check_program
  simp only [ev_ix0, ev_ix1, ev_ix2, ws_seq, ws_next, ws_expr, ws_ret, ws_retN, ws_break, ws_set, ws_asg, ws_if, ws_raise, ws_par, ws_eff, ws_for, ev_varE, ev_cE, ev_binE, ev_unE, ev_nilA, ev_consA, ev_starA, ev_tupE, ev_newL, ev_lstE, ev_ifE, ev_asB, ev_valT, ev_andT, ev_orT, ev_notT, ev_andE, ev_intD, ev_addI, ev_addT, ev_mulI, ev_mulT, ev_negI, ev_isN, ev_isB, ev_eqI, ev_callE, ev_lenT, ev_intC, ev_listT, ev_two, ev_chainE, ev_lastC, ev_lastT, ev_linkC, ev_linkT, ev_truT, ev_mtE, ev_yesT, ev_all, ev_seqI, ev_rng1, ev_rng2, ev_zip, ev_enum, ev_lcE, ev_lc2E, lc_item, lc_item2, List.map_cons, List.map_nil, List.cons_append, List.nil_append, List.append_nil, List.replicate_succ, List.replicate_zero, Nat.reduceSub, Nat.reduceAdd, List.getElem?_cons_zero, List.getElem?_cons_succ, List.getElem?_nil, List.set_cons_zero, List.set_cons_succ, asg_nm, asg_tp, asgs_nil, asgs_cons, Option.bind_some, List.length_cons, List.length_nil, wipeD, true_and, and_true, if_true, if_false, Bool.false_eq_true, decide_eq_true_eq, Bool.not_true, Bool.not_false, Bool.xor_false, Bool.false_xor, Bool.true_xor, Bool.not_eq_true', decide_eq_false_iff_not, reduceIte]
  refine w_is_program ho fun μ1 f1 => ?_
  simp only [ev_ix0, ev_ix1, ev_ix2, ws_seq, ws_next, ws_expr, ws_ret, ws_retN, ws_break, ws_set, ws_asg, ws_if, ws_raise, ws_par, ws_eff, ws_for, ev_varE, ev_cE, ev_binE, ev_unE, ev_nilA, ev_consA, ev_starA, ev_tupE, ev_newL, ev_lstE, ev_ifE, ev_asB, ev_valT, ev_andT, ev_orT, ev_notT, ev_andE, ev_intD, ev_addI, ev_addT, ev_mulI, ev_mulT, ev_negI, ev_isN, ev_isB, ev_eqI, ev_callE, ev_lenT, ev_intC, ev_listT, ev_two, ev_chainE, ev_lastC, ev_lastT, ev_linkC, ev_linkT, ev_truT, ev_mtE, ev_yesT, ev_all, ev_seqI, ev_rng1, ev_rng2, ev_zip, ev_enum, ev_lcE, ev_lc2E, lc_item, lc_item2, List.map_cons, List.map_nil, List.cons_append, List.nil_append, List.append_nil, List.replicate_succ, List.replicate_zero, Nat.reduceSub, Nat.reduceAdd, List.getElem?_cons_zero, List.getElem?_cons_succ, List.getElem?_nil, List.set_cons_zero, List.set_cons_succ, asg_nm, asg_tp, asgs_nil, asgs_cons, Option.bind_some, List.length_cons, List.length_nil, wipeD, true_and, and_true, if_true, if_false, Bool.false_eq_true, decide_eq_true_eq, Bool.not_true, Bool.not_false, Bool.xor_false, Bool.false_xor, Bool.true_xor, Bool.not_eq_true', decide_eq_false_iff_not, reduceIte]
  exact h _ f1.gc
end
end K69
end TPL1

section TPL2
set_option maxRecDepth 100000
set_option maxHeartbeats 2000000
namespace K69
open PySem L2 PySem.Spec PyProof.Rows DL
section
variable {X : Nat → Mu → Prop} {Q : D → Mu → Prop} {μ : Mu}
/-! ### levels and rows that are in order -/
structure LvOk (p : Pg) (lv : List Int) : Prop where
  len : lv.length = p.rs.length
  bd : ∀ (i : Nat) (r : Reg) (x : Int), p.rs[i]? = some r → lv[i]? = some x → r.lo ≤ x ∧ x ≤ r.hi
theorem w_fits {p : Pg} {lv : List Int} (hp : PgOk p) (ho : LvOk p lv) (h : ∀ μ', Fr no μ μ' → Q (.bl true) μ') : Ev X Q (d_fits [pD p, iD lv] μ) := by
  refine den_of rfl ?_
  unfold b_fits pD iD
  simp only [ev_ix0, ev_ix1, ev_ix2, ws_seq, ws_next, ws_expr, ws_ret, ws_retN, ws_break, ws_set, ws_asg, ws_if, ws_raise, ws_par, ws_eff, ws_for, ev_varE, ev_cE, ev_binE, ev_unE, ev_nilA, ev_consA, ev_starA, ev_tupE, ev_newL, ev_lstE, ev_ifE, ev_asB, ev_valT, ev_andT, ev_orT, ev_notT, ev_andE, ev_intD, ev_addI, ev_addT, ev_mulI, ev_mulT, ev_negI, ev_isN, ev_isB, ev_eqI, ev_callE, ev_lenT, ev_intC, ev_listT, ev_two, ev_chainE, ev_lastC, ev_lastT, ev_linkC, ev_linkT, ev_truT, ev_mtE, ev_yesT, ev_all, ev_seqI, ev_rng1, ev_rng2, ev_zip, ev_enum, ev_lcE, ev_lc2E, lc_item, lc_item2, List.map_cons, List.map_nil, List.cons_append, List.nil_append, List.append_nil, List.replicate_succ, List.replicate_zero, Nat.reduceSub, Nat.reduceAdd, List.getElem?_cons_zero, List.getElem?_cons_succ, List.getElem?_nil, List.set_cons_zero, List.set_cons_succ, asg_nm, asg_tp, asgs_nil, asgs_cons, Option.bind_some, List.length_cons, List.length_nil, wipeD, true_and, and_true, if_true, if_false, Bool.false_eq_true, decide_eq_true_eq, Bool.not_true, Bool.not_false, Bool.xor_false, Bool.false_xor, Bool.true_xor, Bool.not_eq_true', decide_eq_false_iff_not, reduceIte]
  rw [List.length_map, List.length_map, ho.len, if_pos rfl]
  refine all_true (List.zipWith (fun a b => D.tup [a, b]) (p.rs.map rD) (lv.map .int)) ?_ ?_ (fun i d μ' hd f => ?_) fun μ' f => h _ f.gc
  · rw [List.length_zipWith, List.length_map]
    have := hp.nr
    exact Nat.le_trans (Nat.min_le_left _ _) (Nat.le_trans this (by decide))
  · simp only [ev_ix0, ev_ix1, ev_ix2, ws_seq, ws_next, ws_expr, ws_ret, ws_retN, ws_break, ws_set, ws_asg, ws_if, ws_raise, ws_par, ws_eff, ws_for, ev_varE, ev_cE, ev_binE, ev_unE, ev_nilA, ev_consA, ev_starA, ev_tupE, ev_newL, ev_lstE, ev_ifE, ev_asB, ev_valT, ev_andT, ev_orT, ev_notT, ev_andE, ev_intD, ev_addI, ev_addT, ev_mulI, ev_mulT, ev_negI, ev_isN, ev_isB, ev_eqI, ev_callE, ev_lenT, ev_intC, ev_listT, ev_two, ev_chainE, ev_lastC, ev_lastT, ev_linkC, ev_linkT, ev_truT, ev_mtE, ev_yesT, ev_all, ev_seqI, ev_rng1, ev_rng2, ev_zip, ev_enum, ev_lcE, ev_lc2E, lc_item, lc_item2, List.map_cons, List.map_nil, List.cons_append, List.nil_append, List.append_nil, List.replicate_succ, List.replicate_zero, Nat.reduceSub, Nat.reduceAdd, List.getElem?_cons_zero, List.getElem?_cons_succ, List.getElem?_nil, List.set_cons_zero, List.set_cons_succ, asg_nm, asg_tp, asgs_nil, asgs_cons, Option.bind_some, List.length_cons, List.length_nil, wipeD, true_and, and_true, if_true, if_false, Bool.false_eq_true, decide_eq_true_eq, Bool.not_true, Bool.not_false, Bool.xor_false, Bool.false_xor, Bool.true_xor, Bool.not_eq_true', decide_eq_false_iff_not, reduceIte]; exact Fr.refl _ _
  · rw [List.getElem?_zipWith] at hd
    rw [List.getElem?_map, List.getElem?_map] at hd
    cases hr : p.rs[i]? with
    | none => rw [hr] at hd; cases hd
    | some r =>
      cases hx : lv[i]? with
      | none => rw [hr, hx] at hd; cases hd
      | some x =>
        rw [hr, hx] at hd
        cases hd
        have hb := ho.bd i r x hr hx
        refine ⟨_, rfl, ?_⟩
        unfold rD
        simp only [ev_ix0, ev_ix1, ev_ix2, ws_seq, ws_next, ws_expr, ws_ret, ws_retN, ws_break, ws_set, ws_asg, ws_if, ws_raise, ws_par, ws_eff, ws_for, ev_varE, ev_cE, ev_binE, ev_unE, ev_nilA, ev_consA, ev_starA, ev_tupE, ev_newL, ev_lstE, ev_ifE, ev_asB, ev_valT, ev_andT, ev_orT, ev_notT, ev_andE, ev_intD, ev_addI, ev_addT, ev_mulI, ev_mulT, ev_negI, ev_isN, ev_isB, ev_eqI, ev_callE, ev_lenT, ev_intC, ev_listT, ev_two, ev_chainE, ev_lastC, ev_lastT, ev_linkC, ev_linkT, ev_truT, ev_mtE, ev_yesT, ev_all, ev_seqI, ev_rng1, ev_rng2, ev_zip, ev_enum, ev_lcE, ev_lc2E, lc_item, lc_item2, List.map_cons, List.map_nil, List.cons_append, List.nil_append, List.append_nil, List.replicate_succ, List.replicate_zero, Nat.reduceSub, Nat.reduceAdd, List.getElem?_cons_zero, List.getElem?_cons_succ, List.getElem?_nil, List.set_cons_zero, List.set_cons_succ, asg_nm, asg_tp, asgs_nil, asgs_cons, Option.bind_some, List.length_cons, List.length_nil, wipeD, true_and, and_true, if_true, if_false, Bool.false_eq_true, decide_eq_true_eq, Bool.not_true, Bool.not_false, Bool.xor_false, Bool.false_xor, Bool.true_xor, Bool.not_eq_true', decide_eq_false_iff_not, reduceIte]
        rw [if_pos hb.1, decide_eq_true hb.2]
        exact ⟨rfl, Fr.refl _ _⟩
theorem w_is_level {p : Pg} {lv : List Int} (hp : PgOk p) (ho : LvOk p lv) (h : ∀ μ', Fr no μ μ' → Q (.bl true) μ') : Ev X Q (d_is_level [pD p, iD lv] μ) := by
  refine den_of rfl ?_
  unfold b_is_level
  simp only [ev_ix0, ev_ix1, ev_ix2, ws_seq, ws_next, ws_expr, ws_ret, ws_retN, ws_break, ws_set, ws_asg, ws_if, ws_raise, ws_par, ws_eff, ws_for, ev_varE, ev_cE, ev_binE, ev_unE, ev_nilA, ev_consA, ev_starA, ev_tupE, ev_newL, ev_lstE, ev_ifE, ev_asB, ev_valT, ev_andT, ev_orT, ev_notT, ev_andE, ev_intD, ev_addI, ev_addT, ev_mulI, ev_mulT, ev_negI, ev_isN, ev_isB, ev_eqI, ev_callE, ev_lenT, ev_intC, ev_listT, ev_two, ev_chainE, ev_lastC, ev_lastT, ev_linkC, ev_linkT, ev_truT, ev_mtE, ev_yesT, ev_all, ev_seqI, ev_rng1, ev_rng2, ev_zip, ev_enum, ev_lcE, ev_lc2E, lc_item, lc_item2, List.map_cons, List.map_nil, List.cons_append, List.nil_append, List.append_nil, List.replicate_succ, List.replicate_zero, Nat.reduceSub, Nat.reduceAdd, List.getElem?_cons_zero, List.getElem?_cons_succ, List.getElem?_nil, List.set_cons_zero, List.set_cons_succ, asg_nm, asg_tp, asgs_nil, asgs_cons, Option.bind_some, List.length_cons, List.length_nil, wipeD, true_and, and_true, if_true, if_false, Bool.false_eq_true, decide_eq_true_eq, Bool.not_true, Bool.not_false, Bool.xor_false, Bool.false_xor, Bool.true_xor, Bool.not_eq_true', decide_eq_false_iff_not, reduceIte]
  exact w_check_program hp fun μ1 f1 => w_fits hp ho fun μ2 f2 => h _ (f1.trans f2).gc
theorem w_check_level {p : Pg} {lv : List Int} (hp : PgOk p) (ho : LvOk p lv) (h : ∀ μ', Fr no μ μ' → Q .non μ') : Ev X Q (d_check_level [pD p, iD lv] μ) := by
  refine den_of rfl ?_
  unfold b_check_level
  simp only [ev_ix0, ev_ix1, ev_ix2, ws_seq, ws_next, ws_expr, ws_ret, ws_retN, ws_break, ws_set, ws_asg, ws_if, ws_raise, ws_par, ws_eff, ws_for, ev_varE, ev_cE, ev_binE, ev_unE, ev_nilA, ev_consA, ev_starA, ev_tupE, ev_newL, ev_lstE, ev_ifE, ev_asB, ev_valT, ev_andT, ev_orT, ev_notT, ev_andE, ev_intD, ev_addI, ev_addT, ev_mulI, ev_mulT, ev_negI, ev_isN, ev_isB, ev_eqI, ev_callE, ev_lenT, ev_intC, ev_listT, ev_two, ev_chainE, ev_lastC, ev_lastT, ev_linkC, ev_linkT, ev_truT, ev_mtE, ev_yesT, ev_all, ev_seqI, ev_rng1, ev_rng2, ev_zip, ev_enum, ev_lcE, ev_lc2E, lc_item, lc_item2, List.map_cons, List.map_nil, List.cons_append, List.nil_append, List.append_nil, List.replicate_succ, List.replicate_zero, Nat.reduceSub, Nat.reduceAdd, List.getElem?_cons_zero, List.getElem?_cons_succ, List.getElem?_nil, List.set_cons_zero, List.set_cons_succ, asg_nm, asg_tp, asgs_nil, asgs_cons, Option.bind_some, List.length_cons, List.length_nil, wipeD, true_and, and_true, if_true, if_false, Bool.false_eq_true, decide_eq_true_eq, Bool.not_true, Bool.not_false, Bool.xor_false, Bool.false_xor, Bool.true_xor, Bool.not_eq_true', decide_eq_false_iff_not, reduceIte]
  refine w_is_level hp ho fun μ1 f1 => ?_
  simp only [ev_ix0, ev_ix1, ev_ix2, ws_seq, ws_next, ws_expr, ws_ret, ws_retN, ws_break, ws_set, ws_asg, ws_if, ws_raise, ws_par, ws_eff, ws_for, ev_varE, ev_cE, ev_binE, ev_unE, ev_nilA, ev_consA, ev_starA, ev_tupE, ev_newL, ev_lstE, ev_ifE, ev_asB, ev_valT, ev_andT, ev_orT, ev_notT, ev_andE, ev_intD, ev_addI, ev_addT, ev_mulI, ev_mulT, ev_negI, ev_isN, ev_isB, ev_eqI, ev_callE, ev_lenT, ev_intC, ev_listT, ev_two, ev_chainE, ev_lastC, ev_lastT, ev_linkC, ev_linkT, ev_truT, ev_mtE, ev_yesT, ev_all, ev_seqI, ev_rng1, ev_rng2, ev_zip, ev_enum, ev_lcE, ev_lc2E, lc_item, lc_item2, List.map_cons, List.map_nil, List.cons_append, List.nil_append, List.append_nil, List.replicate_succ, List.replicate_zero, Nat.reduceSub, Nat.reduceAdd, List.getElem?_cons_zero, List.getElem?_cons_succ, List.getElem?_nil, List.set_cons_zero, List.set_cons_succ, asg_nm, asg_tp, asgs_nil, asgs_cons, Option.bind_some, List.length_cons, List.length_nil, wipeD, true_and, and_true, if_true, if_false, Bool.false_eq_true, decide_eq_true_eq, Bool.not_true, Bool.not_false, Bool.xor_false, Bool.false_xor, Bool.true_xor, Bool.not_eq_true', decide_eq_false_iff_not, reduceIte]
  exact h _ f1.gc
def rowB (p : Pg) (row : List Int) : Bool := row.all fun k => decide (0 ≤ k ∧ k < p.ks.length)
theorem w_are_kinds {p : Pg} {row : List Int} (hl : row.length ≤ 1000) (h : ∀ μ', Fr no μ μ' → Q (.bl (rowB p row)) μ') : Ev X Q (d_are_kinds [pD p, iD row] μ) := by
  refine den_of rfl ?_
  unfold b_are_kinds iD
  simp only [ev_ix0, ev_ix1, ev_ix2, ws_seq, ws_next, ws_expr, ws_ret, ws_retN, ws_break, ws_set, ws_asg, ws_if, ws_raise, ws_par, ws_eff, ws_for, ev_varE, ev_cE, ev_binE, ev_unE, ev_nilA, ev_consA, ev_starA, ev_tupE, ev_newL, ev_lstE, ev_ifE, ev_asB, ev_valT, ev_andT, ev_orT, ev_notT, ev_andE, ev_intD, ev_addI, ev_addT, ev_mulI, ev_mulT, ev_negI, ev_isN, ev_isB, ev_eqI, ev_callE, ev_lenT, ev_intC, ev_listT, ev_two, ev_chainE, ev_lastC, ev_lastT, ev_linkC, ev_linkT, ev_truT, ev_mtE, ev_yesT, ev_all, ev_seqI, ev_rng1, ev_rng2, ev_zip, ev_enum, ev_lcE, ev_lc2E, lc_item, lc_item2, List.map_cons, List.map_nil, List.cons_append, List.nil_append, List.append_nil, List.replicate_succ, List.replicate_zero, Nat.reduceSub, Nat.reduceAdd, List.getElem?_cons_zero, List.getElem?_cons_succ, List.getElem?_nil, List.set_cons_zero, List.set_cons_succ, asg_nm, asg_tp, asgs_nil, asgs_cons, Option.bind_some, List.length_cons, List.length_nil, wipeD, true_and, and_true, if_true, if_false, Bool.false_eq_true, decide_eq_true_eq, Bool.not_true, Bool.not_false, Bool.xor_false, Bool.false_xor, Bool.true_xor, Bool.not_eq_true', decide_eq_false_iff_not, reduceIte]
  refine all_gen (row.map .int) (fun d => match d with | .int k => decide (0 ≤ k ∧ k < p.ks.length) | _ => false) (by rw [List.length_map]; exact Nat.le_trans hl (by decide)) ?_ (fun i d μ' hd f => ?_) fun μ' f => ?_
  · simp only [ev_ix0, ev_ix1, ev_ix2, ws_seq, ws_next, ws_expr, ws_ret, ws_retN, ws_break, ws_set, ws_asg, ws_if, ws_raise, ws_par, ws_eff, ws_for, ev_varE, ev_cE, ev_binE, ev_unE, ev_nilA, ev_consA, ev_starA, ev_tupE, ev_newL, ev_lstE, ev_ifE, ev_asB, ev_valT, ev_andT, ev_orT, ev_notT, ev_andE, ev_intD, ev_addI, ev_addT, ev_mulI, ev_mulT, ev_negI, ev_isN, ev_isB, ev_eqI, ev_callE, ev_lenT, ev_intC, ev_listT, ev_two, ev_chainE, ev_lastC, ev_lastT, ev_linkC, ev_linkT, ev_truT, ev_mtE, ev_yesT, ev_all, ev_seqI, ev_rng1, ev_rng2, ev_zip, ev_enum, ev_lcE, ev_lc2E, lc_item, lc_item2, List.map_cons, List.map_nil, List.cons_append, List.nil_append, List.append_nil, List.replicate_succ, List.replicate_zero, Nat.reduceSub, Nat.reduceAdd, List.getElem?_cons_zero, List.getElem?_cons_succ, List.getElem?_nil, List.set_cons_zero, List.set_cons_succ, asg_nm, asg_tp, asgs_nil, asgs_cons, Option.bind_some, List.length_cons, List.length_nil, wipeD, true_and, and_true, if_true, if_false, Bool.false_eq_true, decide_eq_true_eq, Bool.not_true, Bool.not_false, Bool.xor_false, Bool.false_xor, Bool.true_xor, Bool.not_eq_true', decide_eq_false_iff_not, reduceIte]; exact Fr.refl _ _
  · rw [List.getElem?_map] at hd
    obtain ⟨k, hk, rfl⟩ := Option.map_eq_some_iff.mp hd
    refine ⟨_, rfl, ?_⟩
    unfold pD
    simp only [ev_ix0, ev_ix1, ev_ix2, ws_seq, ws_next, ws_expr, ws_ret, ws_retN, ws_break, ws_set, ws_asg, ws_if, ws_raise, ws_par, ws_eff, ws_for, ev_varE, ev_cE, ev_binE, ev_unE, ev_nilA, ev_consA, ev_starA, ev_tupE, ev_newL, ev_lstE, ev_ifE, ev_asB, ev_valT, ev_andT, ev_orT, ev_notT, ev_andE, ev_intD, ev_addI, ev_addT, ev_mulI, ev_mulT, ev_negI, ev_isN, ev_isB, ev_eqI, ev_callE, ev_lenT, ev_intC, ev_listT, ev_two, ev_chainE, ev_lastC, ev_lastT, ev_linkC, ev_linkT, ev_truT, ev_mtE, ev_yesT, ev_all, ev_seqI, ev_rng1, ev_rng2, ev_zip, ev_enum, ev_lcE, ev_lc2E, lc_item, lc_item2, List.map_cons, List.map_nil, List.cons_append, List.nil_append, List.append_nil, List.replicate_succ, List.replicate_zero, Nat.reduceSub, Nat.reduceAdd, List.getElem?_cons_zero, List.getElem?_cons_succ, List.getElem?_nil, List.set_cons_zero, List.set_cons_succ, asg_nm, asg_tp, asgs_nil, asgs_cons, Option.bind_some, List.length_cons, List.length_nil, wipeD, true_and, and_true, if_true, if_false, Bool.false_eq_true, decide_eq_true_eq, Bool.not_true, Bool.not_false, Bool.xor_false, Bool.false_xor, Bool.true_xor, Bool.not_eq_true', decide_eq_false_iff_not, reduceIte]
    rw [List.length_map]
    by_cases h0 : 0 ≤ k
    · rw [if_pos h0]; simp only [h0, true_and]; exact Fr.refl _ _
    · rw [if_neg h0]; simp only [h0, false_and, decide_false, true_and]; exact Fr.refl _ _
  · rw [List.all_map]
    exact h _ f.gc
theorem w_check_row {p : Pg} {row : List Int} (hl : row.length ≤ 1000) (ho : rowB p row = true) (h : ∀ μ', Fr no μ μ' → Q .non μ') : Ev X Q (d_check_row [pD p, iD row] μ) := by
  refine den_of rfl ?_
  unfold b_check_row
  simp only [ev_ix0, ev_ix1, ev_ix2, ws_seq, ws_next, ws_expr, ws_ret, ws_retN, ws_break, ws_set, ws_asg, ws_if, ws_raise, ws_par, ws_eff, ws_for, ev_varE, ev_cE, ev_binE, ev_unE, ev_nilA, ev_consA, ev_starA, ev_tupE, ev_newL, ev_lstE, ev_ifE, ev_asB, ev_valT, ev_andT, ev_orT, ev_notT, ev_andE, ev_intD, ev_addI, ev_addT, ev_mulI, ev_mulT, ev_negI, ev_isN, ev_isB, ev_eqI, ev_callE, ev_lenT, ev_intC, ev_listT, ev_two, ev_chainE, ev_lastC, ev_lastT, ev_linkC, ev_linkT, ev_truT, ev_mtE, ev_yesT, ev_all, ev_seqI, ev_rng1, ev_rng2, ev_zip, ev_enum, ev_lcE, ev_lc2E, lc_item, lc_item2, List.map_cons, List.map_nil, List.cons_append, List.nil_append, List.append_nil, List.replicate_succ, List.replicate_zero, Nat.reduceSub, Nat.reduceAdd, List.getElem?_cons_zero, List.getElem?_cons_succ, List.getElem?_nil, List.set_cons_zero, List.set_cons_succ, asg_nm, asg_tp, asgs_nil, asgs_cons, Option.bind_some, List.length_cons, List.length_nil, wipeD, true_and, and_true, if_true, if_false, Bool.false_eq_true, decide_eq_true_eq, Bool.not_true, Bool.not_false, Bool.xor_false, Bool.false_xor, Bool.true_xor, Bool.not_eq_true', decide_eq_false_iff_not, reduceIte]
  refine w_are_kinds hl fun μ1 f1 => ?_
  rw [ho]
  simp only [ev_ix0, ev_ix1, ev_ix2, ws_seq, ws_next, ws_expr, ws_ret, ws_retN, ws_break, ws_set, ws_asg, ws_if, ws_raise, ws_par, ws_eff, ws_for, ev_varE, ev_cE, ev_binE, ev_unE, ev_nilA, ev_consA, ev_starA, ev_tupE, ev_newL, ev_lstE, ev_ifE, ev_asB, ev_valT, ev_andT, ev_orT, ev_notT, ev_andE, ev_intD, ev_addI, ev_addT, ev_mulI, ev_mulT, ev_negI, ev_isN, ev_isB, ev_eqI, ev_callE, ev_lenT, ev_intC, ev_listT, ev_two, ev_chainE, ev_lastC, ev_lastT, ev_linkC, ev_linkT, ev_truT, ev_mtE, ev_yesT, ev_all, ev_seqI, ev_rng1, ev_rng2, ev_zip, ev_enum, ev_lcE, ev_lc2E, lc_item, lc_item2, List.map_cons, List.map_nil, List.cons_append, List.nil_append, List.append_nil, List.replicate_succ, List.replicate_zero, Nat.reduceSub, Nat.reduceAdd, List.getElem?_cons_zero, List.getElem?_cons_succ, List.getElem?_nil, List.set_cons_zero, List.set_cons_succ, asg_nm, asg_tp, asgs_nil, asgs_cons, Option.bind_some, List.length_cons, List.length_nil, wipeD, true_and, and_true, if_true, if_false, Bool.false_eq_true, decide_eq_true_eq, Bool.not_true, Bool.not_false, Bool.xor_false, Bool.false_xor, Bool.true_xor, Bool.not_eq_true', decide_eq_false_iff_not, reduceIte]
  exact h _ f1.gc
theorem x_check_row {p : Pg} {row : List Int} (hl : row.length ≤ 1000) (ho : rowB p row = false) (h : ∀ μ', Fr no μ μ' → X 8 μ') : Ev X Q (d_check_row [pD p, iD row] μ) := by
  refine den_of rfl ?_
  unfold b_check_row
  simp only [ev_ix0, ev_ix1, ev_ix2, ws_seq, ws_next, ws_expr, ws_ret, ws_retN, ws_break, ws_set, ws_asg, ws_if, ws_raise, ws_par, ws_eff, ws_for, ev_varE, ev_cE, ev_binE, ev_unE, ev_nilA, ev_consA, ev_starA, ev_tupE, ev_newL, ev_lstE, ev_ifE, ev_asB, ev_valT, ev_andT, ev_orT, ev_notT, ev_andE, ev_intD, ev_addI, ev_addT, ev_mulI, ev_mulT, ev_negI, ev_isN, ev_isB, ev_eqI, ev_callE, ev_lenT, ev_intC, ev_listT, ev_two, ev_chainE, ev_lastC, ev_lastT, ev_linkC, ev_linkT, ev_truT, ev_mtE, ev_yesT, ev_all, ev_seqI, ev_rng1, ev_rng2, ev_zip, ev_enum, ev_lcE, ev_lc2E, lc_item, lc_item2, List.map_cons, List.map_nil, List.cons_append, List.nil_append, List.append_nil, List.replicate_succ, List.replicate_zero, Nat.reduceSub, Nat.reduceAdd, List.getElem?_cons_zero, List.getElem?_cons_succ, List.getElem?_nil, List.set_cons_zero, List.set_cons_succ, asg_nm, asg_tp, asgs_nil, asgs_cons, Option.bind_some, List.length_cons, List.length_nil, wipeD, true_and, and_true, if_true, if_false, Bool.false_eq_true, decide_eq_true_eq, Bool.not_true, Bool.not_false, Bool.xor_false, Bool.false_xor, Bool.true_xor, Bool.not_eq_true', decide_eq_false_iff_not, reduceIte]
  refine w_are_kinds hl fun μ1 f1 => ?_
  rw [ho]
  simp only [ev_ix0, ev_ix1, ev_ix2, ws_seq, ws_next, ws_expr, ws_ret, ws_retN, ws_break, ws_set, ws_asg, ws_if, ws_raise, ws_par, ws_eff, ws_for, ev_varE, ev_cE, ev_binE, ev_unE, ev_nilA, ev_consA, ev_starA, ev_tupE, ev_newL, ev_lstE, ev_ifE, ev_asB, ev_valT, ev_andT, ev_orT, ev_notT, ev_andE, ev_intD, ev_addI, ev_addT, ev_mulI, ev_mulT, ev_negI, ev_isN, ev_isB, ev_eqI, ev_callE, ev_lenT, ev_intC, ev_listT, ev_two, ev_chainE, ev_lastC, ev_lastT, ev_linkC, ev_linkT, ev_truT, ev_mtE, ev_yesT, ev_all, ev_seqI, ev_rng1, ev_rng2, ev_zip, ev_enum, ev_lcE, ev_lc2E, lc_item, lc_item2, List.map_cons, List.map_nil, List.cons_append, List.nil_append, List.append_nil, List.replicate_succ, List.replicate_zero, Nat.reduceSub, Nat.reduceAdd, List.getElem?_cons_zero, List.getElem?_cons_succ, List.getElem?_nil, List.set_cons_zero, List.set_cons_succ, asg_nm, asg_tp, asgs_nil, asgs_cons, Option.bind_some, List.length_cons, List.length_nil, wipeD, true_and, and_true, if_true, if_false, Bool.false_eq_true, decide_eq_true_eq, Bool.not_true, Bool.not_false, Bool.xor_false, Bool.false_xor, Bool.true_xor, Bool.not_eq_true', decide_eq_false_iff_not, reduceIte]
  exact h _ f1.gcx
/-! ### every level -/
def rng (lo : Int) (n : Nat) : List Int := (List.range n).map fun i => lo + (i : Nat)
theorem rngD_eq (lo : Int) (n : Nat) : rngD lo n = (rng lo n).map .int := by unfold rngD rng; rw [List.map_map]; rfl
theorem rng_len (lo : Int) (n : Nat) : (rng lo n).length = n := by unfold rng; rw [List.length_map, List.length_range]
theorem rng_get {lo : Int} {n i : Nat} {x : Int} (h : (rng lo n)[i]? = some x) : i < n ∧ x = lo + i := by
  unfold rng at h
  rw [List.getElem?_map] at h
  obtain ⟨j, hj, rfl⟩ := Option.map_eq_some_iff.mp h
  obtain ⟨l, e⟩ := List.getElem?_eq_some_iff.mp hj
  rw [List.length_range] at l
  rw [List.getElem_range] at e
  exact ⟨l, by rw [e]⟩
def wide (r : Reg) : Nat := (r.hi - r.lo + 1).toNat
def more (r : Reg) (ls : List (List Int)) : List (List Int) := ls.flatMap fun lv => (rng r.lo (wide r)).map fun x => lv ++ [x]
def lvs (rs : List Reg) : List (List Int) := rs.foldl (fun ls r => more r ls) [[]]
theorem more_len (r : Reg) (ls : List (List Int)) : (more r ls).length = ls.length * wide r := by
  unfold more
  induction ls with
  | nil => simp
  | cons a t ih => rw [List.flatMap_cons, List.length_append, ih, List.length_map, rng_len, List.length_cons, Nat.succ_mul, Nat.add_comm]
theorem lvs_next {rs : List Reg} {i : Nat} {r : Reg} (h : rs[i]? = some r) : lvs (rs.take (i + 1)) = more r (lvs (rs.take i)) := by
  rw [List.take_add_one, h]
  unfold lvs
  rw [Option.toList_some, List.foldl_append]
  rfl
theorem lvs_len {p : Pg} (hp : PgOk p) : ∀ i, i ≤ p.rs.length → ((lvs (p.rs.take i)).length : Int) = prod (p.rs.take i)
  | 0, _ => by rw [List.take_zero]; rfl
  | i + 1, h => by
    have hr : p.rs[i]? = some p.rs[i] := List.getElem?_eq_getElem (by omega)
    rw [lvs_next hr, prod_next hr, more_len, ← lvs_len hp i (by omega)]
    have := hp.le _ (List.getElem_mem (show i < p.rs.length by omega))
    unfold wide
    rw [Int.natCast_mul, Int.toNat_of_nonneg (by omega)]
theorem lvs_le {p : Pg} (hp : PgOk p) (i : Nat) : (lvs (p.rs.take i)).length ≤ 2000 := by
  have h := lvs_len hp (min i p.rs.length) (Nat.min_le_right _ _)
  have h2 := prod_le hp (min i p.rs.length)
  have e : p.rs.take (min i p.rs.length) = p.rs.take i := by
    rw [List.take_eq_take_iff]; simp
  rw [e] at h h2
  omega
theorem wide_le {p : Pg} (hp : PgOk p) {r : Reg} (hr : r ∈ p.rs) : wide r ≤ 801 := by
  have := hp.bd r hr
  unfold wide
  omega
theorem lvs_ok {p : Pg} : ∀ (i : Nat), i ≤ p.rs.length → ∀ lv ∈ lvs (p.rs.take i), lv.length = i ∧ ∀ (j : Nat) (r : Reg) (x : Int), p.rs[j]? = some r → lv[j]? = some x → r.lo ≤ x ∧ x ≤ r.hi
  | 0, _, lv, h => by
    rw [List.take_zero] at h
    have : lv = [] := by simpa [lvs] using h
    subst this
    exact ⟨rfl, fun j r x _ hx => by simp at hx⟩
  | i + 1, hi, lv, h => by
    have hr : p.rs[i]? = some p.rs[i] := List.getElem?_eq_getElem (by omega)
    rw [lvs_next hr] at h
    obtain ⟨l0, h0, h1⟩ := List.mem_flatMap.mp h
    obtain ⟨x, hx, rfl⟩ := List.mem_map.mp h1
    obtain ⟨e, b⟩ := lvs_ok i (by omega) l0 h0
    refine ⟨by rw [List.length_append, e]; rfl, fun j r y hj hy => ?_⟩
    by_cases hji : j < i
    · rw [List.getElem?_append_left (by omega)] at hy
      exact b j r y hj hy
    · have : j = i := by
        have := (List.getElem?_eq_some_iff.mp hy).1
        rw [List.length_append, e] at this
        have : j < i + 1 := this
        omega
      subst this
      rw [hr] at hj
      cases hj
      rw [List.getElem?_append_right (by omega), e, Nat.sub_self] at hy
      have ey : x = y := by simpa using hy
      subst ey
      obtain ⟨m, hm⟩ := List.getElem?_of_mem hx
      obtain ⟨l, rfl⟩ := rng_get hm
      unfold wide at l
      omega
theorem lvs_lv {p : Pg} {lv : List Int} (h : lv ∈ lvs p.rs) : LvOk p lv := by
  have := lvs_ok (p := p) p.rs.length (Nat.le_refl _) lv (by rw [List.take_length]; exact h)
  exact ⟨this.1, this.2⟩
theorem take_flat {α β : Type} {f : α → List β} {ls : List α} {i : Nat} {a : α} (h : ls[i]? = some a) : (ls.take (i + 1)).flatMap f = (ls.take i).flatMap f ++ f a := by
  rw [List.take_add_one, h, Option.toList_some, List.flatMap_append, List.flatMap_cons, List.flatMap_nil, List.append_nil]
theorem lenF {r : Reg} {ls : List (List Int)} (i : Nat) : (more r (ls.take i)).length ≤ ls.length * wide r := by
  rw [more_len, List.length_take]
  exact Nat.mul_le_mul_right _ (Nat.min_le_right _ _)
theorem iD_snoc (lv : List Int) (x : Int) : iD (lv ++ [x]) = .tup (lv.map .int ++ [.int x]) := by unfold iD; rw [List.map_append]; rfl
theorem big_ok {p : Pg} (hp : PgOk p) {r : Reg} (hr : r ∈ p.rs) (i : Nat) : (lvs (p.rs.take i)).length * wide r ≤ 1602000 := Nat.mul_le_mul (lvs_le hp i) (wide_le hp hr)
theorem size_eq : sizeLine = 16777216 := by decide
/-- one register's turn, as levels_of takes it -/
theorem w_levels_of {p : Pg} (hp : PgOk p) (h : ∀ r μ', Fr no μ μ' → μ'[r]? = some (.lst ((lvs p.rs).map iD)) → Q (.mr r) μ') : Ev X Q (d_levels_of [pD p] μ) := by
  refine den_of rfl ?_
  unfold b_levels_of
  simp only [ev_ix0, ev_ix1, ev_ix2, ws_seq, ws_next, ws_expr, ws_ret, ws_retN, ws_break, ws_set, ws_asg, ws_if, ws_raise, ws_par, ws_eff, ws_for, ev_varE, ev_cE, ev_binE, ev_unE, ev_nilA, ev_consA, ev_starA, ev_tupE, ev_newL, ev_lstE, ev_ifE, ev_asB, ev_valT, ev_andT, ev_orT, ev_notT, ev_andE, ev_intD, ev_addI, ev_addT, ev_mulI, ev_mulT, ev_negI, ev_isN, ev_isB, ev_eqI, ev_callE, ev_lenT, ev_intC, ev_listT, ev_two, ev_chainE, ev_lastC, ev_lastT, ev_linkC, ev_linkT, ev_truT, ev_mtE, ev_yesT, ev_all, ev_seqI, ev_rng1, ev_rng2, ev_zip, ev_enum, ev_lcE, ev_lc2E, lc_item, lc_item2, List.map_cons, List.map_nil, List.cons_append, List.nil_append, List.append_nil, List.replicate_succ, List.replicate_zero, Nat.reduceSub, Nat.reduceAdd, List.getElem?_cons_zero, List.getElem?_cons_succ, List.getElem?_nil, List.set_cons_zero, List.set_cons_succ, asg_nm, asg_tp, asgs_nil, asgs_cons, Option.bind_some, List.length_cons, List.length_nil, wipeD, true_and, and_true, if_true, if_false, Bool.false_eq_true, decide_eq_true_eq, Bool.not_true, Bool.not_false, Bool.xor_false, Bool.false_xor, Bool.true_xor, Bool.not_eq_true', decide_eq_false_iff_not, reduceIte]
  refine ⟨Nat.zero_le _, by decide, ?_⟩
  unfold pD
  simp only [ev_ix0, ev_ix1, ev_ix2, ws_seq, ws_next, ws_expr, ws_ret, ws_retN, ws_break, ws_set, ws_asg, ws_if, ws_raise, ws_par, ws_eff, ws_for, ev_varE, ev_cE, ev_binE, ev_unE, ev_nilA, ev_consA, ev_starA, ev_tupE, ev_newL, ev_lstE, ev_ifE, ev_asB, ev_valT, ev_andT, ev_orT, ev_notT, ev_andE, ev_intD, ev_addI, ev_addT, ev_mulI, ev_mulT, ev_negI, ev_isN, ev_isB, ev_eqI, ev_callE, ev_lenT, ev_intC, ev_listT, ev_two, ev_chainE, ev_lastC, ev_lastT, ev_linkC, ev_linkT, ev_truT, ev_mtE, ev_yesT, ev_all, ev_seqI, ev_rng1, ev_rng2, ev_zip, ev_enum, ev_lcE, ev_lc2E, lc_item, lc_item2, List.map_cons, List.map_nil, List.cons_append, List.nil_append, List.append_nil, List.replicate_succ, List.replicate_zero, Nat.reduceSub, Nat.reduceAdd, List.getElem?_cons_zero, List.getElem?_cons_succ, List.getElem?_nil, List.set_cons_zero, List.set_cons_succ, asg_nm, asg_tp, asgs_nil, asgs_cons, Option.bind_some, List.length_cons, List.length_nil, wipeD, true_and, and_true, if_true, if_false, Bool.false_eq_true, decide_eq_true_eq, Bool.not_true, Bool.not_false, Bool.xor_false, Bool.false_xor, Bool.true_xor, Bool.not_eq_true', decide_eq_false_iff_not, reduceIte]
  refine ws_fix (fun i ρ' μ' => Fr no μ μ' ∧ ∃ k x2 x3 x4 x5 x6, ρ' = [some (pD p), some (.mr k), x2, x3, x4, x5, x6] ∧ μ'[k]? = some (.lst ((lvs (p.rs.take i)).map iD))) ⟨(Fr.refl _ _).new _, μ.length, _, _, _, _, _, rfl, get_new⟩ (fun i d ρ' μ' hd ⟨f, k, x2, x3, x4, x5, x6, e, g⟩ => ?_) (fun ρ' μ' ⟨f, k, x2, x3, x4, x5, x6, e, g⟩ => ?_)
  · subst e
    rw [List.getElem?_map] at hd
    obtain ⟨r, hr, rfl⟩ := Option.map_eq_some_iff.mp hd
    refine ⟨_, rfl, ?_⟩
    have hm := List.mem_of_getElem? hr
    have hb := hp.bd r hm
    have hle := hp.le r hm
    have hw := wide_le hp hm
    have big := big_ok hp hm i
    have zz := size_eq
    simp only [ev_ix0, ev_ix1, ev_ix2, ws_seq, ws_next, ws_expr, ws_ret, ws_retN, ws_break, ws_set, ws_asg, ws_if, ws_raise, ws_par, ws_eff, ws_for, ev_varE, ev_cE, ev_binE, ev_unE, ev_nilA, ev_consA, ev_starA, ev_tupE, ev_newL, ev_lstE, ev_ifE, ev_asB, ev_valT, ev_andT, ev_orT, ev_notT, ev_andE, ev_intD, ev_addI, ev_addT, ev_mulI, ev_mulT, ev_negI, ev_isN, ev_isB, ev_eqI, ev_callE, ev_lenT, ev_intC, ev_listT, ev_two, ev_chainE, ev_lastC, ev_lastT, ev_linkC, ev_linkT, ev_truT, ev_mtE, ev_yesT, ev_all, ev_seqI, ev_rng1, ev_rng2, ev_zip, ev_enum, ev_lcE, ev_lc2E, lc_item, lc_item2, List.map_cons, List.map_nil, List.cons_append, List.nil_append, List.append_nil, List.replicate_succ, List.replicate_zero, Nat.reduceSub, Nat.reduceAdd, List.getElem?_cons_zero, List.getElem?_cons_succ, List.getElem?_nil, List.set_cons_zero, List.set_cons_succ, asg_nm, asg_tp, asgs_nil, asgs_cons, Option.bind_some, List.length_cons, List.length_nil, wipeD, true_and, and_true, if_true, if_false, Bool.false_eq_true, decide_eq_true_eq, Bool.not_true, Bool.not_false, Bool.xor_false, Bool.false_xor, Bool.true_xor, Bool.not_eq_true', decide_eq_false_iff_not, reduceIte]
    simp only [g]
    refine lc_cell (fun j μ2 => Fr no μ μ2 ∧ μ2[k]? = some (.lst ((lvs (p.rs.take i)).map iD)) ∧ μ2[μ'.length]? = some (.lst ((more r ((lvs (p.rs.take i)).take j)).map iD)) ∧ j ≤ (lvs (p.rs.take i)).length) ⟨f.new _, get_old g, get_new, Nat.zero_le _⟩ (fun j μ2 h => h.2.1) (fun j d μ2 hd ⟨f2, g2, a2, l2⟩ => ?_) (fun μ2 ⟨f2, g2, a2, l2⟩ => ?_)
    · rw [List.getElem?_map] at hd
      obtain ⟨lv, hlv, rfl⟩ := Option.map_eq_some_iff.mp hd
      have jl : j < (lvs (p.rs.take i)).length := (List.getElem?_eq_some_iff.mp hlv).1
      refine ⟨_, rfl, ?_⟩
      simp only [ev_ix0, ev_ix1, ev_ix2, ws_seq, ws_next, ws_expr, ws_ret, ws_retN, ws_break, ws_set, ws_asg, ws_if, ws_raise, ws_par, ws_eff, ws_for, ev_varE, ev_cE, ev_binE, ev_unE, ev_nilA, ev_consA, ev_starA, ev_tupE, ev_newL, ev_lstE, ev_ifE, ev_asB, ev_valT, ev_andT, ev_orT, ev_notT, ev_andE, ev_intD, ev_addI, ev_addT, ev_mulI, ev_mulT, ev_negI, ev_isN, ev_isB, ev_eqI, ev_callE, ev_lenT, ev_intC, ev_listT, ev_two, ev_chainE, ev_lastC, ev_lastT, ev_linkC, ev_linkT, ev_truT, ev_mtE, ev_yesT, ev_all, ev_seqI, ev_rng1, ev_rng2, ev_zip, ev_enum, ev_lcE, ev_lc2E, lc_item, lc_item2, List.map_cons, List.map_nil, List.cons_append, List.nil_append, List.append_nil, List.replicate_succ, List.replicate_zero, Nat.reduceSub, Nat.reduceAdd, List.getElem?_cons_zero, List.getElem?_cons_succ, List.getElem?_nil, List.set_cons_zero, List.set_cons_succ, asg_nm, asg_tp, asgs_nil, asgs_cons, Option.bind_some, List.length_cons, List.length_nil, wipeD, true_and, and_true, if_true, if_false, Bool.false_eq_true, decide_eq_true_eq, Bool.not_true, Bool.not_false, Bool.xor_false, Bool.false_xor, Bool.true_xor, Bool.not_eq_true', decide_eq_false_iff_not, reduceIte]
      refine ⟨⟨by omega, by omega, by omega, by omega⟩, ?_⟩
      rw [show (r.hi + 1 - r.lo).toNat = wide r by unfold wide; congr 1; omega, rngD_eq]
      have kn : k ≠ μ'.length := fun z => by have := lt_of_get g; omega
      refine lc_fix (fun m μ3 => Fr no μ μ3 ∧ μ3[k]? = some (.lst ((lvs (p.rs.take i)).map iD)) ∧ μ3[μ'.length]? = some (.lst ((more r ((lvs (p.rs.take i)).take j) ++ ((rng r.lo (wide r)).take m).map fun x => lv ++ [x]).map iD)) ∧ m ≤ wide r) ⟨f2, g2, by rw [List.take_zero, List.map_nil, List.append_nil]; exact a2, Nat.zero_le _⟩ (fun m d μ3 hd ⟨f3, g3, a3, l3⟩ => ?_) (fun μ3 ⟨f3, g3, a3, l3⟩ => ?_)
      · rw [List.getElem?_map] at hd
        obtain ⟨x, hx, rfl⟩ := Option.map_eq_some_iff.mp hd
        have ml := (rng_get hx).1
        refine ⟨_, rfl, ?_⟩
        unfold iD
        simp only [ev_ix0, ev_ix1, ev_ix2, ws_seq, ws_next, ws_expr, ws_ret, ws_retN, ws_break, ws_set, ws_asg, ws_if, ws_raise, ws_par, ws_eff, ws_for, ev_varE, ev_cE, ev_binE, ev_unE, ev_nilA, ev_consA, ev_starA, ev_tupE, ev_newL, ev_lstE, ev_ifE, ev_asB, ev_valT, ev_andT, ev_orT, ev_notT, ev_andE, ev_intD, ev_addI, ev_addT, ev_mulI, ev_mulT, ev_negI, ev_isN, ev_isB, ev_eqI, ev_callE, ev_lenT, ev_intC, ev_listT, ev_two, ev_chainE, ev_lastC, ev_lastT, ev_linkC, ev_linkT, ev_truT, ev_mtE, ev_yesT, ev_all, ev_seqI, ev_rng1, ev_rng2, ev_zip, ev_enum, ev_lcE, ev_lc2E, lc_item, lc_item2, List.map_cons, List.map_nil, List.cons_append, List.nil_append, List.append_nil, List.replicate_succ, List.replicate_zero, Nat.reduceSub, Nat.reduceAdd, List.getElem?_cons_zero, List.getElem?_cons_succ, List.getElem?_nil, List.set_cons_zero, List.set_cons_succ, asg_nm, asg_tp, asgs_nil, asgs_cons, Option.bind_some, List.length_cons, List.length_nil, wipeD, true_and, and_true, if_true, if_false, Bool.false_eq_true, decide_eq_true_eq, Bool.not_true, Bool.not_false, Bool.xor_false, Bool.false_xor, Bool.true_xor, Bool.not_eq_true', decide_eq_false_iff_not, reduceIte]
        have lvl : lv.length ≤ 3 := by
          by_cases hi : i ≤ p.rs.length
          · rw [(lvs_ok (p := p) i hi lv (List.mem_of_getElem? hlv)).1]; have := hp.nr; omega
          · have := (List.getElem?_eq_some_iff.mp hr).1; omega
        refine ⟨by rw [List.length_append, List.length_map]; show lv.length + 1 ≤ _; omega, ?_⟩
        rw [lc_add a3]
        refine ⟨?_, f3.set _ (fun z => by have := f.len; omega), by rw [List.getElem?_set_ne kn.symm]; exact g3, ?_, ml⟩
        · rw [List.length_map, List.length_append, more_len, List.length_take, List.length_map, List.length_take, rng_len]
          have : min j (lvs (p.rs.take i)).length * wide r ≤ 1602000 := Nat.le_trans (Nat.mul_le_mul_right _ (Nat.min_le_right _ _)) big
          omega
        · rw [get_set a3, List.take_add_one, hx, Option.toList_some]; simp [iD, List.append_assoc]; rfl
      · refine ⟨f3, g3, ?_, jl⟩
        have et : (rng r.lo (wide r)).take (wide r) = rng r.lo (wide r) := List.take_of_length_le (by rw [rng_len]; exact Nat.le_refl _)
        rw [List.length_map, rng_len, et] at a3
        rw [a3]
        unfold more
        rw [take_flat hlv]
    · refine ⟨f2, μ'.length, _, _, _, _, _, rfl, ?_⟩
      rw [List.length_map] at a2
      rw [a2, List.take_length, lvs_next hr]
  · subst e
    simp only [ev_ix0, ev_ix1, ev_ix2, ws_seq, ws_next, ws_expr, ws_ret, ws_retN, ws_break, ws_set, ws_asg, ws_if, ws_raise, ws_par, ws_eff, ws_for, ev_varE, ev_cE, ev_binE, ev_unE, ev_nilA, ev_consA, ev_starA, ev_tupE, ev_newL, ev_lstE, ev_ifE, ev_asB, ev_valT, ev_andT, ev_orT, ev_notT, ev_andE, ev_intD, ev_addI, ev_addT, ev_mulI, ev_mulT, ev_negI, ev_isN, ev_isB, ev_eqI, ev_callE, ev_lenT, ev_intC, ev_listT, ev_two, ev_chainE, ev_lastC, ev_lastT, ev_linkC, ev_linkT, ev_truT, ev_mtE, ev_yesT, ev_all, ev_seqI, ev_rng1, ev_rng2, ev_zip, ev_enum, ev_lcE, ev_lc2E, lc_item, lc_item2, List.map_cons, List.map_nil, List.cons_append, List.nil_append, List.append_nil, List.replicate_succ, List.replicate_zero, Nat.reduceSub, Nat.reduceAdd, List.getElem?_cons_zero, List.getElem?_cons_succ, List.getElem?_nil, List.set_cons_zero, List.set_cons_succ, asg_nm, asg_tp, asgs_nil, asgs_cons, Option.bind_some, List.length_cons, List.length_nil, wipeD, true_and, and_true, if_true, if_false, Bool.false_eq_true, decide_eq_true_eq, Bool.not_true, Bool.not_false, Bool.xor_false, Bool.false_xor, Bool.true_xor, Bool.not_eq_true', decide_eq_false_iff_not, reduceIte]
    rw [List.length_map, List.take_length] at g
    exact h k _ f.gc (gcM_own g)
end
end K69
end TPL2

section TPL3
set_option maxRecDepth 100000
set_option maxHeartbeats 2000000
namespace K69
open PySem L2 PySem.Spec PyProof.Rows DL
section
variable {X : Nat → Mu → Prop} {Q : D → Mu → Prop} {μ : Mu}
def at1 (k : Nat) : Nat → Prop := fun i => i = k
theorem fr_up {S : Nat → Prop} {μ μ1 μ2 : Mu} (a : Fr no μ μ1) (b : Fr S μ1 μ2) (h : ∀ i, S i → μ.length ≤ i) : Fr no μ μ2 :=
  Fr.above (S := S) ((a.mono fun _ z => z.elim).trans b) fun i l s => by have := h i s; omega
theorem w_u_law_levels {p : Pg} (hp : PgOk p) (h : ∀ r μ', Fr no μ μ' → μ'[r]? = some (.lst ((lvs p.rs).map iD)) → Q (.mr r) μ') : Ev X Q (d_u_law_levels [pD p] μ) := by
  refine den_of rfl ?_
  unfold b_u_law_levels
  simp only [ev_ix0, ev_ix1, ev_ix2, ws_seq, ws_next, ws_expr, ws_ret, ws_retN, ws_break, ws_set, ws_asg, ws_if, ws_raise, ws_par, ws_eff, ws_for, ev_varE, ev_cE, ev_binE, ev_unE, ev_nilA, ev_consA, ev_starA, ev_tupE, ev_newL, ev_lstE, ev_ifE, ev_asB, ev_valT, ev_andT, ev_orT, ev_notT, ev_andE, ev_intD, ev_addI, ev_addT, ev_mulI, ev_mulT, ev_negI, ev_isN, ev_isB, ev_eqI, ev_callE, ev_lenT, ev_intC, ev_listT, ev_two, ev_chainE, ev_lastC, ev_lastT, ev_linkC, ev_linkT, ev_truT, ev_mtE, ev_yesT, ev_all, ev_seqI, ev_rng1, ev_rng2, ev_zip, ev_enum, ev_lcE, ev_lc2E, lc_item, lc_item2, List.map_cons, List.map_nil, List.cons_append, List.nil_append, List.append_nil, List.replicate_succ, List.replicate_zero, Nat.reduceSub, Nat.reduceAdd, List.getElem?_cons_zero, List.getElem?_cons_succ, List.getElem?_nil, List.set_cons_zero, List.set_cons_succ, asg_nm, asg_tp, asgs_nil, asgs_cons, Option.bind_some, List.length_cons, List.length_nil, wipeD, true_and, and_true, if_true, if_false, Bool.false_eq_true, decide_eq_true_eq, Bool.not_true, Bool.not_false, Bool.xor_false, Bool.false_xor, Bool.true_xor, Bool.not_eq_true', decide_eq_false_iff_not, reduceIte]
  refine ⟨Nat.zero_le _, by decide, ?_⟩
  unfold pD
  simp only [ev_ix0, ev_ix1, ev_ix2, ws_seq, ws_next, ws_expr, ws_ret, ws_retN, ws_break, ws_set, ws_asg, ws_if, ws_raise, ws_par, ws_eff, ws_for, ev_varE, ev_cE, ev_binE, ev_unE, ev_nilA, ev_consA, ev_starA, ev_tupE, ev_newL, ev_lstE, ev_ifE, ev_asB, ev_valT, ev_andT, ev_orT, ev_notT, ev_andE, ev_intD, ev_addI, ev_addT, ev_mulI, ev_mulT, ev_negI, ev_isN, ev_isB, ev_eqI, ev_callE, ev_lenT, ev_intC, ev_listT, ev_two, ev_chainE, ev_lastC, ev_lastT, ev_linkC, ev_linkT, ev_truT, ev_mtE, ev_yesT, ev_all, ev_seqI, ev_rng1, ev_rng2, ev_zip, ev_enum, ev_lcE, ev_lc2E, lc_item, lc_item2, List.map_cons, List.map_nil, List.cons_append, List.nil_append, List.append_nil, List.replicate_succ, List.replicate_zero, Nat.reduceSub, Nat.reduceAdd, List.getElem?_cons_zero, List.getElem?_cons_succ, List.getElem?_nil, List.set_cons_zero, List.set_cons_succ, asg_nm, asg_tp, asgs_nil, asgs_cons, Option.bind_some, List.length_cons, List.length_nil, wipeD, true_and, and_true, if_true, if_false, Bool.false_eq_true, decide_eq_true_eq, Bool.not_true, Bool.not_false, Bool.xor_false, Bool.false_xor, Bool.true_xor, Bool.not_eq_true', decide_eq_false_iff_not, reduceIte]
  refine ws_fix (fun i ρ' μ' => Fr no μ μ' ∧ ∃ k x2 x3 x4 x5 x6 x7 x8 x9, ρ' = [some (pD p), some (.mr k), x2, x3, x4, x5, x6, x7, x8, x9] ∧ μ'[k]? = some (.lst ((lvs (p.rs.take i)).map iD))) ⟨(Fr.refl _ _).new _, μ.length, _, _, _, _, _, _, _, _, rfl, get_new⟩ (fun i d ρ' μ' hd ⟨f, k, x2, x3, x4, x5, x6, x7, x8, x9, e, g⟩ => ?_) (fun ρ' μ' ⟨f, k, x2, x3, x4, x5, x6, x7, x8, x9, e, g⟩ => ?_)
  · subst e
    rw [List.getElem?_map] at hd
    obtain ⟨r, hr, rfl⟩ := Option.map_eq_some_iff.mp hd
    refine ⟨_, rfl, ?_⟩
    have hm := List.mem_of_getElem? hr
    have hb := hp.bd r hm
    have hle := hp.le r hm
    have hw := wide_le hp hm
    have big := big_ok hp hm i
    have zz := size_eq
    simp only [ev_ix0, ev_ix1, ev_ix2, ws_seq, ws_next, ws_expr, ws_ret, ws_retN, ws_break, ws_set, ws_asg, ws_if, ws_raise, ws_par, ws_eff, ws_for, ev_varE, ev_cE, ev_binE, ev_unE, ev_nilA, ev_consA, ev_starA, ev_tupE, ev_newL, ev_lstE, ev_ifE, ev_asB, ev_valT, ev_andT, ev_orT, ev_notT, ev_andE, ev_intD, ev_addI, ev_addT, ev_mulI, ev_mulT, ev_negI, ev_isN, ev_isB, ev_eqI, ev_callE, ev_lenT, ev_intC, ev_listT, ev_two, ev_chainE, ev_lastC, ev_lastT, ev_linkC, ev_linkT, ev_truT, ev_mtE, ev_yesT, ev_all, ev_seqI, ev_rng1, ev_rng2, ev_zip, ev_enum, ev_lcE, ev_lc2E, lc_item, lc_item2, List.map_cons, List.map_nil, List.cons_append, List.nil_append, List.append_nil, List.replicate_succ, List.replicate_zero, Nat.reduceSub, Nat.reduceAdd, List.getElem?_cons_zero, List.getElem?_cons_succ, List.getElem?_nil, List.set_cons_zero, List.set_cons_succ, asg_nm, asg_tp, asgs_nil, asgs_cons, Option.bind_some, List.length_cons, List.length_nil, wipeD, true_and, and_true, if_true, if_false, Bool.false_eq_true, decide_eq_true_eq, Bool.not_true, Bool.not_false, Bool.xor_false, Bool.false_xor, Bool.true_xor, Bool.not_eq_true', decide_eq_false_iff_not, reduceIte]
    refine ⟨Nat.zero_le _, ?_⟩
    simp only [get_old g]
    have kl := lt_of_get g
    refine ws_cell (fun j ρ2 μ2 => Fr no μ μ2 ∧ μ2[k]? = some (.lst ((lvs (p.rs.take i)).map iD)) ∧ μ2[μ'.length]? = some (.lst ((more r ((lvs (p.rs.take i)).take j)).map iD)) ∧ j ≤ (lvs (p.rs.take i)).length ∧ ∃ y8 y9, ρ2 = [some (pD p), some (.mr k), some (.int r.lo), some (.int r.hi), some (.int r.st), some (oD r.ov), some (oD r.un), some (.mr μ'.length), y8, y9])
      ⟨f.new _, get_old g, get_new, Nat.zero_le _, _, _, rfl⟩ (fun j ρ2 μ2 h => h.2.1) (fun j d ρ2 μ2 hd ⟨f2, g2, a2, l2, y8, y9, e2⟩ => ?_) (fun ρ2 μ2 ⟨f2, g2, a2, l2, y8, y9, e2⟩ => ?_)
    · subst e2
      rw [List.getElem?_map] at hd
      obtain ⟨lv, hlv, rfl⟩ := Option.map_eq_some_iff.mp hd
      have jl : j < (lvs (p.rs.take i)).length := (List.getElem?_eq_some_iff.mp hlv).1
      refine ⟨_, rfl, ?_⟩
      simp only [ev_gcE, ev_recvL a2, ev_ix0, ev_ix1, ev_ix2, ws_seq, ws_next, ws_expr, ws_ret, ws_retN, ws_break, ws_set, ws_asg, ws_if, ws_raise, ws_par, ws_eff, ws_for, ev_varE, ev_cE, ev_binE, ev_unE, ev_nilA, ev_consA, ev_starA, ev_tupE, ev_newL, ev_lstE, ev_ifE, ev_asB, ev_valT, ev_andT, ev_orT, ev_notT, ev_andE, ev_intD, ev_addI, ev_addT, ev_mulI, ev_mulT, ev_negI, ev_isN, ev_isB, ev_eqI, ev_callE, ev_lenT, ev_intC, ev_listT, ev_two, ev_chainE, ev_lastC, ev_lastT, ev_linkC, ev_linkT, ev_truT, ev_mtE, ev_yesT, ev_all, ev_seqI, ev_rng1, ev_rng2, ev_zip, ev_enum, ev_lcE, ev_lc2E, lc_item, lc_item2, List.map_cons, List.map_nil, List.cons_append, List.nil_append, List.append_nil, List.replicate_succ, List.replicate_zero, Nat.reduceSub, Nat.reduceAdd, List.getElem?_cons_zero, List.getElem?_cons_succ, List.getElem?_nil, List.set_cons_zero, List.set_cons_succ, asg_nm, asg_tp, asgs_nil, asgs_cons, Option.bind_some, List.length_cons, List.length_nil, wipeD, true_and, and_true, if_true, if_false, Bool.false_eq_true, decide_eq_true_eq, Bool.not_true, Bool.not_false, Bool.xor_false, Bool.false_xor, Bool.true_xor, Bool.not_eq_true', decide_eq_false_iff_not, reduceIte]
      refine ⟨⟨by omega, by omega, by omega, by omega⟩, ?_⟩
      rw [show (r.hi + 1 - r.lo).toNat = wide r by unfold wide; congr 1; omega, rngD_eq]
      have kn : k ≠ μ'.length := by omega
      refine lc_fix (fun m μ3 => Fr no μ2 μ3 ∧ μ3[μ2.length]? = some (.lst ((((rng r.lo (wide r)).take m).map fun x => lv ++ [x]).map iD)) ∧ m ≤ wide r) ⟨(Fr.refl _ _).new _, get_new, Nat.zero_le _⟩ (fun m d μ3 hd ⟨f3, a3, l3⟩ => ?_) (fun μ3 ⟨f3, a3, l3⟩ => ?_)
      · rw [List.getElem?_map] at hd
        obtain ⟨x, hx, rfl⟩ := Option.map_eq_some_iff.mp hd
        have ml := (rng_get hx).1
        refine ⟨_, rfl, ?_⟩
        unfold iD
        simp only [ev_ix0, ev_ix1, ev_ix2, ws_seq, ws_next, ws_expr, ws_ret, ws_retN, ws_break, ws_set, ws_asg, ws_if, ws_raise, ws_par, ws_eff, ws_for, ev_varE, ev_cE, ev_binE, ev_unE, ev_nilA, ev_consA, ev_starA, ev_tupE, ev_newL, ev_lstE, ev_ifE, ev_asB, ev_valT, ev_andT, ev_orT, ev_notT, ev_andE, ev_intD, ev_addI, ev_addT, ev_mulI, ev_mulT, ev_negI, ev_isN, ev_isB, ev_eqI, ev_callE, ev_lenT, ev_intC, ev_listT, ev_two, ev_chainE, ev_lastC, ev_lastT, ev_linkC, ev_linkT, ev_truT, ev_mtE, ev_yesT, ev_all, ev_seqI, ev_rng1, ev_rng2, ev_zip, ev_enum, ev_lcE, ev_lc2E, lc_item, lc_item2, List.map_cons, List.map_nil, List.cons_append, List.nil_append, List.append_nil, List.replicate_succ, List.replicate_zero, Nat.reduceSub, Nat.reduceAdd, List.getElem?_cons_zero, List.getElem?_cons_succ, List.getElem?_nil, List.set_cons_zero, List.set_cons_succ, asg_nm, asg_tp, asgs_nil, asgs_cons, Option.bind_some, List.length_cons, List.length_nil, wipeD, true_and, and_true, if_true, if_false, Bool.false_eq_true, decide_eq_true_eq, Bool.not_true, Bool.not_false, Bool.xor_false, Bool.false_xor, Bool.true_xor, Bool.not_eq_true', decide_eq_false_iff_not, reduceIte]
        have lvl : lv.length ≤ 3 := by
          by_cases hi : i ≤ p.rs.length
          · rw [(lvs_ok (p := p) i hi lv (List.mem_of_getElem? hlv)).1]; have := hp.nr; omega
          · have := (List.getElem?_eq_some_iff.mp hr).1; omega
        refine ⟨by omega, by rw [List.length_map]; omega, ?_⟩
        rw [lc_add a3]
        refine ⟨?_, f3.set _ (fun z => by omega), ?_, ml⟩
        · rw [List.length_map, List.length_map, List.length_take, rng_len]
          omega
        · rw [get_set a3, List.take_add_one, hx, Option.toList_some]; simp [iD, List.append_assoc]; rfl
      · have et : (rng r.lo (wide r)).take (wide r) = rng r.lo (wide r) := List.take_of_length_le (by rw [rng_len]; exact Nat.le_refl _)
        rw [List.length_map, rng_len, et] at a3
        rw [ev_extend (f3.get a2) a3]
        have kq := lt_of_get a2
        have fs : Fr (at1 μ'.length) μ2 (gcM μ2.length .non (μ3.set μ'.length (.lst ((more r ((lvs (p.rs.take i)).take j)).map iD ++ ((rng r.lo (wide r)).map fun x => lv ++ [x]).map iD)))) := (Fr.set (S := at1 μ'.length) (f3.mono fun _ z => z.elim) _ fun _ => rfl).gc
        refine ⟨?_, fr_up f2 fs (fun i z => by rw [z]; exact f.len), fs.at_ k _ g2 kn, ?_, jl, _, _, rfl⟩
        · rw [List.length_map, List.length_map, List.length_map, more_len, List.length_take, rng_len]
          have : min j (lvs (p.rs.take i)).length * wide r ≤ 1602000 := Nat.le_trans (Nat.mul_le_mul_right _ (Nat.min_le_right _ _)) big
          omega
        · refine gcM_get ?_ kq
          rw [get_set (f3.get a2)]
          unfold more
          rw [take_flat hlv, List.map_append]
    · subst e2
      simp only [ev_ix0, ev_ix1, ev_ix2, ws_seq, ws_next, ws_expr, ws_ret, ws_retN, ws_break, ws_set, ws_asg, ws_if, ws_raise, ws_par, ws_eff, ws_for, ev_varE, ev_cE, ev_binE, ev_unE, ev_nilA, ev_consA, ev_starA, ev_tupE, ev_newL, ev_lstE, ev_ifE, ev_asB, ev_valT, ev_andT, ev_orT, ev_notT, ev_andE, ev_intD, ev_addI, ev_addT, ev_mulI, ev_mulT, ev_negI, ev_isN, ev_isB, ev_eqI, ev_callE, ev_lenT, ev_intC, ev_listT, ev_two, ev_chainE, ev_lastC, ev_lastT, ev_linkC, ev_linkT, ev_truT, ev_mtE, ev_yesT, ev_all, ev_seqI, ev_rng1, ev_rng2, ev_zip, ev_enum, ev_lcE, ev_lc2E, lc_item, lc_item2, List.map_cons, List.map_nil, List.cons_append, List.nil_append, List.append_nil, List.replicate_succ, List.replicate_zero, Nat.reduceSub, Nat.reduceAdd, List.getElem?_cons_zero, List.getElem?_cons_succ, List.getElem?_nil, List.set_cons_zero, List.set_cons_succ, asg_nm, asg_tp, asgs_nil, asgs_cons, Option.bind_some, List.length_cons, List.length_nil, wipeD, true_and, and_true, if_true, if_false, Bool.false_eq_true, decide_eq_true_eq, Bool.not_true, Bool.not_false, Bool.xor_false, Bool.false_xor, Bool.true_xor, Bool.not_eq_true', decide_eq_false_iff_not, reduceIte]
      refine ⟨f2, μ'.length, _, _, _, _, _, _, _, _, rfl, ?_⟩
      rw [List.length_map, List.take_length] at a2
      rw [a2, lvs_next hr]
  · subst e
    simp only [ev_ix0, ev_ix1, ev_ix2, ws_seq, ws_next, ws_expr, ws_ret, ws_retN, ws_break, ws_set, ws_asg, ws_if, ws_raise, ws_par, ws_eff, ws_for, ev_varE, ev_cE, ev_binE, ev_unE, ev_nilA, ev_consA, ev_starA, ev_tupE, ev_newL, ev_lstE, ev_ifE, ev_asB, ev_valT, ev_andT, ev_orT, ev_notT, ev_andE, ev_intD, ev_addI, ev_addT, ev_mulI, ev_mulT, ev_negI, ev_isN, ev_isB, ev_eqI, ev_callE, ev_lenT, ev_intC, ev_listT, ev_two, ev_chainE, ev_lastC, ev_lastT, ev_linkC, ev_linkT, ev_truT, ev_mtE, ev_yesT, ev_all, ev_seqI, ev_rng1, ev_rng2, ev_zip, ev_enum, ev_lcE, ev_lc2E, lc_item, lc_item2, List.map_cons, List.map_nil, List.cons_append, List.nil_append, List.append_nil, List.replicate_succ, List.replicate_zero, Nat.reduceSub, Nat.reduceAdd, List.getElem?_cons_zero, List.getElem?_cons_succ, List.getElem?_nil, List.set_cons_zero, List.set_cons_succ, asg_nm, asg_tp, asgs_nil, asgs_cons, Option.bind_some, List.length_cons, List.length_nil, wipeD, true_and, and_true, if_true, if_false, Bool.false_eq_true, decide_eq_true_eq, Bool.not_true, Bool.not_false, Bool.xor_false, Bool.false_xor, Bool.true_xor, Bool.not_eq_true', decide_eq_false_iff_not, reduceIte]
    rw [List.length_map, List.take_length] at g
    exact h k _ f.gc (gcM_own g)
end
end K69
end TPL3

section TPL4
set_option maxRecDepth 100000
set_option maxHeartbeats 2000000
namespace K69
open PySem L2 PySem.Spec PyProof.Rows DL
/-! ### what a booking does -/
def cl (lo hi s : Int) : Int := if s < lo then lo else if hi < s then hi else s
def put (rs : List Reg) : Nat → List Int × List Int → Int → Int → List Int × List Int
  | 0, s, _, _ => s
  | n + 1, s, pl, am =>
    if pl < 0 then s
    else if (rs.length : Int) ≤ pl then (s.1, s.2.set (pl - rs.length).toNat (s.2.getD (pl - rs.length).toNat 0 + am))
    else
      let r := rs.getD pl.toNat ⟨0, 0, 0, (0, 0), (0, 0)⟩
      let sum := s.1.getD pl.toNat 0 + am
      let nw := cl r.lo r.hi sum
      if r.lo ≤ sum ∧ sum ≤ r.hi then (s.1.set pl.toNat nw, s.2)
      else put rs n (s.1.set pl.toNat nw, s.2) (if r.hi < sum then r.ov else r.un).1 ((sum - nw) * (if r.hi < sum then r.ov else r.un).2)
structure StOk (p : Pg) (s : List Int × List Int) : Prop where
  lv : LvOk p s.1
  py : (s.2.length : Int) = p.ps
structure PosOk (p : Pg) (n : Nat) (pl am : Int) : Prop where
  pos : pl = -1 ∨ (0 ≤ pl ∧ pl ≤ p.last ∧ 1 ≤ n ∧ (p.rs.length : Int) + 1 ≤ pl + n)
  n4 : n ≤ 4
  am1 : -(1000 * 9 ^ (4 - n)) ≤ am
  am2 : am ≤ 1000 * 9 ^ (4 - n)
theorem nine_le (n : Nat) : (1 : Int) ≤ 9 ^ (4 - n) ∧ (9 : Int) ^ (4 - n) ≤ 6561 := by
  have h : 4 - n = 0 ∨ 4 - n = 1 ∨ 4 - n = 2 ∨ 4 - n = 3 ∨ 4 - n = 4 := by omega
  rcases h with h | h | h | h | h <;> rw [h] <;> decide
theorem nine_next {n : Nat} (h : n + 1 ≤ 4) : (9 : Int) ^ (4 - n) = 9 * 9 ^ (4 - (n + 1)) := by
  have e : 4 - n = (4 - (n + 1)) + 1 := by omega
  rw [e, Int.pow_succ, Int.mul_comm]
theorem PosOk.small {p : Pg} {n : Nat} {pl am : Int} (h : PosOk p n pl am) : -(2 ^ 30) < am ∧ am < 2 ^ 30 := by
  have h1 := h.am1; have h2 := h.am2; have h3 := nine_le n
  omega
/-- the turn at a register -/
structure Turn (p : Pg) (n : Nat) (s : List Int × List Int) (pl am : Int) (r : Reg) (cur : Int) : Prop where
  il : pl.toNat < p.rs.length
  rg : p.rs[pl.toNat]? = some r
  cu : s.1[pl.toNat]? = some cur
  lh : r.lo ≤ r.hi
  b1 : -400 ≤ r.lo
  b2 : r.hi ≤ 400
  c1 : r.lo ≤ cur
  c2 : cur ≤ r.hi
  st : StOk p (s.1.set pl.toNat (cl r.lo r.hi (cur + am)), s.2)
  nx : ¬ (r.lo ≤ cur + am ∧ cur + am ≤ r.hi) → PosOk p n (if r.hi < cur + am then r.ov else r.un).1 ((cur + am - cl r.lo r.hi (cur + am)) * (if r.hi < cur + am then r.ov else r.un).2)
  eq : put p.rs (n + 1) s pl am = if r.lo ≤ cur + am ∧ cur + am ≤ r.hi then (s.1.set pl.toNat (cl r.lo r.hi (cur + am)), s.2) else
    put p.rs n (s.1.set pl.toNat (cl r.lo r.hi (cur + am)), s.2) (if r.hi < cur + am then r.ov else r.un).1 ((cur + am - cl r.lo r.hi (cur + am)) * (if r.hi < cur + am then r.ov else r.un).2)
theorem cl_in {lo hi s : Int} (h : lo ≤ hi) : lo ≤ cl lo hi s ∧ cl lo hi s ≤ hi := by
  unfold cl
  split
  · omega
  · split <;> omega
theorem lv_set {p : Pg} {lv : List Int} {i : Nat} {r : Reg} {x : Int} (h : LvOk p lv) (hr : p.rs[i]? = some r) (hx : r.lo ≤ x ∧ x ≤ r.hi) : LvOk p (lv.set i x) := by
  refine ⟨by rw [List.length_set]; exact h.len, fun j r' y hj hy => ?_⟩
  by_cases e : i = j
  · subst e
    rw [hr] at hj
    cases hj
    have l : i < lv.length := by rw [h.len]; exact (List.getElem?_eq_some_iff.mp hr).1
    rw [List.getElem?_set_self l] at hy
    cases hy
    exact hx
  · rw [List.getElem?_set_ne e] at hy
    exact h.bd j r' y hj hy
theorem mul9 {x f B : Int} (h1 : -B ≤ x) (h2 : x ≤ B) (f1 : -9 ≤ f) (f2 : f ≤ 9) : -(9 * B) ≤ x * f ∧ x * f ≤ 9 * B := by
  have hf : f = -9 ∨ f = -8 ∨ f = -7 ∨ f = -6 ∨ f = -5 ∨ f = -4 ∨ f = -3 ∨ f = -2 ∨ f = -1 ∨ f = 0 ∨ f = 1 ∨ f = 2 ∨ f = 3 ∨ f = 4 ∨ f = 5 ∨ f = 6 ∨ f = 7 ∨ f = 8 ∨ f = 9 := by omega
  rcases hf with rfl | rfl | rfl | rfl | rfl | rfl | rfl | rfl | rfl | rfl | rfl | rfl | rfl | rfl | rfl | rfl | rfl | rfl | rfl <;> omega
theorem turn_of {p : Pg} (hp : PgOk p) {n : Nat} {s : List Int × List Int} {pl am : Int} (hs : StOk p s) (h : PosOk p (n + 1) pl am) (h0 : 0 ≤ pl) (hl : pl < p.rs.length) : ∃ r cur, Turn p n s pl am r cur := by
  have il : pl.toNat < p.rs.length := by omega
  have hr : p.rs[pl.toNat]? = some p.rs[pl.toNat] := List.getElem?_eq_getElem il
  have jl : pl.toNat < s.1.length := by rw [hs.lv.len]; exact il
  have hc : s.1[pl.toNat]? = some s.1[pl.toNat] := List.getElem?_eq_getElem jl
  generalize er : p.rs[pl.toNat] = r at hr
  generalize ec : s.1[pl.toNat] = cur at hc
  have ok := hp.rg _ r hr
  obtain ⟨b1, q1, q2, b2, o1, o2⟩ := ok
  have cb := hs.lv.bd _ r cur hr hc
  have lh : r.lo ≤ r.hi := by omega
  have ci := cl_in (s := cur + am) lh
  refine ⟨r, cur, il, hr, hc, lh, b1, b2, cb.1, cb.2, ⟨lv_set hs.lv hr ci, hs.py⟩, fun no => ?_, ?_⟩
  · have hp' : 1 ≤ n ∧ (p.rs.length : Int) + 1 ≤ pl + (n + 1) := by
      rcases h.pos with z | ⟨_, _, _, z⟩
      · omega
      · exact ⟨by omega, by omega⟩
    have B := nine_le (n + 1)
    have e9 := nine_next h.n4
    have a1 := h.am1; have a2 := h.am2
    have hx : -(1000 * 9 ^ (4 - (n + 1))) ≤ cur + am - cl r.lo r.hi (cur + am) ∧ cur + am - cl r.lo r.hi (cur + am) ≤ 1000 * 9 ^ (4 - (n + 1)) := by
      unfold cl
      split
      · constructor <;> omega
      · split <;> constructor <;> omega
    have go : ∀ o : Int × Int, OutOk o ((pl.toNat : Int) + 1) p.last → PosOk p n o.1 ((cur + am - cl r.lo r.hi (cur + am)) * o.2) := fun o oo => by
      have f9 : -9 ≤ o.2 ∧ o.2 ≤ 9 := by
        rcases oo with ⟨_, z⟩ | ⟨_, _, _, z⟩
        · omega
        · exact z
      have m9 := mul9 hx.1 hx.2 f9.1 f9.2
      refine ⟨?_, by have := h.n4; omega, ?_, ?_⟩
      · rcases oo with ⟨z, _⟩ | ⟨z0, z1, z2, _⟩
        · exact .inl z
        · exact .inr ⟨by omega, z2, hp'.1, by omega⟩
      · rw [e9]; omega
      · rw [e9]; omega
    split
    · exact go _ o1
    · exact go _ o2
  · rw [put, if_neg (by omega), if_neg (by omega)]
    have e1 : p.rs.getD pl.toNat ⟨0, 0, 0, (0, 0), (0, 0)⟩ = r := by rw [List.getD_eq_getElem?_getD, hr]; rfl
    have e2 : s.1.getD pl.toNat 0 = cur := by rw [List.getD_eq_getElem?_getD, hc]; rfl
    simp only [e1, e2]
theorem put_ok {p : Pg} (hp : PgOk p) : ∀ (n : Nat) (s : List Int × List Int) (pl am : Int), StOk p s → PosOk p n pl am → StOk p (put p.rs n s pl am)
  | 0, s, pl, am, hs, h => hs
  | n + 1, s, pl, am, hs, h => by
    by_cases h0 : pl < 0
    · rw [put, if_pos h0]; exact hs
    · by_cases hl : (p.rs.length : Int) ≤ pl
      · rw [put, if_neg h0, if_pos hl]
        exact ⟨hs.lv, by rw [List.length_set]; exact hs.py⟩
      · obtain ⟨r, cur, T⟩ := turn_of hp hs h (by omega) (by omega)
        rw [T.eq]
        by_cases hin : r.lo ≤ cur + am ∧ cur + am ≤ r.hi
        · rw [if_pos hin]; exact T.st
        · rw [if_neg hin]; exact put_ok hp n _ _ _ T.st (T.nx hin)
def book (rs : List Reg) (s : List Int × List Int) (k : List (Int × Int)) : List Int × List Int := k.foldl (fun s e => put rs (rs.length + 1) s e.1 e.2) s
def row_ (p : Pg) (s : List Int × List Int) (row : List Int) : List Int × List Int := row.foldl (fun s i => book p.rs s (p.ks.getD i.toNat [])) s
def endOf (p : Pg) (lv row : List Int) : List Int × List Int := row_ p (lv, List.replicate p.ps.toNat 0) row
def eD (s : List Int × List Int) : D := .tup [iD s.1, iD s.2]
theorem pos_start {p : Pg} (hp : PgOk p) {k : List (Int × Int)} (hk : KindOk k p.last) {e : Int × Int} (he : e ∈ k) : PosOk p (p.rs.length + 1) e.1 e.2 := by
  have h := hk.2.2 e he
  have h3 := hp.nr
  have B := nine_le (p.rs.length + 1)
  exact ⟨.inr ⟨h.1.1, h.1.2, by omega, by omega⟩, by omega, by omega, by omega⟩
theorem book_ok {p : Pg} (hp : PgOk p) : ∀ (k : List (Int × Int)) (s : List Int × List Int), StOk p s → (∀ e ∈ k, PosOk p (p.rs.length + 1) e.1 e.2) → StOk p (book p.rs s k)
  | [], s, hs, _ => hs
  | e :: k, s, hs, h => book_ok hp k _ (put_ok hp _ _ _ _ hs (h e (List.mem_cons_self ..))) fun e' he => h e' (List.mem_cons_of_mem _ he)
theorem kind_at {p : Pg} {i : Int} (h : 0 ≤ i ∧ i < p.ks.length) : ∃ k, p.ks[i.toNat]? = some k ∧ p.ks.getD i.toNat [] = k ∧ k ∈ p.ks := by
  have l : i.toNat < p.ks.length := by omega
  refine ⟨p.ks[i.toNat], List.getElem?_eq_getElem l, ?_, List.getElem_mem l⟩
  rw [List.getD_eq_getElem?_getD, List.getElem?_eq_getElem l]; rfl
theorem rowB_iff {p : Pg} {row : List Int} : rowB p row = true ↔ ∀ i ∈ row, 0 ≤ i ∧ i < p.ks.length := by
  unfold rowB
  rw [List.all_eq_true]
  exact ⟨fun h i hi => of_decide_eq_true (h i hi), fun h i hi => decide_eq_true (h i hi)⟩
theorem row_ok {p : Pg} (hp : PgOk p) : ∀ (row : List Int) (s : List Int × List Int), StOk p s → (∀ i ∈ row, 0 ≤ i ∧ i < p.ks.length) → StOk p (row_ p s row)
  | [], s, hs, _ => hs
  | i :: row, s, hs, h => by
    obtain ⟨k, h1, h2, h3⟩ := kind_at (h i (List.mem_cons_self ..))
    refine row_ok hp row _ ?_ fun j hj => h j (List.mem_cons_of_mem _ hj)
    show StOk p (book p.rs s (p.ks.getD i.toNat []))
    rw [h2]
    exact book_ok hp k s hs fun e he => pos_start hp (hp.kd k h3) he
theorem start_ok {p : Pg} (hp : PgOk p) {lv : List Int} (h : LvOk p lv) : StOk p (lv, List.replicate p.ps.toNat 0) := ⟨h, by rw [List.length_replicate]; have := hp.np1; omega⟩
end K69
end TPL4

section TPL5
set_option maxRecDepth 100000
set_option maxHeartbeats 2000000
namespace K69
open PySem L2 PySem.Spec PyProof.Rows DL
section
variable {X : Nat → Mu → Prop} {Q : D → Mu → Prop} {QU : Unit → Mu → Prop} {μ : Mu} {ρ : Sl} {fo fi fe fv : Sl → M D} {as : Sl → M (List D)} {E : En}
theorem ev_meth {c : Nat} {m : Str} {g : List D → M D} : Ev X Q (methE c m g fo as ρ μ) = Ev X (fun d μ1 => Ev X (fun _ μ2 => Ev X (fun ds μ3 => Ev nX Q (g (d :: ds) μ3)) (as ρ μ2)) (recvI c m d μ1)) (fo ρ μ) := by
  unfold methE; rw [ev_bind]; congr 1; funext d μ1; rw [ev_bind]; congr 1; funext u μ2; rw [ev_bind]; congr 1; funext ds μ3
  show Ev X Q (noX (g (d :: ds) μ3)) = _
  cases g (d :: ds) μ3 <;> rfl
theorem ev_recvI {c k : Nat} {m : Str} {fs : List (Str × D)} (hk : μ[k]? = some (.ins c fs)) (hn : fs.lookup m = none) : Ev X QU (recvI c m (.mr k) μ) = QU () μ := by
  unfold recvI insOf; simp only [hk, if_true, Option.map_some, hn]; rfl
theorem insOf_mr {c k : Nat} {fs : List (Str × D)} (hk : μ[k]? = some (.ins c fs)) : insOf c μ (.mr k) = some fs := by unfold insOf; simp only [hk, if_true]
theorem ev_fld {c : Nat} {f : Str} : Ev X Q (fldE c f fo ρ μ) = Ev X (fun d μ1 => match (insOf c μ1 d).bind (·.lookup f) with
    | some x => Q x μ1
    | none => False) (fo ρ μ) := by
  unfold fldE; refine Eq.trans (ev_bind _ _) ?_; congr 1; funext d μ1
  cases (insOf c μ1 d).bind (·.lookup f) <;> rfl
theorem ws_fld {c : Nat} {f : Str} : Ws E (setF c f fo fv ρ μ) = Ev E.xc (fun x μ1 => Ev E.xc (fun d μ2 => Ev E.xc (fun _ μ3 => E.nx ρ μ3) (putFld c f x d μ2)) (fo ρ μ1)) (fv ρ μ) := by
  unfold setF; rw [ws_toS, ev_bind]; congr 1; funext x μ1; rw [ev_bind]; rfl
theorem ev_putFld {c k : Nat} {f : Str} {x : D} {fs : List (Str × D)} (hk : μ[k]? = some (.ins c fs)) : Ev X QU (putFld c f x (.mr k) μ) = (fs.length < 1000 ∧ QU () (μ.set k (.ins c (putD f x fs)))) := by
  unfold putFld; simp only [insOf_mr hk]
  by_cases h : fs.length < 1000
  · rw [if_pos h]; simp [h]; rfl
  · rw [if_neg h]; simp [h]; exact fun z => z
theorem ev_setIx : Ev X QU (setIxE fo fi fe ρ μ) = Ev X (fun x μ1 => Ev X (fun d μ2 => Ev X (fun i μ3 => Ev X QU (putIx d i x μ3)) (fi ρ μ2)) (fo ρ μ1)) (fe ρ μ) := by
  unfold setIxE; rw [ev_bind]; congr 1; funext x μ1; rw [ev_bind]; congr 1; funext d μ2; rw [ev_bind]
theorem ev_putIx {k n : Nat} {j : Int} {ds : List D} {x : D} (hk : μ[k]? = some (.lst ds)) (hi : ixN ds.length j = some n) : Ev X QU (putIx (.mr k) (.int j) x μ) = QU () (μ.set k (.lst (ds.set n x))) := by
  unfold putIx; simp only [hk, hi]; rfl
theorem ev_augIx {g : D → D → M D} : Ev X QU (augIxE g fo fi fe ρ μ) = Ev X (fun d μ1 => Ev X (fun i μ2 => Ev X (fun x μ3 => Ev X (fun y μ4 => Ev X (fun z μ5 => Ev X QU (putIx d i z μ5)) (g x y μ4)) (fe ρ μ3)) (ixL d i μ2)) (fi ρ μ1)) (fo ρ μ) := by
  unfold augIxE; rw [ev_bind]; congr 1; funext d μ1; rw [ev_bind]; congr 1; funext i μ2; rw [ev_bind]; congr 1; funext x μ3; rw [ev_bind]; congr 1; funext y μ4; rw [ev_bind]
theorem ev_ixLL {k : Nat} {j : Int} {ds : List D} {x : D} (hk : μ[k]? = some (.lst ds)) (h0 : 0 ≤ j ∧ j < 2 ^ 63) (hx : ds[j.toNat]? = some x) : Ev X Q (ixL (.mr k) (.int j) μ) = Q x μ := by
  unfold ixL; simp only [hk, if_pos h0, hx]; rfl
theorem ev_make {c : Nat} {g : List D → M D} : Ev X Q (makeE c g as ρ μ) = Ev X (fun ds μ1 => Ev nX (fun d μ2 => d = .non ∧ Q (.mr μ1.length) μ2) (g (.mr μ1.length :: ds) (μ1 ++ [.ins c []]))) (as ρ μ) := by
  unfold makeE; refine Eq.trans (ev_bind _ _) ?_; congr 1; funext ds μ1
  show Ev X Q (match g (.mr μ1.length :: ds) (μ1 ++ [.ins c []]) with | .ok .non μ' => .ok (.mr μ1.length) μ' | _ => .stk) = _
  cases g (.mr μ1.length :: ds) (μ1 ++ [.ins c []]) with
  | ok d μ2 => cases d <;> simp [Ev]
  | _ => rfl
def fsB (rg : D) (l q : Nat) : List (Str × D) := [("registers", rg), ("level", .mr l), ("pay", .mr q)]
theorem n1 : (("level" : Str) == "registers") = false := by decide +kernel
theorem n2 : (("pay" : Str) == "registers") = false := by decide +kernel
theorem n3 : (("pay" : Str) == "level") = false := by decide +kernel
theorem fb_rg {rg : D} {l q : Nat} : (fsB rg l q).lookup ("registers" : Str) = some rg := by simp [fsB, List.lookup]
theorem fb_lv {rg : D} {l q : Nat} : (fsB rg l q).lookup ("level" : Str) = some (.mr l) := by simp [fsB, List.lookup, n1]
theorem fb_py {rg : D} {l q : Nat} : (fsB rg l q).lookup ("pay" : Str) = some (.mr q) := by simp [fsB, List.lookup, n2, n3]
theorem fb_no {rg : D} {l q : Nat} {m : Str} (h1 : (m == ("registers" : Str)) = false) (h2 : (m == ("level" : Str)) = false) (h3 : (m == ("pay" : Str)) = false) : (fsB rg l q).lookup m = none := by simp [fsB, List.lookup, h1, h2, h3]
/-- the books at cell s, with their lists -/
structure BkAt (p : Pg) (μ : Mu) (s l q : Nat) (st : List Int × List Int) : Prop where
  me : μ[s]? = some (.ins 11 (fsB (.tup (p.rs.map rD)) l q))
  lv : μ[l]? = some (.lst (st.1.map .int))
  py : μ[q]? = some (.lst (st.2.map .int))
  sl : s ≠ l
  sq : s ≠ q
  lq : l ≠ q
def at2 (l q : Nat) : Nat → Prop := fun i => i = l ∨ i = q
theorem ixN_nat {n : Nat} {j : Int} (h0 : 0 ≤ j) (h1 : j.toNat < n) : ixN n j = some j.toNat := by
  unfold ixN
  rw [if_pos h0, if_pos (by omega)]
theorem atI_of {ds : List D} {j : Int} {x : D} (h0 : 0 ≤ j) (h : ds[j.toNat]? = some x) : atI ds j = some x := by
  unfold atI
  rw [ixN_nat h0 (List.getElem?_eq_some_iff.mp h).1]
  exact h
theorem mapI {l : List Int} {i : Nat} {x : Int} (h : l[i]? = some x) : (l.map D.int)[i]? = some (.int x) := by rw [List.getElem?_map, h]; rfl
theorem setI {l : List Int} {i : Nat} {x : Int} : (l.map D.int).set i (.int x) = (l.set i x).map .int := by rw [List.map_set]
theorem cl_max {lo hi s : Int} (h : lo ≤ hi) : (if (if s < hi then s else hi) > lo then (if s < hi then s else hi) else lo) = cl lo hi s := by
  unfold cl
  split <;> split <;> split <;> first | rfl | omega
theorem cl_min {lo hi s : Int} (h : lo ≤ hi) : (if (if s > lo then s else lo) < hi then (if s > lo then s else lo) else hi) = cl lo hi s := by
  unfold cl
  split <;> split <;> first | rfl | omega | (split <;> first | rfl | omega)
theorem put_zero {rs : List Reg} {s : List Int × List Int} {pl am : Int} : put rs 0 s pl am = s := rfl
theorem put_neg {rs : List Reg} {n : Nat} {s : List Int × List Int} {pl am : Int} (h : pl < 0) : put rs n s pl am = s := by
  cases n with
  | zero => rfl
  | succ n => rw [put, if_pos h]
theorem w_put {p : Pg} (hp : PgOk p) {s l q : Nat} {st : List Int × List Int} {pl am : Int} (hb : BkAt p μ s l q st) (hs : StOk p st) (ho : PosOk p (p.rs.length + 1) pl am)
    (h : ∀ μ', Fr (at2 l q) μ μ' → BkAt p μ' s l q (put p.rs (p.rs.length + 1) st pl am) → Q .non μ') : Ev X Q (d_Books_put [.mr s, .int pl, .int am] μ) := by
  refine den_of rfl ?_
  unfold b_Books_put whileS
  simp only [ev_ix0, ev_ix1, ev_ix2, ws_seq, ws_next, ws_expr, ws_ret, ws_retN, ws_break, ws_set, ws_asg, ws_if, ws_raise, ws_par, ws_eff, ws_for, ev_varE, ev_cE, ev_binE, ev_unE, ev_nilA, ev_consA, ev_starA, ev_tupE, ev_newL, ev_lstE, ev_ifE, ev_asB, ev_valT, ev_andT, ev_orT, ev_notT, ev_andE, ev_intD, ev_addI, ev_addT, ev_mulI, ev_mulT, ev_negI, ev_isN, ev_isB, ev_eqI, ev_callE, ev_lenT, ev_intC, ev_listT, ev_two, ev_chainE, ev_lastC, ev_lastT, ev_linkC, ev_linkT, ev_truT, ev_mtE, ev_yesT, ev_all, ev_seqI, ev_rng1, ev_rng2, ev_zip, ev_enum, ev_lcE, ev_lc2E, lc_item, lc_item2, List.map_cons, List.map_nil, List.cons_append, List.nil_append, List.append_nil, List.replicate_succ, List.replicate_zero, Nat.reduceSub, Nat.reduceAdd, List.getElem?_cons_zero, List.getElem?_cons_succ, List.getElem?_nil, List.set_cons_zero, List.set_cons_succ, asg_nm, asg_tp, asgs_nil, asgs_cons, Option.bind_some, List.length_cons, List.length_nil, wipeD, true_and, and_true, if_true, if_false, Bool.false_eq_true, decide_eq_true_eq, Bool.not_true, Bool.not_false, Bool.xor_false, Bool.false_xor, Bool.true_xor, Bool.not_eq_true', decide_eq_false_iff_not, reduceIte]
  have done : ∀ μ', Fr (at2 l q) μ μ' → BkAt p μ' s l q (put p.rs (p.rs.length + 1) st pl am) → Q .non (gcM μ.length .non μ') := fun μ' f b =>
    h _ f.gc ⟨gcM_get b.me (lt_of_get hb.me), gcM_get b.lv (lt_of_get hb.lv), gcM_get b.py (lt_of_get hb.py), b.sl, b.sq, b.lq⟩
  refine ws_while (fun n ρ' μ' => ∃ s' pl' am' x3 x4 x5 x6 x7 x8 x9, ρ' = [some (.mr s), some (.int pl'), some (.int am'), x3, x4, x5, x6, x7, x8, x9] ∧ Fr (at2 l q) μ μ' ∧ BkAt p μ' s l q s' ∧ StOk p s' ∧ PosOk p n pl' am' ∧ put p.rs n s' pl' am' = put p.rs (p.rs.length + 1) st pl am)
    (fun n ρ' μ' ⟨s', pl', am', x3, x4, x5, x6, x7, x8, x9, e, f, b, so, po, eq⟩ => ?_) (p.rs.length + 1) 100 _ _ (by have := hp.nr; omega) ⟨st, pl, am, _, _, _, _, _, _, _, rfl, Fr.refl _ _, hb, hs, ho, rfl⟩
  subst e
  simp only [ev_ix0, ev_ix1, ev_ix2, ws_seq, ws_next, ws_expr, ws_ret, ws_retN, ws_break, ws_set, ws_asg, ws_if, ws_raise, ws_par, ws_eff, ws_for, ev_varE, ev_cE, ev_binE, ev_unE, ev_nilA, ev_consA, ev_starA, ev_tupE, ev_newL, ev_lstE, ev_ifE, ev_asB, ev_valT, ev_andT, ev_orT, ev_notT, ev_andE, ev_intD, ev_addI, ev_addT, ev_mulI, ev_mulT, ev_negI, ev_isN, ev_isB, ev_eqI, ev_callE, ev_lenT, ev_intC, ev_listT, ev_two, ev_chainE, ev_lastC, ev_lastT, ev_linkC, ev_linkT, ev_truT, ev_mtE, ev_yesT, ev_all, ev_seqI, ev_rng1, ev_rng2, ev_zip, ev_enum, ev_lcE, ev_lc2E, lc_item, lc_item2, List.map_cons, List.map_nil, List.cons_append, List.nil_append, List.append_nil, List.replicate_succ, List.replicate_zero, Nat.reduceSub, Nat.reduceAdd, List.getElem?_cons_zero, List.getElem?_cons_succ, List.getElem?_nil, List.set_cons_zero, List.set_cons_succ, asg_nm, asg_tp, asgs_nil, asgs_cons, Option.bind_some, List.length_cons, List.length_nil, wipeD, true_and, and_true, if_true, if_false, Bool.false_eq_true, decide_eq_true_eq, Bool.not_true, Bool.not_false, Bool.xor_false, Bool.false_xor, Bool.true_xor, Bool.not_eq_true', decide_eq_false_iff_not, reduceIte]
  by_cases hn : pl' = -1
  · rw [hn] at eq ⊢
    simp only [ev_ix0, ev_ix1, ev_ix2, ws_seq, ws_next, ws_expr, ws_ret, ws_retN, ws_break, ws_set, ws_asg, ws_if, ws_raise, ws_par, ws_eff, ws_for, ev_varE, ev_cE, ev_binE, ev_unE, ev_nilA, ev_consA, ev_starA, ev_tupE, ev_newL, ev_lstE, ev_ifE, ev_asB, ev_valT, ev_andT, ev_orT, ev_notT, ev_andE, ev_intD, ev_addI, ev_addT, ev_mulI, ev_mulT, ev_negI, ev_isN, ev_isB, ev_eqI, ev_callE, ev_lenT, ev_intC, ev_listT, ev_two, ev_chainE, ev_lastC, ev_lastT, ev_linkC, ev_linkT, ev_truT, ev_mtE, ev_yesT, ev_all, ev_seqI, ev_rng1, ev_rng2, ev_zip, ev_enum, ev_lcE, ev_lc2E, lc_item, lc_item2, List.map_cons, List.map_nil, List.cons_append, List.nil_append, List.append_nil, List.replicate_succ, List.replicate_zero, Nat.reduceSub, Nat.reduceAdd, List.getElem?_cons_zero, List.getElem?_cons_succ, List.getElem?_nil, List.set_cons_zero, List.set_cons_succ, asg_nm, asg_tp, asgs_nil, asgs_cons, Option.bind_some, List.length_cons, List.length_nil, wipeD, true_and, and_true, if_true, if_false, Bool.false_eq_true, decide_eq_true_eq, Bool.not_true, Bool.not_false, Bool.xor_false, Bool.false_xor, Bool.true_xor, Bool.not_eq_true', decide_eq_false_iff_not, reduceIte]
    rw [if_neg (by decide)]
    rw [put_neg (by decide)] at eq
    exact done _ f (eq ▸ b)
  · rw [if_pos (by simpa using hn)]
    obtain ⟨pp1, pp2, pp3, pp4⟩ : 0 ≤ pl' ∧ pl' ≤ p.last ∧ 1 ≤ n ∧ (p.rs.length : Int) + 1 ≤ pl' + n := by
      rcases po.pos with z | z
      · exact absurd z hn
      · exact z
    obtain ⟨m, rfl⟩ : ∃ m, n = m + 1 := ⟨n - 1, by omega⟩
    refine ⟨m, rfl, ?_⟩
    simp only [ev_fld, insOf_mr b.me, fb_rg, fb_lv, fb_py, List.length_map, ev_ix0, ev_ix1, ev_ix2, ws_seq, ws_next, ws_expr, ws_ret, ws_retN, ws_break, ws_set, ws_asg, ws_if, ws_raise, ws_par, ws_eff, ws_for, ev_varE, ev_cE, ev_binE, ev_unE, ev_nilA, ev_consA, ev_starA, ev_tupE, ev_newL, ev_lstE, ev_ifE, ev_asB, ev_valT, ev_andT, ev_orT, ev_notT, ev_andE, ev_intD, ev_addI, ev_addT, ev_mulI, ev_mulT, ev_negI, ev_isN, ev_isB, ev_eqI, ev_callE, ev_lenT, ev_intC, ev_listT, ev_two, ev_chainE, ev_lastC, ev_lastT, ev_linkC, ev_linkT, ev_truT, ev_mtE, ev_yesT, ev_all, ev_seqI, ev_rng1, ev_rng2, ev_zip, ev_enum, ev_lcE, ev_lc2E, lc_item, lc_item2, List.map_cons, List.map_nil, List.cons_append, List.nil_append, List.append_nil, List.replicate_succ, List.replicate_zero, Nat.reduceSub, Nat.reduceAdd, List.getElem?_cons_zero, List.getElem?_cons_succ, List.getElem?_nil, List.set_cons_zero, List.set_cons_succ, asg_nm, asg_tp, asgs_nil, asgs_cons, Option.bind_some, List.length_cons, List.length_nil, wipeD, true_and, and_true, if_true, if_false, Bool.false_eq_true, decide_eq_true_eq, Bool.not_true, Bool.not_false, Bool.xor_false, Bool.false_xor, Bool.true_xor, Bool.not_eq_true', decide_eq_false_iff_not, reduceIte]
    by_cases hge : (p.rs.length : Int) ≤ pl'
    · rw [if_pos hge]
      have sm := po.small
      have jl : (pl' - p.rs.length).toNat < s'.2.length := by
        have h1 := so.py
        unfold Pg.last at pp2
        omega
      have hx : s'.2[(pl' - p.rs.length).toNat]? = some s'.2[(pl' - p.rs.length).toNat] := List.getElem?_eq_getElem jl
      have hz : 0 ≤ pl' - p.rs.length ∧ pl' - p.rs.length < 2 ^ 63 := ⟨by omega, by unfold Pg.last at pp2; have := hp.np2; have := hp.nr; omega⟩
      have hj : ixN (s'.2.map D.int).length (pl' - p.rs.length) = some (pl' - p.rs.length).toNat := ixN_nat hz.1 (by rw [List.length_map]; exact jl)
      simp only [ev_augIx, ev_fld, insOf_mr b.me, fb_rg, fb_lv, fb_py, List.length_map, ev_ixLL b.py hz (mapI hx), ev_putIx b.py hj, setI, ev_ix0, ev_ix1, ev_ix2, ws_seq, ws_next, ws_expr, ws_ret, ws_retN, ws_break, ws_set, ws_asg, ws_if, ws_raise, ws_par, ws_eff, ws_for, ev_varE, ev_cE, ev_binE, ev_unE, ev_nilA, ev_consA, ev_starA, ev_tupE, ev_newL, ev_lstE, ev_ifE, ev_asB, ev_valT, ev_andT, ev_orT, ev_notT, ev_andE, ev_intD, ev_addI, ev_addT, ev_mulI, ev_mulT, ev_negI, ev_isN, ev_isB, ev_eqI, ev_callE, ev_lenT, ev_intC, ev_listT, ev_two, ev_chainE, ev_lastC, ev_lastT, ev_linkC, ev_linkT, ev_truT, ev_mtE, ev_yesT, ev_all, ev_seqI, ev_rng1, ev_rng2, ev_zip, ev_enum, ev_lcE, ev_lc2E, lc_item, lc_item2, List.map_cons, List.map_nil, List.cons_append, List.nil_append, List.append_nil, List.replicate_succ, List.replicate_zero, Nat.reduceSub, Nat.reduceAdd, List.getElem?_cons_zero, List.getElem?_cons_succ, List.getElem?_nil, List.set_cons_zero, List.set_cons_succ, asg_nm, asg_tp, asgs_nil, asgs_cons, Option.bind_some, List.length_cons, List.length_nil, wipeD, true_and, and_true, if_true, if_false, Bool.false_eq_true, decide_eq_true_eq, Bool.not_true, Bool.not_false, Bool.xor_false, Bool.false_xor, Bool.true_xor, Bool.not_eq_true', decide_eq_false_iff_not, reduceIte]
      rw [put, if_neg (by omega), if_pos hge] at eq
      have eg : s'.2.getD (pl' - p.rs.length).toNat 0 = s'.2[(pl' - p.rs.length).toNat] := by rw [List.getD_eq_getElem?_getD, hx]; rfl
      rw [eg] at eq
      have b' : BkAt p (μ'.set q (.lst ((s'.2.set (pl' - p.rs.length).toNat (s'.2[(pl' - p.rs.length).toNat] + am')).map .int))) s l q (s'.1, s'.2.set (pl' - p.rs.length).toNat (s'.2[(pl' - p.rs.length).toNat] + am')) := ⟨get_set_ne b.me b.sq.symm, get_set_ne b.lv b.lq.symm, get_set b.py, b.sl, b.sq, b.lq⟩
      exact done _ (f.set _ fun _ => .inr rfl) (eq ▸ b')
    · rw [if_neg hge]
      obtain ⟨r, cur, T⟩ := turn_of hp so po pp1 (by omega)
      have hreg : (p.rs.map rD)[pl'.toNat]? = some (rD r) := by rw [List.getElem?_map, T.rg]; rfl
      have hreg2 : atI (p.rs.map rD) pl' = some (.tup [.int r.lo, .int r.hi, .int r.st, .tup [.int r.ov.1, .int r.ov.2], .tup [.int r.un.1, .int r.un.2]]) := atI_of pp1 hreg
      have ll : pl'.toNat < (s'.1.map D.int).length := by rw [List.length_map, so.lv.len]; exact T.il
      have sm := po.small
      have hcl : atI ((s'.1.set pl'.toNat (cl r.lo r.hi (cur + am'))).map D.int) pl' = some (.int (cl r.lo r.hi (cur + am'))) := atI_of pp1 (mapI (List.getElem?_set_self (by rw [so.lv.len]; exact T.il)))
      have ci := cl_in (s := cur + am') T.lh
      have fin : ∀ {μ'' : Mu}, μ'' = μ'.set l (.lst ((s'.1.set pl'.toNat (cl r.lo r.hi (cur + am'))).map .int)) → Fr (at2 l q) μ μ'' ∧ BkAt p μ'' s l q (s'.1.set pl'.toNat (cl r.lo r.hi (cur + am')), s'.2) := fun {μ''} e => by
        rw [e]
        exact ⟨f.set _ fun _ => .inl rfl, get_set_ne b.me b.sl.symm, get_set b.lv, get_set_ne b.py b.lq, b.sl, b.sq, b.lq⟩
      simp only [ev_fld, insOf_mr b.me, fb_rg, fb_lv, fb_py, ev_ixT hreg2, ev_ixL b.lv (atI_of pp1 (mapI T.cu)), ev_setIx, cl_max T.lh, ev_putIx b.lv (ixN_nat pp1 ll), setI, ev_ix0, ev_ix1, ev_ix2, ws_seq, ws_next, ws_expr, ws_ret, ws_retN, ws_break, ws_set, ws_asg, ws_if, ws_raise, ws_par, ws_eff, ws_for, ev_varE, ev_cE, ev_binE, ev_unE, ev_nilA, ev_consA, ev_starA, ev_tupE, ev_newL, ev_lstE, ev_ifE, ev_asB, ev_valT, ev_andT, ev_orT, ev_notT, ev_andE, ev_intD, ev_addI, ev_addT, ev_mulI, ev_mulT, ev_negI, ev_isN, ev_isB, ev_eqI, ev_callE, ev_lenT, ev_intC, ev_listT, ev_two, ev_chainE, ev_lastC, ev_lastT, ev_linkC, ev_linkT, ev_truT, ev_mtE, ev_yesT, ev_all, ev_seqI, ev_rng1, ev_rng2, ev_zip, ev_enum, ev_lcE, ev_lc2E, lc_item, lc_item2, List.map_cons, List.map_nil, List.cons_append, List.nil_append, List.append_nil, List.replicate_succ, List.replicate_zero, Nat.reduceSub, Nat.reduceAdd, List.getElem?_cons_zero, List.getElem?_cons_succ, List.getElem?_nil, List.set_cons_zero, List.set_cons_succ, asg_nm, asg_tp, asgs_nil, asgs_cons, Option.bind_some, List.length_cons, List.length_nil, wipeD, true_and, and_true, if_true, if_false, Bool.false_eq_true, decide_eq_true_eq, Bool.not_true, Bool.not_false, Bool.xor_false, Bool.false_xor, Bool.true_xor, Bool.not_eq_true', decide_eq_false_iff_not, reduceIte]
      have F := fin rfl
      rw [T.eq] at eq
      generalize μ'.set l (.lst ((s'.1.set pl'.toNat (cl r.lo r.hi (cur + am'))).map .int)) = μ'' at F ⊢
      obtain ⟨F1, F2⟩ := F
      have lh := T.lh; have b1 := T.b1; have b2 := T.b2; have c1 := T.c1; have c2 := T.c2
      have nx := T.nx
      have cm : ∀ o : Int, CMul (cur + am' - cl r.lo r.hi (cur + am')) o := fun o => .inl ⟨by omega, by omega⟩
      simp only [insOf_mr F2.me, fb_lv, ev_ixL F2.lv hcl, ev_ix0, ev_ix1, ev_ix2, ws_seq, ws_next, ws_expr, ws_ret, ws_retN, ws_break, ws_set, ws_asg, ws_if, ws_raise, ws_par, ws_eff, ws_for, ev_varE, ev_cE, ev_binE, ev_unE, ev_nilA, ev_consA, ev_starA, ev_tupE, ev_newL, ev_lstE, ev_ifE, ev_asB, ev_valT, ev_andT, ev_orT, ev_notT, ev_andE, ev_intD, ev_addI, ev_addT, ev_mulI, ev_mulT, ev_negI, ev_isN, ev_isB, ev_eqI, ev_callE, ev_lenT, ev_intC, ev_listT, ev_two, ev_chainE, ev_lastC, ev_lastT, ev_linkC, ev_linkT, ev_truT, ev_mtE, ev_yesT, ev_all, ev_seqI, ev_rng1, ev_rng2, ev_zip, ev_enum, ev_lcE, ev_lc2E, lc_item, lc_item2, List.map_cons, List.map_nil, List.cons_append, List.nil_append, List.append_nil, List.replicate_succ, List.replicate_zero, Nat.reduceSub, Nat.reduceAdd, List.getElem?_cons_zero, List.getElem?_cons_succ, List.getElem?_nil, List.set_cons_zero, List.set_cons_succ, asg_nm, asg_tp, asgs_nil, asgs_cons, Option.bind_some, List.length_cons, List.length_nil, wipeD, true_and, and_true, if_true, if_false, Bool.false_eq_true, decide_eq_true_eq, Bool.not_true, Bool.not_false, Bool.xor_false, Bool.false_xor, Bool.true_xor, Bool.not_eq_true', decide_eq_false_iff_not, reduceIte]
      by_cases c : r.hi < cur + am'
      · rw [if_pos (show r.lo ≤ cur + am' by omega), if_neg (show ¬ cur + am' ≤ r.hi by omega), if_pos c]
        rw [if_neg (by omega), if_pos c] at eq
        have nx' := nx (by omega)
        rw [if_pos c] at nx'
        exact ⟨cm _, _, _, _, _, _, _, _, _, _, _, rfl, F1, F2, T.st, nx', eq⟩
      · by_cases c0 : r.lo ≤ cur + am'
        · rw [if_pos c0, if_pos (show cur + am' ≤ r.hi by omega)]
          rw [if_pos (by omega)] at eq
          exact done _ F1 (eq ▸ F2)
        · rw [if_neg c0, if_neg c]
          rw [if_neg (by omega), if_neg c] at eq
          have nx' := nx (by omega)
          rw [if_neg c] at nx'
          exact ⟨cm _, _, _, _, _, _, _, _, _, _, _, rfl, F1, F2, T.st, nx', eq⟩
end
end K69
end TPL5

section TPL6
set_option maxRecDepth 100000
set_option maxHeartbeats 2000000
namespace K69
open PySem L2 PySem.Spec PyProof.Rows DL
section
variable {X : Nat → Mu → Prop} {Q : D → Mu → Prop} {μ : Mu}
theorem no_put {rg : D} {l q : Nat} : (fsB rg l q).lookup ("put" : Str) = none := fb_no (by decide +kernel) (by decide +kernel) (by decide +kernel)
theorem no_book {rg : D} {l q : Nat} : (fsB rg l q).lookup ("book" : Str) = none := fb_no (by decide +kernel) (by decide +kernel) (by decide +kernel)
theorem no_told {rg : D} {l q : Nat} : (fsB rg l q).lookup ("told" : Str) = none := fb_no (by decide +kernel) (by decide +kernel) (by decide +kernel)
theorem book_next {rs : List Reg} {s : List Int × List Int} {k : List (Int × Int)} {i : Nat} {e : Int × Int} (h : k[i]? = some e) : book rs s (k.take (i + 1)) = put rs (rs.length + 1) (book rs s (k.take i)) e.1 e.2 := by
  rw [List.take_add_one, h, Option.toList_some]
  unfold book
  rw [List.foldl_append]
  rfl
theorem row_next {p : Pg} {s : List Int × List Int} {row : List Int} {i : Nat} {e : Int} (h : row[i]? = some e) : row_ p s (row.take (i + 1)) = book p.rs (row_ p s (row.take i)) (p.ks.getD e.toNat []) := by
  rw [List.take_add_one, h, Option.toList_some]
  unfold row_
  rw [List.foldl_append]
  rfl
theorem w_book {p : Pg} (hp : PgOk p) {s l q : Nat} {st : List Int × List Int} {k : List (Int × Int)} (hb : BkAt p μ s l q st) (hs : StOk p st) (hk : KindOk k p.last)
    (h : ∀ μ', Fr (at2 l q) μ μ' → BkAt p μ' s l q (book p.rs st k) → Q .non μ') : Ev X Q (d_Books_book [.mr s, kD k] μ) := by
  refine den_of rfl ?_
  unfold b_Books_book kD
  simp only [ev_ix0, ev_ix1, ev_ix2, ws_seq, ws_next, ws_expr, ws_ret, ws_retN, ws_break, ws_set, ws_asg, ws_if, ws_raise, ws_par, ws_eff, ws_for, ev_varE, ev_cE, ev_binE, ev_unE, ev_nilA, ev_consA, ev_starA, ev_tupE, ev_newL, ev_lstE, ev_ifE, ev_asB, ev_valT, ev_andT, ev_orT, ev_notT, ev_andE, ev_intD, ev_addI, ev_addT, ev_mulI, ev_mulT, ev_negI, ev_isN, ev_isB, ev_eqI, ev_callE, ev_lenT, ev_intC, ev_listT, ev_two, ev_chainE, ev_lastC, ev_lastT, ev_linkC, ev_linkT, ev_truT, ev_mtE, ev_yesT, ev_all, ev_seqI, ev_rng1, ev_rng2, ev_zip, ev_enum, ev_lcE, ev_lc2E, lc_item, lc_item2, List.map_cons, List.map_nil, List.cons_append, List.nil_append, List.append_nil, List.replicate_succ, List.replicate_zero, Nat.reduceSub, Nat.reduceAdd, List.getElem?_cons_zero, List.getElem?_cons_succ, List.getElem?_nil, List.set_cons_zero, List.set_cons_succ, asg_nm, asg_tp, asgs_nil, asgs_cons, Option.bind_some, List.length_cons, List.length_nil, wipeD, true_and, and_true, if_true, if_false, Bool.false_eq_true, decide_eq_true_eq, Bool.not_true, Bool.not_false, Bool.xor_false, Bool.false_xor, Bool.true_xor, Bool.not_eq_true', decide_eq_false_iff_not, reduceIte]
  refine ws_fix (fun i ρ' μ' => ∃ x2 x3, ρ' = [some (.mr s), some (kD k), x2, x3] ∧ Fr (at2 l q) μ μ' ∧ BkAt p μ' s l q (book p.rs st (k.take i)) ∧ StOk p (book p.rs st (k.take i))) ⟨_, _, rfl, Fr.refl _ _, hb, hs⟩ (fun i d ρ' μ' hd ⟨x2, x3, e, f, b, so⟩ => ?_) (fun ρ' μ' ⟨x2, x3, e, f, b, so⟩ => ?_)
  · subst e
    rw [List.getElem?_map] at hd
    obtain ⟨e, he, rfl⟩ := Option.map_eq_some_iff.mp hd
    have po := pos_start hp hk (List.mem_of_getElem? he)
    refine ⟨_, rfl, ?_⟩
    simp only [ev_meth, ev_recvI b.me no_put, ev_ix0, ev_ix1, ev_ix2, ws_seq, ws_next, ws_expr, ws_ret, ws_retN, ws_break, ws_set, ws_asg, ws_if, ws_raise, ws_par, ws_eff, ws_for, ev_varE, ev_cE, ev_binE, ev_unE, ev_nilA, ev_consA, ev_starA, ev_tupE, ev_newL, ev_lstE, ev_ifE, ev_asB, ev_valT, ev_andT, ev_orT, ev_notT, ev_andE, ev_intD, ev_addI, ev_addT, ev_mulI, ev_mulT, ev_negI, ev_isN, ev_isB, ev_eqI, ev_callE, ev_lenT, ev_intC, ev_listT, ev_two, ev_chainE, ev_lastC, ev_lastT, ev_linkC, ev_linkT, ev_truT, ev_mtE, ev_yesT, ev_all, ev_seqI, ev_rng1, ev_rng2, ev_zip, ev_enum, ev_lcE, ev_lc2E, lc_item, lc_item2, List.map_cons, List.map_nil, List.cons_append, List.nil_append, List.append_nil, List.replicate_succ, List.replicate_zero, Nat.reduceSub, Nat.reduceAdd, List.getElem?_cons_zero, List.getElem?_cons_succ, List.getElem?_nil, List.set_cons_zero, List.set_cons_succ, asg_nm, asg_tp, asgs_nil, asgs_cons, Option.bind_some, List.length_cons, List.length_nil, wipeD, true_and, and_true, if_true, if_false, Bool.false_eq_true, decide_eq_true_eq, Bool.not_true, Bool.not_false, Bool.xor_false, Bool.false_xor, Bool.true_xor, Bool.not_eq_true', decide_eq_false_iff_not, reduceIte]
    refine w_put hp b so po fun μ2 f2 b2 => ?_
    rw [← book_next he] at b2
    refine ⟨_, _, rfl, f.trans f2, b2, ?_⟩
    rw [book_next he]
    exact put_ok hp _ _ _ _ so po
  · rw [List.length_map, List.take_length] at b
    exact h _ f.gc ⟨gcM_get b.me (lt_of_get hb.me), gcM_get b.lv (lt_of_get hb.lv), gcM_get b.py (lt_of_get hb.py), b.sl, b.sq, b.lq⟩
theorem w_told {p : Pg} {s l q : Nat} {st : List Int × List Int} (hb : BkAt p μ s l q st) (h : ∀ μ', Fr no μ μ' → Q (eD st) μ') : Ev X Q (d_Books_told [.mr s] μ) := by
  refine den_of rfl ?_
  unfold b_Books_told
  simp only [ev_fld, insOf_mr hb.me, fb_lv, fb_py, ev_tupL hb.lv, ev_tupL hb.py, ev_ix0, ev_ix1, ev_ix2, ws_seq, ws_next, ws_expr, ws_ret, ws_retN, ws_break, ws_set, ws_asg, ws_if, ws_raise, ws_par, ws_eff, ws_for, ev_varE, ev_cE, ev_binE, ev_unE, ev_nilA, ev_consA, ev_starA, ev_tupE, ev_newL, ev_lstE, ev_ifE, ev_asB, ev_valT, ev_andT, ev_orT, ev_notT, ev_andE, ev_intD, ev_addI, ev_addT, ev_mulI, ev_mulT, ev_negI, ev_isN, ev_isB, ev_eqI, ev_callE, ev_lenT, ev_intC, ev_listT, ev_two, ev_chainE, ev_lastC, ev_lastT, ev_linkC, ev_linkT, ev_truT, ev_mtE, ev_yesT, ev_all, ev_seqI, ev_rng1, ev_rng2, ev_zip, ev_enum, ev_lcE, ev_lc2E, lc_item, lc_item2, List.map_cons, List.map_nil, List.cons_append, List.nil_append, List.append_nil, List.replicate_succ, List.replicate_zero, Nat.reduceSub, Nat.reduceAdd, List.getElem?_cons_zero, List.getElem?_cons_succ, List.getElem?_nil, List.set_cons_zero, List.set_cons_succ, asg_nm, asg_tp, asgs_nil, asgs_cons, Option.bind_some, List.length_cons, List.length_nil, wipeD, true_and, and_true, if_true, if_false, Bool.false_eq_true, decide_eq_true_eq, Bool.not_true, Bool.not_false, Bool.xor_false, Bool.false_xor, Bool.true_xor, Bool.not_eq_true', decide_eq_false_iff_not, reduceIte]
  exact ⟨by decide, h _ gid⟩
theorem gc_stay {n s : Nat} {d : D} {μ : Mu} {c : Cell} (h : μ[s]? = some c) (l : s < n) (u : Cell.und n c = false) : gcM n d μ = μ := by
  unfold gcM
  rw [if_neg]
  intro z
  have a := (Bool.and_eq_true_iff.mp z).2
  rw [List.all_eq_true] at a
  have : c ∈ μ.take n := List.mem_of_getElem? (i := s) (by rw [List.getElem?_take_of_lt l]; exact h)
  rw [a c this] at u
  cases u
theorem flat1 (n : Nat) : (List.replicate n [D.int 0]).flatten = (List.replicate n (0 : Int)).map .int := by
  induction n with
  | zero => rfl
  | succ n ih => rw [List.replicate_succ, List.flatten_cons, ih]; rfl
theorem p1 : ¬ (("registers" : Str) = "level") := by decide +kernel
theorem p2 : ¬ (("registers" : Str) = "pay") := by decide +kernel
theorem p3 : ¬ (("level" : Str) = "pay") := by decide +kernel
theorem puts {rg : D} {l q : Nat} : putD "pay" (.mr q) (putD "level" (.mr l) (putD "registers" rg [])) = fsB rg l q := by simp [putD, p1, p2, p3, fsB]
theorem w_init {p : Pg} (hp : PgOk p) {s : Nat} {lv : List Int} (hs : μ[s]? = some (.ins 11 []))
    (h : ∀ l q μ', Fr (at1 s) μ μ' → μ.length ≤ l → μ.length ≤ q → BkAt p μ' s l q (lv, List.replicate p.ps.toNat 0) → Q .non μ') : Ev X Q (d_Books_init [.mr s, pD p, iD lv] μ) := by
  refine den_of rfl ?_
  unfold b_Books_init
  have hl := lt_of_get hs
  have hn1 := hp.np1; have hn2 := hp.np2
  simp only [pD, iD, ws_fld, ev_putFld hs, ev_ix0, ev_ix1, ev_ix2, ws_seq, ws_next, ws_expr, ws_ret, ws_retN, ws_break, ws_set, ws_asg, ws_if, ws_raise, ws_par, ws_eff, ws_for, ev_varE, ev_cE, ev_binE, ev_unE, ev_nilA, ev_consA, ev_starA, ev_tupE, ev_newL, ev_lstE, ev_ifE, ev_asB, ev_valT, ev_andT, ev_orT, ev_notT, ev_andE, ev_intD, ev_addI, ev_addT, ev_mulI, ev_mulT, ev_negI, ev_isN, ev_isB, ev_eqI, ev_callE, ev_lenT, ev_intC, ev_listT, ev_two, ev_chainE, ev_lastC, ev_lastT, ev_linkC, ev_linkT, ev_truT, ev_mtE, ev_yesT, ev_all, ev_seqI, ev_rng1, ev_rng2, ev_zip, ev_enum, ev_lcE, ev_lc2E, lc_item, lc_item2, List.map_cons, List.map_nil, List.cons_append, List.nil_append, List.append_nil, List.replicate_succ, List.replicate_zero, Nat.reduceSub, Nat.reduceAdd, List.getElem?_cons_zero, List.getElem?_cons_succ, List.getElem?_nil, List.set_cons_zero, List.set_cons_succ, asg_nm, asg_tp, asgs_nil, asgs_cons, Option.bind_some, List.length_cons, List.length_nil, wipeD, true_and, and_true, if_true, if_false, Bool.false_eq_true, decide_eq_true_eq, Bool.not_true, Bool.not_false, Bool.xor_false, Bool.false_xor, Bool.true_xor, Bool.not_eq_true', decide_eq_false_iff_not, reduceIte]
  refine ⟨by decide, ?_⟩
  have g1 : (μ.set s (.ins 11 (putD "registers" (.tup (p.rs.map rD)) [])))[s]? = some (.ins 11 (putD "registers" (.tup (p.rs.map rD)) [])) := get_set hs
  have g2 := get_old (x := .lst (lv.map .int)) g1
  simp only [ev_putFld g2, List.length_set, ev_ix0, ev_ix1, ev_ix2, ws_seq, ws_next, ws_expr, ws_ret, ws_retN, ws_break, ws_set, ws_asg, ws_if, ws_raise, ws_par, ws_eff, ws_for, ev_varE, ev_cE, ev_binE, ev_unE, ev_nilA, ev_consA, ev_starA, ev_tupE, ev_newL, ev_lstE, ev_ifE, ev_asB, ev_valT, ev_andT, ev_orT, ev_notT, ev_andE, ev_intD, ev_addI, ev_addT, ev_mulI, ev_mulT, ev_negI, ev_isN, ev_isB, ev_eqI, ev_callE, ev_lenT, ev_intC, ev_listT, ev_two, ev_chainE, ev_lastC, ev_lastT, ev_linkC, ev_linkT, ev_truT, ev_mtE, ev_yesT, ev_all, ev_seqI, ev_rng1, ev_rng2, ev_zip, ev_enum, ev_lcE, ev_lc2E, lc_item, lc_item2, List.map_cons, List.map_nil, List.cons_append, List.nil_append, List.append_nil, List.replicate_succ, List.replicate_zero, Nat.reduceSub, Nat.reduceAdd, List.getElem?_cons_zero, List.getElem?_cons_succ, List.getElem?_nil, List.set_cons_zero, List.set_cons_succ, asg_nm, asg_tp, asgs_nil, asgs_cons, Option.bind_some, List.length_cons, List.length_nil, wipeD, true_and, and_true, if_true, if_false, Bool.false_eq_true, decide_eq_true_eq, Bool.not_true, Bool.not_false, Bool.xor_false, Bool.false_xor, Bool.true_xor, Bool.not_eq_true', decide_eq_false_iff_not, reduceIte]
  refine ⟨by first | decide | (show (1 : Nat) < 1000; decide), by first | decide | (show (1 : Nat) < 1000; decide), ?_⟩
  generalize eL : μ.set s (.ins 11 (putD "registers" (.tup (p.rs.map rD)) [])) ++ [Cell.lst (lv.map .int)] = μ1 at g2 ⊢
  have l1 : μ1.length = μ.length + 1 := by rw [← eL]; simp
  have g3 := get_set (x := Cell.ins 11 (putD "level" (.mr μ.length) (putD "registers" (.tup (p.rs.map rD)) []))) g2
  have a1 : μ1[μ.length]? = some (.lst (lv.map .int)) := by rw [← eL]; rw [show μ.length = (μ.set s (.ins 11 (putD "registers" (.tup (p.rs.map rD)) []))).length by simp]; exact get_new
  have g4 := get_old (x := .lst [D.int 0]) g3
  have k1 : (μ1.set s (.ins 11 (putD "level" (.mr μ.length) (putD "registers" (.tup (p.rs.map rD)) [])))).length = μ.length + 1 := by rw [List.length_set, l1]
  have z1 : (μ1.set s (.ins 11 (putD "level" (.mr μ.length) (putD "registers" (.tup (p.rs.map rD)) []))) ++ [Cell.lst [D.int 0]])[μ.length + 1]? = some (.lst [D.int 0]) := by rw [← k1]; exact get_new
  rw [l1, ev_mulL z1]
  refine ⟨⟨by omega, by omega, by have := size_eq; show 1 * _ ≤ _; omega⟩, ?_⟩
  generalize eM : μ1.set s (.ins 11 (putD "level" (.mr μ.length) (putD "registers" (.tup (p.rs.map rD)) []))) ++ [Cell.lst [D.int 0]] = μ2 at g4 ⊢
  have l2 : μ2.length = μ.length + 2 := by rw [← eM, List.length_append, k1]; rfl
  have a2 : μ2[μ.length]? = some (.lst (lv.map .int)) := by rw [← eM]; exact get_old (get_set_ne a1 (by omega))
  simp only [ev_putFld (get_old g4), flat1, ev_ix0, ev_ix1, ev_ix2, ws_seq, ws_next, ws_expr, ws_ret, ws_retN, ws_break, ws_set, ws_asg, ws_if, ws_raise, ws_par, ws_eff, ws_for, ev_varE, ev_cE, ev_binE, ev_unE, ev_nilA, ev_consA, ev_starA, ev_tupE, ev_newL, ev_lstE, ev_ifE, ev_asB, ev_valT, ev_andT, ev_orT, ev_notT, ev_andE, ev_intD, ev_addI, ev_addT, ev_mulI, ev_mulT, ev_negI, ev_isN, ev_isB, ev_eqI, ev_callE, ev_lenT, ev_intC, ev_listT, ev_two, ev_chainE, ev_lastC, ev_lastT, ev_linkC, ev_linkT, ev_truT, ev_mtE, ev_yesT, ev_all, ev_seqI, ev_rng1, ev_rng2, ev_zip, ev_enum, ev_lcE, ev_lc2E, lc_item, lc_item2, List.map_cons, List.map_nil, List.cons_append, List.nil_append, List.append_nil, List.replicate_succ, List.replicate_zero, Nat.reduceSub, Nat.reduceAdd, List.getElem?_cons_zero, List.getElem?_cons_succ, List.getElem?_nil, List.set_cons_zero, List.set_cons_succ, asg_nm, asg_tp, asgs_nil, asgs_cons, Option.bind_some, List.length_cons, List.length_nil, wipeD, true_and, and_true, if_true, if_false, Bool.false_eq_true, decide_eq_true_eq, Bool.not_true, Bool.not_false, Bool.xor_false, Bool.false_xor, Bool.true_xor, Bool.not_eq_true', decide_eq_false_iff_not, reduceIte]
  rw [puts, l2]
  refine ⟨by first | decide | (simp [putD, p1]; done), ?_⟩
  have fin : BkAt p ((μ2 ++ [Cell.lst ((List.replicate p.ps.toNat (0 : Int)).map .int)]).set s (.ins 11 (fsB (.tup (p.rs.map rD)) μ.length (μ.length + 2)))) s μ.length (μ.length + 2) (lv, List.replicate p.ps.toNat 0) :=
    ⟨get_set (get_old g4), get_set_ne (get_old a2) (by omega), get_set_ne (by rw [← l2]; exact get_new) (by omega), by omega, by omega, by omega⟩
  rw [gc_stay fin.me hl (by simp [Cell.und, fsB, Ds.und, D.und])]
  refine h μ.length (μ.length + 2) _ ?_ (Nat.le_refl _) (by omega) fin
  refine Fr.set (S := at1 s) ?_ _ fun _ => rfl
  refine Fr.new ?_ _
  rw [← eM]
  refine Fr.new (Fr.set (S := at1 s) ?_ _ fun _ => rfl) _
  rw [← eL]
  exact Fr.new (Fr.set (S := at1 s) (Fr.refl _ _) _ fun _ => rfl) _
theorem w_end_at {p : Pg} (hp : PgOk p) {lv row : List Int} (hv : LvOk p lv) (hr : rowB p row = true) (h : ∀ μ', Fr no μ μ' → Q (eD (endOf p lv row)) μ') : Ev X Q (d_end_at [pD p, iD lv, iD row] μ) := by
  refine den_of rfl ?_
  unfold b_end_at
  have hr' := rowB_iff.mp hr
  simp only [ev_make, ev_ix0, ev_ix1, ev_ix2, ws_seq, ws_next, ws_expr, ws_ret, ws_retN, ws_break, ws_set, ws_asg, ws_if, ws_raise, ws_par, ws_eff, ws_for, ev_varE, ev_cE, ev_binE, ev_unE, ev_nilA, ev_consA, ev_starA, ev_tupE, ev_newL, ev_lstE, ev_ifE, ev_asB, ev_valT, ev_andT, ev_orT, ev_notT, ev_andE, ev_intD, ev_addI, ev_addT, ev_mulI, ev_mulT, ev_negI, ev_isN, ev_isB, ev_eqI, ev_callE, ev_lenT, ev_intC, ev_listT, ev_two, ev_chainE, ev_lastC, ev_lastT, ev_linkC, ev_linkT, ev_truT, ev_mtE, ev_yesT, ev_all, ev_seqI, ev_rng1, ev_rng2, ev_zip, ev_enum, ev_lcE, ev_lc2E, lc_item, lc_item2, List.map_cons, List.map_nil, List.cons_append, List.nil_append, List.append_nil, List.replicate_succ, List.replicate_zero, Nat.reduceSub, Nat.reduceAdd, List.getElem?_cons_zero, List.getElem?_cons_succ, List.getElem?_nil, List.set_cons_zero, List.set_cons_succ, asg_nm, asg_tp, asgs_nil, asgs_cons, Option.bind_some, List.length_cons, List.length_nil, wipeD, true_and, and_true, if_true, if_false, Bool.false_eq_true, decide_eq_true_eq, Bool.not_true, Bool.not_false, Bool.xor_false, Bool.false_xor, Bool.true_xor, Bool.not_eq_true', decide_eq_false_iff_not, reduceIte]
  refine w_init hp get_new fun l q μ1 f1 hl hq b1 => ⟨rfl, ?_⟩
  rw [List.length_append] at hl hq
  have f0 : Fr no μ μ1 := fr_up ((Fr.refl no μ).new _) f1 fun i z => by rw [z]; exact Nat.le_refl _
  have st0 := start_ok hp hv
  simp only [iD, ev_ix0, ev_ix1, ev_ix2, ws_seq, ws_next, ws_expr, ws_ret, ws_retN, ws_break, ws_set, ws_asg, ws_if, ws_raise, ws_par, ws_eff, ws_for, ev_varE, ev_cE, ev_binE, ev_unE, ev_nilA, ev_consA, ev_starA, ev_tupE, ev_newL, ev_lstE, ev_ifE, ev_asB, ev_valT, ev_andT, ev_orT, ev_notT, ev_andE, ev_intD, ev_addI, ev_addT, ev_mulI, ev_mulT, ev_negI, ev_isN, ev_isB, ev_eqI, ev_callE, ev_lenT, ev_intC, ev_listT, ev_two, ev_chainE, ev_lastC, ev_lastT, ev_linkC, ev_linkT, ev_truT, ev_mtE, ev_yesT, ev_all, ev_seqI, ev_rng1, ev_rng2, ev_zip, ev_enum, ev_lcE, ev_lc2E, lc_item, lc_item2, List.map_cons, List.map_nil, List.cons_append, List.nil_append, List.append_nil, List.replicate_succ, List.replicate_zero, Nat.reduceSub, Nat.reduceAdd, List.getElem?_cons_zero, List.getElem?_cons_succ, List.getElem?_nil, List.set_cons_zero, List.set_cons_succ, asg_nm, asg_tp, asgs_nil, asgs_cons, Option.bind_some, List.length_cons, List.length_nil, wipeD, true_and, and_true, if_true, if_false, Bool.false_eq_true, decide_eq_true_eq, Bool.not_true, Bool.not_false, Bool.xor_false, Bool.false_xor, Bool.true_xor, Bool.not_eq_true', decide_eq_false_iff_not, reduceIte]
  refine ws_fix (fun i ρ' μ' => ∃ x4, ρ' = [some (pD p), some (iD lv), some (iD row), some (.mr μ.length), x4] ∧ Fr no μ μ' ∧ BkAt p μ' μ.length l q (row_ p (lv, List.replicate p.ps.toNat 0) (row.take i)) ∧ StOk p (row_ p (lv, List.replicate p.ps.toNat 0) (row.take i))) ⟨_, rfl, f0, b1, st0⟩ (fun i d ρ' μ' hd ⟨x4, e, f, b, so⟩ => ?_) (fun ρ' μ' ⟨x4, e, f, b, so⟩ => ?_)
  · subst e
    rw [List.getElem?_map] at hd
    obtain ⟨e, he, rfl⟩ := Option.map_eq_some_iff.mp hd
    obtain ⟨k, k1, k2, k3⟩ := kind_at (hr' e (List.mem_of_getElem? he))
    have e0 := (hr' e (List.mem_of_getElem? he)).1
    refine ⟨_, rfl, ?_⟩
    have hix : atI (p.ks.map kD) e = some (kD k) := atI_of e0 (by rw [List.getElem?_map, k1]; rfl)
    simp only [ev_meth, ev_recvI b.me no_book, pD, ev_ixT hix, ev_ix0, ev_ix1, ev_ix2, ws_seq, ws_next, ws_expr, ws_ret, ws_retN, ws_break, ws_set, ws_asg, ws_if, ws_raise, ws_par, ws_eff, ws_for, ev_varE, ev_cE, ev_binE, ev_unE, ev_nilA, ev_consA, ev_starA, ev_tupE, ev_newL, ev_lstE, ev_ifE, ev_asB, ev_valT, ev_andT, ev_orT, ev_notT, ev_andE, ev_intD, ev_addI, ev_addT, ev_mulI, ev_mulT, ev_negI, ev_isN, ev_isB, ev_eqI, ev_callE, ev_lenT, ev_intC, ev_listT, ev_two, ev_chainE, ev_lastC, ev_lastT, ev_linkC, ev_linkT, ev_truT, ev_mtE, ev_yesT, ev_all, ev_seqI, ev_rng1, ev_rng2, ev_zip, ev_enum, ev_lcE, ev_lc2E, lc_item, lc_item2, List.map_cons, List.map_nil, List.cons_append, List.nil_append, List.append_nil, List.replicate_succ, List.replicate_zero, Nat.reduceSub, Nat.reduceAdd, List.getElem?_cons_zero, List.getElem?_cons_succ, List.getElem?_nil, List.set_cons_zero, List.set_cons_succ, asg_nm, asg_tp, asgs_nil, asgs_cons, Option.bind_some, List.length_cons, List.length_nil, wipeD, true_and, and_true, if_true, if_false, Bool.false_eq_true, decide_eq_true_eq, Bool.not_true, Bool.not_false, Bool.xor_false, Bool.false_xor, Bool.true_xor, Bool.not_eq_true', decide_eq_false_iff_not, reduceIte]
    have hko := hp.kd k k3
    refine w_book hp b so hko fun μ2 f2 b2 => ?_
    rw [← k2, ← row_next he] at b2
    refine ⟨_, rfl, fr_up f f2 fun i z => by rcases z with z | z <;> rw [z] <;> omega, b2, ?_⟩
    rw [row_next he, k2]
    exact book_ok hp k _ so fun e' he' => pos_start hp hko he'
  · subst e
    rw [List.length_map, List.take_length] at b
    simp only [ev_meth, ev_recvI b.me no_told, ev_ix0, ev_ix1, ev_ix2, ws_seq, ws_next, ws_expr, ws_ret, ws_retN, ws_break, ws_set, ws_asg, ws_if, ws_raise, ws_par, ws_eff, ws_for, ev_varE, ev_cE, ev_binE, ev_unE, ev_nilA, ev_consA, ev_starA, ev_tupE, ev_newL, ev_lstE, ev_ifE, ev_asB, ev_valT, ev_andT, ev_orT, ev_notT, ev_andE, ev_intD, ev_addI, ev_addT, ev_mulI, ev_mulT, ev_negI, ev_isN, ev_isB, ev_eqI, ev_callE, ev_lenT, ev_intC, ev_listT, ev_two, ev_chainE, ev_lastC, ev_lastT, ev_linkC, ev_linkT, ev_truT, ev_mtE, ev_yesT, ev_all, ev_seqI, ev_rng1, ev_rng2, ev_zip, ev_enum, ev_lcE, ev_lc2E, lc_item, lc_item2, List.map_cons, List.map_nil, List.cons_append, List.nil_append, List.append_nil, List.replicate_succ, List.replicate_zero, Nat.reduceSub, Nat.reduceAdd, List.getElem?_cons_zero, List.getElem?_cons_succ, List.getElem?_nil, List.set_cons_zero, List.set_cons_succ, asg_nm, asg_tp, asgs_nil, asgs_cons, Option.bind_some, List.length_cons, List.length_nil, wipeD, true_and, and_true, if_true, if_false, Bool.false_eq_true, decide_eq_true_eq, Bool.not_true, Bool.not_false, Bool.xor_false, Bool.false_xor, Bool.true_xor, Bool.not_eq_true', decide_eq_false_iff_not, reduceIte]
    exact w_told b fun μ2 f2 => h _ (f.trans f2).gc
end
end K69
end TPL6

section TPL7
set_option maxRecDepth 100000
set_option maxHeartbeats 4000000
namespace K69
open PySem L2 PySem.Spec PyProof.Rows DL
section
variable {X : Nat → Mu → Prop} {Q : D → Mu → Prop} {μ : Mu}
structure PrAt (μ : Mu) (l q : Nat) (st : List Int × List Int) : Prop where
  lv : μ[l]? = some (.lst (st.1.map .int))
  py : μ[q]? = some (.lst (st.2.map .int))
  lq : l ≠ q
theorem w_u_law_end {p : Pg} (hp : PgOk p) {lv row : List Int} (hv : LvOk p lv) (hr : rowB p row = true) (h : ∀ μ', Fr no μ μ' → Q (eD (endOf p lv row)) μ') : Ev X Q (d_u_law_end [pD p, iD lv, iD row] μ) := by
  refine den_of rfl ?_
  unfold b_u_law_end
  have hr' := rowB_iff.mp hr
  have hn1 := hp.np1; have hn2 := hp.np2; have hn3 := hp.nr
  have zz := size_eq
  simp only [pD, iD, ev_ix0, ev_ix1, ev_ix2, ws_seq, ws_next, ws_expr, ws_ret, ws_retN, ws_break, ws_set, ws_asg, ws_if, ws_raise, ws_par, ws_eff, ws_for, ev_varE, ev_cE, ev_binE, ev_unE, ev_nilA, ev_consA, ev_starA, ev_tupE, ev_newL, ev_lstE, ev_ifE, ev_asB, ev_valT, ev_andT, ev_orT, ev_notT, ev_andE, ev_intD, ev_addI, ev_addT, ev_mulI, ev_mulT, ev_negI, ev_isN, ev_isB, ev_eqI, ev_callE, ev_lenT, ev_intC, ev_listT, ev_two, ev_chainE, ev_lastC, ev_lastT, ev_linkC, ev_linkT, ev_truT, ev_mtE, ev_yesT, ev_all, ev_seqI, ev_rng1, ev_rng2, ev_zip, ev_enum, ev_lcE, ev_lc2E, lc_item, lc_item2, List.map_cons, List.map_nil, List.cons_append, List.nil_append, List.append_nil, List.replicate_succ, List.replicate_zero, Nat.reduceSub, Nat.reduceAdd, List.getElem?_cons_zero, List.getElem?_cons_succ, List.getElem?_nil, List.set_cons_zero, List.set_cons_succ, asg_nm, asg_tp, asgs_nil, asgs_cons, Option.bind_some, List.length_cons, List.length_nil, wipeD, true_and, and_true, if_true, if_false, Bool.false_eq_true, decide_eq_true_eq, Bool.not_true, Bool.not_false, Bool.xor_false, Bool.false_xor, Bool.true_xor, Bool.not_eq_true', decide_eq_false_iff_not, reduceIte]
  have g1 : (μ ++ [Cell.lst (lv.map D.int)] ++ [Cell.lst [D.int 0]])[(μ ++ [Cell.lst (lv.map D.int)]).length]? = some (.lst [D.int 0]) := get_new
  refine ⟨by decide, ?_⟩
  rw [ev_mulL g1]
  refine ⟨⟨by omega, by omega, by show 1 * _ ≤ _; omega⟩, ?_⟩
  rw [flat1]
  generalize eM : μ ++ [Cell.lst (lv.map D.int)] ++ [Cell.lst [D.int 0]] ++ [Cell.lst ((List.replicate p.ps.toNat (0 : Int)).map D.int)] = μ1
  have l1 : (μ ++ [Cell.lst (lv.map D.int)] ++ [Cell.lst [D.int 0]]).length = μ.length + 2 := by simp
  rw [l1]
  have b1 : PrAt μ1 μ.length (μ.length + 2) (lv, List.replicate p.ps.toNat 0) := ⟨by rw [← eM]; exact get_old (get_old get_new), by rw [← eM, ← l1]; exact get_new, by omega⟩
  have f0 : Fr no μ μ1 := by rw [← eM]; exact (((Fr.refl _ _).new _).new _).new _
  have st0 := start_ok hp hv
  generalize eq_ : μ.length + 2 = q at b1 ⊢
  generalize el : μ.length = l at b1 ⊢
  have hl : μ.length ≤ l := by omega
  have hq : μ.length ≤ q := by omega
  rw [← el]
  refine ws_fix (fun i ρ' μ' => Fr no μ μ' ∧ PrAt μ' l q (row_ p (lv, List.replicate p.ps.toNat 0) (row.take i)) ∧ StOk p (row_ p (lv, List.replicate p.ps.toNat 0) (row.take i)) ∧ ∃ x3 x8 x9 x10 x11 x12 x13 x14 x15 x16 x17, ρ' = [some (pD p), some (.mr l), some (iD row), x3, some (.tup (p.rs.map rD)), some (.int p.ps), some (.tup (p.ks.map kD)), some (.mr q), x8, x9, x10, x11, x12, x13, x14, x15, x16, x17])
    ⟨f0, b1, st0, _, _, _, _, _, _, _, _, _, _, _, by rw [el]; rfl⟩ (fun i d ρ' μ' hd ⟨f, b, so, x3, x8, x9, x10, x11, x12, x13, x14, x15, x16, x17, e⟩ => ?_) (fun ρ' μ' ⟨f, b, so, x3, x8, x9, x10, x11, x12, x13, x14, x15, x16, x17, e⟩ => ?_)
  · subst e
    rw [List.getElem?_map] at hd
    obtain ⟨e, he, rfl⟩ := Option.map_eq_some_iff.mp hd
    obtain ⟨k, k1, k2, k3⟩ := kind_at (hr' e (List.mem_of_getElem? he))
    have e0 := (hr' e (List.mem_of_getElem? he)).1
    have hko := hp.kd k k3
    refine ⟨_, rfl, ?_⟩
    have hix : atI (p.ks.map kD) e = some (kD k) := atI_of e0 (by rw [List.getElem?_map, k1]; rfl)
    simp only [ev_ixT hix, kD, ev_ix0, ev_ix1, ev_ix2, ws_seq, ws_next, ws_expr, ws_ret, ws_retN, ws_break, ws_set, ws_asg, ws_if, ws_raise, ws_par, ws_eff, ws_for, ev_varE, ev_cE, ev_binE, ev_unE, ev_nilA, ev_consA, ev_starA, ev_tupE, ev_newL, ev_lstE, ev_ifE, ev_asB, ev_valT, ev_andT, ev_orT, ev_notT, ev_andE, ev_intD, ev_addI, ev_addT, ev_mulI, ev_mulT, ev_negI, ev_isN, ev_isB, ev_eqI, ev_callE, ev_lenT, ev_intC, ev_listT, ev_two, ev_chainE, ev_lastC, ev_lastT, ev_linkC, ev_linkT, ev_truT, ev_mtE, ev_yesT, ev_all, ev_seqI, ev_rng1, ev_rng2, ev_zip, ev_enum, ev_lcE, ev_lc2E, lc_item, lc_item2, List.map_cons, List.map_nil, List.cons_append, List.nil_append, List.append_nil, List.replicate_succ, List.replicate_zero, Nat.reduceSub, Nat.reduceAdd, List.getElem?_cons_zero, List.getElem?_cons_succ, List.getElem?_nil, List.set_cons_zero, List.set_cons_succ, asg_nm, asg_tp, asgs_nil, asgs_cons, Option.bind_some, List.length_cons, List.length_nil, wipeD, true_and, and_true, if_true, if_false, Bool.false_eq_true, decide_eq_true_eq, Bool.not_true, Bool.not_false, Bool.xor_false, Bool.false_xor, Bool.true_xor, Bool.not_eq_true', decide_eq_false_iff_not, reduceIte]
    rw [row_next he, k2]
    generalize row_ p (lv, List.replicate p.ps.toNat 0) (row.take i) = st at b so
    refine ws_fix (fun i ρ' μ' => Fr no μ μ' ∧ PrAt μ' l q (book p.rs st (k.take i)) ∧ StOk p (book p.rs st (k.take i)) ∧ ∃ x3 x8 x9 x10 x11 x12 x13 x14 x15 x16 x17, ρ' = [some (pD p), some (.mr l), some (iD row), x3, some (.tup (p.rs.map rD)), some (.int p.ps), some (.tup (p.ks.map kD)), some (.mr q), x8, x9, x10, x11, x12, x13, x14, x15, x16, x17])
      ⟨f, b, so, _, _, _, _, _, _, _, _, _, _, _, rfl⟩ (fun i d ρ' μ' hd ⟨f, b, so, x3, x8, x9, x10, x11, x12, x13, x14, x15, x16, x17, e⟩ => ?_) (fun ρ' μ' ⟨f, b, so, x3, x8, x9, x10, x11, x12, x13, x14, x15, x16, x17, e⟩ => ?_)
    · subst e
      rw [List.getElem?_map] at hd
      obtain ⟨e, he, rfl⟩ := Option.map_eq_some_iff.mp hd
      have po := pos_start hp hko (List.mem_of_getElem? he)
      refine ⟨_, rfl, ?_⟩
      have pok := put_ok hp _ _ _ _ so po
      simp only [oD, List.length_map, ev_ix0, ev_ix1, ev_ix2, ws_seq, ws_next, ws_expr, ws_ret, ws_retN, ws_break, ws_set, ws_asg, ws_if, ws_raise, ws_par, ws_eff, ws_for, ev_varE, ev_cE, ev_binE, ev_unE, ev_nilA, ev_consA, ev_starA, ev_tupE, ev_newL, ev_lstE, ev_ifE, ev_asB, ev_valT, ev_andT, ev_orT, ev_notT, ev_andE, ev_intD, ev_addI, ev_addT, ev_mulI, ev_mulT, ev_negI, ev_isN, ev_isB, ev_eqI, ev_callE, ev_lenT, ev_intC, ev_listT, ev_two, ev_chainE, ev_lastC, ev_lastT, ev_linkC, ev_linkT, ev_truT, ev_mtE, ev_yesT, ev_all, ev_seqI, ev_rng1, ev_rng2, ev_zip, ev_enum, ev_lcE, ev_lc2E, lc_item, lc_item2, List.map_cons, List.map_nil, List.cons_append, List.nil_append, List.append_nil, List.replicate_succ, List.replicate_zero, Nat.reduceSub, Nat.reduceAdd, List.getElem?_cons_zero, List.getElem?_cons_succ, List.getElem?_nil, List.set_cons_zero, List.set_cons_succ, asg_nm, asg_tp, asgs_nil, asgs_cons, Option.bind_some, List.length_cons, List.length_nil, wipeD, true_and, and_true, if_true, if_false, Bool.false_eq_true, decide_eq_true_eq, Bool.not_true, Bool.not_false, Bool.xor_false, Bool.false_xor, Bool.true_xor, Bool.not_eq_true', decide_eq_false_iff_not, reduceIte]
      refine ⟨⟨by omega, by omega⟩, ?_⟩
      rw [book_next he, show ((p.rs.length : Int) + 1).toNat = p.rs.length + 1 by omega]
      have key := po
      generalize et : put p.rs (p.rs.length + 1) (book p.rs st (k.take i)) e.1 e.2 = tg at pok
      refine ws_fix (fun j ρ2 μ2 => Fr no μ μ2 ∧ ∃ s' pl am, PrAt μ2 l q s' ∧ StOk p s' ∧ PosOk p (p.rs.length + 1 - j) pl am ∧ put p.rs (p.rs.length + 1 - j) s' pl am = tg ∧ ∃ x3 x10 x11 x12 x13 x14 x15 x16 x17, ρ2 = [some (pD p), some (.mr l), some (iD row), x3, some (.tup (p.rs.map rD)), some (.int p.ps), some (.tup (p.ks.map kD)), some (.mr q), some (.int pl), some (.int am), x10, x11, x12, x13, x14, x15, x16, x17])
        ⟨f, _, _, _, b, so, po, et, _, _, _, _, _, _, _, _, _, rfl⟩ (fun j d ρ2 μ2 hd ⟨f2, s', pl, am, b2, so2, po2, eq, x3, x10, x11, x12, x13, x14, x15, x16, x17, e2⟩ => ?_) (fun ρ2 μ2 ⟨f2, s', pl, am, b2, so2, po2, eq, x3, x10, x11, x12, x13, x14, x15, x16, x17, e2⟩ => ?_)
      · subst e2
        have jl : j < p.rs.length + 1 := by
          have := (List.getElem?_eq_some_iff.mp hd).1
          rw [rngD_eq, List.length_map, rng_len] at this
          exact this
        obtain ⟨m, hm⟩ : ∃ m, p.rs.length + 1 - j = m + 1 := ⟨p.rs.length - j, by omega⟩
        have hm2 : p.rs.length + 1 - (j + 1) = m := by omega
        rw [hm] at po2 eq
        rw [hm2]
        refine ⟨_, rfl, ?_⟩
        have sm := po2.small
        simp only [List.length_map, ev_ix0, ev_ix1, ev_ix2, ws_seq, ws_next, ws_expr, ws_ret, ws_retN, ws_break, ws_set, ws_asg, ws_if, ws_raise, ws_par, ws_eff, ws_for, ev_varE, ev_cE, ev_binE, ev_unE, ev_nilA, ev_consA, ev_starA, ev_tupE, ev_newL, ev_lstE, ev_ifE, ev_asB, ev_valT, ev_andT, ev_orT, ev_notT, ev_andE, ev_intD, ev_addI, ev_addT, ev_mulI, ev_mulT, ev_negI, ev_isN, ev_isB, ev_eqI, ev_callE, ev_lenT, ev_intC, ev_listT, ev_two, ev_chainE, ev_lastC, ev_lastT, ev_linkC, ev_linkT, ev_truT, ev_mtE, ev_yesT, ev_all, ev_seqI, ev_rng1, ev_rng2, ev_zip, ev_enum, ev_lcE, ev_lc2E, lc_item, lc_item2, List.map_cons, List.map_nil, List.cons_append, List.nil_append, List.append_nil, List.replicate_succ, List.replicate_zero, Nat.reduceSub, Nat.reduceAdd, List.getElem?_cons_zero, List.getElem?_cons_succ, List.getElem?_nil, List.set_cons_zero, List.set_cons_succ, asg_nm, asg_tp, asgs_nil, asgs_cons, Option.bind_some, List.length_cons, List.length_nil, wipeD, true_and, and_true, if_true, if_false, Bool.false_eq_true, decide_eq_true_eq, Bool.not_true, Bool.not_false, Bool.xor_false, Bool.false_xor, Bool.true_xor, Bool.not_eq_true', decide_eq_false_iff_not, reduceIte]
        by_cases hn : pl < 0
        · rw [if_pos hn]
          rw [put_neg hn] at eq
          exact ⟨f2, eq ▸ b2, pok, _, _, _, _, _, _, _, _, _, _, _, rfl⟩
        · rw [if_neg hn]
          obtain ⟨pp1, pp2, pp3, pp4⟩ : 0 ≤ pl ∧ pl ≤ p.last ∧ 1 ≤ m + 1 ∧ (p.rs.length : Int) + 1 ≤ pl + ((m + 1 : Nat) : Int) := by
            rcases po2.pos with z | z
            · omega
            · exact z
          by_cases hge : (p.rs.length : Int) ≤ pl
          · rw [if_pos hge]
            have jl2 : (pl - p.rs.length).toNat < s'.2.length := by
              have h1 := so2.py
              unfold Pg.last at pp2
              omega
            have hx : s'.2[(pl - p.rs.length).toNat]? = some s'.2[(pl - p.rs.length).toNat] := List.getElem?_eq_getElem jl2
            have hz : 0 ≤ pl - p.rs.length := by omega
            have hat : atI (s'.2.map D.int) (pl - p.rs.length) = some (.int s'.2[(pl - p.rs.length).toNat]) := atI_of hz (mapI hx)
            have hj : ixN (s'.2.map D.int).length (pl - p.rs.length) = some (pl - p.rs.length).toNat := ixN_nat hz (by rw [List.length_map]; exact jl2)
            simp only [ev_setIx, List.length_map, ev_ixL b2.py hat, ev_putIx b2.py hj, setI, ev_ix0, ev_ix1, ev_ix2, ws_seq, ws_next, ws_expr, ws_ret, ws_retN, ws_break, ws_set, ws_asg, ws_if, ws_raise, ws_par, ws_eff, ws_for, ev_varE, ev_cE, ev_binE, ev_unE, ev_nilA, ev_consA, ev_starA, ev_tupE, ev_newL, ev_lstE, ev_ifE, ev_asB, ev_valT, ev_andT, ev_orT, ev_notT, ev_andE, ev_intD, ev_addI, ev_addT, ev_mulI, ev_mulT, ev_negI, ev_isN, ev_isB, ev_eqI, ev_callE, ev_lenT, ev_intC, ev_listT, ev_two, ev_chainE, ev_lastC, ev_lastT, ev_linkC, ev_linkT, ev_truT, ev_mtE, ev_yesT, ev_all, ev_seqI, ev_rng1, ev_rng2, ev_zip, ev_enum, ev_lcE, ev_lc2E, lc_item, lc_item2, List.map_cons, List.map_nil, List.cons_append, List.nil_append, List.append_nil, List.replicate_succ, List.replicate_zero, Nat.reduceSub, Nat.reduceAdd, List.getElem?_cons_zero, List.getElem?_cons_succ, List.getElem?_nil, List.set_cons_zero, List.set_cons_succ, asg_nm, asg_tp, asgs_nil, asgs_cons, Option.bind_some, List.length_cons, List.length_nil, wipeD, true_and, and_true, if_true, if_false, Bool.false_eq_true, decide_eq_true_eq, Bool.not_true, Bool.not_false, Bool.xor_false, Bool.false_xor, Bool.true_xor, Bool.not_eq_true', decide_eq_false_iff_not, reduceIte]
            rw [put, if_neg (by omega), if_pos hge] at eq
            have eg : s'.2.getD (pl - p.rs.length).toNat 0 = s'.2[(pl - p.rs.length).toNat] := by rw [List.getD_eq_getElem?_getD, hx]; rfl
            rw [eg] at eq
            have b' : PrAt (μ2.set q (.lst ((s'.2.set (pl - p.rs.length).toNat (s'.2[(pl - p.rs.length).toNat] + am)).map .int))) l q (s'.1, s'.2.set (pl - p.rs.length).toNat (s'.2[(pl - p.rs.length).toNat] + am)) := ⟨get_set_ne b2.lv b2.lq.symm, get_set b2.py, b2.lq⟩
            exact ⟨f2.set _ (fun z => by omega), eq ▸ b', pok, _, _, _, _, _, _, _, _, _, _, _, rfl⟩
          · rw [if_neg hge]
            obtain ⟨r, cur, T⟩ := turn_of hp so2 po2 pp1 (by omega)
            have hreg : (p.rs.map rD)[pl.toNat]? = some (rD r) := by rw [List.getElem?_map, T.rg]; rfl
            have hreg2 : atI (p.rs.map rD) pl = some (.tup [.int r.lo, .int r.hi, .int r.st, .tup [.int r.ov.1, .int r.ov.2], .tup [.int r.un.1, .int r.un.2]]) := atI_of pp1 hreg
            have ll : pl.toNat < (s'.1.map D.int).length := by rw [List.length_map, so2.lv.len]; exact T.il
            have hcl : atI ((s'.1.set pl.toNat (cl r.lo r.hi (cur + am))).map D.int) pl = some (.int (cl r.lo r.hi (cur + am))) := atI_of pp1 (mapI (List.getElem?_set_self (by rw [so2.lv.len]; exact T.il)))
            have ci := cl_in (s := cur + am) T.lh
            have F1 : Fr no μ (μ2.set l (.lst ((s'.1.set pl.toNat (cl r.lo r.hi (cur + am))).map .int))) := f2.set _ (fun z => by omega)
            have F2 : PrAt (μ2.set l (.lst ((s'.1.set pl.toNat (cl r.lo r.hi (cur + am))).map .int))) l q (s'.1.set pl.toNat (cl r.lo r.hi (cur + am)), s'.2) := ⟨get_set b2.lv, get_set_ne b2.py b2.lq, b2.lq⟩
            simp only [ev_ixT hreg2, ev_ixL b2.lv (atI_of pp1 (mapI T.cu)), ev_setIx, cl_min T.lh, ev_putIx b2.lv (ixN_nat pp1 ll), setI, ev_ix0, ev_ix1, ev_ix2, ws_seq, ws_next, ws_expr, ws_ret, ws_retN, ws_break, ws_set, ws_asg, ws_if, ws_raise, ws_par, ws_eff, ws_for, ev_varE, ev_cE, ev_binE, ev_unE, ev_nilA, ev_consA, ev_starA, ev_tupE, ev_newL, ev_lstE, ev_ifE, ev_asB, ev_valT, ev_andT, ev_orT, ev_notT, ev_andE, ev_intD, ev_addI, ev_addT, ev_mulI, ev_mulT, ev_negI, ev_isN, ev_isB, ev_eqI, ev_callE, ev_lenT, ev_intC, ev_listT, ev_two, ev_chainE, ev_lastC, ev_lastT, ev_linkC, ev_linkT, ev_truT, ev_mtE, ev_yesT, ev_all, ev_seqI, ev_rng1, ev_rng2, ev_zip, ev_enum, ev_lcE, ev_lc2E, lc_item, lc_item2, List.map_cons, List.map_nil, List.cons_append, List.nil_append, List.append_nil, List.replicate_succ, List.replicate_zero, Nat.reduceSub, Nat.reduceAdd, List.getElem?_cons_zero, List.getElem?_cons_succ, List.getElem?_nil, List.set_cons_zero, List.set_cons_succ, asg_nm, asg_tp, asgs_nil, asgs_cons, Option.bind_some, List.length_cons, List.length_nil, wipeD, true_and, and_true, if_true, if_false, Bool.false_eq_true, decide_eq_true_eq, Bool.not_true, Bool.not_false, Bool.xor_false, Bool.false_xor, Bool.true_xor, Bool.not_eq_true', decide_eq_false_iff_not, reduceIte]
            rw [T.eq] at eq
            generalize μ2.set l (.lst ((s'.1.set pl.toNat (cl r.lo r.hi (cur + am))).map .int)) = μ'' at F1 F2 ⊢
            have lh := T.lh; have b1 := T.b1; have b2 := T.b2; have c1 := T.c1; have c2 := T.c2
            have nx := T.nx
            have cm : ∀ o : Int, CMul (cur + am - cl r.lo r.hi (cur + am)) o := fun o => .inl ⟨by omega, by omega⟩
            simp only [ev_ixL F2.lv hcl, ev_ix0, ev_ix1, ev_ix2, ws_seq, ws_next, ws_expr, ws_ret, ws_retN, ws_break, ws_set, ws_asg, ws_if, ws_raise, ws_par, ws_eff, ws_for, ev_varE, ev_cE, ev_binE, ev_unE, ev_nilA, ev_consA, ev_starA, ev_tupE, ev_newL, ev_lstE, ev_ifE, ev_asB, ev_valT, ev_andT, ev_orT, ev_notT, ev_andE, ev_intD, ev_addI, ev_addT, ev_mulI, ev_mulT, ev_negI, ev_isN, ev_isB, ev_eqI, ev_callE, ev_lenT, ev_intC, ev_listT, ev_two, ev_chainE, ev_lastC, ev_lastT, ev_linkC, ev_linkT, ev_truT, ev_mtE, ev_yesT, ev_all, ev_seqI, ev_rng1, ev_rng2, ev_zip, ev_enum, ev_lcE, ev_lc2E, lc_item, lc_item2, List.map_cons, List.map_nil, List.cons_append, List.nil_append, List.append_nil, List.replicate_succ, List.replicate_zero, Nat.reduceSub, Nat.reduceAdd, List.getElem?_cons_zero, List.getElem?_cons_succ, List.getElem?_nil, List.set_cons_zero, List.set_cons_succ, asg_nm, asg_tp, asgs_nil, asgs_cons, Option.bind_some, List.length_cons, List.length_nil, wipeD, true_and, and_true, if_true, if_false, Bool.false_eq_true, decide_eq_true_eq, Bool.not_true, Bool.not_false, Bool.xor_false, Bool.false_xor, Bool.true_xor, Bool.not_eq_true', decide_eq_false_iff_not, reduceIte]
            by_cases c : r.hi < cur + am
            · rw [if_pos (show r.lo ≤ cur + am by omega), if_neg (show ¬ cur + am ≤ r.hi by omega), if_pos c]
              rw [if_neg (by omega), if_pos c] at eq
              have nx' := nx (by omega)
              rw [if_pos c] at nx'
              refine ⟨cm _, ?_⟩
              rw [if_pos c]
              exact ⟨F1, _, _, _, F2, T.st, nx', eq, _, _, _, _, _, _, _, _, _, rfl⟩
            · by_cases c0 : r.lo ≤ cur + am
              · rw [if_pos c0, if_pos (show cur + am ≤ r.hi by omega)]
                rw [if_pos (by omega)] at eq
                exact ⟨F1, eq ▸ F2, pok, _, _, _, _, _, _, _, _, _, _, _, rfl⟩
              · rw [if_neg c0, if_neg c]
                rw [if_neg (by omega), if_neg c] at eq
                have nx' := nx (by omega)
                rw [if_neg c] at nx'
                refine ⟨cm _, ?_⟩
                rw [if_neg c]
                exact ⟨F1, _, _, _, F2, T.st, nx', eq, _, _, _, _, _, _, _, _, _, rfl⟩
      · subst e2
        have e0 : p.rs.length + 1 - (rngD 0 (p.rs.length + 1)).length = 0 := by rw [rngD_eq, List.length_map, rng_len]; omega
        rw [e0] at eq
        rw [put_zero] at eq
        exact ⟨f2, eq ▸ b2, pok, _, _, _, _, _, _, _, _, _, _, _, rfl⟩
    · subst e
      rw [List.length_map, List.take_length] at b so
      exact ⟨f, b, so, _, _, _, _, _, _, _, _, _, _, _, rfl⟩
  · subst e
    rw [List.length_map, List.take_length] at b
    simp only [ev_tupL b.lv, ev_tupL b.py, ev_ix0, ev_ix1, ev_ix2, ws_seq, ws_next, ws_expr, ws_ret, ws_retN, ws_break, ws_set, ws_asg, ws_if, ws_raise, ws_par, ws_eff, ws_for, ev_varE, ev_cE, ev_binE, ev_unE, ev_nilA, ev_consA, ev_starA, ev_tupE, ev_newL, ev_lstE, ev_ifE, ev_asB, ev_valT, ev_andT, ev_orT, ev_notT, ev_andE, ev_intD, ev_addI, ev_addT, ev_mulI, ev_mulT, ev_negI, ev_isN, ev_isB, ev_eqI, ev_callE, ev_lenT, ev_intC, ev_listT, ev_two, ev_chainE, ev_lastC, ev_lastT, ev_linkC, ev_linkT, ev_truT, ev_mtE, ev_yesT, ev_all, ev_seqI, ev_rng1, ev_rng2, ev_zip, ev_enum, ev_lcE, ev_lc2E, lc_item, lc_item2, List.map_cons, List.map_nil, List.cons_append, List.nil_append, List.append_nil, List.replicate_succ, List.replicate_zero, Nat.reduceSub, Nat.reduceAdd, List.getElem?_cons_zero, List.getElem?_cons_succ, List.getElem?_nil, List.set_cons_zero, List.set_cons_succ, asg_nm, asg_tp, asgs_nil, asgs_cons, Option.bind_some, List.length_cons, List.length_nil, wipeD, true_and, and_true, if_true, if_false, Bool.false_eq_true, decide_eq_true_eq, Bool.not_true, Bool.not_false, Bool.xor_false, Bool.false_xor, Bool.true_xor, Bool.not_eq_true', decide_eq_false_iff_not, reduceIte]
    exact ⟨by decide, h _ f.gc⟩
end
end K69
end TPL7

section TPL8
set_option maxRecDepth 100000
set_option maxHeartbeats 4000000
namespace K69
open PySem L2 PySem.Spec PyProof.Rows DL
section
variable {X : Nat → Mu → Prop} {Q : D → Mu → Prop} {μ : Mu}
/-! ### data that is compared -/
def dI (l : List Int) : PyData := .tuple (l.map .int)
def dE (s : List Int × List Int) : PyData := .tuple [dI s.1, dI s.2]
theorem views_I (n : Nat) : ∀ l : List Int, views μ n (l.map .int) = some (l.map .int)
  | [] => by simp only [List.map_nil, views]
  | x :: l => by
    rw [List.map_cons, views, views_I n l]
    cases n <;> simp [view]
theorem view_I (n : Nat) (l : List Int) : view μ (n + 1) (iD l) = some (dI l) := by
  unfold iD
  rw [view, views_I]; rfl
theorem view_E (n : Nat) (s : List Int × List Int) : view μ (n + 2) (eD s) = some (dE s) := by
  unfold eD
  rw [view, views, view_I, views, view_I, views]; rfl
theorem lay_I : ∀ l : List Int, PyData.canLayAll0 (l.map .int) = true
  | [] => rfl
  | x :: l => by rw [List.map_cons, PyData.canLayAll0, lay_I l]; rfl
theorem dep_I : ∀ l : List Int, PyData.depthAll (l.map .int) = 0
  | [] => rfl
  | x :: l => by rw [List.map_cons, PyData.depthAll, dep_I l]; rfl
theorem eqv_I : ∀ a b : List Int, PyData.eqvAll (a.map .int) (b.map .int) = decide (a = b)
  | [], [] => rfl
  | [], y :: b => by simp [PyData.eqvAll]
  | x :: a, [] => by simp [PyData.eqvAll]
  | x :: a, y :: b => by
    rw [List.map_cons, List.map_cons, PyData.eqvAll, eqv_I a b]
    by_cases h : x = y
    · by_cases h2 : a = b <;> simp [PyData.eqv, h, h2]
    · simp [PyData.eqv, h]
theorem shaped_E (s : List Int × List Int) : SeqAt.shaped (dE s) = true := by
  unfold SeqAt.shaped dE dI
  simp [PyData.canLay0, PyData.canLayAll0, lay_I, PyData.depth, PyData.depthAll, dep_I]
theorem eqv_E (a b : List Int × List Int) : PyData.eqv (dE a) (dE b) = decide (a = b) := by
  unfold dE dI
  simp only [PyData.eqv, PyData.eqvAll, eqv_I]
  obtain ⟨a1, a2⟩ := a
  obtain ⟨b1, b2⟩ := b
  by_cases h1 : a1 = b1 <;> by_cases h2 : a2 = b2 <;> simp [h1, h2]
theorem ev_eqE {neg : Bool} {a b : List Int × List Int} : Ev X Q (eqD neg (eD a) (eD b) μ) = Q (.bl (xor neg (decide (a = b)))) μ := by
  rw [ev_eqD (view_E 6 a) (view_E 6 b) (shaped_E a) (shaped_E b), eqv_E]
/-! ### the first level apart -/
def apP (p : Pg) (one two : List Int) (lv : List Int) : Bool := decide (endOf p lv one ≠ endOf p lv two)
def apart (p : Pg) (one two : List Int) : Option (List Int) := (lvs p.rs).find? (apP p one two)
def aD : Option (List Int) → D
  | none => .non
  | some lv => iD lv
theorem find_at {α : Type} {P : α → Bool} {ls : List α} {i : Nat} {a : α} (h : (ls.take i).find? P = none) (ha : ls[i]? = some a) (hp : P a = true) : ls.find? P = some a := by
  have e : ls = ls.take (i + 1) ++ ls.drop (i + 1) := (List.take_append_drop _ _).symm
  rw [e, List.find?_append, List.take_add_one, ha, Option.toList_some, List.find?_append, h]
  simp [hp]
theorem find_next {α : Type} {P : α → Bool} {ls : List α} {i : Nat} {a : α} (h : (ls.take i).find? P = none) (ha : ls[i]? = some a) (hp : P a = false) : (ls.take (i + 1)).find? P = none := by
  rw [List.take_add_one, ha, Option.toList_some, List.find?_append, h]
  simp [hp]
theorem w_u_law_apart {p : Pg} (hp : PgOk p) {one two : List Int} (h1 : rowB p one = true) (h2 : rowB p two = true) (h : ∀ μ', Fr no μ μ' → Q (aD (apart p one two)) μ') : Ev X Q (d_u_law_apart [pD p, iD one, iD two] μ) := by
  refine den_of rfl ?_
  unfold b_u_law_apart
  simp only [ev_ix0, ev_ix1, ev_ix2, ws_seq, ws_next, ws_expr, ws_ret, ws_retN, ws_break, ws_set, ws_asg, ws_if, ws_raise, ws_par, ws_eff, ws_for, ev_varE, ev_cE, ev_binE, ev_unE, ev_nilA, ev_consA, ev_starA, ev_tupE, ev_newL, ev_lstE, ev_ifE, ev_asB, ev_valT, ev_andT, ev_orT, ev_notT, ev_andE, ev_intD, ev_addI, ev_addT, ev_mulI, ev_mulT, ev_negI, ev_isN, ev_isB, ev_eqI, ev_callE, ev_lenT, ev_intC, ev_listT, ev_two, ev_chainE, ev_lastC, ev_lastT, ev_linkC, ev_linkT, ev_truT, ev_mtE, ev_yesT, ev_all, ev_seqI, ev_rng1, ev_rng2, ev_zip, ev_enum, ev_lcE, ev_lc2E, lc_item, lc_item2, List.map_cons, List.map_nil, List.cons_append, List.nil_append, List.append_nil, List.replicate_succ, List.replicate_zero, Nat.reduceSub, Nat.reduceAdd, List.getElem?_cons_zero, List.getElem?_cons_succ, List.getElem?_nil, List.set_cons_zero, List.set_cons_succ, asg_nm, asg_tp, asgs_nil, asgs_cons, Option.bind_some, List.length_cons, List.length_nil, wipeD, true_and, and_true, if_true, if_false, Bool.false_eq_true, decide_eq_true_eq, Bool.not_true, Bool.not_false, Bool.xor_false, Bool.false_xor, Bool.true_xor, Bool.not_eq_true', decide_eq_false_iff_not, reduceIte]
  refine w_u_law_levels hp fun r μ1 f1 g1 => ?_
  simp only [g1]
  refine ws_cell (fun i ρ' μ' => Fr no μ1 μ' ∧ ((lvs p.rs).take i).find? (apP p one two) = none ∧ ∃ x3, ρ' = [some (pD p), some (iD one), some (iD two), x3]) ⟨Fr.refl _ _, rfl, _, rfl⟩ (fun i ρ' μ' h => h.1.get g1) (fun i d ρ' μ' hd ⟨f, nf, x3, e⟩ => ?_) (fun ρ' μ' ⟨f, nf, x3, e⟩ => ?_)
  · subst e
    rw [List.getElem?_map] at hd
    obtain ⟨lv, hlv, rfl⟩ := Option.map_eq_some_iff.mp hd
    have hv := lvs_lv (List.mem_of_getElem? hlv)
    refine ⟨_, rfl, ?_⟩
    simp only [ev_ix0, ev_ix1, ev_ix2, ws_seq, ws_next, ws_expr, ws_ret, ws_retN, ws_break, ws_set, ws_asg, ws_if, ws_raise, ws_par, ws_eff, ws_for, ev_varE, ev_cE, ev_binE, ev_unE, ev_nilA, ev_consA, ev_starA, ev_tupE, ev_newL, ev_lstE, ev_ifE, ev_asB, ev_valT, ev_andT, ev_orT, ev_notT, ev_andE, ev_intD, ev_addI, ev_addT, ev_mulI, ev_mulT, ev_negI, ev_isN, ev_isB, ev_eqI, ev_callE, ev_lenT, ev_intC, ev_listT, ev_two, ev_chainE, ev_lastC, ev_lastT, ev_linkC, ev_linkT, ev_truT, ev_mtE, ev_yesT, ev_all, ev_seqI, ev_rng1, ev_rng2, ev_zip, ev_enum, ev_lcE, ev_lc2E, lc_item, lc_item2, List.map_cons, List.map_nil, List.cons_append, List.nil_append, List.append_nil, List.replicate_succ, List.replicate_zero, Nat.reduceSub, Nat.reduceAdd, List.getElem?_cons_zero, List.getElem?_cons_succ, List.getElem?_nil, List.set_cons_zero, List.set_cons_succ, asg_nm, asg_tp, asgs_nil, asgs_cons, Option.bind_some, List.length_cons, List.length_nil, wipeD, true_and, and_true, if_true, if_false, Bool.false_eq_true, decide_eq_true_eq, Bool.not_true, Bool.not_false, Bool.xor_false, Bool.false_xor, Bool.true_xor, Bool.not_eq_true', decide_eq_false_iff_not, reduceIte]
    refine w_u_law_end hp hv h1 fun μ2 f2 => w_u_law_end hp hv h2 fun μ3 f3 => ?_
    simp only [ev_eqE, ev_ix0, ev_ix1, ev_ix2, ws_seq, ws_next, ws_expr, ws_ret, ws_retN, ws_break, ws_set, ws_asg, ws_if, ws_raise, ws_par, ws_eff, ws_for, ev_varE, ev_cE, ev_binE, ev_unE, ev_nilA, ev_consA, ev_starA, ev_tupE, ev_newL, ev_lstE, ev_ifE, ev_asB, ev_valT, ev_andT, ev_orT, ev_notT, ev_andE, ev_intD, ev_addI, ev_addT, ev_mulI, ev_mulT, ev_negI, ev_isN, ev_isB, ev_eqI, ev_callE, ev_lenT, ev_intC, ev_listT, ev_two, ev_chainE, ev_lastC, ev_lastT, ev_linkC, ev_linkT, ev_truT, ev_mtE, ev_yesT, ev_all, ev_seqI, ev_rng1, ev_rng2, ev_zip, ev_enum, ev_lcE, ev_lc2E, lc_item, lc_item2, List.map_cons, List.map_nil, List.cons_append, List.nil_append, List.append_nil, List.replicate_succ, List.replicate_zero, Nat.reduceSub, Nat.reduceAdd, List.getElem?_cons_zero, List.getElem?_cons_succ, List.getElem?_nil, List.set_cons_zero, List.set_cons_succ, asg_nm, asg_tp, asgs_nil, asgs_cons, Option.bind_some, List.length_cons, List.length_nil, wipeD, true_and, and_true, if_true, if_false, Bool.false_eq_true, decide_eq_true_eq, Bool.not_true, Bool.not_false, Bool.xor_false, Bool.false_xor, Bool.true_xor, Bool.not_eq_true', decide_eq_false_iff_not, reduceIte]
    by_cases c : endOf p lv one = endOf p lv two
    · rw [if_neg (by simpa using c)]
      exact ⟨(f.trans f2).trans f3, find_next nf hlv (by unfold apP; simpa using c), _, rfl⟩
    · rw [if_pos (by simpa using c)]
      have e : apart p one two = some lv := find_at nf hlv (by unfold apP; simpa using c)
      rw [show iD lv = aD (apart p one two) by rw [e]; rfl]
      exact h _ (((f1.trans f).trans f2).trans f3).gc
  · subst e
    simp only [ev_ix0, ev_ix1, ev_ix2, ws_seq, ws_next, ws_expr, ws_ret, ws_retN, ws_break, ws_set, ws_asg, ws_if, ws_raise, ws_par, ws_eff, ws_for, ev_varE, ev_cE, ev_binE, ev_unE, ev_nilA, ev_consA, ev_starA, ev_tupE, ev_newL, ev_lstE, ev_ifE, ev_asB, ev_valT, ev_andT, ev_orT, ev_notT, ev_andE, ev_intD, ev_addI, ev_addT, ev_mulI, ev_mulT, ev_negI, ev_isN, ev_isB, ev_eqI, ev_callE, ev_lenT, ev_intC, ev_listT, ev_two, ev_chainE, ev_lastC, ev_lastT, ev_linkC, ev_linkT, ev_truT, ev_mtE, ev_yesT, ev_all, ev_seqI, ev_rng1, ev_rng2, ev_zip, ev_enum, ev_lcE, ev_lc2E, lc_item, lc_item2, List.map_cons, List.map_nil, List.cons_append, List.nil_append, List.append_nil, List.replicate_succ, List.replicate_zero, Nat.reduceSub, Nat.reduceAdd, List.getElem?_cons_zero, List.getElem?_cons_succ, List.getElem?_nil, List.set_cons_zero, List.set_cons_succ, asg_nm, asg_tp, asgs_nil, asgs_cons, Option.bind_some, List.length_cons, List.length_nil, wipeD, true_and, and_true, if_true, if_false, Bool.false_eq_true, decide_eq_true_eq, Bool.not_true, Bool.not_false, Bool.xor_false, Bool.false_xor, Bool.true_xor, Bool.not_eq_true', decide_eq_false_iff_not, reduceIte]
    rw [List.length_map, List.take_length] at nf
    rw [show D.non = aD (apart p one two) by rw [show apart p one two = none from nf]; rfl]
    exact h _ (f1.trans f).gc
theorem w_first_apart {p : Pg} (hp : PgOk p) {one two : List Int} (l1 : one.length ≤ 1000) (l2 : two.length ≤ 1000) (h1 : rowB p one = true) (h2 : rowB p two = true) (h : ∀ μ', Fr no μ μ' → Q (aD (apart p one two)) μ') : Ev X Q (d_first_apart [pD p, iD one, iD two] μ) := by
  refine den_of rfl ?_
  unfold b_first_apart
  simp only [ev_ix0, ev_ix1, ev_ix2, ws_seq, ws_next, ws_expr, ws_ret, ws_retN, ws_break, ws_set, ws_asg, ws_if, ws_raise, ws_par, ws_eff, ws_for, ev_varE, ev_cE, ev_binE, ev_unE, ev_nilA, ev_consA, ev_starA, ev_tupE, ev_newL, ev_lstE, ev_ifE, ev_asB, ev_valT, ev_andT, ev_orT, ev_notT, ev_andE, ev_intD, ev_addI, ev_addT, ev_mulI, ev_mulT, ev_negI, ev_isN, ev_isB, ev_eqI, ev_callE, ev_lenT, ev_intC, ev_listT, ev_two, ev_chainE, ev_lastC, ev_lastT, ev_linkC, ev_linkT, ev_truT, ev_mtE, ev_yesT, ev_all, ev_seqI, ev_rng1, ev_rng2, ev_zip, ev_enum, ev_lcE, ev_lc2E, lc_item, lc_item2, List.map_cons, List.map_nil, List.cons_append, List.nil_append, List.append_nil, List.replicate_succ, List.replicate_zero, Nat.reduceSub, Nat.reduceAdd, List.getElem?_cons_zero, List.getElem?_cons_succ, List.getElem?_nil, List.set_cons_zero, List.set_cons_succ, asg_nm, asg_tp, asgs_nil, asgs_cons, Option.bind_some, List.length_cons, List.length_nil, wipeD, true_and, and_true, if_true, if_false, Bool.false_eq_true, decide_eq_true_eq, Bool.not_true, Bool.not_false, Bool.xor_false, Bool.false_xor, Bool.true_xor, Bool.not_eq_true', decide_eq_false_iff_not, reduceIte]
  refine w_check_program hp fun μa fa => w_check_row l1 h1 fun μb fb => w_check_row l2 h2 fun μc fc => w_levels_of hp fun r μ1 f1 g1 => ?_
  simp only [g1]
  refine ws_cell (fun i ρ' μ' => Fr no μ μ' ∧ μ'[r]? = some (.lst ((lvs p.rs).map iD)) ∧ ((lvs p.rs).take i).find? (apP p one two) = none ∧ ∃ x3, ρ' = [some (pD p), some (iD one), some (iD two), x3]) ⟨((fa.trans fb).trans fc).trans f1, g1, rfl, _, rfl⟩ (fun i ρ' μ' h => h.2.1) (fun i d ρ' μ' hd ⟨f, g, nf, x3, e⟩ => ?_) (fun ρ' μ' ⟨f, g, nf, x3, e⟩ => ?_)
  · subst e
    rw [List.getElem?_map] at hd
    obtain ⟨lv, hlv, rfl⟩ := Option.map_eq_some_iff.mp hd
    have hv := lvs_lv (List.mem_of_getElem? hlv)
    refine ⟨_, rfl, ?_⟩
    simp only [ev_ix0, ev_ix1, ev_ix2, ws_seq, ws_next, ws_expr, ws_ret, ws_retN, ws_break, ws_set, ws_asg, ws_if, ws_raise, ws_par, ws_eff, ws_for, ev_varE, ev_cE, ev_binE, ev_unE, ev_nilA, ev_consA, ev_starA, ev_tupE, ev_newL, ev_lstE, ev_ifE, ev_asB, ev_valT, ev_andT, ev_orT, ev_notT, ev_andE, ev_intD, ev_addI, ev_addT, ev_mulI, ev_mulT, ev_negI, ev_isN, ev_isB, ev_eqI, ev_callE, ev_lenT, ev_intC, ev_listT, ev_two, ev_chainE, ev_lastC, ev_lastT, ev_linkC, ev_linkT, ev_truT, ev_mtE, ev_yesT, ev_all, ev_seqI, ev_rng1, ev_rng2, ev_zip, ev_enum, ev_lcE, ev_lc2E, lc_item, lc_item2, List.map_cons, List.map_nil, List.cons_append, List.nil_append, List.append_nil, List.replicate_succ, List.replicate_zero, Nat.reduceSub, Nat.reduceAdd, List.getElem?_cons_zero, List.getElem?_cons_succ, List.getElem?_nil, List.set_cons_zero, List.set_cons_succ, asg_nm, asg_tp, asgs_nil, asgs_cons, Option.bind_some, List.length_cons, List.length_nil, wipeD, true_and, and_true, if_true, if_false, Bool.false_eq_true, decide_eq_true_eq, Bool.not_true, Bool.not_false, Bool.xor_false, Bool.false_xor, Bool.true_xor, Bool.not_eq_true', decide_eq_false_iff_not, reduceIte]
    refine w_end_at hp hv h1 fun μ2 f2 => w_end_at hp hv h2 fun μ3 f3 => ?_
    simp only [ev_eqE, ev_ix0, ev_ix1, ev_ix2, ws_seq, ws_next, ws_expr, ws_ret, ws_retN, ws_break, ws_set, ws_asg, ws_if, ws_raise, ws_par, ws_eff, ws_for, ev_varE, ev_cE, ev_binE, ev_unE, ev_nilA, ev_consA, ev_starA, ev_tupE, ev_newL, ev_lstE, ev_ifE, ev_asB, ev_valT, ev_andT, ev_orT, ev_notT, ev_andE, ev_intD, ev_addI, ev_addT, ev_mulI, ev_mulT, ev_negI, ev_isN, ev_isB, ev_eqI, ev_callE, ev_lenT, ev_intC, ev_listT, ev_two, ev_chainE, ev_lastC, ev_lastT, ev_linkC, ev_linkT, ev_truT, ev_mtE, ev_yesT, ev_all, ev_seqI, ev_rng1, ev_rng2, ev_zip, ev_enum, ev_lcE, ev_lc2E, lc_item, lc_item2, List.map_cons, List.map_nil, List.cons_append, List.nil_append, List.append_nil, List.replicate_succ, List.replicate_zero, Nat.reduceSub, Nat.reduceAdd, List.getElem?_cons_zero, List.getElem?_cons_succ, List.getElem?_nil, List.set_cons_zero, List.set_cons_succ, asg_nm, asg_tp, asgs_nil, asgs_cons, Option.bind_some, List.length_cons, List.length_nil, wipeD, true_and, and_true, if_true, if_false, Bool.false_eq_true, decide_eq_true_eq, Bool.not_true, Bool.not_false, Bool.xor_false, Bool.false_xor, Bool.true_xor, Bool.not_eq_true', decide_eq_false_iff_not, reduceIte]
    by_cases c : endOf p lv one = endOf p lv two
    · rw [if_neg (by simpa using c)]
      exact ⟨(f.trans f2).trans f3, (f2.trans f3).get g, find_next nf hlv (by unfold apP; simpa using c), _, rfl⟩
    · rw [if_pos (by simpa using c)]
      have e : apart p one two = some lv := find_at nf hlv (by unfold apP; simpa using c)
      rw [show iD lv = aD (apart p one two) by rw [e]; rfl]
      exact h _ ((f.trans f2).trans f3).gc
  · subst e
    simp only [ev_ix0, ev_ix1, ev_ix2, ws_seq, ws_next, ws_expr, ws_ret, ws_retN, ws_break, ws_set, ws_asg, ws_if, ws_raise, ws_par, ws_eff, ws_for, ev_varE, ev_cE, ev_binE, ev_unE, ev_nilA, ev_consA, ev_starA, ev_tupE, ev_newL, ev_lstE, ev_ifE, ev_asB, ev_valT, ev_andT, ev_orT, ev_notT, ev_andE, ev_intD, ev_addI, ev_addT, ev_mulI, ev_mulT, ev_negI, ev_isN, ev_isB, ev_eqI, ev_callE, ev_lenT, ev_intC, ev_listT, ev_two, ev_chainE, ev_lastC, ev_lastT, ev_linkC, ev_linkT, ev_truT, ev_mtE, ev_yesT, ev_all, ev_seqI, ev_rng1, ev_rng2, ev_zip, ev_enum, ev_lcE, ev_lc2E, lc_item, lc_item2, List.map_cons, List.map_nil, List.cons_append, List.nil_append, List.append_nil, List.replicate_succ, List.replicate_zero, Nat.reduceSub, Nat.reduceAdd, List.getElem?_cons_zero, List.getElem?_cons_succ, List.getElem?_nil, List.set_cons_zero, List.set_cons_succ, asg_nm, asg_tp, asgs_nil, asgs_cons, Option.bind_some, List.length_cons, List.length_nil, wipeD, true_and, and_true, if_true, if_false, Bool.false_eq_true, decide_eq_true_eq, Bool.not_true, Bool.not_false, Bool.xor_false, Bool.false_xor, Bool.true_xor, Bool.not_eq_true', decide_eq_false_iff_not, reduceIte]
    rw [List.length_map, List.take_length] at nf
    rw [show D.non = aD (apart p one two) by rw [show apart p one two = none from nf]; rfl]
    exact h _ f.gc
theorem isN_aD (o : Option (List Int)) : (match aD o with | .non => true | _ => false) = o.isNone := by cases o <;> rfl
theorem w_are_same {p : Pg} (hp : PgOk p) {one two : List Int} (l1 : one.length ≤ 1000) (l2 : two.length ≤ 1000) (h1 : rowB p one = true) (h2 : rowB p two = true) (h : ∀ μ', Fr no μ μ' → Q (.bl (apart p one two).isNone) μ') : Ev X Q (d_are_same [pD p, iD one, iD two] μ) := by
  refine den_of rfl ?_
  unfold b_are_same
  simp only [ev_ix0, ev_ix1, ev_ix2, ws_seq, ws_next, ws_expr, ws_ret, ws_retN, ws_break, ws_set, ws_asg, ws_if, ws_raise, ws_par, ws_eff, ws_for, ev_varE, ev_cE, ev_binE, ev_unE, ev_nilA, ev_consA, ev_starA, ev_tupE, ev_newL, ev_lstE, ev_ifE, ev_asB, ev_valT, ev_andT, ev_orT, ev_notT, ev_andE, ev_intD, ev_addI, ev_addT, ev_mulI, ev_mulT, ev_negI, ev_isN, ev_isB, ev_eqI, ev_callE, ev_lenT, ev_intC, ev_listT, ev_two, ev_chainE, ev_lastC, ev_lastT, ev_linkC, ev_linkT, ev_truT, ev_mtE, ev_yesT, ev_all, ev_seqI, ev_rng1, ev_rng2, ev_zip, ev_enum, ev_lcE, ev_lc2E, lc_item, lc_item2, List.map_cons, List.map_nil, List.cons_append, List.nil_append, List.append_nil, List.replicate_succ, List.replicate_zero, Nat.reduceSub, Nat.reduceAdd, List.getElem?_cons_zero, List.getElem?_cons_succ, List.getElem?_nil, List.set_cons_zero, List.set_cons_succ, asg_nm, asg_tp, asgs_nil, asgs_cons, Option.bind_some, List.length_cons, List.length_nil, wipeD, true_and, and_true, if_true, if_false, Bool.false_eq_true, decide_eq_true_eq, Bool.not_true, Bool.not_false, Bool.xor_false, Bool.false_xor, Bool.true_xor, Bool.not_eq_true', decide_eq_false_iff_not, reduceIte]
  refine w_first_apart hp l1 l2 h1 h2 fun μ1 f1 => ?_
  generalize apart p one two = o at h ⊢
  cases o
  · exact h _ f1.gc
  · exact h _ f1.gc
/-! ### errors -/
theorem x_first_apart1 {p : Pg} (hp : PgOk p) {one two : List Int} (l1 : one.length ≤ 1000) (h1 : rowB p one = false) (h : ∀ μ', Fr no μ μ' → X 8 μ') : Ev X Q (d_first_apart [pD p, iD one, iD two] μ) := by
  refine den_of rfl ?_
  unfold b_first_apart
  simp only [ev_ix0, ev_ix1, ev_ix2, ws_seq, ws_next, ws_expr, ws_ret, ws_retN, ws_break, ws_set, ws_asg, ws_if, ws_raise, ws_par, ws_eff, ws_for, ev_varE, ev_cE, ev_binE, ev_unE, ev_nilA, ev_consA, ev_starA, ev_tupE, ev_newL, ev_lstE, ev_ifE, ev_asB, ev_valT, ev_andT, ev_orT, ev_notT, ev_andE, ev_intD, ev_addI, ev_addT, ev_mulI, ev_mulT, ev_negI, ev_isN, ev_isB, ev_eqI, ev_callE, ev_lenT, ev_intC, ev_listT, ev_two, ev_chainE, ev_lastC, ev_lastT, ev_linkC, ev_linkT, ev_truT, ev_mtE, ev_yesT, ev_all, ev_seqI, ev_rng1, ev_rng2, ev_zip, ev_enum, ev_lcE, ev_lc2E, lc_item, lc_item2, List.map_cons, List.map_nil, List.cons_append, List.nil_append, List.append_nil, List.replicate_succ, List.replicate_zero, Nat.reduceSub, Nat.reduceAdd, List.getElem?_cons_zero, List.getElem?_cons_succ, List.getElem?_nil, List.set_cons_zero, List.set_cons_succ, asg_nm, asg_tp, asgs_nil, asgs_cons, Option.bind_some, List.length_cons, List.length_nil, wipeD, true_and, and_true, if_true, if_false, Bool.false_eq_true, decide_eq_true_eq, Bool.not_true, Bool.not_false, Bool.xor_false, Bool.false_xor, Bool.true_xor, Bool.not_eq_true', decide_eq_false_iff_not, reduceIte]
  exact w_check_program hp fun μa fa => x_check_row l1 h1 fun μb fb => h _ (fa.trans fb).gcx
theorem x_first_apart2 {p : Pg} (hp : PgOk p) {one two : List Int} (l1 : one.length ≤ 1000) (l2 : two.length ≤ 1000) (h1 : rowB p one = true) (h2 : rowB p two = false) (h : ∀ μ', Fr no μ μ' → X 8 μ') : Ev X Q (d_first_apart [pD p, iD one, iD two] μ) := by
  refine den_of rfl ?_
  unfold b_first_apart
  simp only [ev_ix0, ev_ix1, ev_ix2, ws_seq, ws_next, ws_expr, ws_ret, ws_retN, ws_break, ws_set, ws_asg, ws_if, ws_raise, ws_par, ws_eff, ws_for, ev_varE, ev_cE, ev_binE, ev_unE, ev_nilA, ev_consA, ev_starA, ev_tupE, ev_newL, ev_lstE, ev_ifE, ev_asB, ev_valT, ev_andT, ev_orT, ev_notT, ev_andE, ev_intD, ev_addI, ev_addT, ev_mulI, ev_mulT, ev_negI, ev_isN, ev_isB, ev_eqI, ev_callE, ev_lenT, ev_intC, ev_listT, ev_two, ev_chainE, ev_lastC, ev_lastT, ev_linkC, ev_linkT, ev_truT, ev_mtE, ev_yesT, ev_all, ev_seqI, ev_rng1, ev_rng2, ev_zip, ev_enum, ev_lcE, ev_lc2E, lc_item, lc_item2, List.map_cons, List.map_nil, List.cons_append, List.nil_append, List.append_nil, List.replicate_succ, List.replicate_zero, Nat.reduceSub, Nat.reduceAdd, List.getElem?_cons_zero, List.getElem?_cons_succ, List.getElem?_nil, List.set_cons_zero, List.set_cons_succ, asg_nm, asg_tp, asgs_nil, asgs_cons, Option.bind_some, List.length_cons, List.length_nil, wipeD, true_and, and_true, if_true, if_false, Bool.false_eq_true, decide_eq_true_eq, Bool.not_true, Bool.not_false, Bool.xor_false, Bool.false_xor, Bool.true_xor, Bool.not_eq_true', decide_eq_false_iff_not, reduceIte]
  exact w_check_program hp fun μa fa => w_check_row l1 h1 fun μb fb => x_check_row l2 h2 fun μc fc => h _ ((fa.trans fb).trans fc).gcx
def badD : D := .tup [.tup [], .int 0, .tup []]
theorem x_check_program (h : ∀ μ', Fr no μ μ' → X 6 μ') : Ev X Q (d_check_program [badD] μ) := by
  refine den_of rfl ?_
  unfold b_check_program
  simp only [ev_ix0, ev_ix1, ev_ix2, ws_seq, ws_next, ws_expr, ws_ret, ws_retN, ws_break, ws_set, ws_asg, ws_if, ws_raise, ws_par, ws_eff, ws_for, ev_varE, ev_cE, ev_binE, ev_unE, ev_nilA, ev_consA, ev_starA, ev_tupE, ev_newL, ev_lstE, ev_ifE, ev_asB, ev_valT, ev_andT, ev_orT, ev_notT, ev_andE, ev_intD, ev_addI, ev_addT, ev_mulI, ev_mulT, ev_negI, ev_isN, ev_isB, ev_eqI, ev_callE, ev_lenT, ev_intC, ev_listT, ev_two, ev_chainE, ev_lastC, ev_lastT, ev_linkC, ev_linkT, ev_truT, ev_mtE, ev_yesT, ev_all, ev_seqI, ev_rng1, ev_rng2, ev_zip, ev_enum, ev_lcE, ev_lc2E, lc_item, lc_item2, List.map_cons, List.map_nil, List.cons_append, List.nil_append, List.append_nil, List.replicate_succ, List.replicate_zero, Nat.reduceSub, Nat.reduceAdd, List.getElem?_cons_zero, List.getElem?_cons_succ, List.getElem?_nil, List.set_cons_zero, List.set_cons_succ, asg_nm, asg_tp, asgs_nil, asgs_cons, Option.bind_some, List.length_cons, List.length_nil, wipeD, true_and, and_true, if_true, if_false, Bool.false_eq_true, decide_eq_true_eq, Bool.not_true, Bool.not_false, Bool.xor_false, Bool.false_xor, Bool.true_xor, Bool.not_eq_true', decide_eq_false_iff_not, reduceIte]
  refine den_of rfl ?_
  unfold b_is_program badD
  simp only [ev_ix0, ev_ix1, ev_ix2, ws_seq, ws_next, ws_expr, ws_ret, ws_retN, ws_break, ws_set, ws_asg, ws_if, ws_raise, ws_par, ws_eff, ws_for, ev_varE, ev_cE, ev_binE, ev_unE, ev_nilA, ev_consA, ev_starA, ev_tupE, ev_newL, ev_lstE, ev_ifE, ev_asB, ev_valT, ev_andT, ev_orT, ev_notT, ev_andE, ev_intD, ev_addI, ev_addT, ev_mulI, ev_mulT, ev_negI, ev_isN, ev_isB, ev_eqI, ev_callE, ev_lenT, ev_intC, ev_listT, ev_two, ev_chainE, ev_lastC, ev_lastT, ev_linkC, ev_linkT, ev_truT, ev_mtE, ev_yesT, ev_all, ev_seqI, ev_rng1, ev_rng2, ev_zip, ev_enum, ev_lcE, ev_lc2E, lc_item, lc_item2, List.map_cons, List.map_nil, List.cons_append, List.nil_append, List.append_nil, List.replicate_succ, List.replicate_zero, Nat.reduceSub, Nat.reduceAdd, List.getElem?_cons_zero, List.getElem?_cons_succ, List.getElem?_nil, List.set_cons_zero, List.set_cons_succ, asg_nm, asg_tp, asgs_nil, asgs_cons, Option.bind_some, List.length_cons, List.length_nil, wipeD, true_and, and_true, if_true, if_false, Bool.false_eq_true, decide_eq_true_eq, Bool.not_true, Bool.not_false, Bool.xor_false, Bool.false_xor, Bool.true_xor, Bool.not_eq_true', decide_eq_false_iff_not, reduceIte]
  rw [if_neg (by decide), if_neg (by decide)]
  exact h _ (gid.trans (Fr.refl _ _)).gcx
theorem x_first_apart0 {one two : List Int} (h : ∀ μ', Fr no μ μ' → X 6 μ') : Ev X Q (d_first_apart [badD, iD one, iD two] μ) := by
  refine den_of rfl ?_
  unfold b_first_apart
  simp only [ev_ix0, ev_ix1, ev_ix2, ws_seq, ws_next, ws_expr, ws_ret, ws_retN, ws_break, ws_set, ws_asg, ws_if, ws_raise, ws_par, ws_eff, ws_for, ev_varE, ev_cE, ev_binE, ev_unE, ev_nilA, ev_consA, ev_starA, ev_tupE, ev_newL, ev_lstE, ev_ifE, ev_asB, ev_valT, ev_andT, ev_orT, ev_notT, ev_andE, ev_intD, ev_addI, ev_addT, ev_mulI, ev_mulT, ev_negI, ev_isN, ev_isB, ev_eqI, ev_callE, ev_lenT, ev_intC, ev_listT, ev_two, ev_chainE, ev_lastC, ev_lastT, ev_linkC, ev_linkT, ev_truT, ev_mtE, ev_yesT, ev_all, ev_seqI, ev_rng1, ev_rng2, ev_zip, ev_enum, ev_lcE, ev_lc2E, lc_item, lc_item2, List.map_cons, List.map_nil, List.cons_append, List.nil_append, List.append_nil, List.replicate_succ, List.replicate_zero, Nat.reduceSub, Nat.reduceAdd, List.getElem?_cons_zero, List.getElem?_cons_succ, List.getElem?_nil, List.set_cons_zero, List.set_cons_succ, asg_nm, asg_tp, asgs_nil, asgs_cons, Option.bind_some, List.length_cons, List.length_nil, wipeD, true_and, and_true, if_true, if_false, Bool.false_eq_true, decide_eq_true_eq, Bool.not_true, Bool.not_false, Bool.xor_false, Bool.false_xor, Bool.true_xor, Bool.not_eq_true', decide_eq_false_iff_not, reduceIte]
  exact x_check_program fun μ1 f1 => h _ f1.gcx
end
end K69
end TPL8

section TPL9
set_option maxRecDepth 100000
set_option maxHeartbeats 4000000
namespace K69
open PySem L2 PySem.Spec PyProof.Rows DL
section
variable {X : Nat → Mu → Prop} {Q : D → Mu → Prop} {μ : Mu} {ρ : Sl} {E : En}
theorem flat_le {α β : Type} {f : α → List β} {c : Nat} : ∀ (l : List α), (∀ x ∈ l, (f x).length ≤ c) → (l.flatMap f).length ≤ l.length * c
  | [], _ => by simp
  | x :: l, h => by
    rw [List.flatMap_cons, List.length_append, List.length_cons, Nat.succ_mul]
    have h1 := h x (List.mem_cons_self ..)
    have h2 := flat_le l fun y hy => h y (List.mem_cons_of_mem _ hy)
    omega
def prF (n : Int) (x : Int) : List (Int × Int) := (rng (x + 1) (n - (x + 1)).toNat).map fun j => (x, j)
def prs (n : Int) : List (Int × Int) := (rng 0 n.toNat).flatMap (prF n)
theorem prs_mem {n : Int} {e : Int × Int} (h : e ∈ prs n) : 0 ≤ e.1 ∧ e.1 < e.2 ∧ e.2 < n := by
  obtain ⟨x, hx, h⟩ := List.mem_flatMap.mp h
  obtain ⟨j, hj, rfl⟩ := List.mem_map.mp h
  obtain ⟨a, ha⟩ := List.getElem?_of_mem hx
  obtain ⟨b, hb⟩ := List.getElem?_of_mem hj
  obtain ⟨l1, rfl⟩ := rng_get ha
  obtain ⟨l2, rfl⟩ := rng_get hb
  refine ⟨?_, ?_, ?_⟩ <;> (dsimp only; omega)
theorem w_kind_pairs {p : Pg} (hp : PgOk p) (h : ∀ r μ', Fr no μ μ' → μ'[r]? = some (.lst ((prs p.ks.length).map oD)) → Q (.mr r) μ') {d0 : D} (hd0 : d0 = pD p) : Ev X Q (d_kind_pairs [d0] μ) := by
  have nk := hp.nk2
  have zz := size_eq
  refine den_of rfl ?_
  unfold pD at hd0
  subst hd0
  unfold b_kind_pairs
  simp only [ev_ix0, ev_ix1, ev_ix2, ws_seq, ws_next, ws_expr, ws_ret, ws_retN, ws_break, ws_set, ws_asg, ws_if, ws_raise, ws_par, ws_eff, ws_for, ev_varE, ev_cE, ev_binE, ev_unE, ev_nilA, ev_consA, ev_starA, ev_tupE, ev_newL, ev_lstE, ev_ifE, ev_asB, ev_valT, ev_andT, ev_orT, ev_notT, ev_andE, ev_intD, ev_addI, ev_addT, ev_mulI, ev_mulT, ev_negI, ev_isN, ev_isB, ev_eqI, ev_callE, ev_lenT, ev_intC, ev_listT, ev_two, ev_chainE, ev_lastC, ev_lastT, ev_linkC, ev_linkT, ev_truT, ev_mtE, ev_yesT, ev_all, ev_seqI, ev_rng1, ev_rng2, ev_zip, ev_enum, ev_lcE, ev_lc2E, lc_item, lc_item2, List.map_cons, List.map_nil, List.cons_append, List.nil_append, List.append_nil, List.replicate_succ, List.replicate_zero, Nat.reduceSub, Nat.reduceAdd, List.getElem?_cons_zero, List.getElem?_cons_succ, List.getElem?_nil, List.set_cons_zero, List.set_cons_succ, asg_nm, asg_tp, asgs_nil, asgs_cons, Option.bind_some, List.length_cons, List.length_nil, wipeD, true_and, and_true, if_true, if_false, Bool.false_eq_true, decide_eq_true_eq, Bool.not_true, Bool.not_false, Bool.xor_false, Bool.false_xor, Bool.true_xor, Bool.not_eq_true', decide_eq_false_iff_not, reduceIte]
  rw [List.length_map]
  refine ⟨⟨by omega, by omega⟩, ?_⟩
  rw [rngD_eq]
  refine lc_fix (fun i μ' => Fr no μ μ' ∧ μ'[μ.length]? = some (.lst ((((rng 0 (p.ks.length : Int).toNat).take i).flatMap (prF p.ks.length)).map oD)) ∧ i ≤ 6) ⟨(Fr.refl _ _).new _, get_new, Nat.zero_le _⟩ (fun i d μ' hd ⟨f, a, il⟩ => ?_) (fun μ' ⟨f, a, il⟩ => ?_)
  · rw [List.getElem?_map] at hd
    obtain ⟨x, hx, rfl⟩ := Option.map_eq_some_iff.mp hd
    obtain ⟨xl, xe⟩ := rng_get hx
    refine ⟨_, rfl, ?_⟩
    simp only [ev_ix0, ev_ix1, ev_ix2, ws_seq, ws_next, ws_expr, ws_ret, ws_retN, ws_break, ws_set, ws_asg, ws_if, ws_raise, ws_par, ws_eff, ws_for, ev_varE, ev_cE, ev_binE, ev_unE, ev_nilA, ev_consA, ev_starA, ev_tupE, ev_newL, ev_lstE, ev_ifE, ev_asB, ev_valT, ev_andT, ev_orT, ev_notT, ev_andE, ev_intD, ev_addI, ev_addT, ev_mulI, ev_mulT, ev_negI, ev_isN, ev_isB, ev_eqI, ev_callE, ev_lenT, ev_intC, ev_listT, ev_two, ev_chainE, ev_lastC, ev_lastT, ev_linkC, ev_linkT, ev_truT, ev_mtE, ev_yesT, ev_all, ev_seqI, ev_rng1, ev_rng2, ev_zip, ev_enum, ev_lcE, ev_lc2E, lc_item, lc_item2, List.map_cons, List.map_nil, List.cons_append, List.nil_append, List.append_nil, List.replicate_succ, List.replicate_zero, Nat.reduceSub, Nat.reduceAdd, List.getElem?_cons_zero, List.getElem?_cons_succ, List.getElem?_nil, List.set_cons_zero, List.set_cons_succ, asg_nm, asg_tp, asgs_nil, asgs_cons, Option.bind_some, List.length_cons, List.length_nil, wipeD, true_and, and_true, if_true, if_false, Bool.false_eq_true, decide_eq_true_eq, Bool.not_true, Bool.not_false, Bool.xor_false, Bool.false_xor, Bool.true_xor, Bool.not_eq_true', decide_eq_false_iff_not, reduceIte]
    refine ⟨⟨by omega, by omega, by omega, by omega⟩, ?_⟩
    rw [rngD_eq]
    refine lc_fix (fun m μ2 => Fr no μ μ2 ∧ μ2[μ.length]? = some (.lst ((((rng 0 (p.ks.length : Int).toNat).take i).flatMap (prF p.ks.length) ++ ((rng (x + 1) ((p.ks.length : Int) - (x + 1)).toNat).take m).map fun j => (x, j)).map oD)) ∧ m ≤ 6) ⟨f, by rw [List.take_zero, List.map_nil, List.append_nil]; exact a, Nat.zero_le _⟩ (fun m d μ2 hd ⟨f2, a2, ml⟩ => ?_) (fun μ2 ⟨f2, a2, ml⟩ => ?_)
    · rw [List.getElem?_map] at hd
      obtain ⟨y, hy, rfl⟩ := Option.map_eq_some_iff.mp hd
      have yl := (rng_get hy).1
      refine ⟨_, rfl, ?_⟩
      simp only [ev_ix0, ev_ix1, ev_ix2, ws_seq, ws_next, ws_expr, ws_ret, ws_retN, ws_break, ws_set, ws_asg, ws_if, ws_raise, ws_par, ws_eff, ws_for, ev_varE, ev_cE, ev_binE, ev_unE, ev_nilA, ev_consA, ev_starA, ev_tupE, ev_newL, ev_lstE, ev_ifE, ev_asB, ev_valT, ev_andT, ev_orT, ev_notT, ev_andE, ev_intD, ev_addI, ev_addT, ev_mulI, ev_mulT, ev_negI, ev_isN, ev_isB, ev_eqI, ev_callE, ev_lenT, ev_intC, ev_listT, ev_two, ev_chainE, ev_lastC, ev_lastT, ev_linkC, ev_linkT, ev_truT, ev_mtE, ev_yesT, ev_all, ev_seqI, ev_rng1, ev_rng2, ev_zip, ev_enum, ev_lcE, ev_lc2E, lc_item, lc_item2, List.map_cons, List.map_nil, List.cons_append, List.nil_append, List.append_nil, List.replicate_succ, List.replicate_zero, Nat.reduceSub, Nat.reduceAdd, List.getElem?_cons_zero, List.getElem?_cons_succ, List.getElem?_nil, List.set_cons_zero, List.set_cons_succ, asg_nm, asg_tp, asgs_nil, asgs_cons, Option.bind_some, List.length_cons, List.length_nil, wipeD, true_and, and_true, if_true, if_false, Bool.false_eq_true, decide_eq_true_eq, Bool.not_true, Bool.not_false, Bool.xor_false, Bool.false_xor, Bool.true_xor, Bool.not_eq_true', decide_eq_false_iff_not, reduceIte]
      refine ⟨by omega, ?_⟩
      rw [lc_add a2]
      refine ⟨?_, f2.set _ (fun z => by omega), ?_, by omega⟩
      · rw [List.length_map, List.length_append, List.length_map, List.length_take]
        have h1 := flat_le (f := prF p.ks.length) (c := 6) ((rng 0 (p.ks.length : Int).toNat).take i) fun z hz => by
          unfold prF
          rw [List.length_map, rng_len]
          obtain ⟨b, hb⟩ := List.getElem?_of_mem (List.mem_of_mem_take hz)
          have := (rng_get hb).2
          omega
        rw [List.length_take] at h1
        omega
      · rw [get_set a2, List.take_add_one, hy, Option.toList_some]; simp [oD, List.append_assoc]
    · refine ⟨f2, ?_, by omega⟩
      have et : (rng (x + 1) ((p.ks.length : Int) - (x + 1)).toNat).take ((p.ks.length : Int) - (x + 1)).toNat = rng (x + 1) ((p.ks.length : Int) - (x + 1)).toNat := List.take_of_length_le (by rw [rng_len]; exact Nat.le_refl _)
      rw [List.length_map, rng_len, et] at a2
      rw [a2, take_flat hx]
      rfl
  · rw [List.length_map, List.take_length] at a
    exact h _ _ f.gc (gcM_own a)
def cmP (p : Pg) (e : Int × Int) : Bool := (apart p [e.1, e.2] [e.2, e.1]).isNone
def comm (p : Pg) : List (Int × Int) := (prs p.ks.length).filter (cmP p)
theorem filt_next {α : Type} {P : α → Bool} {ls : List α} {i : Nat} {a : α} (ha : ls[i]? = some a) : (ls.take (i + 1)).filter P = (ls.take i).filter P ++ if P a = true then [a] else [] := by
  rw [List.take_add_one, ha, Option.toList_some, List.filter_append, List.filter_cons]
  rfl
theorem pair_row {p : Pg} {e : Int × Int} (h : 0 ≤ e.1 ∧ e.1 < e.2 ∧ e.2 < p.ks.length) : rowB p [e.1, e.2] = true ∧ rowB p [e.2, e.1] = true := by
  constructor <;> (refine rowB_iff.mpr fun i hi => ?_) <;> (have hi' : i = e.1 ∨ i = e.2 := by simp at hi; omega) <;> (rcases hi' with rfl | rfl <;> omega)
theorem prs_len {p : Pg} (hp : PgOk p) : (prs p.ks.length).length ≤ 36 := by
  have nk := hp.nk2
  have h1 := flat_le (f := prF p.ks.length) (c := 6) (rng 0 (p.ks.length : Int).toNat) fun z hz => by
    unfold prF
    rw [List.length_map, rng_len]
    obtain ⟨b, hb⟩ := List.getElem?_of_mem hz
    have := (rng_get hb).2
    omega
  rw [rng_len] at h1
  unfold prs
  omega
theorem w_check_program' {p : Pg} {d0 : D} (hd0 : d0 = pD p) (ho : PgOk p) (h : ∀ μ', Fr no μ μ' → Q .non μ') : Ev X Q (d_check_program [d0] μ) := by
  rw [hd0]
  exact w_check_program ho h
theorem w_commuting {p : Pg} (hp : PgOk p) (h : ∀ r μ', Fr no μ μ' → μ'[r]? = some (.lst ((comm p).map oD)) → Q (.mr r) μ') {d0 : D} (hd0 : d0 = pD p) : Ev X Q (d_commuting [d0] μ) := by
  refine den_of rfl ?_
  unfold b_commuting
  have zz := size_eq
  have pl := prs_len hp
  simp only [ev_ix0, ev_ix1, ev_ix2, ws_seq, ws_next, ws_expr, ws_ret, ws_retN, ws_break, ws_set, ws_asg, ws_if, ws_raise, ws_par, ws_eff, ws_for, ev_varE, ev_cE, ev_binE, ev_unE, ev_nilA, ev_consA, ev_starA, ev_tupE, ev_newL, ev_lstE, ev_ifE, ev_asB, ev_valT, ev_andT, ev_orT, ev_notT, ev_andE, ev_intD, ev_addI, ev_addT, ev_mulI, ev_mulT, ev_negI, ev_isN, ev_isB, ev_eqI, ev_callE, ev_lenT, ev_intC, ev_listT, ev_two, ev_chainE, ev_lastC, ev_lastT, ev_linkC, ev_linkT, ev_truT, ev_mtE, ev_yesT, ev_all, ev_seqI, ev_rng1, ev_rng2, ev_zip, ev_enum, ev_lcE, ev_lc2E, lc_item, lc_item2, List.map_cons, List.map_nil, List.cons_append, List.nil_append, List.append_nil, List.replicate_succ, List.replicate_zero, Nat.reduceSub, Nat.reduceAdd, List.getElem?_cons_zero, List.getElem?_cons_succ, List.getElem?_nil, List.set_cons_zero, List.set_cons_succ, asg_nm, asg_tp, asgs_nil, asgs_cons, Option.bind_some, List.length_cons, List.length_nil, wipeD, true_and, and_true, if_true, if_false, Bool.false_eq_true, decide_eq_true_eq, Bool.not_true, Bool.not_false, Bool.xor_false, Bool.false_xor, Bool.true_xor, Bool.not_eq_true', decide_eq_false_iff_not, reduceIte]
  refine w_check_program' hd0 hp fun μa fa => w_kind_pairs hp (fun r μ1 f1 g1 => ?_) hd0
  subst hd0
  simp only [g1]
  refine lc_cell (fun i μ' => Fr no μ1 μ' ∧ μ'[μ1.length]? = some (.lst ((((prs p.ks.length).take i).filter (cmP p)).map oD)) ∧ i ≤ 36) ⟨(Fr.refl _ _).new _, get_new, Nat.zero_le _⟩ (fun i μ' h => h.1.get g1) (fun i d μ' hd ⟨f, a, il⟩ => ?_) (fun μ' ⟨f, a, il⟩ => ?_)
  · rw [List.getElem?_map] at hd
    obtain ⟨e, he, rfl⟩ := Option.map_eq_some_iff.mp hd
    have il2 := (List.getElem?_eq_some_iff.mp he).1
    obtain ⟨r1, r2⟩ := pair_row (p := p) (prs_mem (List.mem_of_getElem? he))
    refine ⟨_, rfl, ?_⟩
    simp only [ev_ix0, ev_ix1, ev_ix2, ws_seq, ws_next, ws_expr, ws_ret, ws_retN, ws_break, ws_set, ws_asg, ws_if, ws_raise, ws_par, ws_eff, ws_for, ev_varE, ev_cE, ev_binE, ev_unE, ev_nilA, ev_consA, ev_starA, ev_tupE, ev_newL, ev_lstE, ev_ifE, ev_asB, ev_valT, ev_andT, ev_orT, ev_notT, ev_andE, ev_intD, ev_addI, ev_addT, ev_mulI, ev_mulT, ev_negI, ev_isN, ev_isB, ev_eqI, ev_callE, ev_lenT, ev_intC, ev_listT, ev_two, ev_chainE, ev_lastC, ev_lastT, ev_linkC, ev_linkT, ev_truT, ev_mtE, ev_yesT, ev_all, ev_seqI, ev_rng1, ev_rng2, ev_zip, ev_enum, ev_lcE, ev_lc2E, lc_item, lc_item2, List.map_cons, List.map_nil, List.cons_append, List.nil_append, List.append_nil, List.replicate_succ, List.replicate_zero, Nat.reduceSub, Nat.reduceAdd, List.getElem?_cons_zero, List.getElem?_cons_succ, List.getElem?_nil, List.set_cons_zero, List.set_cons_succ, asg_nm, asg_tp, asgs_nil, asgs_cons, Option.bind_some, List.length_cons, List.length_nil, wipeD, true_and, and_true, if_true, if_false, Bool.false_eq_true, decide_eq_true_eq, Bool.not_true, Bool.not_false, Bool.xor_false, Bool.false_xor, Bool.true_xor, Bool.not_eq_true', decide_eq_false_iff_not, reduceIte]
    refine ⟨by decide, by decide, ?_⟩
    refine w_first_apart (one := [e.1, e.2]) (two := [e.2, e.1]) hp (by show (2 : Nat) ≤ 1000; omega) (by show (2 : Nat) ≤ 1000; omega) r1 r2 fun μ2 f2 => ?_
    have a2 := f2.get a
    cases ho : apart p [e.1, e.2] [e.2, e.1] with
    | some lv =>
      have ce : ¬ cmP p e = true := by unfold cmP; rw [ho]; simp
      show Fr no μ1 μ2 ∧ _
      refine ⟨f.trans f2, ?_, by omega⟩
      rw [a2, filt_next he, if_neg ce, List.append_nil]
    | none =>
      have ce : cmP p e = true := by unfold cmP; rw [ho]; rfl
      show 1 + 1 ≤ _ ∧ _
      refine ⟨by omega, ?_⟩
      rw [lc_add a2]
      have fl : (((prs p.ks.length).take i).filter (cmP p)).length ≤ 36 := Nat.le_trans (List.length_filter_le _ _) (by rw [List.length_take]; omega)
      refine ⟨by rw [List.length_map]; omega, (f.trans f2).set _ (fun z => by omega), ?_, by omega⟩
      rw [get_set a2, filt_next he, if_pos ce, List.map_append]
      rfl
  · rw [List.length_map, List.take_length] at a
    exact h _ _ (fa.trans (f1.trans f)).gc (gcM_own a)
end
end K69
end TPL9

section TPLA
set_option maxRecDepth 100000
set_option maxHeartbeats 4000000
namespace K69
open PySem L2 PySem.Spec PyProof.Rows DL
section
variable {X : Nat → Mu → Prop} {Q : D → Mu → Prop} {μ : Mu} {ρ : Sl} {E : En}
theorem ws_tryRet {h : Nat → Option Str} {i : Nat} {f : Sl → M D} : Ws E (tryS h i (retS f) ρ μ) = Ev (fun c μ' => match h c with
    | some s => i < ρ.length ∧ E.rt (.str s) μ'
    | none => False) (fun d μ' => E.rt d μ') (f ρ μ) := by
  unfold tryS retS
  cases f ρ μ with
  | ok d μ' => rfl
  | xc c μ' =>
    show Ws E (match h c with | some s => if i < ρ.length then .rt (.str s) μ' else .stk | none => .stk) = (match h c with | some s => i < ρ.length ∧ E.rt (.str s) μ' | none => False)
    cases h c with
    | none => rfl
    | some s =>
      show Ws E (if i < ρ.length then .rt (.str s) μ' else .stk) = (i < ρ.length ∧ E.rt (.str s) μ')
      by_cases z : i < ρ.length
      · rw [if_pos z]; simp [z]; rfl
      · rw [if_neg z]; simp [z]; exact fun z => z
  | stk => rfl
theorem ev_callV {tab : Nat → Option (List D → M D)} {ff : Sl → M D} {fs : Sl → M (List D)} : Ev X Q (callVE tab ff fs ρ μ) = Ev X (fun d μ1 => match d with
    | .fn j => match tab j with
      | some g => Ev X (fun ds μ2 => Ev X Q (g ds μ2)) (fs ρ μ1)
      | none => False
    | _ => False) (ff ρ μ) := by
  unfold callVE; rw [ev_bind]; congr 1; funext d μ1
  cases d with
  | fn j =>
    simp only []
    cases tab j with
    | none => rfl
    | some g => simp only []; rw [ev_bind]
  | _ => rfl
theorem hK6 : hK 6 = some "!program" := rfl
theorem hK8 : hK 8 = some "!number" := rfl
theorem at_f0 : atI [D.fn 30, D.fn 29] 0 = some (.fn 30) := rfl
theorem at_f1 : atI [D.fn 30, D.fn 29] 1 = some (.fn 29) := rfl
/-- the way in: a def that is asked by its number -/
theorem asked_g {w : Int} {d0 d1 d2 : D} {g : List D → M D} (hw : (w = 0 ∧ g = d_are_same) ∨ (w = 1 ∧ g = d_first_apart))
    (h : ∀ μ1, Fr no μ μ1 → Ev (fun c μ' => Fr no μ1 μ' ∧ ∃ s, hK c = some s ∧ ∀ μ2, Fr no μ μ2 → Q (.str s) μ2) (fun d μ' => Fr no μ1 μ' ∧ ∀ μ2, Fr no μ μ2 → Q d μ2) (g [d0, d1, d2] μ1)) : Ev X Q (d_u_law_asked [.int w, d0, d1, d2] μ) := by
  have f0 : ∀ d, Fr no μ (gcM μ.length d (μ ++ [Cell.lst [D.fn 30, D.fn 29]])) := fun d => ((Fr.refl _ _).new _).gc
  rcases hw with ⟨rfl, rfl⟩ | ⟨rfl, rfl⟩
  · refine den_of rfl ?_
    unfold b_u_law_asked
    simp only [ws_tryRet, ev_gcE, ev_callV, ev_ix0, ev_ix1, ev_ix2, ws_seq, ws_next, ws_expr, ws_ret, ws_retN, ws_break, ws_set, ws_asg, ws_if, ws_raise, ws_par, ws_eff, ws_for, ev_varE, ev_cE, ev_binE, ev_unE, ev_nilA, ev_consA, ev_starA, ev_tupE, ev_newL, ev_lstE, ev_ifE, ev_asB, ev_valT, ev_andT, ev_orT, ev_notT, ev_andE, ev_intD, ev_addI, ev_addT, ev_mulI, ev_mulT, ev_negI, ev_isN, ev_isB, ev_eqI, ev_callE, ev_lenT, ev_intC, ev_listT, ev_two, ev_chainE, ev_lastC, ev_lastT, ev_linkC, ev_linkT, ev_truT, ev_mtE, ev_yesT, ev_all, ev_seqI, ev_rng1, ev_rng2, ev_zip, ev_enum, ev_lcE, ev_lc2E, lc_item, lc_item2, List.map_cons, List.map_nil, List.cons_append, List.nil_append, List.append_nil, List.replicate_succ, List.replicate_zero, Nat.reduceSub, Nat.reduceAdd, List.getElem?_cons_zero, List.getElem?_cons_succ, List.getElem?_nil, List.set_cons_zero, List.set_cons_succ, asg_nm, asg_tp, asgs_nil, asgs_cons, Option.bind_some, List.length_cons, List.length_nil, wipeD, true_and, and_true, if_true, if_false, Bool.false_eq_true, decide_eq_true_eq, Bool.not_true, Bool.not_false, Bool.xor_false, Bool.false_xor, Bool.true_xor, Bool.not_eq_true', decide_eq_false_iff_not, reduceIte]
    rw [if_neg (by decide)]
    refine ⟨by decide, ?_⟩
    rw [ev_ixL get_new at_f0]
    refine (h _ (f0 (.fn 30))).imp (fun d μ' ⟨f, k⟩ => k _ ((f0 _).trans f).gc.gc) fun c μ' ⟨f, s, e, k⟩ => ?_
    show match hK c with | some s => _ | none => False
    rw [e]
    exact ⟨by decide, k _ ((f0 _).trans f).gcx.gc⟩
  · refine den_of rfl ?_
    unfold b_u_law_asked
    simp only [ws_tryRet, ev_gcE, ev_callV, ev_ix0, ev_ix1, ev_ix2, ws_seq, ws_next, ws_expr, ws_ret, ws_retN, ws_break, ws_set, ws_asg, ws_if, ws_raise, ws_par, ws_eff, ws_for, ev_varE, ev_cE, ev_binE, ev_unE, ev_nilA, ev_consA, ev_starA, ev_tupE, ev_newL, ev_lstE, ev_ifE, ev_asB, ev_valT, ev_andT, ev_orT, ev_notT, ev_andE, ev_intD, ev_addI, ev_addT, ev_mulI, ev_mulT, ev_negI, ev_isN, ev_isB, ev_eqI, ev_callE, ev_lenT, ev_intC, ev_listT, ev_two, ev_chainE, ev_lastC, ev_lastT, ev_linkC, ev_linkT, ev_truT, ev_mtE, ev_yesT, ev_all, ev_seqI, ev_rng1, ev_rng2, ev_zip, ev_enum, ev_lcE, ev_lc2E, lc_item, lc_item2, List.map_cons, List.map_nil, List.cons_append, List.nil_append, List.append_nil, List.replicate_succ, List.replicate_zero, Nat.reduceSub, Nat.reduceAdd, List.getElem?_cons_zero, List.getElem?_cons_succ, List.getElem?_nil, List.set_cons_zero, List.set_cons_succ, asg_nm, asg_tp, asgs_nil, asgs_cons, Option.bind_some, List.length_cons, List.length_nil, wipeD, true_and, and_true, if_true, if_false, Bool.false_eq_true, decide_eq_true_eq, Bool.not_true, Bool.not_false, Bool.xor_false, Bool.false_xor, Bool.true_xor, Bool.not_eq_true', decide_eq_false_iff_not, reduceIte]
    rw [if_neg (by decide)]
    refine ⟨by decide, ?_⟩
    rw [ev_ixL get_new at_f1]
    refine (h _ (f0 (.fn 29))).imp (fun d μ' ⟨f, k⟩ => k _ ((f0 _).trans f).gc.gc) fun c μ' ⟨f, s, e, k⟩ => ?_
    show match hK c with | some s => _ | none => False
    rw [e]
    exact ⟨by decide, k _ ((f0 _).trans f).gcx.gc⟩
theorem w_asked0 {p : Pg} (hp : PgOk p) {one two : List Int} (l1 : one.length ≤ 1000) (l2 : two.length ≤ 1000) (h1 : rowB p one = true) (h2 : rowB p two = true) (h : ∀ μ', Fr no μ μ' → Q (.bl (apart p one two).isNone) μ') : Ev X Q (d_u_law_asked [.int 0, pD p, iD one, iD two] μ) :=
  asked_g (.inl ⟨rfl, rfl⟩) fun μ1 f1 => w_are_same hp l1 l2 h1 h2 fun μ2 f2 => ⟨f2, h⟩
theorem w_asked1 {p : Pg} (hp : PgOk p) {one two : List Int} (l1 : one.length ≤ 1000) (l2 : two.length ≤ 1000) (h1 : rowB p one = true) (h2 : rowB p two = true) (h : ∀ μ', Fr no μ μ' → Q (aD (apart p one two)) μ') : Ev X Q (d_u_law_asked [.int 1, pD p, iD one, iD two] μ) :=
  asked_g (.inr ⟨rfl, rfl⟩) fun μ1 f1 => w_first_apart hp l1 l2 h1 h2 fun μ2 f2 => ⟨f2, h⟩
theorem w_asked2 {p : Pg} (hp : PgOk p) {d1 d2 : D} (h : ∀ r μ', Fr no μ μ' → μ'[r]? = some (.lst ((comm p).map oD)) → Q (.mr r) μ') {d0 : D} (hd0 : d0 = pD p) : Ev X Q (d_u_law_asked [.int 2, d0, d1, d2] μ) := by
  refine den_of rfl ?_
  unfold b_u_law_asked
  simp only [ws_tryRet, ev_gcE, ev_callV, ev_ix0, ev_ix1, ev_ix2, ws_seq, ws_next, ws_expr, ws_ret, ws_retN, ws_break, ws_set, ws_asg, ws_if, ws_raise, ws_par, ws_eff, ws_for, ev_varE, ev_cE, ev_binE, ev_unE, ev_nilA, ev_consA, ev_starA, ev_tupE, ev_newL, ev_lstE, ev_ifE, ev_asB, ev_valT, ev_andT, ev_orT, ev_notT, ev_andE, ev_intD, ev_addI, ev_addT, ev_mulI, ev_mulT, ev_negI, ev_isN, ev_isB, ev_eqI, ev_callE, ev_lenT, ev_intC, ev_listT, ev_two, ev_chainE, ev_lastC, ev_lastT, ev_linkC, ev_linkT, ev_truT, ev_mtE, ev_yesT, ev_all, ev_seqI, ev_rng1, ev_rng2, ev_zip, ev_enum, ev_lcE, ev_lc2E, lc_item, lc_item2, List.map_cons, List.map_nil, List.cons_append, List.nil_append, List.append_nil, List.replicate_succ, List.replicate_zero, Nat.reduceSub, Nat.reduceAdd, List.getElem?_cons_zero, List.getElem?_cons_succ, List.getElem?_nil, List.set_cons_zero, List.set_cons_succ, asg_nm, asg_tp, asgs_nil, asgs_cons, Option.bind_some, List.length_cons, List.length_nil, wipeD, true_and, and_true, if_true, if_false, Bool.false_eq_true, decide_eq_true_eq, Bool.not_true, Bool.not_false, Bool.xor_false, Bool.false_xor, Bool.true_xor, Bool.not_eq_true', decide_eq_false_iff_not, reduceIte]

  refine w_commuting hp (fun r μ1 f1 g1 => ?_) hd0
  exact h r _ f1.gc (gcM_own g1)
theorem x_same_of {d0 d1 d2 : D} {c : Nat} (hf : Ev (fun c' μ' => c' = c ∧ Fr no μ μ') (fun _ _ => False) (d_first_apart [d0, d1, d2] μ)) (h : ∀ μ', Fr no μ μ' → X c μ') : Ev X Q (d_are_same [d0, d1, d2] μ) := by
  refine den_of rfl ?_
  unfold b_are_same
  simp only [ev_ix0, ev_ix1, ev_ix2, ws_seq, ws_next, ws_expr, ws_ret, ws_retN, ws_break, ws_set, ws_asg, ws_if, ws_raise, ws_par, ws_eff, ws_for, ev_varE, ev_cE, ev_binE, ev_unE, ev_nilA, ev_consA, ev_starA, ev_tupE, ev_newL, ev_lstE, ev_ifE, ev_asB, ev_valT, ev_andT, ev_orT, ev_notT, ev_andE, ev_intD, ev_addI, ev_addT, ev_mulI, ev_mulT, ev_negI, ev_isN, ev_isB, ev_eqI, ev_callE, ev_lenT, ev_intC, ev_listT, ev_two, ev_chainE, ev_lastC, ev_lastT, ev_linkC, ev_linkT, ev_truT, ev_mtE, ev_yesT, ev_all, ev_seqI, ev_rng1, ev_rng2, ev_zip, ev_enum, ev_lcE, ev_lc2E, lc_item, lc_item2, List.map_cons, List.map_nil, List.cons_append, List.nil_append, List.append_nil, List.replicate_succ, List.replicate_zero, Nat.reduceSub, Nat.reduceAdd, List.getElem?_cons_zero, List.getElem?_cons_succ, List.getElem?_nil, List.set_cons_zero, List.set_cons_succ, asg_nm, asg_tp, asgs_nil, asgs_cons, Option.bind_some, List.length_cons, List.length_nil, wipeD, true_and, and_true, if_true, if_false, Bool.false_eq_true, decide_eq_true_eq, Bool.not_true, Bool.not_false, Bool.xor_false, Bool.false_xor, Bool.true_xor, Bool.not_eq_true', decide_eq_false_iff_not, reduceIte]
  exact hf.imp (fun _ _ z => z.elim) fun c' μ' ⟨e, f⟩ => by rw [e]; exact h _ f.gcx
theorem x_asked {w : Int} (hw : w = 0 ∨ w = 1) {d0 d1 d2 : D} {c : Nat} {s : Str} (hs : hK c = some s) (hf : ∀ μ1, Ev (fun c' μ' => c' = c ∧ Fr no μ1 μ') (fun _ _ => False) (d_first_apart [d0, d1, d2] μ1)) (h : ∀ μ', Fr no μ μ' → Q (.str s) μ') : Ev X Q (d_u_law_asked [.int w, d0, d1, d2] μ) := by
  rcases hw with rfl | rfl
  · exact asked_g (.inl ⟨rfl, rfl⟩) fun μ1 f1 => x_same_of (hf μ1) fun μ' f => ⟨f, s, hs, h⟩
  · exact asked_g (.inr ⟨rfl, rfl⟩) fun μ1 f1 => (hf μ1).imp (fun _ _ z => z.elim) fun c' μ' ⟨e, f⟩ => ⟨f, s, by rw [e]; exact hs, h⟩
theorem x_asked2 {d1 d2 : D} (h : ∀ μ', Fr no μ μ' → Q (.str "!program") μ') : Ev X Q (d_u_law_asked [.int 2, badD, d1, d2] μ) := by
  refine den_of rfl ?_
  unfold b_u_law_asked
  simp only [ws_tryRet, ev_gcE, ev_callV, ev_ix0, ev_ix1, ev_ix2, ws_seq, ws_next, ws_expr, ws_ret, ws_retN, ws_break, ws_set, ws_asg, ws_if, ws_raise, ws_par, ws_eff, ws_for, ev_varE, ev_cE, ev_binE, ev_unE, ev_nilA, ev_consA, ev_starA, ev_tupE, ev_newL, ev_lstE, ev_ifE, ev_asB, ev_valT, ev_andT, ev_orT, ev_notT, ev_andE, ev_intD, ev_addI, ev_addT, ev_mulI, ev_mulT, ev_negI, ev_isN, ev_isB, ev_eqI, ev_callE, ev_lenT, ev_intC, ev_listT, ev_two, ev_chainE, ev_lastC, ev_lastT, ev_linkC, ev_linkT, ev_truT, ev_mtE, ev_yesT, ev_all, ev_seqI, ev_rng1, ev_rng2, ev_zip, ev_enum, ev_lcE, ev_lc2E, lc_item, lc_item2, List.map_cons, List.map_nil, List.cons_append, List.nil_append, List.append_nil, List.replicate_succ, List.replicate_zero, Nat.reduceSub, Nat.reduceAdd, List.getElem?_cons_zero, List.getElem?_cons_succ, List.getElem?_nil, List.set_cons_zero, List.set_cons_succ, asg_nm, asg_tp, asgs_nil, asgs_cons, Option.bind_some, List.length_cons, List.length_nil, wipeD, true_and, and_true, if_true, if_false, Bool.false_eq_true, decide_eq_true_eq, Bool.not_true, Bool.not_false, Bool.xor_false, Bool.false_xor, Bool.true_xor, Bool.not_eq_true', decide_eq_false_iff_not, reduceIte]

  refine den_of rfl ?_
  unfold b_commuting
  simp only [ev_ix0, ev_ix1, ev_ix2, ws_seq, ws_next, ws_expr, ws_ret, ws_retN, ws_break, ws_set, ws_asg, ws_if, ws_raise, ws_par, ws_eff, ws_for, ev_varE, ev_cE, ev_binE, ev_unE, ev_nilA, ev_consA, ev_starA, ev_tupE, ev_newL, ev_lstE, ev_ifE, ev_asB, ev_valT, ev_andT, ev_orT, ev_notT, ev_andE, ev_intD, ev_addI, ev_addT, ev_mulI, ev_mulT, ev_negI, ev_isN, ev_isB, ev_eqI, ev_callE, ev_lenT, ev_intC, ev_listT, ev_two, ev_chainE, ev_lastC, ev_lastT, ev_linkC, ev_linkT, ev_truT, ev_mtE, ev_yesT, ev_all, ev_seqI, ev_rng1, ev_rng2, ev_zip, ev_enum, ev_lcE, ev_lc2E, lc_item, lc_item2, List.map_cons, List.map_nil, List.cons_append, List.nil_append, List.append_nil, List.replicate_succ, List.replicate_zero, Nat.reduceSub, Nat.reduceAdd, List.getElem?_cons_zero, List.getElem?_cons_succ, List.getElem?_nil, List.set_cons_zero, List.set_cons_succ, asg_nm, asg_tp, asgs_nil, asgs_cons, Option.bind_some, List.length_cons, List.length_nil, wipeD, true_and, and_true, if_true, if_false, Bool.false_eq_true, decide_eq_true_eq, Bool.not_true, Bool.not_false, Bool.xor_false, Bool.false_xor, Bool.true_xor, Bool.not_eq_true', decide_eq_false_iff_not, reduceIte]
  exact x_check_program fun μ1 f1 => ⟨by decide, h _ f1.gcx.gc⟩
end
end K69
end TPLA

section TPLB
set_option maxRecDepth 100000
set_option maxHeartbeats 4000000
namespace K69
open PySem L2 PySem.Spec PyProof.Rows DL
section
variable {X : Nat → Mu → Prop} {Q : D → Mu → Prop} {μ : Mu} {ρ : Sl} {E : En}
/-! ### what is left to be drawn -/
def Lo (ns : List Int) : Prop := ∀ n ∈ ns, 0 ≤ n ∧ n < 1000
def Dr (b : Nat) (μ : Mu) (k : Nat) : Prop := ∃ ns : List Int, μ[k]? = some (.lst (ns.map .int)) ∧ Lo ns ∧ ns.length ≤ b
variable {b : Nat}
theorem Dr.lt {k : Nat} (h : Dr b μ k) : k < μ.length := let ⟨_, h, _⟩ := h; lt_of_get h
theorem Dr.gc {μ' : Mu} {d : D} {k : Nat} (h : Dr b μ' k) (l : k < μ.length) : Dr b (gcM μ.length d μ') k := let ⟨ns, h, g⟩ := h; ⟨ns, gcM_get h l, g⟩
theorem Dr.more {μ' : Mu} {k : Nat} (h : Dr b μ k) (f : Fr no μ μ') : Dr b μ' k := let ⟨ns, h, g⟩ := h; ⟨ns, f.get h, g⟩
theorem Dr.new {k : Nat} (h : Dr b μ k) (c : Cell) : Dr b (μ ++ [c]) k := let ⟨ns, h, g⟩ := h; ⟨ns, get_old h, g⟩
theorem Dr.set {k j : Nat} (h : Dr b μ k) (c : Cell) (n : j ≠ k) : Dr b (μ.set j c) k := let ⟨ns, h, g⟩ := h; ⟨ns, get_set_ne h n, g⟩
theorem w_next {k : Nat} (hd : Dr b μ k) (h : ∀ v μ', Fr (at1 k) μ μ' → Dr b μ' k → 0 ≤ v → v < 1000 → Q (.int v) μ') : Ev X Q (d_u_law_next [.mr k] μ) := by
  obtain ⟨ns, g, lo, lb⟩ := hd
  have kl := lt_of_get g
  refine den_of rfl ?_
  unfold b_u_law_next
  simp only [ev_truL g, ev_recvL g, ev_ix0, ev_ix1, ev_ix2, ws_seq, ws_next, ws_expr, ws_ret, ws_retN, ws_break, ws_set, ws_asg, ws_if, ws_raise, ws_par, ws_eff, ws_for, ev_varE, ev_cE, ev_binE, ev_unE, ev_nilA, ev_consA, ev_starA, ev_tupE, ev_newL, ev_lstE, ev_ifE, ev_asB, ev_valT, ev_andT, ev_orT, ev_notT, ev_andE, ev_intD, ev_addI, ev_addT, ev_mulI, ev_mulT, ev_negI, ev_isN, ev_isB, ev_eqI, ev_callE, ev_lenT, ev_intC, ev_listT, ev_two, ev_chainE, ev_lastC, ev_lastT, ev_linkC, ev_linkT, ev_truT, ev_mtE, ev_yesT, ev_all, ev_seqI, ev_rng1, ev_rng2, ev_zip, ev_enum, ev_lcE, ev_lc2E, lc_item, lc_item2, List.map_cons, List.map_nil, List.cons_append, List.nil_append, List.append_nil, List.replicate_succ, List.replicate_zero, Nat.reduceSub, Nat.reduceAdd, List.getElem?_cons_zero, List.getElem?_cons_succ, List.getElem?_nil, List.set_cons_zero, List.set_cons_succ, asg_nm, asg_tp, asgs_nil, asgs_cons, Option.bind_some, List.length_cons, List.length_nil, wipeD, true_and, and_true, if_true, if_false, Bool.false_eq_true, decide_eq_true_eq, Bool.not_true, Bool.not_false, Bool.xor_false, Bool.false_xor, Bool.true_xor, Bool.not_eq_true', decide_eq_false_iff_not, reduceIte]
  rcases List.eq_nil_or_concat ns with e | ⟨init, x, e⟩
  · subst e
    rw [if_neg (by simp)]
    exact h _ _ gid (Dr.gc ⟨[], g, lo, lb⟩ kl) (by omega) (by omega)
  · subst e
    rw [if_pos (by simp)]
    rw [List.concat_eq_append, List.map_append] at g
    rw [ev_pop g]
    have hx := lo x (by simp)
    exact h _ _ (Fr.set (S := at1 k) (Fr.refl _ _) _ fun _ => rfl).gc (Dr.gc ⟨init, get_set g, fun n hn => lo n (by simp [hn]), by simp at lb; omega⟩ kl) hx.1 hx.2
theorem w_number {c : Int} (h : ∀ v μ', Fr no μ μ' → 0 ≤ v → Q (.int v) μ') : Ev X Q (d_u_law_number [.int c] μ) := by
  refine den_of rfl ?_
  unfold b_u_law_number
  simp only [ev_ix0, ev_ix1, ev_ix2, ws_seq, ws_next, ws_expr, ws_ret, ws_retN, ws_break, ws_set, ws_asg, ws_if, ws_raise, ws_par, ws_eff, ws_for, ev_varE, ev_cE, ev_binE, ev_unE, ev_nilA, ev_consA, ev_starA, ev_tupE, ev_newL, ev_lstE, ev_ifE, ev_asB, ev_valT, ev_andT, ev_orT, ev_notT, ev_andE, ev_intD, ev_addI, ev_addT, ev_mulI, ev_mulT, ev_negI, ev_isN, ev_isB, ev_eqI, ev_callE, ev_lenT, ev_intC, ev_listT, ev_two, ev_chainE, ev_lastC, ev_lastT, ev_linkC, ev_linkT, ev_truT, ev_mtE, ev_yesT, ev_all, ev_seqI, ev_rng1, ev_rng2, ev_zip, ev_enum, ev_lcE, ev_lc2E, lc_item, lc_item2, List.map_cons, List.map_nil, List.cons_append, List.nil_append, List.append_nil, List.replicate_succ, List.replicate_zero, Nat.reduceSub, Nat.reduceAdd, List.getElem?_cons_zero, List.getElem?_cons_succ, List.getElem?_nil, List.set_cons_zero, List.set_cons_succ, asg_nm, asg_tp, asgs_nil, asgs_cons, Option.bind_some, List.length_cons, List.length_nil, wipeD, true_and, and_true, if_true, if_false, Bool.false_eq_true, decide_eq_true_eq, Bool.not_true, Bool.not_false, Bool.xor_false, Bool.false_xor, Bool.true_xor, Bool.not_eq_true', decide_eq_false_iff_not, reduceIte]
  by_cases z : c < 0
  · rw [if_pos z]; exact h _ _ gid (by omega)
  · rw [if_neg z]; exact h _ _ gid (by omega)
theorem mod_lo {i j : Int} (h : 0 < j) : 0 ≤ i % j ∧ i % j < j := ⟨Int.emod_nonneg i (by omega), Int.emod_lt_of_pos i h⟩
theorem lo_snoc {ns : List Int} {x : Int} (h : Lo ns) (h0 : 0 ≤ x) (h1 : x < 1000) : Lo (ns ++ [x]) := fun n hn => by
  rcases List.mem_append.mp hn with z | z
  · exact h n z
  · have : n = x := by simpa using z
    rw [this]; exact ⟨h0, h1⟩
theorem map_snoc {ns : List Int} {x : Int} : ns.map D.int ++ [.int x] = (ns ++ [x]).map .int := by rw [List.map_append]; rfl
theorem w_draws {sc : List Int} (hl : sc.length ≤ 63) (h : ∀ r μ', Fr no μ μ' → Dr 3780 μ' r → Q (.mr r) μ') : Ev X Q (d_u_law_draws [.li (sc.map .int)] μ) := by
  refine den_of rfl ?_
  unfold b_u_law_draws
  have zz := size_eq
  simp only [ev_ix0, ev_ix1, ev_ix2, ws_seq, ws_next, ws_expr, ws_ret, ws_retN, ws_break, ws_set, ws_asg, ws_if, ws_raise, ws_par, ws_eff, ws_for, ev_varE, ev_cE, ev_binE, ev_unE, ev_nilA, ev_consA, ev_starA, ev_tupE, ev_newL, ev_lstE, ev_ifE, ev_asB, ev_valT, ev_andT, ev_orT, ev_notT, ev_andE, ev_intD, ev_addI, ev_addT, ev_mulI, ev_mulT, ev_negI, ev_isN, ev_isB, ev_eqI, ev_callE, ev_lenT, ev_intC, ev_listT, ev_two, ev_chainE, ev_lastC, ev_lastT, ev_linkC, ev_linkT, ev_truT, ev_mtE, ev_yesT, ev_all, ev_seqI, ev_rng1, ev_rng2, ev_zip, ev_enum, ev_lcE, ev_lc2E, lc_item, lc_item2, List.map_cons, List.map_nil, List.cons_append, List.nil_append, List.append_nil, List.replicate_succ, List.replicate_zero, Nat.reduceSub, Nat.reduceAdd, List.getElem?_cons_zero, List.getElem?_cons_succ, List.getElem?_nil, List.set_cons_zero, List.set_cons_succ, asg_nm, asg_tp, asgs_nil, asgs_cons, Option.bind_some, List.length_cons, List.length_nil, wipeD, true_and, and_true, if_true, if_false, Bool.false_eq_true, decide_eq_true_eq, Bool.not_true, Bool.not_false, Bool.xor_false, Bool.false_xor, Bool.true_xor, Bool.not_eq_true', decide_eq_false_iff_not, reduceIte]
  refine ⟨Nat.zero_le _, ?_⟩
  refine ws_fix (fun i ρ' μ' => Fr no μ μ' ∧ ∃ ns, μ'[μ.length]? = some (.lst (ns.map .int)) ∧ Lo ns ∧ ns.length ≤ 60 * i ∧ i ≤ 63 ∧ ∃ x2 x3 x4 x5 x6, ρ' = [some (.li (sc.map .int)), some (.mr μ.length), x2, x3, x4, x5, x6])
    ⟨(Fr.refl _ _).new _, [], get_new, (fun n hn => by simp at hn), by simp, Nat.zero_le _, _, _, _, _, _, rfl⟩ (fun i d ρ' μ' hd ⟨f, ns, g, lo, nl, il, x2, x3, x4, x5, x6, e⟩ => ?_) (fun ρ' μ' ⟨f, ns, g, lo, nl, il, x2, x3, x4, x5, x6, e⟩ => ?_)
  · subst e
    rw [List.getElem?_map] at hd
    obtain ⟨c, hc, rfl⟩ := Option.map_eq_some_iff.mp hd
    have il2 := (List.getElem?_eq_some_iff.mp hc).1
    refine ⟨_, rfl, ?_⟩
    simp only [ev_ix0, ev_ix1, ev_ix2, ws_seq, ws_next, ws_expr, ws_ret, ws_retN, ws_break, ws_set, ws_asg, ws_if, ws_raise, ws_par, ws_eff, ws_for, ev_varE, ev_cE, ev_binE, ev_unE, ev_nilA, ev_consA, ev_starA, ev_tupE, ev_newL, ev_lstE, ev_ifE, ev_asB, ev_valT, ev_andT, ev_orT, ev_notT, ev_andE, ev_intD, ev_addI, ev_addT, ev_mulI, ev_mulT, ev_negI, ev_isN, ev_isB, ev_eqI, ev_callE, ev_lenT, ev_intC, ev_listT, ev_two, ev_chainE, ev_lastC, ev_lastT, ev_linkC, ev_linkT, ev_truT, ev_mtE, ev_yesT, ev_all, ev_seqI, ev_rng1, ev_rng2, ev_zip, ev_enum, ev_lcE, ev_lc2E, lc_item, lc_item2, List.map_cons, List.map_nil, List.cons_append, List.nil_append, List.append_nil, List.replicate_succ, List.replicate_zero, Nat.reduceSub, Nat.reduceAdd, List.getElem?_cons_zero, List.getElem?_cons_succ, List.getElem?_nil, List.set_cons_zero, List.set_cons_succ, asg_nm, asg_tp, asgs_nil, asgs_cons, Option.bind_some, List.length_cons, List.length_nil, wipeD, true_and, and_true, if_true, if_false, Bool.false_eq_true, decide_eq_true_eq, Bool.not_true, Bool.not_false, Bool.xor_false, Bool.false_xor, Bool.true_xor, Bool.not_eq_true', decide_eq_false_iff_not, reduceIte]
    refine w_number fun v μ1 f1 v0 => ?_
    simp only [ev_ix0, ev_ix1, ev_ix2, ws_seq, ws_next, ws_expr, ws_ret, ws_retN, ws_break, ws_set, ws_asg, ws_if, ws_raise, ws_par, ws_eff, ws_for, ev_varE, ev_cE, ev_binE, ev_unE, ev_nilA, ev_consA, ev_starA, ev_tupE, ev_newL, ev_lstE, ev_ifE, ev_asB, ev_valT, ev_andT, ev_orT, ev_notT, ev_andE, ev_intD, ev_addI, ev_addT, ev_mulI, ev_mulT, ev_negI, ev_isN, ev_isB, ev_eqI, ev_callE, ev_lenT, ev_intC, ev_listT, ev_two, ev_chainE, ev_lastC, ev_lastT, ev_linkC, ev_linkT, ev_truT, ev_mtE, ev_yesT, ev_all, ev_seqI, ev_rng1, ev_rng2, ev_zip, ev_enum, ev_lcE, ev_lc2E, lc_item, lc_item2, List.map_cons, List.map_nil, List.cons_append, List.nil_append, List.append_nil, List.replicate_succ, List.replicate_zero, Nat.reduceSub, Nat.reduceAdd, List.getElem?_cons_zero, List.getElem?_cons_succ, List.getElem?_nil, List.set_cons_zero, List.set_cons_succ, asg_nm, asg_tp, asgs_nil, asgs_cons, Option.bind_some, List.length_cons, List.length_nil, wipeD, true_and, and_true, if_true, if_false, Bool.false_eq_true, decide_eq_true_eq, Bool.not_true, Bool.not_false, Bool.xor_false, Bool.false_xor, Bool.true_xor, Bool.not_eq_true', decide_eq_false_iff_not, reduceIte]
    by_cases big : 1000000000000000000 ≤ v
    · rw [if_pos big]
      refine ⟨⟨by omega, by omega⟩, ?_⟩
      refine ws_fix (fun j ρ2 μ2 => Fr no μ μ2 ∧ ∃ ns2 v2, μ2[μ.length]? = some (.lst (ns2.map .int)) ∧ Lo ns2 ∧ ns2.length ≤ 60 * i + j ∧ j ≤ 60 ∧ 0 ≤ v2 ∧ ∃ x4, ρ2 = [some (.li (sc.map .int)), some (.mr μ.length), some (.int c), some (.int v2), x4, x5, x6])
        ⟨f.trans f1, ns, v, f1.get g, lo, by omega, Nat.zero_le _, v0, _, rfl⟩ (fun j d ρ2 μ2 hd2 ⟨f2, ns2, v2, g2, lo2, nl2, jl, v20, x4, e2⟩ => ?_) (fun ρ2 μ2 ⟨f2, ns2, v2, g2, lo2, nl2, jl, v20, x4, e2⟩ => ?_)
      · subst e2
        have jl2 : j < 60 := by
          have := (List.getElem?_eq_some_iff.mp hd2).1
          rw [rngD_eq, List.length_map, rng_len] at this
          exact this
        refine ⟨_, rfl, ?_⟩
        simp only [ev_recvL g2, ev_append g2, map_snoc, ev_ix0, ev_ix1, ev_ix2, ws_seq, ws_next, ws_expr, ws_ret, ws_retN, ws_break, ws_set, ws_asg, ws_if, ws_raise, ws_par, ws_eff, ws_for, ev_varE, ev_cE, ev_binE, ev_unE, ev_nilA, ev_consA, ev_starA, ev_tupE, ev_newL, ev_lstE, ev_ifE, ev_asB, ev_valT, ev_andT, ev_orT, ev_notT, ev_andE, ev_intD, ev_addI, ev_addT, ev_mulI, ev_mulT, ev_negI, ev_isN, ev_isB, ev_eqI, ev_callE, ev_lenT, ev_intC, ev_listT, ev_two, ev_chainE, ev_lastC, ev_lastT, ev_linkC, ev_linkT, ev_truT, ev_mtE, ev_yesT, ev_all, ev_seqI, ev_rng1, ev_rng2, ev_zip, ev_enum, ev_lcE, ev_lc2E, lc_item, lc_item2, List.map_cons, List.map_nil, List.cons_append, List.nil_append, List.append_nil, List.replicate_succ, List.replicate_zero, Nat.reduceSub, Nat.reduceAdd, List.getElem?_cons_zero, List.getElem?_cons_succ, List.getElem?_nil, List.set_cons_zero, List.set_cons_succ, asg_nm, asg_tp, asgs_nil, asgs_cons, Option.bind_some, List.length_cons, List.length_nil, wipeD, true_and, and_true, if_true, if_false, Bool.false_eq_true, decide_eq_true_eq, Bool.not_true, Bool.not_false, Bool.xor_false, Bool.false_xor, Bool.true_xor, Bool.not_eq_true', decide_eq_false_iff_not, reduceIte]
        by_cases vz : v2 = 0
        · rw [if_pos vz]
          exact ⟨f2, ns2, g2, lo2, by omega, by omega, _, _, _, _, _, rfl⟩
        · rw [if_neg vz]
          have m := mod_lo (i := v2) (j := 1000) (by omega)
          refine ⟨by omega, by rw [List.length_map]; omega, ⟨by omega, by omega⟩, f2.set _ (fun z => by omega), _, _, get_set g2, lo_snoc lo2 m.1 m.2, by rw [List.length_append, List.length_singleton]; omega, by omega, ?_, _, rfl⟩
          exact Int.ediv_nonneg v20 (by omega)
      · subst e2
        rw [rngD_eq, List.length_map, rng_len] at nl2
        have nl3 : ns2.length ≤ 60 * i + 60 := nl2
        exact ⟨f2, ns2, g2, lo2, by omega, by omega, _, _, _, _, _, rfl⟩
    · rw [if_neg big]
      have g1 := f1.get g
      have m5 := mod_lo (i := v * 48271 + 11) (j := 2147483647) (by omega)
      have k1 := mod_lo (i := v) (j := 1000) (by omega)
      generalize e5 : (v * 48271 + 11) % 2147483647 = s5 at m5
      have m6 := mod_lo (i := s5 * 69621 + v) (j := 2147483629) (by omega)
      generalize e6 : (s5 * 69621 + v) % 2147483629 = s6 at m6
      have k2 := mod_lo (i := s5) (j := 1000) (by omega)
      have k3 := mod_lo (i := s6) (j := 1000) (by omega)
      simp only [ev_gcE, ev_recvL g1, ev_extend (get_old g1) get_new, ev_ix0, ev_ix1, ev_ix2, ws_seq, ws_next, ws_expr, ws_ret, ws_retN, ws_break, ws_set, ws_asg, ws_if, ws_raise, ws_par, ws_eff, ws_for, ev_varE, ev_cE, ev_binE, ev_unE, ev_nilA, ev_consA, ev_starA, ev_tupE, ev_newL, ev_lstE, ev_ifE, ev_asB, ev_valT, ev_andT, ev_orT, ev_notT, ev_andE, ev_intD, ev_addI, ev_addT, ev_mulI, ev_mulT, ev_negI, ev_isN, ev_isB, ev_eqI, ev_callE, ev_lenT, ev_intC, ev_listT, ev_two, ev_chainE, ev_lastC, ev_lastT, ev_linkC, ev_linkT, ev_truT, ev_mtE, ev_yesT, ev_all, ev_seqI, ev_rng1, ev_rng2, ev_zip, ev_enum, ev_lcE, ev_lc2E, lc_item, lc_item2, List.map_cons, List.map_nil, List.cons_append, List.nil_append, List.append_nil, List.replicate_succ, List.replicate_zero, Nat.reduceSub, Nat.reduceAdd, List.getElem?_cons_zero, List.getElem?_cons_succ, List.getElem?_nil, List.set_cons_zero, List.set_cons_succ, asg_nm, asg_tp, asgs_nil, asgs_cons, Option.bind_some, List.length_cons, List.length_nil, wipeD, true_and, and_true, if_true, if_false, Bool.false_eq_true, decide_eq_true_eq, Bool.not_true, Bool.not_false, Bool.xor_false, Bool.false_xor, Bool.true_xor, Bool.not_eq_true', decide_eq_false_iff_not, reduceIte]
      have fs : Fr (at1 μ.length) μ1 (gcM μ1.length .non ((μ1 ++ [Cell.lst [D.int (v % 1000), D.int (s5 % 1000), D.int (s6 % 1000)]]).set μ.length (.lst (ns.map .int ++ [D.int (v % 1000), D.int (s5 % 1000), D.int (s6 % 1000)])))) := (Fr.set (S := at1 μ.length) ((Fr.refl _ _).new _) _ fun _ => rfl).gc
      refine ⟨.inl ⟨by omega, by omega⟩, by omega, .inl ⟨by omega, by omega⟩, by omega, by omega, by omega, by omega, by show 3 ≤ _; omega, by rw [List.length_map]; show _ + 3 ≤ _; omega, fr_up (f.trans f1) fs (fun i z => by rw [z]; exact Nat.le_refl _), ns ++ [v % 1000, s5 % 1000, s6 % 1000], ?_, ?_, by rw [List.length_append]; show _ + 3 ≤ _; omega, by omega, _, _, _, _, _, rfl⟩
      · rw [List.map_append]
        exact gcM_get (get_set (get_old g1)) (lt_of_get g1)
      · have := lo_snoc (lo_snoc (lo_snoc lo k1.1 k1.2) k2.1 k2.2) k3.1 k3.2
        simpa using this
  · subst e
    simp only [ev_recvL g, ev_reverse g, ev_ix0, ev_ix1, ev_ix2, ws_seq, ws_next, ws_expr, ws_ret, ws_retN, ws_break, ws_set, ws_asg, ws_if, ws_raise, ws_par, ws_eff, ws_for, ev_varE, ev_cE, ev_binE, ev_unE, ev_nilA, ev_consA, ev_starA, ev_tupE, ev_newL, ev_lstE, ev_ifE, ev_asB, ev_valT, ev_andT, ev_orT, ev_notT, ev_andE, ev_intD, ev_addI, ev_addT, ev_mulI, ev_mulT, ev_negI, ev_isN, ev_isB, ev_eqI, ev_callE, ev_lenT, ev_intC, ev_listT, ev_two, ev_chainE, ev_lastC, ev_lastT, ev_linkC, ev_linkT, ev_truT, ev_mtE, ev_yesT, ev_all, ev_seqI, ev_rng1, ev_rng2, ev_zip, ev_enum, ev_lcE, ev_lc2E, lc_item, lc_item2, List.map_cons, List.map_nil, List.cons_append, List.nil_append, List.append_nil, List.replicate_succ, List.replicate_zero, Nat.reduceSub, Nat.reduceAdd, List.getElem?_cons_zero, List.getElem?_cons_succ, List.getElem?_nil, List.set_cons_zero, List.set_cons_succ, asg_nm, asg_tp, asgs_nil, asgs_cons, Option.bind_some, List.length_cons, List.length_nil, wipeD, true_and, and_true, if_true, if_false, Bool.false_eq_true, decide_eq_true_eq, Bool.not_true, Bool.not_false, Bool.xor_false, Bool.false_xor, Bool.true_xor, Bool.not_eq_true', decide_eq_false_iff_not, reduceIte]
    refine h _ _ (f.set _ (fun z => by omega)).gc ?_
    refine ⟨ns.reverse, gcM_own ?_, fun n hn => lo n (List.mem_reverse.mp hn), by rw [List.length_reverse]; rw [List.length_map] at nl; omega⟩
    rw [get_set g, List.map_reverse]
theorem w_more {k : Nat} (hd : Dr 3780 μ k) (h : ∀ r μ', Fr (at1 k) μ μ' → r ≠ k → Dr 4000 μ' r → Q (.mr r) μ') : Ev X Q (d_u_law_more [.mr k, .int 200] μ) := by
  refine den_of rfl ?_
  unfold b_u_law_more
  have zz := size_eq
  have kl := hd.lt
  simp only [ev_ix0, ev_ix1, ev_ix2, ws_seq, ws_next, ws_expr, ws_ret, ws_retN, ws_break, ws_set, ws_asg, ws_if, ws_raise, ws_par, ws_eff, ws_for, ev_varE, ev_cE, ev_binE, ev_unE, ev_nilA, ev_consA, ev_starA, ev_tupE, ev_newL, ev_lstE, ev_ifE, ev_asB, ev_valT, ev_andT, ev_orT, ev_notT, ev_andE, ev_intD, ev_addI, ev_addT, ev_mulI, ev_mulT, ev_negI, ev_isN, ev_isB, ev_eqI, ev_callE, ev_lenT, ev_intC, ev_listT, ev_two, ev_chainE, ev_lastC, ev_lastT, ev_linkC, ev_linkT, ev_truT, ev_mtE, ev_yesT, ev_all, ev_seqI, ev_rng1, ev_rng2, ev_zip, ev_enum, ev_lcE, ev_lc2E, lc_item, lc_item2, List.map_cons, List.map_nil, List.cons_append, List.nil_append, List.append_nil, List.replicate_succ, List.replicate_zero, Nat.reduceSub, Nat.reduceAdd, List.getElem?_cons_zero, List.getElem?_cons_succ, List.getElem?_nil, List.set_cons_zero, List.set_cons_succ, asg_nm, asg_tp, asgs_nil, asgs_cons, Option.bind_some, List.length_cons, List.length_nil, wipeD, true_and, and_true, if_true, if_false, Bool.false_eq_true, decide_eq_true_eq, Bool.not_true, Bool.not_false, Bool.xor_false, Bool.false_xor, Bool.true_xor, Bool.not_eq_true', decide_eq_false_iff_not, reduceIte]
  refine w_next hd fun v1 μ1 f1 d1 a0 a1 => ?_
  simp only [ev_ix0, ev_ix1, ev_ix2, ws_seq, ws_next, ws_expr, ws_ret, ws_retN, ws_break, ws_set, ws_asg, ws_if, ws_raise, ws_par, ws_eff, ws_for, ev_varE, ev_cE, ev_binE, ev_unE, ev_nilA, ev_consA, ev_starA, ev_tupE, ev_newL, ev_lstE, ev_ifE, ev_asB, ev_valT, ev_andT, ev_orT, ev_notT, ev_andE, ev_intD, ev_addI, ev_addT, ev_mulI, ev_mulT, ev_negI, ev_isN, ev_isB, ev_eqI, ev_callE, ev_lenT, ev_intC, ev_listT, ev_two, ev_chainE, ev_lastC, ev_lastT, ev_linkC, ev_linkT, ev_truT, ev_mtE, ev_yesT, ev_all, ev_seqI, ev_rng1, ev_rng2, ev_zip, ev_enum, ev_lcE, ev_lc2E, lc_item, lc_item2, List.map_cons, List.map_nil, List.cons_append, List.nil_append, List.append_nil, List.replicate_succ, List.replicate_zero, Nat.reduceSub, Nat.reduceAdd, List.getElem?_cons_zero, List.getElem?_cons_succ, List.getElem?_nil, List.set_cons_zero, List.set_cons_succ, asg_nm, asg_tp, asgs_nil, asgs_cons, Option.bind_some, List.length_cons, List.length_nil, wipeD, true_and, and_true, if_true, if_false, Bool.false_eq_true, decide_eq_true_eq, Bool.not_true, Bool.not_false, Bool.xor_false, Bool.false_xor, Bool.true_xor, Bool.not_eq_true', decide_eq_false_iff_not, reduceIte]
  refine ⟨.inl ⟨by omega, by omega⟩, ?_⟩
  refine w_next d1 fun v2 μ2 f2 d2 b0 b1 => ?_
  simp only [ev_ix0, ev_ix1, ev_ix2, ws_seq, ws_next, ws_expr, ws_ret, ws_retN, ws_break, ws_set, ws_asg, ws_if, ws_raise, ws_par, ws_eff, ws_for, ev_varE, ev_cE, ev_binE, ev_unE, ev_nilA, ev_consA, ev_starA, ev_tupE, ev_newL, ev_lstE, ev_ifE, ev_asB, ev_valT, ev_andT, ev_orT, ev_notT, ev_andE, ev_intD, ev_addI, ev_addT, ev_mulI, ev_mulT, ev_negI, ev_isN, ev_isB, ev_eqI, ev_callE, ev_lenT, ev_intC, ev_listT, ev_two, ev_chainE, ev_lastC, ev_lastT, ev_linkC, ev_linkT, ev_truT, ev_mtE, ev_yesT, ev_all, ev_seqI, ev_rng1, ev_rng2, ev_zip, ev_enum, ev_lcE, ev_lc2E, lc_item, lc_item2, List.map_cons, List.map_nil, List.cons_append, List.nil_append, List.append_nil, List.replicate_succ, List.replicate_zero, Nat.reduceSub, Nat.reduceAdd, List.getElem?_cons_zero, List.getElem?_cons_succ, List.getElem?_nil, List.set_cons_zero, List.set_cons_succ, asg_nm, asg_tp, asgs_nil, asgs_cons, Option.bind_some, List.length_cons, List.length_nil, wipeD, true_and, and_true, if_true, if_false, Bool.false_eq_true, decide_eq_true_eq, Bool.not_true, Bool.not_false, Bool.xor_false, Bool.false_xor, Bool.true_xor, Bool.not_eq_true', decide_eq_false_iff_not, reduceIte]
  refine ⟨Nat.zero_le _, ⟨by omega, by omega⟩, ?_⟩
  have f12 := f1.trans f2
  have k2 : k < μ2.length := d2.lt
  have ml : μ.length ≤ μ2.length := f12.len
  rw [rngD_eq]
  refine ws_fix (fun i ρ' μ' => Fr (at1 k) μ μ' ∧ Dr 3780 μ' k ∧ ∃ ns s, μ'[μ2.length]? = some (.lst (ns.map .int)) ∧ Lo ns ∧ ns.length = i ∧ i ≤ 200 ∧ 0 ≤ s ∧ s < 2147483647 ∧ ∃ x4, ρ' = [some (.mr k), some (.int 200), some (.int s), some (.mr μ2.length), x4])
    ⟨f12.new _, d2.new _, [], _, get_new, (fun n hn => by simp at hn), rfl, Nat.zero_le _, by omega, by omega, _, rfl⟩ (fun i d ρ' μ' hd ⟨f, dk, ns, s, g, lo, nl, il, s0, s1, x4, e⟩ => ?_) (fun ρ' μ' ⟨f, dk, ns, s, g, lo, nl, il, s0, s1, x4, e⟩ => ?_)
  · subst e
    have il2 : i < 200 := by
      have := (List.getElem?_eq_some_iff.mp hd).1
      rw [List.length_map, rng_len] at this
      exact this
    refine ⟨_, rfl, ?_⟩
    simp only [ev_recvL g, ev_append g, map_snoc, ev_ix0, ev_ix1, ev_ix2, ws_seq, ws_next, ws_expr, ws_ret, ws_retN, ws_break, ws_set, ws_asg, ws_if, ws_raise, ws_par, ws_eff, ws_for, ev_varE, ev_cE, ev_binE, ev_unE, ev_nilA, ev_consA, ev_starA, ev_tupE, ev_newL, ev_lstE, ev_ifE, ev_asB, ev_valT, ev_andT, ev_orT, ev_notT, ev_andE, ev_intD, ev_addI, ev_addT, ev_mulI, ev_mulT, ev_negI, ev_isN, ev_isB, ev_eqI, ev_callE, ev_lenT, ev_intC, ev_listT, ev_two, ev_chainE, ev_lastC, ev_lastT, ev_linkC, ev_linkT, ev_truT, ev_mtE, ev_yesT, ev_all, ev_seqI, ev_rng1, ev_rng2, ev_zip, ev_enum, ev_lcE, ev_lc2E, lc_item, lc_item2, List.map_cons, List.map_nil, List.cons_append, List.nil_append, List.append_nil, List.replicate_succ, List.replicate_zero, Nat.reduceSub, Nat.reduceAdd, List.getElem?_cons_zero, List.getElem?_cons_succ, List.getElem?_nil, List.set_cons_zero, List.set_cons_succ, asg_nm, asg_tp, asgs_nil, asgs_cons, Option.bind_some, List.length_cons, List.length_nil, wipeD, true_and, and_true, if_true, if_false, Bool.false_eq_true, decide_eq_true_eq, Bool.not_true, Bool.not_false, Bool.xor_false, Bool.false_xor, Bool.true_xor, Bool.not_eq_true', decide_eq_false_iff_not, reduceIte]
    have m1 := mod_lo (i := s * 48271 + 12345) (j := 2147483647) (by omega)
    generalize (s * 48271 + 12345) % 2147483647 = s' at m1
    have m2 := mod_lo (i := s' / 7) (j := 1000) (by omega)
    refine ⟨.inl ⟨by omega, by omega⟩, by omega, ⟨by omega, by omega⟩, by omega, by rw [List.length_map]; omega, f.set _ (fun z => by omega), dk.set _ (by omega), ns ++ [s' / 7 % 1000], s', get_set g, lo_snoc lo m2.1 m2.2, by rw [List.length_append, nl]; rfl, by omega, m1.1, m1.2, _, rfl⟩
  · subst e
    obtain ⟨ms, gm, lm, bm⟩ := dk
    rw [List.length_map, rng_len] at nl
    have nl2 : ns.length = 200 := nl
    have kl2 := lt_of_get g
    simp only [ev_addL g gm, ev_ix0, ev_ix1, ev_ix2, ws_seq, ws_next, ws_expr, ws_ret, ws_retN, ws_break, ws_set, ws_asg, ws_if, ws_raise, ws_par, ws_eff, ws_for, ev_varE, ev_cE, ev_binE, ev_unE, ev_nilA, ev_consA, ev_starA, ev_tupE, ev_newL, ev_lstE, ev_ifE, ev_asB, ev_valT, ev_andT, ev_orT, ev_notT, ev_andE, ev_intD, ev_addI, ev_addT, ev_mulI, ev_mulT, ev_negI, ev_isN, ev_isB, ev_eqI, ev_callE, ev_lenT, ev_intC, ev_listT, ev_two, ev_chainE, ev_lastC, ev_lastT, ev_linkC, ev_linkT, ev_truT, ev_mtE, ev_yesT, ev_all, ev_seqI, ev_rng1, ev_rng2, ev_zip, ev_enum, ev_lcE, ev_lc2E, lc_item, lc_item2, List.map_cons, List.map_nil, List.cons_append, List.nil_append, List.append_nil, List.replicate_succ, List.replicate_zero, Nat.reduceSub, Nat.reduceAdd, List.getElem?_cons_zero, List.getElem?_cons_succ, List.getElem?_nil, List.set_cons_zero, List.set_cons_succ, asg_nm, asg_tp, asgs_nil, asgs_cons, Option.bind_some, List.length_cons, List.length_nil, wipeD, true_and, and_true, if_true, if_false, Bool.false_eq_true, decide_eq_true_eq, Bool.not_true, Bool.not_false, Bool.xor_false, Bool.false_xor, Bool.true_xor, Bool.not_eq_true', decide_eq_false_iff_not, reduceIte]
    refine ⟨by rw [List.length_map, List.length_map]; omega, ?_⟩
    have ll : μ'.length ≠ k := by omega
    refine h _ _ (f.new _).gc ll ⟨ns ++ ms, gcM_own ?_, ?_, by rw [List.length_append]; omega⟩
    · rw [List.map_append]; exact get_new
    · intro n hn
      rcases List.mem_append.mp hn with z | z
      · exact lo n z
      · exact lm n z
theorem w_pick {k j : Nat} {ds : List D} (hd : Dr b μ k) (hj : μ[j]? = some (.lst ds)) (n : j ≠ k) (hn : ds ≠ []) (h : ∀ d μ', d ∈ ds → Fr (at1 k) μ μ' → Dr b μ' k → Q d μ') : Ev X Q (d_u_law_pick [.mr k, .mr j] μ) := by
  refine den_of rfl ?_
  unfold b_u_law_pick
  have kl := hd.lt
  simp only [ev_ix0, ev_ix1, ev_ix2, ws_seq, ws_next, ws_expr, ws_ret, ws_retN, ws_break, ws_set, ws_asg, ws_if, ws_raise, ws_par, ws_eff, ws_for, ev_varE, ev_cE, ev_binE, ev_unE, ev_nilA, ev_consA, ev_starA, ev_tupE, ev_newL, ev_lstE, ev_ifE, ev_asB, ev_valT, ev_andT, ev_orT, ev_notT, ev_andE, ev_intD, ev_addI, ev_addT, ev_mulI, ev_mulT, ev_negI, ev_isN, ev_isB, ev_eqI, ev_callE, ev_lenT, ev_intC, ev_listT, ev_two, ev_chainE, ev_lastC, ev_lastT, ev_linkC, ev_linkT, ev_truT, ev_mtE, ev_yesT, ev_all, ev_seqI, ev_rng1, ev_rng2, ev_zip, ev_enum, ev_lcE, ev_lc2E, lc_item, lc_item2, List.map_cons, List.map_nil, List.cons_append, List.nil_append, List.append_nil, List.replicate_succ, List.replicate_zero, Nat.reduceSub, Nat.reduceAdd, List.getElem?_cons_zero, List.getElem?_cons_succ, List.getElem?_nil, List.set_cons_zero, List.set_cons_succ, asg_nm, asg_tp, asgs_nil, asgs_cons, Option.bind_some, List.length_cons, List.length_nil, wipeD, true_and, and_true, if_true, if_false, Bool.false_eq_true, decide_eq_true_eq, Bool.not_true, Bool.not_false, Bool.xor_false, Bool.false_xor, Bool.true_xor, Bool.not_eq_true', decide_eq_false_iff_not, reduceIte]
  refine w_next hd fun v1 μ1 f1 d1 a0 a1 => ?_
  have hj1 := f1.at_ j _ hj n
  have pos : 0 < ds.length := List.length_pos_iff.mpr hn
  simp only [ev_lenL hj1, ev_ix0, ev_ix1, ev_ix2, ws_seq, ws_next, ws_expr, ws_ret, ws_retN, ws_break, ws_set, ws_asg, ws_if, ws_raise, ws_par, ws_eff, ws_for, ev_varE, ev_cE, ev_binE, ev_unE, ev_nilA, ev_consA, ev_starA, ev_tupE, ev_newL, ev_lstE, ev_ifE, ev_asB, ev_valT, ev_andT, ev_orT, ev_notT, ev_andE, ev_intD, ev_addI, ev_addT, ev_mulI, ev_mulT, ev_negI, ev_isN, ev_isB, ev_eqI, ev_callE, ev_lenT, ev_intC, ev_listT, ev_two, ev_chainE, ev_lastC, ev_lastT, ev_linkC, ev_linkT, ev_truT, ev_mtE, ev_yesT, ev_all, ev_seqI, ev_rng1, ev_rng2, ev_zip, ev_enum, ev_lcE, ev_lc2E, lc_item, lc_item2, List.map_cons, List.map_nil, List.cons_append, List.nil_append, List.append_nil, List.replicate_succ, List.replicate_zero, Nat.reduceSub, Nat.reduceAdd, List.getElem?_cons_zero, List.getElem?_cons_succ, List.getElem?_nil, List.set_cons_zero, List.set_cons_succ, asg_nm, asg_tp, asgs_nil, asgs_cons, Option.bind_some, List.length_cons, List.length_nil, wipeD, true_and, and_true, if_true, if_false, Bool.false_eq_true, decide_eq_true_eq, Bool.not_true, Bool.not_false, Bool.xor_false, Bool.false_xor, Bool.true_xor, Bool.not_eq_true', decide_eq_false_iff_not, reduceIte]
  have m := mod_lo (i := v1) (j := ds.length) (by omega)
  have il : (v1 % ds.length).toNat < ds.length := by omega
  have hx : atI ds (v1 % ds.length) = some ds[(v1 % ds.length).toNat] := atI_of m.1 (List.getElem?_eq_getElem il)
  refine ⟨by omega, ?_⟩
  rw [ev_ixL hj1 hx]
  exact h _ _ (List.getElem_mem il) f1.gc (d1.gc kl)
theorem w_row {k : Nat} {p : Pg} (hp : PgOk p) {most : Int} (hm : 0 ≤ most) (hm2 : most ≤ 100) (hd : Dr b μ k) (h : ∀ row μ', rowB p row = true → (row.length : Int) ≤ most → Fr (at1 k) μ μ' → Dr b μ' k → Q (iD row) μ') : Ev X Q (d_u_law_row [.mr k, pD p, .int most] μ) := by
  refine den_of rfl ?_
  unfold b_u_law_row
  have zz := size_eq
  have kl := hd.lt
  have nk := hp.nk1
  simp only [ev_gcE, ev_ix0, ev_ix1, ev_ix2, ws_seq, ws_next, ws_expr, ws_ret, ws_retN, ws_break, ws_set, ws_asg, ws_if, ws_raise, ws_par, ws_eff, ws_for, ev_varE, ev_cE, ev_binE, ev_unE, ev_nilA, ev_consA, ev_starA, ev_tupE, ev_newL, ev_lstE, ev_ifE, ev_asB, ev_valT, ev_andT, ev_orT, ev_notT, ev_andE, ev_intD, ev_addI, ev_addT, ev_mulI, ev_mulT, ev_negI, ev_isN, ev_isB, ev_eqI, ev_callE, ev_lenT, ev_intC, ev_listT, ev_two, ev_chainE, ev_lastC, ev_lastT, ev_linkC, ev_linkT, ev_truT, ev_mtE, ev_yesT, ev_all, ev_seqI, ev_rng1, ev_rng2, ev_zip, ev_enum, ev_lcE, ev_lc2E, lc_item, lc_item2, List.map_cons, List.map_nil, List.cons_append, List.nil_append, List.append_nil, List.replicate_succ, List.replicate_zero, Nat.reduceSub, Nat.reduceAdd, List.getElem?_cons_zero, List.getElem?_cons_succ, List.getElem?_nil, List.set_cons_zero, List.set_cons_succ, asg_nm, asg_tp, asgs_nil, asgs_cons, Option.bind_some, List.length_cons, List.length_nil, wipeD, true_and, and_true, if_true, if_false, Bool.false_eq_true, decide_eq_true_eq, Bool.not_true, Bool.not_false, Bool.xor_false, Bool.false_xor, Bool.true_xor, Bool.not_eq_true', decide_eq_false_iff_not, reduceIte]
  refine w_next hd fun v1 μ1 f1 d1 a0 a1 => ?_
  simp only [ev_ix0, ev_ix1, ev_ix2, ws_seq, ws_next, ws_expr, ws_ret, ws_retN, ws_break, ws_set, ws_asg, ws_if, ws_raise, ws_par, ws_eff, ws_for, ev_varE, ev_cE, ev_binE, ev_unE, ev_nilA, ev_consA, ev_starA, ev_tupE, ev_newL, ev_lstE, ev_ifE, ev_asB, ev_valT, ev_andT, ev_orT, ev_notT, ev_andE, ev_intD, ev_addI, ev_addT, ev_mulI, ev_mulT, ev_negI, ev_isN, ev_isB, ev_eqI, ev_callE, ev_lenT, ev_intC, ev_listT, ev_two, ev_chainE, ev_lastC, ev_lastT, ev_linkC, ev_linkT, ev_truT, ev_mtE, ev_yesT, ev_all, ev_seqI, ev_rng1, ev_rng2, ev_zip, ev_enum, ev_lcE, ev_lc2E, lc_item, lc_item2, List.map_cons, List.map_nil, List.cons_append, List.nil_append, List.append_nil, List.replicate_succ, List.replicate_zero, Nat.reduceSub, Nat.reduceAdd, List.getElem?_cons_zero, List.getElem?_cons_succ, List.getElem?_nil, List.set_cons_zero, List.set_cons_succ, asg_nm, asg_tp, asgs_nil, asgs_cons, Option.bind_some, List.length_cons, List.length_nil, wipeD, true_and, and_true, if_true, if_false, Bool.false_eq_true, decide_eq_true_eq, Bool.not_true, Bool.not_false, Bool.xor_false, Bool.false_xor, Bool.true_xor, Bool.not_eq_true', decide_eq_false_iff_not, reduceIte]
  have m := mod_lo (i := v1) (j := most + 1) (by omega)
  generalize v1 % (most + 1) = cnt at m
  refine ⟨by omega, ⟨by omega, by omega⟩, ?_⟩
  rw [rngD_eq]
  have k1 := d1.lt
  refine lc_fix (fun i μ' => Fr (at1 k) μ1 μ' ∧ Dr b μ' k ∧ ∃ row, μ'[μ1.length]? = some (.lst (row.map .int)) ∧ rowB p row = true ∧ row.length = i ∧ i ≤ cnt.toNat) ⟨(Fr.refl _ _).new _, d1.new _, [], get_new, rfl, rfl, Nat.zero_le _⟩ (fun i d μ' hd ⟨f, dk, row, g, rb, rl, il⟩ => ?_) (fun μ' ⟨f, dk, row, g, rb, rl, il⟩ => ?_)
  · have il2 : i < cnt.toNat := by
      have := (List.getElem?_eq_some_iff.mp hd).1
      rw [List.length_map, rng_len] at this
      exact this
    refine ⟨_, rfl, ?_⟩
    simp only [ev_ix0, ev_ix1, ev_ix2, ws_seq, ws_next, ws_expr, ws_ret, ws_retN, ws_break, ws_set, ws_asg, ws_if, ws_raise, ws_par, ws_eff, ws_for, ev_varE, ev_cE, ev_binE, ev_unE, ev_nilA, ev_consA, ev_starA, ev_tupE, ev_newL, ev_lstE, ev_ifE, ev_asB, ev_valT, ev_andT, ev_orT, ev_notT, ev_andE, ev_intD, ev_addI, ev_addT, ev_mulI, ev_mulT, ev_negI, ev_isN, ev_isB, ev_eqI, ev_callE, ev_lenT, ev_intC, ev_listT, ev_two, ev_chainE, ev_lastC, ev_lastT, ev_linkC, ev_linkT, ev_truT, ev_mtE, ev_yesT, ev_all, ev_seqI, ev_rng1, ev_rng2, ev_zip, ev_enum, ev_lcE, ev_lc2E, lc_item, lc_item2, List.map_cons, List.map_nil, List.cons_append, List.nil_append, List.append_nil, List.replicate_succ, List.replicate_zero, Nat.reduceSub, Nat.reduceAdd, List.getElem?_cons_zero, List.getElem?_cons_succ, List.getElem?_nil, List.set_cons_zero, List.set_cons_succ, asg_nm, asg_tp, asgs_nil, asgs_cons, Option.bind_some, List.length_cons, List.length_nil, wipeD, true_and, and_true, if_true, if_false, Bool.false_eq_true, decide_eq_true_eq, Bool.not_true, Bool.not_false, Bool.xor_false, Bool.false_xor, Bool.true_xor, Bool.not_eq_true', decide_eq_false_iff_not, reduceIte]
    refine w_next dk fun v2 μ2 f2 d2 b0 b1 => ?_
    unfold pD
    simp only [List.length_map, ev_ix0, ev_ix1, ev_ix2, ws_seq, ws_next, ws_expr, ws_ret, ws_retN, ws_break, ws_set, ws_asg, ws_if, ws_raise, ws_par, ws_eff, ws_for, ev_varE, ev_cE, ev_binE, ev_unE, ev_nilA, ev_consA, ev_starA, ev_tupE, ev_newL, ev_lstE, ev_ifE, ev_asB, ev_valT, ev_andT, ev_orT, ev_notT, ev_andE, ev_intD, ev_addI, ev_addT, ev_mulI, ev_mulT, ev_negI, ev_isN, ev_isB, ev_eqI, ev_callE, ev_lenT, ev_intC, ev_listT, ev_two, ev_chainE, ev_lastC, ev_lastT, ev_linkC, ev_linkT, ev_truT, ev_mtE, ev_yesT, ev_all, ev_seqI, ev_rng1, ev_rng2, ev_zip, ev_enum, ev_lcE, ev_lc2E, lc_item, lc_item2, List.map_cons, List.map_nil, List.cons_append, List.nil_append, List.append_nil, List.replicate_succ, List.replicate_zero, Nat.reduceSub, Nat.reduceAdd, List.getElem?_cons_zero, List.getElem?_cons_succ, List.getElem?_nil, List.set_cons_zero, List.set_cons_succ, asg_nm, asg_tp, asgs_nil, asgs_cons, Option.bind_some, List.length_cons, List.length_nil, wipeD, true_and, and_true, if_true, if_false, Bool.false_eq_true, decide_eq_true_eq, Bool.not_true, Bool.not_false, Bool.xor_false, Bool.false_xor, Bool.true_xor, Bool.not_eq_true', decide_eq_false_iff_not, reduceIte]
    have m2 := mod_lo (i := v2) (j := p.ks.length) (by omega)
    have g2 := f2.at_ _ _ g (show μ1.length ≠ k by omega)
    refine ⟨by omega, ?_⟩
    rw [lc_add g2]
    refine ⟨by rw [List.length_map]; omega, (f.trans f2).set _ (fun z => by omega), d2.set _ (by omega), row ++ [v2 % p.ks.length], by rw [get_set g2, map_snoc], ?_, by rw [List.length_append, rl]; rfl, by omega⟩
    rw [rowB_iff] at rb ⊢
    intro x hx
    rcases List.mem_append.mp hx with z | z
    · exact rb x z
    · have : x = v2 % p.ks.length := by simpa using z
      rw [this]; exact m2
  · rw [List.length_map, rng_len] at rl
    rw [ev_tupL g]
    exact h row _ rb (by omega) ((f1.trans f).gc).gc ((dk.gc kl).gc kl)
end
end K69
end TPLB

section TPLC
set_option maxRecDepth 100000
set_option maxHeartbeats 4000000
namespace K69
open PySem L2 PySem.Spec PyProof.Rows DL
section
variable {X : Nat → Mu → Prop} {Q : D → Mu → Prop} {μ : Mu} {ρ : Sl} {E : En} {b : Nat}
theorem ev_rgL {fa fb : Sl → M D} : Ev X Q (listR2 fa fb ρ μ) = Ev X (fun x μ1 => Ev X (fun y μ2 => match x, y with
    | .int i, .int j => RgOk i j ∧ Q (.mr μ2.length) (μ2 ++ [.lst (rngD i (j - i).toNat)])
    | _, _ => False) (fb ρ μ1)) (fa ρ μ) := by
  unfold listR2; rw [ev_bind]; congr 1; funext x μ1; rw [ev_bind]; congr 1; funext y μ2
  cases x with
  | int i =>
    cases y with
    | int j => simp only []; rw [ev_asks]; rfl
    | _ => rfl
  | _ => rfl
/-- one of what is written down -/
theorem w_pickL {k : Nat} {as : Sl → M (List D)} {ds : List D} (hv : ρ[0]? = some (some (.mr k))) (hd : Dr b μ k) (ha : Ev nX (fun xs μ1 => xs = ds ∧ μ1 = μ) (as ρ μ)) (hl : ds.length ≤ 1000) (hn : ds ≠ []) (h : ∀ d μ', d ∈ ds → Fr (at1 k) μ μ' → Dr b μ' k → Q d μ') :
    Ev X Q (gcE (callE d_u_law_pick (consA (varE 0) (consA (lstE as) nilA))) ρ μ) := by
  have kl := hd.lt
  simp only [ev_gcE, ev_callE, ev_consA, ev_nilA, ev_lstE, ev_varE, hv]
  refine ha.imp (fun xs μ1 ⟨e1, e2⟩ => ?_) fun _ _ z => z.elim
  subst e1 e2
  refine ⟨Nat.le_trans hl (by decide), ?_⟩
  refine w_pick (hd.new _) get_new (by omega) hn fun d μ2 hm f2 d2 => h d _ hm ?_ (d2.gc kl)
  exact (((Fr.refl _ _).new _).trans f2).gc
theorem w_ixL {i : Nat} {as : Sl → M (List D)} {ds : List D} {v : Int} {x : D} (hv : ρ[i]? = some (some (.int v))) (ha : Ev nX (fun xs μ1 => xs = ds ∧ μ1 = μ) (as ρ μ)) (hl : ds.length ≤ 1000) (hat : atI ds v = some x) (h : ∀ μ', Fr no μ μ' → Q x μ') :
    Ev X Q (gcE (binE ixD (lstE as) (varE i)) ρ μ) := by
  simp only [ev_gcE, ev_binE, ev_lstE, ev_varE, hv]
  refine ha.imp (fun xs μ1 ⟨e1, e2⟩ => ?_) fun _ _ z => z.elim
  subst e1 e2
  refine ⟨Nat.le_trans hl (by decide), ?_⟩
  rw [ev_ixL get_new hat]
  exact h _ ((Fr.refl _ _).new _).gc
theorem fr1 {k : Nat} {μ' : Mu} (f : Fr no μ μ') : Fr (at1 k) μ μ' := f.mono fun _ z => z.elim
/-- where an outlet leads -/
theorem w_to {k a c e : Nat} {i m p : Int} (hv : ρ[0]? = some (some (.mr k))) (h1 : ρ[a]? = some (some (.int i))) (h2 : ρ[c]? = some (some (.int m))) (h3 : ρ[e]? = some (some (.int p))) (hd : Dr b μ k) (i0 : 0 ≤ i) (i1 : i ≤ 100) (m0 : 0 ≤ m + p) (m1 : m + p ≤ 100)
    (h : ∀ v μ', v = -1 ∨ (i + 1 ≤ v ∧ v < m + p) → Fr (at1 k) μ μ' → Dr b μ' k → Q (.int v) μ') :
    Ev X Q (gcE (callE d_u_law_pick (consA (varE 0) (consA (binE addD (lstE (consA (unE negD (cE (.int 1))) nilA)) (listR2 (binE addD (varE a) (cE (.int 1))) (binE addD (varE c) (varE e)))) nilA))) ρ μ) := by
  have kl := hd.lt
  simp only [ev_gcE, ev_rgL, hv, h1, h2, h3, ev_ix0, ev_ix1, ev_ix2, ws_seq, ws_next, ws_expr, ws_ret, ws_retN, ws_break, ws_set, ws_asg, ws_if, ws_raise, ws_par, ws_eff, ws_for, ev_varE, ev_cE, ev_binE, ev_unE, ev_nilA, ev_consA, ev_starA, ev_tupE, ev_newL, ev_lstE, ev_ifE, ev_asB, ev_valT, ev_andT, ev_orT, ev_notT, ev_andE, ev_intD, ev_addI, ev_addT, ev_mulI, ev_mulT, ev_negI, ev_isN, ev_isB, ev_eqI, ev_callE, ev_lenT, ev_intC, ev_listT, ev_two, ev_chainE, ev_lastC, ev_lastT, ev_linkC, ev_linkT, ev_truT, ev_mtE, ev_yesT, ev_all, ev_seqI, ev_rng1, ev_rng2, ev_zip, ev_enum, ev_lcE, ev_lc2E, lc_item, lc_item2, List.map_cons, List.map_nil, List.cons_append, List.nil_append, List.append_nil, List.replicate_succ, List.replicate_zero, Nat.reduceSub, Nat.reduceAdd, List.getElem?_cons_zero, List.getElem?_cons_succ, List.getElem?_nil, List.set_cons_zero, List.set_cons_succ, asg_nm, asg_tp, asgs_nil, asgs_cons, Option.bind_some, List.length_cons, List.length_nil, wipeD, true_and, and_true, if_true, if_false, Bool.false_eq_true, decide_eq_true_eq, Bool.not_true, Bool.not_false, Bool.xor_false, Bool.false_xor, Bool.true_xor, Bool.not_eq_true', decide_eq_false_iff_not, reduceIte]
  refine ⟨by decide, ?_, ?_⟩
  · exact RgOk.of_le (by omega) (by omega) (by omega) (by omega)
  have g1 : (μ ++ [Cell.lst [D.int (-1)]] ++ [Cell.lst (rngD (i + 1) (m + p - (i + 1)).toNat)])[μ.length]? = some (.lst [D.int (-1)]) := get_old get_new
  have g2 : (μ ++ [Cell.lst [D.int (-1)]] ++ [Cell.lst (rngD (i + 1) (m + p - (i + 1)).toNat)])[(μ ++ [Cell.lst [D.int (-1)]]).length]? = some (.lst (rngD (i + 1) (m + p - (i + 1)).toNat)) := get_new
  rw [ev_addL g1 g2]
  refine ⟨by rw [rngD_eq, List.length_map, rng_len, size_eq]; show 1 + _ ≤ _; omega, ?_⟩
  refine w_pick (((hd.new _).new _).new _) get_new (by simp; omega) (by simp) fun d μ2 hm f2 d2 => ?_
  have hm2 : ∃ v, d = .int v ∧ (v = -1 ∨ (i + 1 ≤ v ∧ v < m + p)) := by
    rcases List.mem_append.mp hm with z | z
    · exact ⟨-1, by simpa using z, .inl rfl⟩
    · rw [rngD_eq] at z
      obtain ⟨v, hv, rfl⟩ := List.mem_map.mp z
      obtain ⟨q, hq⟩ := List.getElem?_of_mem hv
      obtain ⟨q1, q2⟩ := rng_get hq
      exact ⟨v, rfl, .inr (by omega)⟩
  obtain ⟨v, rfl, hv2⟩ := hm2
  exact h v _ hv2 (((((Fr.refl _ _).new _).new _).new _).trans f2).gc (d2.gc kl)
theorem ints_mem {d : D} {vs : List Int} (h : d ∈ vs.map D.int) : ∃ v ∈ vs, d = .int v := by
  obtain ⟨v, h1, h2⟩ := List.mem_map.mp h
  exact ⟨v, h1, h2.symm⟩
theorem sizes_cap {c : Int} (hc : 1 ≤ c) : ∀ {rs : List Reg}, (∀ r ∈ rs, r.lo ≤ r.hi ∧ r.hi - r.lo + 1 ≤ c) → 1 ≤ sizes rs ∧ sizes rs ≤ c ^ rs.length
  | [], _ => ⟨Int.le_refl _, by show (1 : Int) ≤ c ^ 0; rw [Int.pow_zero]; exact Int.le_refl _⟩
  | r :: rs, h => by
    have h1 := sizes_cap hc (rs := rs) fun r hr => h r (List.mem_cons_of_mem _ hr)
    have h2 := h r (List.mem_cons_self ..)
    show 1 ≤ (r.hi - r.lo + 1) * sizes rs ∧ (r.hi - r.lo + 1) * sizes rs ≤ c ^ (rs.length + 1)
    rw [Int.pow_succ, Int.mul_comm (c ^ rs.length)]
    have a1 := Int.mul_le_mul h2.2 h1.2 (by omega) (by omega)
    have a2 := Int.mul_le_mul (show (1 : Int) ≤ r.hi - r.lo + 1 by omega) h1.1 (by omega) (by omega)
    exact ⟨by omega, a1⟩
structure RsOk (last c : Int) (i : Nat) (rs : List Reg) : Prop where
  len : rs.length = i
  rg : ∀ (j : Nat) (r : Reg), rs[j]? = some r → RegOk r j last ∧ r.hi - r.lo + 1 ≤ c
theorem RsOk.snoc {last c : Int} {i : Nat} {rs : List Reg} {r : Reg} (h : RsOk last c i rs) (hr : RegOk r i last) (hc : r.hi - r.lo + 1 ≤ c) : RsOk last c (i + 1) (rs ++ [r]) := by
  refine ⟨by rw [List.length_append, h.len]; rfl, fun j r' hj => ?_⟩
  by_cases jl : j < rs.length
  · rw [List.getElem?_append_left jl] at hj
    exact h.rg j r' hj
  · have := (List.getElem?_eq_some_iff.mp hj).1
    rw [List.length_append] at this
    have e : j = rs.length := by
      have : j < rs.length + 1 := this
      omega
    subst e
    rw [List.getElem?_append_right (Nat.le_refl _), Nat.sub_self] at hj
    have : r = r' := by simpa using hj
    subst this
    rw [h.len]
    exact ⟨hr, hc⟩
theorem RsOk.prog {p : Pg} {c : Int} {n : Nat} (h : RsOk p.last c n p.rs) (hn : n ≤ 3) (p1 : 1 ≤ p.ps) (p2 : p.ps ≤ 3) (hc : 1 ≤ c) (cap : c ^ n ≤ 2000) (k1 : 1 ≤ p.ks.length) (k2 : p.ks.length ≤ 6) (hk : ∀ k ∈ p.ks, KindOk k p.last) : PgOk p := by
  refine ⟨by rw [h.len]; exact hn, p1, p2, k1, k2, fun i r hr => (h.rg i r hr).1, ?_, hk⟩
  have := sizes_cap hc (rs := p.rs) fun r hr => by
    obtain ⟨j, hj⟩ := List.getElem?_of_mem hr
    have := h.rg j r hj
    exact ⟨Int.le_trans this.1.2.1 this.1.2.2.1, this.2⟩
  rw [h.len] at this
  omega
def OsOk (i last : Int) (os : List (Int × Int)) : Prop := ∀ o ∈ os, OutOk o (i + 1) last
theorem os_snoc {i last : Int} {os : List (Int × Int)} {o : Int × Int} (h : OsOk i last os) (ho : OutOk o (i + 1) last) : OsOk i last (os ++ [o]) := fun x hx => by
  rcases List.mem_append.mp hx with z | z
  · exact h x z
  · have : x = o := by simpa using z
    rw [this]; exact ho
theorem map_oD {os : List (Int × Int)} {x y : Int} : os.map oD ++ [.tup [.int x, .int y]] = (os ++ [(x, y)]).map oD := by rw [List.map_append]; rfl
theorem map_rD {rs : List Reg} {lo hi st : Int} {o1 o2 : Int × Int} : rs.map rD ++ [.tup [.int lo, .int hi, .int st, oD o1, oD o2]] = (rs ++ ([⟨lo, hi, st, o1, o2⟩] : List Reg)).map rD := by rw [List.map_append]; rfl
theorem map_kD {ks : List (List (Int × Int))} {es : List (Int × Int)} : ks.map kD ++ [.tup (es.map oD)] = (ks ++ [es]).map kD := by rw [List.map_append]; rfl
theorem os_two {os : List (Int × Int)} (h : os.length = 2) : ∃ a c, os = [a, c] := by
  match os, h with
  | [a, c], _ => exact ⟨a, c, rfl⟩
def CapOk (many c : Int) : Prop := (many = 0 ∧ c = 9) ∨ (many = 1 ∧ c = 9) ∨ (many = 2 ∧ c = 6) ∨ (many = 3 ∧ c = 3)
theorem w_program {k : Nat} (hd : Dr b μ k) (h : ∀ p μ', PgOk p → Fr (at1 k) μ μ' → Dr b μ' k → Q (pD p) μ') : Ev X Q (d_u_law_program [.mr k] μ) := by
  refine den_of rfl ?_
  unfold b_u_law_program
  have zz := size_eq
  have kl := hd.lt
  simp only [ev_ix0, ev_ix1, ev_ix2, ws_seq, ws_next, ws_expr, ws_ret, ws_retN, ws_break, ws_set, ws_asg, ws_if, ws_raise, ws_par, ws_eff, ws_for, ev_varE, ev_cE, ev_binE, ev_unE, ev_nilA, ev_consA, ev_starA, ev_tupE, ev_newL, ev_lstE, ev_ifE, ev_asB, ev_valT, ev_andT, ev_orT, ev_notT, ev_andE, ev_intD, ev_addI, ev_addT, ev_mulI, ev_mulT, ev_negI, ev_isN, ev_isB, ev_eqI, ev_callE, ev_lenT, ev_intC, ev_listT, ev_two, ev_chainE, ev_lastC, ev_lastT, ev_linkC, ev_linkT, ev_truT, ev_mtE, ev_yesT, ev_all, ev_seqI, ev_rng1, ev_rng2, ev_zip, ev_enum, ev_lcE, ev_lc2E, lc_item, lc_item2, List.map_cons, List.map_nil, List.cons_append, List.nil_append, List.append_nil, List.replicate_succ, List.replicate_zero, Nat.reduceSub, Nat.reduceAdd, List.getElem?_cons_zero, List.getElem?_cons_succ, List.getElem?_nil, List.set_cons_zero, List.set_cons_succ, asg_nm, asg_tp, asgs_nil, asgs_cons, Option.bind_some, List.length_cons, List.length_nil, wipeD, true_and, and_true, if_true, if_false, Bool.false_eq_true, decide_eq_true_eq, Bool.not_true, Bool.not_false, Bool.xor_false, Bool.false_xor, Bool.true_xor, Bool.not_eq_true', decide_eq_false_iff_not, reduceIte]
  refine w_pickL (ds := [1, 2, 1, 2, 1, 0, 3].map D.int) rfl hd (by simp only [ev_ix0, ev_ix1, ev_ix2, ws_seq, ws_next, ws_expr, ws_ret, ws_retN, ws_break, ws_set, ws_asg, ws_if, ws_raise, ws_par, ws_eff, ws_for, ev_varE, ev_cE, ev_binE, ev_unE, ev_nilA, ev_consA, ev_starA, ev_tupE, ev_newL, ev_lstE, ev_ifE, ev_asB, ev_valT, ev_andT, ev_orT, ev_notT, ev_andE, ev_intD, ev_addI, ev_addT, ev_mulI, ev_mulT, ev_negI, ev_isN, ev_isB, ev_eqI, ev_callE, ev_lenT, ev_intC, ev_listT, ev_two, ev_chainE, ev_lastC, ev_lastT, ev_linkC, ev_linkT, ev_truT, ev_mtE, ev_yesT, ev_all, ev_seqI, ev_rng1, ev_rng2, ev_zip, ev_enum, ev_lcE, ev_lc2E, lc_item, lc_item2, List.map_cons, List.map_nil, List.cons_append, List.nil_append, List.append_nil, List.replicate_succ, List.replicate_zero, Nat.reduceSub, Nat.reduceAdd, List.getElem?_cons_zero, List.getElem?_cons_succ, List.getElem?_nil, List.set_cons_zero, List.set_cons_succ, asg_nm, asg_tp, asgs_nil, asgs_cons, Option.bind_some, List.length_cons, List.length_nil, wipeD, true_and, and_true, if_true, if_false, Bool.false_eq_true, decide_eq_true_eq, Bool.not_true, Bool.not_false, Bool.xor_false, Bool.false_xor, Bool.true_xor, Bool.not_eq_true', decide_eq_false_iff_not, reduceIte]; try exact ⟨rfl, rfl⟩) (by decide) (by simp) fun d μ1 hm f1 d1 => ?_
  obtain ⟨many, hm, rfl⟩ := ints_mem hm
  have hm' : 0 ≤ many ∧ many ≤ 3 := by simp at hm; omega
  refine w_pickL (ds := [1, 1, 2, 3].map D.int) rfl d1 (by simp only [ev_ix0, ev_ix1, ev_ix2, ws_seq, ws_next, ws_expr, ws_ret, ws_retN, ws_break, ws_set, ws_asg, ws_if, ws_raise, ws_par, ws_eff, ws_for, ev_varE, ev_cE, ev_binE, ev_unE, ev_nilA, ev_consA, ev_starA, ev_tupE, ev_newL, ev_lstE, ev_ifE, ev_asB, ev_valT, ev_andT, ev_orT, ev_notT, ev_andE, ev_intD, ev_addI, ev_addT, ev_mulI, ev_mulT, ev_negI, ev_isN, ev_isB, ev_eqI, ev_callE, ev_lenT, ev_intC, ev_listT, ev_two, ev_chainE, ev_lastC, ev_lastT, ev_linkC, ev_linkT, ev_truT, ev_mtE, ev_yesT, ev_all, ev_seqI, ev_rng1, ev_rng2, ev_zip, ev_enum, ev_lcE, ev_lc2E, lc_item, lc_item2, List.map_cons, List.map_nil, List.cons_append, List.nil_append, List.append_nil, List.replicate_succ, List.replicate_zero, Nat.reduceSub, Nat.reduceAdd, List.getElem?_cons_zero, List.getElem?_cons_succ, List.getElem?_nil, List.set_cons_zero, List.set_cons_succ, asg_nm, asg_tp, asgs_nil, asgs_cons, Option.bind_some, List.length_cons, List.length_nil, wipeD, true_and, and_true, if_true, if_false, Bool.false_eq_true, decide_eq_true_eq, Bool.not_true, Bool.not_false, Bool.xor_false, Bool.false_xor, Bool.true_xor, Bool.not_eq_true', decide_eq_false_iff_not, reduceIte]; try exact ⟨rfl, rfl⟩) (by decide) (by simp) fun d μ2 hp f2 d2 => ?_
  obtain ⟨purses, hp, rfl⟩ := ints_mem hp
  have hp' : 1 ≤ purses ∧ purses ≤ 3 := by simp at hp; omega
  have hcap : ∃ c, CapOk many c ∧ atI [D.int 9, D.int 9, D.int 6, D.int 3] many = some (.int c) := by
    have : many = 0 ∨ many = 1 ∨ many = 2 ∨ many = 3 := by omega
    rcases this with rfl | rfl | rfl | rfl
    · exact ⟨9, .inl ⟨rfl, rfl⟩, rfl⟩
    · exact ⟨9, .inr (.inl ⟨rfl, rfl⟩), rfl⟩
    · exact ⟨6, .inr (.inr (.inl ⟨rfl, rfl⟩)), rfl⟩
    · exact ⟨3, .inr (.inr (.inr ⟨rfl, rfl⟩)), rfl⟩
  obtain ⟨c, hc, hat⟩ := hcap
  have hc' : 3 ≤ c ∧ c ≤ 9 := by unfold CapOk at hc; omega
  refine w_ixL (ds := [9, 9, 6, 3].map D.int) rfl (by simp only [ev_ix0, ev_ix1, ev_ix2, ws_seq, ws_next, ws_expr, ws_ret, ws_retN, ws_break, ws_set, ws_asg, ws_if, ws_raise, ws_par, ws_eff, ws_for, ev_varE, ev_cE, ev_binE, ev_unE, ev_nilA, ev_consA, ev_starA, ev_tupE, ev_newL, ev_lstE, ev_ifE, ev_asB, ev_valT, ev_andT, ev_orT, ev_notT, ev_andE, ev_intD, ev_addI, ev_addT, ev_mulI, ev_mulT, ev_negI, ev_isN, ev_isB, ev_eqI, ev_callE, ev_lenT, ev_intC, ev_listT, ev_two, ev_chainE, ev_lastC, ev_lastT, ev_linkC, ev_linkT, ev_truT, ev_mtE, ev_yesT, ev_all, ev_seqI, ev_rng1, ev_rng2, ev_zip, ev_enum, ev_lcE, ev_lc2E, lc_item, lc_item2, List.map_cons, List.map_nil, List.cons_append, List.nil_append, List.append_nil, List.replicate_succ, List.replicate_zero, Nat.reduceSub, Nat.reduceAdd, List.getElem?_cons_zero, List.getElem?_cons_succ, List.getElem?_nil, List.set_cons_zero, List.set_cons_succ, asg_nm, asg_tp, asgs_nil, asgs_cons, Option.bind_some, List.length_cons, List.length_nil, wipeD, true_and, and_true, if_true, if_false, Bool.false_eq_true, decide_eq_true_eq, Bool.not_true, Bool.not_false, Bool.xor_false, Bool.false_xor, Bool.true_xor, Bool.not_eq_true', decide_eq_false_iff_not, reduceIte]; try exact ⟨rfl, rfl⟩) (by decide) hat fun μ3 f3 => ?_
  have d3 := d2.more f3
  have f03 : Fr (at1 k) μ μ3 := (f1.trans f2).trans (fr1 f3)
  have l3 := f03.len
  refine ⟨Nat.zero_le _, ⟨by omega, by omega⟩, ?_⟩
  rw [rngD_eq]
  refine ws_fix (fun i ρ' μ' => Fr (at1 k) μ μ' ∧ Dr b μ' k ∧ ∃ rs x5 x6 x7 x8 x9 x10 x11 x12 x13 x14 x15, ρ' = [some (.mr k), some (.int many), some (.int purses), some (.int c), some (.mr μ3.length), x5, x6, x7, x8, x9, x10, x11, x12, x13, x14, x15] ∧ μ'[μ3.length]? = some (.lst (rs.map rD)) ∧ RsOk (many + purses - 1) (c + 3) i rs)
    ⟨f03.new _, d3.new _, [], _, _, _, _, _, _, _, _, _, _, _, rfl, get_new, rfl, (fun j r hj => by simp at hj)⟩ (fun i d ρ' μ' hd ⟨f, dk, rs, x5, x6, x7, x8, x9, x10, x11, x12, x13, x14, x15, e, g, ro⟩ => ?_) (fun ρ' μ' ⟨f, dk, rs, x5, x6, x7, x8, x9, x10, x11, x12, x13, x14, x15, e, g, ro⟩ => ?_)
  · subst e
    rw [List.getElem?_map] at hd
    obtain ⟨iv, hiv, rfl⟩ := Option.map_eq_some_iff.mp hd
    obtain ⟨il, ie⟩ := rng_get hiv
    have ie' : iv = i := by omega
    subst ie'
    have kr : μ3.length ≠ k := by omega
    refine ⟨_, rfl, ?_⟩
    simp only [ev_ix0, ev_ix1, ev_ix2, ws_seq, ws_next, ws_expr, ws_ret, ws_retN, ws_break, ws_set, ws_asg, ws_if, ws_raise, ws_par, ws_eff, ws_for, ev_varE, ev_cE, ev_binE, ev_unE, ev_nilA, ev_consA, ev_starA, ev_tupE, ev_newL, ev_lstE, ev_ifE, ev_asB, ev_valT, ev_andT, ev_orT, ev_notT, ev_andE, ev_intD, ev_addI, ev_addT, ev_mulI, ev_mulT, ev_negI, ev_isN, ev_isB, ev_eqI, ev_callE, ev_lenT, ev_intC, ev_listT, ev_two, ev_chainE, ev_lastC, ev_lastT, ev_linkC, ev_linkT, ev_truT, ev_mtE, ev_yesT, ev_all, ev_seqI, ev_rng1, ev_rng2, ev_zip, ev_enum, ev_lcE, ev_lc2E, lc_item, lc_item2, List.map_cons, List.map_nil, List.cons_append, List.nil_append, List.append_nil, List.replicate_succ, List.replicate_zero, Nat.reduceSub, Nat.reduceAdd, List.getElem?_cons_zero, List.getElem?_cons_succ, List.getElem?_nil, List.set_cons_zero, List.set_cons_succ, asg_nm, asg_tp, asgs_nil, asgs_cons, Option.bind_some, List.length_cons, List.length_nil, wipeD, true_and, and_true, if_true, if_false, Bool.false_eq_true, decide_eq_true_eq, Bool.not_true, Bool.not_false, Bool.xor_false, Bool.false_xor, Bool.true_xor, Bool.not_eq_true', decide_eq_false_iff_not, reduceIte]
    refine w_next dk fun v1 μ4 f4 d4 a0 a1 => ?_
    simp only [ev_ix0, ev_ix1, ev_ix2, ws_seq, ws_next, ws_expr, ws_ret, ws_retN, ws_break, ws_set, ws_asg, ws_if, ws_raise, ws_par, ws_eff, ws_for, ev_varE, ev_cE, ev_binE, ev_unE, ev_nilA, ev_consA, ev_starA, ev_tupE, ev_newL, ev_lstE, ev_ifE, ev_asB, ev_valT, ev_andT, ev_orT, ev_notT, ev_andE, ev_intD, ev_addI, ev_addT, ev_mulI, ev_mulT, ev_negI, ev_isN, ev_isB, ev_eqI, ev_callE, ev_lenT, ev_intC, ev_listT, ev_two, ev_chainE, ev_lastC, ev_lastT, ev_linkC, ev_linkT, ev_truT, ev_mtE, ev_yesT, ev_all, ev_seqI, ev_rng1, ev_rng2, ev_zip, ev_enum, ev_lcE, ev_lc2E, lc_item, lc_item2, List.map_cons, List.map_nil, List.cons_append, List.nil_append, List.append_nil, List.replicate_succ, List.replicate_zero, Nat.reduceSub, Nat.reduceAdd, List.getElem?_cons_zero, List.getElem?_cons_succ, List.getElem?_nil, List.set_cons_zero, List.set_cons_succ, asg_nm, asg_tp, asgs_nil, asgs_cons, Option.bind_some, List.length_cons, List.length_nil, wipeD, true_and, and_true, if_true, if_false, Bool.false_eq_true, decide_eq_true_eq, Bool.not_true, Bool.not_false, Bool.xor_false, Bool.false_xor, Bool.true_xor, Bool.not_eq_true', decide_eq_false_iff_not, reduceIte]
    refine ⟨by omega, ?_⟩
    refine w_next d4 fun v2 μ5 f5 d5 b0 b1 => ?_
    simp only [ev_ix0, ev_ix1, ev_ix2, ws_seq, ws_next, ws_expr, ws_ret, ws_retN, ws_break, ws_set, ws_asg, ws_if, ws_raise, ws_par, ws_eff, ws_for, ev_varE, ev_cE, ev_binE, ev_unE, ev_nilA, ev_consA, ev_starA, ev_tupE, ev_newL, ev_lstE, ev_ifE, ev_asB, ev_valT, ev_andT, ev_orT, ev_notT, ev_andE, ev_intD, ev_addI, ev_addT, ev_mulI, ev_mulT, ev_negI, ev_isN, ev_isB, ev_eqI, ev_callE, ev_lenT, ev_intC, ev_listT, ev_two, ev_chainE, ev_lastC, ev_lastT, ev_linkC, ev_linkT, ev_truT, ev_mtE, ev_yesT, ev_all, ev_seqI, ev_rng1, ev_rng2, ev_zip, ev_enum, ev_lcE, ev_lc2E, lc_item, lc_item2, List.map_cons, List.map_nil, List.cons_append, List.nil_append, List.append_nil, List.replicate_succ, List.replicate_zero, Nat.reduceSub, Nat.reduceAdd, List.getElem?_cons_zero, List.getElem?_cons_succ, List.getElem?_nil, List.set_cons_zero, List.set_cons_succ, asg_nm, asg_tp, asgs_nil, asgs_cons, Option.bind_some, List.length_cons, List.length_nil, wipeD, true_and, and_true, if_true, if_false, Bool.false_eq_true, decide_eq_true_eq, Bool.not_true, Bool.not_false, Bool.xor_false, Bool.false_xor, Bool.true_xor, Bool.not_eq_true', decide_eq_false_iff_not, reduceIte]
    refine ⟨by omega, ?_⟩
    have m1 := mod_lo (i := v1) (j := 4) (by omega)
    have m2 := mod_lo (i := v2) (j := c) (by omega)
    generalize v1 % 4 = u1 at m1 ⊢
    generalize v2 % c = hi at m2 ⊢
    refine w_next d5 fun v3 μ6 f6 d6 c0 c1 => ?_
    simp only [ev_ix0, ev_ix1, ev_ix2, ws_seq, ws_next, ws_expr, ws_ret, ws_retN, ws_break, ws_set, ws_asg, ws_if, ws_raise, ws_par, ws_eff, ws_for, ev_varE, ev_cE, ev_binE, ev_unE, ev_nilA, ev_consA, ev_starA, ev_tupE, ev_newL, ev_lstE, ev_ifE, ev_asB, ev_valT, ev_andT, ev_orT, ev_notT, ev_andE, ev_intD, ev_addI, ev_addT, ev_mulI, ev_mulT, ev_negI, ev_isN, ev_isB, ev_eqI, ev_callE, ev_lenT, ev_intC, ev_listT, ev_two, ev_chainE, ev_lastC, ev_lastT, ev_linkC, ev_linkT, ev_truT, ev_mtE, ev_yesT, ev_all, ev_seqI, ev_rng1, ev_rng2, ev_zip, ev_enum, ev_lcE, ev_lc2E, lc_item, lc_item2, List.map_cons, List.map_nil, List.cons_append, List.nil_append, List.append_nil, List.replicate_succ, List.replicate_zero, Nat.reduceSub, Nat.reduceAdd, List.getElem?_cons_zero, List.getElem?_cons_succ, List.getElem?_nil, List.set_cons_zero, List.set_cons_succ, asg_nm, asg_tp, asgs_nil, asgs_cons, Option.bind_some, List.length_cons, List.length_nil, wipeD, true_and, and_true, if_true, if_false, Bool.false_eq_true, decide_eq_true_eq, Bool.not_true, Bool.not_false, Bool.xor_false, Bool.false_xor, Bool.true_xor, Bool.not_eq_true', decide_eq_false_iff_not, reduceIte]
    refine ⟨by omega, Nat.zero_le _, ⟨by omega, by omega⟩, ?_⟩
    have m3 := mod_lo (i := v3) (j := hi - (0 - u1) + 1) (by omega)
    generalize v3 % (hi - (0 - u1) + 1) = u3 at m3 ⊢
    have f456 := (f4.trans f5).trans f6
    have g6 := f456.at_ _ _ g kr
    have l6 := lt_of_get g6
    have hl2 : (rngD 0 (Int.toNat 2)).length = 2 := rfl
    generalize rngD 0 (Int.toNat 2) = ds2 at hl2 ⊢
    refine ws_fix (fun j ρ2 μ7 => Fr (at1 k) μ μ7 ∧ Dr b μ7 k ∧ μ7[μ3.length]? = some (.lst (rs.map rD)) ∧ ∃ os x10 x15, ρ2 = [some (.mr k), some (.int many), some (.int purses), some (.int c), some (.mr μ3.length), some (.int i), x6, x7, some (.int (0 - u1 + u3)), some (.mr μ6.length), x10, x11, x12, some (.int (0 - u1)), some (.int hi), x15] ∧ μ7[μ6.length]? = some (.lst (os.map oD)) ∧ OsOk i (many + purses - 1) os ∧ os.length = j)
      ⟨(f.trans f456).new _, d6.new _, get_old g6, [], _, _, rfl, get_new, (fun o ho => by simp at ho), rfl⟩ (fun j d ρ2 μ7 hd2 ⟨f7, d7, g7, os, x10, x15, e2, q7, oo, ol⟩ => ?_) (fun ρ2 μ7 ⟨f7, d7, g7, os, x10, x15, e2, q7, oo, ol⟩ => ?_)
    · subst e2
      have jl : j < 2 := by
        have := (List.getElem?_eq_some_iff.mp hd2).1
        rw [hl2] at this
        exact this
      have ml := f.len
      have kq : μ6.length ≠ k := by have := d6.lt; omega
      refine ⟨_, rfl, ?_⟩
      simp only [ev_ix0, ev_ix1, ev_ix2, ws_seq, ws_next, ws_expr, ws_ret, ws_retN, ws_break, ws_set, ws_asg, ws_if, ws_raise, ws_par, ws_eff, ws_for, ev_varE, ev_cE, ev_binE, ev_unE, ev_nilA, ev_consA, ev_starA, ev_tupE, ev_newL, ev_lstE, ev_ifE, ev_asB, ev_valT, ev_andT, ev_orT, ev_notT, ev_andE, ev_intD, ev_addI, ev_addT, ev_mulI, ev_mulT, ev_negI, ev_isN, ev_isB, ev_eqI, ev_callE, ev_lenT, ev_intC, ev_listT, ev_two, ev_chainE, ev_lastC, ev_lastT, ev_linkC, ev_linkT, ev_truT, ev_mtE, ev_yesT, ev_all, ev_seqI, ev_rng1, ev_rng2, ev_zip, ev_enum, ev_lcE, ev_lc2E, lc_item, lc_item2, List.map_cons, List.map_nil, List.cons_append, List.nil_append, List.append_nil, List.replicate_succ, List.replicate_zero, Nat.reduceSub, Nat.reduceAdd, List.getElem?_cons_zero, List.getElem?_cons_succ, List.getElem?_nil, List.set_cons_zero, List.set_cons_succ, asg_nm, asg_tp, asgs_nil, asgs_cons, Option.bind_some, List.length_cons, List.length_nil, wipeD, true_and, and_true, if_true, if_false, Bool.false_eq_true, decide_eq_true_eq, Bool.not_true, Bool.not_false, Bool.xor_false, Bool.false_xor, Bool.true_xor, Bool.not_eq_true', decide_eq_false_iff_not, reduceIte]
      generalize hρ : ([some (.mr k), some (.int many), some (.int purses), some (.int c), some (.mr μ3.length), some (.int i), x6, x7, some (.int (0 - u1 + u3)), some (.mr μ6.length), some _, x11, x12, some (.int (0 - u1)), some (.int hi), x15] : Sl) = ρ3
      refine w_to (k := k) (a := 5) (c := 1) (e := 2) (i := i) (m := many) (p := purses) (by rw [← hρ]; rfl) (by rw [← hρ]; rfl) (by rw [← hρ]; rfl) (by rw [← hρ]; rfl) d7 (by omega) (by omega) (by omega) (by omega) fun to_ μ8 hto f8 d8 => ?_
      subst hρ
      have q8 := f8.at_ _ _ q7 kq
      have g8 := f8.at_ _ _ g7 kr
      simp only [ev_recvL q8, ev_ix0, ev_ix1, ev_ix2, ws_seq, ws_next, ws_expr, ws_ret, ws_retN, ws_break, ws_set, ws_asg, ws_if, ws_raise, ws_par, ws_eff, ws_for, ev_varE, ev_cE, ev_binE, ev_unE, ev_nilA, ev_consA, ev_starA, ev_tupE, ev_newL, ev_lstE, ev_ifE, ev_asB, ev_valT, ev_andT, ev_orT, ev_notT, ev_andE, ev_intD, ev_addI, ev_addT, ev_mulI, ev_mulT, ev_negI, ev_isN, ev_isB, ev_eqI, ev_callE, ev_lenT, ev_intC, ev_listT, ev_two, ev_chainE, ev_lastC, ev_lastT, ev_linkC, ev_linkT, ev_truT, ev_mtE, ev_yesT, ev_all, ev_seqI, ev_rng1, ev_rng2, ev_zip, ev_enum, ev_lcE, ev_lc2E, lc_item, lc_item2, List.map_cons, List.map_nil, List.cons_append, List.nil_append, List.append_nil, List.replicate_succ, List.replicate_zero, Nat.reduceSub, Nat.reduceAdd, List.getElem?_cons_zero, List.getElem?_cons_succ, List.getElem?_nil, List.set_cons_zero, List.set_cons_succ, asg_nm, asg_tp, asgs_nil, asgs_cons, Option.bind_some, List.length_cons, List.length_nil, wipeD, true_and, and_true, if_true, if_false, Bool.false_eq_true, decide_eq_true_eq, Bool.not_true, Bool.not_false, Bool.xor_false, Bool.false_xor, Bool.true_xor, Bool.not_eq_true', decide_eq_false_iff_not, reduceIte]
      by_cases tz : to_ < 0
      · rw [if_pos tz]
        rw [ev_append q8]
        refine ⟨by omega, by rw [List.length_map]; omega, (f7.trans f8).set _ (fun z => by have := (f.trans f456).len; omega), d8.set _ kq, get_set_ne g8 (by omega), os ++ [(to_, 0)], _, _, rfl, ?_, os_snoc oo (.inl ⟨by dsimp only; omega, rfl⟩), by rw [List.length_append, ol]; rfl⟩
        rw [get_set q8, map_oD]
      · rw [if_neg tz]
        refine w_next d8 fun v4 μ9 f9 d9 e0 e1 => ?_
        have q9 := f9.at_ _ _ q8 kq
        have g9 := f9.at_ _ _ g8 kr
        have m4 := mod_lo (i := v4) (j := 6) (by omega)
        simp only [ev_append q9, ev_ix0, ev_ix1, ev_ix2, ws_seq, ws_next, ws_expr, ws_ret, ws_retN, ws_break, ws_set, ws_asg, ws_if, ws_raise, ws_par, ws_eff, ws_for, ev_varE, ev_cE, ev_binE, ev_unE, ev_nilA, ev_consA, ev_starA, ev_tupE, ev_newL, ev_lstE, ev_ifE, ev_asB, ev_valT, ev_andT, ev_orT, ev_notT, ev_andE, ev_intD, ev_addI, ev_addT, ev_mulI, ev_mulT, ev_negI, ev_isN, ev_isB, ev_eqI, ev_callE, ev_lenT, ev_intC, ev_listT, ev_two, ev_chainE, ev_lastC, ev_lastT, ev_linkC, ev_linkT, ev_truT, ev_mtE, ev_yesT, ev_all, ev_seqI, ev_rng1, ev_rng2, ev_zip, ev_enum, ev_lcE, ev_lc2E, lc_item, lc_item2, List.map_cons, List.map_nil, List.cons_append, List.nil_append, List.append_nil, List.replicate_succ, List.replicate_zero, Nat.reduceSub, Nat.reduceAdd, List.getElem?_cons_zero, List.getElem?_cons_succ, List.getElem?_nil, List.set_cons_zero, List.set_cons_succ, asg_nm, asg_tp, asgs_nil, asgs_cons, Option.bind_some, List.length_cons, List.length_nil, wipeD, true_and, and_true, if_true, if_false, Bool.false_eq_true, decide_eq_true_eq, Bool.not_true, Bool.not_false, Bool.xor_false, Bool.false_xor, Bool.true_xor, Bool.not_eq_true', decide_eq_false_iff_not, reduceIte]
        refine ⟨by omega, by omega, by rw [List.length_map]; omega, ((f7.trans f8).trans f9).set _ (fun z => by have := (f.trans f456).len; omega), d9.set _ kq, get_set_ne g9 (by omega), os ++ [(to_, v4 % 6 - 2)], _, _, rfl, ?_, os_snoc oo (.inr ⟨by omega, by dsimp only; omega, by dsimp only; omega, by dsimp only; omega, by dsimp only; omega⟩), by rw [List.length_append, ol]; rfl⟩
        rw [get_set q9, map_oD]
    · subst e2
      rw [hl2] at ol
      obtain ⟨o1, o2, rfl⟩ := os_two ol
      have w1 := oo o1 (by simp)
      have w2 := oo o2 (by simp)
      have t0 : atI ([o1, o2].map oD) 0 = some (oD o1) := rfl
      have t1 : atI ([o1, o2].map oD) 1 = some (oD o2) := rfl
      have rl := ro.len
      simp only [ev_recvL g7, ev_ixL q7 t0, ev_ixL q7 t1, ev_append g7, ev_ix0, ev_ix1, ev_ix2, ws_seq, ws_next, ws_expr, ws_ret, ws_retN, ws_break, ws_set, ws_asg, ws_if, ws_raise, ws_par, ws_eff, ws_for, ev_varE, ev_cE, ev_binE, ev_unE, ev_nilA, ev_consA, ev_starA, ev_tupE, ev_newL, ev_lstE, ev_ifE, ev_asB, ev_valT, ev_andT, ev_orT, ev_notT, ev_andE, ev_intD, ev_addI, ev_addT, ev_mulI, ev_mulT, ev_negI, ev_isN, ev_isB, ev_eqI, ev_callE, ev_lenT, ev_intC, ev_listT, ev_two, ev_chainE, ev_lastC, ev_lastT, ev_linkC, ev_linkT, ev_truT, ev_mtE, ev_yesT, ev_all, ev_seqI, ev_rng1, ev_rng2, ev_zip, ev_enum, ev_lcE, ev_lc2E, lc_item, lc_item2, List.map_cons, List.map_nil, List.cons_append, List.nil_append, List.append_nil, List.replicate_succ, List.replicate_zero, Nat.reduceSub, Nat.reduceAdd, List.getElem?_cons_zero, List.getElem?_cons_succ, List.getElem?_nil, List.set_cons_zero, List.set_cons_succ, asg_nm, asg_tp, asgs_nil, asgs_cons, Option.bind_some, List.length_cons, List.length_nil, wipeD, true_and, and_true, if_true, if_false, Bool.false_eq_true, decide_eq_true_eq, Bool.not_true, Bool.not_false, Bool.xor_false, Bool.false_xor, Bool.true_xor, Bool.not_eq_true', decide_eq_false_iff_not, reduceIte]
      refine ⟨by omega, by rw [List.length_map]; omega, f7.set _ (fun z => by omega), d7.set _ kr, rs ++ [⟨0 - u1, hi, 0 - u1 + u3, o1, o2⟩], _, _, _, _, _, _, _, _, _, _, _, rfl, ?_, ro.snoc ⟨by dsimp only; omega, by dsimp only; omega, by dsimp only; omega, by dsimp only; omega, w1, w2⟩ (by dsimp only; omega)⟩
      rw [get_set g7, map_rD]
  · subst e
    rw [List.length_map, rng_len] at ro
    simp only [ev_ix0, ev_ix1, ev_ix2, ws_seq, ws_next, ws_expr, ws_ret, ws_retN, ws_break, ws_set, ws_asg, ws_if, ws_raise, ws_par, ws_eff, ws_for, ev_varE, ev_cE, ev_binE, ev_unE, ev_nilA, ev_consA, ev_starA, ev_tupE, ev_newL, ev_lstE, ev_ifE, ev_asB, ev_valT, ev_andT, ev_orT, ev_notT, ev_andE, ev_intD, ev_addI, ev_addT, ev_mulI, ev_mulT, ev_negI, ev_isN, ev_isB, ev_eqI, ev_callE, ev_lenT, ev_intC, ev_listT, ev_two, ev_chainE, ev_lastC, ev_lastT, ev_linkC, ev_linkT, ev_truT, ev_mtE, ev_yesT, ev_all, ev_seqI, ev_rng1, ev_rng2, ev_zip, ev_enum, ev_lcE, ev_lc2E, lc_item, lc_item2, List.map_cons, List.map_nil, List.cons_append, List.nil_append, List.append_nil, List.replicate_succ, List.replicate_zero, Nat.reduceSub, Nat.reduceAdd, List.getElem?_cons_zero, List.getElem?_cons_succ, List.getElem?_nil, List.set_cons_zero, List.set_cons_succ, asg_nm, asg_tp, asgs_nil, asgs_cons, Option.bind_some, List.length_cons, List.length_nil, wipeD, true_and, and_true, if_true, if_false, Bool.false_eq_true, decide_eq_true_eq, Bool.not_true, Bool.not_false, Bool.xor_false, Bool.false_xor, Bool.true_xor, Bool.not_eq_true', decide_eq_false_iff_not, reduceIte]
    have kr : μ3.length ≠ k := by omega
    refine w_pickL (ds := [(0, 4), (-4, 9), (-4, 9), (-4, 9)].map oD) rfl dk (by unfold oD; simp only [ev_ix0, ev_ix1, ev_ix2, ws_seq, ws_next, ws_expr, ws_ret, ws_retN, ws_break, ws_set, ws_asg, ws_if, ws_raise, ws_par, ws_eff, ws_for, ev_varE, ev_cE, ev_binE, ev_unE, ev_nilA, ev_consA, ev_starA, ev_tupE, ev_newL, ev_lstE, ev_ifE, ev_asB, ev_valT, ev_andT, ev_orT, ev_notT, ev_andE, ev_intD, ev_addI, ev_addT, ev_mulI, ev_mulT, ev_negI, ev_isN, ev_isB, ev_eqI, ev_callE, ev_lenT, ev_intC, ev_listT, ev_two, ev_chainE, ev_lastC, ev_lastT, ev_linkC, ev_linkT, ev_truT, ev_mtE, ev_yesT, ev_all, ev_seqI, ev_rng1, ev_rng2, ev_zip, ev_enum, ev_lcE, ev_lc2E, lc_item, lc_item2, List.map_cons, List.map_nil, List.cons_append, List.nil_append, List.append_nil, List.replicate_succ, List.replicate_zero, Nat.reduceSub, Nat.reduceAdd, List.getElem?_cons_zero, List.getElem?_cons_succ, List.getElem?_nil, List.set_cons_zero, List.set_cons_succ, asg_nm, asg_tp, asgs_nil, asgs_cons, Option.bind_some, List.length_cons, List.length_nil, wipeD, true_and, and_true, if_true, if_false, Bool.false_eq_true, decide_eq_true_eq, Bool.not_true, Bool.not_false, Bool.xor_false, Bool.false_xor, Bool.true_xor, Bool.not_eq_true', decide_eq_false_iff_not, reduceIte]; exact ⟨by decide, by decide, by decide, by decide⟩) (by decide) (by simp) fun d μ4 hm4 f4 d4 => ?_
    have hsp : ∃ s0 s1, d = .tup [.int s0, .int s1] ∧ -4 ≤ s0 ∧ s0 ≤ 0 ∧ 1 ≤ s1 ∧ s1 ≤ 9 := by
      obtain ⟨o, ho, rfl⟩ := List.mem_map.mp hm4
      have : o = (0, 4) ∨ o = (-4, 9) := by simp at ho; exact ho
      rcases this with rfl | rfl
      · exact ⟨0, 4, rfl, by omega, by omega, by omega, by omega⟩
      · exact ⟨-4, 9, rfl, by omega, by omega, by omega, by omega⟩
    obtain ⟨s0, s1, rfl, q0, q1, q2, q3⟩ := hsp
    have g4 := f4.at_ _ _ g kr
    refine ⟨Nat.zero_le _, ?_⟩
    refine w_next (d4.new _) fun v5 μ5 f5 d5 a0 a1 => ?_
    have ml : μ.length ≤ μ4.length := (f.trans f4).len
    have k4 := d4.lt
    have g5 := f5.at_ _ _ (get_old g4) kr
    have K5 := f5.at_ _ _ (get_new (μ := μ4) (c := .lst [])) (show μ4.length ≠ k by omega)
    simp only [ev_ix0, ev_ix1, ev_ix2, ws_seq, ws_next, ws_expr, ws_ret, ws_retN, ws_break, ws_set, ws_asg, ws_if, ws_raise, ws_par, ws_eff, ws_for, ev_varE, ev_cE, ev_binE, ev_unE, ev_nilA, ev_consA, ev_starA, ev_tupE, ev_newL, ev_lstE, ev_ifE, ev_asB, ev_valT, ev_andT, ev_orT, ev_notT, ev_andE, ev_intD, ev_addI, ev_addT, ev_mulI, ev_mulT, ev_negI, ev_isN, ev_isB, ev_eqI, ev_callE, ev_lenT, ev_intC, ev_listT, ev_two, ev_chainE, ev_lastC, ev_lastT, ev_linkC, ev_linkT, ev_truT, ev_mtE, ev_yesT, ev_all, ev_seqI, ev_rng1, ev_rng2, ev_zip, ev_enum, ev_lcE, ev_lc2E, lc_item, lc_item2, List.map_cons, List.map_nil, List.cons_append, List.nil_append, List.append_nil, List.replicate_succ, List.replicate_zero, Nat.reduceSub, Nat.reduceAdd, List.getElem?_cons_zero, List.getElem?_cons_succ, List.getElem?_nil, List.set_cons_zero, List.set_cons_succ, asg_nm, asg_tp, asgs_nil, asgs_cons, Option.bind_some, List.length_cons, List.length_nil, wipeD, true_and, and_true, if_true, if_false, Bool.false_eq_true, decide_eq_true_eq, Bool.not_true, Bool.not_false, Bool.xor_false, Bool.false_xor, Bool.true_xor, Bool.not_eq_true', decide_eq_false_iff_not, reduceIte]
    have m5 := mod_lo (i := v5) (j := 3) (by omega)
    generalize v5 % 3 = u5 at m5 ⊢
    refine ⟨by omega, ⟨by omega, by omega⟩, ?_⟩
    rw [rngD_eq]
    have lr := lt_of_get g4
    refine ws_fix (fun i ρ' μ' => Fr (at1 k) μ μ' ∧ Dr b μ' k ∧ μ'[μ3.length]? = some (.lst (rs.map rD)) ∧ ∃ ks x5 x8 x9 x10 x11 x12 x13 x14 x15, ρ' = [some (.mr k), some (.int many), some (.int purses), some (.int c), some (.mr μ3.length), x5, some (.tup [.int s0, .int s1]), some (.mr μ4.length), x8, x9, x10, x11, x12, x13, x14, x15] ∧ μ'[μ4.length]? = some (.lst (ks.map kD)) ∧ (∀ k ∈ ks, KindOk k (many + purses - 1)) ∧ ks.length = i ∧ (i : Int) ≤ 2 + u5)
      ⟨((f.trans f4).new _).trans f5, d5, g5, [], _, _, _, _, _, _, _, _, _, rfl, K5, (fun k hk => by simp at hk), rfl, by omega⟩ (fun i d ρ' μ' hd ⟨f, dk, g, ks, x5, x8, x9, x10, x11, x12, x13, x14, x15, e, kg, ko, kl2, il⟩ => ?_) (fun ρ' μ' ⟨f, dk, g, ks, x5, x8, x9, x10, x11, x12, x13, x14, x15, e, kg, ko, kl2, il⟩ => ?_)
    · subst e
      have il2 : (i : Int) < 2 + u5 := by
        have := (List.getElem?_eq_some_iff.mp hd).1
        rw [List.length_map, rng_len] at this
        omega
      rw [List.getElem?_map] at hd
      obtain ⟨iv, hiv, rfl⟩ := Option.map_eq_some_iff.mp hd
      have kk : μ4.length ≠ k := by omega
      refine ⟨_, rfl, ?_⟩
      simp only [ev_ix0, ev_ix1, ev_ix2, ws_seq, ws_next, ws_expr, ws_ret, ws_retN, ws_break, ws_set, ws_asg, ws_if, ws_raise, ws_par, ws_eff, ws_for, ev_varE, ev_cE, ev_binE, ev_unE, ev_nilA, ev_consA, ev_starA, ev_tupE, ev_newL, ev_lstE, ev_ifE, ev_asB, ev_valT, ev_andT, ev_orT, ev_notT, ev_andE, ev_intD, ev_addI, ev_addT, ev_mulI, ev_mulT, ev_negI, ev_isN, ev_isB, ev_eqI, ev_callE, ev_lenT, ev_intC, ev_listT, ev_two, ev_chainE, ev_lastC, ev_lastT, ev_linkC, ev_linkT, ev_truT, ev_mtE, ev_yesT, ev_all, ev_seqI, ev_rng1, ev_rng2, ev_zip, ev_enum, ev_lcE, ev_lc2E, lc_item, lc_item2, List.map_cons, List.map_nil, List.cons_append, List.nil_append, List.append_nil, List.replicate_succ, List.replicate_zero, Nat.reduceSub, Nat.reduceAdd, List.getElem?_cons_zero, List.getElem?_cons_succ, List.getElem?_nil, List.set_cons_zero, List.set_cons_succ, asg_nm, asg_tp, asgs_nil, asgs_cons, Option.bind_some, List.length_cons, List.length_nil, wipeD, true_and, and_true, if_true, if_false, Bool.false_eq_true, decide_eq_true_eq, Bool.not_true, Bool.not_false, Bool.xor_false, Bool.false_xor, Bool.true_xor, Bool.not_eq_true', decide_eq_false_iff_not, reduceIte]
      refine ⟨Nat.zero_le _, ?_⟩
      have ml' := f.len
      refine w_pickL (ds := [1, 1, 2, 3].map D.int) rfl (dk.new _) (by simp only [ev_ix0, ev_ix1, ev_ix2, ws_seq, ws_next, ws_expr, ws_ret, ws_retN, ws_break, ws_set, ws_asg, ws_if, ws_raise, ws_par, ws_eff, ws_for, ev_varE, ev_cE, ev_binE, ev_unE, ev_nilA, ev_consA, ev_starA, ev_tupE, ev_newL, ev_lstE, ev_ifE, ev_asB, ev_valT, ev_andT, ev_orT, ev_notT, ev_andE, ev_intD, ev_addI, ev_addT, ev_mulI, ev_mulT, ev_negI, ev_isN, ev_isB, ev_eqI, ev_callE, ev_lenT, ev_intC, ev_listT, ev_two, ev_chainE, ev_lastC, ev_lastT, ev_linkC, ev_linkT, ev_truT, ev_mtE, ev_yesT, ev_all, ev_seqI, ev_rng1, ev_rng2, ev_zip, ev_enum, ev_lcE, ev_lc2E, lc_item, lc_item2, List.map_cons, List.map_nil, List.cons_append, List.nil_append, List.append_nil, List.replicate_succ, List.replicate_zero, Nat.reduceSub, Nat.reduceAdd, List.getElem?_cons_zero, List.getElem?_cons_succ, List.getElem?_nil, List.set_cons_zero, List.set_cons_succ, asg_nm, asg_tp, asgs_nil, asgs_cons, Option.bind_some, List.length_cons, List.length_nil, wipeD, true_and, and_true, if_true, if_false, Bool.false_eq_true, decide_eq_true_eq, Bool.not_true, Bool.not_false, Bool.xor_false, Bool.false_xor, Bool.true_xor, Bool.not_eq_true', decide_eq_false_iff_not, reduceIte]; try exact ⟨rfl, rfl⟩) (by decide) (by simp) fun d μ6 hm6 f6 d6 => ?_
      obtain ⟨cnt, hm6, rfl⟩ := ints_mem hm6
      have hc' : 1 ≤ cnt ∧ cnt ≤ 3 := by simp at hm6; omega
      have dkl := dk.lt
      have g6 := f6.at_ _ _ (get_old g) kr
      have kg6 := f6.at_ _ _ (get_old kg) kk
      have e6 := f6.at_ _ _ (get_new (μ := μ') (c := .lst [])) (show μ'.length ≠ k by omega)
      have lg := lt_of_get g
      have lk := lt_of_get kg
      refine ⟨⟨by omega, by omega⟩, ?_⟩
      rw [rngD_eq]
      refine ws_fix (fun j ρ2 μ7 => Fr (at1 k) μ μ7 ∧ Dr b μ7 k ∧ μ7[μ3.length]? = some (.lst (rs.map rD)) ∧ μ7[μ4.length]? = some (.lst (ks.map kD)) ∧ ∃ es x12, ρ2 = [some (.mr k), some (.int many), some (.int purses), some (.int c), some (.mr μ3.length), some (.int iv), some (.tup [.int s0, .int s1]), some (.mr μ4.length), x8, x9, x10, some (.mr μ'.length), x12, x13, x14, x15] ∧ μ7[μ'.length]? = some (.lst (es.map oD)) ∧ es.length = j ∧ (j : Int) ≤ cnt ∧ ∀ e ∈ es, (0 ≤ e.1 ∧ e.1 ≤ many + purses - 1) ∧ -99 ≤ e.2 ∧ e.2 ≤ 99)
        ⟨(f.new _).trans f6, d6, g6, kg6, [], _, rfl, e6, rfl, by omega, (fun e he => by simp at he)⟩ (fun j d ρ2 μ7 hd2 ⟨f7, d7, g7, kg7, es, x12, e2, q7, el, jl, eo⟩ => ?_) (fun ρ2 μ7 ⟨f7, d7, g7, kg7, es, x12, e2, q7, el, jl, eo⟩ => ?_)
      · subst e2
        have jl2 : (j : Int) < cnt := by
          have := (List.getElem?_eq_some_iff.mp hd2).1
          rw [List.length_map, rng_len] at this
          omega
        refine ⟨_, rfl, ?_⟩
        have kq : μ'.length ≠ k := by omega
        simp only [ev_recvL q7, ev_ix0, ev_ix1, ev_ix2, ws_seq, ws_next, ws_expr, ws_ret, ws_retN, ws_break, ws_set, ws_asg, ws_if, ws_raise, ws_par, ws_eff, ws_for, ev_varE, ev_cE, ev_binE, ev_unE, ev_nilA, ev_consA, ev_starA, ev_tupE, ev_newL, ev_lstE, ev_ifE, ev_asB, ev_valT, ev_andT, ev_orT, ev_notT, ev_andE, ev_intD, ev_addI, ev_addT, ev_mulI, ev_mulT, ev_negI, ev_isN, ev_isB, ev_eqI, ev_callE, ev_lenT, ev_intC, ev_listT, ev_two, ev_chainE, ev_lastC, ev_lastT, ev_linkC, ev_linkT, ev_truT, ev_mtE, ev_yesT, ev_all, ev_seqI, ev_rng1, ev_rng2, ev_zip, ev_enum, ev_lcE, ev_lc2E, lc_item, lc_item2, List.map_cons, List.map_nil, List.cons_append, List.nil_append, List.append_nil, List.replicate_succ, List.replicate_zero, Nat.reduceSub, Nat.reduceAdd, List.getElem?_cons_zero, List.getElem?_cons_succ, List.getElem?_nil, List.set_cons_zero, List.set_cons_succ, asg_nm, asg_tp, asgs_nil, asgs_cons, Option.bind_some, List.length_cons, List.length_nil, wipeD, true_and, and_true, if_true, if_false, Bool.false_eq_true, decide_eq_true_eq, Bool.not_true, Bool.not_false, Bool.xor_false, Bool.false_xor, Bool.true_xor, Bool.not_eq_true', decide_eq_false_iff_not, reduceIte]
        refine w_next d7 fun v8 μ8 f8 d8 b0 b1 => ?_
        simp only [ev_ix0, ev_ix1, ev_ix2, ws_seq, ws_next, ws_expr, ws_ret, ws_retN, ws_break, ws_set, ws_asg, ws_if, ws_raise, ws_par, ws_eff, ws_for, ev_varE, ev_cE, ev_binE, ev_unE, ev_nilA, ev_consA, ev_starA, ev_tupE, ev_newL, ev_lstE, ev_ifE, ev_asB, ev_valT, ev_andT, ev_orT, ev_notT, ev_andE, ev_intD, ev_addI, ev_addT, ev_mulI, ev_mulT, ev_negI, ev_isN, ev_isB, ev_eqI, ev_callE, ev_lenT, ev_intC, ev_listT, ev_two, ev_chainE, ev_lastC, ev_lastT, ev_linkC, ev_linkT, ev_truT, ev_mtE, ev_yesT, ev_all, ev_seqI, ev_rng1, ev_rng2, ev_zip, ev_enum, ev_lcE, ev_lc2E, lc_item, lc_item2, List.map_cons, List.map_nil, List.cons_append, List.nil_append, List.append_nil, List.replicate_succ, List.replicate_zero, Nat.reduceSub, Nat.reduceAdd, List.getElem?_cons_zero, List.getElem?_cons_succ, List.getElem?_nil, List.set_cons_zero, List.set_cons_succ, asg_nm, asg_tp, asgs_nil, asgs_cons, Option.bind_some, List.length_cons, List.length_nil, wipeD, true_and, and_true, if_true, if_false, Bool.false_eq_true, decide_eq_true_eq, Bool.not_true, Bool.not_false, Bool.xor_false, Bool.false_xor, Bool.true_xor, Bool.not_eq_true', decide_eq_false_iff_not, reduceIte]
        have m8 := mod_lo (i := v8) (j := many + purses) (by omega)
        generalize v8 % (many + purses) = u8 at m8 ⊢
        refine ⟨by omega, ?_⟩
        refine w_next d8 fun v9 μ9 f9 d9 c0 c1 => ?_
        have q9 := f9.at_ _ _ (f8.at_ _ _ q7 kq) kq
        have g9 := f9.at_ _ _ (f8.at_ _ _ g7 kr) kr
        have kg9 := f9.at_ _ _ (f8.at_ _ _ kg7 kk) kk
        simp only [ev_append q9, ev_ix0, ev_ix1, ev_ix2, ws_seq, ws_next, ws_expr, ws_ret, ws_retN, ws_break, ws_set, ws_asg, ws_if, ws_raise, ws_par, ws_eff, ws_for, ev_varE, ev_cE, ev_binE, ev_unE, ev_nilA, ev_consA, ev_starA, ev_tupE, ev_newL, ev_lstE, ev_ifE, ev_asB, ev_valT, ev_andT, ev_orT, ev_notT, ev_andE, ev_intD, ev_addI, ev_addT, ev_mulI, ev_mulT, ev_negI, ev_isN, ev_isB, ev_eqI, ev_callE, ev_lenT, ev_intC, ev_listT, ev_two, ev_chainE, ev_lastC, ev_lastT, ev_linkC, ev_linkT, ev_truT, ev_mtE, ev_yesT, ev_all, ev_seqI, ev_rng1, ev_rng2, ev_zip, ev_enum, ev_lcE, ev_lc2E, lc_item, lc_item2, List.map_cons, List.map_nil, List.cons_append, List.nil_append, List.append_nil, List.replicate_succ, List.replicate_zero, Nat.reduceSub, Nat.reduceAdd, List.getElem?_cons_zero, List.getElem?_cons_succ, List.getElem?_nil, List.set_cons_zero, List.set_cons_succ, asg_nm, asg_tp, asgs_nil, asgs_cons, Option.bind_some, List.length_cons, List.length_nil, wipeD, true_and, and_true, if_true, if_false, Bool.false_eq_true, decide_eq_true_eq, Bool.not_true, Bool.not_false, Bool.xor_false, Bool.false_xor, Bool.true_xor, Bool.not_eq_true', decide_eq_false_iff_not, reduceIte]
        have m9 := mod_lo (i := v9) (j := s1) (by omega)
        generalize v9 % s1 = u9 at m9 ⊢
        refine ⟨by omega, by omega, by rw [List.length_map]; omega, ((f7.trans f8).trans f9).set _ (fun z => by omega), d9.set _ kq, get_set_ne g9 (by omega), get_set_ne kg9 (by omega), es ++ [(u8, s0 + u9)], _, rfl, ?_, by rw [List.length_append, el]; rfl, by omega, fun e he => ?_⟩
        · rw [get_set q9, map_oD]
        · rcases List.mem_append.mp he with z | z
          · exact eo e z
          · have : e = (u8, s0 + u9) := by simpa using z
            rw [this]
            exact ⟨⟨by dsimp only; omega, by dsimp only; omega⟩, by dsimp only; omega, by dsimp only; omega⟩
      · subst e2
        rw [List.length_map, rng_len] at el
        simp only [ev_recvL kg7, ev_tupL q7, ev_append kg7, ev_ix0, ev_ix1, ev_ix2, ws_seq, ws_next, ws_expr, ws_ret, ws_retN, ws_break, ws_set, ws_asg, ws_if, ws_raise, ws_par, ws_eff, ws_for, ev_varE, ev_cE, ev_binE, ev_unE, ev_nilA, ev_consA, ev_starA, ev_tupE, ev_newL, ev_lstE, ev_ifE, ev_asB, ev_valT, ev_andT, ev_orT, ev_notT, ev_andE, ev_intD, ev_addI, ev_addT, ev_mulI, ev_mulT, ev_negI, ev_isN, ev_isB, ev_eqI, ev_callE, ev_lenT, ev_intC, ev_listT, ev_two, ev_chainE, ev_lastC, ev_lastT, ev_linkC, ev_linkT, ev_truT, ev_mtE, ev_yesT, ev_all, ev_seqI, ev_rng1, ev_rng2, ev_zip, ev_enum, ev_lcE, ev_lc2E, lc_item, lc_item2, List.map_cons, List.map_nil, List.cons_append, List.nil_append, List.append_nil, List.replicate_succ, List.replicate_zero, Nat.reduceSub, Nat.reduceAdd, List.getElem?_cons_zero, List.getElem?_cons_succ, List.getElem?_nil, List.set_cons_zero, List.set_cons_succ, asg_nm, asg_tp, asgs_nil, asgs_cons, Option.bind_some, List.length_cons, List.length_nil, wipeD, true_and, and_true, if_true, if_false, Bool.false_eq_true, decide_eq_true_eq, Bool.not_true, Bool.not_false, Bool.xor_false, Bool.false_xor, Bool.true_xor, Bool.not_eq_true', decide_eq_false_iff_not, reduceIte]
        refine ⟨by rw [List.length_map]; omega, f7.set _ (fun z => by omega), d7.set _ kk, get_set_ne g7 (by omega), ks ++ [es], _, _, _, _, _, _, _, _, _, rfl, ?_, fun k' hk' => ?_, by rw [List.length_append, kl2]; rfl, by omega⟩
        · rw [get_set kg7, map_kD]
        · rcases List.mem_append.mp hk' with z | z
          · exact ko k' z
          · have : k' = es := by simpa using z
            rw [this]
            exact ⟨by omega, by omega, eo⟩
    · subst e
      rw [List.length_map, rng_len] at kl2
      simp only [ev_tupL g, ev_tupL kg, ev_ix0, ev_ix1, ev_ix2, ws_seq, ws_next, ws_expr, ws_ret, ws_retN, ws_break, ws_set, ws_asg, ws_if, ws_raise, ws_par, ws_eff, ws_for, ev_varE, ev_cE, ev_binE, ev_unE, ev_nilA, ev_consA, ev_starA, ev_tupE, ev_newL, ev_lstE, ev_ifE, ev_asB, ev_valT, ev_andT, ev_orT, ev_notT, ev_andE, ev_intD, ev_addI, ev_addT, ev_mulI, ev_mulT, ev_negI, ev_isN, ev_isB, ev_eqI, ev_callE, ev_lenT, ev_intC, ev_listT, ev_two, ev_chainE, ev_lastC, ev_lastT, ev_linkC, ev_linkT, ev_truT, ev_mtE, ev_yesT, ev_all, ev_seqI, ev_rng1, ev_rng2, ev_zip, ev_enum, ev_lcE, ev_lc2E, lc_item, lc_item2, List.map_cons, List.map_nil, List.cons_append, List.nil_append, List.append_nil, List.replicate_succ, List.replicate_zero, Nat.reduceSub, Nat.reduceAdd, List.getElem?_cons_zero, List.getElem?_cons_succ, List.getElem?_nil, List.set_cons_zero, List.set_cons_succ, asg_nm, asg_tp, asgs_nil, asgs_cons, Option.bind_some, List.length_cons, List.length_nil, wipeD, true_and, and_true, if_true, if_false, Bool.false_eq_true, decide_eq_true_eq, Bool.not_true, Bool.not_false, Bool.xor_false, Bool.false_xor, Bool.true_xor, Bool.not_eq_true', decide_eq_false_iff_not, reduceIte]
      refine ⟨by omega, ?_⟩
      have hrl : rs.length = many.toNat := ro.len
      have hlast : (⟨rs, purses, ks⟩ : Pg).last = many + purses - 1 := by unfold Pg.last; dsimp only; omega
      have ok : PgOk ⟨rs, purses, ks⟩ := by
        refine RsOk.prog (c := c + 3) (n := many.toNat) (by rw [hlast]; exact ro) (by omega) hp'.1 hp'.2 (by omega) ?_ (by dsimp only; omega) (by dsimp only; omega) (by rw [hlast]; exact ko)
        rcases hc with ⟨r1, r2⟩ | ⟨r1, r2⟩ | ⟨r1, r2⟩ | ⟨r1, r2⟩ <;> rw [r1, r2] <;> decide
      exact h ⟨rs, purses, ks⟩ _ ok f.gc (dk.gc kl)
end
end K69
end TPLC

section TPLD
set_option maxRecDepth 100000
set_option maxHeartbeats 4000000
namespace K69
open PySem L2 PySem.Spec PyProof.Rows DL
section
variable {X : Nat → Mu → Prop} {Q : D → Mu → Prop} {μ : Mu} {ρ : Sl} {E : En} {b : Nat}
def CapW (many c : Int) : Prop := (many = 1 ∧ c = 120) ∨ (many = 2 ∧ c = 11) ∨ (many = 3 ∧ c = 5)
theorem w_wide {k sp : Nat} (hd : Dr b μ k) (hs : μ[sp]? = some (.lst ([120, 11, 5].map D.int))) (sk : sp ≠ k) (h : ∀ p μ', PgOk p → Fr (at1 k) μ μ' → Dr b μ' k → Q (pD p) μ') : Ev X Q (d_u_law_wide [.mr k, .mr sp] μ) := by
  refine den_of rfl ?_
  unfold b_u_law_wide
  have zz := size_eq
  have kl := hd.lt
  have spl := lt_of_get hs
  simp only [ev_ix0, ev_ix1, ev_ix2, ws_seq, ws_next, ws_expr, ws_ret, ws_retN, ws_break, ws_set, ws_asg, ws_if, ws_raise, ws_par, ws_eff, ws_for, ev_varE, ev_cE, ev_binE, ev_unE, ev_nilA, ev_consA, ev_starA, ev_tupE, ev_newL, ev_lstE, ev_ifE, ev_asB, ev_valT, ev_andT, ev_orT, ev_notT, ev_andE, ev_intD, ev_addI, ev_addT, ev_mulI, ev_mulT, ev_negI, ev_isN, ev_isB, ev_eqI, ev_callE, ev_lenT, ev_intC, ev_listT, ev_two, ev_chainE, ev_lastC, ev_lastT, ev_linkC, ev_linkT, ev_truT, ev_mtE, ev_yesT, ev_all, ev_seqI, ev_rng1, ev_rng2, ev_zip, ev_enum, ev_lcE, ev_lc2E, lc_item, lc_item2, List.map_cons, List.map_nil, List.cons_append, List.nil_append, List.append_nil, List.replicate_succ, List.replicate_zero, Nat.reduceSub, Nat.reduceAdd, List.getElem?_cons_zero, List.getElem?_cons_succ, List.getElem?_nil, List.set_cons_zero, List.set_cons_succ, asg_nm, asg_tp, asgs_nil, asgs_cons, Option.bind_some, List.length_cons, List.length_nil, wipeD, true_and, and_true, if_true, if_false, Bool.false_eq_true, decide_eq_true_eq, Bool.not_true, Bool.not_false, Bool.xor_false, Bool.false_xor, Bool.true_xor, Bool.not_eq_true', decide_eq_false_iff_not, reduceIte]
  refine w_pickL (ds := [1, 1, 2, 3].map D.int) rfl hd (by simp only [ev_ix0, ev_ix1, ev_ix2, ws_seq, ws_next, ws_expr, ws_ret, ws_retN, ws_break, ws_set, ws_asg, ws_if, ws_raise, ws_par, ws_eff, ws_for, ev_varE, ev_cE, ev_binE, ev_unE, ev_nilA, ev_consA, ev_starA, ev_tupE, ev_newL, ev_lstE, ev_ifE, ev_asB, ev_valT, ev_andT, ev_orT, ev_notT, ev_andE, ev_intD, ev_addI, ev_addT, ev_mulI, ev_mulT, ev_negI, ev_isN, ev_isB, ev_eqI, ev_callE, ev_lenT, ev_intC, ev_listT, ev_two, ev_chainE, ev_lastC, ev_lastT, ev_linkC, ev_linkT, ev_truT, ev_mtE, ev_yesT, ev_all, ev_seqI, ev_rng1, ev_rng2, ev_zip, ev_enum, ev_lcE, ev_lc2E, lc_item, lc_item2, List.map_cons, List.map_nil, List.cons_append, List.nil_append, List.append_nil, List.replicate_succ, List.replicate_zero, Nat.reduceSub, Nat.reduceAdd, List.getElem?_cons_zero, List.getElem?_cons_succ, List.getElem?_nil, List.set_cons_zero, List.set_cons_succ, asg_nm, asg_tp, asgs_nil, asgs_cons, Option.bind_some, List.length_cons, List.length_nil, wipeD, true_and, and_true, if_true, if_false, Bool.false_eq_true, decide_eq_true_eq, Bool.not_true, Bool.not_false, Bool.xor_false, Bool.false_xor, Bool.true_xor, Bool.not_eq_true', decide_eq_false_iff_not, reduceIte]; try exact ⟨rfl, rfl⟩) (by decide) (by simp) fun d μ1 hm f1 d1 => ?_
  obtain ⟨many, hm, rfl⟩ := ints_mem hm
  have hm' : 1 ≤ many ∧ many ≤ 3 := by simp at hm; omega
  refine w_next d1 fun vp μ3 f3 d3 p0 p1 => ?_
  simp only [ev_ix0, ev_ix1, ev_ix2, ws_seq, ws_next, ws_expr, ws_ret, ws_retN, ws_break, ws_set, ws_asg, ws_if, ws_raise, ws_par, ws_eff, ws_for, ev_varE, ev_cE, ev_binE, ev_unE, ev_nilA, ev_consA, ev_starA, ev_tupE, ev_newL, ev_lstE, ev_ifE, ev_asB, ev_valT, ev_andT, ev_orT, ev_notT, ev_andE, ev_intD, ev_addI, ev_addT, ev_mulI, ev_mulT, ev_negI, ev_isN, ev_isB, ev_eqI, ev_callE, ev_lenT, ev_intC, ev_listT, ev_two, ev_chainE, ev_lastC, ev_lastT, ev_linkC, ev_linkT, ev_truT, ev_mtE, ev_yesT, ev_all, ev_seqI, ev_rng1, ev_rng2, ev_zip, ev_enum, ev_lcE, ev_lc2E, lc_item, lc_item2, List.map_cons, List.map_nil, List.cons_append, List.nil_append, List.append_nil, List.replicate_succ, List.replicate_zero, Nat.reduceSub, Nat.reduceAdd, List.getElem?_cons_zero, List.getElem?_cons_succ, List.getElem?_nil, List.set_cons_zero, List.set_cons_succ, asg_nm, asg_tp, asgs_nil, asgs_cons, Option.bind_some, List.length_cons, List.length_nil, wipeD, true_and, and_true, if_true, if_false, Bool.false_eq_true, decide_eq_true_eq, Bool.not_true, Bool.not_false, Bool.xor_false, Bool.false_xor, Bool.true_xor, Bool.not_eq_true', decide_eq_false_iff_not, reduceIte]
  have mp := mod_lo (i := vp) (j := 3) (by omega)
  generalize hpu : 1 + vp % 3 = purses
  have hp' : 1 ≤ purses ∧ purses ≤ 3 := by omega
  have hcap : ∃ c, CapW many c ∧ atI ([120, 11, 5].map D.int) (many - 1) = some (.int c) := by
    have : many = 1 ∨ many = 2 ∨ many = 3 := by omega
    rcases this with rfl | rfl | rfl
    · exact ⟨120, .inl ⟨rfl, rfl⟩, rfl⟩
    · exact ⟨11, .inr (.inl ⟨rfl, rfl⟩), rfl⟩
    · exact ⟨5, .inr (.inr ⟨rfl, rfl⟩), rfl⟩
  obtain ⟨c, hc, hat⟩ := hcap
  have hc' : 5 ≤ c ∧ c ≤ 120 := by unfold CapW at hc; omega
  have f03 : Fr (at1 k) μ μ3 := f1.trans f3
  have s3 := f03.at_ _ _ hs sk
  have l3 := f03.len
  refine ⟨by omega, Nat.zero_le _, ⟨by omega, by omega⟩, ?_⟩
  rw [rngD_eq]
  refine ws_fix (fun i ρ' μ' => Fr (at1 k) μ μ' ∧ Dr b μ' k ∧ ∃ rs x5 x6 x7 x8 x9 x10 x11 x12 x13, ρ' = [some (.mr k), some (.mr sp), some (.int many), some (.int purses), some (.mr μ3.length), x5, x6, x7, x8, x9, x10, x11, x12, x13] ∧ μ'[μ3.length]? = some (.lst (rs.map rD)) ∧ RsOk (many + purses - 1) c i rs ∧ μ'[sp]? = some (.lst ([120, 11, 5].map D.int)))
    ⟨f03.new _, d3.new _, [], _, _, _, _, _, _, _, _, _, rfl, get_new, ⟨rfl, (fun j r hj => by simp at hj)⟩, get_old s3⟩ (fun i d ρ' μ' hd ⟨f, dk, rs, x5, x6, x7, x8, x9, x10, x11, x12, x13, e, g, ro, gs⟩ => ?_) (fun ρ' μ' ⟨f, dk, rs, x5, x6, x7, x8, x9, x10, x11, x12, x13, e, g, ro, gs⟩ => ?_)
  · subst e
    rw [List.getElem?_map] at hd
    obtain ⟨iv, hiv, rfl⟩ := Option.map_eq_some_iff.mp hd
    obtain ⟨il, ie⟩ := rng_get hiv
    have ie' : iv = i := by omega
    subst ie'
    have kr : μ3.length ≠ k := by omega
    refine ⟨_, rfl, ?_⟩
    simp only [ev_ix0, ev_ix1, ev_ix2, ws_seq, ws_next, ws_expr, ws_ret, ws_retN, ws_break, ws_set, ws_asg, ws_if, ws_raise, ws_par, ws_eff, ws_for, ev_varE, ev_cE, ev_binE, ev_unE, ev_nilA, ev_consA, ev_starA, ev_tupE, ev_newL, ev_lstE, ev_ifE, ev_asB, ev_valT, ev_andT, ev_orT, ev_notT, ev_andE, ev_intD, ev_addI, ev_addT, ev_mulI, ev_mulT, ev_negI, ev_isN, ev_isB, ev_eqI, ev_callE, ev_lenT, ev_intC, ev_listT, ev_two, ev_chainE, ev_lastC, ev_lastT, ev_linkC, ev_linkT, ev_truT, ev_mtE, ev_yesT, ev_all, ev_seqI, ev_rng1, ev_rng2, ev_zip, ev_enum, ev_lcE, ev_lc2E, lc_item, lc_item2, List.map_cons, List.map_nil, List.cons_append, List.nil_append, List.append_nil, List.replicate_succ, List.replicate_zero, Nat.reduceSub, Nat.reduceAdd, List.getElem?_cons_zero, List.getElem?_cons_succ, List.getElem?_nil, List.set_cons_zero, List.set_cons_succ, asg_nm, asg_tp, asgs_nil, asgs_cons, Option.bind_some, List.length_cons, List.length_nil, wipeD, true_and, and_true, if_true, if_false, Bool.false_eq_true, decide_eq_true_eq, Bool.not_true, Bool.not_false, Bool.xor_false, Bool.false_xor, Bool.true_xor, Bool.not_eq_true', decide_eq_false_iff_not, reduceIte]
    refine w_next dk fun v1 μ4 f4 d4 a0 a1 => ?_
    simp only [ev_ix0, ev_ix1, ev_ix2, ws_seq, ws_next, ws_expr, ws_ret, ws_retN, ws_break, ws_set, ws_asg, ws_if, ws_raise, ws_par, ws_eff, ws_for, ev_varE, ev_cE, ev_binE, ev_unE, ev_nilA, ev_consA, ev_starA, ev_tupE, ev_newL, ev_lstE, ev_ifE, ev_asB, ev_valT, ev_andT, ev_orT, ev_notT, ev_andE, ev_intD, ev_addI, ev_addT, ev_mulI, ev_mulT, ev_negI, ev_isN, ev_isB, ev_eqI, ev_callE, ev_lenT, ev_intC, ev_listT, ev_two, ev_chainE, ev_lastC, ev_lastT, ev_linkC, ev_linkT, ev_truT, ev_mtE, ev_yesT, ev_all, ev_seqI, ev_rng1, ev_rng2, ev_zip, ev_enum, ev_lcE, ev_lc2E, lc_item, lc_item2, List.map_cons, List.map_nil, List.cons_append, List.nil_append, List.append_nil, List.replicate_succ, List.replicate_zero, Nat.reduceSub, Nat.reduceAdd, List.getElem?_cons_zero, List.getElem?_cons_succ, List.getElem?_nil, List.set_cons_zero, List.set_cons_succ, asg_nm, asg_tp, asgs_nil, asgs_cons, Option.bind_some, List.length_cons, List.length_nil, wipeD, true_and, and_true, if_true, if_false, Bool.false_eq_true, decide_eq_true_eq, Bool.not_true, Bool.not_false, Bool.xor_false, Bool.false_xor, Bool.true_xor, Bool.not_eq_true', decide_eq_false_iff_not, reduceIte]
    refine ⟨by omega, ?_⟩
    have m1 := mod_lo (i := v1) (j := 801) (by omega)
    generalize hlo : v1 % 801 - 400 = lo
    have hlo' : -400 ≤ lo ∧ lo ≤ 400 := by omega
    refine w_next d4 fun v2 μ5 f5 d5 b0 b1 => ?_
    have s5 := f5.at_ _ _ (f4.at_ _ _ gs sk) sk
    simp only [ev_ixL s5 hat, ev_ix0, ev_ix1, ev_ix2, ws_seq, ws_next, ws_expr, ws_ret, ws_retN, ws_break, ws_set, ws_asg, ws_if, ws_raise, ws_par, ws_eff, ws_for, ev_varE, ev_cE, ev_binE, ev_unE, ev_nilA, ev_consA, ev_starA, ev_tupE, ev_newL, ev_lstE, ev_ifE, ev_asB, ev_valT, ev_andT, ev_orT, ev_notT, ev_andE, ev_intD, ev_addI, ev_addT, ev_mulI, ev_mulT, ev_negI, ev_isN, ev_isB, ev_eqI, ev_callE, ev_lenT, ev_intC, ev_listT, ev_two, ev_chainE, ev_lastC, ev_lastT, ev_linkC, ev_linkT, ev_truT, ev_mtE, ev_yesT, ev_all, ev_seqI, ev_rng1, ev_rng2, ev_zip, ev_enum, ev_lcE, ev_lc2E, lc_item, lc_item2, List.map_cons, List.map_nil, List.cons_append, List.nil_append, List.append_nil, List.replicate_succ, List.replicate_zero, Nat.reduceSub, Nat.reduceAdd, List.getElem?_cons_zero, List.getElem?_cons_succ, List.getElem?_nil, List.set_cons_zero, List.set_cons_succ, asg_nm, asg_tp, asgs_nil, asgs_cons, Option.bind_some, List.length_cons, List.length_nil, wipeD, true_and, and_true, if_true, if_false, Bool.false_eq_true, decide_eq_true_eq, Bool.not_true, Bool.not_false, Bool.xor_false, Bool.false_xor, Bool.true_xor, Bool.not_eq_true', decide_eq_false_iff_not, reduceIte]
    have m2 := mod_lo (i := v2) (j := c) (by omega)
    generalize hhi : (if lo + v2 % c < 400 then lo + v2 % c else 400) = hi
    have hhi' : lo ≤ hi ∧ hi ≤ 400 ∧ hi - lo + 1 ≤ c := by split at hhi <;> omega
    refine ⟨by omega, ?_⟩
    refine w_next d5 fun v3 μ6 f6 d6 c0 c1 => ?_
    simp only [ev_ix0, ev_ix1, ev_ix2, ws_seq, ws_next, ws_expr, ws_ret, ws_retN, ws_break, ws_set, ws_asg, ws_if, ws_raise, ws_par, ws_eff, ws_for, ev_varE, ev_cE, ev_binE, ev_unE, ev_nilA, ev_consA, ev_starA, ev_tupE, ev_newL, ev_lstE, ev_ifE, ev_asB, ev_valT, ev_andT, ev_orT, ev_notT, ev_andE, ev_intD, ev_addI, ev_addT, ev_mulI, ev_mulT, ev_negI, ev_isN, ev_isB, ev_eqI, ev_callE, ev_lenT, ev_intC, ev_listT, ev_two, ev_chainE, ev_lastC, ev_lastT, ev_linkC, ev_linkT, ev_truT, ev_mtE, ev_yesT, ev_all, ev_seqI, ev_rng1, ev_rng2, ev_zip, ev_enum, ev_lcE, ev_lc2E, lc_item, lc_item2, List.map_cons, List.map_nil, List.cons_append, List.nil_append, List.append_nil, List.replicate_succ, List.replicate_zero, Nat.reduceSub, Nat.reduceAdd, List.getElem?_cons_zero, List.getElem?_cons_succ, List.getElem?_nil, List.set_cons_zero, List.set_cons_succ, asg_nm, asg_tp, asgs_nil, asgs_cons, Option.bind_some, List.length_cons, List.length_nil, wipeD, true_and, and_true, if_true, if_false, Bool.false_eq_true, decide_eq_true_eq, Bool.not_true, Bool.not_false, Bool.xor_false, Bool.false_xor, Bool.true_xor, Bool.not_eq_true', decide_eq_false_iff_not, reduceIte]
    refine ⟨by omega, Nat.zero_le _, ⟨by omega, by omega⟩, ?_⟩
    have m3 := mod_lo (i := v3) (j := hi - lo + 1) (by omega)
    generalize v3 % (hi - lo + 1) = u3 at m3 ⊢
    have f456 := (f4.trans f5).trans f6
    have g6 := f456.at_ _ _ g kr
    have s6 := f6.at_ _ _ s5 sk
    have l6 := lt_of_get g6
    have hl2 : (rngD 0 (Int.toNat 2)).length = 2 := rfl
    generalize rngD 0 (Int.toNat 2) = ds2 at hl2 ⊢
    refine ws_fix (fun j ρ2 μ7 => Fr (at1 k) μ μ7 ∧ Dr b μ7 k ∧ μ7[μ3.length]? = some (.lst (rs.map rD)) ∧ μ7[sp]? = some (.lst ([120, 11, 5].map D.int)) ∧ ∃ os x11 x12, ρ2 = [some (.mr k), some (.mr sp), some (.int many), some (.int purses), some (.mr μ3.length), some (.int i), x6, some (.int lo), some (.int hi), some (.int (lo + u3)), some (.mr μ6.length), x11, x12, x13] ∧ μ7[μ6.length]? = some (.lst (os.map oD)) ∧ OsOk i (many + purses - 1) os ∧ os.length = j)
      ⟨(f.trans f456).new _, d6.new _, get_old g6, get_old s6, [], _, _, rfl, get_new, (fun o ho => by simp at ho), rfl⟩ (fun j d ρ2 μ7 hd2 ⟨f7, d7, g7, s7, os, x11, x12, e2, q7, oo, ol⟩ => ?_) (fun ρ2 μ7 ⟨f7, d7, g7, s7, os, x11, x12, e2, q7, oo, ol⟩ => ?_)
    · subst e2
      have jl : j < 2 := by
        have := (List.getElem?_eq_some_iff.mp hd2).1
        rw [hl2] at this
        exact this
      have ml := f.len
      have kq : μ6.length ≠ k := by have := d6.lt; omega
      refine ⟨_, rfl, ?_⟩
      simp only [ev_ix0, ev_ix1, ev_ix2, ws_seq, ws_next, ws_expr, ws_ret, ws_retN, ws_break, ws_set, ws_asg, ws_if, ws_raise, ws_par, ws_eff, ws_for, ev_varE, ev_cE, ev_binE, ev_unE, ev_nilA, ev_consA, ev_starA, ev_tupE, ev_newL, ev_lstE, ev_ifE, ev_asB, ev_valT, ev_andT, ev_orT, ev_notT, ev_andE, ev_intD, ev_addI, ev_addT, ev_mulI, ev_mulT, ev_negI, ev_isN, ev_isB, ev_eqI, ev_callE, ev_lenT, ev_intC, ev_listT, ev_two, ev_chainE, ev_lastC, ev_lastT, ev_linkC, ev_linkT, ev_truT, ev_mtE, ev_yesT, ev_all, ev_seqI, ev_rng1, ev_rng2, ev_zip, ev_enum, ev_lcE, ev_lc2E, lc_item, lc_item2, List.map_cons, List.map_nil, List.cons_append, List.nil_append, List.append_nil, List.replicate_succ, List.replicate_zero, Nat.reduceSub, Nat.reduceAdd, List.getElem?_cons_zero, List.getElem?_cons_succ, List.getElem?_nil, List.set_cons_zero, List.set_cons_succ, asg_nm, asg_tp, asgs_nil, asgs_cons, Option.bind_some, List.length_cons, List.length_nil, wipeD, true_and, and_true, if_true, if_false, Bool.false_eq_true, decide_eq_true_eq, Bool.not_true, Bool.not_false, Bool.xor_false, Bool.false_xor, Bool.true_xor, Bool.not_eq_true', decide_eq_false_iff_not, reduceIte]
      generalize hρ : ([some (.mr k), some (.mr sp), some (.int many), some (.int purses), some (.mr μ3.length), some (.int i), x6, some (.int lo), some (.int hi), some (.int (lo + u3)), some (.mr μ6.length), some _, x12, x13] : Sl) = ρ3
      refine w_to (k := k) (a := 5) (c := 2) (e := 3) (i := i) (m := many) (p := purses) (by rw [← hρ]; rfl) (by rw [← hρ]; rfl) (by rw [← hρ]; rfl) (by rw [← hρ]; rfl) d7 (by omega) (by omega) (by omega) (by omega) fun to_ μ8 hto f8 d8 => ?_
      subst hρ
      have q8 := f8.at_ _ _ q7 kq
      have g8 := f8.at_ _ _ g7 kr
      have s8 := f8.at_ _ _ s7 sk
      have lf := (f.trans f456).len
      simp only [ev_recvL q8, ev_ix0, ev_ix1, ev_ix2, ws_seq, ws_next, ws_expr, ws_ret, ws_retN, ws_break, ws_set, ws_asg, ws_if, ws_raise, ws_par, ws_eff, ws_for, ev_varE, ev_cE, ev_binE, ev_unE, ev_nilA, ev_consA, ev_starA, ev_tupE, ev_newL, ev_lstE, ev_ifE, ev_asB, ev_valT, ev_andT, ev_orT, ev_notT, ev_andE, ev_intD, ev_addI, ev_addT, ev_mulI, ev_mulT, ev_negI, ev_isN, ev_isB, ev_eqI, ev_callE, ev_lenT, ev_intC, ev_listT, ev_two, ev_chainE, ev_lastC, ev_lastT, ev_linkC, ev_linkT, ev_truT, ev_mtE, ev_yesT, ev_all, ev_seqI, ev_rng1, ev_rng2, ev_zip, ev_enum, ev_lcE, ev_lc2E, lc_item, lc_item2, List.map_cons, List.map_nil, List.cons_append, List.nil_append, List.append_nil, List.replicate_succ, List.replicate_zero, Nat.reduceSub, Nat.reduceAdd, List.getElem?_cons_zero, List.getElem?_cons_succ, List.getElem?_nil, List.set_cons_zero, List.set_cons_succ, asg_nm, asg_tp, asgs_nil, asgs_cons, Option.bind_some, List.length_cons, List.length_nil, wipeD, true_and, and_true, if_true, if_false, Bool.false_eq_true, decide_eq_true_eq, Bool.not_true, Bool.not_false, Bool.xor_false, Bool.false_xor, Bool.true_xor, Bool.not_eq_true', decide_eq_false_iff_not, reduceIte]
      by_cases tz : to_ < 0
      · rw [if_pos tz]
        rw [ev_append q8]
        refine ⟨by omega, by rw [List.length_map]; omega, (f7.trans f8).set _ (fun z => by omega), d8.set _ kq, get_set_ne g8 (by omega), get_set_ne s8 (by omega), os ++ [(to_, 0)], _, _, rfl, ?_, os_snoc oo (.inl ⟨by dsimp only; omega, rfl⟩), by rw [List.length_append, ol]; rfl⟩
        rw [get_set q8, map_oD]
      · rw [if_neg tz]
        refine w_next d8 fun v4 μ9 f9 d9 e0 e1 => ?_
        have q9 := f9.at_ _ _ q8 kq
        have g9 := f9.at_ _ _ g8 kr
        have s9 := f9.at_ _ _ s8 sk
        have m4 := mod_lo (i := v4) (j := 19) (by omega)
        simp only [ev_append q9, ev_ix0, ev_ix1, ev_ix2, ws_seq, ws_next, ws_expr, ws_ret, ws_retN, ws_break, ws_set, ws_asg, ws_if, ws_raise, ws_par, ws_eff, ws_for, ev_varE, ev_cE, ev_binE, ev_unE, ev_nilA, ev_consA, ev_starA, ev_tupE, ev_newL, ev_lstE, ev_ifE, ev_asB, ev_valT, ev_andT, ev_orT, ev_notT, ev_andE, ev_intD, ev_addI, ev_addT, ev_mulI, ev_mulT, ev_negI, ev_isN, ev_isB, ev_eqI, ev_callE, ev_lenT, ev_intC, ev_listT, ev_two, ev_chainE, ev_lastC, ev_lastT, ev_linkC, ev_linkT, ev_truT, ev_mtE, ev_yesT, ev_all, ev_seqI, ev_rng1, ev_rng2, ev_zip, ev_enum, ev_lcE, ev_lc2E, lc_item, lc_item2, List.map_cons, List.map_nil, List.cons_append, List.nil_append, List.append_nil, List.replicate_succ, List.replicate_zero, Nat.reduceSub, Nat.reduceAdd, List.getElem?_cons_zero, List.getElem?_cons_succ, List.getElem?_nil, List.set_cons_zero, List.set_cons_succ, asg_nm, asg_tp, asgs_nil, asgs_cons, Option.bind_some, List.length_cons, List.length_nil, wipeD, true_and, and_true, if_true, if_false, Bool.false_eq_true, decide_eq_true_eq, Bool.not_true, Bool.not_false, Bool.xor_false, Bool.false_xor, Bool.true_xor, Bool.not_eq_true', decide_eq_false_iff_not, reduceIte]
        refine ⟨by omega, by omega, by rw [List.length_map]; omega, ((f7.trans f8).trans f9).set _ (fun z => by omega), d9.set _ kq, get_set_ne g9 (by omega), get_set_ne s9 (by omega), os ++ [(to_, v4 % 19 - 9)], _, _, rfl, ?_, os_snoc oo (.inr ⟨by omega, by dsimp only; omega, by dsimp only; omega, by dsimp only; omega, by dsimp only; omega⟩), by rw [List.length_append, ol]; rfl⟩
        rw [get_set q9, map_oD]
    · subst e2
      rw [hl2] at ol
      obtain ⟨o1, o2, rfl⟩ := os_two ol
      have w1 := oo o1 (by simp)
      have w2 := oo o2 (by simp)
      have t0 : atI ([o1, o2].map oD) 0 = some (oD o1) := rfl
      have t1 : atI ([o1, o2].map oD) 1 = some (oD o2) := rfl
      have rl := ro.len
      simp only [ev_recvL g7, ev_ixL q7 t0, ev_ixL q7 t1, ev_append g7, ev_ix0, ev_ix1, ev_ix2, ws_seq, ws_next, ws_expr, ws_ret, ws_retN, ws_break, ws_set, ws_asg, ws_if, ws_raise, ws_par, ws_eff, ws_for, ev_varE, ev_cE, ev_binE, ev_unE, ev_nilA, ev_consA, ev_starA, ev_tupE, ev_newL, ev_lstE, ev_ifE, ev_asB, ev_valT, ev_andT, ev_orT, ev_notT, ev_andE, ev_intD, ev_addI, ev_addT, ev_mulI, ev_mulT, ev_negI, ev_isN, ev_isB, ev_eqI, ev_callE, ev_lenT, ev_intC, ev_listT, ev_two, ev_chainE, ev_lastC, ev_lastT, ev_linkC, ev_linkT, ev_truT, ev_mtE, ev_yesT, ev_all, ev_seqI, ev_rng1, ev_rng2, ev_zip, ev_enum, ev_lcE, ev_lc2E, lc_item, lc_item2, List.map_cons, List.map_nil, List.cons_append, List.nil_append, List.append_nil, List.replicate_succ, List.replicate_zero, Nat.reduceSub, Nat.reduceAdd, List.getElem?_cons_zero, List.getElem?_cons_succ, List.getElem?_nil, List.set_cons_zero, List.set_cons_succ, asg_nm, asg_tp, asgs_nil, asgs_cons, Option.bind_some, List.length_cons, List.length_nil, wipeD, true_and, and_true, if_true, if_false, Bool.false_eq_true, decide_eq_true_eq, Bool.not_true, Bool.not_false, Bool.xor_false, Bool.false_xor, Bool.true_xor, Bool.not_eq_true', decide_eq_false_iff_not, reduceIte]
      refine ⟨by omega, by rw [List.length_map]; omega, f7.set _ (fun z => by omega), d7.set _ kr, rs ++ [⟨lo, hi, lo + u3, o1, o2⟩], _, _, _, _, _, _, _, _, _, rfl, ?_, ro.snoc ⟨by dsimp only; omega, by dsimp only; omega, by dsimp only; omega, by dsimp only; omega, w1, w2⟩ (by dsimp only; omega), get_set_ne s7 (by omega)⟩
      rw [get_set g7, map_rD]
  · subst e
    rw [List.length_map, rng_len] at ro
    simp only [ev_ix0, ev_ix1, ev_ix2, ws_seq, ws_next, ws_expr, ws_ret, ws_retN, ws_break, ws_set, ws_asg, ws_if, ws_raise, ws_par, ws_eff, ws_for, ev_varE, ev_cE, ev_binE, ev_unE, ev_nilA, ev_consA, ev_starA, ev_tupE, ev_newL, ev_lstE, ev_ifE, ev_asB, ev_valT, ev_andT, ev_orT, ev_notT, ev_andE, ev_intD, ev_addI, ev_addT, ev_mulI, ev_mulT, ev_negI, ev_isN, ev_isB, ev_eqI, ev_callE, ev_lenT, ev_intC, ev_listT, ev_two, ev_chainE, ev_lastC, ev_lastT, ev_linkC, ev_linkT, ev_truT, ev_mtE, ev_yesT, ev_all, ev_seqI, ev_rng1, ev_rng2, ev_zip, ev_enum, ev_lcE, ev_lc2E, lc_item, lc_item2, List.map_cons, List.map_nil, List.cons_append, List.nil_append, List.append_nil, List.replicate_succ, List.replicate_zero, Nat.reduceSub, Nat.reduceAdd, List.getElem?_cons_zero, List.getElem?_cons_succ, List.getElem?_nil, List.set_cons_zero, List.set_cons_succ, asg_nm, asg_tp, asgs_nil, asgs_cons, Option.bind_some, List.length_cons, List.length_nil, wipeD, true_and, and_true, if_true, if_false, Bool.false_eq_true, decide_eq_true_eq, Bool.not_true, Bool.not_false, Bool.xor_false, Bool.false_xor, Bool.true_xor, Bool.not_eq_true', decide_eq_false_iff_not, reduceIte]
    have kr : μ3.length ≠ k := by omega
    refine ⟨Nat.zero_le _, ?_⟩
    refine w_next (dk.new _) fun v5 μ5 f5 d5 a0 a1 => ?_
    have ml : μ.length ≤ μ'.length := f.len
    have k4 := dk.lt
    have g5 := f5.at_ _ _ (get_old g) kr
    have K5 := f5.at_ _ _ (get_new (μ := μ') (c := .lst [])) (show μ'.length ≠ k by omega)
    simp only [ev_ix0, ev_ix1, ev_ix2, ws_seq, ws_next, ws_expr, ws_ret, ws_retN, ws_break, ws_set, ws_asg, ws_if, ws_raise, ws_par, ws_eff, ws_for, ev_varE, ev_cE, ev_binE, ev_unE, ev_nilA, ev_consA, ev_starA, ev_tupE, ev_newL, ev_lstE, ev_ifE, ev_asB, ev_valT, ev_andT, ev_orT, ev_notT, ev_andE, ev_intD, ev_addI, ev_addT, ev_mulI, ev_mulT, ev_negI, ev_isN, ev_isB, ev_eqI, ev_callE, ev_lenT, ev_intC, ev_listT, ev_two, ev_chainE, ev_lastC, ev_lastT, ev_linkC, ev_linkT, ev_truT, ev_mtE, ev_yesT, ev_all, ev_seqI, ev_rng1, ev_rng2, ev_zip, ev_enum, ev_lcE, ev_lc2E, lc_item, lc_item2, List.map_cons, List.map_nil, List.cons_append, List.nil_append, List.append_nil, List.replicate_succ, List.replicate_zero, Nat.reduceSub, Nat.reduceAdd, List.getElem?_cons_zero, List.getElem?_cons_succ, List.getElem?_nil, List.set_cons_zero, List.set_cons_succ, asg_nm, asg_tp, asgs_nil, asgs_cons, Option.bind_some, List.length_cons, List.length_nil, wipeD, true_and, and_true, if_true, if_false, Bool.false_eq_true, decide_eq_true_eq, Bool.not_true, Bool.not_false, Bool.xor_false, Bool.false_xor, Bool.true_xor, Bool.not_eq_true', decide_eq_false_iff_not, reduceIte]
    have m5 := mod_lo (i := v5) (j := 6) (by omega)
    generalize v5 % 6 = u5 at m5 ⊢
    refine ⟨by omega, ⟨by omega, by omega⟩, ?_⟩
    rw [rngD_eq]
    have lr := lt_of_get g
    have kk : μ'.length ≠ k := by omega
    refine ws_fix (fun i ρ' μ4 => Fr (at1 k) μ μ4 ∧ Dr b μ4 k ∧ μ4[μ3.length]? = some (.lst (rs.map rD)) ∧ ∃ ks x5, ρ' = [some (.mr k), some (.mr sp), some (.int many), some (.int purses), some (.mr μ3.length), x5, some (.mr μ'.length), x7, x8, x9, x10, x11, x12, x13] ∧ μ4[μ'.length]? = some (.lst (ks.map kD)) ∧ (∀ k ∈ ks, KindOk k (many + purses - 1)) ∧ ks.length = i ∧ (i : Int) ≤ 1 + u5)
      ⟨(f.new _).trans f5, d5, g5, [], _, rfl, K5, (fun k hk => by simp at hk), rfl, by omega⟩ (fun i d ρ' μ4 hd ⟨f, dk, g, ks, x5, e, kg, ko, kl2, il⟩ => ?_) (fun ρ' μ4 ⟨f, dk, g, ks, x5, e, kg, ko, kl2, il⟩ => ?_)
    · subst e
      have il2 : (i : Int) < 1 + u5 := by
        have := (List.getElem?_eq_some_iff.mp hd).1
        rw [List.length_map, rng_len] at this
        omega
      have lk := lt_of_get kg
      have dl := dk.lt
      have ml4 := f.len
      refine ⟨_, rfl, ?_⟩
      simp only [ev_gcE, ev_recvL kg, ev_ix0, ev_ix1, ev_ix2, ws_seq, ws_next, ws_expr, ws_ret, ws_retN, ws_break, ws_set, ws_asg, ws_if, ws_raise, ws_par, ws_eff, ws_for, ev_varE, ev_cE, ev_binE, ev_unE, ev_nilA, ev_consA, ev_starA, ev_tupE, ev_newL, ev_lstE, ev_ifE, ev_asB, ev_valT, ev_andT, ev_orT, ev_notT, ev_andE, ev_intD, ev_addI, ev_addT, ev_mulI, ev_mulT, ev_negI, ev_isN, ev_isB, ev_eqI, ev_callE, ev_lenT, ev_intC, ev_listT, ev_two, ev_chainE, ev_lastC, ev_lastT, ev_linkC, ev_linkT, ev_truT, ev_mtE, ev_yesT, ev_all, ev_seqI, ev_rng1, ev_rng2, ev_zip, ev_enum, ev_lcE, ev_lc2E, lc_item, lc_item2, List.map_cons, List.map_nil, List.cons_append, List.nil_append, List.append_nil, List.replicate_succ, List.replicate_zero, Nat.reduceSub, Nat.reduceAdd, List.getElem?_cons_zero, List.getElem?_cons_succ, List.getElem?_nil, List.set_cons_zero, List.set_cons_succ, asg_nm, asg_tp, asgs_nil, asgs_cons, Option.bind_some, List.length_cons, List.length_nil, wipeD, true_and, and_true, if_true, if_false, Bool.false_eq_true, decide_eq_true_eq, Bool.not_true, Bool.not_false, Bool.xor_false, Bool.false_xor, Bool.true_xor, Bool.not_eq_true', decide_eq_false_iff_not, reduceIte]
      refine w_next dk fun v6 μ6 f6 d6 b0 b1 => ?_
      simp only [ev_ix0, ev_ix1, ev_ix2, ws_seq, ws_next, ws_expr, ws_ret, ws_retN, ws_break, ws_set, ws_asg, ws_if, ws_raise, ws_par, ws_eff, ws_for, ev_varE, ev_cE, ev_binE, ev_unE, ev_nilA, ev_consA, ev_starA, ev_tupE, ev_newL, ev_lstE, ev_ifE, ev_asB, ev_valT, ev_andT, ev_orT, ev_notT, ev_andE, ev_intD, ev_addI, ev_addT, ev_mulI, ev_mulT, ev_negI, ev_isN, ev_isB, ev_eqI, ev_callE, ev_lenT, ev_intC, ev_listT, ev_two, ev_chainE, ev_lastC, ev_lastT, ev_linkC, ev_linkT, ev_truT, ev_mtE, ev_yesT, ev_all, ev_seqI, ev_rng1, ev_rng2, ev_zip, ev_enum, ev_lcE, ev_lc2E, lc_item, lc_item2, List.map_cons, List.map_nil, List.cons_append, List.nil_append, List.append_nil, List.replicate_succ, List.replicate_zero, Nat.reduceSub, Nat.reduceAdd, List.getElem?_cons_zero, List.getElem?_cons_succ, List.getElem?_nil, List.set_cons_zero, List.set_cons_succ, asg_nm, asg_tp, asgs_nil, asgs_cons, Option.bind_some, List.length_cons, List.length_nil, wipeD, true_and, and_true, if_true, if_false, Bool.false_eq_true, decide_eq_true_eq, Bool.not_true, Bool.not_false, Bool.xor_false, Bool.false_xor, Bool.true_xor, Bool.not_eq_true', decide_eq_false_iff_not, reduceIte]
      have m6 := mod_lo (i := v6) (j := 4) (by omega)
      generalize v6 % 4 = u6 at m6 ⊢
      refine ⟨by omega, ⟨by omega, by omega⟩, ?_⟩
      rw [rngD_eq]
      have l6 := f6.len
      have d6l := d6.lt
      refine lc_fix (fun j μ7 => Fr (at1 k) μ6 μ7 ∧ Dr b μ7 k ∧ ∃ es, μ7[μ6.length]? = some (.lst (es.map oD)) ∧ es.length = j ∧ (j : Int) ≤ 1 + u6 ∧ ∀ e ∈ es, (0 ≤ e.1 ∧ e.1 ≤ many + purses - 1) ∧ -99 ≤ e.2 ∧ e.2 ≤ 99)
        ⟨(Fr.refl _ _).new _, d6.new _, [], get_new, rfl, by omega, (fun e he => by simp at he)⟩ (fun j d μ7 hd2 ⟨f7, d7, es, q7, el, jl, eo⟩ => ?_) (fun μ7 ⟨f7, d7, es, q7, el, jl, eo⟩ => ?_)
      · have jl2 : (j : Int) < 1 + u6 := by
          have := (List.getElem?_eq_some_iff.mp hd2).1
          rw [List.length_map, rng_len] at this
          omega
        have kq : μ6.length ≠ k := by omega
        refine ⟨_, rfl, ?_⟩
        simp only [ev_ix0, ev_ix1, ev_ix2, ws_seq, ws_next, ws_expr, ws_ret, ws_retN, ws_break, ws_set, ws_asg, ws_if, ws_raise, ws_par, ws_eff, ws_for, ev_varE, ev_cE, ev_binE, ev_unE, ev_nilA, ev_consA, ev_starA, ev_tupE, ev_newL, ev_lstE, ev_ifE, ev_asB, ev_valT, ev_andT, ev_orT, ev_notT, ev_andE, ev_intD, ev_addI, ev_addT, ev_mulI, ev_mulT, ev_negI, ev_isN, ev_isB, ev_eqI, ev_callE, ev_lenT, ev_intC, ev_listT, ev_two, ev_chainE, ev_lastC, ev_lastT, ev_linkC, ev_linkT, ev_truT, ev_mtE, ev_yesT, ev_all, ev_seqI, ev_rng1, ev_rng2, ev_zip, ev_enum, ev_lcE, ev_lc2E, lc_item, lc_item2, List.map_cons, List.map_nil, List.cons_append, List.nil_append, List.append_nil, List.replicate_succ, List.replicate_zero, Nat.reduceSub, Nat.reduceAdd, List.getElem?_cons_zero, List.getElem?_cons_succ, List.getElem?_nil, List.set_cons_zero, List.set_cons_succ, asg_nm, asg_tp, asgs_nil, asgs_cons, Option.bind_some, List.length_cons, List.length_nil, wipeD, true_and, and_true, if_true, if_false, Bool.false_eq_true, decide_eq_true_eq, Bool.not_true, Bool.not_false, Bool.xor_false, Bool.false_xor, Bool.true_xor, Bool.not_eq_true', decide_eq_false_iff_not, reduceIte]
        refine w_next d7 fun v8 μ8 f8 d8 c0 c1 => ?_
        simp only [ev_ix0, ev_ix1, ev_ix2, ws_seq, ws_next, ws_expr, ws_ret, ws_retN, ws_break, ws_set, ws_asg, ws_if, ws_raise, ws_par, ws_eff, ws_for, ev_varE, ev_cE, ev_binE, ev_unE, ev_nilA, ev_consA, ev_starA, ev_tupE, ev_newL, ev_lstE, ev_ifE, ev_asB, ev_valT, ev_andT, ev_orT, ev_notT, ev_andE, ev_intD, ev_addI, ev_addT, ev_mulI, ev_mulT, ev_negI, ev_isN, ev_isB, ev_eqI, ev_callE, ev_lenT, ev_intC, ev_listT, ev_two, ev_chainE, ev_lastC, ev_lastT, ev_linkC, ev_linkT, ev_truT, ev_mtE, ev_yesT, ev_all, ev_seqI, ev_rng1, ev_rng2, ev_zip, ev_enum, ev_lcE, ev_lc2E, lc_item, lc_item2, List.map_cons, List.map_nil, List.cons_append, List.nil_append, List.append_nil, List.replicate_succ, List.replicate_zero, Nat.reduceSub, Nat.reduceAdd, List.getElem?_cons_zero, List.getElem?_cons_succ, List.getElem?_nil, List.set_cons_zero, List.set_cons_succ, asg_nm, asg_tp, asgs_nil, asgs_cons, Option.bind_some, List.length_cons, List.length_nil, wipeD, true_and, and_true, if_true, if_false, Bool.false_eq_true, decide_eq_true_eq, Bool.not_true, Bool.not_false, Bool.xor_false, Bool.false_xor, Bool.true_xor, Bool.not_eq_true', decide_eq_false_iff_not, reduceIte]
        have m8 := mod_lo (i := v8) (j := many + purses) (by omega)
        generalize v8 % (many + purses) = u8 at m8 ⊢
        refine ⟨by omega, ?_⟩
        refine w_next d8 fun v9 μ9 f9 d9 e0 e1 => ?_
        have q9 := f9.at_ _ _ (f8.at_ _ _ q7 kq) kq
        simp only [ev_ix0, ev_ix1, ev_ix2, ws_seq, ws_next, ws_expr, ws_ret, ws_retN, ws_break, ws_set, ws_asg, ws_if, ws_raise, ws_par, ws_eff, ws_for, ev_varE, ev_cE, ev_binE, ev_unE, ev_nilA, ev_consA, ev_starA, ev_tupE, ev_newL, ev_lstE, ev_ifE, ev_asB, ev_valT, ev_andT, ev_orT, ev_notT, ev_andE, ev_intD, ev_addI, ev_addT, ev_mulI, ev_mulT, ev_negI, ev_isN, ev_isB, ev_eqI, ev_callE, ev_lenT, ev_intC, ev_listT, ev_two, ev_chainE, ev_lastC, ev_lastT, ev_linkC, ev_linkT, ev_truT, ev_mtE, ev_yesT, ev_all, ev_seqI, ev_rng1, ev_rng2, ev_zip, ev_enum, ev_lcE, ev_lc2E, lc_item, lc_item2, List.map_cons, List.map_nil, List.cons_append, List.nil_append, List.append_nil, List.replicate_succ, List.replicate_zero, Nat.reduceSub, Nat.reduceAdd, List.getElem?_cons_zero, List.getElem?_cons_succ, List.getElem?_nil, List.set_cons_zero, List.set_cons_succ, asg_nm, asg_tp, asgs_nil, asgs_cons, Option.bind_some, List.length_cons, List.length_nil, wipeD, true_and, and_true, if_true, if_false, Bool.false_eq_true, decide_eq_true_eq, Bool.not_true, Bool.not_false, Bool.xor_false, Bool.false_xor, Bool.true_xor, Bool.not_eq_true', decide_eq_false_iff_not, reduceIte]
        have m9 := mod_lo (i := v9) (j := 199) (by omega)
        generalize v9 % 199 = u9 at m9 ⊢
        rw [lc_add q9]
        refine ⟨by omega, by omega, by rw [List.length_map]; omega, ((f7.trans f8).trans f9).set _ (fun z => by omega), d9.set _ kq, es ++ [(u8, u9 - 99)], ?_, by rw [List.length_append, el]; rfl, by omega, fun e he => ?_⟩
        · rw [get_set q9, map_oD]
        · rcases List.mem_append.mp he with z | z
          · exact eo e z
          · have : e = (u8, u9 - 99) := by simpa using z
            rw [this]
            exact ⟨⟨by dsimp only; omega, by dsimp only; omega⟩, by dsimp only; omega, by dsimp only; omega⟩
      · rw [List.length_map, rng_len] at el
        rw [ev_tupL q7]
        have f67 := (f6.trans f7).gc (d := .tup (es.map oD))
        have kg2 := f67.at_ _ _ kg kk
        have g2 := f67.at_ _ _ g kr
        have dg := d7.gc (d := .tup (es.map oD)) dl
        rw [ev_append kg2]
        have fin := (Fr.set (S := fun i => i = k ∨ i = μ'.length) (f67.mono fun i z => .inl z) (.lst (ks.map kD ++ [D.tup (es.map oD)])) fun _ => .inr rfl).gc (d := .non)
        refine ⟨by rw [List.length_map]; omega, ?_, (dg.set _ kk).gc dl, fin.at_ _ _ g (fun z => by rcases z with z | z <;> omega), ks ++ [es], _, rfl, ?_, fun k' hk' => ?_, by rw [List.length_append, kl2]; rfl, by omega⟩
        · refine Fr.above (S := fun i => i = k ∨ i = μ'.length) ((f.mono fun i z => .inl z).trans fin) fun i il z => ?_
          rcases z with z | z
          · exact z
          · omega
        · refine gcM_get ?_ lk
          rw [get_set kg2, map_kD]
        · rcases List.mem_append.mp hk' with z | z
          · exact ko k' z
          · have : k' = es := by simpa using z
            rw [this]
            exact ⟨by omega, by omega, eo⟩
    · subst e
      rw [List.length_map, rng_len] at kl2
      simp only [ev_tupL g, ev_tupL kg, ev_ix0, ev_ix1, ev_ix2, ws_seq, ws_next, ws_expr, ws_ret, ws_retN, ws_break, ws_set, ws_asg, ws_if, ws_raise, ws_par, ws_eff, ws_for, ev_varE, ev_cE, ev_binE, ev_unE, ev_nilA, ev_consA, ev_starA, ev_tupE, ev_newL, ev_lstE, ev_ifE, ev_asB, ev_valT, ev_andT, ev_orT, ev_notT, ev_andE, ev_intD, ev_addI, ev_addT, ev_mulI, ev_mulT, ev_negI, ev_isN, ev_isB, ev_eqI, ev_callE, ev_lenT, ev_intC, ev_listT, ev_two, ev_chainE, ev_lastC, ev_lastT, ev_linkC, ev_linkT, ev_truT, ev_mtE, ev_yesT, ev_all, ev_seqI, ev_rng1, ev_rng2, ev_zip, ev_enum, ev_lcE, ev_lc2E, lc_item, lc_item2, List.map_cons, List.map_nil, List.cons_append, List.nil_append, List.append_nil, List.replicate_succ, List.replicate_zero, Nat.reduceSub, Nat.reduceAdd, List.getElem?_cons_zero, List.getElem?_cons_succ, List.getElem?_nil, List.set_cons_zero, List.set_cons_succ, asg_nm, asg_tp, asgs_nil, asgs_cons, Option.bind_some, List.length_cons, List.length_nil, wipeD, true_and, and_true, if_true, if_false, Bool.false_eq_true, decide_eq_true_eq, Bool.not_true, Bool.not_false, Bool.xor_false, Bool.false_xor, Bool.true_xor, Bool.not_eq_true', decide_eq_false_iff_not, reduceIte]
      refine ⟨by omega, ?_⟩
      have hrl : rs.length = many.toNat := ro.len
      have hlast : (⟨rs, purses, ks⟩ : Pg).last = many + purses - 1 := by unfold Pg.last; dsimp only; omega
      have ok : PgOk ⟨rs, purses, ks⟩ := by
        refine RsOk.prog (c := c) (n := many.toNat) (by rw [hlast]; exact ro) (by omega) hp'.1 hp'.2 (by omega) ?_ (by dsimp only; omega) (by dsimp only; omega) (by rw [hlast]; exact ko)
        rcases hc with ⟨r1, r2⟩ | ⟨r1, r2⟩ | ⟨r1, r2⟩ <;> rw [r1, r2] <;> decide
      exact h ⟨rs, purses, ks⟩ _ ok f.gc (dk.gc kl)
end
end K69
end TPLD

section TPLE
set_option maxRecDepth 100000
set_option maxHeartbeats 4000000
namespace K69
open PySem L2 PySem.Spec PyProof.Rows DL
/-! ### what is shown -/
mutual
def sml : PyData → Bool
  | .none => true
  | .bool _ => true
  | .int i => decide (i.natAbs < 1000000)
  | .list xs => smls xs
  | .tuple xs => smls xs
  | _ => false
def smls : List PyData → Bool
  | [] => true
  | x :: xs => sml x && smls xs
end
mutual
theorem sml_show : ∀ d : PyData, sml d = true → d.showable = true
  | .none, _ => by rfl
  | .bool _, _ => by rfl
  | .int i, h => by
    have h' : i.natAbs < 1000000 := by simpa only [sml, decide_eq_true_eq] using h
    have : i.natAbs.log2 < 1920 := by
      by_cases z : i.natAbs = 0
      · rw [z]; decide
      · have h3 : i.natAbs.log2 < 20 := (Nat.log2_lt z).mpr (by omega)
        omega
    simpa only [PyData.showable, decide_eq_true_eq] using this
  | .list xs, h => by simpa only [PyData.showable] using sml_shows xs (by simpa only [sml] using h)
  | .tuple xs, h => by simpa only [PyData.showable] using sml_shows xs (by simpa only [sml] using h)
  | .str _, h => by simp [sml] at h
  | .dict _, h => by simp [sml] at h
theorem sml_shows : ∀ ds : List PyData, smls ds = true → PyData.showableAll ds = true
  | [], _ => by rfl
  | x :: xs, h => by
    have h' : sml x = true ∧ smls xs = true := by simpa only [smls, Bool.and_eq_true] using h
    rw [PyData.showableAll, sml_show x h'.1, sml_shows xs h'.2]; rfl
end
mutual
theorem sml_lay : ∀ d : PyData, sml d = true → d.canLay0 = true
  | .none, _ => by rfl
  | .bool _, _ => by rfl
  | .int i, h => by rfl
  | .list xs, h => by simpa only [PyData.canLay0] using sml_lays xs (by simpa only [sml] using h)
  | .tuple xs, h => by simpa only [PyData.canLay0] using sml_lays xs (by simpa only [sml] using h)
  | .str _, h => by simp [sml] at h
  | .dict _, h => by simp [sml] at h
theorem sml_lays : ∀ ds : List PyData, smls ds = true → PyData.canLayAll0 ds = true
  | [], _ => by rfl
  | x :: xs, h => by
    have h' : sml x = true ∧ smls xs = true := by simpa only [smls, Bool.and_eq_true] using h
    rw [PyData.canLayAll0, sml_lay x h'.1, sml_lays xs h'.2]; rfl
end
mutual
theorem sml_short : ∀ d : PyData, sml d = true → d.leavesShort 13 = true
  | .none, _ => by rfl
  | .bool _, _ => by rfl
  | .int i, h => by
    have h' : i.natAbs < 1000000 := by simpa only [sml, decide_eq_true_eq] using h
    simpa only [PyData.leavesShort, decide_eq_true_eq] using PyData.shown_int_le (i := i) (by omega)
  | .list xs, h => by simpa only [PyData.leavesShort] using sml_shorts xs (by simpa only [sml] using h)
  | .tuple xs, h => by simpa only [PyData.leavesShort] using sml_shorts xs (by simpa only [sml] using h)
  | .str _, h => by simp [sml] at h
  | .dict _, h => by simp [sml] at h
theorem sml_shorts : ∀ ds : List PyData, smls ds = true → PyData.leavesShortAll 13 ds = true
  | [], _ => by rfl
  | x :: xs, h => by
    have h' : sml x = true ∧ smls xs = true := by simpa only [smls, Bool.and_eq_true] using h
    rw [PyData.leavesShortAll, sml_short x h'.1, sml_shorts xs h'.2]; rfl
end
mutual
theorem sml_low : ∀ d : PyData, sml d = true → ∀ k ∈ d.shown.cps.toList, k < 128
  | .none, _ => fun k hk => by
    have := (mem_shown_none k).mp hk
    simp at this; omega
  | .bool b, _ => fun k hk => by
    have := (mem_shown_bool k b).mp hk
    cases b <;> simp at this <;> omega
  | .int i, h => fun k hk => by
    by_cases z : k ≠ 45 ∧ (k < 48 ∨ 57 < k)
    · exact absurd hk (shown_int_free' z i)
    · omega
  | .list xs, h => fun k hk => by
    have ih := sml_lows xs (by simpa only [sml] using h)
    rw [PyData.shown_list, mem_cps_append, mem_cps_append, signs_lbrack, signs_rbrack, mem_join, signs_sep] at hk
    rcases hk with (hm | (⟨t, ht, hc⟩ | ⟨_, hc⟩)) | hm
    · simp at hm; omega
    · exact ih t ht k hc
    · simp at hc; omega
    · simp at hm; omega
  | .tuple xs, h => fun k hk => by
    have ih := sml_lows xs (by simpa only [sml] using h)
    rw [PyData.shown_tuple, mem_cps_append, mem_cps_append, signs_lparen, mem_join, signs_tuple_end, signs_sep] at hk
    rcases hk with (hm | (⟨t, ht, hc⟩ | ⟨_, hc⟩)) | hm
    · simp at hm; omega
    · exact ih t ht k hc
    · simp at hc; omega
    · split at hm <;> (simp at hm; omega)
  | .str _, h => by simp [sml] at h
  | .dict _, h => by simp [sml] at h
theorem sml_lows : ∀ ds : List PyData, smls ds = true → ∀ t ∈ PyData.shownAll ds, ∀ k ∈ t.cps.toList, k < 128
  | [], _ => fun t ht => by simp [PyData.shownAll] at ht
  | x :: xs, h => fun t ht => by
    have h' : sml x = true ∧ smls xs = true := by simpa only [smls, Bool.and_eq_true] using h
    rw [PyData.shownAll] at ht
    rcases List.mem_cons.mp ht with e | z
    · rw [e]; exact sml_low x h'.1
    · exact sml_lows xs h'.2 t z
end
theorem sml_ok {d : PyData} (h : sml d = true) : PyData.strOk d.shown = true := by
  unfold PyData.strOk
  rw [Array.all_eq_true]
  intro i hi
  have := sml_low d h d.shown.cps[i] (by rw [← Array.mem_def]; exact Array.getElem_mem hi)
  exact decide_eq_true (by omega)
section
variable {X : Nat → Mu → Prop} {Q : D → Mu → Prop} {μ : Mu}
theorem ev_repr {r : Nat} {ds : List D} {p : PyData} (hr : μ[r]? = some (.lst ds)) (hv : view μ 8 (.mr r) = some p) (hs : sml p = true) (hd : p.depth ≤ 60) (hb : p.bulk ≤ 1048576) : Ev X Q (reprD [.mr r] μ) = Q (.str p.shown) μ := by
  show Ev X Q (reprO (.mr r) μ) = _
  rw [reprO_at (xs := ds) (p := p) (by unfold lstOf; simp only [hr]) hv ⟨sml_show p hs, PyData.hasDict_of_canLay p (sml_lay p hs), hd, PyData.shown_fits_bulk (B := 13) (by omega) (by omega) (sml_short p hs) (by omega)⟩]
  rfl
theorem ev_eqS {neg : Bool} {s : Str} (h : PyData.strOk s = true) : Ev X Q (eqD neg (.str s) (.str s) μ) = Q (.bl (xor neg true)) μ := by
  rw [ev_eqD (p := .str s) (q := .str s) (by simp only [view]) (by simp only [view]) (by unfold SeqAt.shaped; simp [PyData.canLay0, h, PyData.depth]) (by unfold SeqAt.shaped; simp [PyData.canLay0, h, PyData.depth])]
  rw [show PyData.eqv (.str s) (.str s) = true by simp [PyData.eqv]]
/-! pairs -/
def dP (es : List (Int × Int)) : PyData := .list (es.map fun e => .tuple [.int e.1, .int e.2])
theorem views_P (n : Nat) : ∀ es : List (Int × Int), views μ (n + 1) (es.map oD) = some (es.map fun e => .tuple [.int e.1, .int e.2])
  | [] => by simp only [List.map_nil, views]
  | e :: es => by
    rw [List.map_cons, views, views_P n es]
    unfold oD
    rw [view]
    cases n <;> simp [views, view]
theorem view_P {r : Nat} {es : List (Int × Int)} (h : μ[r]? = some (.lst (es.map oD))) : view μ 8 (.mr r) = some (dP es) := by
  rw [view, h]
  simp only [views_P]
  rfl
theorem dP_sml : ∀ {es : List (Int × Int)}, (∀ e ∈ es, (0 ≤ e.1 ∧ e.1 < 100) ∧ 0 ≤ e.2 ∧ e.2 < 100) → sml (dP es) = true
  | [], _ => rfl
  | e :: es, h => by
    have ih := dP_sml (es := es) fun x hx => h x (List.mem_cons_of_mem _ hx)
    have he := h e (List.mem_cons_self ..)
    unfold dP sml at ih ⊢
    rw [List.map_cons, smls, ih]
    have h1 : e.1.natAbs < 1000000 := by omega
    have h2 : e.2.natAbs < 1000000 := by omega
    simp [sml, smls, h1, h2]
theorem dP_bulk : ∀ {es : List (Int × Int)}, (dP es).bulk = es.length * 3
  | [] => rfl
  | e :: es => by
    have ih := dP_bulk (es := es)
    unfold dP PyData.bulk at ih ⊢
    rw [List.map_cons, PyData.bulkAll, ih, List.length_cons]
    simp [PyData.bulk, PyData.bulkAll]
    omega
theorem dP_depth : ∀ {es : List (Int × Int)}, (dP es).depth ≤ 2
  | [] => by decide
  | e :: es => by
    have ih := dP_depth (es := es)
    unfold dP PyData.depth at ih ⊢
    rw [List.map_cons, PyData.depthAll]
    simp [PyData.depth, PyData.depthAll]
    omega
/-! a turn's answer -/
def dO : Option (List Int) → PyData
  | none => .none
  | some lv => dI lv
def dT (o : Option (List Int)) : PyData := .list [.bool o.isNone, dO o]
theorem view_O (n : Nat) (o : Option (List Int)) : view μ (n + 1) (aD o) = some (dO o) := by
  cases o with
  | none => simp only [aD, view]; rfl
  | some lv => exact view_I n lv
theorem view_T {r : Nat} {o : Option (List Int)} (h : μ[r]? = some (.lst [.bl o.isNone, aD o])) : view μ 8 (.mr r) = some (dT o) := by
  rw [view, h]
  simp only [views, view_O]
  simp [view, dT]
theorem sml_I : ∀ {l : List Int}, (∀ x ∈ l, -1000 ≤ x ∧ x ≤ 1000) → smls (l.map .int) = true
  | [], _ => rfl
  | x :: l, h => by
    rw [List.map_cons, smls, sml_I fun y hy => h y (List.mem_cons_of_mem _ hy)]
    have hx := h x (List.mem_cons_self ..)
    have h1 : x.natAbs < 1000000 := by omega
    simp [sml, h1]
theorem bulk_I : ∀ {l : List Int}, PyData.bulkAll (l.map .int) = l.length
  | [] => rfl
  | x :: l => by rw [List.map_cons, PyData.bulkAll, bulk_I, List.length_cons]; simp [PyData.bulk]; omega
theorem dT_ok {o : Option (List Int)} (h : ∀ lv, o = some lv → (∀ x ∈ lv, -1000 ≤ x ∧ x ≤ 1000) ∧ lv.length ≤ 100) : sml (dT o) = true ∧ (dT o).depth ≤ 60 ∧ (dT o).bulk ≤ 1048576 := by
  cases o with
  | none => exact ⟨by decide, by decide, by decide⟩
  | some lv =>
    obtain ⟨h1, h2⟩ := h lv rfl
    refine ⟨?_, ?_, ?_⟩
    · simp [dT, dO, dI, sml, smls, sml_I h1]
    · simp [dT, dO, dI, PyData.depth, PyData.depthAll, dep_I]
    · simp [dT, dO, dI, PyData.bulk, PyData.bulkAll, bulk_I]
      omega
end
end K69
end TPLE

section TPLF
set_option maxRecDepth 100000
set_option maxHeartbeats 4000000
namespace K69
open PySem L2 PySem.Spec PyProof.Rows DL
/-! ### rows that are the same stay the same -/
def addL (a b : List Int) : List Int := List.zipWith (· + ·) a b
theorem addL_get {a b : List Int} {i : Nat} : (addL a b)[i]? = (a[i]?).bind fun x => (b[i]?).map fun y => x + y := by
  unfold addL
  rw [List.getElem?_zipWith]
  cases a[i]? <;> cases b[i]? <;> rfl
theorem addL_len {a b : List Int} (h : a.length = b.length) : (addL a b).length = b.length := by unfold addL; rw [List.length_zipWith, h, Nat.min_self]
theorem addL_set {a b : List Int} {i : Nat} {m : Int} (h : a.length = b.length) : (addL a b).set i ((addL a b).getD i 0 + m) = addL a (b.set i (b.getD i 0 + m)) := by
  apply List.ext_getElem?
  intro j
  rw [addL_get]
  by_cases e : i = j
  · subst e
    by_cases l : i < b.length
    · have la : i < a.length := by omega
      rw [List.getElem?_set_self (by rw [addL_len h]; exact l), List.getElem?_set_self l, List.getD_eq_getElem?_getD, List.getD_eq_getElem?_getD, addL_get, List.getElem?_eq_getElem la, List.getElem?_eq_getElem l]
      simp
      omega
    · rw [List.getElem?_eq_none (by rw [List.length_set, addL_len h]; omega), List.getElem?_eq_none (l := b.set i _) (by rw [List.length_set]; omega)]
      cases a[i]? <;> rfl
  · rw [List.getElem?_set_ne e, List.getElem?_set_ne e, addL_get]
theorem put_len (rs : List Reg) : ∀ (n : Nat) (s : List Int × List Int) (pl am : Int), (put rs n s pl am).2.length = s.2.length
  | 0, s, pl, am => rfl
  | n + 1, s, pl, am => by
    rw [put]
    split
    · rfl
    · split
      · rw [List.length_set]
      · dsimp only
        split
        · rfl
        · rw [put_len rs n]
theorem put_add (rs : List Reg) {a : List Int} : ∀ (n : Nat) (lv d : List Int) (pl am : Int), a.length = d.length → put rs n (lv, addL a d) pl am = ((put rs n (lv, d) pl am).1, addL a (put rs n (lv, d) pl am).2)
  | 0, lv, d, pl, am, h => rfl
  | n + 1, lv, d, pl, am, h => by
    rw [put, put]
    split
    · rfl
    · split
      · dsimp only
        rw [addL_set h]
      · dsimp only
        split
        · rfl
        · exact put_add rs n _ d _ _ h
theorem book_len (rs : List Reg) : ∀ (k : List (Int × Int)) (s : List Int × List Int), (book rs s k).2.length = s.2.length
  | [], s => rfl
  | e :: k, s => (book_len rs k (put rs (rs.length + 1) s e.1 e.2)).trans (put_len rs _ s _ _)
theorem book_add (rs : List Reg) {a : List Int} : ∀ (k : List (Int × Int)) (lv d : List Int), a.length = d.length → book rs (lv, addL a d) k = ((book rs (lv, d) k).1, addL a (book rs (lv, d) k).2)
  | [], lv, d, h => rfl
  | e :: k, lv, d, h => by
    show book rs (put rs (rs.length + 1) (lv, addL a d) e.1 e.2) k = ((book rs (put rs (rs.length + 1) (lv, d) e.1 e.2) k).1, addL a (book rs (put rs (rs.length + 1) (lv, d) e.1 e.2) k).2)
    rw [put_add rs _ lv d _ _ h]
    exact book_add rs k _ _ (by rw [put_len]; exact h)
theorem row_add (p : Pg) {a : List Int} : ∀ (row : List Int) (lv d : List Int), a.length = d.length → row_ p (lv, addL a d) row = ((row_ p (lv, d) row).1, addL a (row_ p (lv, d) row).2)
  | [], lv, d, h => rfl
  | i :: row, lv, d, h => by
    show row_ p (book p.rs (lv, addL a d) (p.ks.getD i.toNat [])) row = ((row_ p (book p.rs (lv, d) (p.ks.getD i.toNat [])) row).1, addL a (row_ p (book p.rs (lv, d) (p.ks.getD i.toNat [])) row).2)
    rw [book_add p.rs _ lv d h]
    exact row_add p row _ _ (by rw [book_len]; exact h)
theorem addL_zero : ∀ a : List Int, addL a (List.replicate a.length 0) = a
  | [] => rfl
  | x :: a => by
    have ih := addL_zero a
    unfold addL at ih ⊢
    rw [List.length_cons, List.replicate_succ, List.zipWith_cons_cons, ih]
    simp
theorem row_from {p : Pg} (hp : PgOk p) {s : List Int × List Int} (hs : StOk p s) (row : List Int) : row_ p s row = ((endOf p s.1 row).1, addL s.2 (endOf p s.1 row).2) := by
  obtain ⟨lv, py⟩ := s
  have e : py.length = p.ps.toNat := by have := hs.py; dsimp only at this; omega
  have h := row_add p (a := py) row lv (List.replicate py.length 0) (by rw [List.length_replicate])
  rw [addL_zero] at h
  rw [h, e]
  rfl
theorem lv_in {p : Pg} {lv : List Int} (h : LvOk p lv) : lv ∈ lvs p.rs := by
  have go : ∀ i, i ≤ p.rs.length → lv.take i ∈ lvs (p.rs.take i) := fun i => by
    induction i with
    | zero => intro _; rw [List.take_zero, List.take_zero]; exact List.mem_singleton.mpr rfl
    | succ i ih =>
      intro hi
      have hr : p.rs[i]? = some p.rs[i] := List.getElem?_eq_getElem (by omega)
      have li : i < lv.length := by rw [h.len]; omega
      have hx : lv[i]? = some lv[i] := List.getElem?_eq_getElem li
      have hb := h.bd i _ _ hr hx
      rw [lvs_next hr]
      refine List.mem_flatMap.mpr ⟨lv.take i, ih (by omega), List.mem_map.mpr ⟨lv[i], ?_, ?_⟩⟩
      · unfold rng
        refine List.mem_map.mpr ⟨(lv[i] - p.rs[i].lo).toNat, List.mem_range.mpr ?_, by omega⟩
        unfold wide
        omega
      · rw [List.take_add_one, hx]; rfl
  have := go p.rs.length (Nat.le_refl _)
  rw [List.take_length, ← h.len, List.take_length] at this
  exact this
theorem apart_none {p : Pg} {one two : List Int} : apart p one two = none ↔ ∀ lv, lv ∈ lvs p.rs → endOf p lv one = endOf p lv two := by
  unfold apart
  rw [List.find?_eq_none]
  constructor
  · intro h lv hl
    have := h lv hl
    unfold apP at this
    simpa using this
  · intro h lv hl
    unfold apP
    simpa using h lv hl
theorem row_app (p : Pg) (s : List Int × List Int) (a b : List Int) : row_ p s (a ++ b) = row_ p (row_ p s a) b := by unfold row_; rw [List.foldl_append]
theorem same_within {p : Pg} (hp : PgOk p) {one two ahead behind : List Int} (h1 : rowB p ahead = true) (hn : apart p one two = none) : apart p (ahead ++ one ++ behind) (ahead ++ two ++ behind) = none := by
  rw [apart_none] at hn ⊢
  intro lv hl
  have so := row_ok hp ahead _ (start_ok hp (lvs_lv hl)) (rowB_iff.mp h1)
  unfold endOf
  rw [row_app, row_app, row_app, row_app, row_from hp so one, row_from hp so two, hn _ (lv_in so.lv)]
theorem apart_some {p : Pg} {one two lv : List Int} (h : apart p one two = some lv) : LvOk p lv ∧ endOf p lv one ≠ endOf p lv two := by
  have hm := List.mem_of_find?_eq_some h
  have hP := List.find?_some h
  unfold apP at hP
  exact ⟨lvs_lv hm, by simpa using hP⟩
theorem lv_small {p : Pg} (hp : PgOk p) {lv : List Int} (h : LvOk p lv) : (∀ x ∈ lv, -1000 ≤ x ∧ x ≤ 1000) ∧ lv.length ≤ 100 := by
  refine ⟨fun x hx => ?_, by rw [h.len]; have := hp.nr; omega⟩
  obtain ⟨i, hi⟩ := List.getElem?_of_mem hx
  have l : i < p.rs.length := by rw [← h.len]; exact (List.getElem?_eq_some_iff.mp hi).1
  have hr : p.rs[i]? = some p.rs[i] := List.getElem?_eq_getElem l
  have b := h.bd i _ x hr hi
  have c := hp.bd _ (List.getElem_mem l)
  omega
/-! ### the account -/
def acc : Pg := ⟨[⟨0, 10, 0, (1, 3), (1, 2)⟩], 1, [[(0, 8)], [(0, -5)]]⟩
theorem acc_ok : PgOk acc := by
  refine ⟨by decide, by decide, by decide, by decide, by decide, fun i r hr => ?_, by decide, fun k hk => ?_⟩
  · have : i = 0 := by
      have := (List.getElem?_eq_some_iff.mp hr).1
      have : i < 1 := this
      omega
    subst this
    have e : r = ⟨0, 10, 0, (1, 3), (1, 2)⟩ := by
      have : some (⟨0, 10, 0, (1, 3), (1, 2)⟩ : Reg) = some r := hr
      injection this with this
      exact this.symm
    subst e
    refine ⟨by decide, by decide, by decide, by decide, .inr ⟨by decide, by decide, by decide, by decide, by decide⟩, .inr ⟨by decide, by decide, by decide, by decide, by decide⟩⟩
  · have : k = [(0, 8)] ∨ k = [(0, -5)] := by simpa [acc] using hk
    rcases this with rfl | rfl
    · exact ⟨by decide, by decide, fun e he => by have : e = (0, 8) := by simpa using he
                                                  subst this; exact ⟨⟨by decide, by decide⟩, by decide, by decide⟩⟩
    · exact ⟨by decide, by decide, fun e he => by have : e = (0, -5) := by simpa using he
                                                  subst this; exact ⟨⟨by decide, by decide⟩, by decide, by decide⟩⟩
theorem acc1 : apart acc [0, 1] [1, 0] = some [0] := by decide +kernel
theorem acc2 : apart acc [0, 0, 0] [0, 0] = some [0] := by decide +kernel
theorem acc3 : comm acc = [] := by decide +kernel
section
variable {X : Nat → Mu → Prop} {Q : D → Mu → Prop} {μ : Mu}
theorem w_account (h : ∀ μ', Fr no μ μ' → Q (pD acc) μ') : Ev X Q (d_u_law_account [.int 0, .int 10] μ) := by
  refine den_of rfl ?_
  unfold b_u_law_account
  simp only [ev_ix0, ev_ix1, ev_ix2, ws_seq, ws_next, ws_expr, ws_ret, ws_retN, ws_break, ws_set, ws_asg, ws_if, ws_raise, ws_par, ws_eff, ws_for, ev_varE, ev_cE, ev_binE, ev_unE, ev_nilA, ev_consA, ev_starA, ev_tupE, ev_newL, ev_lstE, ev_ifE, ev_asB, ev_valT, ev_andT, ev_orT, ev_notT, ev_andE, ev_intD, ev_addI, ev_addT, ev_mulI, ev_mulT, ev_negI, ev_isN, ev_isB, ev_eqI, ev_callE, ev_lenT, ev_intC, ev_listT, ev_two, ev_chainE, ev_lastC, ev_lastT, ev_linkC, ev_linkT, ev_truT, ev_mtE, ev_yesT, ev_all, ev_seqI, ev_rng1, ev_rng2, ev_zip, ev_enum, ev_lcE, ev_lc2E, lc_item, lc_item2, List.map_cons, List.map_nil, List.cons_append, List.nil_append, List.append_nil, List.replicate_succ, List.replicate_zero, Nat.reduceSub, Nat.reduceAdd, List.getElem?_cons_zero, List.getElem?_cons_succ, List.getElem?_nil, List.set_cons_zero, List.set_cons_succ, asg_nm, asg_tp, asgs_nil, asgs_cons, Option.bind_some, List.length_cons, List.length_nil, wipeD, true_and, and_true, if_true, if_false, Bool.false_eq_true, decide_eq_true_eq, Bool.not_true, Bool.not_false, Bool.xor_false, Bool.false_xor, Bool.true_xor, Bool.not_eq_true', decide_eq_false_iff_not, reduceIte]
  rw [size_eq]
  exact ⟨by omega, by omega, by omega, by omega, by omega, by omega, by omega, by omega, by omega, by omega, h _ gid⟩
end
end K69
end TPLF

section TPLG
set_option maxRecDepth 100000
set_option maxHeartbeats 4000000
namespace K69
open PySem L2 PySem.Spec PyProof.Rows DL
/-! ### the law, statement by statement -/
def L1 : DS := (setS 1 (callE d_u_law_draws (consA (varE 0) nilA)))
def L2 : DS := (setS 1 (callE d_u_law_more (consA (varE 1) (consA (cE (.int 200)) nilA))))
def L3 : DS := (setS 2 (ifE (valT (binE (eqD false) (binE modD (callE intCD (consA (callE d_u_law_next (consA (varE 1) nilA)) nilA)) (cE (.int 4))) (cE (.int 1)))) (gcE (callE d_u_law_wide (consA (varE 1) (consA (lstE (consA (cE (.int 120)) (consA (cE (.int 11)) (consA (cE (.int 5)) nilA)))) nilA)))) (callE d_u_law_program (consA (varE 1) nilA))))
def L4 : DS := (setS 3 (callE lenD (consA (binE ixD (varE 2) (cE (.int 2))) nilA)))
def L5 : DS := (setS 4 (lstE nilA))
def L6 : DS := (forS (rngI1 (consA (varE 3) nilA)) (.nm 5)
  (exprS (gcE (mtE extendD (varE 4) (consA (lcE (rngI2 (consA (binE addD (varE 5) (cE (.int 1))) (consA (varE 3) nilA))) (.nm 18) (valT (binE (isD false) (callE d_u_law_apart (consA (varE 2) (consA (tupE (consA (varE 5) (consA (varE 18) nilA))) (consA (tupE (consA (varE 18) (consA (varE 5) nilA))) nilA)))) (cE .non))) (tupE (consA (varE 5) (consA (varE 18) nilA))) [18]) nilA)))))
def L7 : DS := (ifS (valT (binE (eqD true) (callE reprD (consA (callE d_u_law_asked (consA (cE (.int 2)) (consA (varE 2) (consA (cE .non) (consA (cE .non) nilA))))) nilA)) (callE reprD (consA (varE 4) nilA))))
  (retS (cE (.bl false)))
  nextS)
def T1 : DS := (setS 10 (callE d_u_law_row (consA (varE 1) (consA (varE 2) (consA (cE (.int 6)) nilA)))))
def T2 : DS := (setS 11 (binE modD (callE intCD (consA (callE d_u_law_next (consA (varE 1) nilA)) nilA)) (callE maxD (consA (cE (.int 1)) (consA (binE subD (callE lenD (consA (varE 10) nilA)) (cE (.int 1))) nilA)))))
def T3 : DS := (setS 12 (binE addD (binE addD (sliceE (varE 10) noO (partO (varE 11))) (unE revD (sliceE (varE 10) (partO (varE 11)) (partO (binE addD (varE 11) (cE (.int 2))))))) (sliceE (varE 10) (partO (binE addD (varE 11) (cE (.int 2)))) noO)))
def T4 : DS := (setS 13 (gcE (callE d_u_law_pick (consA (varE 1) (consA (lstE (consA (varE 12) (consA (varE 12) (consA (callE d_u_law_row (consA (varE 1) (consA (varE 2) (consA (cE (.int 6)) nilA)))) (consA (binE addD (varE 10) (sliceE (varE 10) (partO (unE negD (cE (.int 1)))) noO)) (consA (binE mulD (varE 10) (cE (.int 2))) (consA (varE 10) nilA))))))) nilA)))))
def T5 : DS := (setS 14 (callE d_u_law_apart (consA (varE 2) (consA (varE 10) (consA (varE 13) nilA)))))
def T6 : DS := (ifS (valT (binE (eqD true) (gcE (callE reprD (consA (lcE (rngI1 (consA (cE (.int 2)) nilA)) (.nm 17) yesT (callE d_u_law_asked (consA (varE 17) (consA (varE 2) (consA (varE 10) (consA (varE 13) nilA))))) [17]) nilA))) (gcE (callE reprD (consA (lstE (consA (binE (isD false) (varE 14) (cE .non)) (consA (varE 14) nilA))) nilA)))))
  (retS (cE (.bl false)))
  nextS)
def T7 : DS := (ifS (andT (valT (binE (isD true) (varE 14) (cE .non))) (valT (binE (eqD false) (callE d_end_from (consA (varE 2) (consA (varE 14) (consA (varE 10) nilA)))) (callE d_end_from (consA (varE 2) (consA (varE 14) (consA (varE 13) nilA)))))))
  (retS (cE (.bl false)))
  nextS)
def T8 : DS := (parS 15 16 (consA (callE d_u_law_row (consA (varE 1) (consA (varE 2) (consA (cE (.int 3)) nilA)))) (consA (callE d_u_law_row (consA (varE 1) (consA (varE 2) (consA (cE (.int 3)) nilA)))) nilA)))
def T9 : DS := (ifS (andT (valT (binE (isD false) (varE 14) (cE .non))) (valT (binE (isD true) (callE d_are_same (consA (varE 2) (consA (binE addD (binE addD (varE 15) (varE 10)) (varE 16)) (consA (binE addD (binE addD (varE 15) (varE 13)) (varE 16)) nilA)))) (cE (.bl true)))))
  (retS (cE (.bl false)))
  nextS)
def L8 : DS := forS (rngI1 (consA (cE (.int 5)) nilA)) (.nm 6) (seqS T1 (seqS T2 (seqS T3 (seqS T4 (seqS T5 (seqS T6 (seqS T7 (seqS T8 (T9)))))))))
def L9 : DS := (setS 7 (callE d_u_law_account (consA (cE (.int 0)) (consA (cE (.int 10)) nilA))))
def L10 : DS := (ifS (valT (binE (eqD true) (gcE (callE reprD (consA (lstE (consA (callE d_commuting (consA (varE 7) nilA)) (consA (callE d_first_apart (consA (varE 7) (consA (tupE (consA (cE (.int 0)) (consA (cE (.int 1)) nilA))) (consA (tupE (consA (cE (.int 1)) (consA (cE (.int 0)) nilA))) nilA)))) (consA (callE d_first_apart (consA (varE 7) (consA (tupE (consA (cE (.int 0)) (consA (cE (.int 0)) (consA (cE (.int 0)) nilA)))) (consA (tupE (consA (cE (.int 0)) (consA (cE (.int 0)) nilA))) nilA)))) nilA)))) nilA))) (gcE (callE reprD (consA (lstE (consA (lstE nilA) (consA (tupE (consA (cE (.int 0)) nilA)) (consA (tupE (consA (cE (.int 0)) nilA)) nilA)))) nilA)))))
  (retS (cE (.bl false)))
  nextS)
def L11 : DS := (setS 8 (tupE (consA (tupE nilA) (consA (cE (.int 0)) (consA (tupE nilA) nilA)))))
def L12 : DS := (setS 9 (binE addD (lcE (rngI1 (consA (cE (.int 3)) nilA)) (.nm 17) yesT (callE d_u_law_asked (consA (varE 17) (consA (varE 8) (consA (tupE (consA (cE (.int 99)) nilA)) (consA (tupE nilA) nilA))))) [17]) (lcE (rngI1 (consA (cE (.int 2)) nilA)) (.nm 17) yesT (callE d_u_law_asked (consA (varE 17) (consA (varE 2) (consA (tupE (consA (varE 3) nilA)) (consA (tupE (consA (cE (.int 99)) nilA)) nilA))))) [17])))
def L13 : DS := (retS (binE (eqD false) (binE addD (varE 9) (lcE (rngI1 (consA (cE (.int 2)) nilA)) (.nm 17) yesT (callE d_u_law_asked (consA (varE 17) (consA (varE 2) (consA (tupE (consA (cE (.int 0)) nilA)) (consA (tupE (consA (cE (.int 0)) (consA (unE negD (cE (.int 1))) nilA))) nilA))))) [17])) (binE addD (binE mulD (lstE (consA (cE (.str "!program")) nilA)) (cE (.int 3))) (binE mulD (lstE (consA (cE (.str "!number")) nilA)) (cE (.int 4))))))
theorem b_law_eq : b_law = seqS L1 (seqS L2 (seqS L3 (seqS L4 (seqS L5 (seqS L6 (seqS L7 (seqS L8 (seqS L9 (seqS L10 (seqS L11 (seqS L12 (L13)))))))))))) := rfl
section
variable {X : Nat → Mu → Prop} {Q : D → Mu → Prop} {QO : Option Int → Mu → Prop} {μ : Mu} {ρ : Sl} {E : En} {b : Nat} {x0 x1 x2 x3 x4 x5 x6 x7 x8 x9 x10 x11 x12 x13 x14 x15 x16 x17 x18 : Option D}
theorem ev_sliceE {f : Sl → M D} {lo hi : Sl → M (Option Int)} : Ev X Q (sliceE f lo hi ρ μ) = Ev X (fun d μ1 => Ev X (fun l μ2 => Ev X (fun h μ3 => Ev X Q (sliD l h d μ3)) (hi ρ μ2)) (lo ρ μ1)) (f ρ μ) := by
  unfold sliceE; rw [ev_bind]; congr 1; funext d μ1; rw [ev_bind]; congr 1; funext l μ2; rw [ev_bind]
theorem ev_noO : Ev X QO (noO ρ μ) = QO none μ := rfl
theorem ev_partO {f : Sl → M D} : Ev X QO (partO f ρ μ) = Ev X (fun d μ1 => match d with
    | .int i => QO (some i) μ1
    | _ => False) (f ρ μ) := by
  unfold partO; rw [ev_bind]; congr 1; funext d μ1; cases d <;> rfl
theorem ev_sliT {lo hi : Option Int} {ds : List D} : Ev X Q (sliD lo hi (.tup ds) μ) = Q (.tup (cutD ds lo hi)) μ := rfl
theorem ev_revT {ds : List D} : Ev X Q (revD (.tup ds) μ) = Q (.tup ds.reverse) μ := rfl
theorem w_end_from {p : Pg} (hp : PgOk p) {lv row : List Int} (hv : LvOk p lv) (l1 : row.length ≤ 1000) (hr : rowB p row = true) (h : ∀ μ', Fr no μ μ' → Q (eD (endOf p lv row)) μ') : Ev X Q (d_end_from [pD p, iD lv, iD row] μ) := by
  refine den_of rfl ?_
  unfold b_end_from
  simp only [ev_ix0, ev_ix1, ev_ix2, ws_seq, ws_next, ws_expr, ws_ret, ws_retN, ws_break, ws_set, ws_asg, ws_if, ws_raise, ws_par, ws_eff, ws_for, ev_varE, ev_cE, ev_binE, ev_unE, ev_nilA, ev_consA, ev_starA, ev_tupE, ev_newL, ev_lstE, ev_ifE, ev_asB, ev_valT, ev_andT, ev_orT, ev_notT, ev_andE, ev_intD, ev_addI, ev_addT, ev_mulI, ev_mulT, ev_negI, ev_isN, ev_isB, ev_eqI, ev_callE, ev_lenT, ev_intC, ev_listT, ev_two, ev_chainE, ev_lastC, ev_lastT, ev_linkC, ev_linkT, ev_truT, ev_mtE, ev_yesT, ev_all, ev_seqI, ev_rng1, ev_rng2, ev_zip, ev_enum, ev_lcE, ev_lc2E, lc_item, lc_item2, List.map_cons, List.map_nil, List.cons_append, List.nil_append, List.append_nil, List.replicate_succ, List.replicate_zero, Nat.reduceSub, Nat.reduceAdd, List.getElem?_cons_zero, List.getElem?_cons_succ, List.getElem?_nil, List.set_cons_zero, List.set_cons_succ, asg_nm, asg_tp, asgs_nil, asgs_cons, Option.bind_some, List.length_cons, List.length_nil, wipeD, true_and, and_true, if_true, if_false, Bool.false_eq_true, decide_eq_true_eq, Bool.not_true, Bool.not_false, Bool.xor_false, Bool.false_xor, Bool.true_xor, Bool.not_eq_true', decide_eq_false_iff_not, reduceIte]
  exact w_check_level hp hv fun μa fa => w_check_row l1 hr fun μb fb => w_end_at hp hv hr fun μc fc => h _ ((fa.trans fb).trans fc).gc
theorem l1 {sc : List Int} (hl : sc.length ≤ 63) (h : ∀ r μ', Dr 3780 μ' r → E.nx ([some (.li (sc.map .int)), some (.mr r), x2, x3, x4, x5, x6, x7, x8, x9, x10, x11, x12, x13, x14, x15, x16, x17, x18] : Sl) μ') : Ws E (L1 ([some (.li (sc.map .int)), x1, x2, x3, x4, x5, x6, x7, x8, x9, x10, x11, x12, x13, x14, x15, x16, x17, x18] : Sl) μ) := by
  unfold L1
  simp only [ev_ix0, ev_ix1, ev_ix2, ws_seq, ws_next, ws_expr, ws_ret, ws_retN, ws_break, ws_set, ws_asg, ws_if, ws_raise, ws_par, ws_eff, ws_for, ev_varE, ev_cE, ev_binE, ev_unE, ev_nilA, ev_consA, ev_starA, ev_tupE, ev_newL, ev_lstE, ev_ifE, ev_asB, ev_valT, ev_andT, ev_orT, ev_notT, ev_andE, ev_intD, ev_addI, ev_addT, ev_mulI, ev_mulT, ev_negI, ev_isN, ev_isB, ev_eqI, ev_callE, ev_lenT, ev_intC, ev_listT, ev_two, ev_chainE, ev_lastC, ev_lastT, ev_linkC, ev_linkT, ev_truT, ev_mtE, ev_yesT, ev_all, ev_seqI, ev_rng1, ev_rng2, ev_zip, ev_enum, ev_lcE, ev_lc2E, lc_item, lc_item2, List.map_cons, List.map_nil, List.cons_append, List.nil_append, List.append_nil, List.replicate_succ, List.replicate_zero, Nat.reduceSub, Nat.reduceAdd, List.getElem?_cons_zero, List.getElem?_cons_succ, List.getElem?_nil, List.set_cons_zero, List.set_cons_succ, asg_nm, asg_tp, asgs_nil, asgs_cons, Option.bind_some, List.length_cons, List.length_nil, wipeD, true_and, and_true, if_true, if_false, Bool.false_eq_true, decide_eq_true_eq, Bool.not_true, Bool.not_false, Bool.xor_false, Bool.false_xor, Bool.true_xor, Bool.not_eq_true', decide_eq_false_iff_not, reduceIte]
  exact w_draws hl fun r μ' f d => h r μ' d
theorem l2 {k : Nat} (hd : Dr 3780 μ k) (h : ∀ r μ', Dr 4000 μ' r → E.nx ([x0, some (.mr r), x2, x3, x4, x5, x6, x7, x8, x9, x10, x11, x12, x13, x14, x15, x16, x17, x18] : Sl) μ') : Ws E (L2 ([x0, some (.mr k), x2, x3, x4, x5, x6, x7, x8, x9, x10, x11, x12, x13, x14, x15, x16, x17, x18] : Sl) μ) := by
  unfold L2
  simp only [ev_ix0, ev_ix1, ev_ix2, ws_seq, ws_next, ws_expr, ws_ret, ws_retN, ws_break, ws_set, ws_asg, ws_if, ws_raise, ws_par, ws_eff, ws_for, ev_varE, ev_cE, ev_binE, ev_unE, ev_nilA, ev_consA, ev_starA, ev_tupE, ev_newL, ev_lstE, ev_ifE, ev_asB, ev_valT, ev_andT, ev_orT, ev_notT, ev_andE, ev_intD, ev_addI, ev_addT, ev_mulI, ev_mulT, ev_negI, ev_isN, ev_isB, ev_eqI, ev_callE, ev_lenT, ev_intC, ev_listT, ev_two, ev_chainE, ev_lastC, ev_lastT, ev_linkC, ev_linkT, ev_truT, ev_mtE, ev_yesT, ev_all, ev_seqI, ev_rng1, ev_rng2, ev_zip, ev_enum, ev_lcE, ev_lc2E, lc_item, lc_item2, List.map_cons, List.map_nil, List.cons_append, List.nil_append, List.append_nil, List.replicate_succ, List.replicate_zero, Nat.reduceSub, Nat.reduceAdd, List.getElem?_cons_zero, List.getElem?_cons_succ, List.getElem?_nil, List.set_cons_zero, List.set_cons_succ, asg_nm, asg_tp, asgs_nil, asgs_cons, Option.bind_some, List.length_cons, List.length_nil, wipeD, true_and, and_true, if_true, if_false, Bool.false_eq_true, decide_eq_true_eq, Bool.not_true, Bool.not_false, Bool.xor_false, Bool.false_xor, Bool.true_xor, Bool.not_eq_true', decide_eq_false_iff_not, reduceIte]
  exact w_more hd fun r μ' f n d => h r μ' d
theorem w_wideL {k : Nat} (hv : ρ[1]? = some (some (.mr k))) (hd : Dr b μ k) (h : ∀ p μ', PgOk p → Dr b μ' k → Q (pD p) μ') :
    Ev X Q (gcE (callE d_u_law_wide (consA (varE 1) (consA (lstE (consA (cE (.int 120)) (consA (cE (.int 11)) (consA (cE (.int 5)) nilA)))) nilA))) ρ μ) := by
  have kl := hd.lt
  simp only [ev_gcE, hv, ev_ix0, ev_ix1, ev_ix2, ws_seq, ws_next, ws_expr, ws_ret, ws_retN, ws_break, ws_set, ws_asg, ws_if, ws_raise, ws_par, ws_eff, ws_for, ev_varE, ev_cE, ev_binE, ev_unE, ev_nilA, ev_consA, ev_starA, ev_tupE, ev_newL, ev_lstE, ev_ifE, ev_asB, ev_valT, ev_andT, ev_orT, ev_notT, ev_andE, ev_intD, ev_addI, ev_addT, ev_mulI, ev_mulT, ev_negI, ev_isN, ev_isB, ev_eqI, ev_callE, ev_lenT, ev_intC, ev_listT, ev_two, ev_chainE, ev_lastC, ev_lastT, ev_linkC, ev_linkT, ev_truT, ev_mtE, ev_yesT, ev_all, ev_seqI, ev_rng1, ev_rng2, ev_zip, ev_enum, ev_lcE, ev_lc2E, lc_item, lc_item2, List.map_cons, List.map_nil, List.cons_append, List.nil_append, List.append_nil, List.replicate_succ, List.replicate_zero, Nat.reduceSub, Nat.reduceAdd, List.getElem?_cons_zero, List.getElem?_cons_succ, List.getElem?_nil, List.set_cons_zero, List.set_cons_succ, asg_nm, asg_tp, asgs_nil, asgs_cons, Option.bind_some, List.length_cons, List.length_nil, wipeD, true_and, and_true, if_true, if_false, Bool.false_eq_true, decide_eq_true_eq, Bool.not_true, Bool.not_false, Bool.xor_false, Bool.false_xor, Bool.true_xor, Bool.not_eq_true', decide_eq_false_iff_not, reduceIte]
  refine ⟨by decide, ?_⟩
  exact w_wide (hd.new _) get_new (by omega) fun p μ1 hp f1 d1 => h p _ hp (d1.gc kl)
theorem l3 {k : Nat} (hd : Dr b μ k) (h : ∀ p μ', PgOk p → Dr b μ' k → E.nx ([x0, some (.mr k), some (pD p), x3, x4, x5, x6, x7, x8, x9, x10, x11, x12, x13, x14, x15, x16, x17, x18] : Sl) μ') : Ws E (L3 ([x0, some (.mr k), x2, x3, x4, x5, x6, x7, x8, x9, x10, x11, x12, x13, x14, x15, x16, x17, x18] : Sl) μ) := by
  unfold L3
  simp only [ev_ix0, ev_ix1, ev_ix2, ws_seq, ws_next, ws_expr, ws_ret, ws_retN, ws_break, ws_set, ws_asg, ws_if, ws_raise, ws_par, ws_eff, ws_for, ev_varE, ev_cE, ev_binE, ev_unE, ev_nilA, ev_consA, ev_starA, ev_tupE, ev_newL, ev_lstE, ev_ifE, ev_asB, ev_valT, ev_andT, ev_orT, ev_notT, ev_andE, ev_intD, ev_addI, ev_addT, ev_mulI, ev_mulT, ev_negI, ev_isN, ev_isB, ev_eqI, ev_callE, ev_lenT, ev_intC, ev_listT, ev_two, ev_chainE, ev_lastC, ev_lastT, ev_linkC, ev_linkT, ev_truT, ev_mtE, ev_yesT, ev_all, ev_seqI, ev_rng1, ev_rng2, ev_zip, ev_enum, ev_lcE, ev_lc2E, lc_item, lc_item2, List.map_cons, List.map_nil, List.cons_append, List.nil_append, List.append_nil, List.replicate_succ, List.replicate_zero, Nat.reduceSub, Nat.reduceAdd, List.getElem?_cons_zero, List.getElem?_cons_succ, List.getElem?_nil, List.set_cons_zero, List.set_cons_succ, asg_nm, asg_tp, asgs_nil, asgs_cons, Option.bind_some, List.length_cons, List.length_nil, wipeD, true_and, and_true, if_true, if_false, Bool.false_eq_true, decide_eq_true_eq, Bool.not_true, Bool.not_false, Bool.xor_false, Bool.false_xor, Bool.true_xor, Bool.not_eq_true', decide_eq_false_iff_not, reduceIte]
  refine w_next hd fun v μ1 f1 d1 a0 a1 => ?_
  simp only [ev_ix0, ev_ix1, ev_ix2, ws_seq, ws_next, ws_expr, ws_ret, ws_retN, ws_break, ws_set, ws_asg, ws_if, ws_raise, ws_par, ws_eff, ws_for, ev_varE, ev_cE, ev_binE, ev_unE, ev_nilA, ev_consA, ev_starA, ev_tupE, ev_newL, ev_lstE, ev_ifE, ev_asB, ev_valT, ev_andT, ev_orT, ev_notT, ev_andE, ev_intD, ev_addI, ev_addT, ev_mulI, ev_mulT, ev_negI, ev_isN, ev_isB, ev_eqI, ev_callE, ev_lenT, ev_intC, ev_listT, ev_two, ev_chainE, ev_lastC, ev_lastT, ev_linkC, ev_linkT, ev_truT, ev_mtE, ev_yesT, ev_all, ev_seqI, ev_rng1, ev_rng2, ev_zip, ev_enum, ev_lcE, ev_lc2E, lc_item, lc_item2, List.map_cons, List.map_nil, List.cons_append, List.nil_append, List.append_nil, List.replicate_succ, List.replicate_zero, Nat.reduceSub, Nat.reduceAdd, List.getElem?_cons_zero, List.getElem?_cons_succ, List.getElem?_nil, List.set_cons_zero, List.set_cons_succ, asg_nm, asg_tp, asgs_nil, asgs_cons, Option.bind_some, List.length_cons, List.length_nil, wipeD, true_and, and_true, if_true, if_false, Bool.false_eq_true, decide_eq_true_eq, Bool.not_true, Bool.not_false, Bool.xor_false, Bool.false_xor, Bool.true_xor, Bool.not_eq_true', decide_eq_false_iff_not, reduceIte]
  refine ⟨by omega, ?_⟩
  by_cases c : v % 4 = 1
  · rw [if_pos c]
    exact w_wideL rfl d1 fun p μ2 hp d2 => h p μ2 hp d2
  · rw [if_neg c]
    exact w_program d1 fun p μ2 hp f2 d2 => h p μ2 hp d2
theorem l4 {p : Pg} (h : E.nx ([x0, x1, some (pD p), some (.int p.ks.length), x4, x5, x6, x7, x8, x9, x10, x11, x12, x13, x14, x15, x16, x17, x18] : Sl) μ) : Ws E (L4 ([x0, x1, some (pD p), x3, x4, x5, x6, x7, x8, x9, x10, x11, x12, x13, x14, x15, x16, x17, x18] : Sl) μ) := by
  unfold L4 pD at *
  simp only [List.length_map, ev_ix0, ev_ix1, ev_ix2, ws_seq, ws_next, ws_expr, ws_ret, ws_retN, ws_break, ws_set, ws_asg, ws_if, ws_raise, ws_par, ws_eff, ws_for, ev_varE, ev_cE, ev_binE, ev_unE, ev_nilA, ev_consA, ev_starA, ev_tupE, ev_newL, ev_lstE, ev_ifE, ev_asB, ev_valT, ev_andT, ev_orT, ev_notT, ev_andE, ev_intD, ev_addI, ev_addT, ev_mulI, ev_mulT, ev_negI, ev_isN, ev_isB, ev_eqI, ev_callE, ev_lenT, ev_intC, ev_listT, ev_two, ev_chainE, ev_lastC, ev_lastT, ev_linkC, ev_linkT, ev_truT, ev_mtE, ev_yesT, ev_all, ev_seqI, ev_rng1, ev_rng2, ev_zip, ev_enum, ev_lcE, ev_lc2E, lc_item, lc_item2, List.map_cons, List.map_nil, List.cons_append, List.nil_append, List.append_nil, List.replicate_succ, List.replicate_zero, Nat.reduceSub, Nat.reduceAdd, List.getElem?_cons_zero, List.getElem?_cons_succ, List.getElem?_nil, List.set_cons_zero, List.set_cons_succ, asg_nm, asg_tp, asgs_nil, asgs_cons, Option.bind_some, List.length_cons, List.length_nil, wipeD, true_and, and_true, if_true, if_false, Bool.false_eq_true, decide_eq_true_eq, Bool.not_true, Bool.not_false, Bool.xor_false, Bool.false_xor, Bool.true_xor, Bool.not_eq_true', decide_eq_false_iff_not, reduceIte]
  exact h
theorem l5 (h : E.nx ([x0, x1, x2, x3, some (.mr μ.length), x5, x6, x7, x8, x9, x10, x11, x12, x13, x14, x15, x16, x17, x18] : Sl) (μ ++ [.lst []])) : Ws E (L5 ([x0, x1, x2, x3, x4, x5, x6, x7, x8, x9, x10, x11, x12, x13, x14, x15, x16, x17, x18] : Sl) μ) := by
  unfold L5
  simp only [ev_ix0, ev_ix1, ev_ix2, ws_seq, ws_next, ws_expr, ws_ret, ws_retN, ws_break, ws_set, ws_asg, ws_if, ws_raise, ws_par, ws_eff, ws_for, ev_varE, ev_cE, ev_binE, ev_unE, ev_nilA, ev_consA, ev_starA, ev_tupE, ev_newL, ev_lstE, ev_ifE, ev_asB, ev_valT, ev_andT, ev_orT, ev_notT, ev_andE, ev_intD, ev_addI, ev_addT, ev_mulI, ev_mulT, ev_negI, ev_isN, ev_isB, ev_eqI, ev_callE, ev_lenT, ev_intC, ev_listT, ev_two, ev_chainE, ev_lastC, ev_lastT, ev_linkC, ev_linkT, ev_truT, ev_mtE, ev_yesT, ev_all, ev_seqI, ev_rng1, ev_rng2, ev_zip, ev_enum, ev_lcE, ev_lc2E, lc_item, lc_item2, List.map_cons, List.map_nil, List.cons_append, List.nil_append, List.append_nil, List.replicate_succ, List.replicate_zero, Nat.reduceSub, Nat.reduceAdd, List.getElem?_cons_zero, List.getElem?_cons_succ, List.getElem?_nil, List.set_cons_zero, List.set_cons_succ, asg_nm, asg_tp, asgs_nil, asgs_cons, Option.bind_some, List.length_cons, List.length_nil, wipeD, true_and, and_true, if_true, if_false, Bool.false_eq_true, decide_eq_true_eq, Bool.not_true, Bool.not_false, Bool.xor_false, Bool.false_xor, Bool.true_xor, Bool.not_eq_true', decide_eq_false_iff_not, reduceIte]
  exact ⟨Nat.zero_le _, h⟩
theorem filt_flat {α β : Type} {f : α → List β} {P : β → Bool} : ∀ l : List α, (l.flatMap f).filter P = l.flatMap fun x => (f x).filter P
  | [] => rfl
  | x :: l => by rw [List.flatMap_cons, List.flatMap_cons, List.filter_append, filt_flat l]
theorem comm_eq (p : Pg) : comm p = (rng 0 (p.ks.length : Int).toNat).flatMap fun x => (prF p.ks.length x).filter (cmP p) := by unfold comm prs; exact filt_flat _
theorem l6 {k U : Nat} {p : Pg} {d0 d3 : D} (h0 : d0 = pD p) (h3 : d3 = .int p.ks.length) (hp : PgOk p) (hd : Dr b μ k) (hu : μ[U]? = some (.lst [])) (uk : U ≠ k) (h : ∀ y5 μ', Dr b μ' k → μ'[U]? = some (.lst ((comm p).map oD)) → E.nx ([x0, some (.mr k), some d0, some d3, some (.mr U), y5, x6, x7, x8, x9, x10, x11, x12, x13, x14, x15, x16, x17, x18] : Sl) μ') :
    Ws E (L6 ([x0, some (.mr k), some d0, some d3, some (.mr U), x5, x6, x7, x8, x9, x10, x11, x12, x13, x14, x15, x16, x17, x18] : Sl) μ) := by
  subst h0 h3
  unfold L6
  have nk := hp.nk2
  have zz := size_eq
  have ul := lt_of_get hu
  simp only [ev_ix0, ev_ix1, ev_ix2, ws_seq, ws_next, ws_expr, ws_ret, ws_retN, ws_break, ws_set, ws_asg, ws_if, ws_raise, ws_par, ws_eff, ws_for, ev_varE, ev_cE, ev_binE, ev_unE, ev_nilA, ev_consA, ev_starA, ev_tupE, ev_newL, ev_lstE, ev_ifE, ev_asB, ev_valT, ev_andT, ev_orT, ev_notT, ev_andE, ev_intD, ev_addI, ev_addT, ev_mulI, ev_mulT, ev_negI, ev_isN, ev_isB, ev_eqI, ev_callE, ev_lenT, ev_intC, ev_listT, ev_two, ev_chainE, ev_lastC, ev_lastT, ev_linkC, ev_linkT, ev_truT, ev_mtE, ev_yesT, ev_all, ev_seqI, ev_rng1, ev_rng2, ev_zip, ev_enum, ev_lcE, ev_lc2E, lc_item, lc_item2, List.map_cons, List.map_nil, List.cons_append, List.nil_append, List.append_nil, List.replicate_succ, List.replicate_zero, Nat.reduceSub, Nat.reduceAdd, List.getElem?_cons_zero, List.getElem?_cons_succ, List.getElem?_nil, List.set_cons_zero, List.set_cons_succ, asg_nm, asg_tp, asgs_nil, asgs_cons, Option.bind_some, List.length_cons, List.length_nil, wipeD, true_and, and_true, if_true, if_false, Bool.false_eq_true, decide_eq_true_eq, Bool.not_true, Bool.not_false, Bool.xor_false, Bool.false_xor, Bool.true_xor, Bool.not_eq_true', decide_eq_false_iff_not, reduceIte]
  refine ⟨⟨by omega, by omega⟩, ?_⟩
  rw [rngD_eq]
  refine ws_fix (fun i ρ' μ' => Dr b μ' k ∧ μ'[U]? = some (.lst ((((rng 0 (p.ks.length : Int).toNat).take i).flatMap fun x => (prF p.ks.length x).filter (cmP p)).map oD)) ∧ ∃ y5, ρ' = ([x0, some (.mr k), some (pD p), some (.int p.ks.length), some (.mr U), y5, x6, x7, x8, x9, x10, x11, x12, x13, x14, x15, x16, x17, x18] : Sl))
    ⟨hd, hu, _, rfl⟩ (fun i d ρ' μ' hd ⟨dk, g, y5, e⟩ => ?_) (fun ρ' μ' ⟨dk, g, y5, e⟩ => ?_)
  · subst e
    rw [List.getElem?_map] at hd
    obtain ⟨x, hx, rfl⟩ := Option.map_eq_some_iff.mp hd
    obtain ⟨xl, xe⟩ := rng_get hx
    have ul' := lt_of_get g
    have dl := dk.lt
    refine ⟨_, rfl, ?_⟩
    simp only [ev_gcE, ev_recvL g, ev_ix0, ev_ix1, ev_ix2, ws_seq, ws_next, ws_expr, ws_ret, ws_retN, ws_break, ws_set, ws_asg, ws_if, ws_raise, ws_par, ws_eff, ws_for, ev_varE, ev_cE, ev_binE, ev_unE, ev_nilA, ev_consA, ev_starA, ev_tupE, ev_newL, ev_lstE, ev_ifE, ev_asB, ev_valT, ev_andT, ev_orT, ev_notT, ev_andE, ev_intD, ev_addI, ev_addT, ev_mulI, ev_mulT, ev_negI, ev_isN, ev_isB, ev_eqI, ev_callE, ev_lenT, ev_intC, ev_listT, ev_two, ev_chainE, ev_lastC, ev_lastT, ev_linkC, ev_linkT, ev_truT, ev_mtE, ev_yesT, ev_all, ev_seqI, ev_rng1, ev_rng2, ev_zip, ev_enum, ev_lcE, ev_lc2E, lc_item, lc_item2, List.map_cons, List.map_nil, List.cons_append, List.nil_append, List.append_nil, List.replicate_succ, List.replicate_zero, Nat.reduceSub, Nat.reduceAdd, List.getElem?_cons_zero, List.getElem?_cons_succ, List.getElem?_nil, List.set_cons_zero, List.set_cons_succ, asg_nm, asg_tp, asgs_nil, asgs_cons, Option.bind_some, List.length_cons, List.length_nil, wipeD, true_and, and_true, if_true, if_false, Bool.false_eq_true, decide_eq_true_eq, Bool.not_true, Bool.not_false, Bool.xor_false, Bool.false_xor, Bool.true_xor, Bool.not_eq_true', decide_eq_false_iff_not, reduceIte]
    refine ⟨⟨by omega, by omega, by omega, by omega⟩, ?_⟩
    rw [rngD_eq]
    refine lc_fix (fun m μ2 => Fr no μ' μ2 ∧ μ2[μ'.length]? = some (.lst ((((prF p.ks.length x).take m).filter (cmP p)).map oD)) ∧ m ≤ 6) ⟨(Fr.refl _ _).new _, get_new, Nat.zero_le _⟩ (fun m d μ2 hd2 ⟨f2, a2, ml⟩ => ?_) (fun μ2 ⟨f2, a2, ml⟩ => ?_)
    · rw [List.getElem?_map] at hd2
      obtain ⟨y, hy, rfl⟩ := Option.map_eq_some_iff.mp hd2
      obtain ⟨yl, ye⟩ := rng_get hy
      have hpr : (prF p.ks.length x)[m]? = some (x, y) := by unfold prF; rw [List.getElem?_map, hy]; rfl
      obtain ⟨r1, r2⟩ := pair_row (p := p) (e := (x, y)) ⟨by dsimp only; omega, by dsimp only; omega, by dsimp only; omega⟩
      refine ⟨_, rfl, ?_⟩
      simp only [ev_ix0, ev_ix1, ev_ix2, ws_seq, ws_next, ws_expr, ws_ret, ws_retN, ws_break, ws_set, ws_asg, ws_if, ws_raise, ws_par, ws_eff, ws_for, ev_varE, ev_cE, ev_binE, ev_unE, ev_nilA, ev_consA, ev_starA, ev_tupE, ev_newL, ev_lstE, ev_ifE, ev_asB, ev_valT, ev_andT, ev_orT, ev_notT, ev_andE, ev_intD, ev_addI, ev_addT, ev_mulI, ev_mulT, ev_negI, ev_isN, ev_isB, ev_eqI, ev_callE, ev_lenT, ev_intC, ev_listT, ev_two, ev_chainE, ev_lastC, ev_lastT, ev_linkC, ev_linkT, ev_truT, ev_mtE, ev_yesT, ev_all, ev_seqI, ev_rng1, ev_rng2, ev_zip, ev_enum, ev_lcE, ev_lc2E, lc_item, lc_item2, List.map_cons, List.map_nil, List.cons_append, List.nil_append, List.append_nil, List.replicate_succ, List.replicate_zero, Nat.reduceSub, Nat.reduceAdd, List.getElem?_cons_zero, List.getElem?_cons_succ, List.getElem?_nil, List.set_cons_zero, List.set_cons_succ, asg_nm, asg_tp, asgs_nil, asgs_cons, Option.bind_some, List.length_cons, List.length_nil, wipeD, true_and, and_true, if_true, if_false, Bool.false_eq_true, decide_eq_true_eq, Bool.not_true, Bool.not_false, Bool.xor_false, Bool.false_xor, Bool.true_xor, Bool.not_eq_true', decide_eq_false_iff_not, reduceIte]
      refine ⟨by omega, by omega, ?_⟩
      refine w_u_law_apart (one := [x, y]) (two := [y, x]) hp r1 r2 fun μ3 f3 => ?_
      have a3 := f3.get a2
      have fl : (((prF p.ks.length x).take m).filter (cmP p)).length ≤ 36 := Nat.le_trans (List.length_filter_le _ _) (by rw [List.length_take]; omega)
      cases ho : apart p [x, y] [y, x] with
      | some lv =>
        have ce : ¬ cmP p (x, y) = true := by unfold cmP; rw [ho]; simp
        show Fr no μ' μ3 ∧ _
        refine ⟨f2.trans f3, ?_, by omega⟩
        rw [a3, filt_next hpr, if_neg ce, List.append_nil]
      | none =>
        have ce : cmP p (x, y) = true := by unfold cmP; rw [ho]; rfl
        show 1 + 1 ≤ _ ∧ _
        refine ⟨by omega, ?_⟩
        rw [lc_add a3]
        refine ⟨by rw [List.length_map]; omega, (f2.trans f3).set _ (fun z => by omega), ?_, by omega⟩
        rw [get_set a3, filt_next hpr, if_pos ce, List.map_append]
        rfl
    · have et : (prF p.ks.length x).take ((p.ks.length : Int) - (x + 1)).toNat = prF p.ks.length x := List.take_of_length_le (by unfold prF; rw [List.length_map, rng_len]; exact Nat.le_refl _)
      rw [List.length_map, rng_len, et] at a2
      have g2 := f2.get g
      rw [ev_extend g2 a2]
      have len1 := flat_le (f := fun x => (prF p.ks.length x).filter (cmP p)) (c := 6) ((rng 0 (p.ks.length : Int).toNat).take i) fun z hz => by
        refine Nat.le_trans (List.length_filter_le _ _) ?_
        unfold prF
        rw [List.length_map, rng_len]
        obtain ⟨q, hq⟩ := List.getElem?_of_mem (List.mem_of_mem_take hz)
        have := (rng_get hq).2
        omega
      have len2 : ((prF p.ks.length x).filter (cmP p)).length ≤ 6 := by
        refine Nat.le_trans (List.length_filter_le _ _) ?_
        unfold prF
        rw [List.length_map, rng_len]
        omega
      rw [List.length_take, rng_len] at len1
      refine ⟨by rw [List.length_map, List.length_map]; omega, ((dk.more f2).set _ uk).gc dl, ?_, _, rfl⟩
      refine gcM_get ?_ ul'
      rw [get_set g2, take_flat hx, List.map_append]
  · subst e
    rw [List.length_map, List.take_length, ← comm_eq] at g
    exact h _ _ dk g
end
end K69
end TPLG

section TPLH
set_option maxRecDepth 100000
set_option maxHeartbeats 4000000
namespace K69
open PySem L2 PySem.Spec PyProof.Rows DL
section
variable {X : Nat → Mu → Prop} {Q : D → Mu → Prop} {μ : Mu} {ρ : Sl} {E : En} {b : Nat} {x0 x1 x2 x3 x4 x5 x6 x7 x8 x9 x10 x11 x12 x13 x14 x15 x16 x17 x18 : Option D}
theorem l7 {k U : Nat} {p : Pg} {d0 : D} (hp : PgOk p) (hd0 : d0 = pD p) (hd : Dr b μ k) (hu : μ[U]? = some (.lst ((comm p).map oD))) (h : ∀ μ', Dr b μ' k → E.nx ([x0, some (.mr k), some d0, x3, some (.mr U), x5, x6, x7, x8, x9, x10, x11, x12, x13, x14, x15, x16, x17, x18] : Sl) μ') :
    Ws E (L7 ([x0, some (.mr k), some d0, x3, some (.mr U), x5, x6, x7, x8, x9, x10, x11, x12, x13, x14, x15, x16, x17, x18] : Sl) μ) := by
  unfold L7
  have nk := hp.nk2
  simp only [ev_ix0, ev_ix1, ev_ix2, ws_seq, ws_next, ws_expr, ws_ret, ws_retN, ws_break, ws_set, ws_asg, ws_if, ws_raise, ws_par, ws_eff, ws_for, ev_varE, ev_cE, ev_binE, ev_unE, ev_nilA, ev_consA, ev_starA, ev_tupE, ev_newL, ev_lstE, ev_ifE, ev_asB, ev_valT, ev_andT, ev_orT, ev_notT, ev_andE, ev_intD, ev_addI, ev_addT, ev_mulI, ev_mulT, ev_negI, ev_isN, ev_isB, ev_eqI, ev_callE, ev_lenT, ev_intC, ev_listT, ev_two, ev_chainE, ev_lastC, ev_lastT, ev_linkC, ev_linkT, ev_truT, ev_mtE, ev_yesT, ev_all, ev_seqI, ev_rng1, ev_rng2, ev_zip, ev_enum, ev_lcE, ev_lc2E, lc_item, lc_item2, List.map_cons, List.map_nil, List.cons_append, List.nil_append, List.append_nil, List.replicate_succ, List.replicate_zero, Nat.reduceSub, Nat.reduceAdd, List.getElem?_cons_zero, List.getElem?_cons_succ, List.getElem?_nil, List.set_cons_zero, List.set_cons_succ, asg_nm, asg_tp, asgs_nil, asgs_cons, Option.bind_some, List.length_cons, List.length_nil, wipeD, true_and, and_true, if_true, if_false, Bool.false_eq_true, decide_eq_true_eq, Bool.not_true, Bool.not_false, Bool.xor_false, Bool.false_xor, Bool.true_xor, Bool.not_eq_true', decide_eq_false_iff_not, reduceIte]
  refine w_asked2 hp (fun r μ1 f1 g1 => ?_) hd0
  have cm : ∀ e ∈ comm p, (0 ≤ e.1 ∧ e.1 < 100) ∧ 0 ≤ e.2 ∧ e.2 < 100 := fun e he => by
    have := prs_mem (List.mem_filter.mp he).1
    omega
  have cl_ : (comm p).length ≤ 36 := Nat.le_trans (List.length_filter_le _ _) (prs_len hp)
  have s1 := dP_sml cm
  have s2 : (dP (comm p)).depth ≤ 60 := Nat.le_trans dP_depth (by omega)
  have s3 : (dP (comm p)).bulk ≤ 1048576 := by rw [dP_bulk]; omega
  rw [ev_repr g1 (view_P g1) s1 s2 s3]
  rw [ev_repr (f1.get hu) (view_P (f1.get hu)) s1 s2 s3]
  rw [ev_eqS (sml_ok s1)]
  simp only [ev_ix0, ev_ix1, ev_ix2, ws_seq, ws_next, ws_expr, ws_ret, ws_retN, ws_break, ws_set, ws_asg, ws_if, ws_raise, ws_par, ws_eff, ws_for, ev_varE, ev_cE, ev_binE, ev_unE, ev_nilA, ev_consA, ev_starA, ev_tupE, ev_newL, ev_lstE, ev_ifE, ev_asB, ev_valT, ev_andT, ev_orT, ev_notT, ev_andE, ev_intD, ev_addI, ev_addT, ev_mulI, ev_mulT, ev_negI, ev_isN, ev_isB, ev_eqI, ev_callE, ev_lenT, ev_intC, ev_listT, ev_two, ev_chainE, ev_lastC, ev_lastT, ev_linkC, ev_linkT, ev_truT, ev_mtE, ev_yesT, ev_all, ev_seqI, ev_rng1, ev_rng2, ev_zip, ev_enum, ev_lcE, ev_lc2E, lc_item, lc_item2, List.map_cons, List.map_nil, List.cons_append, List.nil_append, List.append_nil, List.replicate_succ, List.replicate_zero, Nat.reduceSub, Nat.reduceAdd, List.getElem?_cons_zero, List.getElem?_cons_succ, List.getElem?_nil, List.set_cons_zero, List.set_cons_succ, asg_nm, asg_tp, asgs_nil, asgs_cons, Option.bind_some, List.length_cons, List.length_nil, wipeD, true_and, and_true, if_true, if_false, Bool.false_eq_true, decide_eq_true_eq, Bool.not_true, Bool.not_false, Bool.xor_false, Bool.false_xor, Bool.true_xor, Bool.not_eq_true', decide_eq_false_iff_not, reduceIte]
  exact h μ1 (hd.more f1)
/-! ### a turn -/
theorem t1 {k : Nat} {p : Pg} (hp : PgOk p) (hd : Dr b μ k) (h : ∀ row μ', rowB p row = true → row.length ≤ 6 → Dr b μ' k → E.nx ([x0, some (.mr k), some (pD p), x3, x4, x5, x6, x7, x8, x9, some (iD row), x11, x12, x13, x14, x15, x16, x17, x18] : Sl) μ') : Ws E (T1 ([x0, some (.mr k), some (pD p), x3, x4, x5, x6, x7, x8, x9, x10, x11, x12, x13, x14, x15, x16, x17, x18] : Sl) μ) := by
  unfold T1
  simp only [ev_ix0, ev_ix1, ev_ix2, ws_seq, ws_next, ws_expr, ws_ret, ws_retN, ws_break, ws_set, ws_asg, ws_if, ws_raise, ws_par, ws_eff, ws_for, ev_varE, ev_cE, ev_binE, ev_unE, ev_nilA, ev_consA, ev_starA, ev_tupE, ev_newL, ev_lstE, ev_ifE, ev_asB, ev_valT, ev_andT, ev_orT, ev_notT, ev_andE, ev_intD, ev_addI, ev_addT, ev_mulI, ev_mulT, ev_negI, ev_isN, ev_isB, ev_eqI, ev_callE, ev_lenT, ev_intC, ev_listT, ev_two, ev_chainE, ev_lastC, ev_lastT, ev_linkC, ev_linkT, ev_truT, ev_mtE, ev_yesT, ev_all, ev_seqI, ev_rng1, ev_rng2, ev_zip, ev_enum, ev_lcE, ev_lc2E, lc_item, lc_item2, List.map_cons, List.map_nil, List.cons_append, List.nil_append, List.append_nil, List.replicate_succ, List.replicate_zero, Nat.reduceSub, Nat.reduceAdd, List.getElem?_cons_zero, List.getElem?_cons_succ, List.getElem?_nil, List.set_cons_zero, List.set_cons_succ, asg_nm, asg_tp, asgs_nil, asgs_cons, Option.bind_some, List.length_cons, List.length_nil, wipeD, true_and, and_true, if_true, if_false, Bool.false_eq_true, decide_eq_true_eq, Bool.not_true, Bool.not_false, Bool.xor_false, Bool.false_xor, Bool.true_xor, Bool.not_eq_true', decide_eq_false_iff_not, reduceIte]
  exact w_row hp (by omega) (by omega) hd fun row μ' hr hl f d => h row μ' hr (by omega) d
theorem t2 {k : Nat} {row : List Int} (hl : row.length ≤ 6) (hd : Dr b μ k) (h : ∀ at_ μ', 0 ≤ at_ → at_ ≤ 6 → Dr b μ' k → E.nx ([x0, some (.mr k), x2, x3, x4, x5, x6, x7, x8, x9, some (iD row), some (.int at_), x12, x13, x14, x15, x16, x17, x18] : Sl) μ') : Ws E (T2 ([x0, some (.mr k), x2, x3, x4, x5, x6, x7, x8, x9, some (iD row), x11, x12, x13, x14, x15, x16, x17, x18] : Sl) μ) := by
  unfold T2
  simp only [ev_ix0, ev_ix1, ev_ix2, ws_seq, ws_next, ws_expr, ws_ret, ws_retN, ws_break, ws_set, ws_asg, ws_if, ws_raise, ws_par, ws_eff, ws_for, ev_varE, ev_cE, ev_binE, ev_unE, ev_nilA, ev_consA, ev_starA, ev_tupE, ev_newL, ev_lstE, ev_ifE, ev_asB, ev_valT, ev_andT, ev_orT, ev_notT, ev_andE, ev_intD, ev_addI, ev_addT, ev_mulI, ev_mulT, ev_negI, ev_isN, ev_isB, ev_eqI, ev_callE, ev_lenT, ev_intC, ev_listT, ev_two, ev_chainE, ev_lastC, ev_lastT, ev_linkC, ev_linkT, ev_truT, ev_mtE, ev_yesT, ev_all, ev_seqI, ev_rng1, ev_rng2, ev_zip, ev_enum, ev_lcE, ev_lc2E, lc_item, lc_item2, List.map_cons, List.map_nil, List.cons_append, List.nil_append, List.append_nil, List.replicate_succ, List.replicate_zero, Nat.reduceSub, Nat.reduceAdd, List.getElem?_cons_zero, List.getElem?_cons_succ, List.getElem?_nil, List.set_cons_zero, List.set_cons_succ, asg_nm, asg_tp, asgs_nil, asgs_cons, Option.bind_some, List.length_cons, List.length_nil, wipeD, true_and, and_true, if_true, if_false, Bool.false_eq_true, decide_eq_true_eq, Bool.not_true, Bool.not_false, Bool.xor_false, Bool.false_xor, Bool.true_xor, Bool.not_eq_true', decide_eq_false_iff_not, reduceIte]
  refine w_next hd fun v μ1 f1 d1 a0 a1 => ?_
  unfold iD at *
  simp only [List.length_map, ev_ix0, ev_ix1, ev_ix2, ws_seq, ws_next, ws_expr, ws_ret, ws_retN, ws_break, ws_set, ws_asg, ws_if, ws_raise, ws_par, ws_eff, ws_for, ev_varE, ev_cE, ev_binE, ev_unE, ev_nilA, ev_consA, ev_starA, ev_tupE, ev_newL, ev_lstE, ev_ifE, ev_asB, ev_valT, ev_andT, ev_orT, ev_notT, ev_andE, ev_intD, ev_addI, ev_addT, ev_mulI, ev_mulT, ev_negI, ev_isN, ev_isB, ev_eqI, ev_callE, ev_lenT, ev_intC, ev_listT, ev_two, ev_chainE, ev_lastC, ev_lastT, ev_linkC, ev_linkT, ev_truT, ev_mtE, ev_yesT, ev_all, ev_seqI, ev_rng1, ev_rng2, ev_zip, ev_enum, ev_lcE, ev_lc2E, lc_item, lc_item2, List.map_cons, List.map_nil, List.cons_append, List.nil_append, List.append_nil, List.replicate_succ, List.replicate_zero, Nat.reduceSub, Nat.reduceAdd, List.getElem?_cons_zero, List.getElem?_cons_succ, List.getElem?_nil, List.set_cons_zero, List.set_cons_succ, asg_nm, asg_tp, asgs_nil, asgs_cons, Option.bind_some, List.length_cons, List.length_nil, wipeD, true_and, and_true, if_true, if_false, Bool.false_eq_true, decide_eq_true_eq, Bool.not_true, Bool.not_false, Bool.xor_false, Bool.false_xor, Bool.true_xor, Bool.not_eq_true', decide_eq_false_iff_not, reduceIte]
  generalize hm : (if (row.length : Int) - 1 > 1 then (row.length : Int) - 1 else 1) = m
  have hm' : 1 ≤ m ∧ m ≤ 6 := by split at hm <;> omega
  have q := mod_lo (i := v) (j := m) (by omega)
  exact ⟨by omega, h _ _ q.1 (by omega) d1⟩
theorem cut_I {l : List Int} {lo hi : Option Int} : ∃ l' : List Int, DL.cutD (l.map .int) lo hi = l'.map .int ∧ (∀ x ∈ l', x ∈ l) ∧ l'.length ≤ l.length := by
  unfold DL.cutD
  rw [← List.map_drop, ← List.map_take]
  refine ⟨_, rfl, fun x hx => List.mem_of_mem_drop (List.mem_of_mem_take hx), ?_⟩
  rw [List.length_take, List.length_drop]
  omega
theorem rowB_of {p : Pg} {a l : List Int} (h : rowB p l = true) (hs : ∀ x ∈ a, x ∈ l) : rowB p a = true := rowB_iff.mpr fun i hi => rowB_iff.mp h i (hs i hi)
theorem rowB_app {p : Pg} {a l : List Int} (h1 : rowB p a = true) (h2 : rowB p l = true) : rowB p (a ++ l) = true := rowB_iff.mpr fun i hi => by
  rcases List.mem_append.mp hi with z | z
  · exact rowB_iff.mp h1 i z
  · exact rowB_iff.mp h2 i z
theorem t3 {p : Pg} {row : List Int} {at_ : Int} (hl : row.length ≤ 6) (hr : rowB p row = true) (h : ∀ moved, rowB p moved = true → moved.length ≤ 18 → E.nx ([x0, x1, x2, x3, x4, x5, x6, x7, x8, x9, some (iD row), some (.int at_), some (iD moved), x13, x14, x15, x16, x17, x18] : Sl) μ) : Ws E (T3 ([x0, x1, x2, x3, x4, x5, x6, x7, x8, x9, some (iD row), some (.int at_), x12, x13, x14, x15, x16, x17, x18] : Sl) μ) := by
  have zz := size_eq
  unfold T3
  unfold iD at *
  simp only [ev_sliceE, ev_noO, ev_partO, ev_sliT, ev_revT, ev_ix0, ev_ix1, ev_ix2, ws_seq, ws_next, ws_expr, ws_ret, ws_retN, ws_break, ws_set, ws_asg, ws_if, ws_raise, ws_par, ws_eff, ws_for, ev_varE, ev_cE, ev_binE, ev_unE, ev_nilA, ev_consA, ev_starA, ev_tupE, ev_newL, ev_lstE, ev_ifE, ev_asB, ev_valT, ev_andT, ev_orT, ev_notT, ev_andE, ev_intD, ev_addI, ev_addT, ev_mulI, ev_mulT, ev_negI, ev_isN, ev_isB, ev_eqI, ev_callE, ev_lenT, ev_intC, ev_listT, ev_two, ev_chainE, ev_lastC, ev_lastT, ev_linkC, ev_linkT, ev_truT, ev_mtE, ev_yesT, ev_all, ev_seqI, ev_rng1, ev_rng2, ev_zip, ev_enum, ev_lcE, ev_lc2E, lc_item, lc_item2, List.map_cons, List.map_nil, List.cons_append, List.nil_append, List.append_nil, List.replicate_succ, List.replicate_zero, Nat.reduceSub, Nat.reduceAdd, List.getElem?_cons_zero, List.getElem?_cons_succ, List.getElem?_nil, List.set_cons_zero, List.set_cons_succ, asg_nm, asg_tp, asgs_nil, asgs_cons, Option.bind_some, List.length_cons, List.length_nil, wipeD, true_and, and_true, if_true, if_false, Bool.false_eq_true, decide_eq_true_eq, Bool.not_true, Bool.not_false, Bool.xor_false, Bool.false_xor, Bool.true_xor, Bool.not_eq_true', decide_eq_false_iff_not, reduceIte]
  obtain ⟨a, e1, m1, n1⟩ := cut_I (l := row) (lo := none) (hi := some at_)
  obtain ⟨c, e2, m2, n2⟩ := cut_I (l := row) (lo := some at_) (hi := some (at_ + 2))
  obtain ⟨d, e3, m3, n3⟩ := cut_I (l := row) (lo := some (at_ + 2)) (hi := none)
  rw [e1, e2, e3, ← List.map_reverse, ← List.map_append, ← List.map_append]
  refine ⟨by rw [List.length_map, List.length_map, List.length_reverse]; omega, by rw [List.length_map, List.length_map, List.length_append, List.length_reverse]; omega, h (a ++ c.reverse ++ d) ?_ (by rw [List.length_append, List.length_append, List.length_reverse]; omega)⟩
  exact rowB_app (rowB_app (rowB_of hr m1) (rowB_of hr fun x hx => m2 x (List.mem_reverse.mp hx))) (rowB_of hr m3)
theorem t4 {k : Nat} {p : Pg} {row moved : List Int} (hp : PgOk p) (hd : Dr b μ k) (hl : row.length ≤ 6) (hr : rowB p row = true) (hl2 : moved.length ≤ 18) (hr2 : rowB p moved = true)
    (h : ∀ other μ', rowB p other = true → other.length ≤ 18 → Dr b μ' k → E.nx ([x0, some (.mr k), some (pD p), x3, x4, x5, x6, x7, x8, x9, some (iD row), x11, some (iD moved), some (iD other), x14, x15, x16, x17, x18] : Sl) μ') : Ws E (T4 ([x0, some (.mr k), some (pD p), x3, x4, x5, x6, x7, x8, x9, some (iD row), x11, some (iD moved), x13, x14, x15, x16, x17, x18] : Sl) μ) := by
  have zz := size_eq
  have kl := hd.lt
  unfold T4
  simp only [ev_gcE, ev_sliceE, ev_noO, ev_partO, ev_ix0, ev_ix1, ev_ix2, ws_seq, ws_next, ws_expr, ws_ret, ws_retN, ws_break, ws_set, ws_asg, ws_if, ws_raise, ws_par, ws_eff, ws_for, ev_varE, ev_cE, ev_binE, ev_unE, ev_nilA, ev_consA, ev_starA, ev_tupE, ev_newL, ev_lstE, ev_ifE, ev_asB, ev_valT, ev_andT, ev_orT, ev_notT, ev_andE, ev_intD, ev_addI, ev_addT, ev_mulI, ev_mulT, ev_negI, ev_isN, ev_isB, ev_eqI, ev_callE, ev_lenT, ev_intC, ev_listT, ev_two, ev_chainE, ev_lastC, ev_lastT, ev_linkC, ev_linkT, ev_truT, ev_mtE, ev_yesT, ev_all, ev_seqI, ev_rng1, ev_rng2, ev_zip, ev_enum, ev_lcE, ev_lc2E, lc_item, lc_item2, List.map_cons, List.map_nil, List.cons_append, List.nil_append, List.append_nil, List.replicate_succ, List.replicate_zero, Nat.reduceSub, Nat.reduceAdd, List.getElem?_cons_zero, List.getElem?_cons_succ, List.getElem?_nil, List.set_cons_zero, List.set_cons_succ, asg_nm, asg_tp, asgs_nil, asgs_cons, Option.bind_some, List.length_cons, List.length_nil, wipeD, true_and, and_true, if_true, if_false, Bool.false_eq_true, decide_eq_true_eq, Bool.not_true, Bool.not_false, Bool.xor_false, Bool.false_xor, Bool.true_xor, Bool.not_eq_true', decide_eq_false_iff_not, reduceIte]
  refine w_row hp (by omega) (by omega) hd fun r2 μ1 hr3 hl3 f1 d1 => ?_
  have e0 : ∀ l : List Int, iD l = .tup (l.map .int) := fun _ => rfl
  simp only [e0, ev_sliT, ev_ix0, ev_ix1, ev_ix2, ws_seq, ws_next, ws_expr, ws_ret, ws_retN, ws_break, ws_set, ws_asg, ws_if, ws_raise, ws_par, ws_eff, ws_for, ev_varE, ev_cE, ev_binE, ev_unE, ev_nilA, ev_consA, ev_starA, ev_tupE, ev_newL, ev_lstE, ev_ifE, ev_asB, ev_valT, ev_andT, ev_orT, ev_notT, ev_andE, ev_intD, ev_addI, ev_addT, ev_mulI, ev_mulT, ev_negI, ev_isN, ev_isB, ev_eqI, ev_callE, ev_lenT, ev_intC, ev_listT, ev_two, ev_chainE, ev_lastC, ev_lastT, ev_linkC, ev_linkT, ev_truT, ev_mtE, ev_yesT, ev_all, ev_seqI, ev_rng1, ev_rng2, ev_zip, ev_enum, ev_lcE, ev_lc2E, lc_item, lc_item2, List.map_cons, List.map_nil, List.cons_append, List.nil_append, List.append_nil, List.replicate_succ, List.replicate_zero, Nat.reduceSub, Nat.reduceAdd, List.getElem?_cons_zero, List.getElem?_cons_succ, List.getElem?_nil, List.set_cons_zero, List.set_cons_succ, asg_nm, asg_tp, asgs_nil, asgs_cons, Option.bind_some, List.length_cons, List.length_nil, wipeD, true_and, and_true, if_true, if_false, Bool.false_eq_true, decide_eq_true_eq, Bool.not_true, Bool.not_false, Bool.xor_false, Bool.false_xor, Bool.true_xor, Bool.not_eq_true', decide_eq_false_iff_not, reduceIte]
  obtain ⟨c, e2, m2, n2⟩ := cut_I (l := row) (lo := some (-1)) (hi := none)
  rw [e2, List.length_map, List.length_map]
  refine ⟨by omega, ⟨by omega, by omega, by omega⟩, by omega, ?_⟩
  refine w_pick (ds := [iD moved, iD moved, iD r2, iD (row ++ c), iD (row ++ row), iD row]) (d1.new _) ?_ ?_ (by simp) fun d μ2 hm f2 d2 => ?_
  · rw [show (iD (row ++ c)) = .tup (row.map .int ++ c.map .int) by unfold iD; rw [List.map_append], show (iD (row ++ row)) = .tup (List.replicate (Int.toNat 2) (row.map D.int)).flatten by unfold iD; rw [List.map_append]; show _ = D.tup ([row.map D.int, row.map D.int]).flatten; simp]
    exact get_new
  · have := d1.lt; omega
  · have : ∃ l, d = iD l ∧ rowB p l = true ∧ l.length ≤ 18 := by
      simp only [List.mem_cons, List.not_mem_nil, or_false] at hm
      rcases hm with rfl | rfl | rfl | rfl | rfl | rfl
      · exact ⟨_, rfl, hr2, hl2⟩
      · exact ⟨_, rfl, hr2, hl2⟩
      · exact ⟨_, rfl, hr3, by omega⟩
      · exact ⟨_, rfl, rowB_app hr (rowB_of hr m2), by rw [List.length_append]; omega⟩
      · exact ⟨_, rfl, rowB_app hr hr, by rw [List.length_append]; omega⟩
      · exact ⟨_, rfl, hr, by omega⟩
    obtain ⟨l, rfl, q1, q2⟩ := this
    exact h l _ q1 q2 (d2.gc kl)
theorem t5 {k : Nat} {p : Pg} {row other : List Int} (hp : PgOk p) (hd : Dr b μ k) (hr : rowB p row = true) (hr2 : rowB p other = true) (h : ∀ μ', Dr b μ' k → E.nx ([x0, some (.mr k), some (pD p), x3, x4, x5, x6, x7, x8, x9, some (iD row), x11, x12, some (iD other), some (aD (apart p row other)), x15, x16, x17, x18] : Sl) μ') :
    Ws E (T5 ([x0, some (.mr k), some (pD p), x3, x4, x5, x6, x7, x8, x9, some (iD row), x11, x12, some (iD other), x14, x15, x16, x17, x18] : Sl) μ) := by
  unfold T5
  simp only [ev_ix0, ev_ix1, ev_ix2, ws_seq, ws_next, ws_expr, ws_ret, ws_retN, ws_break, ws_set, ws_asg, ws_if, ws_raise, ws_par, ws_eff, ws_for, ev_varE, ev_cE, ev_binE, ev_unE, ev_nilA, ev_consA, ev_starA, ev_tupE, ev_newL, ev_lstE, ev_ifE, ev_asB, ev_valT, ev_andT, ev_orT, ev_notT, ev_andE, ev_intD, ev_addI, ev_addT, ev_mulI, ev_mulT, ev_negI, ev_isN, ev_isB, ev_eqI, ev_callE, ev_lenT, ev_intC, ev_listT, ev_two, ev_chainE, ev_lastC, ev_lastT, ev_linkC, ev_linkT, ev_truT, ev_mtE, ev_yesT, ev_all, ev_seqI, ev_rng1, ev_rng2, ev_zip, ev_enum, ev_lcE, ev_lc2E, lc_item, lc_item2, List.map_cons, List.map_nil, List.cons_append, List.nil_append, List.append_nil, List.replicate_succ, List.replicate_zero, Nat.reduceSub, Nat.reduceAdd, List.getElem?_cons_zero, List.getElem?_cons_succ, List.getElem?_nil, List.set_cons_zero, List.set_cons_succ, asg_nm, asg_tp, asgs_nil, asgs_cons, Option.bind_some, List.length_cons, List.length_nil, wipeD, true_and, and_true, if_true, if_false, Bool.false_eq_true, decide_eq_true_eq, Bool.not_true, Bool.not_false, Bool.xor_false, Bool.false_xor, Bool.true_xor, Bool.not_eq_true', decide_eq_false_iff_not, reduceIte]
  exact w_u_law_apart hp hr hr2 fun μ1 f1 => h μ1 (hd.more f1)
/-- asked in turn -/
theorem w_ask {n : Int} {res : List D} {fs : Sl → M (List D)} {d0 d1 d2 : D} (hn : n.toNat = res.length) (h10 : 0 ≤ n ∧ n ≤ 10) (hfs : ∀ v μ1, Ev nX (fun xs μ2 => xs = [d0, d1, d2] ∧ μ2 = μ1) (fs ((wipeD ρ [17]).set 17 (some v)) μ1)) (h17 : (wipeD ρ [17]).length = 19)
    (hA : ∀ (i : Nat) (r : D), res[i]? = some r → ∀ (μ1 : Mu) (Q' : D → Mu → Prop), (∀ μ2, Fr no μ1 μ2 → Q' r μ2) → Ev nX Q' (d_u_law_asked [.int i, d0, d1, d2] μ1)) (h : ∀ r μ', Fr no μ μ' → r < μ'.length → μ.length ≤ r → μ'[r]? = some (.lst res) → Q (.mr r) μ') :
    Ev X Q (lcE (rngI1 (consA (cE (.int n)) nilA)) (.nm 17) yesT (callE d_u_law_asked (consA (varE 17) fs)) [17] ρ μ) := by
  have zz := size_eq
  simp only [ev_lcE, ev_rng1, ev_consA, ev_cE, ev_nilA]
  refine ⟨⟨by omega, by omega⟩, ?_⟩
  rw [rngD_eq]
  refine lc_fix (fun i μ' => Fr no μ μ' ∧ μ'[μ.length]? = some (.lst (res.take i)) ∧ i ≤ 10) ⟨(Fr.refl _ _).new _, get_new, Nat.zero_le _⟩ (fun i d μ' hd ⟨f, a, il⟩ => ?_) (fun μ' ⟨f, a, il⟩ => ?_)
  · rw [List.getElem?_map] at hd
    obtain ⟨x, hx, rfl⟩ := Option.map_eq_some_iff.mp hd
    obtain ⟨xl, xe⟩ := rng_get hx
    have xe' : x = i := by omega
    subst xe'
    have ir : i < res.length := by omega
    have hr : res[i]? = some res[i] := List.getElem?_eq_getElem ir
    refine ⟨_, by rw [asg_nm], ?_⟩
    rw [lc_item, ev_yesT, if_pos rfl, ev_callE, ev_consA, ev_varE, List.getElem?_set_self (by omega)]
    refine (hfs (.int i) μ').post fun xs μ2 ⟨e1, e2⟩ => ?_
    subst e1 e2
    refine hA i _ hr _ _ fun μ3 f3 => ?_
    have a3 := f3.get a
    rw [lc_add a3]
    refine ⟨by rw [List.length_take]; omega, (f.trans f3).set _ (fun z => by omega), ?_, by omega⟩
    rw [get_set a3, List.take_add_one, hr]; rfl
  · rw [List.length_map, rng_len, hn, List.take_length] at a
    exact h _ _ f (lt_of_get a) (Nat.le_refl _) a
end
end K69
end TPLH

section TPLI
set_option maxRecDepth 100000
set_option maxHeartbeats 4000000
namespace K69
open PySem L2 PySem.Spec PyProof.Rows DL
section
variable {X : Nat → Mu → Prop} {Q : D → Mu → Prop} {μ : Mu} {ρ : Sl} {E : En} {b : Nat} {x0 x1 x2 x3 x4 x5 x6 x7 x8 x9 x10 x11 x12 x13 x14 x15 x16 x17 x18 : Option D}
def isNon : D → Bool
  | .non => true
  | _ => false
theorem ev_isQ {neg : Bool} (d : D) : Ev X Q (isD neg d .non μ) = Q (.bl (xor neg (isNon d))) μ := by cases d <;> rfl
theorem isNon_aD (o : Option (List Int)) : isNon (aD o) = o.isNone := by cases o <;> rfl
theorem t6 {k : Nat} {p : Pg} {row other : List Int} (hp : PgOk p) (hd : Dr b μ k) (n1 : row.length ≤ 18) (n2 : other.length ≤ 18) (hr : rowB p row = true) (hr2 : rowB p other = true)
    (h : ∀ μ', Dr b μ' k → E.nx ([x0, some (.mr k), some (pD p), x3, x4, x5, x6, x7, x8, x9, some (iD row), x11, x12, some (iD other), some (aD (apart p row other)), x15, x16, x17, x18] : Sl) μ') :
    Ws E (T6 ([x0, some (.mr k), some (pD p), x3, x4, x5, x6, x7, x8, x9, some (iD row), x11, x12, some (iD other), some (aD (apart p row other)), x15, x16, x17, x18] : Sl) μ) := by
  have kl := hd.lt
  unfold T6
  simp only [ws_if, ev_valT, ev_binE, ev_gcE, ev_callE, ev_consA, ev_nilA]
  refine w_ask (n := 2) (res := [.bl (apart p row other).isNone, aD (apart p row other)]) (d0 := pD p) (d1 := iD row) (d2 := iD other) rfl (by omega) (fun v μ1 => by simp only [ev_ix0, ev_ix1, ev_ix2, ws_seq, ws_next, ws_expr, ws_ret, ws_retN, ws_break, ws_set, ws_asg, ws_if, ws_raise, ws_par, ws_eff, ws_for, ev_varE, ev_cE, ev_binE, ev_unE, ev_nilA, ev_consA, ev_starA, ev_tupE, ev_newL, ev_lstE, ev_ifE, ev_asB, ev_valT, ev_andT, ev_orT, ev_notT, ev_andE, ev_intD, ev_addI, ev_addT, ev_mulI, ev_mulT, ev_negI, ev_isN, ev_isB, ev_eqI, ev_callE, ev_lenT, ev_intC, ev_listT, ev_two, ev_chainE, ev_lastC, ev_lastT, ev_linkC, ev_linkT, ev_truT, ev_mtE, ev_yesT, ev_all, ev_seqI, ev_rng1, ev_rng2, ev_zip, ev_enum, ev_lcE, ev_lc2E, lc_item, lc_item2, List.map_cons, List.map_nil, List.cons_append, List.nil_append, List.append_nil, List.replicate_succ, List.replicate_zero, Nat.reduceSub, Nat.reduceAdd, List.getElem?_cons_zero, List.getElem?_cons_succ, List.getElem?_nil, List.set_cons_zero, List.set_cons_succ, asg_nm, asg_tp, asgs_nil, asgs_cons, Option.bind_some, List.length_cons, List.length_nil, wipeD, true_and, and_true, if_true, if_false, Bool.false_eq_true, decide_eq_true_eq, Bool.not_true, Bool.not_false, Bool.xor_false, Bool.false_xor, Bool.true_xor, Bool.not_eq_true', decide_eq_false_iff_not, reduceIte]; try exact ⟨rfl, rfl⟩) rfl (fun i r hi μ1 Q' hq => ?_) fun r μ1 f1 rl rg g1 => ?_
  · have : (i = 0 ∧ r = .bl (apart p row other).isNone) ∨ (i = 1 ∧ r = aD (apart p row other)) := by
      match i, hi with
      | 0, hi => exact .inl ⟨rfl, by simpa using hi.symm⟩
      | 1, hi => exact .inr ⟨rfl, by simpa using hi.symm⟩
      | i + 2, hi => simp at hi
    rcases this with ⟨rfl, rfl⟩ | ⟨rfl, rfl⟩
    · exact w_asked0 hp (by omega) (by omega) hr hr2 hq
    · exact w_asked1 hp (by omega) (by omega) hr hr2 hq
  · have ok := dT_ok (o := apart p row other) fun lv e => lv_small hp (apart_some e).1
    rw [ev_repr g1 (view_T g1) ok.1 ok.2.1 ok.2.2]
    have f2 : Fr no μ (gcM μ.length (.str (dT (apart p row other)).shown) μ1) := f1.gc
    generalize gcM μ.length (.str (dT (apart p row other)).shown) μ1 = μ2 at f2 ⊢
    simp only [isNon_aD, ev_ix0, ev_ix1, ev_ix2, ws_seq, ws_next, ws_expr, ws_ret, ws_retN, ws_break, ws_set, ws_asg, ws_if, ws_raise, ws_par, ws_eff, ws_for, ev_varE, ev_cE, ev_binE, ev_unE, ev_nilA, ev_consA, ev_starA, ev_tupE, ev_newL, ev_lstE, ev_ifE, ev_asB, ev_valT, ev_andT, ev_orT, ev_notT, ev_andE, ev_intD, ev_addI, ev_addT, ev_mulI, ev_mulT, ev_negI, ev_isQ, ev_isB, ev_eqI, ev_callE, ev_lenT, ev_intC, ev_listT, ev_two, ev_chainE, ev_lastC, ev_lastT, ev_linkC, ev_linkT, ev_truT, ev_mtE, ev_yesT, ev_all, ev_seqI, ev_rng1, ev_rng2, ev_zip, ev_enum, ev_lcE, ev_lc2E, lc_item, lc_item2, List.map_cons, List.map_nil, List.cons_append, List.nil_append, List.append_nil, List.replicate_succ, List.replicate_zero, Nat.reduceSub, Nat.reduceAdd, List.getElem?_cons_zero, List.getElem?_cons_succ, List.getElem?_nil, List.set_cons_zero, List.set_cons_succ, asg_nm, asg_tp, asgs_nil, asgs_cons, Option.bind_some, List.length_cons, List.length_nil, wipeD, true_and, and_true, if_true, if_false, Bool.false_eq_true, decide_eq_true_eq, Bool.not_true, Bool.not_false, Bool.xor_false, Bool.false_xor, Bool.true_xor, Bool.not_eq_true', decide_eq_false_iff_not, reduceIte]
    have g3 : (μ2 ++ [Cell.lst [D.bl (apart p row other).isNone, aD (apart p row other)]])[μ2.length]? = some (.lst [D.bl (apart p row other).isNone, aD (apart p row other)]) := get_new
    rw [ev_repr g3 (view_T g3) ok.1 ok.2.1 ok.2.2]
    rw [ev_eqS (sml_ok ok.1)]
    refine ⟨by decide, ?_⟩
    simp only [ev_ix0, ev_ix1, ev_ix2, ws_seq, ws_next, ws_expr, ws_ret, ws_retN, ws_break, ws_set, ws_asg, ws_if, ws_raise, ws_par, ws_eff, ws_for, ev_varE, ev_cE, ev_binE, ev_unE, ev_nilA, ev_consA, ev_starA, ev_tupE, ev_newL, ev_lstE, ev_ifE, ev_asB, ev_valT, ev_andT, ev_orT, ev_notT, ev_andE, ev_intD, ev_addI, ev_addT, ev_mulI, ev_mulT, ev_negI, ev_isN, ev_isB, ev_eqI, ev_callE, ev_lenT, ev_intC, ev_listT, ev_two, ev_chainE, ev_lastC, ev_lastT, ev_linkC, ev_linkT, ev_truT, ev_mtE, ev_yesT, ev_all, ev_seqI, ev_rng1, ev_rng2, ev_zip, ev_enum, ev_lcE, ev_lc2E, lc_item, lc_item2, List.map_cons, List.map_nil, List.cons_append, List.nil_append, List.append_nil, List.replicate_succ, List.replicate_zero, Nat.reduceSub, Nat.reduceAdd, List.getElem?_cons_zero, List.getElem?_cons_succ, List.getElem?_nil, List.set_cons_zero, List.set_cons_succ, asg_nm, asg_tp, asgs_nil, asgs_cons, Option.bind_some, List.length_cons, List.length_nil, wipeD, true_and, and_true, if_true, if_false, Bool.false_eq_true, decide_eq_true_eq, Bool.not_true, Bool.not_false, Bool.xor_false, Bool.false_xor, Bool.true_xor, Bool.not_eq_true', decide_eq_false_iff_not, reduceIte]
    exact h _ (hd.more ((f2.trans ((Fr.refl _ _).new _).gc)))
theorem t7 {k : Nat} {p : Pg} {row other : List Int} (hp : PgOk p) (hd : Dr b μ k) (n1 : row.length ≤ 18) (n2 : other.length ≤ 18) (hr : rowB p row = true) (hr2 : rowB p other = true)
    (h : ∀ μ', Dr b μ' k → E.nx ([x0, some (.mr k), some (pD p), x3, x4, x5, x6, x7, x8, x9, some (iD row), x11, x12, some (iD other), some (aD (apart p row other)), x15, x16, x17, x18] : Sl) μ') :
    Ws E (T7 ([x0, some (.mr k), some (pD p), x3, x4, x5, x6, x7, x8, x9, some (iD row), x11, x12, some (iD other), some (aD (apart p row other)), x15, x16, x17, x18] : Sl) μ) := by
  unfold T7
  simp only [ev_ix0, ev_ix1, ev_ix2, ws_seq, ws_next, ws_expr, ws_ret, ws_retN, ws_break, ws_set, ws_asg, ws_if, ws_raise, ws_par, ws_eff, ws_for, ev_varE, ev_cE, ev_binE, ev_unE, ev_nilA, ev_consA, ev_starA, ev_tupE, ev_newL, ev_lstE, ev_ifE, ev_asB, ev_valT, ev_andT, ev_orT, ev_notT, ev_andE, ev_intD, ev_addI, ev_addT, ev_mulI, ev_mulT, ev_negI, ev_isN, ev_isB, ev_eqI, ev_callE, ev_lenT, ev_intC, ev_listT, ev_two, ev_chainE, ev_lastC, ev_lastT, ev_linkC, ev_linkT, ev_truT, ev_mtE, ev_yesT, ev_all, ev_seqI, ev_rng1, ev_rng2, ev_zip, ev_enum, ev_lcE, ev_lc2E, lc_item, lc_item2, List.map_cons, List.map_nil, List.cons_append, List.nil_append, List.append_nil, List.replicate_succ, List.replicate_zero, Nat.reduceSub, Nat.reduceAdd, List.getElem?_cons_zero, List.getElem?_cons_succ, List.getElem?_nil, List.set_cons_zero, List.set_cons_succ, asg_nm, asg_tp, asgs_nil, asgs_cons, Option.bind_some, List.length_cons, List.length_nil, wipeD, true_and, and_true, if_true, if_false, Bool.false_eq_true, decide_eq_true_eq, Bool.not_true, Bool.not_false, Bool.xor_false, Bool.false_xor, Bool.true_xor, Bool.not_eq_true', decide_eq_false_iff_not, reduceIte]
  cases ho : apart p row other with
  | none =>
    rw [ho] at h
    exact h _ hd
  | some lv =>
    obtain ⟨lo, ne⟩ := apart_some ho
    rw [ho] at h
    show Ev _ _ (d_end_from [pD p, iD lv, iD row] μ)
    refine w_end_from hp lo (by omega) hr fun μ1 f1 => ?_
    refine w_end_from hp lo (by omega) hr2 fun μ2 f2 => ?_
    rw [ev_eqE]
    simp only [ev_ix0, ev_ix1, ev_ix2, ws_seq, ws_next, ws_expr, ws_ret, ws_retN, ws_break, ws_set, ws_asg, ws_if, ws_raise, ws_par, ws_eff, ws_for, ev_varE, ev_cE, ev_binE, ev_unE, ev_nilA, ev_consA, ev_starA, ev_tupE, ev_newL, ev_lstE, ev_ifE, ev_asB, ev_valT, ev_andT, ev_orT, ev_notT, ev_andE, ev_intD, ev_addI, ev_addT, ev_mulI, ev_mulT, ev_negI, ev_isN, ev_isB, ev_eqI, ev_callE, ev_lenT, ev_intC, ev_listT, ev_two, ev_chainE, ev_lastC, ev_lastT, ev_linkC, ev_linkT, ev_truT, ev_mtE, ev_yesT, ev_all, ev_seqI, ev_rng1, ev_rng2, ev_zip, ev_enum, ev_lcE, ev_lc2E, lc_item, lc_item2, List.map_cons, List.map_nil, List.cons_append, List.nil_append, List.append_nil, List.replicate_succ, List.replicate_zero, Nat.reduceSub, Nat.reduceAdd, List.getElem?_cons_zero, List.getElem?_cons_succ, List.getElem?_nil, List.set_cons_zero, List.set_cons_succ, asg_nm, asg_tp, asgs_nil, asgs_cons, Option.bind_some, List.length_cons, List.length_nil, wipeD, true_and, and_true, if_true, if_false, Bool.false_eq_true, decide_eq_true_eq, Bool.not_true, Bool.not_false, Bool.xor_false, Bool.false_xor, Bool.true_xor, Bool.not_eq_true', decide_eq_false_iff_not, reduceIte]
    rw [if_neg ne]
    exact h _ (hd.more (f1.trans f2))
theorem t8 {k : Nat} {p : Pg} (hp : PgOk p) (hd : Dr b μ k) (h : ∀ ahead behind μ', rowB p ahead = true → ahead.length ≤ 3 → rowB p behind = true → behind.length ≤ 3 → Dr b μ' k → E.nx ([x0, some (.mr k), some (pD p), x3, x4, x5, x6, x7, x8, x9, x10, x11, x12, x13, x14, some (iD ahead), some (iD behind), x17, x18] : Sl) μ') :
    Ws E (T8 ([x0, some (.mr k), some (pD p), x3, x4, x5, x6, x7, x8, x9, x10, x11, x12, x13, x14, x15, x16, x17, x18] : Sl) μ) := by
  unfold T8
  simp only [ev_ix0, ev_ix1, ev_ix2, ws_seq, ws_next, ws_expr, ws_ret, ws_retN, ws_break, ws_set, ws_asg, ws_if, ws_raise, ws_par, ws_eff, ws_for, ev_varE, ev_cE, ev_binE, ev_unE, ev_nilA, ev_consA, ev_starA, ev_tupE, ev_newL, ev_lstE, ev_ifE, ev_asB, ev_valT, ev_andT, ev_orT, ev_notT, ev_andE, ev_intD, ev_addI, ev_addT, ev_mulI, ev_mulT, ev_negI, ev_isN, ev_isB, ev_eqI, ev_callE, ev_lenT, ev_intC, ev_listT, ev_two, ev_chainE, ev_lastC, ev_lastT, ev_linkC, ev_linkT, ev_truT, ev_mtE, ev_yesT, ev_all, ev_seqI, ev_rng1, ev_rng2, ev_zip, ev_enum, ev_lcE, ev_lc2E, lc_item, lc_item2, List.map_cons, List.map_nil, List.cons_append, List.nil_append, List.append_nil, List.replicate_succ, List.replicate_zero, Nat.reduceSub, Nat.reduceAdd, List.getElem?_cons_zero, List.getElem?_cons_succ, List.getElem?_nil, List.set_cons_zero, List.set_cons_succ, asg_nm, asg_tp, asgs_nil, asgs_cons, Option.bind_some, List.length_cons, List.length_nil, wipeD, true_and, and_true, if_true, if_false, Bool.false_eq_true, decide_eq_true_eq, Bool.not_true, Bool.not_false, Bool.xor_false, Bool.false_xor, Bool.true_xor, Bool.not_eq_true', decide_eq_false_iff_not, reduceIte]
  exact w_row hp (by omega) (by omega) hd fun r1 μ1 h1 n1 f1 d1 => w_row hp (by omega) (by omega) d1 fun r2 μ2 h2 n2 f2 d2 => h r1 r2 μ2 h1 (by omega) h2 (by omega) d2
theorem t9 {k : Nat} {p : Pg} {row other ahead behind : List Int} (hp : PgOk p) (hd : Dr b μ k) (n1 : row.length ≤ 18) (n2 : other.length ≤ 18) (n3 : ahead.length ≤ 3) (n4 : behind.length ≤ 3) (hr : rowB p row = true) (hr2 : rowB p other = true) (hr3 : rowB p ahead = true) (hr4 : rowB p behind = true)
    (h : ∀ μ', Dr b μ' k → E.nx ([x0, some (.mr k), some (pD p), x3, x4, x5, x6, x7, x8, x9, some (iD row), x11, x12, some (iD other), some (aD (apart p row other)), some (iD ahead), some (iD behind), x17, x18] : Sl) μ') :
    Ws E (T9 ([x0, some (.mr k), some (pD p), x3, x4, x5, x6, x7, x8, x9, some (iD row), x11, x12, some (iD other), some (aD (apart p row other)), some (iD ahead), some (iD behind), x17, x18] : Sl) μ) := by
  have zz := size_eq
  unfold T9
  simp only [isNon_aD, ev_ix0, ev_ix1, ev_ix2, ws_seq, ws_next, ws_expr, ws_ret, ws_retN, ws_break, ws_set, ws_asg, ws_if, ws_raise, ws_par, ws_eff, ws_for, ev_varE, ev_cE, ev_binE, ev_unE, ev_nilA, ev_consA, ev_starA, ev_tupE, ev_newL, ev_lstE, ev_ifE, ev_asB, ev_valT, ev_andT, ev_orT, ev_notT, ev_andE, ev_intD, ev_addI, ev_addT, ev_mulI, ev_mulT, ev_negI, ev_isQ, ev_isB, ev_eqI, ev_callE, ev_lenT, ev_intC, ev_listT, ev_two, ev_chainE, ev_lastC, ev_lastT, ev_linkC, ev_linkT, ev_truT, ev_mtE, ev_yesT, ev_all, ev_seqI, ev_rng1, ev_rng2, ev_zip, ev_enum, ev_lcE, ev_lc2E, lc_item, lc_item2, List.map_cons, List.map_nil, List.cons_append, List.nil_append, List.append_nil, List.replicate_succ, List.replicate_zero, Nat.reduceSub, Nat.reduceAdd, List.getElem?_cons_zero, List.getElem?_cons_succ, List.getElem?_nil, List.set_cons_zero, List.set_cons_succ, asg_nm, asg_tp, asgs_nil, asgs_cons, Option.bind_some, List.length_cons, List.length_nil, wipeD, true_and, and_true, if_true, if_false, Bool.false_eq_true, decide_eq_true_eq, Bool.not_true, Bool.not_false, Bool.xor_false, Bool.false_xor, Bool.true_xor, Bool.not_eq_true', decide_eq_false_iff_not, reduceIte]
  cases ho : apart p row other with
  | some lv =>
    rw [ho] at h
    exact h _ hd
  | none =>
    rw [ho] at h
    have e0 : ∀ l : List Int, iD l = .tup (l.map .int) := fun _ => rfl
    have sw := same_within (behind := behind) hp hr3 ho
    have q1 : D.tup (ahead.map .int ++ row.map .int ++ behind.map .int) = iD (ahead ++ row ++ behind) := by unfold iD; rw [List.map_append, List.map_append]
    have q2 : D.tup (ahead.map .int ++ other.map .int ++ behind.map .int) = iD (ahead ++ other ++ behind) := by unfold iD; rw [List.map_append, List.map_append]
    rw [if_pos (show (none : Option (List Int)).isNone = true from rfl)]
    simp only [e0 row, e0 other, e0 ahead, e0 behind, ev_ix0, ev_ix1, ev_ix2, ws_seq, ws_next, ws_expr, ws_ret, ws_retN, ws_break, ws_set, ws_asg, ws_if, ws_raise, ws_par, ws_eff, ws_for, ev_varE, ev_cE, ev_binE, ev_unE, ev_nilA, ev_consA, ev_starA, ev_tupE, ev_newL, ev_lstE, ev_ifE, ev_asB, ev_valT, ev_andT, ev_orT, ev_notT, ev_andE, ev_intD, ev_addI, ev_addT, ev_mulI, ev_mulT, ev_negI, ev_isN, ev_isB, ev_eqI, ev_callE, ev_lenT, ev_intC, ev_listT, ev_two, ev_chainE, ev_lastC, ev_lastT, ev_linkC, ev_linkT, ev_truT, ev_mtE, ev_yesT, ev_all, ev_seqI, ev_rng1, ev_rng2, ev_zip, ev_enum, ev_lcE, ev_lc2E, lc_item, lc_item2, List.map_cons, List.map_nil, List.cons_append, List.nil_append, List.append_nil, List.replicate_succ, List.replicate_zero, Nat.reduceSub, Nat.reduceAdd, List.getElem?_cons_zero, List.getElem?_cons_succ, List.getElem?_nil, List.set_cons_zero, List.set_cons_succ, asg_nm, asg_tp, asgs_nil, asgs_cons, Option.bind_some, List.length_cons, List.length_nil, wipeD, true_and, and_true, if_true, if_false, Bool.false_eq_true, decide_eq_true_eq, Bool.not_true, Bool.not_false, Bool.xor_false, Bool.false_xor, Bool.true_xor, Bool.not_eq_true', decide_eq_false_iff_not, reduceIte]
    rw [q1, q2]
    simp only [List.length_map, List.length_append]
    refine ⟨by omega, by omega, by omega, by omega, ?_⟩
    refine w_are_same (one := ahead ++ row ++ behind) (two := ahead ++ other ++ behind) hp (by simp only [List.length_append]; omega) (by simp only [List.length_append]; omega) (rowB_app (rowB_app hr3 hr) hr4) (rowB_app (rowB_app hr3 hr2) hr4) fun μ1 f1 => ?_
    rw [sw]
    simp only [ev_ix0, ev_ix1, ev_ix2, ws_seq, ws_next, ws_expr, ws_ret, ws_retN, ws_break, ws_set, ws_asg, ws_if, ws_raise, ws_par, ws_eff, ws_for, ev_varE, ev_cE, ev_binE, ev_unE, ev_nilA, ev_consA, ev_starA, ev_tupE, ev_newL, ev_lstE, ev_ifE, ev_asB, ev_valT, ev_andT, ev_orT, ev_notT, ev_andE, ev_intD, ev_addI, ev_addT, ev_mulI, ev_mulT, ev_negI, ev_isN, ev_isB, ev_eqI, ev_callE, ev_lenT, ev_intC, ev_listT, ev_two, ev_chainE, ev_lastC, ev_lastT, ev_linkC, ev_linkT, ev_truT, ev_mtE, ev_yesT, ev_all, ev_seqI, ev_rng1, ev_rng2, ev_zip, ev_enum, ev_lcE, ev_lc2E, lc_item, lc_item2, List.map_cons, List.map_nil, List.cons_append, List.nil_append, List.append_nil, List.replicate_succ, List.replicate_zero, Nat.reduceSub, Nat.reduceAdd, List.getElem?_cons_zero, List.getElem?_cons_succ, List.getElem?_nil, List.set_cons_zero, List.set_cons_succ, asg_nm, asg_tp, asgs_nil, asgs_cons, Option.bind_some, List.length_cons, List.length_nil, wipeD, true_and, and_true, if_true, if_false, Bool.false_eq_true, decide_eq_true_eq, Bool.not_true, Bool.not_false, Bool.xor_false, Bool.false_xor, Bool.true_xor, Bool.not_eq_true', decide_eq_false_iff_not, reduceIte]
    exact h _ (hd.more f1)
end
end K69
end TPLI

section TPLJ
set_option maxRecDepth 100000
set_option maxHeartbeats 4000000
namespace K69
open PySem L2 PySem.Spec PyProof.Rows DL
section
variable {X : Nat → Mu → Prop} {Q : D → Mu → Prop} {μ : Mu} {ρ : Sl} {E : En} {b : Nat} {x0 x1 x2 x3 x4 x5 x6 x7 x8 x9 x10 x11 x12 x13 x14 x15 x16 x17 x18 : Option D}
theorem seq_of {m m' : DS} (h : Ws ⟨fun ρ' μ' => Ws E (m' ρ' μ'), E.rt, E.bk, E.xc⟩ (m ρ μ)) : Ws E (seqS m m' ρ μ) := ws_seq ▸ h
theorem l8 {k : Nat} {p : Pg} (hp : PgOk p) (hd : Dr b μ k) (h : ∀ y6 y10 y11 y12 y13 y14 y15 y16 μ', Dr b μ' k → E.nx ([x0, some (.mr k), some (pD p), x3, x4, x5, y6, x7, x8, x9, y10, y11, y12, y13, y14, y15, y16, x17, x18] : Sl) μ') : Ws E (L8 ([x0, some (.mr k), some (pD p), x3, x4, x5, x6, x7, x8, x9, x10, x11, x12, x13, x14, x15, x16, x17, x18] : Sl) μ) := by
  unfold L8
  simp only [ws_for, ev_rng1, ev_consA, ev_cE, ev_nilA]
  refine ⟨⟨by omega, by omega⟩, ?_⟩
  generalize rngD 0 (Int.toNat 5) = ds
  refine ws_fix (fun i ρ' μ' => Dr b μ' k ∧ ∃ y6 y10 y11 y12 y13 y14 y15 y16, ρ' = ([x0, some (.mr k), some (pD p), x3, x4, x5, y6, x7, x8, x9, y10, y11, y12, y13, y14, y15, y16, x17, x18] : Sl))
    ⟨hd, _, _, _, _, _, _, _, _, rfl⟩ (fun i d ρ' μ' _ ⟨dk, y6, y10, y11, y12, y13, y14, y15, y16, e⟩ => ?_) (fun ρ' μ' ⟨dk, y6, y10, y11, y12, y13, y14, y15, y16, e⟩ => ?_)
  · subst e
    refine ⟨_, rfl, ?_⟩
    refine seq_of (t1 hp dk fun row μ1 r1 n1 d1 => ?_)
    refine seq_of (t2 n1 d1 fun at_ μ2 a0 a1 d2 => ?_)
    refine seq_of (t3 n1 r1 fun moved r2 n2 => ?_)
    refine seq_of (t4 hp d2 n1 r1 n2 r2 fun other μ4 r3 n3 d4 => ?_)
    have n1' : row.length ≤ 18 := by omega
    refine seq_of (t5 hp d4 r1 r3 fun μ5 d5 => ?_)
    refine seq_of (t6 hp d5 n1' n3 r1 r3 fun μ6 d6 => ?_)
    refine seq_of (t7 hp d6 n1' n3 r1 r3 fun μ7 d7 => ?_)
    refine seq_of (t8 hp d7 fun ahead behind μ8 ra na rb nb d8 => ?_)
    refine t9 hp d8 n1' n3 na nb r1 r3 ra rb fun μ9 d9 => ?_
    exact ⟨d9, _, _, _, _, _, _, _, _, rfl⟩
  · subst e
    exact h _ _ _ _ _ _ _ _ _ dk
theorem l9 (h : ∀ pa μ', pa = acc → E.nx ([x0, x1, x2, x3, x4, x5, x6, some (pD pa), x8, x9, x10, x11, x12, x13, x14, x15, x16, x17, x18] : Sl) μ') : Ws E (L9 ([x0, x1, x2, x3, x4, x5, x6, x7, x8, x9, x10, x11, x12, x13, x14, x15, x16, x17, x18] : Sl) μ) := by
  unfold L9
  simp only [ev_ix0, ev_ix1, ev_ix2, ws_seq, ws_next, ws_expr, ws_ret, ws_retN, ws_break, ws_set, ws_asg, ws_if, ws_raise, ws_par, ws_eff, ws_for, ev_varE, ev_cE, ev_binE, ev_unE, ev_nilA, ev_consA, ev_starA, ev_tupE, ev_newL, ev_lstE, ev_ifE, ev_asB, ev_valT, ev_andT, ev_orT, ev_notT, ev_andE, ev_intD, ev_addI, ev_addT, ev_mulI, ev_mulT, ev_negI, ev_isN, ev_isB, ev_eqI, ev_callE, ev_lenT, ev_intC, ev_listT, ev_two, ev_chainE, ev_lastC, ev_lastT, ev_linkC, ev_linkT, ev_truT, ev_mtE, ev_yesT, ev_all, ev_seqI, ev_rng1, ev_rng2, ev_zip, ev_enum, ev_lcE, ev_lc2E, lc_item, lc_item2, List.map_cons, List.map_nil, List.cons_append, List.nil_append, List.append_nil, List.replicate_succ, List.replicate_zero, Nat.reduceSub, Nat.reduceAdd, List.getElem?_cons_zero, List.getElem?_cons_succ, List.getElem?_nil, List.set_cons_zero, List.set_cons_succ, asg_nm, asg_tp, asgs_nil, asgs_cons, Option.bind_some, List.length_cons, List.length_nil, wipeD, true_and, and_true, if_true, if_false, Bool.false_eq_true, decide_eq_true_eq, Bool.not_true, Bool.not_false, Bool.xor_false, Bool.false_xor, Bool.true_xor, Bool.not_eq_true', decide_eq_false_iff_not, reduceIte]
  exact w_account fun μ1 f1 => h acc μ1 rfl
def dC : PyData := .list [.list [], .tuple [.int 0], .tuple [.int 0]]
theorem view_C {r q : Nat} (h : μ[r]? = some (.lst [.mr q, iD [0], iD [0]])) (hq : μ[q]? = some (.lst [])) : view μ 8 (.mr r) = some dC := by
  rw [view, h]
  simp only [views, view_I]
  rw [view, hq]
  simp [views, dC, dI]
theorem l10 {pa : Pg} (ha : pa = acc) (h : ∀ μ', E.nx ([x0, x1, x2, x3, x4, x5, x6, some (pD pa), x8, x9, x10, x11, x12, x13, x14, x15, x16, x17, x18] : Sl) μ') : Ws E (L10 ([x0, x1, x2, x3, x4, x5, x6, some (pD pa), x8, x9, x10, x11, x12, x13, x14, x15, x16, x17, x18] : Sl) μ) := by
  have hp : PgOk pa := by rw [ha]; exact acc_ok
  have zz := size_eq
  have c1 : apart pa [0, 1] [1, 0] = some [0] := by rw [ha]; exact acc1
  have c2 : apart pa [0, 0, 0] [0, 0] = some [0] := by rw [ha]; exact acc2
  have c3 : comm pa = [] := by rw [ha]; exact acc3
  have kl : pa.ks.length = 2 := by rw [ha]; rfl
  have rB : ∀ l : List Int, (∀ x ∈ l, x = 0 ∨ x = 1) → rowB pa l = true := fun l hl => rowB_iff.mpr fun i hi => by
    have := hl i hi
    rw [kl]; omega
  clear ha
  generalize hd0 : pD pa = d0
  unfold L10
  simp only [ev_gcE, ev_ix0, ev_ix1, ev_ix2, ws_seq, ws_next, ws_expr, ws_ret, ws_retN, ws_break, ws_set, ws_asg, ws_if, ws_raise, ws_par, ws_eff, ws_for, ev_varE, ev_cE, ev_binE, ev_unE, ev_nilA, ev_consA, ev_starA, ev_tupE, ev_newL, ev_lstE, ev_ifE, ev_asB, ev_valT, ev_andT, ev_orT, ev_notT, ev_andE, ev_intD, ev_addI, ev_addT, ev_mulI, ev_mulT, ev_negI, ev_isN, ev_isB, ev_eqI, ev_callE, ev_lenT, ev_intC, ev_listT, ev_two, ev_chainE, ev_lastC, ev_lastT, ev_linkC, ev_linkT, ev_truT, ev_mtE, ev_yesT, ev_all, ev_seqI, ev_rng1, ev_rng2, ev_zip, ev_enum, ev_lcE, ev_lc2E, lc_item, lc_item2, List.map_cons, List.map_nil, List.cons_append, List.nil_append, List.append_nil, List.replicate_succ, List.replicate_zero, Nat.reduceSub, Nat.reduceAdd, List.getElem?_cons_zero, List.getElem?_cons_succ, List.getElem?_nil, List.set_cons_zero, List.set_cons_succ, asg_nm, asg_tp, asgs_nil, asgs_cons, Option.bind_some, List.length_cons, List.length_nil, wipeD, true_and, and_true, if_true, if_false, Bool.false_eq_true, decide_eq_true_eq, Bool.not_true, Bool.not_false, Bool.xor_false, Bool.false_xor, Bool.true_xor, Bool.not_eq_true', decide_eq_false_iff_not, reduceIte]
  refine w_commuting hp (fun r μ1 f1 g1 => ?_) hd0.symm
  rw [c3] at g1
  subst hd0
  refine ⟨by omega, by omega, ?_⟩
  refine w_first_apart (one := [0, 1]) (two := [1, 0]) hp (by decide) (by decide) (rB _ (by simp)) (rB _ (by simp)) fun μ2 f2 => ?_
  refine ⟨by omega, by omega, ?_⟩
  refine w_first_apart (one := [0, 0, 0]) (two := [0, 0]) hp (by decide) (by decide) (rB _ (by simp)) (rB _ (by simp)) fun μ3 f3 => ?_
  rw [c1, c2]
  refine ⟨by omega, ?_⟩
  have k1 := (f2.trans f3).get g1
  have v1 : (μ3 ++ [Cell.lst [D.mr r, aD (some [0]), aD (some [0])]])[μ3.length]? = some (.lst [.mr r, iD [0], iD [0]]) := get_new
  rw [ev_repr v1 (view_C v1 (get_old k1)) (by decide) (by decide) (by decide)]
  generalize gcM μ.length (.str dC.shown) (μ3 ++ [Cell.lst [D.mr r, aD (some [0]), aD (some [0])]]) = μ4
  refine ⟨by omega, by omega, by omega, by omega, ?_⟩
  have l1 : (μ4 ++ [Cell.lst []]).length = μ4.length + 1 := by simp
  have v2 : (μ4 ++ [Cell.lst []] ++ [Cell.lst [D.mr μ4.length, D.tup [D.int 0], D.tup [D.int 0]]])[(μ4 ++ [Cell.lst []]).length]? = some (.lst [.mr μ4.length, iD [0], iD [0]]) := get_new
  rw [ev_repr (p := dC) v2 (view_C v2 (get_old get_new)) (by decide) (by decide) (by decide)]
  rw [ev_eqS (sml_ok (by decide))]
  simp only [ev_ix0, ev_ix1, ev_ix2, ws_seq, ws_next, ws_expr, ws_ret, ws_retN, ws_break, ws_set, ws_asg, ws_if, ws_raise, ws_par, ws_eff, ws_for, ev_varE, ev_cE, ev_binE, ev_unE, ev_nilA, ev_consA, ev_starA, ev_tupE, ev_newL, ev_lstE, ev_ifE, ev_asB, ev_valT, ev_andT, ev_orT, ev_notT, ev_andE, ev_intD, ev_addI, ev_addT, ev_mulI, ev_mulT, ev_negI, ev_isN, ev_isB, ev_eqI, ev_callE, ev_lenT, ev_intC, ev_listT, ev_two, ev_chainE, ev_lastC, ev_lastT, ev_linkC, ev_linkT, ev_truT, ev_mtE, ev_yesT, ev_all, ev_seqI, ev_rng1, ev_rng2, ev_zip, ev_enum, ev_lcE, ev_lc2E, lc_item, lc_item2, List.map_cons, List.map_nil, List.cons_append, List.nil_append, List.append_nil, List.replicate_succ, List.replicate_zero, Nat.reduceSub, Nat.reduceAdd, List.getElem?_cons_zero, List.getElem?_cons_succ, List.getElem?_nil, List.set_cons_zero, List.set_cons_succ, asg_nm, asg_tp, asgs_nil, asgs_cons, Option.bind_some, List.length_cons, List.length_nil, wipeD, true_and, and_true, if_true, if_false, Bool.false_eq_true, decide_eq_true_eq, Bool.not_true, Bool.not_false, Bool.xor_false, Bool.false_xor, Bool.true_xor, Bool.not_eq_true', decide_eq_false_iff_not, reduceIte]
  exact h _
theorem l11 (h : E.nx ([x0, x1, x2, x3, x4, x5, x6, x7, some badD, x9, x10, x11, x12, x13, x14, x15, x16, x17, x18] : Sl) μ) : Ws E (L11 ([x0, x1, x2, x3, x4, x5, x6, x7, x8, x9, x10, x11, x12, x13, x14, x15, x16, x17, x18] : Sl) μ) := by
  unfold L11
  simp only [ev_ix0, ev_ix1, ev_ix2, ws_seq, ws_next, ws_expr, ws_ret, ws_retN, ws_break, ws_set, ws_asg, ws_if, ws_raise, ws_par, ws_eff, ws_for, ev_varE, ev_cE, ev_binE, ev_unE, ev_nilA, ev_consA, ev_starA, ev_tupE, ev_newL, ev_lstE, ev_ifE, ev_asB, ev_valT, ev_andT, ev_orT, ev_notT, ev_andE, ev_intD, ev_addI, ev_addT, ev_mulI, ev_mulT, ev_negI, ev_isN, ev_isB, ev_eqI, ev_callE, ev_lenT, ev_intC, ev_listT, ev_two, ev_chainE, ev_lastC, ev_lastT, ev_linkC, ev_linkT, ev_truT, ev_mtE, ev_yesT, ev_all, ev_seqI, ev_rng1, ev_rng2, ev_zip, ev_enum, ev_lcE, ev_lc2E, lc_item, lc_item2, List.map_cons, List.map_nil, List.cons_append, List.nil_append, List.append_nil, List.replicate_succ, List.replicate_zero, Nat.reduceSub, Nat.reduceAdd, List.getElem?_cons_zero, List.getElem?_cons_succ, List.getElem?_nil, List.set_cons_zero, List.set_cons_succ, asg_nm, asg_tp, asgs_nil, asgs_cons, Option.bind_some, List.length_cons, List.length_nil, wipeD, true_and, and_true, if_true, if_false, Bool.false_eq_true, decide_eq_true_eq, Bool.not_true, Bool.not_false, Bool.xor_false, Bool.false_xor, Bool.true_xor, Bool.not_eq_true', decide_eq_false_iff_not, reduceIte]
  rw [size_eq]
  exact ⟨by omega, by omega, by omega, h⟩
def sP : D := .str "!program"
def sN : D := .str "!number"
theorem x_ask0 {w : Int} (hw : w = 0 ∨ w = 1 ∨ w = 2) {one two : List Int} (h : ∀ μ', Fr no μ μ' → Q sP μ') : Ev X Q (d_u_law_asked [.int w, badD, iD one, iD two] μ) := by
  rcases hw with rfl | rfl | rfl
  · exact x_asked (c := 6) (.inl rfl) hK6 (fun μ1 => x_first_apart0 fun μ2 f2 => ⟨rfl, f2⟩) h
  · exact x_asked (c := 6) (.inr rfl) hK6 (fun μ1 => x_first_apart0 fun μ2 f2 => ⟨rfl, f2⟩) h
  · exact x_asked2 h
theorem l12 {p : Pg} (hp : PgOk p) (h : ∀ t μ', μ'[t]? = some (.lst [sP, sP, sP, sN, sN]) → E.nx ([x0, x1, some (pD p), some (.int p.ks.length), x4, x5, x6, x7, some badD, some (.mr t), x10, x11, x12, x13, x14, x15, x16, x17, x18] : Sl) μ') : Ws E (L12 ([x0, x1, some (pD p), some (.int p.ks.length), x4, x5, x6, x7, some badD, x9, x10, x11, x12, x13, x14, x15, x16, x17, x18] : Sl) μ) := by
  have zz := size_eq
  unfold L12
  simp only [ws_set, ev_binE]
  refine w_ask (n := 3) (res := [sP, sP, sP]) (d0 := badD) (d1 := iD [99]) (d2 := iD []) rfl (by omega) (fun v μ1 => by simp only [ev_ix0, ev_ix1, ev_ix2, ws_seq, ws_next, ws_expr, ws_ret, ws_retN, ws_break, ws_set, ws_asg, ws_if, ws_raise, ws_par, ws_eff, ws_for, ev_varE, ev_cE, ev_binE, ev_unE, ev_nilA, ev_consA, ev_starA, ev_tupE, ev_newL, ev_lstE, ev_ifE, ev_asB, ev_valT, ev_andT, ev_orT, ev_notT, ev_andE, ev_intD, ev_addI, ev_addT, ev_mulI, ev_mulT, ev_negI, ev_isN, ev_isB, ev_eqI, ev_callE, ev_lenT, ev_intC, ev_listT, ev_two, ev_chainE, ev_lastC, ev_lastT, ev_linkC, ev_linkT, ev_truT, ev_mtE, ev_yesT, ev_all, ev_seqI, ev_rng1, ev_rng2, ev_zip, ev_enum, ev_lcE, ev_lc2E, lc_item, lc_item2, List.map_cons, List.map_nil, List.cons_append, List.nil_append, List.append_nil, List.replicate_succ, List.replicate_zero, Nat.reduceSub, Nat.reduceAdd, List.getElem?_cons_zero, List.getElem?_cons_succ, List.getElem?_nil, List.set_cons_zero, List.set_cons_succ, asg_nm, asg_tp, asgs_nil, asgs_cons, Option.bind_some, List.length_cons, List.length_nil, wipeD, true_and, and_true, if_true, if_false, Bool.false_eq_true, decide_eq_true_eq, Bool.not_true, Bool.not_false, Bool.xor_false, Bool.false_xor, Bool.true_xor, Bool.not_eq_true', decide_eq_false_iff_not, reduceIte]; exact ⟨by omega, by omega, rfl⟩) rfl (fun i r hi μ1 Q' hq => ?_) fun r μ1 f1 rl rg g1 => ?_
  · have : r = sP ∧ i < 3 := by
      match i, hi with
      | 0, hi => exact ⟨by simpa using hi.symm, by omega⟩
      | 1, hi => exact ⟨by simpa using hi.symm, by omega⟩
      | 2, hi => exact ⟨by simpa using hi.symm, by omega⟩
      | i + 3, hi => simp at hi
    obtain ⟨rfl, il⟩ := this
    exact x_ask0 (by omega) hq
  · refine w_ask (n := 2) (res := [sN, sN]) (d0 := pD p) (d1 := iD [(p.ks.length : Int)]) (d2 := iD [99]) rfl (by omega) (fun v μ1 => by simp only [ev_ix0, ev_ix1, ev_ix2, ws_seq, ws_next, ws_expr, ws_ret, ws_retN, ws_break, ws_set, ws_asg, ws_if, ws_raise, ws_par, ws_eff, ws_for, ev_varE, ev_cE, ev_binE, ev_unE, ev_nilA, ev_consA, ev_starA, ev_tupE, ev_newL, ev_lstE, ev_ifE, ev_asB, ev_valT, ev_andT, ev_orT, ev_notT, ev_andE, ev_intD, ev_addI, ev_addT, ev_mulI, ev_mulT, ev_negI, ev_isN, ev_isB, ev_eqI, ev_callE, ev_lenT, ev_intC, ev_listT, ev_two, ev_chainE, ev_lastC, ev_lastT, ev_linkC, ev_linkT, ev_truT, ev_mtE, ev_yesT, ev_all, ev_seqI, ev_rng1, ev_rng2, ev_zip, ev_enum, ev_lcE, ev_lc2E, lc_item, lc_item2, List.map_cons, List.map_nil, List.cons_append, List.nil_append, List.append_nil, List.replicate_succ, List.replicate_zero, Nat.reduceSub, Nat.reduceAdd, List.getElem?_cons_zero, List.getElem?_cons_succ, List.getElem?_nil, List.set_cons_zero, List.set_cons_succ, asg_nm, asg_tp, asgs_nil, asgs_cons, Option.bind_some, List.length_cons, List.length_nil, wipeD, true_and, and_true, if_true, if_false, Bool.false_eq_true, decide_eq_true_eq, Bool.not_true, Bool.not_false, Bool.xor_false, Bool.false_xor, Bool.true_xor, Bool.not_eq_true', decide_eq_false_iff_not, reduceIte]; exact ⟨by omega, by omega, rfl⟩) rfl (fun i r hi μ1 Q' hq => ?_) fun r2 μ2 f2 rl2 rg2 g2 => ?_
    · have : r = sN ∧ i < 2 := by
        match i, hi with
        | 0, hi => exact ⟨by simpa using hi.symm, by omega⟩
        | 1, hi => exact ⟨by simpa using hi.symm, by omega⟩
        | i + 2, hi => simp at hi
      obtain ⟨rfl, il⟩ := this
      have bad : rowB p [(p.ks.length : Int)] = false := by
        cases hb : rowB p [(p.ks.length : Int)] with
        | false => rfl
        | true => have := rowB_iff.mp hb p.ks.length (by simp); omega
      exact x_asked (c := 8) (by omega) hK8 (fun μ3 => x_first_apart1 hp (by show (1 : Nat) ≤ 1000; omega) bad fun μ4 f4 => ⟨rfl, f4⟩) hq
    · rw [ev_addL (f2.get g1) g2]
      refine ⟨by show 3 + 2 ≤ _; omega, ?_⟩
      exact h _ _ get_new
theorem views_S (n : Nat) : ∀ ss : List Str, views μ n (ss.map .str) = some (ss.map .str)
  | [] => by simp only [List.map_nil, views]
  | x :: l => by
    rw [List.map_cons, views, views_S n l]
    cases n <;> simp [view]
def told : List Str := ["!program", "!program", "!program", "!number", "!number", "!number", "!number"]
theorem view_S {r : Nat} (h : μ[r]? = some (.lst [sP, sP, sP, sN, sN, sN, sN])) : view μ 8 (.mr r) = some (.list (told.map .str)) := by
  have h' : μ[r]? = some (.lst (told.map .str)) := h
  rw [view, h']
  simp only [views_S]
  rfl
theorem told_ok : SeqAt.shaped (.list (told.map .str)) = true := by decide +kernel
theorem told_eq : PyData.eqv (.list (told.map .str)) (.list (told.map .str)) = true := by decide +kernel
theorem eqD_of {neg : Bool} {x y : D} {p q : PyData} (h1 : view μ 8 x = some p) (h2 : view μ 8 y = some q) (s1 : SeqAt.shaped p = true) (s2 : SeqAt.shaped q = true) (h : Q (.bl (xor neg (PyData.eqv p q))) μ) : Ev X Q (eqD neg x y μ) := (ev_eqD h1 h2 s1 s2).symm ▸ h
theorem l13 {p : Pg} (hp : PgOk p) {t : Nat} (ht : μ[t]? = some (.lst [sP, sP, sP, sN, sN])) (h : ∀ μ', E.rt (.bl true) μ') : Ws E (L13 ([x0, x1, some (pD p), x3, x4, x5, x6, x7, x8, some (.mr t), x10, x11, x12, x13, x14, x15, x16, x17, x18] : Sl) μ) := by
  have zz := size_eq
  have nk := hp.nk1
  unfold L13
  simp only [ws_ret, ev_binE, ev_varE, List.getElem?_cons_zero, List.getElem?_cons_succ]
  refine w_ask (n := 2) (res := [sN, sN]) (d0 := pD p) (d1 := iD [0]) (d2 := iD [0, -1]) rfl (by omega) (fun v μ1 => by simp only [ev_ix0, ev_ix1, ev_ix2, ws_seq, ws_next, ws_expr, ws_ret, ws_retN, ws_break, ws_set, ws_asg, ws_if, ws_raise, ws_par, ws_eff, ws_for, ev_varE, ev_cE, ev_binE, ev_unE, ev_nilA, ev_consA, ev_starA, ev_tupE, ev_newL, ev_lstE, ev_ifE, ev_asB, ev_valT, ev_andT, ev_orT, ev_notT, ev_andE, ev_intD, ev_addI, ev_addT, ev_mulI, ev_mulT, ev_negI, ev_isN, ev_isB, ev_eqI, ev_callE, ev_lenT, ev_intC, ev_listT, ev_two, ev_chainE, ev_lastC, ev_lastT, ev_linkC, ev_linkT, ev_truT, ev_mtE, ev_yesT, ev_all, ev_seqI, ev_rng1, ev_rng2, ev_zip, ev_enum, ev_lcE, ev_lc2E, lc_item, lc_item2, List.map_cons, List.map_nil, List.cons_append, List.nil_append, List.append_nil, List.replicate_succ, List.replicate_zero, Nat.reduceSub, Nat.reduceAdd, List.getElem?_cons_zero, List.getElem?_cons_succ, List.getElem?_nil, List.set_cons_zero, List.set_cons_succ, asg_nm, asg_tp, asgs_nil, asgs_cons, Option.bind_some, List.length_cons, List.length_nil, wipeD, true_and, and_true, if_true, if_false, Bool.false_eq_true, decide_eq_true_eq, Bool.not_true, Bool.not_false, Bool.xor_false, Bool.false_xor, Bool.true_xor, Bool.not_eq_true', decide_eq_false_iff_not, reduceIte]; exact ⟨by omega, by omega, rfl⟩) rfl (fun i r hi μ1 Q' hq => ?_) fun r2 μ2 f2 rl2 rg2 g2 => ?_
  · have : r = sN ∧ i < 2 := by
      match i, hi with
      | 0, hi => exact ⟨by simpa using hi.symm, by omega⟩
      | 1, hi => exact ⟨by simpa using hi.symm, by omega⟩
      | i + 2, hi => simp at hi
    obtain ⟨rfl, il⟩ := this
    have good : rowB p [0] = true := rowB_iff.mpr fun i hi => by
      have : i = 0 := by simpa using hi
      omega
    have bad : rowB p [0, -1] = false := by
      cases hb : rowB p [0, -1] with
      | false => rfl
      | true => have := rowB_iff.mp hb (-1) (by simp); omega
    exact x_asked (c := 8) (by omega) hK8 (fun μ3 => x_first_apart2 hp (by decide) (by decide) good bad fun μ4 f4 => ⟨rfl, f4⟩) hq
  · rw [ev_addL (f2.get ht) g2]
    refine ⟨by show 5 + 2 ≤ _; omega, ?_⟩
    generalize hA : μ2 ++ [Cell.lst ([sP, sP, sP, sN, sN] ++ [sN, sN])] = μ3
    have gA : μ3[μ2.length]? = some (.lst [sP, sP, sP, sN, sN, sN, sN]) := by rw [← hA]; exact get_new
    simp only [ev_ix0, ev_ix1, ev_ix2, ws_seq, ws_next, ws_expr, ws_ret, ws_retN, ws_break, ws_set, ws_asg, ws_if, ws_raise, ws_par, ws_eff, ws_for, ev_varE, ev_cE, ev_binE, ev_unE, ev_nilA, ev_consA, ev_starA, ev_tupE, ev_newL, ev_lstE, ev_ifE, ev_asB, ev_valT, ev_andT, ev_orT, ev_notT, ev_andE, ev_intD, ev_addI, ev_addT, ev_mulI, ev_mulT, ev_negI, ev_isN, ev_isB, ev_eqI, ev_callE, ev_lenT, ev_intC, ev_listT, ev_two, ev_chainE, ev_lastC, ev_lastT, ev_linkC, ev_linkT, ev_truT, ev_mtE, ev_yesT, ev_all, ev_seqI, ev_rng1, ev_rng2, ev_zip, ev_enum, ev_lcE, ev_lc2E, lc_item, lc_item2, List.map_cons, List.map_nil, List.cons_append, List.nil_append, List.append_nil, List.replicate_succ, List.replicate_zero, Nat.reduceSub, Nat.reduceAdd, List.getElem?_cons_zero, List.getElem?_cons_succ, List.getElem?_nil, List.set_cons_zero, List.set_cons_succ, asg_nm, asg_tp, asgs_nil, asgs_cons, Option.bind_some, List.length_cons, List.length_nil, wipeD, true_and, and_true, if_true, if_false, Bool.false_eq_true, decide_eq_true_eq, Bool.not_true, Bool.not_false, Bool.xor_false, Bool.false_xor, Bool.true_xor, Bool.not_eq_true', decide_eq_false_iff_not, reduceIte]
    refine ⟨by omega, ?_⟩
    rw [ev_mulL get_new]
    refine ⟨⟨by omega, by omega, by show 1 * 3 ≤ _; omega⟩, ?_⟩
    generalize hB : μ3 ++ [Cell.lst [D.str "!program"]] = μ4
    have gB : μ4[μ2.length]? = some (.lst [sP, sP, sP, sN, sN, sN, sN]) := by rw [← hB]; exact get_old gA
    refine ⟨by omega, ?_⟩
    rw [ev_mulL get_new]
    refine ⟨⟨by omega, by omega, by show 1 * 4 ≤ _; omega⟩, ?_⟩
    have gP : (μ4 ++ [Cell.lst (List.replicate (Int.toNat 3) [D.str "!program"]).flatten])[μ4.length]? = some (.lst [sP, sP, sP]) := get_new
    rw [ev_addL (get_old (get_old gP)) get_new]
    refine ⟨by show 3 + 4 ≤ _; omega, ?_⟩
    refine eqD_of (view_S (get_old (get_old (get_old (get_old gB))))) (view_S (show _ = some (.lst [sP, sP, sP, sN, sN, sN, sN]) from get_new)) told_ok told_ok ?_
    rw [told_eq]
    exact h _
end
end K69
end TPLJ

section TPLK
set_option maxRecDepth 100000
set_option maxHeartbeats 4000000
namespace K69
open PySem L2 PySem.Spec PyProof.Rows DL
section
variable {μ : Mu} {E : En} {b : Nat} {x0 x1 x2 x3 x4 x5 x6 x7 x8 x9 x10 x11 x12 x13 x14 x15 x16 x17 x18 : Option D}
theorem m4 {p : Pg} {d0 : D} (h0 : d0 = pD p) (h : ∀ d3, d3 = .int p.ks.length → E.nx ([x0, x1, some d0, some d3, x4, x5, x6, x7, x8, x9, x10, x11, x12, x13, x14, x15, x16, x17, x18] : Sl) μ) : Ws E (L4 ([x0, x1, some d0, x3, x4, x5, x6, x7, x8, x9, x10, x11, x12, x13, x14, x15, x16, x17, x18] : Sl) μ) := by
  subst h0
  replace h := h _ rfl
  unfold L4 pD at *
  simp only [List.length_map, ev_ix0, ev_ix1, ev_ix2, ws_seq, ws_next, ws_expr, ws_ret, ws_retN, ws_break, ws_set, ws_asg, ws_if, ws_raise, ws_par, ws_eff, ws_for, ev_varE, ev_cE, ev_binE, ev_unE, ev_nilA, ev_consA, ev_starA, ev_tupE, ev_newL, ev_lstE, ev_ifE, ev_asB, ev_valT, ev_andT, ev_orT, ev_notT, ev_andE, ev_intD, ev_addI, ev_addT, ev_mulI, ev_mulT, ev_negI, ev_isN, ev_isB, ev_eqI, ev_callE, ev_lenT, ev_intC, ev_listT, ev_two, ev_chainE, ev_lastC, ev_lastT, ev_linkC, ev_linkT, ev_truT, ev_mtE, ev_yesT, ev_all, ev_seqI, ev_rng1, ev_rng2, ev_zip, ev_enum, ev_lcE, ev_lc2E, lc_item, lc_item2, List.map_cons, List.map_nil, List.cons_append, List.nil_append, List.append_nil, List.replicate_succ, List.replicate_zero, Nat.reduceSub, Nat.reduceAdd, List.getElem?_cons_zero, List.getElem?_cons_succ, List.getElem?_nil, List.set_cons_zero, List.set_cons_succ, asg_nm, asg_tp, asgs_nil, asgs_cons, Option.bind_some, List.length_cons, List.length_nil, wipeD, true_and, and_true, if_true, if_false, Bool.false_eq_true, decide_eq_true_eq, Bool.not_true, Bool.not_false, Bool.xor_false, Bool.false_xor, Bool.true_xor, Bool.not_eq_true', decide_eq_false_iff_not, reduceIte]
  exact h
theorem m8 {k : Nat} {p : Pg} {d0 : D} (h0 : d0 = pD p) (hp : PgOk p) (hd : Dr b μ k) (h : ∀ y6 y10 y11 y12 y13 y14 y15 y16 μ', Dr b μ' k → E.nx ([x0, some (.mr k), some d0, x3, x4, x5, y6, x7, x8, x9, y10, y11, y12, y13, y14, y15, y16, x17, x18] : Sl) μ') : Ws E (L8 ([x0, some (.mr k), some d0, x3, x4, x5, x6, x7, x8, x9, x10, x11, x12, x13, x14, x15, x16, x17, x18] : Sl) μ) := by
  subst h0; exact l8 hp hd h
theorem m9 (h : ∀ pa d1 μ', pa = acc → d1 = pD pa → E.nx ([x0, x1, x2, x3, x4, x5, x6, some d1, x8, x9, x10, x11, x12, x13, x14, x15, x16, x17, x18] : Sl) μ') : Ws E (L9 ([x0, x1, x2, x3, x4, x5, x6, x7, x8, x9, x10, x11, x12, x13, x14, x15, x16, x17, x18] : Sl) μ) := l9 fun pa μ' ha => h pa _ μ' ha rfl
theorem m10 {pa : Pg} {d1 : D} (ha : pa = acc) (h1 : d1 = pD pa) (h : ∀ μ', E.nx ([x0, x1, x2, x3, x4, x5, x6, some d1, x8, x9, x10, x11, x12, x13, x14, x15, x16, x17, x18] : Sl) μ') : Ws E (L10 ([x0, x1, x2, x3, x4, x5, x6, some d1, x8, x9, x10, x11, x12, x13, x14, x15, x16, x17, x18] : Sl) μ) := by
  subst h1; exact l10 ha h
theorem m11 (h : ∀ d2, d2 = badD → E.nx ([x0, x1, x2, x3, x4, x5, x6, x7, some d2, x9, x10, x11, x12, x13, x14, x15, x16, x17, x18] : Sl) μ) : Ws E (L11 ([x0, x1, x2, x3, x4, x5, x6, x7, x8, x9, x10, x11, x12, x13, x14, x15, x16, x17, x18] : Sl) μ) := l11 (h _ rfl)
theorem m12 {p : Pg} {d0 d2 d3 : D} (h0 : d0 = pD p) (h2 : d2 = badD) (h3 : d3 = .int p.ks.length) (hp : PgOk p) (h : ∀ t μ', μ'[t]? = some (.lst [sP, sP, sP, sN, sN]) → E.nx ([x0, x1, some d0, some d3, x4, x5, x6, x7, some d2, some (.mr t), x10, x11, x12, x13, x14, x15, x16, x17, x18] : Sl) μ') : Ws E (L12 ([x0, x1, some d0, some d3, x4, x5, x6, x7, some d2, x9, x10, x11, x12, x13, x14, x15, x16, x17, x18] : Sl) μ) := by
  subst h0 h2 h3; exact l12 hp h
theorem m13 {p : Pg} {d0 : D} (h0 : d0 = pD p) (hp : PgOk p) {t : Nat} (ht : μ[t]? = some (.lst [sP, sP, sP, sN, sN])) (h : ∀ μ', E.rt (.bl true) μ') : Ws E (L13 ([x0, x1, some d0, x3, x4, x5, x6, x7, x8, some (.mr t), x10, x11, x12, x13, x14, x15, x16, x17, x18] : Sl) μ) := by
  subst h0; exact l13 hp ht h
theorem m3 {k : Nat} (hd : Dr b μ k) (h : ∀ p d0 μ', PgOk p → d0 = pD p → Dr b μ' k → E.nx ([x0, some (.mr k), some d0, x3, x4, x5, x6, x7, x8, x9, x10, x11, x12, x13, x14, x15, x16, x17, x18] : Sl) μ') : Ws E (L3 ([x0, some (.mr k), x2, x3, x4, x5, x6, x7, x8, x9, x10, x11, x12, x13, x14, x15, x16, x17, x18] : Sl) μ) := l3 hd fun p μ' hp d => h p _ μ' hp rfl d
end
theorem law_true (ns : List Int) (hl : ns.length ≤ 63) : Ev nX (fun d _ => d = .bl true) (d_law [.li (ns.map D.int)] []) := by
  refine den_of rfl ?_
  rw [b_law_eq]
  show Ws _ (seqS L1 _ ([some (.li (ns.map .int)), none, none, none, none, none, none, none, none, none, none, none, none, none, none, none, none, none, none] : Sl) [])
  refine seq_of (l1 hl fun r1 μ1 d1 => ?_)
  refine seq_of (l2 d1 fun k μ2 d2 => ?_)
  refine seq_of (m3 d2 fun p d0 μ3 hp h0 d3 => ?_)
  refine seq_of (m4 h0 fun d3' h3 => ?_)
  refine seq_of (l5 ?_)
  have kl := d3.lt
  refine seq_of (l6 h0 h3 hp (d3.new _) get_new (by omega) fun y5 μ6 d6 u6 => ?_)
  refine seq_of (l7 hp h0 d6 u6 fun μ7 d7 => ?_)
  refine seq_of (m8 h0 hp d7 fun y6 y10 y11 y12 y13 y14 y15 y16 μ8 d8 => ?_)
  refine seq_of (m9 fun pa d1 μ9 ha h1 => ?_)
  refine seq_of (m10 ha h1 fun μ10 => ?_)
  refine seq_of (m11 fun d2 h2 => ?_)
  refine seq_of (m12 h0 h2 h3 hp fun t μ12 ht => ?_)
  exact m13 h0 hp ht fun μ13 => rfl
theorem plain_law (ns : List Int) (hl : ns.length ≤ 63) : ∃ μ, d_law [.li (ns.map D.int)] [] = .ok (.bl true) μ := by
  have h := law_true ns hl
  cases e : d_law [.li (ns.map D.int)] [] with
  | ok d μ =>
    rw [e] at h
    have h' : d = .bl true := h
    exact ⟨μ, by rw [h']⟩
  | xc c μ => rw [e] at h; exact h.elim
  | stk => rw [e] at h; exact h.elim
end K69
end TPLK

section TP69Z
open PySem PySem.W PyProof.Rows in
set_option maxRecDepth 100000 in
set_option maxHeartbeats 0 in
theorem PySem.Challenge.cw_hoursheld_k69_rows_that_are_the_same_holds : PySem.Challenge.rw_hoursheld_k69_rows_that_are_the_same.Holds := by
  w_on; o_law; k_head; (case hw => w_witness2)
  k_fill
  refine K69.walk69 K69.plain_law (l := PySem.Challenge.rw_hoursheld_k69_rows_that_are_the_same) rfl rfl (fun w h Y => PySem.W.kIn_of Y) ?F
  case F =>
    intro w mg fa h KX G hmg
    refine' K69.all_mk KX G hmg ?e0 ?e1 ?e2 ?e3 ?e4 ?e5 ?e6 ?e7 ?e8 ?e9 ?e10 ?e11 ?e12 ?l12 ?c12 ?k12 ?e13 ?l13 ?c13 ?k13 ?e14 ?l14 ?c14 ?k14 ?e15 ?l15 ?c15 ?k15 ?e16 ?l16 ?c16 ?k16 ?e17 ?l17 ?c17 ?k17 ?e18 ?l18 ?c18 ?k18 ?e19 ?l19 ?c19 ?k19 ?e20 ?l20 ?c20 ?k20 ?e21 ?l21 ?c21 ?k21 ?e22 ?l22 ?c22 ?k22 ?e23 ?i23 ?l23 ?c23 ?k23 ?e24 ?i24 ?l24 ?c24 ?k24 ?e25 ?i25 ?l25 ?c25 ?k25 ?e26 ?i26 ?l26 ?c26 ?k26 ?e27 ?l27 ?c27 ?k27 ?e28 ?l28 ?c28 ?k28 ?e29 ?l29 ?c29 ?k29 ?e30 ?l30 ?c30 ?k30 ?e31 ?l31 ?c31 ?k31 ?e32 ?l32 ?c32 ?k32 ?e33 ?l33 ?c33 ?k33 ?e34 ?l34 ?c34 ?k34 ?e35 ?l35 ?c35 ?k35 ?e36 ?l36 ?c36 ?k36 ?e37 ?l37 ?c37 ?k37 ?e38 ?l38 ?c38 ?k38 ?e39 ?l39 ?c39 ?k39 ?e40 ?l40 ?c40 ?k40 ?e41 ?l41 ?c41 ?k41 ?e42 ?l42 ?c42 ?k42 ?e43 ?l43 ?c43 ?k43 ?e44 ?l44 ?c44 ?k44 ?e45 ?l45 ?c45 ?k45 ?e46 ?l46 ?c46 ?k46 ?e47 ?l47 ?c47 ?k47 ?pg11 ?hd11 ?po11 ?sa11 ?mk11 ?kc11 ?n_Books_level ?n_Books_pay ?n_Books_registers ?b_all ?b_enumerate ?b_int ?b_len ?b_list ?b_max ?b_min ?b_range ?b_repr ?b_tuple ?b_zip ?b_isinstance ?g_MOST_AMOUNT ?g_MOST_BOUND ?g_MOST_ENTRIES ?g_MOST_FACTOR ?g_MOST_KINDS ?g_MOST_LEVELS ?g_MOST_PURSES ?g_MOST_REGISTERS ?g_NOWHERE ?x8 ?q8 ?s8 ?ty8 ?x6 ?q6 ?s6 ?ty6 ?xg6 ?xk6 ?xd6 ?xa6 ?xm6 ?xg8 ?xk8 ?xd8 ?xa8 ?xm8 ?xn ?xt ?sb0 ?ic0 ?tc0 ?u6_0 ?u8_0 ?ic1 ?tc1 ?u6_1 ?u8_1 ?ic2 ?tc2 ?u6_2 ?u8_2 ?ic3 ?tc3 ?u6_3 ?u8_3 ?ic4 ?tc4 ?u6_4 ?u8_4 ?ic5 ?tc5 ?u6_5 ?u8_5 ?ic6 ?tc6 ?u6_6 ?u8_6 ?ic7 ?tc7 ?u6_7 ?u8_7 ?ic8 ?tc8 ?u6_8 ?u8_8 ?ic9 ?tc9 ?u6_9 ?u8_9 ?ic10 ?tc10 ?u6_10 ?u8_10
    (case e0 => k_is)
    (case e1 => k_is)
    (case e2 => k_is)
    (case e3 => k_is)
    (case e4 => k_is)
    (case e5 => k_is)
    (case e6 => k_is)
    (case e7 => k_is)
    (case e8 => k_is)
    (case e9 => k_is)
    (case e10 => k_is)
    (case e11 => k_is)
    (case e12 => k_is)
    (case l12 => k_is)
    (case c12 => k_is)
    (case k12 => k_is)
    (case e13 => k_is)
    (case l13 => k_is)
    (case c13 => k_is)
    (case k13 => k_is)
    (case e14 => k_is)
    (case l14 => k_is)
    (case c14 => k_is)
    (case k14 => k_is)
    (case e15 => k_is)
    (case l15 => k_is)
    (case c15 => k_is)
    (case k15 => k_is)
    (case e16 => k_is)
    (case l16 => k_is)
    (case c16 => k_is)
    (case k16 => k_is)
    (case e17 => k_is)
    (case l17 => k_is)
    (case c17 => k_is)
    (case k17 => k_is)
    (case e18 => k_is)
    (case l18 => k_is)
    (case c18 => k_is)
    (case k18 => k_is)
    (case e19 => k_is)
    (case l19 => k_is)
    (case c19 => k_is)
    (case k19 => k_is)
    (case e20 => k_is)
    (case l20 => k_is)
    (case c20 => k_is)
    (case k20 => k_is)
    (case e21 => k_is)
    (case l21 => k_is)
    (case c21 => k_is)
    (case k21 => k_is)
    (case e22 => k_is)
    (case l22 => k_is)
    (case c22 => k_is)
    (case k22 => k_is)
    (case e23 => k_is)
    (case i23 => k_is)
    (case l23 => k_is)
    (case c23 => k_is)
    (case k23 => k_is)
    (case e24 => k_is)
    (case i24 => k_is)
    (case l24 => k_is)
    (case c24 => k_is)
    (case k24 => k_is)
    (case e25 => k_is)
    (case i25 => k_is)
    (case l25 => k_is)
    (case c25 => k_is)
    (case k25 => k_is)
    (case e26 => k_is)
    (case i26 => k_is)
    (case l26 => k_is)
    (case c26 => k_is)
    (case k26 => k_is)
    (case e27 => k_is)
    (case l27 => k_is)
    (case c27 => k_is)
    (case k27 => k_is)
    (case e28 => k_is)
    (case l28 => k_is)
    (case c28 => k_is)
    (case k28 => k_is)
    (case e29 => k_is)
    (case l29 => k_is)
    (case c29 => k_is)
    (case k29 => k_is)
    (case e30 => k_is)
    (case l30 => k_is)
    (case c30 => k_is)
    (case k30 => k_is)
    (case e31 => k_is)
    (case l31 => k_is)
    (case c31 => k_is)
    (case k31 => k_is)
    (case e32 => k_is)
    (case l32 => k_is)
    (case c32 => k_is)
    (case k32 => k_is)
    (case e33 => k_is)
    (case l33 => k_is)
    (case c33 => k_is)
    (case k33 => k_is)
    (case e34 => k_is)
    (case l34 => k_is)
    (case c34 => k_is)
    (case k34 => k_is)
    (case e35 => k_is)
    (case l35 => k_is)
    (case c35 => k_is)
    (case k35 => k_is)
    (case e36 => k_is)
    (case l36 => k_is)
    (case c36 => k_is)
    (case k36 => k_is)
    (case e37 => k_is)
    (case l37 => k_is)
    (case c37 => k_is)
    (case k37 => k_is)
    (case e38 => k_is)
    (case l38 => k_is)
    (case c38 => k_is)
    (case k38 => k_is)
    (case e39 => k_is)
    (case l39 => k_is)
    (case c39 => k_is)
    (case k39 => k_is)
    (case e40 => k_is)
    (case l40 => k_is)
    (case c40 => k_is)
    (case k40 => k_is)
    (case e41 => k_is)
    (case l41 => k_is)
    (case c41 => k_is)
    (case k41 => k_is)
    (case e42 => k_is)
    (case l42 => k_is)
    (case c42 => k_is)
    (case k42 => k_is)
    (case e43 => k_is)
    (case l43 => k_is)
    (case c43 => k_is)
    (case k43 => k_is)
    (case e44 => k_is)
    (case l44 => k_is)
    (case c44 => k_is)
    (case k44 => k_is)
    (case e45 => k_is)
    (case l45 => k_is)
    (case c45 => k_is)
    (case k45 => k_is)
    (case e46 => k_is)
    (case l46 => k_is)
    (case c46 => k_is)
    (case k46 => k_is)
    (case e47 => k_is)
    (case l47 => k_is)
    (case c47 => k_is)
    (case k47 => k_is)
    (case pg11 => k_is)
    (case hd11 => k_is)
    (case po11 => k_is)
    (case sa11 => k_is)
    (case mk11 => k_is)
    (case kc11 => k_is)
    (case n_Books_level => k_is)
    (case n_Books_pay => k_is)
    (case n_Books_registers => k_is)
    (case b_all => k_is)
    (case b_enumerate => k_is)
    (case b_int => k_is)
    (case b_len => k_is)
    (case b_list => k_is)
    (case b_max => k_is)
    (case b_min => k_is)
    (case b_range => k_is)
    (case b_repr => k_is)
    (case b_tuple => k_is)
    (case b_zip => k_is)
    (case b_isinstance => k_is)
    (case g_MOST_AMOUNT => k_is)
    (case g_MOST_BOUND => k_is)
    (case g_MOST_ENTRIES => k_is)
    (case g_MOST_FACTOR => k_is)
    (case g_MOST_KINDS => k_is)
    (case g_MOST_LEVELS => k_is)
    (case g_MOST_PURSES => k_is)
    (case g_MOST_REGISTERS => k_is)
    (case g_NOWHERE => k_is)
    (case x8 => k_exc)
    (case q8 => k_is)
    (case s8 => k_is)
    (case ty8 => k_is)
    (case x6 => k_exc)
    (case q6 => k_is)
    (case s6 => k_is)
    (case ty6 => k_is)
    (case xg6 => k_is)
    (case xk6 => k_is)
    (case xd6 => k_is)
    (case xa6 => k_is)
    (case xm6 => k_is)
    (case xg8 => k_is)
    (case xk8 => k_is)
    (case xd8 => k_is)
    (case xa8 => k_is)
    (case xm8 => k_is)
    (case xn => k_is)
    (case xt => k_is)
    (case sb0 => k_is)
    (case ic0 => k_is)
    (case tc0 => k_is)
    (case u6_0 => k_is)
    (case u8_0 => k_is)
    (case ic1 => k_is)
    (case tc1 => k_is)
    (case u6_1 => k_is)
    (case u8_1 => k_is)
    (case ic2 => k_is)
    (case tc2 => k_is)
    (case u6_2 => k_is)
    (case u8_2 => k_is)
    (case ic3 => k_is)
    (case tc3 => k_is)
    (case u6_3 => k_is)
    (case u8_3 => k_is)
    (case ic4 => k_is)
    (case tc4 => k_is)
    (case u6_4 => k_is)
    (case u8_4 => k_is)
    (case ic5 => k_is)
    (case tc5 => k_is)
    (case u6_5 => k_is)
    (case u8_5 => k_is)
    (case ic6 => k_is)
    (case tc6 => k_is)
    (case u6_6 => k_is)
    (case u8_6 => k_is)
    (case ic7 => k_is)
    (case tc7 => k_is)
    (case u6_7 => k_is)
    (case u8_7 => k_is)
    (case ic8 => k_is)
    (case tc8 => k_is)
    (case u6_8 => k_is)
    (case u8_8 => k_is)
    (case ic9 => k_is)
    (case tc9 => k_is)
    (case u6_9 => k_is)
    (case u8_9 => k_is)
    (case ic10 => k_is)
    (case tc10 => k_is)
    (case u6_10 => k_is)
    (case u8_10 => k_is)
#print axioms PySem.Challenge.cw_hoursheld_k69_rows_that_are_the_same_holds
end TP69Z
