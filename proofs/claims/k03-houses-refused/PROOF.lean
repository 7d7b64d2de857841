import PyProof.Rows.All
import Wide.All
import OpenK.AllK
import Wide.FinOn
import HandS.ForMost
import HandS.ForExc
import HandS.Lambda
import HandS.TupAny
import HandS.TupMul
import HandS.Flow
import HandS.IsInst
import HandS.Deep
import HandS.Zip
import HandS.DictComp
import HandS.Style
import HandS.Conv
import HandS.Defaults
import HandS.Small
import HandS.NoneIn
import HandS.More
import HandS.TryOnly
import KE.GoesEnum
import HandS.ExcOwn
import HandS.HeadHook4
import HandS.Star
import HandS.Strs
import HandS.ExcInit
import HandS.ExcField
import HandS.WordsExc
import KE.KDictZip
import HandS.Sort
import HandS.HeadWalk
import HandS.HeadHook3
import HandS.EndBits
import HandS.Head0
import HandS.Head1
import HandS.Head2
import HandS.SlotsOwn
import HandS.TryMany
import HandS.ExcIs
import KE.KTupSum
import PyProof.TupleOfStr
import HandS.HeadEnd
import HandS.HeadHook1
import HandS.HeadHook2
import PySem.Challenge.RW_alloutby_k03_houses_refused
set_option Elab.async false
set_option linter.all false
set_option maxRecDepth 100000
set_option maxHeartbeats 4000000
/-! V1: values as trees over the layer: data D, cells G, how both lie in the tracked heap; readings lifted. -/
namespace V3
open PySem PySem.Spec L2

/-- a value as a tree: what never changes is told whole; what changes is a cell, told by its address -/
inductive D where
  | non | bl (b : Bool) | int (i : Int) | str (x : Str) | ty (n : String)
  | tup (xs : List D) | tuf (xs : List D) | lst (xs : List D) | rol (xs : List D)
  | dk (kvs : List (Key × D)) | dt (kvs : List (List Key × D))
  | obj (c : Nat) (fs : List (Nat × D))
  | ref (a : Addr)

/-- a cell -/
inductive GO where
  | lst (xs : List D) | dk (kvs : List (Key × D)) | dt (kvs : List (List Key × D)) | ins (c : Nat) (fs : List (Nat × D))

abbrev Gp := Addr → Option GO
def gset (G : Gp) (a : Addr) (g : GO) : Gp := fun b => if b = a then some g else G b
def gdel (G : Gp) (a : Addr) : Gp := fun b => if b = a then none else G b
@[simp] theorem gset_same {G : Gp} {a : Addr} {g : GO} : gset G a g a = some g := by simp [gset]
theorem gset_ne {G : Gp} {a b : Addr} {g : GO} (h : b ≠ a) : gset G a g b = G b := by simp [gset, h]
@[simp] theorem gset_gset {G : Gp} {a : Addr} {g g' : GO} : gset (gset G a g) a g' = gset G a g' := by
  funext b; unfold gset; split <;> rfl
theorem gdel_gset {G : Gp} {a : Addr} {g : GO} (h : G a = none) : gdel (gset G a g) a = G := by
  funext b
  unfold gdel gset
  by_cases e : b = a
  · rw [if_pos e, e, h]
  · rw [if_neg e, if_neg e]

/-- the constants of a text: the written part, classes and attributes by number -/
structure Cb where
  K : PySem.W.Frag
  cls : Nat → Addr
  att : Nat → Str
  T : List (Addr × Str)
/-- .. with what stands for sure: P0 -/
structure Cn extends Cb where
  P0 : Hp
instance : CoeOut Cn Cb := ⟨Cn.toCb⟩
def Cn.b0 (C : Cn) : Cn := ⟨C.toCb, fun _ => none⟩

/-! ### how a tree lies in the heap -/
mutual
inductive Rv (C : Cb) (P : Hp) : D → V → Prop
  | non : Rv C P .non .non
  | bl (b : Bool) : Rv C P (.bl b) (.bl b)
  | int (i : Int) : Rv C P (.int i) (.int i)
  | str (x : Str) : Rv C P (.str x) (.str x)
  | ty (n : String) : Rv C P (.ty n) (.ty n)
  | tup {a : Addr} {ds : List D} {vs : List V} : P a = some (.tup vs) → Rvs C P ds vs → Rv C P (.tup ds) (.ref a)
  | tuf {a : Addr} {o : Obj} {ds : List D} {vs : List V} : o.dict = none → P a = some (.frz o (.tup vs)) → Rvs C P ds vs → Rv C P (.tuf ds) (.ref a)
  | lst {a : Addr} {ds : List D} {vs : List V} : P a = some (.lst vs) → Rvs C P ds vs → Rv C P (.lst ds) (.ref a)
  | rol {a : Addr} {ds : List D} {vs : List V} : SqL C.K P a vs → Rvs C P ds vs → Rv C P (.rol ds) (.ref a)
  | dk {a : Addr} {ds : List (Key × D)} {vs : List (Key × V)} : P a = some (.dK vs) → Rvk C P ds vs → Rv C P (.dk ds) (.ref a)
  | dt {a : Addr} {ds : List (List Key × D)} {vs : List (List Key × V)} : P a = some (.dT vs) → Rvt C P ds vs → Rv C P (.dt ds) (.ref a)
  | obj {a dx : Addr} {c : Nat} {ds : List (Nat × D)} {vs : List (Str × V)} : P a = some (.ins (C.cls c) dx vs) → Rvf C P ds vs → Rv C P (.obj c ds) (.ref a)
  | ref (a : Addr) : Rv C P (.ref a) (.ref a)
inductive Rvs (C : Cb) (P : Hp) : List D → List V → Prop
  | nil : Rvs C P [] []
  | cons {d : D} {v : V} {ds : List D} {vs : List V} : Rv C P d v → Rvs C P ds vs → Rvs C P (d :: ds) (v :: vs)
inductive Rvk (C : Cb) (P : Hp) : List (Key × D) → List (Key × V) → Prop
  | nil : Rvk C P [] []
  | cons {k : Key} {d : D} {v : V} {ds : List (Key × D)} {vs : List (Key × V)} : Rv C P d v → Rvk C P ds vs → Rvk C P ((k, d) :: ds) ((k, v) :: vs)
inductive Rvt (C : Cb) (P : Hp) : List (List Key × D) → List (List Key × V) → Prop
  | nil : Rvt C P [] []
  | cons {k : List Key} {d : D} {v : V} {ds : List (List Key × D)} {vs : List (List Key × V)} : Rv C P d v → Rvt C P ds vs → Rvt C P ((k, d) :: ds) ((k, v) :: vs)
inductive Rvf (C : Cb) (P : Hp) : List (Nat × D) → List (Str × V) → Prop
  | nil : Rvf C P [] []
  | cons {k : Nat} {d : D} {v : V} {ds : List (Nat × D)} {vs : List (Str × V)} : Rv C P d v → Rvf C P ds vs → Rvf C P ((k, d) :: ds) ((C.att k, v) :: vs)
end

/-- the standing part grows -/
def Le (P P' : Hp) : Prop := ∀ b o, P b = some o → P' b = some o
theorem Le.refl (P : Hp) : Le P P := fun _ _ h => h
theorem Le.trans {P P1 P2 : Hp} (a : Le P P1) (b : Le P1 P2) : Le P P2 := fun c o h => b c o (a c o h)
theorem Le.upd {P : Hp} {a : Addr} {o : HO} (h : P a = none) : Le P (upd P a o) := fun b u e => by
  rw [upd_ne (ne_of_none e h)]; exact e
section
variable {C : Cb} {P P' : Hp}
theorem Le.sqT {K : PySem.W.Frag} {a : Addr} {xs : List V} (l : Le P P') (h : SqT K P a xs) : SqT K P' a xs := by
  rcases h with (h | ⟨o, h⟩) | h
  · exact .inl (.inl (l _ _ h))
  · exact .inl (.inr ⟨o, l _ _ h⟩)
  · exact .inr h
theorem Le.sqL {K : PySem.W.Frag} {a : Addr} {xs : List V} (l : Le P P') (h : SqL K P a xs) : SqL K P' a xs := by
  rcases h with (h | ⟨o, h⟩) | h
  · exact .inl (.inl (l _ _ h))
  · exact .inl (.inr ⟨o, l _ _ h⟩)
  · exact .inr h
mutual
theorem Rv.mono (l : Le P P') : ∀ {d : D} {v : V}, Rv C P d v → Rv C P' d v
  | _, _, .non => .non
  | _, _, .bl b => .bl b
  | _, _, .int i => .int i
  | _, _, .str x => .str x
  | _, _, .ty n => .ty n
  | _, _, .tup s r => .tup (l _ _ s) (Rvs.mono l r)
  | _, _, .tuf z s r => .tuf z (l _ _ s) (Rvs.mono l r)
  | _, _, .lst s r => .lst (l _ _ s) (Rvs.mono l r)
  | _, _, .rol s r => .rol (l.sqL s) (Rvs.mono l r)
  | _, _, .dk s r => .dk (l _ _ s) (Rvk.mono l r)
  | _, _, .dt s r => .dt (l _ _ s) (Rvt.mono l r)
  | _, _, .obj s r => .obj (l _ _ s) (Rvf.mono l r)
  | _, _, .ref a => .ref a
theorem Rvs.mono (l : Le P P') : ∀ {d : List D} {v : List V}, Rvs C P d v → Rvs C P' d v
  | _, _, .nil => .nil
  | _, _, .cons a b => .cons (Rv.mono l a) (Rvs.mono l b)
theorem Rvk.mono (l : Le P P') : ∀ {d : List (Key × D)} {v : List (Key × V)}, Rvk C P d v → Rvk C P' d v
  | _, _, .nil => .nil
  | _, _, .cons a b => .cons (Rv.mono l a) (Rvk.mono l b)
theorem Rvt.mono (l : Le P P') : ∀ {d : List (List Key × D)} {v : List (List Key × V)}, Rvt C P d v → Rvt C P' d v
  | _, _, .nil => .nil
  | _, _, .cons a b => .cons (Rv.mono l a) (Rvt.mono l b)
theorem Rvf.mono (l : Le P P') : ∀ {d : List (Nat × D)} {v : List (Str × V)}, Rvf C P d v → Rvf C P' d v
  | _, _, .nil => .nil
  | _, _, .cons a b => .cons (Rv.mono l a) (Rvf.mono l b)
end
end

/-- a cell's content -/
inductive Rg (C : Cb) (P : Hp) : GO → HO → Prop
  | lst {ds : List D} {vs : List V} : Rvs C P ds vs → Rg C P (.lst ds) (.lst vs)
  | dk {ds : List (Key × D)} {vs : List (Key × V)} : Rvk C P ds vs → Rg C P (.dk ds) (.dK vs)
  | dt {ds : List (List Key × D)} {vs : List (List Key × V)} : Rvt C P ds vs → Rg C P (.dt ds) (.dT vs)
  | ins {c : Nat} {dx : Addr} {ds : List (Nat × D)} {vs : List (Str × V)} : Rvf C P ds vs → Rg C P (.ins c ds) (.ins (C.cls c) dx vs)
theorem Rg.mono {C : Cb} {P P' : Hp} (l : Le P P') {g : GO} {o : HO} (h : Rg C P g o) : Rg C P' g o := by
  cases h with
  | lst r => exact .lst (r.mono l)
  | dk r => exact .dk (r.mono l)
  | dt r => exact .dt (r.mono l)
  | ins r => exact .ins (r.mono l)

/-- the standing part P and the cells G in the tracked heap H -/
structure Rel (C : Cn) (P : Hp) (G : Gp) (H : Hp) : Prop where
  sub : Le P H
  own : ∀ b g, G b = some g → P b = none ∧ ∃ o, H b = some o ∧ Rg C P g o
  tb : LamX.Tabs C.T H
  nt : ∀ b ps, P b ≠ some (.tbl ps)
  pb : Le C.P0 P
theorem Rg.ntb {C : Cb} {P : Hp} {g : GO} {o : HO} (h : Rg C P g o) : ∀ ps, o ≠ .tbl ps := by cases h <;> (intro ps z; cases z)
theorem Rg.next {C : Cb} {P : Hp} {g : GO} {o : HO} (h : Rg C P g o) : ∀ c q, o ≠ LamX.CodeO c q := by
  unfold LamX.CodeO
  cases h <;> (intro c q z; cases z)
section
variable {C : Cn} {P : Hp} {G : Gp} {H : Hp} {p a : Addr} {o : HO} {g g' : GO}
theorem Rel.pfree (r : Rel C P G H) (h : H p = none) : P p = none := by
  cases e : P p with
  | none => rfl
  | some u => rw [r.sub _ _ e] at h; cases h
theorem Rel.gfree (r : Rel C P G H) (h : H p = none) : G p = none := by
  cases e : G p with
  | none => rfl
  | some u => obtain ⟨_, o, e2, _⟩ := r.own _ _ e; rw [e2] at h; cases h
theorem tabs_new {T : List (Addr × Str)} (t : LamX.Tabs T H) (h : H p = none) : LamX.Tabs T (upd H p o) := t.ext fun b u e => by
  rw [upd_ne (ne_of_none e h)]; exact e
/-- a new standing object -/
theorem Rel.newP (r : Rel C P G H) (h : H p = none) (ho : ∀ ps, o ≠ .tbl ps := by intro ps z; cases z) : Le P (upd P p o) ∧ Rel C (upd P p o) G (upd H p o) := by
  have hl : Le P (upd P p o) := Le.upd (r.pfree h)
  refine ⟨hl, fun b u e => ?_, fun b g e => ?_, tabs_new r.tb h, fun b ps e => ?_, r.pb.trans hl⟩
  · by_cases hb : b = p
    · subst hb; rw [upd_same] at e ⊢; exact e
    · rw [upd_ne hb] at e ⊢; exact r.sub _ _ e
  · obtain ⟨h1, u, h2, h3⟩ := r.own b g e
    have hb : b ≠ p := ne_of_none h2 h
    exact ⟨by rw [upd_ne hb]; exact h1, u, by rw [upd_ne hb]; exact h2, h3.mono hl⟩
  · by_cases hb : b = p
    · subst hb; rw [upd_same] at e; exact ho ps (Option.some.inj e)
    · rw [upd_ne hb] at e; exact r.nt _ _ e
/-- a new cell -/
theorem Rel.newG (r : Rel C P G H) (h : H p = none) (hg : Rg C P g o) : Rel C P (gset G p g) (upd H p o) := by
  refine ⟨fun b u e => ?_, fun b g' e => ?_, tabs_new r.tb h, r.nt, r.pb⟩
  · have hb : b ≠ p := ne_of_none (r.sub _ _ e) h
    rw [upd_ne hb]; exact r.sub _ _ e
  · by_cases hb : b = p
    · subst hb
      rw [gset_same] at e; cases e
      exact ⟨r.pfree h, o, upd_same, hg⟩
    · rw [gset_ne hb] at e
      obtain ⟨h1, u, h2, h3⟩ := r.own b g' e
      exact ⟨h1, u, by rw [upd_ne hb]; exact h2, h3⟩
/-- something else is laid -/
theorem Rel.other (r : Rel C P G H) (h : H p = none) : Rel C P G (upd H p o) := by
  refine ⟨fun b u e => ?_, fun b g' e => ?_, tabs_new r.tb h, r.nt, r.pb⟩
  · have hb : b ≠ p := ne_of_none (r.sub _ _ e) h
    rw [upd_ne hb]; exact r.sub _ _ e
  · obtain ⟨h1, u, h2, h3⟩ := r.own b g' e
    have hb : b ≠ p := ne_of_none h2 h
    exact ⟨h1, u, by rw [upd_ne hb]; exact h2, h3⟩
/-- a lambda is made -/
theorem Rel.lam {H1 : Hp} (r : Rel C P G H) (e : LamX.ExtN H H1) (t : LamX.Tabs C.T H1) : Rel C P G H1 := by
  refine ⟨fun b u h => e _ _ (r.sub _ _ h) fun ps z => r.nt b ps (by rw [h, z]), fun b g h => ?_, t, r.nt, r.pb⟩
  obtain ⟨h1, o, h2, h3⟩ := r.own b g h
  exact ⟨h1, o, e _ _ h2 h3.ntb, h3⟩
/-- a cell is written -/
theorem Rel.write (r : Rel C P G H) (h : G a = some g) (hg : Rg C P g' o) : Rel C P (gset G a g') (upd H a o) := by
  obtain ⟨hn, u0, hu, hg0⟩ := r.own _ _ h
  refine ⟨fun b u e => ?_, fun b g' e => ?_, fun p hp => ?_, r.nt, r.pb⟩
  · rw [upd_ne (ne_of_none e hn)]; exact r.sub _ _ e
  · by_cases hb : b = a
    · subst hb
      rw [gset_same] at e; cases e
      exact ⟨hn, o, upd_same, hg⟩
    · rw [gset_ne hb] at e
      obtain ⟨h1, u, h2, h3⟩ := r.own b g' e
      exact ⟨h1, u, by rw [upd_ne hb]; exact h2, h3⟩
  · obtain ⟨ps, h1, h2, h3⟩ := r.tb p hp
    refine ⟨ps, by rw [upd_ne (fun z => hg0.ntb ps (Option.some.inj (by rw [← hu, ← z, h1])))]; exact h1, h2, fun pos cv hc => ?_⟩
    obtain ⟨c, e1, e2⟩ := h3 pos cv hc
    exact ⟨c, e1, by rw [upd_ne (fun z => hg0.next _ _ (Option.some.inj (by rw [← hu, ← z, e2])))]; exact e2⟩
/-- cells are forgotten -/
theorem Rel.drop {G' : Gp} (r : Rel C P G H) (h : ∀ b g, G' b = some g → G b = some g) : Rel C P G' H :=
  ⟨r.sub, fun b g e => r.own b g (h b g e), r.tb, r.nt, r.pb⟩
/-- a cell stands from now on -/
theorem Rel.freeze (r : Rel C P G H) (hg : G a = some g) (h : H a = some o) : Le P (upd P a o) ∧ Rel C (upd P a o) (gdel G a) H := by
  obtain ⟨hn, u0, hu, hg0⟩ := r.own _ _ hg
  have hl : Le P (upd P a o) := Le.upd hn
  refine ⟨hl, fun b u e => ?_, fun b g' e => ?_, r.tb, fun b ps e => ?_, r.pb.trans hl⟩
  · by_cases hb : b = a
    · subst hb; rw [upd_same] at e; rw [← e]; exact h
    · rw [upd_ne hb] at e; exact r.sub _ _ e
  · have hb : b ≠ a := fun z => by subst z; simp [gdel] at e
    have e' : G b = some g' := by simpa [gdel, hb] using e
    obtain ⟨h1, u, h2, h3⟩ := r.own b g' e'
    exact ⟨by rw [upd_ne hb]; exact h1, u, h2, h3.mono hl⟩
  · by_cases hb : b = a
    · subst hb
      rw [upd_same] at e
      rw [h] at hu
      exact hg0.ntb ps (by rw [← Option.some.inj hu]; exact Option.some.inj e)
    · rw [upd_ne hb] at e; exact r.nt _ _ e
end

section
variable {C : Cn} {P P' : Hp} {G : Gp} {H : Hp}
theorem Rel.b0 (r : Rel C P G H) : Rel C.b0 P G H := ⟨r.sub, r.own, r.tb, r.nt, fun _ _ z => nomatch z⟩
theorem Rel.on {P1 : Hp} {G' : Gp} {H' : Hp} (r : Rel C P G H) (l : Le P P') (q : Rel C.b0 P' G' H') : Rel C P' G' H' := ⟨q.sub, q.own, q.tb, q.nt, r.pb.trans l⟩
/-- from now on P stands for sure -/
theorem Rel.root (r : Rel C P G H) : Rel ⟨C.toCb, P⟩ P G H := ⟨r.sub, r.own, r.tb, r.nt, Le.refl P⟩
theorem Rel.unroot {P1 : Hp} {G' : Gp} {H' : Hp} (r : Rel C P G H) (l : Le P P') (q : Rel ⟨C.toCb, P⟩ P' G' H') : Rel C P' G' H' := ⟨q.sub, q.own, q.tb, q.nt, r.pb.trans l⟩
/-- an object known in the heap, that never changes, stands -/
theorem Rel.known {c : Addr} {q : Str} (r : Rel C P G H) (h : H c = some (LamX.CodeO c q)) : Le P (upd P c (LamX.CodeO c q)) ∧ Rel C (upd P c (LamX.CodeO c q)) G H := by
  have hl : Le P (upd P c (LamX.CodeO c q)) := fun b o e => by
    by_cases hb : b = c
    · subst hb
      have := r.sub _ _ e
      rw [h] at this
      rw [upd_same]; exact this
    · rw [upd_ne hb]; exact e
  refine ⟨hl, fun b o e => ?_, fun b g e => ?_, r.tb, fun b ps e => ?_, r.pb.trans hl⟩
  · by_cases hb : b = c
    · subst hb; rw [upd_same] at e; rw [← e]; exact h
    · rw [upd_ne hb] at e; exact r.sub _ _ e
  · obtain ⟨h1, o, h2, h3⟩ := r.own b g e
    have hb : b ≠ c := fun z => by
      subst z
      rw [h] at h2
      exact h3.next _ _ (Option.some.inj h2).symm
    exact ⟨by rw [upd_ne hb]; exact h1, o, h2, h3.mono hl⟩
  · by_cases hb : b = c
    · subst hb; rw [upd_same] at e; exact LamX.codeO_ne ps (Option.some.inj e)
    · rw [upd_ne hb] at e; exact r.nt _ _ e
end
/-- the slots -/
abbrev S3 := List (Option D)
inductive Rs (C : Cb) (P : Hp) : S3 → St → Prop
  | nil : Rs C P [] []
  | no {v : Option V} {σ : S3} {τ : St} : Rs C P σ τ → Rs C P (.none :: σ) (v :: τ)
  | so {d : D} {v : V} {σ : S3} {τ : St} : Rv C P d v → Rs C P σ τ → Rs C P (.some d :: σ) (.some v :: τ)
section
variable {C : Cb} {P P' : Hp}
theorem Rs.mono (l : Le P P') : ∀ {σ : S3} {τ : St}, Rs C P σ τ → Rs C P' σ τ
  | _, _, .nil => .nil
  | _, _, .no r => .no (Rs.mono l r)
  | _, _, .so a r => .so (a.mono l) (Rs.mono l r)
theorem Rs.get : ∀ {σ : S3} {τ : St} {i : Nat} {d : D}, Rs C P σ τ → σ[i]? = some (some d) → ∃ v, τ[i]? = some (some v) ∧ Rv C P d v
  | _, _, _, _, .nil, e => by simp at e
  | _, _, 0, _, .no _, e => by simp at e
  | _, _, 0, _, .so a _, e => by simp at e; subst e; exact ⟨_, rfl, a⟩
  | _, _, i + 1, _, .no r, e => by simpa using Rs.get (i := i) r (by simpa using e)
  | _, _, i + 1, _, .so _ r, e => by simpa using Rs.get (i := i) r (by simpa using e)
theorem Rs.set {d : D} {v : V} (x : Rv C P d v) : ∀ {σ : S3} {τ : St} (i : Nat), Rs C P σ τ → Rs C P (σ.set i (.some d)) (τ.set i (.some v))
  | _, _, _, .nil => .nil
  | _, _, 0, .no r => .so x r
  | _, _, 0, .so _ r => .so x r
  | _, _, i + 1, .no r => .no (Rs.set x i r)
  | _, _, i + 1, .so a r => .so a (Rs.set x i r)
theorem Rs.unset : ∀ {σ : S3} {τ : St} (i : Nat) (w : Option V), Rs C P σ τ → Rs C P (σ.set i .none) (τ.set i w)
  | _, _, _, _, .nil => .nil
  | _, _, 0, _, .no r => .no r
  | _, _, 0, _, .so _ r => .no r
  | _, _, i + 1, w, .no r => .no (Rs.unset i w r)
  | _, _, i + 1, w, .so a r => .so a (Rs.unset i w r)
theorem Rs.length : ∀ {σ : S3} {τ : St}, Rs C P σ τ → σ.length = τ.length
  | _, _, .nil => rfl
  | _, _, .no r => by simp [Rs.length r]
  | _, _, .so _ r => by simp [Rs.length r]
theorem Rvs.length : ∀ {ds : List D} {vs : List V}, Rvs C P ds vs → ds.length = vs.length
  | _, _, .nil => rfl
  | _, _, .cons _ r => by simp [Rvs.length r]
theorem Rvs.get : ∀ {ds : List D} {vs : List V} {i : Nat} {d : D}, Rvs C P ds vs → ds[i]? = some d → ∃ v, vs[i]? = some v ∧ Rv C P d v
  | _, _, _, _, .nil, e => by simp at e
  | _, _, 0, _, .cons a _, e => by simp at e; subst e; exact ⟨_, rfl, a⟩
  | _, _, i + 1, _, .cons _ r, e => by simpa using Rvs.get (i := i) r (by simpa using e)
theorem Rvs.app : ∀ {ds : List D} {vs : List V} {es : List D} {ws : List V}, Rvs C P ds vs → Rvs C P es ws → Rvs C P (ds ++ es) (vs ++ ws)
  | _, _, _, _, .nil, r => r
  | _, _, _, _, .cons a q, r => .cons a (Rvs.app q r)
theorem Rvs.take : ∀ {ds : List D} {vs : List V} (n : Nat), Rvs C P ds vs → Rvs C P (ds.take n) (vs.take n)
  | _, _, 0, _ => by simpa using Rvs.nil
  | _, _, _ + 1, .nil => by simpa using Rvs.nil
  | _, _, n + 1, .cons a r => .cons a (Rvs.take n r)
theorem Rvs.drop : ∀ {ds : List D} {vs : List V} (n : Nat), Rvs C P ds vs → Rvs C P (ds.drop n) (vs.drop n)
  | _, _, 0, r => r
  | _, _, _ + 1, .nil => .nil
  | _, _, n + 1, .cons _ r => Rvs.drop n r
theorem Rvs.set {d : D} {v : V} (x : Rv C P d v) : ∀ {ds : List D} {vs : List V} (i : Nat), Rvs C P ds vs → Rvs C P (ds.set i d) (vs.set i v)
  | _, _, _, .nil => .nil
  | _, _, 0, .cons _ r => .cons x r
  | _, _, i + 1, .cons a r => .cons a (Rvs.set x i r)
theorem Rvs.rev {ds : List D} {vs : List V} (h : Rvs C P ds vs) : Rvs C P ds.reverse vs.reverse := by
  induction ds generalizing vs with
  | nil => cases h; exact .nil
  | cons d ds ih => cases h with | cons a r => simpa using (ih r).app (.cons a .nil)
theorem Rvs.erase : ∀ {ds : List D} {vs : List V} (i : Nat), Rvs C P ds vs → Rvs C P (ds.eraseIdx i) (vs.eraseIdx i)
  | _, _, _, .nil => by simpa using Rvs.nil
  | _, _, 0, .cons _ r => by simpa using r
  | _, _, i + 1, .cons a r => by simpa using Rvs.cons a (Rvs.erase i r)
end

/-! ### readings over trees, and lifted -/
/-- an exception: its class, what it keeps -/
structure X3 where
  c : Nat
  fs : List (Nat × D)
abbrev K3 := D → Gp → Prop
abbrev E3 := X3 → Gp → Prop
abbrev T3 := S3 → Gp → K3 → E3 → Prop
/-- a raised exception in the heap: its class, its dict's address -/
def Xr (C : Cb) (P : Hp) (x : X3) (cls : Value) (d : Option Addr) : Prop :=
  cls = .ref (C.cls x.c) ∧ ((x.fs = [] ∧ d = none) ∨ ∃ a vs, d = some a ∧ P a = some (.xd vs) ∧ Rvf C P x.fs vs)
def kUp (C : Cn) (P : Hp) (Q : K3) (R : VK) : Prop := ∀ P' G' H' d v, Le P P' → Rel C P' G' H' → Rv C P' d v → Q d G' → R v H'
def eUp (C : Cn) (P : Hp) (E : E3) (W : XK) : Prop := ∀ P' G' H' x cls d, Le P P' → Rel C P' G' H' → Xr C P' x cls d → E x G' → W cls d H'
def up (C : Cn) (W : WX) (t : T3) : TE := fun τ H R => ∃ P σ G Q E, Rel C P G H ∧ Rs C P σ τ ∧ t σ G Q E ∧ kUp C P Q R ∧ eUp C P E (fun c d H => W c d τ H)
theorem kUp.le {C : Cn} {P P' : Hp} {Q : K3} {R : VK} (h : kUp C P Q R) (l : Le P P') : kUp C P' Q R := fun P2 G H d v l2 => h P2 G H d v (l.trans l2)
theorem eUp.le {C : Cn} {P P' : Hp} {E : E3} {W : XK} (h : eUp C P E W) (l : Le P P') : eUp C P' E W := fun P2 G H x c d l2 => h P2 G H x c d (l.trans l2)
/-- a stronger reading -/
theorem PEw {X : Cx} {e : Expr} {t t' : TE} (h : PE X e t) (w : ∀ τ H R, t' τ H R → t τ H R) : PE X e t' := ⟨fun pins s σ H Q I q => h.run pins s σ H Q I (w _ _ _ q)⟩
theorem PTw {X : Cx} {e : Expr} {t t' : TT} (h : PT X e t) (w : ∀ τ H R, t' τ H R → t τ H R) : PT X e t' := ⟨fun pins s σ H Q I q => h.run pins s σ H Q I (w _ _ _ q)⟩
/-- go on from a part's reading -/
theorem up_go {C : Cn} {W : WX} {t : T3} {τ : St} {H : Hp} {R : VK} {P : Hp} {σ : S3} {G : Gp} {Q : K3} {E : E3} (r : Rel C P G H) (s : Rs C P σ τ) (h : t σ G Q E)
    (k : kUp C P Q R) (e : eUp C P E (fun c d H => W c d τ H)) : up C W t τ H R := ⟨P, σ, G, Q, E, r, s, h, k, e⟩
theorem kUp.b0 {C : Cn} {P : Hp} {G : Gp} {H : Hp} {Q : K3} {R : VK} (r : Rel C P G H) (h : kUp C P Q R) : kUp C.b0 P Q R := fun P' G' H' d v l q rv hq => h P' G' H' d v l (r.on (P1 := P) l q) rv hq
theorem eUp.b0 {C : Cn} {P : Hp} {G : Gp} {H : Hp} {E : E3} {W : XK} (r : Rel C P G H) (h : eUp C P E W) : eUp C.b0 P E W := fun P' G' H' x c d l q xr hq => h P' G' H' x c d l (r.on (P1 := P) l q) xr hq
theorem kUp.rt {C : Cn} {P : Hp} {G : Gp} {H : Hp} {Q : K3} {R : VK} (r : Rel C P G H) (h : kUp C P Q R) : kUp ⟨C.toCb, P⟩ P Q R := fun P' G' H' d v l q rv hq => h P' G' H' d v l (r.unroot (P1 := P) l q) rv hq
theorem eUp.rt {C : Cn} {P : Hp} {G : Gp} {H : Hp} {E : E3} {W : XK} (r : Rel C P G H) (h : eUp C P E W) : eUp ⟨C.toCb, P⟩ P E W := fun P' G' H' x c d l q xr hq => h P' G' H' x c d l (r.unroot (P1 := P) l q) xr hq
end V3
set_option Elab.async false
set_option linter.all false
set_option maxRecDepth 100000
set_option maxHeartbeats 4000000
/-! V2: readings over trees for expressions: the lifting, operators, comparisons, truth, displays. -/
namespace V3
open PySem PySem.Spec L2

abbrev TA3 := S3 → Gp → (List D → Gp → Prop) → E3 → Prop
abbrev TT3 := S3 → Gp → (Bool → Gp → Prop) → E3 → Prop
def upA (C : Cn) (W : WX) (t : TA3) : TA := fun τ H R => ∃ P σ G Q E, Rel C P G H ∧ Rs C P σ τ ∧ t σ G Q E ∧
  (∀ P' G' H' ds vs, Le P P' → Rel C P' G' H' → Rvs C P' ds vs → Q ds G' → R vs H') ∧ eUp C P E (fun c d H => W c d τ H)
def upT (C : Cn) (W : WX) (t : TT3) : TT := fun τ H R => ∃ P σ G Q E, Rel C P G H ∧ Rs C P σ τ ∧ t σ G Q E ∧
  (∀ P' G' H' b, Le P P' → Rel C P' G' H' → Q b G' → R b H') ∧ eUp C P E (fun c d H => W c d τ H)
/-- a value-level operation, lifted -/
def upOp (C : Cn) (f : D → D → Gp → K3 → Prop) : R2 := fun v u H R => ∃ P G x y Q, Rel C P G H ∧ Rv C P x v ∧ Rv C P y u ∧ f x y G Q ∧ kUp C P Q R
def upUn (C : Cn) (f : D → Gp → K3 → Prop) : V → Hp → VK → Prop := fun v H R => ∃ P G x Q, Rel C P G H ∧ Rv C P x v ∧ f x G Q ∧ kUp C P Q R
def upCl (C : Cn) (f : List D → Gp → K3 → Prop) : List V → Hp → VK → Prop := fun vs H R => ∃ P G xs Q, Rel C P G H ∧ Rvs C P xs vs ∧ f xs G Q ∧ kUp C P Q R
def upMt (C : Cn) (f : D → List D → Gp → K3 → Prop) : V → List V → Hp → VK → Prop := fun v vs H R => ∃ P G x xs Q, Rel C P G H ∧ Rv C P x v ∧ Rvs C P xs vs ∧ f x xs G Q ∧ kUp C P Q R

def t2 (f : D → D → Gp → K3 → Prop) (ta tb : T3) : T3 := fun σ G Q E => ta σ G (fun x G1 => tb σ G1 (fun y G2 => f x y G2 Q) E) E
def t1 (f : D → Gp → K3 → Prop) (ta : T3) : T3 := fun σ G Q E => ta σ G (fun x G1 => f x G1 Q) E
def tcl (f : List D → Gp → K3 → Prop) (ta : TA3) : T3 := fun σ G Q E => ta σ G (fun xs G1 => f xs G1 Q) E
def tcon (d : D) : T3 := fun _ G Q _ => Q d G
def tvar (i : Nat) : T3 := fun σ G Q _ => ∃ d, σ[i]? = some (some d) ∧ Q d G
def tanil : TA3 := fun _ G Q _ => Q [] G
def tacons (t : T3) (r : TA3) : TA3 := fun σ G Q E => t σ G (fun x G1 => r σ G1 (fun xs G2 => Q (x :: xs) G2) E) E

section
variable {C : Cn} {W : WX} {X : Cx} {a b e : Expr} {es : List Expr} {ta tb t : T3} {r : TA3} {pos : Pos}
theorem lift2 {f : D → D → Gp → K3 → Prop} {τ : L2.St} {H : Hp} {R : VK} (h : up C W (t2 f ta tb) τ H R) : tOp (upOp C f) (up C W ta) (up C W tb) τ H R := by
  obtain ⟨P, σ, G, Q, E, r, s, h, k, e⟩ := h
  refine up_go r s h (fun P1 G1 H1 x v l1 r1 v1 q1 => ?_) e
  refine up_go r1 (s.mono l1) q1 (fun P2 G2 H2 y u l2 r2 v2 q2 => ?_) (e.le l1)
  exact ⟨P2, G2, x, y, Q, r2, v1.mono l2, v2, q2, k.le (l1.trans l2)⟩
theorem pe_bin3 {op : Operator} {f : D → D → Gp → K3 → Prop} (ho : OpR X (binaryOp op) (upOp C f)) (ha : PE X a (up C W ta)) (hb : PE X b (up C W tb)) : PE X (.BinOp a op b pos) (up C W (t2 f ta tb)) :=
  PEw (pe_op ho ha hb) fun _ _ _ h => lift2 h
theorem pe_cmp3 {op : CmpOp} {f : D → D → Gp → K3 → Prop} (ho : OpR X (compareOp op) (upOp C f)) (ha : PE X a (up C W ta)) (hb : PE X b (up C W tb)) (hm : behindInMarks op b = false) : PE X (.Compare a [op] [b] pos) (up C W (t2 f ta tb)) :=
  PEw (pe_cmpR ho ha hb hm) fun _ _ _ h => lift2 h
theorem pe_un3 {op : UnaryOp} {f : D → Gp → K3 → Prop} (ho : UnR X (unaryOp op) (upUn C f)) (ha : PE X a (up C W ta)) : PE X (.UnaryOp op a pos) (up C W (t1 f ta)) := by
  refine PEw (pe_un ho ha) fun τ H R h => ?_
  obtain ⟨P, σ, G, Q, E, r, s, h, k, e⟩ := h
  exact up_go r s h (fun P1 G1 H1 x v l1 r1 v1 q1 => ⟨P1, G1, x, Q, r1, v1, q1, k.le l1⟩) e
theorem pe_con {d : D} {v : V} (h : PE X e (tC v)) (hv : ∀ P, Rv C P d v) : PE X e (up C W (tcon d)) := by
  refine PEw h fun τ H R h => ?_
  obtain ⟨P, σ, G, Q, E, r, s, h, k, e⟩ := h
  exact k P G H d v (Le.refl _) r (hv P) h
theorem pe_var3 {i : Nat} {x : Str} (hN : X.N[i]? = some x) (hv : Vis X.env.scope x) (hd : (x == ("__debug__" : Str)) = false) (hcd : (x == ("__classdict__" : Str)) = false) : PE X (.Name x pos) (up C W (tvar i)) := by
  refine PEw (pe_var (i := i) hN hv hd hcd) fun τ H R h => ?_
  obtain ⟨P, σ, G, Q, E, r, s, ⟨d, e1, q⟩, k, e⟩ := h
  obtain ⟨v, e2, rv⟩ := s.get e1
  exact ⟨v, e2, k P G H d v (Le.refl _) r rv q⟩
theorem pa_nil3 : PA X [] (upA C W tanil) := ⟨fun pos pins s σ H Q I h => by
  obtain ⟨P, σ3, G, Q3, E, r, s3, h, k, e⟩ := h
  exact (pa_nil (X := X)).run pos pins s σ H Q I (k P G H [] [] (Le.refl _) r .nil h)⟩
theorem PAw {t t' : TA} (h : PA X es t) (w : ∀ τ H R, t' τ H R → t τ H R) : PA X es t' := ⟨fun pos pins s σ H Q I q => h.run pos pins s σ H Q I (w _ _ _ q)⟩
theorem pa_cons3 (ha : PE X e (up C W t)) (hr : PA X es (upA C W r)) (hs : starEach (e :: es) X.env = (false, eval e X.env) :: starEach es X.env) : PA X (e :: es) (upA C W (tacons t r)) := by
  refine PAw (pa_cons ha hr hs) fun τ H R h => ?_
  obtain ⟨P, σ, G, Q, E, rl, s, h, k, ee⟩ := h
  refine up_go rl s h (fun P1 G1 H1 x v l1 r1 v1 q1 => ?_) ee
  refine ⟨P1, σ, G1, _, E, r1, s.mono l1, q1, fun P2 G2 H2 ds vs l2 r2 v2 q2 => ?_, ee.le l1⟩
  exact k P2 G2 H2 (x :: ds) (v :: vs) (l1.trans l2) r2 (.cons (v1.mono l2) v2) q2

/-! ### truth -/
/-- a list that is read -/
def seqL (G : Gp) : D → Option (List D)
  | .lst xs => some xs
  | .rol xs => some xs
  | .ref a => match G a with
    | some (.lst xs) => some xs
    | _ => none
  | _ => none
theorem seqL_ok {P : Hp} {G : Gp} {H : Hp} (r : Rel C P G H) : ∀ {d : D} {v : V} {xs : List D}, Rv C P d v → seqL G d = some xs → ∃ a vs, v = .ref a ∧ SqL C.K H a vs ∧ Rvs C P xs vs
  | .lst ys, _, xs, .lst s q, e => by
    cases e
    exact ⟨_, _, rfl, SqL.of (r.sub _ _ s), q⟩
  | .rol ys, _, xs, .rol s q, e => by
    cases e
    exact ⟨_, _, rfl, r.sub.sqL s, q⟩
  | .ref a, _, xs, .ref _, e => by
    simp only [seqL] at e
    split at e
    · rename_i ys h
      cases e
      obtain ⟨_, o, h1, h2⟩ := r.own _ _ h
      cases h2 with
      | lst q => exact ⟨a, _, rfl, SqL.of h1, q⟩
    · cases e
/-- a list that is tracked -/
def lstT (G : Gp) : D → Option (List D)
  | .lst xs => some xs
  | .ref a => match G a with
    | some (.lst xs) => some xs
    | _ => none
  | _ => none
theorem lstT_ok {P : Hp} {G : Gp} {H : Hp} (r : Rel C P G H) : ∀ {d : D} {v : V} {xs : List D}, Rv C P d v → lstT G d = some xs → ∃ a vs, v = .ref a ∧ H a = some (.lst vs) ∧ Rvs C P xs vs
  | .lst ys, _, xs, .lst s q, e => by
    cases e
    exact ⟨_, _, rfl, r.sub _ _ s, q⟩
  | .ref a, _, xs, .ref _, e => by
    simp only [lstT] at e
    split at e
    · rename_i ys h
      cases e
      obtain ⟨_, o, h1, h2⟩ := r.own _ _ h
      cases h2 with
      | lst q => exact ⟨a, _, rfl, h1, q⟩
    · cases e
/-- a dict with int and text keys that is read -/
def dicK (G : Gp) : D → Option (List (Key × D))
  | .dk xs => some xs
  | .ref a => match G a with
    | some (.dk xs) => some xs
    | _ => none
  | _ => none
theorem dicK_ok {P : Hp} {G : Gp} {H : Hp} (r : Rel C P G H) : ∀ {d : D} {v : V} {xs : List (Key × D)}, Rv C P d v → dicK G d = some xs → ∃ a vs, v = .ref a ∧ H a = some (.dK vs) ∧ Rvk C P xs vs
  | .dk ys, _, xs, .dk s q, e => by
    cases e
    exact ⟨_, _, rfl, r.sub _ _ s, q⟩
  | .ref a, _, xs, .ref _, e => by
    simp only [dicK] at e
    split at e
    · rename_i ys h
      cases e
      obtain ⟨_, o, h1, h2⟩ := r.own _ _ h
      cases h2 with
      | dk q => exact ⟨a, _, rfl, h1, q⟩
    · cases e
def dicT (G : Gp) : D → Option (List (List Key × D))
  | .dt xs => some xs
  | .ref a => match G a with
    | some (.dt xs) => some xs
    | _ => none
  | _ => none
theorem dicT_ok {P : Hp} {G : Gp} {H : Hp} (r : Rel C P G H) : ∀ {d : D} {v : V} {xs : List (List Key × D)}, Rv C P d v → dicT G d = some xs → ∃ a vs, v = .ref a ∧ H a = some (.dT vs) ∧ Rvt C P xs vs
  | .dt ys, _, xs, .dt s q, e => by
    cases e
    exact ⟨_, _, rfl, r.sub _ _ s, q⟩
  | .ref a, _, xs, .ref _, e => by
    simp only [dicT] at e
    split at e
    · rename_i ys h
      cases e
      obtain ⟨_, o, h1, h2⟩ := r.own _ _ h
      cases h2 with
      | dt q => exact ⟨a, _, rfl, h1, q⟩
    · cases e
def truD (G : Gp) : D → Option Bool
  | .non => some false
  | .bl b => some b
  | .int i => some (i != 0)
  | .str x => if x.length ≤ sizeLine then some ((x.length : Int) != 0) else none
  | .tup xs => some (!xs.isEmpty)
  | .tuf xs => some (!xs.isEmpty)
  | .lst xs => some (!xs.isEmpty)
  | .rol xs => some (!xs.isEmpty)
  | .dk xs => some (!xs.isEmpty)
  | .ref a => match G a with
    | some (.lst xs) => some (!xs.isEmpty)
    | some (.dk xs) => some (!xs.isEmpty)
    | _ => none
  | _ => none
theorem Rvs.emp {P : Hp} {ds : List D} {vs : List V} (h : Rvs C P ds vs) : ds.isEmpty = vs.isEmpty := by cases h <;> rfl
theorem Rvk.emp {P : Hp} {ds : List (Key × D)} {vs : List (Key × V)} (h : Rvk C P ds vs) : ds.isEmpty = vs.isEmpty := by cases h <;> rfl
theorem tru_ok3 {P : Hp} {G : Gp} {H : Hp} (r : Rel C P G H) {d : D} {v : V} {k : Bool} (rv : Rv C P d v) (h : truD G d = some k) : TruV C.K v H k := by
  cases rv with
  | non => cases h; rfl
  | bl b => cases h; rfl
  | int i => cases h; rfl
  | str x =>
    simp only [truD] at h
    split at h
    · cases h; exact ⟨by assumption, rfl⟩
    · cases h
  | ty n => cases h
  | tup s q => cases h; exact .inr (.inl ⟨_, SqT.of (r.sub _ _ s), by rw [q.emp]⟩)
  | tuf z s q => cases h; exact .inr (.inl ⟨_, .inl (.inr ⟨_, r.sub _ _ s⟩), by rw [q.emp]⟩)
  | lst s q => cases h; exact .inl ⟨_, SqL.of (r.sub _ _ s), by rw [q.emp]⟩
  | rol s q => cases h; exact .inl ⟨_, r.sub.sqL s, by rw [q.emp]⟩
  | dk s q => cases h; exact .inr (.inr ⟨_, r.sub _ _ s, by rw [q.emp]⟩)
  | dt s q => cases h
  | obj s q => cases h
  | ref a =>
    simp only [truD] at h
    split at h
    · rename_i xs e
      cases h
      obtain ⟨_, o, h1, h2⟩ := r.own _ _ e
      cases h2 with
      | lst q => exact .inl ⟨_, SqL.of h1, by rw [q.emp]⟩
    · rename_i xs e
      cases h
      obtain ⟨_, o, h1, h2⟩ := r.own _ _ e
      cases h2 with
      | dk q => exact .inr (.inr ⟨_, h1, by rw [q.emp]⟩)
    · cases h
/-- a test of any value -/
def ttru (t : T3) : TT3 := fun σ G Q E => t σ G (fun x G1 => ∃ k, truD G1 x = some k ∧ Q k G1) E
theorem pt_tru (hK : X.K = C.K) (h : PE X e (up C W t)) (he : ∀ whole, isTrue e X.env whole = (do let v ← whole; standAt e.pos; holding [v] (truthy v))) : PT X e (upT C W (ttru t)) := by
  refine PTw (pt_truth h he) fun τ H R h => ?_
  obtain ⟨P, σ, G, Q, E, r, s, h, k, ee⟩ := h
  refine up_go r s h (fun P1 G1 H1 x v l1 r1 v1 ⟨c, e1, q1⟩ => ?_) ee
  exact ⟨c, by rw [hK]; exact tru_ok3 r1 v1 e1, k P1 G1 H1 c l1 r1 q1⟩
/-- a comparison as a test: its value is a bool -/
def tbl (t : T3) : TT3 := fun σ G Q E => t σ G (fun x G1 => ∃ k, x = .bl k ∧ Q k G1) E
theorem pt_cmp3 {op : CmpOp} {f : D → D → Gp → K3 → Prop} (ho : OpR X (compareOp op) (upOp C f)) (ha : PE X a (up C W ta)) (hb : PE X b (up C W tb)) (hm : behindInMarks op b = false) : PT X (.Compare a [op] [b] pos) (upT C W (tbl (t2 f ta tb))) := by
  refine PTw (pt_cmpR ho ha hb hm) fun τ H R h => ?_
  obtain ⟨P, σ, G, Q, E, r, s, h, k, ee⟩ := h
  refine lift2 ⟨P, σ, G, _, E, r, s, h, fun P1 G1 H1 x v l1 r1 v1 ⟨c, e1, q1⟩ => ?_, ee⟩
  subst e1
  cases v1
  exact ⟨c, rfl, k P1 G1 H1 c l1 r1 q1⟩
def tnot (t : TT3) : TT3 := fun σ G Q E => t σ G (fun c G1 => Q (!c) G1) E
theorem pt_not3 {t : TT3} (h : PT X a (upT C W t)) : PT X (.UnaryOp .Not a pos) (upT C W (tnot t)) := by
  refine PTw (pt_not h) fun τ H R h => ?_
  obtain ⟨P, σ, G, Q, E, r, s, h, k, ee⟩ := h
  exact ⟨P, σ, G, _, E, r, s, h, fun P1 G1 H1 c l1 r1 q1 => k P1 G1 H1 _ l1 r1 q1, ee⟩
def tand (t u : TT3) : TT3 := fun σ G Q E => t σ G (fun c G1 => if c = true then u σ G1 Q E else Q false G1) E
def tor (t u : TT3) : TT3 := fun σ G Q E => t σ G (fun c G1 => if c = true then Q true G1 else u σ G1 Q E) E
theorem PWw {e : Expr} {t t' : TT} (h : PW X e t) (w : ∀ τ H R, t' τ H R → t τ H R) : PW X e t' := ⟨fun wh pins s σ H Q I q => h.run wh pins s σ H Q I (w _ _ _ q)⟩
theorem pw_and3 {t u : TT3} {rest : List Expr} (ha : PT X a (upT C W t)) (hb : PW X (.BoolOp .And (b :: rest) pos) (upT C W u)) : PW X (.BoolOp .And (a :: b :: rest) pos) (upT C W (tand t u)) := by
  refine PWw (pw_and ha hb) fun τ H R h => ?_
  obtain ⟨P, σ, G, Q, E, r, s, h, k, ee⟩ := h
  refine ⟨P, σ, G, _, E, r, s, h, fun P1 G1 H1 c l1 r1 q1 => ?_, ee⟩
  cases c with
  | true => exact ⟨P1, σ, G1, Q, E, r1, s.mono l1, q1, fun P2 G2 H2 c l2 => k P2 G2 H2 c (l1.trans l2), ee.le l1⟩
  | false => exact k P1 G1 H1 _ l1 r1 q1
theorem pw_or3 {t u : TT3} {rest : List Expr} (ha : PT X a (upT C W t)) (hb : PW X (.BoolOp .Or (b :: rest) pos) (upT C W u)) : PW X (.BoolOp .Or (a :: b :: rest) pos) (upT C W (tor t u)) := by
  refine PWw (pw_or ha hb) fun τ H R h => ?_
  obtain ⟨P, σ, G, Q, E, r, s, h, k, ee⟩ := h
  refine ⟨P, σ, G, _, E, r, s, h, fun P1 G1 H1 c l1 r1 q1 => ?_, ee⟩
  cases c with
  | false => exact ⟨P1, σ, G1, Q, E, r1, s.mono l1, q1, fun P2 G2 H2 c l2 => k P2 G2 H2 c (l1.trans l2), ee.le l1⟩
  | true => exact k P1 G1 H1 _ l1 r1 q1
/-- .. as values -/
def tandV (t u : T3) : T3 := fun σ G Q E => t σ G (fun x G1 => ∃ k, truD G1 x = some k ∧ if k = true then u σ G1 Q E else Q x G1) E
def torV (t u : T3) : T3 := fun σ G Q E => t σ G (fun x G1 => ∃ k, truD G1 x = some k ∧ if k = true then Q x G1 else u σ G1 Q E) E
theorem pe_and3 {rest : List Expr} (hK : X.K = C.K) (ha : PE X a (up C W ta)) (hb : PE X (.BoolOp .And (b :: rest) pos) (up C W tb)) : PE X (.BoolOp .And (a :: b :: rest) pos) (up C W (tandV ta tb)) := by
  refine PEw (pe_andT ha hb) fun τ H R h => ?_
  obtain ⟨P, σ, G, Q, E, r, s, h, k, ee⟩ := h
  refine up_go r s h (fun P1 G1 H1 x v l1 r1 v1 ⟨c, e1, q1⟩ => ?_) ee
  refine ⟨c, by rw [hK]; exact tru_ok3 r1 v1 e1, ?_⟩
  cases c with
  | true => exact up_go r1 (s.mono l1) q1 (k.le l1) (ee.le l1)
  | false => exact k P1 G1 H1 _ _ l1 r1 v1 q1
theorem pe_or3 {rest : List Expr} (hK : X.K = C.K) (ha : PE X a (up C W ta)) (hb : PE X (.BoolOp .Or (b :: rest) pos) (up C W tb)) : PE X (.BoolOp .Or (a :: b :: rest) pos) (up C W (torV ta tb)) := by
  refine PEw (pe_orT ha hb) fun τ H R h => ?_
  obtain ⟨P, σ, G, Q, E, r, s, h, k, ee⟩ := h
  refine up_go r s h (fun P1 G1 H1 x v l1 r1 v1 ⟨c, e1, q1⟩ => ?_) ee
  refine ⟨c, by rw [hK]; exact tru_ok3 r1 v1 e1, ?_⟩
  cases c with
  | false => exact up_go r1 (s.mono l1) q1 (k.le l1) (ee.le l1)
  | true => exact k P1 G1 H1 _ _ l1 r1 v1 q1
def tnotV (t : T3) : T3 := fun σ G Q E => t σ G (fun x G1 => ∃ k, truD G1 x = some k ∧ Q (.bl (!k)) G1) E
theorem pe_not3 (hK : X.K = C.K) (ha : PE X a (up C W ta)) : PE X (.UnaryOp .Not a pos) (up C W (tnotV ta)) := by
  refine PEw (pe_notT ha) fun τ H R h => ?_
  obtain ⟨P, σ, G, Q, E, r, s, h, k, ee⟩ := h
  refine up_go r s h (fun P1 G1 H1 x v l1 r1 v1 ⟨c, e1, q1⟩ => ?_) ee
  exact ⟨c, by rw [hK]; exact tru_ok3 r1 v1 e1, k P1 G1 H1 _ _ l1 r1 (.bl _) q1⟩
def tife (c : TT3) (ta tb : T3) : T3 := fun σ G Q E => c σ G (fun k G1 => if k = true then ta σ G1 Q E else tb σ G1 Q E) E
theorem pe_ife3 {c : Expr} {tc : TT3} (hc : PT X c (upT C W tc)) (ha : PE X a (up C W ta)) (hb : PE X b (up C W tb)) : PE X (.IfExp c a b pos) (up C W (tife tc ta tb)) := by
  refine PEw (pe_ifExp hc ha hb) fun τ H R h => ?_
  obtain ⟨P, σ, G, Q, E, r, s, h, k, ee⟩ := h
  refine ⟨P, σ, G, _, E, r, s, h, fun P1 G1 H1 c l1 r1 q1 => ?_, ee⟩
  cases c with
  | true => exact up_go r1 (s.mono l1) q1 (k.le l1) (ee.le l1)
  | false => exact up_go r1 (s.mono l1) q1 (k.le l1) (ee.le l1)

/-! ### displays -/
def newL (w : Bool) (xs : List D) (G : Gp) (Q : K3) : Prop := if w = true then ∀ p, G p = none → Q (.ref p) (gset G p (.lst xs)) else Q (.lst xs) G
theorem newL_ok {P : Hp} {G : Gp} {H : Hp} {w : Bool} {xs : List D} {vs : List V} {Q : K3} {R : VK} (r : Rel C P G H) (rv : Rvs C P xs vs) (h : newL w xs G Q) (k : kUp C P Q R) : ∀ p, H p = none → R (.ref p) (upd H p (.lst vs)) := by
  intro p hp
  unfold newL at h
  split at h
  · exact k P _ _ _ _ (Le.refl _) (r.newG hp (.lst rv)) (.ref p) (h p (r.gfree hp))
  · obtain ⟨l, r'⟩ := r.newP (o := .lst vs) hp
    exact k _ _ _ _ _ l r' (.lst upd_same (rv.mono l)) h
theorem newT_ok {P : Hp} {G : Gp} {H : Hp} {xs : List D} {vs : List V} {Q : K3} {R : VK} (r : Rel C P G H) (rv : Rvs C P xs vs) (h : Q (.tup xs) G) (k : kUp C P Q R) : ∀ p, H p = none → R (.ref p) (upd H p (.tup vs)) := by
  intro p hp
  obtain ⟨l, r'⟩ := r.newP (o := .tup vs) hp
  exact k _ _ _ _ _ l r' (.tup upd_same (rv.mono l)) h
def ttup (n : Nat) (t : TA3) : T3 := fun σ G Q E => t σ G (fun xs G1 => xs.length ≤ sizeLine ∧ Q (.tup xs) G1) E
def tlst (w : Bool) (t : TA3) : T3 := fun σ G Q E => t σ G (fun xs G1 => xs.length ≤ sizeLine ∧ newL w xs G1 Q) E
theorem pe_tup3 {x1 n : Nat} (h : PA X es (upA C W r)) : PE X (.Tuple es x1 pos) (up C W (ttup n r)) := by
  refine PEw (pe_tup h) fun τ H R h => ?_
  obtain ⟨P, σ, G, Q, E, rl, s, h, k, ee⟩ := h
  refine ⟨P, σ, G, _, E, rl, s, h, fun P1 G1 H1 xs vs l1 r1 v1 ⟨z, q1⟩ => ?_, ee⟩
  exact ⟨by rw [← v1.length]; exact z, newT_ok r1 v1 q1 (k.le l1)⟩
theorem pe_lst3 {w : Bool} (h : PA X es (upA C W r)) : PE X (.List es pos) (up C W (tlst w r)) := by
  refine PEw (pe_lst h) fun τ H R h => ?_
  obtain ⟨P, σ, G, Q, E, rl, s, h, k, ee⟩ := h
  refine ⟨P, σ, G, _, E, rl, s, h, fun P1 G1 H1 xs vs l1 r1 v1 ⟨z, q1⟩ => ?_, ee⟩
  exact ⟨by rw [← v1.length]; exact z, newL_ok r1 v1 q1 (k.le l1)⟩
end
end V3
set_option Elab.async false
set_option linter.all false
set_option maxRecDepth 100000
set_option maxHeartbeats 4000000
/-! V3: operators, comparisons, subscripts by values. -/
namespace V3
open PySem PySem.Spec L2

/-- a tuple, of either kind -/
def tupA : D → Option (List D)
  | .tup xs => some xs
  | .tuf xs => some xs
  | _ => none
theorem tupA_ok {C : Cn} {P : Hp} {G : Gp} {H : Hp} {K : PySem.W.Frag} (r : Rel C P G H) : ∀ {d : D} {v : V} {xs : List D}, Rv C P d v → tupA d = some xs → ∃ a vs, v = .ref a ∧ SqT K H a vs ∧ Rvs C P xs vs
  | .tup _, _, _, .tup s q, e => by
    cases e
    exact ⟨_, _, rfl, SqT.of (r.sub _ _ s), q⟩
  | .tuf _, _, _, .tuf z s q, e => by
    cases e
    exact ⟨_, _, rfl, .inl (.inr ⟨_, r.sub _ _ s⟩), q⟩
def isTuf : D → Bool
  | .tup _ => true
  | .tuf _ => true
  | _ => false
def catV (w : Bool) (x y : D) (G : Gp) (Q : K3) : Prop :=
  (∃ a b, tupA x = some a ∧ tupA y = some b ∧ a.length + b.length ≤ sizeLine ∧ (if a = [] then Q y G else if b = [] then Q x G else Q (.tup (a ++ b)) G)) ∨
    ∃ a b, lstT G x = some a ∧ lstT G y = some b ∧ a.length + b.length ≤ sizeLine ∧ newL w (a ++ b) G Q
def binV (w : Bool) : Operator → D → D → Gp → K3 → Prop
  | .Add, .int i, .int j, G, Q => Q (.int (i + j)) G
  | .Add, .str a, .str b, G, Q => a.length + b.length ≤ sizeLine ∧ Q (.str (a ++ b)) G
  | .Add, x, y, G, Q => catV w x y G Q
  | .Sub, .int i, .int j, G, Q => Q (.int (i - j)) G
  | .Mult, .int i, .int j, G, Q => CMul i j ∧ Q (.int (i * j)) G
  | .Mult, .tup a, .int k, G, Q => a ≠ [] ∧ 2 ≤ k ∧ k ≤ 1000 ∧ a.length ≤ 1000 ∧ Q (.tup (List.replicate k.toNat a).flatten) G
  | .Mult, x, .int k, G, Q => ∃ a, lstT G x = some a ∧ -(2 ^ 63) ≤ k ∧ k < 2 ^ 63 ∧ a.length * k.toNat ≤ sizeLine ∧ newL w (List.replicate k.toNat a).flatten G Q
  | .FloorDiv, .int i, .int j, G, Q => CDiv i j ∧ Q (.int (i / j)) G
  | .Mod, .int i, .int j, G, Q => 0 < j ∧ Q (.int (i % j)) G
  | .Pow, .int i, .int j, G, Q => CPow i j ∧ Q (.int (i ^ j.toNat)) G
  | _, _, _, _, _ => False

section
variable {C : Cn} {X : Cx}
theorem Rvs.flat {P : Hp} {ds : List D} {vs : List V} (h : Rvs C P ds vs) : ∀ k : Nat, Rvs C P (List.replicate k ds).flatten (List.replicate k vs).flatten
  | 0 => by simpa using Rvs.nil
  | k + 1 => by rw [List.replicate_succ, List.replicate_succ, List.flatten_cons, List.flatten_cons]; exact h.app (Rvs.flat h k)
theorem cat_ok {w : Bool} (hK : X.K = C.K) {pins : List (Addr × Obj)} {s : Shared} {τ : L2.St} {H : Hp} {v u : V} {vv uu : Value} {R : VK} {P : Hp} {G : Gp} {x y : D} {Q : K3} (I : Inv X pins τ H s) (r1 : RelV v vv) (r2 : RelV u uu) (r : Rel C P G H) (rx : Rv C P x v) (ry : Rv C P y u)
    (h : catV w x y G Q) (k : kUp C P Q R) : wpAny (model X.prog X.w) X.A (binaryOp .Add vv uu) (EP X pins τ R) X.xe s := by
  rcases h with ⟨a, b, e1, e2, hz, q⟩ | ⟨a, b, e1, e2, hz, q⟩
  · obtain ⟨a1, vs1, ev, t1, q1⟩ := tupA_ok (K := X.K) r rx e1
    obtain ⟨a2, vs2, eu, t2, q2⟩ := tupA_ok (K := X.K) r ry e2
    have l1 := q1.length
    have l2 := q2.length
    refine op_catA pins s τ H _ _ vv uu R I r1 r2 ⟨a1, a2, vs1, vs2, ev, eu, t1, t2, by rw [← l1, ← l2]; exact hz, fun e => ?_, fun e e3 => ?_, fun n1 n2 => ?_⟩
    · have ha : a = [] := List.length_eq_zero_iff.mp (by rw [l1, e]; rfl)
      rw [if_pos ha] at q
      have := k P G H _ _ (Le.refl _) r ry q
      rwa [eu] at this
    · have ha : ¬ a = [] := fun z => e (List.length_eq_zero_iff.mp (by rw [← l1, z]; rfl))
      have hb : b = [] := List.length_eq_zero_iff.mp (by rw [l2, e3]; rfl)
      rw [if_neg ha, if_pos hb] at q
      have := k P G H _ _ (Le.refl _) r rx q
      rwa [ev] at this
    · have ha : ¬ a = [] := fun z => n1 (List.length_eq_zero_iff.mp (by rw [← l1, z]; rfl))
      have hb : ¬ b = [] := fun z => n2 (List.length_eq_zero_iff.mp (by rw [← l2, z]; rfl))
      rw [if_neg ha, if_neg hb] at q
      exact newT_ok r (q1.app q2) q k
  · obtain ⟨a1, vs1, ev, h1, q1⟩ := lstT_ok r rx e1
    obtain ⟨a2, vs2, eu, h2, q2⟩ := lstT_ok r ry e2
    exact op_cat pins s τ H _ _ vv uu R I r1 r2 ⟨a1, a2, vs1, vs2, ev, eu, h1, h2, by rw [← q1.length, ← q2.length]; exact hz, newL_ok r (q1.app q2) q k⟩
theorem opB_ok {o : Operator} {w : Bool} (hK : X.K = C.K) : OpR X (binaryOp o) (upOp C (binV w o)) := by
  intro pins s τ H v u vv uu R I r1 r2 h
  obtain ⟨P, G, x, y, Q, r, rx, ry, h, k⟩ := h
  have go : ∀ {d : D} {v : V}, Rv C P d v → Q d G → R v H := fun {d v} a b => k P G H d v (Le.refl _) r a b
  unfold binV at h
  split at h
  · cases rx; cases ry
    exact op_add pins s τ H _ _ vv uu R I r1 r2 ⟨_, _, rfl, rfl, go (.int _) h⟩
  · cases rx; cases ry
    exact op_add_str pins s τ H _ _ vv uu R I r1 r2 ⟨_, _, rfl, rfl, h.1, go (.str _) h.2⟩
  · exact cat_ok hK I r1 r2 r rx ry h k
  · cases rx; cases ry
    exact op_sub pins s τ H _ _ vv uu R I r1 r2 ⟨_, _, rfl, rfl, go (.int _) h⟩
  · cases rx; cases ry
    exact op_mul pins s τ H _ _ vv uu R I r1 r2 ⟨_, _, rfl, rfl, h.1, go (.int _) h.2⟩
  · cases ry
    cases rx with
    | @tup a1 ds1 vs1 s1 q1 =>
      obtain ⟨h1, h2, h3, h4, h5⟩ := h
      refine op_repT pins s τ H _ _ vv uu R I r1 r2 ⟨a1, _, vs1, rfl, rfl, SqT.of (r.sub _ _ s1), fun e => ?_, h2, h3, by rw [← q1.length]; exact h4, newT_ok r (q1.flat _) h5 k⟩
      subst e; cases q1; exact h1 rfl
  · obtain ⟨a, e1, h1, h2, hz, q⟩ := h
    cases ry
    obtain ⟨a1, vs1, rfl, h3, q1⟩ := lstT_ok r rx e1
    exact op_rep pins s τ H _ _ vv uu R I r1 r2 ⟨a1, _, vs1, rfl, rfl, h3, h1, h2, by rw [← q1.length]; exact hz, newL_ok r (q1.flat _) q k⟩
  · cases rx; cases ry
    exact op_fdiv pins s τ H _ _ vv uu R I r1 r2 ⟨_, _, rfl, rfl, h.1, go (.int _) h.2⟩
  · cases rx; cases ry
    exact op_mod pins s τ H _ _ vv uu R I r1 r2 ⟨_, _, rfl, rfl, h.1, go (.int _) h.2⟩
  · cases rx; cases ry
    exact op_pow pins s τ H _ _ vv uu R I r1 r2 ⟨_, _, rfl, rfl, h.1, go (.int _) h.2⟩
  · exact h.elim

def negV : D → Gp → K3 → Prop
  | .int i, G, Q => Q (.int (-i)) G
  | _, _, _ => False
theorem opN_ok : UnR X (unaryOp .USub) (upUn C negV) := by
  intro pins s τ H v vv R I r1 h
  obtain ⟨P, G, x, Q, r, rx, h, k⟩ := h
  unfold negV at h
  split at h
  · cases rx
    exact un_neg pins s τ H _ vv R I r1 ⟨_, rfl, k P G H _ _ (Le.refl _) r (.int _) h⟩
  · exact h.elim

/-! ### data -/
mutual
def toPy : D → Option PyData
  | .non => some .none
  | .bl b => some (.bool b)
  | .int i => some (.int i)
  | .str x => some (.str x)
  | .tup xs => (toPys xs).map .tuple
  | .tuf xs => (toPys xs).map .tuple
  | .lst xs => (toPys xs).map .list
  | .rol xs => (toPys xs).map .list
  | _ => none
def toPys : List D → Option (List PyData)
  | [] => some []
  | x :: xs => match toPy x, toPys xs with
    | some d, some ds => some (d :: ds)
    | _, _ => none
end
def toPyG (G : Gp) : D → Option PyData
  | .ref a => match G a with
    | some (.lst xs) => (toPys xs).map .list
    | _ => none
  | d => toPy d
mutual
theorem toPy_ok {P : Hp} {H : Hp} {K : PySem.W.Frag} (hK : K = C.K) (l : Le P H) : ∀ {d : D} {v : V} {p : PyData}, Rv C P d v → toPy d = some p → Dp K H v p
  | _, _, _, .non, e => by cases e; exact .non
  | _, _, _, .bl b, e => by cases e; exact .bl b
  | _, _, _, .int i, e => by cases e; exact .int i
  | _, _, _, .str x, e => by cases e; exact .str x
  | _, _, _, .ty n, e => by simp [toPy] at e
  | _, _, _, .tup s q, e => by
    obtain ⟨ds, e1, rfl⟩ := Option.map_eq_some_iff.mp (by simpa only [toPy] using e)
    exact .tup (SqT.of (l _ _ s)) (toPys_ok hK l q e1)
  | _, _, _, .tuf z s q, e => by
    obtain ⟨ds, e1, rfl⟩ := Option.map_eq_some_iff.mp (by simpa only [toPy] using e)
    exact .tup (.inl (.inr ⟨_, l _ _ s⟩)) (toPys_ok hK l q e1)
  | _, _, _, .lst s q, e => by
    obtain ⟨ds, e1, rfl⟩ := Option.map_eq_some_iff.mp (by simpa only [toPy] using e)
    exact .lst (SqL.of (l _ _ s)) (toPys_ok hK l q e1)
  | _, _, _, .rol s q, e => by
    obtain ⟨ds, e1, rfl⟩ := Option.map_eq_some_iff.mp (by simpa only [toPy] using e)
    exact .lst (by rw [hK]; exact l.sqL s) (toPys_ok hK l q e1)
  | _, _, _, .dk _ _, e => by simp [toPy] at e
  | _, _, _, .dt _ _, e => by simp [toPy] at e
  | _, _, _, .obj _ _, e => by simp [toPy] at e
  | _, _, _, .ref _, e => by simp [toPy] at e
theorem toPys_ok {P : Hp} {H : Hp} {K : PySem.W.Frag} (hK : K = C.K) (l : Le P H) : ∀ {d : List D} {v : List V} {p : List PyData}, Rvs C P d v → toPys d = some p → DpAll K H v p
  | _, _, _, .nil, e => by cases e; exact .nil
  | _, _, _, .cons a b, e => by
    simp only [toPys] at e
    split at e
    · rename_i d ds e1 e2
      cases e
      exact .cons (toPy_ok hK l a e1) (toPys_ok hK l b e2)
    · cases e
end
theorem toPyG_ok {P : Hp} {G : Gp} {H : Hp} {K : PySem.W.Frag} (hK : K = C.K) (r : Rel C P G H) {d : D} {v : V} {p : PyData} (rv : Rv C P d v) (e : toPyG G d = some p) : Dp K H v p := by
  cases d with
  | ref a =>
    cases rv
    simp only [toPyG] at e
    split at e
    · rename_i xs h
      obtain ⟨ds, e1, rfl⟩ := Option.map_eq_some_iff.mp e
      obtain ⟨_, o, h1, h2⟩ := r.own _ _ h
      cases h2 with
      | lst q => exact .lst (SqL.of h1) (toPys_ok hK r.sub q e1)
    · cases e
  | _ => exact toPy_ok hK r.sub rv (by simpa only [toPyG] using e)

def keyD : D → Option Key
  | .int i => some (.inl i)
  | .str x => some (.inr x)
  | _ => none
def keyDs : List D → Option (List Key)
  | [] => some []
  | d :: ds => match keyD d, keyDs ds with
    | some k, some ks => some (k :: ks)
    | _, _ => none
def keyT : D → Option (List Key)
  | .tup ds => keyDs ds
  | _ => none
theorem keyD_ok {P : Hp} {d : D} {v : V} {k : Key} (rv : Rv C P d v) (e : keyD d = some k) : v = kV k := by
  cases rv <;> first | (cases e; rfl) | cases e
theorem keyDs_ok {P : Hp} : ∀ {ds : List D} {vs : List V} {ks : List Key}, Rvs C P ds vs → keyDs ds = some ks → vs = ks.map kV
  | _, _, _, .nil, e => by cases e; rfl
  | _, _, _, .cons a b, e => by
    simp only [keyDs] at e
    split at e
    · rename_i k ks e1 e2
      cases e
      rw [keyD_ok a e1, keyDs_ok b e2]; rfl
    · cases e
end
end V3
set_option Elab.async false
set_option linter.all false
set_option maxRecDepth 100000
set_option maxHeartbeats 4000000
/-! V4: comparisons, subscripts, slices by values. -/
namespace V3
open PySem PySem.Spec L2

section
variable {C : Cn} {X : Cx}
def getK {κ : Type} [DecidableEq κ] (kvs : List (κ × D)) (k : κ) : Option D := (kvs.find? fun p => decide (p.1 = k)).map (·.2)
theorem getK_nil {κ : Type} [DecidableEq κ] {k : κ} : getK ([] : List (κ × D)) k = none := rfl
theorem getK_pos {κ : Type} [DecidableEq κ] {k : κ} {d : D} {r : List (κ × D)} : getK ((k, d) :: r) k = some d := by simp [getK]
theorem getK_neg {κ : Type} [DecidableEq κ] {j k : κ} {d : D} {r : List (κ × D)} (h : ¬ j = k) : getK ((j, d) :: r) k = getK r k := by simp [getK, h]
theorem Rvk.val {P : Hp} (k : Key) : ∀ {ds : List (Key × D)} {vs : List (Key × V)}, Rvk C P ds vs → (∀ d, getK ds k = some d → ∃ v, valV vs k = some v ∧ Rv C P d v) ∧ (getK ds k = none → valV vs k = none)
  | _, _, .nil => ⟨fun d e => by simp [getK] at e, fun _ => rfl⟩
  | (k', d') :: ds, (_, v') :: vs, .cons a b => by
    by_cases hk : k' = k
    · subst hk
      refine ⟨fun d e => ?_, fun e => ?_⟩
      · rw [getK_pos] at e; cases e
        exact ⟨v', by rw [valV_pos rfl], a⟩
      · rw [getK_pos] at e; cases e
    · obtain ⟨h1, h2⟩ := Rvk.val k b
      rw [getK_neg hk, valV_neg hk]
      exact ⟨h1, h2⟩
theorem Rvt.val {P : Hp} (k : List Key) : ∀ {ds : List (List Key × D)} {vs : List (List Key × V)}, Rvt C P ds vs → (∀ d, getK ds k = some d → ∃ v, valV vs k = some v ∧ Rv C P d v) ∧ (getK ds k = none → valV vs k = none)
  | _, _, .nil => ⟨fun d e => by simp [getK] at e, fun _ => rfl⟩
  | (k', d') :: ds, (_, v') :: vs, .cons a b => by
    by_cases hk : k' = k
    · subst hk
      refine ⟨fun d e => ?_, fun e => ?_⟩
      · rw [getK_pos] at e; cases e
        exact ⟨v', by rw [valV_pos rfl], a⟩
      · rw [getK_pos] at e; cases e
    · obtain ⟨h1, h2⟩ := Rvt.val k b
      rw [getK_neg hk, valV_neg hk]
      exact ⟨h1, h2⟩
/-- what a dict holds at a key; none: not known -/
def dget (G : Gp) (x y : D) : Option (Option D) :=
  match dicK G x, keyD y with
  | some kvs, some k => some (getK kvs k)
  | _, _ => match dicT G x, keyT y with
    | some kvs, some k => some (getK kvs k)
    | _, _ => none
theorem dget_ok {P : Hp} {G : Gp} {H : Hp} (r : Rel C P G H) {x y : D} {v u : V} {o : Option D} (rx : Rv C P x v) (ry : Rv C P y u) (h : dget G x y = some o) :
    ∃ a w, v = .ref a ∧ DGet H a u w ∧ (∀ d, o = some d → ∃ z, w = some z ∧ Rv C P d z) ∧ (o = none → w = none) := by
  unfold dget at h
  split at h
  · rename_i kvs k e1 e2
    cases h
    obtain ⟨a, vs, rfl, h1, q⟩ := dicK_ok r rx e1
    obtain ⟨g1, g2⟩ := Rvk.val k q
    refine ⟨a, valV vs k, rfl, by rw [keyD_ok ry e2]; exact DGet.k h1, fun d e => g1 d e, fun e => g2 e⟩
  · split at h
    · rename_i kvs k e1 e2
      cases h
      obtain ⟨a, vs, rfl, h1, q⟩ := dicT_ok r rx e1
      obtain ⟨g1, g2⟩ := Rvt.val k q
      cases ry with
      | tup s q2 =>
        have e3 := keyDs_ok q2 (by simpa only [keyT] using e2)
        subst e3
        exact ⟨a, valV vs k, rfl, DGet.t h1 (r.sub _ _ s), fun d e => g1 d e, fun e => g2 e⟩
      | _ => simp [keyT] at e2
    · cases h

def flatD : D → Bool
  | .non => true | .bl _ => true | .int _ => true | .str _ => true
  | _ => false
def eqF : D → D → Bool
  | .non, .non => true
  | .bl a, .bl b => a == b
  | .bl a, .int b => (if a then 1 else 0) == b
  | .int a, .bl b => a == (if b then 1 else 0)
  | .int a, .int b => a == b
  | .str a, .str b => a == b
  | _, _ => false
theorem flat_ok {P : Hp} {d : D} {v : V} (r : Rv C P d v) (h : flatD d = true) : flatV v = true := by cases r <;> first | rfl | (exact absurd (show false = true from h) Bool.false_ne_true)
theorem flats_ok {P : Hp} : ∀ {ds : List D} {vs : List V}, Rvs C P ds vs → ds.all flatD = true → vs.all flatV = true
  | _, _, .nil, _ => rfl
  | _, _, .cons a b, h => by
    simp only [List.all_cons, Bool.and_eq_true] at h ⊢
    exact ⟨flat_ok a h.1, flats_ok b h.2⟩
theorem eqF_ok {P : Hp} {d e : D} {v u : V} (r : Rv C P d v) (q : Rv C P e u) (h1 : flatD d = true) (h2 : flatD e = true) : eqV v u = eqF d e := by
  cases r <;> first | (exact absurd (show false = true from h1) Bool.false_ne_true) | (cases q <;> first | (exact absurd (show false = true from h2) Bool.false_ne_true) | rfl)
theorem inF_ok {P : Hp} {d : D} {v : V} (r : Rv C P d v) (h : flatD d = true) : ∀ {ds : List D} {vs : List V}, Rvs C P ds vs → ds.all flatD = true → inV v vs = ds.any fun y => eqF y d
  | _, _, .nil, _ => rfl
  | _, _, .cons a b, hs => by
    simp only [List.all_cons, Bool.and_eq_true] at hs
    unfold inV
    rw [List.any_cons, List.any_cons, eqF_ok a r hs.1 h]
    congr 1
    exact inF_ok r h b hs.2

/-- lists and tuples -/
def seqA (G : Gp) : D → Option (List D)
  | .tup xs => some xs
  | .tuf xs => some xs
  | d => seqL G d
theorem seqA_ok {P : Hp} {G : Gp} {H : Hp} {K : PySem.W.Frag} (hK : K = C.K) (r : Rel C P G H) {d : D} {v : V} {xs : List D} (rv : Rv C P d v) (h : seqA G d = some xs) : ∃ a vs, v = .ref a ∧ (SqL K H a vs ∨ SqT K H a vs) ∧ Rvs C P xs vs := by
  cases d with
  | tup ys =>
    simp only [seqA] at h; cases h
    cases rv with
    | tup s q => exact ⟨_, _, rfl, .inr (SqT.of (r.sub _ _ s)), q⟩
  | tuf ys =>
    simp only [seqA] at h; cases h
    cases rv with
    | tuf z s q => exact ⟨_, _, rfl, .inr (.inl (.inr ⟨_, r.sub _ _ s⟩)), q⟩
  | _ =>
    simp only [seqA] at h
    obtain ⟨a, vs, e, h1, q⟩ := seqL_ok r rv h
    exact ⟨a, vs, e, .inl (by rw [hK]; exact h1), q⟩

/-- what «x in y» says -/
def inD (G : Gp) (x y : D) : Option Bool :=
  match x, y with
  | .str a, .str b => some (!(Builtin.Str.occurrences b a 0 b.length 1).isEmpty)
  | x, y => match seqA G y with
    | some ys => if flatD x && ys.all flatD then some (ys.any fun z => eqF z x)
      else match toPyG G x, toPyG G y with
        | some d, some (.list ds) => if SeqAt.shaped d && SeqAt.shaped (.list ds) then some (ds.any fun z => PyData.eqv z d) else none
        | _, _ => none
    | none => match x with
      | .non => (dicK G y).map fun _ => false
      | x => (dget G y x).map (·.isSome)
def isNon : D → Bool
  | .non => true
  | _ => false
def cmpV : CmpOp → D → D → Gp → K3 → Prop
  | .Eq, x, y, G, Q => ∃ d e, toPyG G x = some d ∧ toPyG G y = some e ∧ SeqAt.shaped d = true ∧ SeqAt.shaped e = true ∧ Q (.bl (PyData.eqv d e)) G
  | .NotEq, x, y, G, Q => ∃ d e, toPyG G x = some d ∧ toPyG G y = some e ∧ SeqAt.shaped d = true ∧ SeqAt.shaped e = true ∧ Q (.bl (!PyData.eqv d e)) G
  | .Lt, .int i, .int j, G, Q => Q (.bl (decide (i < j))) G
  | .LtE, .int i, .int j, G, Q => Q (.bl (decide (i ≤ j))) G
  | .Gt, .int i, .int j, G, Q => Q (.bl (decide (j < i))) G
  | .GtE, .int i, .int j, G, Q => Q (.bl (decide (j ≤ i))) G
  | .Lt, .str i, .str j, G, Q => Q (.bl (decide (i.cps.toList < j.cps.toList))) G
  | .Is, .bl a, .bl b, G, Q => Q (.bl (decide (a = b))) G
  | .IsNot, .bl a, .bl b, G, Q => Q (.bl (!decide (a = b))) G
  | .Is, x, .non, G, Q => Q (.bl (isNon x)) G
  | .IsNot, x, .non, G, Q => Q (.bl (!isNon x)) G
  | .In, x, y, G, Q => ∃ b, inD G x y = some b ∧ Q (.bl b) G
  | .NotIn, x, y, G, Q => ∃ b, inD G x y = some b ∧ Q (.bl (!b)) G
  | _, _, _, _, _ => False
/-- y in d, y not in d, by values, for dicts -/
theorem op_dinV (hu : X.A.units + 1 < cLine) : OpR X (compareOp .In) (fun y x H Q => ∃ a o, x = .ref a ∧ DGet H a y o ∧ Q (.bl o.isSome) H) := by
  intro pins s σ H y x u v Q I ry rx h
  obtain ⟨a, o, rfl, g, q⟩ := h
  cases rx
  exact d_in hu I g ry fun s' I' => ⟨.bl _, H, I', rfl, q⟩
theorem op_dnotinV (hu : X.A.units + 1 < cLine) : OpR X (compareOp .NotIn) (fun y x H Q => ∃ a o, x = .ref a ∧ DGet H a y o ∧ Q (.bl (!o.isSome)) H) := by
  intro pins s σ H y x u v Q I ry rx h
  obtain ⟨a, o, rfl, g, q⟩ := h
  cases rx
  exact d_notIn hu I g ry fun s' I' => ⟨.bl _, H, I', rfl, q⟩
theorem op_ninV : OpR X (compareOp .In) (fun y x H Q => ∃ a kvs, x = .ref a ∧ y = .non ∧ Rd H a (.dK kvs) ∧ Q (.bl false) H) := by
  intro pins s σ H y x u v Q I ry rx h
  obtain ⟨a, kvs, rfl, rfl, g, q⟩ := h
  cases rx; cases ry
  exact d_inNone I g fun s' I' => ⟨.bl _, H, I', rfl, q⟩
theorem op_nninV : OpR X (compareOp .NotIn) (fun y x H Q => ∃ a kvs, x = .ref a ∧ y = .non ∧ Rd H a (.dK kvs) ∧ Q (.bl true) H) := by
  intro pins s σ H y x u v Q I ry rx h
  obtain ⟨a, kvs, rfl, rfl, g, q⟩ := h
  cases rx; cases ry
  exact d_notInNone I g fun s' I' => ⟨.bl _, H, I', rfl, q⟩
theorem is_non {P : Hp} {d : D} {v : V} (r : Rv C P d v) : decide (v = .non) = V3.isNon d := by cases r <;> simp [V3.isNon]
/-- the two sides of in and not in, once -/
theorem in_ok {hu : X.A.units + 65 < cLine} (hK : X.K = C.K) {P : Hp} {G : Gp} {H : Hp} (r : Rel C P G H) {x y : D} {v u : V} {b : Bool} (rx : Rv C P x v) (ry : Rv C P y u) (h : inD G x y = some b) {pins : List (Addr × Obj)} {s : Shared} {τ : L2.St} {vv uu : Value} {R : VK}
    (I : Inv X pins τ H s) (r1 : RelV v vv) (r2 : RelV u uu) : (R (.bl b) H → wpAny (model X.prog X.w) X.A (compareOp .In vv uu) (EP X pins τ R) X.xe s) ∧ (R (.bl (!b)) H → wpAny (model X.prog X.w) X.A (compareOp .NotIn vv uu) (EP X pins τ R) X.xe s) := by
  unfold inD at h
  split at h
  · cases h; cases rx; cases ry
    exact ⟨fun q => op_in_str pins s τ H _ _ vv uu R I r1 r2 ⟨_, _, rfl, rfl, q⟩, fun q => op_notIn_str pins s τ H _ _ vv uu R I r1 r2 ⟨_, _, rfl, rfl, q⟩⟩
  · split at h
    · rename_i ys e
      obtain ⟨a, vs, rfl, hs, q1⟩ := seqA_ok hK r ry e
      split at h
      · rename_i hf
        cases h
        rw [Bool.and_eq_true] at hf
        have e1 := inF_ok rx hf.1 q1 hf.2
        have f1 := flat_ok rx hf.1
        have f2 := flats_ok q1 hf.2
        refine ⟨fun q => op_in_seq pins s τ H _ _ vv uu R I r1 r2 ⟨a, vs, rfl, hs, f1, f2, ?_⟩, fun q => op_notIn_seq pins s τ H _ _ vv uu R I r1 r2 ⟨a, vs, rfl, hs, f1, f2, ?_⟩⟩
        · rw [if_neg Bool.false_ne_true, e1]; exact q
        · rw [if_pos rfl, e1]; exact q
      · split at h
        · rename_i d ds e1 e2
          split at h
          · rename_i hs
            cases h
            rw [Bool.and_eq_true] at hs
            have p1 := toPyG_ok hK r rx e1
            have p2 := toPyG_ok hK r ry e2
            exact ⟨fun q => op_inD hu pins s τ H _ _ vv uu R I r1 r2 ⟨d, ds, p1, p2, hs.1, hs.2, q⟩, fun q => op_notInD hu pins s τ H _ _ vv uu R I r1 r2 ⟨d, ds, p1, p2, hs.1, hs.2, q⟩⟩
          · cases h
        · cases h
    · split at h
      · obtain ⟨kvs, e1, e2⟩ := Option.map_eq_some_iff.mp h
        subst e2
        cases rx
        obtain ⟨a, vs, rfl, h1, q⟩ := dicK_ok r ry e1
        exact ⟨fun q => op_ninV pins s τ H _ _ vv uu R I r1 r2 ⟨a, vs, rfl, rfl, .inl h1, q⟩, fun q => op_nninV pins s τ H _ _ vv uu R I r1 r2 ⟨a, vs, rfl, rfl, .inl h1, q⟩⟩
      · obtain ⟨o, e1, e2⟩ := Option.map_eq_some_iff.mp h
        subst e2
        obtain ⟨a, w, rfl, g, g1, g2⟩ := dget_ok r ry rx e1
        have ew : w.isSome = o.isSome := by
          cases o with
          | none => rw [g2 rfl]; rfl
          | some d => obtain ⟨z, e, _⟩ := g1 d rfl; rw [e]; rfl
        exact ⟨fun q => op_dinV (by omega) pins s τ H _ _ vv uu R I r1 r2 ⟨a, w, rfl, g, by rw [ew]; exact q⟩, fun q => op_dnotinV (by omega) pins s τ H _ _ vv uu R I r1 r2 ⟨a, w, rfl, g, by rw [ew]; exact q⟩⟩
theorem opC_ok {o : CmpOp} (hu : X.A.units + 65 < cLine) (hK : X.K = C.K) : OpR X (compareOp o) (upOp C (cmpV o)) := by
  intro pins s τ H v u vv uu R I r1 r2 h
  obtain ⟨P, G, x, y, Q, r, rx, ry, h, k⟩ := h
  have go : ∀ {b : Bool}, Q (.bl b) G → R (.bl b) H := fun {b} a => k P G H _ _ (Le.refl _) r (.bl b) a
  unfold cmpV at h
  split at h
  · obtain ⟨d, e, e1, e2, s1, s2, q⟩ := h
    exact op_eqD (by omega) pins s τ H _ _ vv uu R I r1 r2 ⟨d, e, toPyG_ok hK r rx e1, toPyG_ok hK r ry e2, s1, s2, go q⟩
  · obtain ⟨d, e, e1, e2, s1, s2, q⟩ := h
    exact op_neD (by omega) pins s τ H _ _ vv uu R I r1 r2 ⟨d, e, toPyG_ok hK r rx e1, toPyG_ok hK r ry e2, s1, s2, go q⟩
  · cases rx; cases ry
    exact op_lt pins s τ H _ _ vv uu R I r1 r2 ⟨_, _, rfl, rfl, go h⟩
  · cases rx; cases ry
    exact op_le pins s τ H _ _ vv uu R I r1 r2 ⟨_, _, rfl, rfl, go h⟩
  · cases rx; cases ry
    exact op_gt pins s τ H _ _ vv uu R I r1 r2 ⟨_, _, rfl, rfl, go h⟩
  · cases rx; cases ry
    exact op_ge pins s τ H _ _ vv uu R I r1 r2 ⟨_, _, rfl, rfl, go h⟩
  · cases rx; cases ry
    exact op_lt_str pins s τ H _ _ vv uu R I r1 r2 ⟨_, _, rfl, rfl, go h⟩
  · cases rx; cases ry
    exact op_isBl pins s τ H _ _ vv uu R I r1 r2 ⟨_, _, rfl, rfl, go h⟩
  · cases rx; cases ry
    exact op_notBl pins s τ H _ _ vv uu R I r1 r2 ⟨_, _, rfl, rfl, go h⟩
  · cases ry
    refine op_isN pins s τ H _ _ vv uu R I r1 r2 ⟨rfl, ?_⟩
    rw [is_non rx]; exact go h
  · cases ry
    refine op_notN pins s τ H _ _ vv uu R I r1 r2 ⟨rfl, ?_⟩
    rw [is_non rx]; exact go h
  · obtain ⟨b, e, q⟩ := h
    exact (in_ok (hu := hu) hK r rx ry e I r1 r2).1 (go q)
  · obtain ⟨b, e, q⟩ := h
    exact (in_ok (hu := hu) hK r rx ry e I r1 r2).2 (go q)
  · exact h.elim
end
end V3
set_option Elab.async false
set_option linter.all false
set_option maxRecDepth 100000
set_option maxHeartbeats 4000000
/-! V5: subscripts, slices, built-in functions by values. -/
namespace V3
open PySem PySem.Spec L2

section
variable {C : Cn} {X : Cx}
theorem atI_ok {P : Hp} {ds : List D} {vs : List V} {i : Int} {d : D} (r : Rvs C P ds vs) (h : atI ds i = some d) : ∃ v, atI vs i = some v ∧ Rv C P d v := by
  unfold atI at h ⊢
  rw [r.length] at h
  cases e : ixN vs.length i with
  | none => rw [e] at h; cases h
  | some j =>
    rw [e] at h
    exact r.get (i := j) h
def ixV : D → D → Gp → K3 → Prop
  | .str z, .int i, G, Q => z.length ≤ sizeLine ∧ ∃ c, atI z.cps.toList i = some c ∧ Q (.str ⟨#[c]⟩) G
  | x, y, G, Q => match seqA G x, y with
    | some xs, .int i => ∃ d, atI xs i = some d ∧ Q d G
    | _, _ => ∃ d, dget G x y = some (some d) ∧ Q d G
theorem ix_dictV (hu : X.A.units + 1 < cLine) : IxR X (fun x y H Q => ∃ a v, x = .ref a ∧ DGet H a y (some v) ∧ Q v H) := by
  intro value slice pins s σ H x y v u Q I rx ry h hs
  obtain ⟨a, z, rfl, g, q⟩ := h
  cases rx
  exact PyProof.Rows.tail_any (dict_typeIs I g) PySem.F.slot_dict_getitem.lookup (d_getItem hu I g ry fun w' s' I' rw' => ⟨z, H, I', rw', q⟩) hs
theorem ix_okV (hu : X.A.units + 1 < cLine) (hK : X.K = C.K) : IxR X (upOp C ixV) := by
  intro value slice pins s τ H x y v u R I rx ry h hs
  obtain ⟨P, G, dx, dy, Q, r, qx, qy, h, k⟩ := h
  unfold ixV at h
  split at h
  · obtain ⟨hz, c, e, q⟩ := h
    cases qx; cases qy
    exact ix_str value slice pins s τ H _ _ v u R I rx ry ⟨_, _, c, rfl, rfl, hz, e, k P G H _ _ (Le.refl _) r (.str _) q⟩ hs
  · split at h
    · rename_i xs i e _
      obtain ⟨d, e1, q⟩ := h
      cases qy
      obtain ⟨a, vs, rfl, h1, q1⟩ := seqA_ok hK r qx e
      obtain ⟨w, e2, rw'⟩ := atI_ok q1 e1
      have fin := k P G H d w (Le.refl _) r rw' q
      rcases h1 with h1 | h1
      · exact ix_list value slice pins s τ H _ _ v u R I rx ry ⟨a, vs, _, w, rfl, rfl, h1, e2, fin⟩ hs
      · exact ix_tup value slice pins s τ H _ _ v u R I rx ry ⟨a, vs, _, w, rfl, rfl, h1, e2, fin⟩ hs
    · obtain ⟨d, e, q⟩ := h
      obtain ⟨a, w, rfl, g, g1, g2⟩ := dget_ok r qx qy e
      obtain ⟨z, ez, rz⟩ := g1 d rfl
      subst ez
      exact ix_dictV hu value slice pins s τ H _ _ v u R I rx ry ⟨a, z, rfl, g, k P G H d z (Le.refl _) r rz q⟩ hs
theorem pe_ix3 {W : WX} {a b : Expr} {ta tb : T3} {pos : Pos} (hu : X.A.units + 1 < cLine) (hK : X.K = C.K) (ha : PE X a (up C W ta)) (hb : PE X b (up C W tb)) (hs : PlainIx b) : PE X (.Subscript a b pos) (up C W (t2 ixV ta tb)) :=
  PEw (pe_ix (ix_okV hu hK) ha hb hs) fun _ _ _ h => lift2 h

/-! ### slices -/
def cutD (xs : List D) (lo hi : Option Int) : List D := (xs.drop (HT.sIx xs.length 0 lo)).take (HT.sIx xs.length xs.length hi - HT.sIx xs.length 0 lo)
theorem cut_ok {P : Hp} {ds : List D} {vs : List V} (r : Rvs C P ds vs) (lo hi : Option Int) : Rvs C P (cutD ds lo hi) (cutV vs lo hi) := by
  unfold cutD cutV
  rw [r.length]
  exact (r.drop _).take _
def slV (w : Bool) : D → Option Int → Option Int → Gp → K3 → Prop
  | .str z, lo, hi, G, Q => z.length ≤ sizeLine ∧ Q (.str (cutS z lo hi)) G
  | x, lo, hi, G, Q => (∃ xs, tupA x = some xs ∧ if HT.sIx xs.length 0 lo = 0 ∧ HT.sIx xs.length xs.length hi = xs.length then Q x G else Q (.tup (cutD xs lo hi)) G) ∨ ∃ xs, seqL G x = some xs ∧ newL w (cutD xs lo hi) G Q
def upSl (C : Cn) (f : D → Option Int → Option Int → Gp → K3 → Prop) : V → Option Int → Option Int → Hp → VK → Prop := fun v lo hi H R => ∃ P G x Q, Rel C P G H ∧ Rv C P x v ∧ f x lo hi G Q ∧ kUp C P Q R
theorem cut_all {xs : List D} {lo hi : Option Int} (h : HT.sIx xs.length 0 lo = 0 ∧ HT.sIx xs.length xs.length hi = xs.length) : cutD xs lo hi = xs := by
  unfold cutD
  rw [h.1, h.2]; simp
theorem sl_okV {w : Bool} (hK : X.K = C.K) : SlR X (upSl C (slV w)) := by
  intro pins s τ H x v vl vu lo hi sl R I rx hs pl pu h
  obtain ⟨P, G, dx, Q, r, qx, h, k⟩ := h
  unfold slV at h
  split at h
  · cases qx
    exact sl_str pins s τ H _ v vl vu _ _ sl R I rx hs pl pu ⟨_, rfl, h.1, k P G H _ _ (Le.refl _) r (.str _) h.2⟩
  · rcases h with ⟨xs, e, q⟩ | ⟨xs, e, q⟩
    · obtain ⟨a, vs, rfl, h1, q1⟩ := tupA_ok (K := X.K) r qx e
      have hl := q1.length
      refine sl_tupA pins s τ H _ v vl vu _ _ sl R I rx hs pl pu ⟨a, vs, rfl, h1, fun e => ?_, fun ne => ?_⟩
      · rw [← hl] at e
        rw [if_pos e] at q
        exact k P G H _ _ (Le.refl _) r qx q
      · rw [← hl] at ne
        rw [if_neg ne] at q
        exact newT_ok r (cut_ok q1 _ _) q k
    · obtain ⟨a, vs, rfl, h1, q1⟩ := seqL_ok r qx e
      exact sl_list pins s τ H _ v vl vu _ _ sl R I rx hs pl pu ⟨a, vs, rfl, by rw [hK]; exact h1, newL_ok r (cut_ok q1 _ _) q k⟩
abbrev TO3 := S3 → Gp → (Option Int → Gp → Prop) → E3 → Prop
def upO (C : Cn) (W : WX) (t : TO3) : TO := fun τ H R => ∃ P σ G Q E, Rel C P G H ∧ Rs C P σ τ ∧ t σ G Q E ∧
  (∀ P' G' H' b, Le P P' → Rel C P' G' H' → Q b G' → R b H') ∧ eUp C P E (fun c d H => W c d τ H)
def tono : TO3 := fun _ G Q _ => Q none G
def toso (t : T3) : TO3 := fun σ G Q E => t σ G (fun x G1 => ∃ i, x = .int i ∧ Q (some i) G1) E
theorem POw {e : Option Expr} {t t' : TO} (h : PO X e t) (w : ∀ τ H R, t' τ H R → t τ H R) : PO X e t' := ⟨fun pins s σ H Q I q => h.run pins s σ H Q I (w _ _ _ q)⟩
theorem po_none3 {W : WX} : PO X none (upO C W tono) := by
  refine POw po_none fun τ H R h => ?_
  obtain ⟨P, σ, G, Q, E, r, s, h, k, ee⟩ := h
  exact k P G H _ (Le.refl _) r h
theorem po_some3 {W : WX} {e : Expr} {t : T3} (h : PE X e (up C W t)) : PO X (some e) (upO C W (toso t)) := by
  refine POw (po_some h) fun τ H R h => ?_
  obtain ⟨P, σ, G, Q, E, r, s, h, k, ee⟩ := h
  refine up_go r s h (fun P1 G1 H1 x v l1 r1 v1 ⟨i, e1, q1⟩ => ?_) ee
  subst e1
  cases v1
  exact ⟨_, rfl, k P1 G1 H1 _ l1 r1 q1⟩
def tsl (w : Bool) (t : T3) (tl th : TO3) : T3 := fun σ G Q E => t σ G (fun x G1 => tl σ G1 (fun l G2 => th σ G2 (fun u G3 => slV w x l u G3 Q) E) E) E
theorem pe_sl3 {W : WX} {w : Bool} {e : Expr} {lo hi : Option Expr} {t : T3} {tl th : TO3} {p2 pos : Pos} (hK : X.K = C.K) (he : PE X e (up C W t)) (hl : PO X lo (upO C W tl)) (hh : PO X hi (upO C W th)) :
    PE X (.Subscript e (.Slice lo hi none p2) pos) (up C W (tsl w t tl th)) := by
  refine PEw (pe_slice (sl_okV (w := w) hK) he hl hh) fun τ H R h => ?_
  obtain ⟨P, σ, G, Q, E, r, s, h, k, ee⟩ := h
  refine up_go r s h (fun P1 G1 H1 x v l1 r1 v1 q1 => ?_) ee
  refine ⟨P1, σ, G1, _, E, r1, s.mono l1, q1, fun P2 G2 H2 l l2 r2 q2 => ?_, ee.le l1⟩
  refine ⟨P2, σ, G2, _, E, r2, s.mono (l1.trans l2), q2, fun P3 G3 H3 u l3 r3 q3 => ?_, ee.le (l1.trans l2)⟩
  exact ⟨P3, G3, x, Q, r3, v1.mono (l2.trans l3), q3, k.le ((l1.trans l2).trans l3)⟩

/-! ### built-in functions -/
def lenD (G : Gp) : D → Option Nat
  | .str z => if z.length ≤ sizeLine then some z.length else none
  | .dk xs => some xs.length
  | .ref a => match G a with
    | some (.dk xs) => some xs.length
    | some (.lst xs) => some xs.length
    | _ => none
  | d => (seqA G d).map List.length
theorem Rvk.length {P : Hp} : ∀ {ds : List (Key × D)} {vs : List (Key × V)}, Rvk C P ds vs → ds.length = vs.length
  | _, _, .nil => rfl
  | _, _, .cons _ r => by simp [Rvk.length r]
theorem call_len_dV : CallR X (.builtin "len") (fun xs H Q => ∃ a kvs, xs = [.ref a] ∧ Rd H a (.dK kvs) ∧ Q (.int kvs.length) H) := by
  intro pins s σ H xs us Q I r h
  obtain ⟨a, kvs, rfl, e, q⟩ := h
  obtain ⟨u, rfl, rx⟩ := vals1 r
  cases rx
  exact d_len I e fun t s' I' => ⟨.int _, H, I', ⟨t, rfl⟩, q⟩
def intsOf : List D → Option (List Int)
  | [] => some []
  | .int i :: r => (intsOf r).map (i :: ·)
  | _ :: _ => none
def blsOf : List D → Option (List Bool)
  | [] => some []
  | .bl i :: r => (blsOf r).map (i :: ·)
  | _ :: _ => none
def strsOf : List D → Option (List Str)
  | [] => some []
  | .str i :: r => (strsOf r).map (i :: ·)
  | _ :: _ => none
theorem intsOf_ok {P : Hp} : ∀ {ds : List D} {vs : List V} {ns : List Int}, Rvs C P ds vs → intsOf ds = some ns → vs = ns.map V.int
  | _, _, _, .nil, e => by cases e; rfl
  | .int i :: r, _, _, .cons a b, e => by
    obtain ⟨ns, e1, rfl⟩ := Option.map_eq_some_iff.mp (by simpa only [intsOf] using e)
    cases a
    rw [intsOf_ok b e1]; rfl
theorem blsOf_ok {P : Hp} : ∀ {ds : List D} {vs : List V} {ns : List Bool}, Rvs C P ds vs → blsOf ds = some ns → vs = ns.map V.bl
  | _, _, _, .nil, e => by cases e; rfl
  | .bl i :: r, _, _, .cons a b, e => by
    obtain ⟨ns, e1, rfl⟩ := Option.map_eq_some_iff.mp (by simpa only [blsOf] using e)
    cases a
    rw [blsOf_ok b e1]; rfl
theorem strsOf_ok {P : Hp} : ∀ {ds : List D} {vs : List V} {ns : List Str}, Rvs C P ds vs → strsOf ds = some ns → vs = ns.map V.str
  | _, _, _, .nil, e => by cases e; rfl
  | .str i :: r, _, _, .cons a b, e => by
    obtain ⟨ns, e1, rfl⟩ := Option.map_eq_some_iff.mp (by simpa only [strsOf] using e)
    cases a
    rw [strsOf_ok b e1]; rfl
theorem Rvs.ints {P : Hp} : ∀ (ns : List Int), Rvs C P (ns.map D.int) (ns.map V.int)
  | [] => .nil
  | n :: ns => .cons (.int n) (Rvs.ints ns)
theorem Rvs.strs {P : Hp} : ∀ (ns : List Str), Rvs C P (ns.map D.str) (ns.map V.str)
  | [] => .nil
  | n :: ns => .cons (.str n) (Rvs.strs ns)
/-- the built-in functions and types that are called by name; w: the list that is made is a cell -/
inductive Bf where
  | len | abs | max2 | min2 | sum | all | any | sorted | divmod | repr | int | tuple | list | dict | str | bool
  deriving DecidableEq
def Bf.name : Bf → Str
  | .len => "len" | .abs => "abs" | .max2 => "max" | .min2 => "min" | .sum => "sum" | .all => "all" | .any => "any" | .sorted => "sorted" | .divmod => "divmod" | .repr => "repr"
  | .int => "int" | .tuple => "tuple" | .list => "list" | .dict => "dict" | .str => "str" | .bool => "bool"
def Bf.val : Bf → Value
  | .len => .builtin "len" | .abs => .builtin "abs" | .max2 => .builtin "max" | .min2 => .builtin "min" | .sum => .builtin "sum" | .all => .builtin "all" | .any => .builtin "any" | .sorted => .builtin "sorted" | .divmod => .builtin "divmod" | .repr => .builtin "repr"
  | .int => .type "int" | .tuple => .type "tuple" | .list => .type "list" | .dict => .type "dict" | .str => .type "str" | .bool => .type "bool"
def newD (w : Bool) (xs : List (Key × D)) (G : Gp) (Q : K3) : Prop := if w = true then ∀ p, G p = none → Q (.ref p) (gset G p (.dk xs)) else Q (.dk xs) G
theorem newD_ok {P : Hp} {G : Gp} {H : Hp} {w : Bool} {xs : List (Key × D)} {vs : List (Key × V)} {Q : K3} {R : VK} (r : Rel C P G H) (rv : Rvk C P xs vs) (h : newD w xs G Q) (k : kUp C P Q R) : ∀ p, H p = none → R (.ref p) (upd H p (.dK vs)) := by
  intro p hp
  unfold newD at h
  split at h
  · exact k P _ _ _ _ (Le.refl _) (r.newG hp (.dk rv)) (.ref p) (h p (r.gfree hp))
  · obtain ⟨l, r'⟩ := r.newP (o := .dK vs) hp
    exact k _ _ _ _ _ l r' (.dk upd_same (rv.mono l)) h
def bfV (w : Bool) : Bf → List D → Gp → K3 → Prop
  | .len, [x], G, Q => ∃ n, lenD G x = some n ∧ Q (.int n) G
  | .abs, [.int i], G, Q => Q (.int (if i < 0 then -i else i)) G
  | .max2, [.int i, .int j], G, Q => Q (.int (if j > i then j else i)) G
  | .min2, [.int i, .int j], G, Q => Q (.int (if j < i then j else i)) G
  | .sum, [x], G, Q => ∃ xs ns, seqL G x = some xs ∧ intsOf xs = some ns ∧ Q (.int ns.sum) G
  | .all, [x], G, Q => ∃ xs ns, seqL G x = some xs ∧ blsOf xs = some ns ∧ Q (.bl (ns.all id)) G
  | .any, [x], G, Q => ∃ xs ns, seqL G x = some xs ∧ blsOf xs = some ns ∧ Q (.bl (ns.any id)) G
  | .sorted, [x], G, Q => ∃ xs ns, seqL G x = some xs ∧ strsOf xs = some ns ∧ ns.length < 64 ∧ ∀ ys : List Str, ys.Perm ns → PyProof.Rows.sortedS ys = true → newL w (ys.map D.str) G Q
  | .divmod, [.int i, .int j], G, Q => CDiv i j ∧ Q (.tup [.int (i / j), .int (i % j)]) G
  | .repr, [x], G, Q => ∃ p, toPyG G x = some p ∧ p.showable = true ∧ SeqAt.shaped p = true ∧ p.shown.length ≤ sizeLine ∧ Q (.str p.shown) G
  | .int, [.int i], G, Q => Q (.int i) G
  | .int, [.bl b], G, Q => Q (.int (if b then 1 else 0)) G
  | .tuple, [x], G, Q => (∃ xs, tupA x = some xs ∧ Q x G) ∨ ∃ xs, seqL G x = some xs ∧ Q (.tuf xs) G
  | .list, [x], G, Q => (∃ xs, seqA G x = some xs ∧ newL w xs G Q) ∨ (∃ kvs, dicK G x = some kvs ∧ newL w (kvs.map fun kv => match kv.1 with | .inl i => D.int i | .inr s => D.str s) G Q)
  | .dict, [x], G, Q => ∃ xs, dicK G x = some xs ∧ newD w xs G Q
  | _, _, _, _ => False
/-- tuple(a list): the very object is known -/
theorem call_tupleF : CallR X (.type "tuple") (fun xs H Q => ∃ p ys, xs = [.ref p] ∧ SqL X.K H p ys ∧ ∀ l o, o.dict = none → H l = none → Q (.ref l) (upd H l (.frz o (.tup ys)))) := by
  intro pins s σ H xs us R I rr h
  obtain ⟨p, ys, rfl, hq, q⟩ := h
  obtain ⟨u, rfl, hu⟩ := vals1 rr
  cases hu
  obtain ⟨its, rv, pl, hz⟩ := I.list hq
  have hlen := rv.length
  refine PySem.call_tuple_list pl.isList (fun h' kp => ?_) (by simp only [List.size_toArray]; omega)
  have I1 : Inv X pins σ H { s with heap := h' } := I.kept (t' := s.toks) kp
  have en : (h'.push { cls := .type "tuple", data := .seq its.toArray }).get? h'.objs.size = some { cls := .type "tuple", data := .seq its.toArray } := Heap.get?_push_size _ rfl
  have ok : ObjOk X.prog X.w (upd H h'.objs.size (.frz { cls := .type "tuple", data := .seq its.toArray } (.tup ys))) (h'.push { cls := .type "tuple", data := .seq its.toArray }) h'.objs.size (.frz { cls := .type "tuple", data := .seq its.toArray } (.tup ys)) := ⟨en, hz, its, rv, PyProof.Rows.IsTup.new _ _⟩
  exact ⟨.ref h'.objs.size, _, I1.laid (t' := s.toks) (fun b o e => Heap.get?_push_of_some _ e) (Nat.le_refl _) ok, rfl, q _ _ rfl (I1.hok.fresh (Nat.le_refl _))⟩
theorem keysD_ok {P : Hp} : ∀ {ds : List (Key × D)} {vs : List (Key × V)}, Rvk C P ds vs → Rvs C P (ds.map fun kv => match kv.1 with | .inl i => D.int i | .inr s => D.str s) (vs.map fun kv => kV kv.1)
  | _, _, .nil => .nil
  | (.inl i, _) :: _, (_, _) :: _, .cons _ b => .cons (.int i) (keysD_ok b)
  | (.inr i, _) :: _, (_, _) :: _, .cons _ b => .cons (.str i) (keysD_ok b)
theorem call_reprV (hg : X.A.guards = some []) (hu : X.A.units + 66 < cLine) : CallR X (.builtin "repr") (fun xs H Q => ∃ x p, xs = [x] ∧ Dp X.K H x p ∧ p.showable = true ∧ SeqAt.shaped p = true ∧ p.shown.length ≤ sizeLine ∧ Q (.str p.shown) H) := by
  intro pins s σ H xs us Q I r h
  obtain ⟨x, p, rfl, dp, h1, h2, h3, q⟩ := h
  obtain ⟨u, rfl, rx⟩ := vals1 r
  have hd : p.hasDict = false := PyData.hasDict_of_canLay p (SeqAt.canLay_of_shaped h2)
  cases dp with
  | non =>
    cases rx
    exact PySem.P.repr_of_none ⟨.str _, H, I.tok _, ⟨_, rfl⟩, by simpa only [PyData.shown] using q⟩
  | bl b =>
    cases rx
    exact PySem.P.repr_of_bool ⟨.str _, H, I.tok _, ⟨_, rfl⟩, by simpa only [PyData.shown] using q⟩
  | int i =>
    obtain ⟨t, rfl⟩ := rx
    exact PySem.P.repr_of_int (of_decide_eq_true (by simpa only [PyData.showable] using h1)) ⟨.str _, H, I.tok _, ⟨_, rfl⟩, by simpa only [PyData.shown] using q⟩
  | str z =>
    obtain ⟨t, rfl⟩ := rx
    exact PySem.P.repr_of_str ⟨.str _, H, I.tok _, ⟨_, rfl⟩, by simpa only [PyData.shown] using q⟩ (by simpa only [PyData.shown] using h3)
  | lst hs ha =>
    obtain rfl : u = Value.ref _ := rx
    obtain ⟨as, hr⟩ := Dp.reads I _ _ _ (Dp.lst hs ha) rfl
    exact repr_of_reads' hr h1 (PyData.noDict_hsm hd) hg (by have := SeqAt.depth_of_shaped h2; omega) (fun _ _ e => e) (fun h' t tk kp => ⟨.str _, H, I.kept kp, ⟨_, rfl⟩, q⟩) h3
  | tup hs ha =>
    obtain rfl : u = Value.ref _ := rx
    obtain ⟨as, hr⟩ := Dp.reads I _ _ _ (Dp.tup hs ha) rfl
    exact repr_of_reads' hr h1 (PyData.noDict_hsm hd) hg (by have := SeqAt.depth_of_shaped h2; omega) (fun _ _ e => e) (fun h' t tk kp => ⟨.str _, H, I.kept kp, ⟨_, rfl⟩, q⟩) h3
theorem lenD_ok (hK : X.K = C.K) {P : Hp} {G : Gp} {H : Hp} (r : Rel C P G H) {d : D} {v : V} {n : Nat} (rv : Rv C P d v) (h : lenD G d = some n) :
    (∃ z, v = .str z ∧ z.length ≤ sizeLine ∧ n = z.length) ∨ (∃ a kvs, v = .ref a ∧ H a = some (.dK kvs) ∧ n = kvs.length) ∨ (∃ a ys, v = .ref a ∧ (SqL X.K H a ys ∨ SqT X.K H a ys) ∧ n = ys.length) := by
  have viaA : ∀ {d : D}, Rv C P d v → (seqA G d).map List.length = some n → ∃ a ys, v = .ref a ∧ (SqL X.K H a ys ∨ SqT X.K H a ys) ∧ n = ys.length := fun {d} rv h => by
    obtain ⟨xs, e1, e2⟩ := Option.map_eq_some_iff.mp h
    obtain ⟨a, vs, rfl, h1, q1⟩ := seqA_ok hK r rv e1
    exact ⟨a, vs, rfl, h1, by rw [← e2, q1.length]⟩
  unfold lenD at h
  split at h
  · split at h
    · cases h; cases rv
      exact .inl ⟨_, rfl, by assumption, rfl⟩
    · cases h
  · cases h
    cases rv with
    | dk s q => exact .inr (.inl ⟨_, _, rfl, r.sub _ _ s, q.length⟩)
  · cases rv
    split at h
    · rename_i xs e
      cases h
      obtain ⟨_, o, h1, h2⟩ := r.own _ _ e
      cases h2 with
      | dk q => exact .inr (.inl ⟨_, _, rfl, h1, q.length⟩)
    · rename_i xs e
      cases h
      obtain ⟨_, o, h1, h2⟩ := r.own _ _ e
      cases h2 with
      | lst q => exact .inr (.inr ⟨_, _, rfl, .inl (SqL.of h1), q.length⟩)
    · cases h
  · exact .inr (.inr (viaA rv h))
theorem bf_ok {w : Bool} {b : Bf} (hc : X.calm = true) (hg : X.A.guards = some []) (hu : X.A.units + 66 < cLine) (hK : X.K = C.K) : CallR X b.val (upCl C (bfV w b)) := by
  intro pins s τ H vs us R I rv h
  obtain ⟨P, G, xs, Q, r, qx, h, k⟩ := h
  have go : ∀ {d : D} {v : V}, Rv C P d v → Q d G → R v H := fun {d v} a b => k P G H d v (Le.refl _) r a b
  unfold bfV at h
  split at h
  · obtain ⟨n, e, q⟩ := h
    cases qx with | cons ra t => cases t with | nil =>
    rcases lenD_ok hK r ra e with ⟨z, rfl, hz, rfl⟩ | ⟨a, kvs, rfl, h1, rfl⟩ | ⟨a, ys, rfl, h1, rfl⟩
    · exact call_len_str pins s τ H _ us R I rv ⟨z, rfl, hz, go (.int _) q⟩
    · exact call_len_dV pins s τ H _ us R I rv ⟨a, kvs, rfl, .inl h1, go (.int _) q⟩
    · exact call_len_seq pins s τ H _ us R I rv ⟨a, ys, rfl, h1, go (.int _) q⟩
  · cases qx with | cons ra t => cases t with | nil => cases ra with | int =>
    exact call_abs pins s τ H _ us R I rv ⟨_, rfl, go (.int _) h⟩
  · cases qx with | cons ra t => cases t with | cons a2 t => cases t with | nil => cases ra with | int => cases a2 with | int =>
    exact call_max2 hc pins s τ H _ us R I rv ⟨_, _, rfl, go (.int _) h⟩
  · cases qx with | cons ra t => cases t with | cons a2 t => cases t with | nil => cases ra with | int => cases a2 with | int =>
    exact call_min2 hc pins s τ H _ us R I rv ⟨_, _, rfl, go (.int _) h⟩
  · obtain ⟨xs, ns, e1, e2, q⟩ := h
    cases qx with | cons ra t => cases t with | nil =>
    obtain ⟨a, vs, rfl, h1, q1⟩ := seqL_ok r ra e1
    obtain rfl := intsOf_ok q1 e2
    exact cr_sum hc pins s τ H _ us R I rv ⟨a, ns, rfl, by rw [hK]; exact h1, go (.int _) q⟩
  · obtain ⟨xs, ns, e1, e2, q⟩ := h
    cases qx with | cons ra t => cases t with | nil =>
    obtain ⟨a, vs, rfl, h1, q1⟩ := seqL_ok r ra e1
    obtain rfl := blsOf_ok q1 e2
    exact cr_all hc pins s τ H _ us R I rv ⟨a, ns, rfl, by rw [hK]; exact h1, go (.bl _) q⟩
  · obtain ⟨xs, ns, e1, e2, q⟩ := h
    cases qx with | cons ra t => cases t with | nil =>
    obtain ⟨a, vs, rfl, h1, q1⟩ := seqL_ok r ra e1
    obtain rfl := blsOf_ok q1 e2
    exact cr_any hc pins s τ H _ us R I rv ⟨a, ns, rfl, by rw [hK]; exact h1, go (.bl _) q⟩
  · obtain ⟨xs, ns, e1, e2, hl, q⟩ := h
    cases qx with | cons ra t => cases t with | nil =>
    obtain ⟨a, vs, rfl, h1, q1⟩ := seqL_ok r ra e1
    obtain rfl := strsOf_ok q1 e2
    exact cr_sortedS pins s τ H _ us R I rv ⟨a, ns, rfl, by rw [hK]; exact h1, hl, fun ys p pm so hp => newL_ok r (Rvs.strs ys) (q ys pm so) k p hp⟩
  · cases qx with | cons ra t => cases t with | cons a2 t => cases t with | nil => cases ra with | int => cases a2 with | int =>
    refine call_divmod pins s τ H _ us R I rv ⟨_, _, rfl, h.1, newT_ok r (.cons (.int _) (.cons (.int _) .nil)) h.2 k⟩
  · obtain ⟨p, e, h1, h2, h3, q⟩ := h
    cases qx with | cons ra t => cases t with | nil =>
    exact call_reprV hg hu pins s τ H _ us R I rv ⟨_, p, rfl, toPyG_ok hK r ra e, h1, h2, h3, go (.str _) q⟩
  · cases qx with | cons ra t => cases t with | nil => cases ra with | int =>
    exact call_int1 pins s τ H _ us R I rv (.inl ⟨_, rfl, go (.int _) h⟩)
  · cases qx with | cons ra t => cases t with | nil => cases ra with | bl =>
    exact call_int1 pins s τ H _ us R I rv (.inr ⟨_, rfl, go (.int _) h⟩)
  · cases qx with | cons ra t => cases t with | nil =>
    rcases h with ⟨xs, e, q⟩ | ⟨xs, e, q⟩
    · obtain ⟨a, vs, rfl, h1, q1⟩ := tupA_ok (K := X.K) r ra e
      exact call_tuple_of pins s τ H _ us R I rv ⟨_, _, rfl, .inr ⟨h1, go ra q⟩⟩
    · obtain ⟨a, vs, rfl, h1, q1⟩ := seqL_ok r ra e
      exact call_tupleF pins s τ H _ us R I rv ⟨_, _, rfl, by rw [hK]; exact h1, fun l o ho hn => by
        obtain ⟨l2, r2⟩ := r.newP (o := .frz o (.tup vs)) hn
        exact k _ _ _ _ _ l2 r2 (.tuf ho upd_same (q1.mono l2)) q⟩
  · cases qx with | cons ra t => cases t with | nil =>
    rcases h with ⟨xs, e, q⟩ | ⟨kvs, e, q⟩
    · obtain ⟨a, vs, rfl, h1, q1⟩ := seqA_ok hK r ra e
      exact call_list_of pins s τ H _ us R I rv ⟨a, vs, rfl, h1, newL_ok r q1 q k⟩
    · obtain ⟨a, vs, rfl, h1, q1⟩ := dicK_ok r ra e
      exact call_listD hc pins s τ H _ us R I rv ⟨a, vs, rfl, .inl h1, newL_ok r (keysD_ok q1) q k⟩
  · obtain ⟨xs, e, q⟩ := h
    cases qx with | cons ra t => cases t with | nil =>
    obtain ⟨a, vs, rfl, h1, q1⟩ := dicK_ok r ra e
    exact call_dictD pins s τ H _ us R I rv ⟨a, vs, rfl, .inl h1, newD_ok r q1 q k⟩
  · exact h.elim
end
end V3
set_option Elab.async false
set_option linter.all false
set_option maxRecDepth 100000
set_option maxHeartbeats 4000000
/-! V6: statements over trees: blocks, ifs, targets, loops. -/
namespace V3
open PySem PySem.Spec L2

structure N3 where
  nx : S3 → Gp → Prop
  rt : K3
  bk : S3 → Gp → Prop
  ct : S3 → Gp → Prop
abbrev ES3 := X3 → S3 → Gp → Prop
abbrev TS3 := N3 → ES3 → S3 → Gp → Prop
abbrev TG3 := D → S3 → Gp → (S3 → Gp → Prop) → ES3 → Prop
abbrev TGs3 := List D → S3 → Gp → (S3 → Gp → Prop) → ES3 → Prop
def sUp (C : Cn) (P : Hp) (N : S3 → Gp → Prop) (R : L2.St → Hp → Prop) : Prop := ∀ P' G' H' σ' τ', Le P P' → Rel C P' G' H' → Rs C P' σ' τ' → N σ' G' → R τ' H'
def esUp (C : Cn) (P : Hp) (E : ES3) (W : WX) : Prop := ∀ P' G' H' σ' τ' x cls d, Le P P' → Rel C P' G' H' → Rs C P' σ' τ' → Xr C P' x cls d → E x σ' G' → W cls d τ' H'
def upS (C : Cn) (W : WX) (t : TS3) : TS := fun D τ H => ∃ P σ G N E, Rel C P G H ∧ Rs C P σ τ ∧ t N E σ G ∧ sUp C P N.nx D.nx ∧ kUp C P N.rt D.rt ∧ sUp C P N.bk D.bk ∧ sUp C P N.ct D.ct ∧ esUp C P E W
def upG (C : Cn) (W : WX) (t : TG3) : TG := fun v τ H R => ∃ P σ G d Q E, Rel C P G H ∧ Rs C P σ τ ∧ Rv C P d v ∧ t d σ G Q E ∧ sUp C P Q R ∧ esUp C P E W
def upGs (C : Cn) (W : WX) (t : TGs3) : TGs := fun vs τ H R => ∃ P σ G ds Q E, Rel C P G H ∧ Rs C P σ τ ∧ Rvs C P ds vs ∧ t ds σ G Q E ∧ sUp C P Q R ∧ esUp C P E W
section
variable {C : Cn} {W : WX} {X : Cx} {P P' : Hp}
theorem sUp.le {N : S3 → Gp → Prop} {R : L2.St → Hp → Prop} (h : sUp C P N R) (l : Le P P') : sUp C P' N R := fun P2 G H σ τ l2 => h P2 G H σ τ (l.trans l2)
theorem esUp.le {E : ES3} (h : esUp C P E W) (l : Le P P') : esUp C P' E W := fun P2 G H σ τ x c d l2 => h P2 G H σ τ x c d (l.trans l2)
theorem esUp.ex {E : ES3} {σ : S3} {τ : L2.St} (h : esUp C P E W) (s : Rs C P σ τ) : eUp C P (fun x G => E x σ G) (fun c d H => W c d τ H) := fun P2 G H x c d l r q e => h P2 G H σ τ x c d l r (s.mono l) q e
theorem PSw {st : Stmt} {t t' : TS} (h : PS X st t) (w : ∀ D τ H, t' D τ H → t D τ H) : PS X st t' := ⟨fun pins s σ H D I q => h.run pins s σ H D I (w _ _ _ q)⟩
theorem PSsw {st : List Stmt} {t t' : TS} (h : PSs X st t) (w : ∀ D τ H, t' D τ H → t D τ H) : PSs X st t' := ⟨fun pins s σ H D I q => h.run pins s σ H D I (w _ _ _ q)⟩
theorem PGw {e : Expr} {t t' : TG} (h : PG X e t) (w : ∀ v τ H R, t' v τ H R → t v τ H R) : PG X e t' := ⟨fun pins s σ H v u Q I r q => h.run pins s σ H v u Q I r (w _ _ _ _ q)⟩
theorem PGsw {e : List Expr} {t t' : TGs} (h : PGs X e t) (w : ∀ v τ H R, t' v τ H R → t v τ H R) : PGs X e t' := ⟨fun pins s σ H v u Q I r q => h.run pins s σ H v u Q I r (w _ _ _ _ q)⟩

def snil : TS3 := fun N _ σ G => N.nx σ G
def sseq (t u : TS3) : TS3 := fun N E σ G => t { N with nx := fun σ1 G1 => u N E σ1 G1 } E σ G
theorem pss_nil3 : PSs X [] (upS C W snil) := PSsw pss_nil fun D τ H h => by
  obtain ⟨P, σ, G, N, E, r, s, h, h1, _⟩ := h
  exact h1 P G H σ τ (Le.refl _) r s h
theorem pss_cons3 {st : Stmt} {rest : List Stmt} {t u : TS3} (h1 : PS X st (upS C W t)) (h2 : PSs X rest (upS C W u)) : PSs X (st :: rest) (upS C W (sseq t u)) := by
  refine PSsw (pss_cons h1 h2) fun D τ H h => ?_
  obtain ⟨P, σ, G, N, E, r, s, h, h1, h2, h3, h4, h5⟩ := h
  exact ⟨P, σ, G, _, E, r, s, h, fun P2 G2 H2 σ2 τ2 l2 r2 s2 q2 => ⟨P2, σ2, G2, N, E, r2, s2, q2, h1.le l2, h2.le l2, h3.le l2, h4.le l2, h5.le l2⟩, h2, h3, h4, h5⟩
def sret (t : T3) : TS3 := fun N E σ G => t σ G N.rt (fun x G1 => E x σ G1)
theorem ps_ret3 {e : Expr} {t : T3} {pos : Pos} (h : PE X e (up C W t)) : PS X (.Return (some e) pos) (upS C W (sret t)) := by
  refine PSw (ps_ret h) fun D τ H h => ?_
  obtain ⟨P, σ, G, N, E, r, s, h, h1, h2, h3, h4, h5⟩ := h
  exact ⟨P, σ, G, _, _, r, s, h, h2, h5.ex s⟩
def sretN : TS3 := fun N _ _ G => N.rt .non G
theorem ps_retN3 {pos : Pos} : PS X (.Return none pos) (upS C W sretN) := PSw ps_retN fun D τ H h => by
  obtain ⟨P, σ, G, N, E, r, s, h, h1, h2, _⟩ := h
  exact h2 P G H _ _ (Le.refl _) r .non h
def sexp (t : T3) : TS3 := fun N E σ G => t σ G (fun _ G1 => N.nx σ G1) (fun x G1 => E x σ G1)
theorem ps_exp3 {e : Expr} {t : T3} {pos : Pos} (h : PE X e (up C W t)) (hs : swapsWith e none pos.line X.env = pure false) : PS X (.Expr e pos) (upS C W (sexp t)) := by
  refine PSw (ps_expr h hs) fun D τ H h => ?_
  obtain ⟨P, σ, G, N, E, r, s, h, h1, h2, h3, h4, h5⟩ := h
  exact ⟨P, σ, G, _, _, r, s, h, fun P2 G2 H2 d v l2 r2 _ q2 => h1 P2 G2 H2 σ τ l2 r2 (s.mono l2) q2, h5.ex s⟩
def sif (c : TT3) (t u : TS3) : TS3 := fun N E σ G => c σ G (fun b G1 => if b = true then t N E σ G1 else u N E σ G1) (fun x G1 => E x σ G1)
theorem ps_if3 {c : Expr} {a b : List Stmt} {tc : TT3} {t u : TS3} {pos : Pos} (hc : PT X c (upT C W tc)) (ha : PSs X a (upS C W t)) (hb : PSs X b (upS C W u)) : PS X (.If c a b pos) (upS C W (sif tc t u)) := by
  refine PSw (ps_if hc ha hb) fun D τ H h => ?_
  obtain ⟨P, σ, G, N, E, r, s, h, h1, h2, h3, h4, h5⟩ := h
  refine ⟨P, σ, G, _, _, r, s, h, fun P2 G2 H2 b l2 r2 q2 => ?_, h5.ex s⟩
  cases b with
  | true => exact ⟨P2, σ, G2, N, E, r2, s.mono l2, q2, h1.le l2, h2.le l2, h3.le l2, h4.le l2, h5.le l2⟩
  | false => exact ⟨P2, σ, G2, N, E, r2, s.mono l2, q2, h1.le l2, h2.le l2, h3.le l2, h4.le l2, h5.le l2⟩
def sbrk : TS3 := fun N _ σ G => N.bk σ G
def scnt : TS3 := fun N _ σ G => N.ct σ G
theorem ps_brk3 {pos : Pos} : PS X (.Break pos) (upS C W sbrk) := PSw ps_break fun D τ H h => by
  obtain ⟨P, σ, G, N, E, r, s, h, h1, h2, h3, _⟩ := h
  exact h3 P G H σ τ (Le.refl _) r s h
theorem ps_cnt3 {pos : Pos} : PS X (.Continue pos) (upS C W scnt) := PSw ps_continue fun D τ H h => by
  obtain ⟨P, σ, G, N, E, r, s, h, h1, h2, h3, h4, _⟩ := h
  exact h4 P G H σ τ (Le.refl _) r s h
theorem ps_pass3 {pos : Pos} : PS X (.Pass pos) (upS C W snil) := PSw ps_pass fun D τ H h => by
  obtain ⟨P, σ, G, N, E, r, s, h, h1, _⟩ := h
  exact h1 P G H σ τ (Le.refl _) r s h
/-- what is not told is never come to -/
def snev : TS3 := fun _ _ _ _ => False
theorem ps_nev3 {st : Stmt} : PS X st (upS C W snev) := PSw ps_never fun D τ H h => by
  obtain ⟨_, _, _, _, _, _, _, h, _⟩ := h
  exact h.elim
def tnev : T3 := fun _ _ _ _ => False
theorem pe_nev3 {e : Expr} : PE X e (up C W tnev) := ⟨fun pins s σ H Q I h => by
  obtain ⟨_, _, _, _, _, _, _, h, _⟩ := h
  exact h.elim⟩

/-! ### targets -/
def gnm (i : Nat) : TG3 := fun d σ G Q _ => Q (σ.set i (some d)) G
theorem pg_nm3 {i : Nat} {x : Str} {pos : Pos} (hN : X.N.Nodup) (hi : X.N[i]? = some x) (hx : Loc X.env.scope x) (hf : X.fn x = true ∨ X.env.scope.names.lookup x = some .local) : PG X (.Name x pos) (upG C W (gnm i)) := by
  refine PGw (pg_name hN hi hx hf) fun v τ H R h => ?_
  obtain ⟨P, σ, G, d, Q, E, r, s, rv, h, k, e⟩ := h
  exact k P G H _ _ (Le.refl _) r (s.set rv i) h
def gsn : TGs3 := fun ds σ G Q _ => ds = [] ∧ Q σ G
def gsc (t : TG3) (u : TGs3) : TGs3 := fun ds σ G Q E => ∃ d r, ds = d :: r ∧ t d σ G (fun σ1 G1 => u r σ1 G1 Q E) E
theorem pgs_n3 : PGs X [] (upGs C W gsn) := PGsw pgs_nil fun vs τ H R h => by
  obtain ⟨P, σ, G, d, Q, E, r, s, rv, ⟨e1, h⟩, k, e⟩ := h
  subst e1
  cases rv
  exact ⟨rfl, k P G H _ _ (Le.refl _) r s h⟩
theorem pgs_c3 {e : Expr} {es : List Expr} {t : TG3} {u : TGs3} (h1 : PG X e (upG C W t)) (h2 : PGs X es (upGs C W u)) (hs : (assignEach (e :: es) X.env).map (·.2) = assign e X.env :: (assignEach es X.env).map (·.2)) : PGs X (e :: es) (upGs C W (gsc t u)) := by
  refine PGsw (pgs_cons h1 h2 hs) fun vs τ H R h => ?_
  obtain ⟨P, σ, G, ds, Q, E, r, s, rv, ⟨d, ds', e1, h⟩, k, ee⟩ := h
  subst e1
  cases rv with
  | cons a b =>
    refine ⟨_, _, rfl, P, σ, G, d, _, E, r, s, a, h, fun P2 G2 H2 σ2 τ2 l2 r2 s2 q2 => ?_, ee⟩
    exact ⟨P2, σ2, G2, ds', Q, E, r2, s2, b.mono l2, q2, k.le l2, ee.le l2⟩
def gtp (n : Nat) (t : TGs3) : TG3 := fun d σ G Q E => ∃ ds, d = .tup ds ∧ ds.length = n ∧ t ds σ G Q E
theorem pg_tp3 {es : List Expr} {k n : Nat} {t : TGs3} {pos : Pos} (hc : X.calm = true) (h : PGs X es (upGs C W t)) (hn : (assignEach es X.env).length = n) (hst : (assignEach es X.env).findIdx? (·.1) = none) : PG X (.Tuple es k pos) (upG C W (gtp n t)) := by
  refine PGw (pg_tup hc h hn hst) fun v τ H R h => ?_
  obtain ⟨P, σ, G, d, Q, E, r, s, rv, ⟨ds, e1, hl, h⟩, k, ee⟩ := h
  subst e1
  cases rv with
  | tup s1 q1 => exact ⟨_, _, rfl, SqT.of (r.sub _ _ s1), by rw [← q1.length]; exact hl, P, σ, G, ds, Q, E, r, s, q1, h, k, ee⟩
/-- o[i] = v -/
def setV : D → D → D → Gp → (Gp → Prop) → Prop
  | .ref a, i, d, G, Q => match G a, i with
    | some (.lst xs), .int k => ∃ j, ixN xs.length k = some j ∧ Q (gset G a (.lst (xs.set j d)))
    | some (.dk xs), i => ∃ k, keyD i = some k ∧ xs.length < sizeLine ∧ Q (gset G a (.dk (if (xs.any fun kv => decide (kv.1 = k)) then xs.map fun kv => if kv.1 = k then (kv.1, d) else kv else xs ++ [(k, d)])))
    | some (.dt xs), i => ∃ k, keyT i = some k ∧ xs.length < sizeLine ∧ Q (gset G a (.dt (if (xs.any fun kv => decide (kv.1 = k)) then xs.map fun kv => if kv.1 = k then (kv.1, d) else kv else xs ++ [(k, d)])))
    | _, _ => False
  | _, _, _, _, _ => False
def upSet (C : Cn) (f : D → D → D → Gp → (Gp → Prop) → Prop) : TSet := fun o i v H R => ∃ P G x y z Q, Rel C P G H ∧ Rv C P x o ∧ Rv C P y i ∧ Rv C P z v ∧ f x y z G Q ∧ ∀ P' G' H', Le P P' → Rel C P' G' H' → Q G' → R H'
end
end V3
set_option Elab.async false
set_option linter.all false
set_option maxRecDepth 100000
set_option maxHeartbeats 4000000
/-! V7: stores: items, attributes, names, several at once. -/
namespace V3
open PySem PySem.Spec L2
section
variable {C : Cn} {W : WX} {X : Cx}
/-- put, over trees -/
def putD {κ : Type} [DecidableEq κ] (kvs : List (κ × D)) (k : κ) (d : D) : List (κ × D) := if kvs.any (fun p => decide (p.1 = k)) = true then kvs.map fun p => if p.1 = k then (p.1, d) else p else kvs ++ [(k, d)]
theorem Rvk.any {P : Hp} (k : Key) : ∀ {ds : List (Key × D)} {vs : List (Key × V)}, Rvk C P ds vs → (ds.any fun p => decide (p.1 = k)) = vs.any fun p => decide (p.1 = k)
  | _, _, .nil => rfl
  | _, _, .cons a b => by simp only [List.any_cons, Rvk.any k b]
theorem Rvk.mp {P : Hp} {d : D} {v : V} (k : Key) (r : Rv C P d v) : ∀ {ds : List (Key × D)} {vs : List (Key × V)}, Rvk C P ds vs → Rvk C P (ds.map fun p => if p.1 = k then (p.1, d) else p) (vs.map fun p => if p.1 = k then (p.1, v) else p)
  | _, _, .nil => .nil
  | (k', d') :: ds, (_, v') :: vs, .cons a b => by
    simp only [List.map_cons]
    by_cases h : k' = k
    · rw [if_pos h, if_pos h]; exact .cons r (Rvk.mp k r b)
    · rw [if_neg h, if_neg h]; exact .cons a (Rvk.mp k r b)
theorem Rvk.snoc {P : Hp} {d : D} {v : V} {k : Key} (r : Rv C P d v) : ∀ {ds : List (Key × D)} {vs : List (Key × V)}, Rvk C P ds vs → Rvk C P (ds ++ [(k, d)]) (vs ++ [(k, v)])
  | _, _, .nil => .cons r .nil
  | _, _, .cons a b => .cons a (Rvk.snoc r b)
theorem Rvk.put {P : Hp} {d : D} {v : V} {k : Key} (r : Rv C P d v) {ds : List (Key × D)} {vs : List (Key × V)} (h : Rvk C P ds vs) : Rvk C P (putD ds k d) (putK vs k v) := by
  unfold putD putK
  rw [h.any k]
  split
  · exact h.mp k r
  · exact h.snoc r
theorem Rvt.any {P : Hp} (k : List Key) : ∀ {ds : List (List Key × D)} {vs : List (List Key × V)}, Rvt C P ds vs → (ds.any fun p => decide (p.1 = k)) = vs.any fun p => decide (p.1 = k)
  | _, _, .nil => rfl
  | _, _, .cons a b => by simp only [List.any_cons, Rvt.any k b]
theorem Rvt.mp {P : Hp} {d : D} {v : V} (k : List Key) (r : Rv C P d v) : ∀ {ds : List (List Key × D)} {vs : List (List Key × V)}, Rvt C P ds vs → Rvt C P (ds.map fun p => if p.1 = k then (p.1, d) else p) (vs.map fun p => if p.1 = k then (p.1, v) else p)
  | _, _, .nil => .nil
  | (k', d') :: ds, (_, v') :: vs, .cons a b => by
    simp only [List.map_cons]
    by_cases h : k' = k
    · rw [if_pos h, if_pos h]; exact .cons r (Rvt.mp k r b)
    · rw [if_neg h, if_neg h]; exact .cons a (Rvt.mp k r b)
theorem Rvt.snoc {P : Hp} {d : D} {v : V} {k : List Key} (r : Rv C P d v) : ∀ {ds : List (List Key × D)} {vs : List (List Key × V)}, Rvt C P ds vs → Rvt C P (ds ++ [(k, d)]) (vs ++ [(k, v)])
  | _, _, .nil => .cons r .nil
  | _, _, .cons a b => .cons a (Rvt.snoc r b)
theorem Rvt.put {P : Hp} {d : D} {v : V} {k : List Key} (r : Rv C P d v) {ds : List (List Key × D)} {vs : List (List Key × V)} (h : Rvt C P ds vs) : Rvt C P (putD ds k d) (putK vs k v) := by
  unfold putD putK
  rw [h.any k]
  split
  · exact h.mp k r
  · exact h.snoc r
theorem Rvt.length {P : Hp} : ∀ {ds : List (List Key × D)} {vs : List (List Key × V)}, Rvt C P ds vs → ds.length = vs.length
  | _, _, .nil => rfl
  | _, _, .cons _ r => by simp [Rvt.length r]

/-- o[i] = v over trees -/
def setW : D → D → D → Gp → (Gp → Prop) → Prop
  | .ref a, i, d, G, Q => match G a with
    | some (.lst xs) => ∃ k j, i = .int k ∧ ixN xs.length k = some j ∧ Q (gset G a (.lst (xs.set j d)))
    | some (.dk xs) => ∃ k, keyD i = some k ∧ xs.length < sizeLine ∧ Q (gset G a (.dk (putD xs k d)))
    | some (.dt xs) => ∃ k, keyT i = some k ∧ xs.length < sizeLine ∧ Q (gset G a (.dt (putD xs k d)))
    | _ => False
  | _, _, _, _, _ => False
theorem set_okV (hu : X.A.units + 1 < cLine) (hK : X.K = C.K) : PSet X (upSet C setW) := by
  intro pins s σ H o i v ov iv u R I ro ri rv h
  obtain ⟨P, G, x, y, z, Q, r, rx, ry, rz, h, k⟩ := h
  cases rx with
  | ref a =>
    simp only [setW] at h
    split at h
    · rename_i xs e
      obtain ⟨ki, j, e1, e2, q⟩ := h
      subst e1
      obtain ⟨_, o, h1, h2⟩ := r.own _ _ e
      cases h2 with
      | lst q2 =>
        cases ry
        refine set_list pins s σ H _ _ _ ov iv u _ I ro ri rv ⟨a, _, ki, j, rfl, rfl, h1, by rw [← q2.length]; exact e2, ?_⟩
        exact k P _ _ (Le.refl _) (r.write e (.lst (q2.set rz j))) q
    · rename_i xs e
      obtain ⟨key, e1, hl, q⟩ := h
      obtain ⟨_, o, h1, h2⟩ := r.own _ _ e
      cases h2 with
      | dk q2 =>
        have ek := keyD_ok ry e1
        subst ek
        cases ro
        refine d_setItem hu I (DPut.k h1 (by rw [← q2.length]; exact hl)) ri rv fun s' I' => ⟨_, I', ?_⟩
        exact k P _ _ (Le.refl _) (r.write e (.dk (q2.put rz))) q
    · rename_i xs e
      obtain ⟨key, e1, hl, q⟩ := h
      obtain ⟨_, o, h1, h2⟩ := r.own _ _ e
      cases h2 with
      | dt q2 =>
        cases ry with
        | tup sA qA =>
          have e3 := keyDs_ok qA (by simpa only [keyT] using e1)
          subst e3
          cases ri
          cases ro
          refine d_setItem hu I (DPut.t h1 (r.sub _ _ sA) (by rw [← q2.length]; exact hl)) rfl rv fun s' I' => ⟨_, I', ?_⟩
          exact k P _ _ (Le.refl _) (r.write e (.dt (q2.put rz))) q
        | _ => simp [keyT] at e1
    · exact h.elim
  | _ => exact (show False from h).elim
def gsub3 (to ti : T3) (f : D → D → D → Gp → (Gp → Prop) → Prop) : TG3 := fun d σ G Q E => to σ G (fun o G1 => ti σ G1 (fun i G2 => f o i d G2 fun G3 => Q σ G3) (fun x G2 => E x σ G2)) (fun x G1 => E x σ G1)
theorem pg_sub3 {o i : Expr} {to ti : T3} {pos : Pos} (hu : X.A.units + 1 < cLine) (hK : X.K = C.K) (ho : PE X o (up C W to)) (hi : PE X i (up C W ti))
    (ha : ∀ v, assign (.Subscript o i pos) X.env v = (do
      let ov ← holding [v] (eval o X.env)
      let iv ← holding [v, ov] (eval i X.env)
      standAt pos
      holding [v, ov, iv] (setItem ov iv v)
      release [v, ov, iv] [])) : PG X (.Subscript o i pos) (upG C W (gsub3 to ti setW)) := by
  refine PGw (pg_sub ho hi (set_okV hu hK) ha) fun v τ H R h => ?_
  obtain ⟨P, σ, G, d, Q, E, r, s, rv, h, k, ee⟩ := h
  refine ⟨P, σ, G, _, _, r, s, h, fun P1 G1 H1 x w l1 r1 v1 q1 => ?_, ee.ex s⟩
  refine ⟨P1, σ, G1, _, _, r1, s.mono l1, q1, fun P2 G2 H2 y w2 l2 r2 v2 q2 => ?_, (ee.le l1).ex (s.mono l1)⟩
  exact ⟨P2, G2, x, y, d, _, r2, v1.mono l2, v2, rv.mono (l1.trans l2), q2, fun P3 G3 H3 l3 r3 q3 => k P3 G3 H3 σ τ (l1.trans (l2.trans l3)) r3 (s.mono (l1.trans (l2.trans l3))) q3⟩
def sasg (t : T3) (g : TG3) : TS3 := fun N E σ G => t σ G (fun d G1 => g d σ G1 N.nx E) (fun x G1 => E x σ G1)
theorem upAsg {t : T3} {g : TG3} {D0 : Ends} {τ : L2.St} {H : Hp} (h : upS C W (sasg t g) D0 τ H) : tAsg (up C W t) (upG C W g) D0 τ H := by
  obtain ⟨P, σ, G, N, E, r, s, h, h1, h2, h3, h4, h5⟩ := h
  refine ⟨P, σ, G, _, _, r, s, h, fun P1 G1 H1 d v l1 r1 v1 q1 => ?_, h5.ex s⟩
  exact ⟨P1, σ, G1, d, N.nx, E, r1, s.mono l1, v1, q1, h1.le l1, h5.le l1⟩
theorem ps_asg3 {tg e : Expr} {t : T3} {g : TG3} {pos : Pos} (he : PE X e (up C W t)) (hg : PG X tg (upG C W g)) (hs : swapsWithSole [tg] e pos.line X.env = pure false) (hw : swappedStores [tg] e X.env = pure none)
    (h1 : (assignEach [tg] X.env).map (·.2) = [assign tg X.env]) : PS X (.Assign [tg] e pos) (upS C W (sasg t g)) := PSw (ps_asg he hg hs hw h1) fun _ _ _ h => upAsg h
theorem ps_set3 {i : Nat} {x : Str} {e : Expr} {t : T3} {pos pos' : Pos} (hN : X.N.Nodup) (hi : X.N[i]? = some x) (hx : Loc X.env.scope x) (he : PE X e (up C W t)) (hs : swapsWith e (some (.Name x pos')) pos.line X.env = pure false) (hf : X.fn x = true ∨ X.env.scope.names.lookup x = some .local) :
    PS X (.Assign [.Name x pos'] e pos) (upS C W (sasg t (gnm i))) := PSw (ps_set hN hi hx he hs hf) fun D0 τ H h => by
  obtain ⟨P, σ, G, N, E, r, s, h, h1, h2, h3, h4, h5⟩ := h
  refine ⟨P, σ, G, _, _, r, s, h, fun P1 G1 H1 d v l1 r1 v1 q1 => ?_, h5.ex s⟩
  exact h1 P1 G1 H1 _ _ l1 r1 ((s.mono l1).set v1 i) q1
/-- a, b = x, y by names -/
def spar (i j : Nat) (t : TA3) : TS3 := fun N E σ G => t σ G (fun ds G1 => ∃ x y, ds = [x, y] ∧ N.nx ((σ.set i (some x)).set j (some y)) G1) (fun x G1 => E x σ G1)
theorem ps_parV {i j : Nat} {x y : Str} {a b : Expr} {t : TA3} {px py pt pos : Pos} {kt k2 pt2} (hc : X.calm = true) (hN : X.N.Nodup) (hi : X.N[i]? = some x) (hj : X.N[j]? = some y) (hij : i ≠ j)
    (hx : X.env.scope.names.lookup x = some .local) (hy : X.env.scope.names.lookup y = some .local) (ha : PA X [a, b] (upA C W t))
    (hw : swappedStores [.Tuple [.Name x px, .Name y py] kt pt] (.Tuple [a, b] k2 pt2) X.env = pure (some [x, y]))
    (hs : swapsWithSole [.Tuple [.Name x px, .Name y py] kt pt] (.Tuple [a, b] k2 pt2) pos.line X.env = pure false) :
    PS X (.Assign [.Tuple [.Name x px, .Name y py] kt pt] (.Tuple [a, b] k2 pt2) pos) (upS C W (spar i j t)) := PSw (ps_par hc hN hi hj hij hx hy ha hw hs) fun D0 τ H h => by
  obtain ⟨P, σ, G, N, E, r, s, h, h1, h2, h3, h4, h5⟩ := h
  refine ⟨P, σ, G, _, _, r, s, h, fun P1 G1 H1 ds vs l1 r1 v1 q1 => ?_, h5.ex s⟩
  obtain ⟨p, q, e, q1⟩ := q1
  subst e
  cases v1 with
  | cons a1 b1 =>
    cases b1 with
    | cons a2 b2 =>
      cases b2
      exact ⟨_, _, rfl, h1 P1 G1 H1 _ _ l1 r1 (((s.mono l1).set a1 i).set a2 j) q1⟩
def spar3 (i j l : Nat) (t : TA3) : TS3 := fun N E σ G => t σ G (fun ds G1 => ∃ x y z, ds = [x, y, z] ∧ N.nx (((σ.set i (some x)).set j (some y)).set l (some z)) G1) (fun x G1 => E x σ G1)
theorem ps_par3V {i j l : Nat} {x y z : Str} {a b c : Expr} {t : TA3} {px py pz pt pos : Pos} {kt k2 pt2} (hc : X.calm = true) (hN : X.N.Nodup) (hi : X.N[i]? = some x) (hj : X.N[j]? = some y) (hl : X.N[l]? = some z) (hij : i ≠ j) (hil : i ≠ l) (hjl : j ≠ l)
    (hx : X.env.scope.names.lookup x = some .local) (hy : X.env.scope.names.lookup y = some .local) (hz : X.env.scope.names.lookup z = some .local) (ha : PA X [a, b, c] (upA C W t))
    (hw : swappedStores [.Tuple [.Name x px, .Name y py, .Name z pz] kt pt] (.Tuple [a, b, c] k2 pt2) X.env = pure (some [x, y, z]))
    (hs : swapsWithSole [.Tuple [.Name x px, .Name y py, .Name z pz] kt pt] (.Tuple [a, b, c] k2 pt2) pos.line X.env = pure false) :
    PS X (.Assign [.Tuple [.Name x px, .Name y py, .Name z pz] kt pt] (.Tuple [a, b, c] k2 pt2) pos) (upS C W (spar3 i j l t)) := PSw (ps_par3 hc hN hi hj hl hij hil hjl hx hy hz ha hw hs) fun D0 τ H h => by
  obtain ⟨P, σ, G, N, E, r, s, h, h1, h2, h3, h4, h5⟩ := h
  refine ⟨P, σ, G, _, _, r, s, h, fun P1 G1 H1 ds vs l1 r1 v1 q1 => ?_, h5.ex s⟩
  obtain ⟨p, q, w, e, q1⟩ := q1
  subst e
  cases v1 with
  | cons a1 b1 =>
    cases b1 with
    | cons a2 b2 =>
      cases b2 with
      | cons a3 b3 =>
        cases b3
        exact ⟨_, _, _, rfl, h1 P1 G1 H1 _ _ l1 r1 ((((s.mono l1).set a1 i).set a2 j).set a3 l) q1⟩

/-! ### attributes -/
/-- the class c has the attribute k as one of its instances -/
def Owns (C : Cb) (c k : Nat) : Prop := Cls C.K (C.cls c) ∧ NoAttr C.K (C.cls c) (C.att k)
def AttInj (C : Cb) : Prop := ∀ j k, C.att j = C.att k → j = k
/-- an instance and what it holds -/
def insD (G : Gp) : D → Option (Nat × List (Nat × D))
  | .obj c fs => some (c, fs)
  | .ref a => match G a with
    | some (.ins c fs) => some (c, fs)
    | _ => none
  | _ => none
theorem insD_ok {P : Hp} {G : Gp} {H : Hp} (r : Rel C P G H) : ∀ {d : D} {v : V} {p : Nat × List (Nat × D)}, Rv C P d v → insD G d = some p → ∃ a dx vs, v = .ref a ∧ H a = some (.ins (C.cls p.1) dx vs) ∧ Rvf C P p.2 vs
  | .obj c fs, _, _, .obj s q, e => by
    cases e
    exact ⟨_, _, _, rfl, r.sub _ _ s, q⟩
  | .ref a, _, _, .ref _, e => by
    simp only [insD] at e
    split at e
    · rename_i c fs h
      cases e
      obtain ⟨_, o, h1, h2⟩ := r.own _ _ h
      cases h2 with
      | ins q => exact ⟨a, _, _, rfl, h1, q⟩
    · cases e
theorem Rvf.lookup {P : Hp} (hi : AttInj C) {k : Nat} {d : D} : ∀ {ds : List (Nat × D)} {vs : List (Str × V)}, Rvf C P ds vs → ds.lookup k = some d → ∃ v, vs.lookup (C.att k) = some v ∧ Rv C P d v
  | _, _, .nil, e => by simp at e
  | (j, d') :: ds, (_, v') :: vs, .cons a b, e => by
    by_cases h : k = j
    · subst h
      simp only [List.lookup_cons, beq_self_eq_true] at e
      cases e
      exact ⟨v', by simp only [List.lookup_cons, beq_self_eq_true], a⟩
    · have h1 : (k == j) = false := by simpa using h
      have h2 : (C.att k == C.att j) = false := by
        have : ¬ C.att k = C.att j := fun z => h (hi _ _ z)
        simpa using this
      simp only [List.lookup_cons, h1] at e
      obtain ⟨v, e1, e2⟩ := Rvf.lookup hi b e
      refine ⟨v, ?_, e2⟩
      simp only [List.lookup_cons, h2]
      exact e1
def putA (k : Nat) (d : D) : List (Nat × D) → List (Nat × D)
  | [] => [(k, d)]
  | (j, x) :: r => if j = k then (j, d) :: r else (j, x) :: putA k d r
theorem Rvf.put {P : Hp} (hi : AttInj C) {k : Nat} {d : D} {v : V} (r : Rv C P d v) : ∀ {ds : List (Nat × D)} {vs : List (Str × V)}, Rvf C P ds vs → Rvf C P (putA k d ds) (putF (C.att k) v vs)
  | _, _, .nil => .cons r .nil
  | (j, d') :: ds, (_, v') :: vs, .cons a b => by
    unfold putA putF
    by_cases h : j = k
    · subst h
      rw [if_pos rfl, if_pos rfl]; exact .cons r b
    · rw [if_neg h, if_neg (fun z => h (hi _ _ z))]; exact .cons a (Rvf.put hi r b)
theorem Rvf.length {P : Hp} : ∀ {ds : List (Nat × D)} {vs : List (Str × V)}, Rvf C P ds vs → ds.length = vs.length
  | _, _, .nil => rfl
  | _, _, .cons _ r => by simp [Rvf.length r]
/-- e.f -/
def fldV (ow : Nat → Nat → Bool) (k : Nat) : D → Gp → K3 → Prop := fun x G Q => ∃ c fs d, insD G x = some (c, fs) ∧ ow c k = true ∧ fs.lookup k = some d ∧ Q d G
theorem pe_fld3 {ow : Nat → Nat → Bool} {k : Nat} {e : Expr} {t : T3} {f : Str} {pos : Pos} (hK : X.K = C.K) (hi : AttInj C) (hf : C.att k = f) (hO : ∀ c, ow c k = true → Owns C c k) (he : PE X e (up C W t)) (hb : attributeBase e f X.env (eval e X.env) = eval e X.env) : PE X (.Attribute e f pos) (up C W (t1 (fldV ow k) t)) := by
  subst hf
  refine PEw (pe_fld he hb) fun τ H R h => ?_
  obtain ⟨P, σ, G, Q, E, r, s, h, k', e⟩ := h
  refine up_go r s h (fun P1 G1 H1 x v l1 r1 v1 q1 => ?_) e
  obtain ⟨c, fs, d, e1, e0, e3, q1⟩ := q1
  obtain ⟨o1, o2⟩ := hO c e0
  obtain ⟨a, dx, vs, rfl, h1, h2⟩ := insD_ok r1 v1 e1
  obtain ⟨w, e4, rw'⟩ := h2.lookup hi e3
  rw [hK]
  exact ⟨a, _, dx, vs, w, rfl, h1, o1, o2, e4, k' P1 G1 H1 d w l1 r1 rw' q1⟩
/-- e.f = value -/
def sfld (ow : Nat → Nat → Bool) (k : Nat) (to tv : T3) : TS3 := fun N E σ G => tv σ G (fun d G1 => to σ G1 (fun x G2 => ∃ a c fs, x = .ref a ∧ G2 a = some (.ins c fs) ∧ ow c k = true ∧ fs.length < 1000 ∧ N.nx σ (gset G2 a (.ins c (putA k d fs)))) (fun x G2 => E x σ G2)) (fun x G1 => E x σ G1)
theorem ps_fld3 {ow : Nat → Nat → Bool} {k : Nat} {o value : Expr} {to tv : T3} {f : Str} {pos pos' : Pos} (hK : X.K = C.K) (hi : AttInj C) (hf : C.att k = f) (hO : ∀ c, ow c k = true → Owns C c k) (ho : PE X o (up C W to)) (hv : PE X value (up C W tv)) (hs : swapsWith value (some (.Attribute o f pos')) pos.line X.env = pure false) :
    PS X (.Assign [.Attribute o f pos'] value pos) (upS C W (sfld ow k to tv)) := by
  subst hf
  refine PSw (ps_fld ho hv hs) fun D0 τ H h => ?_
  obtain ⟨P, σ, G, N, E, r, s, h, h1, h2, h3, h4, h5⟩ := h
  refine ⟨P, σ, G, _, _, r, s, h, fun P1 G1 H1 d v l1 r1 v1 q1 => ?_, h5.ex s⟩
  refine ⟨P1, σ, G1, _, _, r1, s.mono l1, q1, fun P2 G2 H2 x w l2 r2 v2 q2 => ?_, (h5.le l1).ex (s.mono l1)⟩
  obtain ⟨a, c, fs, e1, e2, e0, hl, q2⟩ := q2
  obtain ⟨o1, o2⟩ := hO c e0
  subst e1
  cases v2
  obtain ⟨_, u, g1, g2⟩ := r2.own _ _ e2
  cases g2 with
  | ins q3 =>
    rw [hK]
    refine ⟨a, _, _, _, rfl, g1, o1, o2, by rw [← q3.length]; exact hl, ?_⟩
    exact h1 P2 _ _ σ τ (l1.trans l2) (r2.write e2 (.ins (q3.put hi (v1.mono l2)))) (s.mono (l1.trans l2)) q2
/-- name op= e -/
def saug (f : D → D → Gp → K3 → Prop) (i : Nat) (t : T3) : TS3 := fun N E σ G => ∃ x, σ[i]? = some (some x) ∧ t σ G (fun y G1 => f x y G1 (fun z G2 => N.nx (σ.set i (some z)) G2)) (fun x G1 => E x σ G1)
theorem ps_aug3 {f : D → D → Gp → K3 → Prop} {op : Operator} {i : Nat} {x : Str} {e : Expr} {t : T3} {pos pos' : Pos} (hN : X.N.Nodup) (hi : X.N[i]? = some x) (hx : Loc X.env.scope x) (he : PE X e (up C W t)) (ho : PIp X op (upOp C f)) (hf : X.fn x = true ∨ X.env.scope.names.lookup x = some .local) :
    PS X (.AugAssign (.Name x pos') op e pos) (upS C W (saug f i t)) := PSw (ps_aug hN hi hx he ho hf) fun D0 τ H h => by
  obtain ⟨P, σ, G, N, E, r, s, ⟨d, e1, h⟩, h1, h2, h3, h4, h5⟩ := h
  obtain ⟨v, e2, rv⟩ := s.get e1
  refine ⟨v, e2, P, σ, G, _, _, r, s, h, fun P1 G1 H1 y w l1 r1 v1 q1 => ?_, h5.ex s⟩
  refine ⟨P1, G1, d, y, _, r1, rv.mono l1, v1, q1, fun P2 G2 H2 z u l2 r2 v2 q2 => ?_⟩
  exact h1 P2 G2 H2 _ _ (l1.trans l2) r2 ((s.mono (l1.trans l2)).set v2 i) q2
def ipV (o : Operator) : D → D → Gp → K3 → Prop
  | .int a, .int b, G, Q => (o = .Add ∧ Q (.int (a + b)) G) ∨ (o = .Sub ∧ Q (.int (a - b)) G)
  | _, _, _, _ => False
theorem ip_okV {o : Operator} : PIp X o (upOp C (ipV o)) := by
  intro pins s σ H x y v u R I r1 r2 h
  obtain ⟨P, G, d, e, Q, r, rx, ry, h, k⟩ := h
  cases rx with
  | int a =>
    cases ry with
    | int b =>
      rcases h with ⟨rfl, q⟩ | ⟨rfl, q⟩
      · exact ip_add pins s σ H _ _ v u R I r1 r2 ⟨a, b, rfl, rfl, k P G H _ _ (Le.refl _) r (.int _) q⟩
      · exact ip_sub pins s σ H _ _ v u R I r1 r2 ⟨a, b, rfl, rfl, k P G H _ _ (Le.refl _) r (.int _) q⟩
    | _ => exact (show False from h).elim
  | _ => exact (show False from (by cases ry <;> exact h)).elim
end
end V3
set_option Elab.async false
set_option linter.all false
set_option maxRecDepth 100000
set_option maxHeartbeats 4000000
/-! V8: loops and comprehensions over trees. -/
namespace V3
open PySem PySem.Spec L2
/-! ### targets of loops: names, and tuples of such -/
mutual
inductive Tg where
  | nm (i : Nat)
  | tp (ts : Tgs)
  | tl (ts : Tgs)
inductive Tgs where
  | nil
  | cons (t : Tg) (ts : Tgs)
end
mutual
def Tg.run : Tg → D → S3 → Option S3
  | .nm i, d, σ => some (σ.set i (some d))
  | .tp ts, .tup ds, σ => ts.run ds σ
  | .tp _, _, _ => none
  | .tl ts, .lst ds, σ => ts.run ds σ
  | .tl _, _, _ => none
def Tgs.run : Tgs → List D → S3 → Option S3
  | .nil, [], σ => some σ
  | .cons t ts, d :: ds, σ => match t.run d σ with
    | some σ1 => ts.run ds σ1
    | none => none
  | _, _, _ => none
end
mutual
def Tg.l2 (K : PySem.W.Frag) : Tg → TG
  | .nm i => gName i
  | .tp ts => gTup K ts.len (ts.l2 K)
  | .tl ts => gLst K ts.len (ts.l2 K)
def Tgs.l2 (K : PySem.W.Frag) : Tgs → TGs
  | .nil => gNil
  | .cons t ts => gCons (t.l2 K) (ts.l2 K)
def Tgs.len : Tgs → Nat
  | .nil => 0
  | .cons _ ts => ts.len + 1
end
mutual
def Tg.vars : Tg → List Nat
  | .nm i => [i]
  | .tp ts => ts.vars
  | .tl ts => ts.vars
def Tgs.vars : Tgs → List Nat
  | .nil => []
  | .cons t ts => t.vars ++ ts.vars
end
theorem set_none_comm {α : Type} (τ : List (Option α)) (i j : Nat) (x : α) (h : i ≠ j) : (τ.set i (some x)).set j none = (τ.set j none).set i (some x) := List.set_comm _ _ h
theorem wipe_set {τ : L2.St} {i : Nat} {x : V} : ∀ {vs : List Nat}, i ∈ vs → wipe (τ.set i (some x)) vs = wipe τ vs
  | v :: vs, h => by
    unfold wipe
    by_cases e : i ∈ vs
    · rw [wipe_set e]
    · have e1 : i = v := by
        rcases List.mem_cons.mp h with z | z
        · exact z
        · exact absurd z e
      subst e1
      have : ∀ vs : List Nat, i ∉ vs → wipe (τ.set i (some x)) vs = (wipe τ vs).set i (some x) := fun vs => by
        induction vs with
        | nil => intro _; rfl
        | cons a r ih =>
          intro hn
          unfold wipe
          rw [ih fun z => hn (List.mem_cons_of_mem _ z)]
          exact List.set_comm _ _ fun z => hn (by rw [z]; exact List.mem_cons_self ..)
      rw [this vs e, List.set_set]
theorem wipe_get (τ : L2.St) (i : Nat) : ∀ vs : List Nat, (wipe τ vs)[i]? = if i ∈ vs then (τ[i]?).map (fun _ => none) else τ[i]?
  | [] => by simp [wipe]
  | v :: vs => by
    unfold wipe
    rw [List.getElem?_set]
    by_cases e : v = i
    · subst e
      rw [if_pos rfl, if_pos (List.mem_cons_self ..), wipe_length]
      by_cases h : v < τ.length
      · rw [if_pos h, List.getElem?_eq_getElem h]; rfl
      · rw [if_neg h, List.getElem?_eq_none (by omega)]; rfl
    · rw [if_neg e, wipe_get τ i vs]
      by_cases h : i ∈ vs
      · rw [if_pos h, if_pos (List.mem_cons_of_mem _ h)]
      · rw [if_neg h, if_neg (fun z => by rcases List.mem_cons.mp z with z | z; exact e z.symm; exact h z)]
theorem wipe_wipe (τ : L2.St) (vs : List Nat) : wipe (wipe τ vs) vs = wipe τ vs := by
  apply List.ext_getElem?
  intro i
  rw [wipe_get (wipe τ vs) i vs, wipe_get τ i vs]
  by_cases h : i ∈ vs
  · rw [if_pos h, if_pos h]
    cases τ[i]? <;> rfl
  · rw [if_neg h, if_neg h]
section
variable {C : Cn} {W : WX} {X : Cx} {P : Hp} {G : Gp}
theorem Tgs.len_run : ∀ {ts : Tgs} {ds : List D} {σ σ2 : S3}, ts.run ds σ = some σ2 → ds.length = ts.len
  | .nil, [], _, _, _ => rfl
  | .nil, _ :: _, _, _, e => by simp [Tgs.run] at e
  | .cons _ _, [], _, _, e => by simp [Tgs.run] at e
  | .cons t ts, d :: ds, σ, σ2, e => by
    simp only [Tgs.run] at e
    split at e
    · simp [Tgs.len, Tgs.len_run e]
    · cases e
mutual
theorem Tg.ok {K : PySem.W.Frag} {H : Hp} {vs : List Nat} {Q : L2.St → Hp → Prop} (r : Rel C P G H) : ∀ (t : Tg) {d : D} {σ σ2 : S3} {τ : L2.St} {v : V}, Rs C P σ τ → Rv C P d v → t.run d σ = some σ2 → (∀ i ∈ t.vars, i ∈ vs) →
    (∀ τ2, Rs C P σ2 τ2 → wipe τ2 vs = wipe τ vs → Q τ2 H) → t.l2 K v τ H Q
  | .nm i, d, σ, σ2, τ, v, s, rv, e, hv, h => by
    simp only [Tg.run] at e
    cases e
    exact h _ (s.set rv i) (wipe_set (hv i (by simp [Tg.vars])))
  | .tp ts, .tup ds, σ, σ2, τ, _, s, .tup st q, e, hv, h => by
    simp only [Tg.run] at e
    refine ⟨_, _, rfl, SqT.of (r.sub _ _ st), by rw [← q.length]; exact Tgs.len_run e, ?_⟩
    exact Tgs.ok r ts s q e (fun i hi => hv i (by simpa [Tg.vars] using hi)) h
  | .tp ts, .non, _, _, _, _, _, _, e, _, _ => by simp [Tg.run] at e
  | .tp ts, .bl _, _, _, _, _, _, _, e, _, _ => by simp [Tg.run] at e
  | .tp ts, .int _, _, _, _, _, _, _, e, _, _ => by simp [Tg.run] at e
  | .tp ts, .str _, _, _, _, _, _, _, e, _, _ => by simp [Tg.run] at e
  | .tp ts, .ty _, _, _, _, _, _, _, e, _, _ => by simp [Tg.run] at e
  | .tp ts, .lst _, _, _, _, _, _, _, e, _, _ => by simp [Tg.run] at e
  | .tp ts, .tuf _, _, _, _, _, _, _, e, _, _ => by simp [Tg.run] at e
  | .tp ts, .rol _, _, _, _, _, _, _, e, _, _ => by simp [Tg.run] at e
  | .tp ts, .dk _, _, _, _, _, _, _, e, _, _ => by simp [Tg.run] at e
  | .tp ts, .dt _, _, _, _, _, _, _, e, _, _ => by simp [Tg.run] at e
  | .tp ts, .obj _ _, _, _, _, _, _, _, e, _, _ => by simp [Tg.run] at e
  | .tp ts, .ref _, _, _, _, _, _, _, e, _, _ => by simp [Tg.run] at e
  | .tl ts, .lst ds, σ, σ2, τ, _, s, .lst st q, e, hv, h => by
    simp only [Tg.run] at e
    refine ⟨_, _, rfl, SqL.of (r.sub _ _ st), by rw [← q.length]; exact Tgs.len_run e, ?_⟩
    exact Tgs.ok r ts s q e (fun i hi => hv i (by simpa [Tg.vars] using hi)) h
  | .tl ts, .non, _, _, _, _, _, _, e, _, _ => by simp [Tg.run] at e
  | .tl ts, .bl _, _, _, _, _, _, _, e, _, _ => by simp [Tg.run] at e
  | .tl ts, .int _, _, _, _, _, _, _, e, _, _ => by simp [Tg.run] at e
  | .tl ts, .str _, _, _, _, _, _, _, e, _, _ => by simp [Tg.run] at e
  | .tl ts, .ty _, _, _, _, _, _, _, e, _, _ => by simp [Tg.run] at e
  | .tl ts, .tup _, _, _, _, _, _, _, e, _, _ => by simp [Tg.run] at e
  | .tl ts, .tuf _, _, _, _, _, _, _, e, _, _ => by simp [Tg.run] at e
  | .tl ts, .rol _, _, _, _, _, _, _, e, _, _ => by simp [Tg.run] at e
  | .tl ts, .dk _, _, _, _, _, _, _, e, _, _ => by simp [Tg.run] at e
  | .tl ts, .dt _, _, _, _, _, _, _, e, _, _ => by simp [Tg.run] at e
  | .tl ts, .obj _ _, _, _, _, _, _, _, e, _, _ => by simp [Tg.run] at e
  | .tl ts, .ref _, _, _, _, _, _, _, e, _, _ => by simp [Tg.run] at e
theorem Tgs.ok {K : PySem.W.Frag} {H : Hp} {vs : List Nat} {Q : L2.St → Hp → Prop} (r : Rel C P G H) : ∀ (t : Tgs) {d : List D} {σ σ2 : S3} {τ : L2.St} {v : List V}, Rs C P σ τ → Rvs C P d v → t.run d σ = some σ2 → (∀ i ∈ t.vars, i ∈ vs) →
    (∀ τ2, Rs C P σ2 τ2 → wipe τ2 vs = wipe τ vs → Q τ2 H) → t.l2 K v τ H Q
  | .nil, [], σ, σ2, τ, _, s, .nil, e, _, h => by
    simp only [Tgs.run] at e
    cases e
    exact ⟨rfl, h τ s rfl⟩
  | .nil, _ :: _, _, _, _, _, _, _, e, _, _ => by simp [Tgs.run] at e
  | .cons _ _, [], _, _, _, _, _, _, e, _, _ => by simp [Tgs.run] at e
  | .cons t ts, d :: ds, σ, σ2, τ, _, s, .cons a b, e, hv, h => by
    simp only [Tgs.run] at e
    split at e
    · rename_i σ1 e1
      refine ⟨_, _, rfl, ?_⟩
      refine Tg.ok r t s a e1 (fun i hi => hv i (by simp [Tgs.vars, hi])) fun τ2 s2 w2 => ?_
      exact Tgs.ok r ts s2 b e (fun i hi => hv i (by simp [Tgs.vars, hi])) fun τ3 s3 w3 => h τ3 s3 (w3.trans w2)
    · cases e
end

/-! ### iterators -/
/-- J yields the items ds, whatever happens as long as live holds -/
def WkOk (C : Cn) (P : Hp) (J : It) (ds : List D) (live : Gp → Prop) : Prop :=
  (∀ i d P' G' H', Le P P' → Rel C P' G' H' → live G' → ds[i]? = some d → J.go i H' ∧ ∀ x H2, J.yld i H' x H2 → ∃ P2, Le P' P2 ∧ Rel C P2 G' H2 ∧ Rv C P2 d x) ∧
  ∀ P' G' H', Le P P' → Rel C P' G' H' → live G' → J.stop ds.length H'
abbrev TI3 := S3 → Gp → (List D → (Gp → Prop) → Gp → Prop) → E3 → Prop
def upI (C : Cn) (W : WX) (t : TI3) : TI := fun τ H R => ∃ P σ G Q E, Rel C P G H ∧ Rs C P σ τ ∧ t σ G Q E ∧
  (∀ P' G' H' J ds live, Le P P' → Rel C P' G' H' → WkOk C P' J ds live → Q ds live G' → R J H') ∧ eUp C P E (fun c d H => W c d τ H)
theorem PIw {tg e : Expr} {t t' : TI} (h : PI X tg e t) (w : ∀ τ H R, t' τ H R → t τ H R) : PI X tg e t' := ⟨fun pins s σ H R I q => h.run pins s σ H R I (w _ _ _ q)⟩

/-! ### for -/
section
variable (g : Tg) (tb : TS3) (N : N3) (E : ES3) (live : Gp → Prop)
def forW : List D → S3 → Gp → Prop
  | [], σ, G => live G ∧ N.nx σ G
  | d :: ds, σ, G => live G ∧ ∃ σ2, g.run d σ = some σ2 ∧ tb { N with nx := forW ds, ct := forW ds, bk := N.nx } E σ2 G
end
def sfor (it : TI3) (g : Tg) (tb : TS3) : TS3 := fun N E σ G => it σ G (fun ds live G1 => forW g tb N E live ds σ G1) (fun x G1 => E x σ G1)
theorem ps_for3 {tg iter : Expr} {body : List Stmt} {it : TI3} {g : Tg} {tb : TS3} {pos : Pos} (hp : PassesOwn (model X.prog X.w) X.A X.env X.xe) (hc : X.calm = true) (hi : PI X tg iter (upI C W it)) (hg : PG X tg (g.l2 X.K)) (hb : PSs X body (upS C W tb))
    (hs : ∀ x, foldedSetIterable iter X.env x = pure x) : PS X (.For tg iter body [] pos) (upS C W (sfor it g tb)) := PSw (ps_for hp hc hi hg hb hs) fun D0 τ H h => by
  obtain ⟨P, σ, G, N, E, r, s, h, h1, h2, h3, h4, h5⟩ := h
  refine ⟨P, σ, G, _, _, r, s, h, fun P1 G1 H1 J ds live l1 r1 wk q1 => ?_, h5.ex s⟩
  refine ⟨fun i m τ' H' => ∃ P2 σ2 G2, Le P1 P2 ∧ Rel C P2 G2 H' ∧ Rs C P2 σ2 τ' ∧ i ≤ ds.length ∧ m = ds.length - i ∧ forW g tb N E live (ds.drop i) σ2 G2,
    ⟨ds.length, P1, σ, G1, Le.refl _, r1, s.mono l1, Nat.zero_le _, rfl, q1⟩, ?_⟩
  rintro i m τ' H' ⟨P2, σ2, G2, l2, r2, s2, hil, hm, q2⟩
  cases e : ds.drop i with
  | nil =>
    rw [e] at q2
    have hi' : i = ds.length := by
      have := List.drop_eq_nil_iff.mp e
      omega
    subst hi'
    exact .inl ⟨wk.2 P2 G2 H' l2 r2 q2.1, h1 P2 G2 H' σ2 τ' (l1.trans l2) r2 s2 q2.2⟩
  | cons d rest =>
    rw [e] at q2
    obtain ⟨lv, σ3, eg, q2⟩ := q2
    have hlt : i < ds.length := by
      have := congrArg List.length e
      simp at this
      omega
    have hd : ds[i]? = some d := by
      have := congrArg (·[0]?) e
      simpa using this
    have hr : ds.drop (i + 1) = rest := by
      have := congrArg (List.drop 1) e
      simpa [List.drop_drop, Nat.add_comm] using this
    obtain ⟨hgo, hy⟩ := wk.1 i d P2 G2 H' l2 r2 lv hd
    refine .inr ⟨hgo, fun τ4 H4 => ∃ P4 σ4 G4, Le P2 P4 ∧ Rel C P4 G4 H4 ∧ Rs C P4 σ4 τ4 ∧ forW g tb N E live rest σ4 G4, ?_, fun x H3 y => ?_⟩
    · rintro τ4 H4 ⟨P4, σ4, G4, l4, r4, s4, q4⟩
      exact ⟨ds.length - (i + 1), by omega, P4, σ4, G4, l2.trans l4, r4, s4, by omega, rfl, by rw [hr]; exact q4⟩
    · obtain ⟨P3, l3, r3, v3⟩ := hy x H3 y
      refine Tg.ok (vs := g.vars) r3 g (s2.mono l3) v3 eg (fun i h => h) fun τ5 s5 _ => ?_
      refine ⟨P3, σ3, G2, _, _, r3, s5, q2, ?_, h2.le (l1.trans (l2.trans l3)), h1.le (l1.trans (l2.trans l3)), ?_, h5.le (l1.trans (l2.trans l3))⟩
      · exact fun P6 G6 H6 σ6 τ6 l6 r6 s6 q6 => ⟨P6, σ6, G6, l3.trans l6, r6, s6, q6⟩
      · exact fun P6 G6 H6 σ6 τ6 l6 r6 s6 q6 => ⟨P6, σ6, G6, l3.trans l6, r6, s6, q6⟩

/-! ### while -/
def swhile (c : TT3) (tb : TS3) : TS3 := fun N E σ G => ∃ V : Nat → S3 → Gp → Prop, (∃ m, V m σ G) ∧ ∀ m σ G, V m σ G → c σ G (fun b G1 => if b = true then ∃ N1 : S3 → Gp → Prop, (∀ σ' G', N1 σ' G' → ∃ m', m' < m ∧ V m' σ' G') ∧ tb { N with nx := N1, ct := N1, bk := N.nx } E σ G1 else N.nx σ G1) (fun x G1 => E x σ G1)
theorem ps_while3 {c : Expr} {body : List Stmt} {tc : TT3} {tb : TS3} {pos : Pos} (hp : PassesOwn (model X.prog X.w) X.A X.env X.xe) (hc : PT X c (upT C W tc)) (hb : PSs X body (upS C W tb)) : PS X (.While c body [] pos) (upS C W (swhile tc tb)) := PSw (ps_while hp hc hb) fun D0 τ H h => by
  obtain ⟨P, σ, G, N, E, r, s, ⟨V, ⟨m0, v0⟩, turn⟩, h1, h2, h3, h4, h5⟩ := h
  refine ⟨fun m τ' H' => ∃ P2 σ2 G2, Le P P2 ∧ Rel C P2 G2 H' ∧ Rs C P2 σ2 τ' ∧ V m σ2 G2, ⟨m0, P, σ, G, Le.refl _, r, s, v0⟩, ?_⟩
  rintro m τ' H' ⟨P2, σ2, G2, l2, r2, s2, v2⟩
  refine ⟨P2, σ2, G2, _, _, r2, s2, turn m σ2 G2 v2, fun P3 G3 H3 b l3 r3 q3 => ?_, (h5.le l2).ex s2⟩
  cases b with
  | false => exact h1 P3 G3 H3 σ2 τ' (l2.trans l3) r3 (s2.mono l3) q3
  | true =>
    obtain ⟨N1, hn, q3⟩ := q3
    refine ⟨fun τ4 H4 => ∃ P4 σ4 G4, Le P P4 ∧ Rel C P4 G4 H4 ∧ Rs C P4 σ4 τ4 ∧ N1 σ4 G4, ?_, P3, σ2, G3, _, _, r3, s2.mono l3, q3, ?_, h2.le (l2.trans l3), h1.le (l2.trans l3), ?_, h5.le (l2.trans l3)⟩
    · rintro τ4 H4 ⟨P4, σ4, G4, l4, r4, s4, n4⟩
      obtain ⟨m', hm, v4⟩ := hn σ4 G4 n4
      exact ⟨m', hm, P4, σ4, G4, l4, r4, s4, v4⟩
    · exact fun P6 G6 H6 σ6 τ6 l6 r6 s6 q6 => ⟨P6, σ6, G6, l2.trans (l3.trans l6), r6, s6, q6⟩
    · exact fun P6 G6 H6 σ6 τ6 l6 r6 s6 q6 => ⟨P6, σ6, G6, l2.trans (l3.trans l6), r6, s6, q6⟩

/-! ### list comprehensions -/
def wipe3 (σ : S3) : List Nat → S3
  | [] => σ
  | v :: vs => (wipe3 σ vs).set v none
theorem Rs.wipe {σ : S3} {τ : L2.St} (s : Rs C P σ τ) : ∀ vs : List Nat, Rs C P (wipe3 σ vs) (L2.wipe τ vs)
  | [] => s
  | v :: vs => (Rs.wipe s vs).unset v none
def eF : E3 := fun _ _ => False
def W0 : WX := fun _ _ _ _ => False
theorem eF_up {P : Hp} {Wx : XK} : eUp C P eF Wx := fun _ _ _ _ _ _ _ _ _ h => h.elim
def tyes : TT3 := fun _ G Q _ => Q true G
theorem pts_nil3 : PTs X [] (upT C W0 tyes) := ⟨fun pins s σ H Q I h => by
  obtain ⟨P, σ3, G, Q3, E, r, s3, h, k, e⟩ := h
  exact (pts_nil (X := X)).run pins s σ H Q I (k P G H true (Le.refl _) r h)⟩
section
variable (g : Tg) (tt : TT3) (te : T3) (σw : S3) (p : Addr) (live : Gp → Prop) (K : Gp → Prop)
def lcW : List D → Gp → Prop
  | [], G => live G ∧ K G
  | d :: ds, G => live G ∧ ∃ σ2, g.run d σw = some σ2 ∧ tt σ2 G (fun b G3 => if b = true then te σ2 G3 (fun y G4 => ∃ acc, G4 p = some (.lst acc) ∧ acc.length < sizeLine ∧ lcW ds (gset G4 p (.lst (acc ++ [y])))) eF else lcW ds G3) eF
end
/-- the cell that was filled: kept as a cell, or standing from now on -/
def keepL (w : Bool) (p : Addr) (Q : K3) : Gp → Prop := fun G => ∃ acc, G p = some (.lst acc) ∧ if w = true then Q (.ref p) G else Q (.lst acc) (gdel G p)
def tlc (w : Bool) (it : TI3) (g : Tg) (tt : TT3) (te : T3) (vs : List Nat) : T3 := fun σ G Q E => it σ G (fun ds live G1 => ∀ p, G1 p = none → lcW g tt te (wipe3 σ vs) p live (keepL w p Q) ds (gset G1 p (.lst []))) E
theorem keepL_ok {w : Bool} {p : Addr} {Q : K3} {R : VK} {H : Hp} (r : Rel C P G H) (h : keepL w p Q G) (k : kUp C P Q R) : R (.ref p) H := by
  obtain ⟨acc, e, h⟩ := h
  obtain ⟨_, o, h1, h2⟩ := r.own _ _ e
  cases h2 with
  | lst q =>
    split at h
    · exact k P G H _ _ (Le.refl _) r (.ref p) h
    · obtain ⟨l, r'⟩ := r.freeze e h1
      exact k _ _ _ _ _ l r' (.lst upd_same (q.mono l)) h
theorem lc_up {w : Bool} {it : TI3} {g : Tg} {tt : TT3} {te : T3} {vs : List Nat} {K : PySem.W.Frag} (hv : ∀ i ∈ g.vars, i ∈ vs) : ∀ τ H R, up C W (tlc w it g tt te vs) τ H R → tLc (upI C W it) (g.l2 K) (upT C W0 tt) (up C W0 te) vs τ H R := fun τ H R h => by
  obtain ⟨P, σ, G, Q, E, r, s, h, k, e⟩ := h
  refine ⟨P, σ, G, _, _, r, s, h, fun P1 G1 H1 J ds live l1 r1 wk q1 => ?_, e⟩
  intro p hp
  have q1 := q1 p (r1.gfree hp)
  refine ⟨fun i m H' => ∃ P2 G2, Le P1 P2 ∧ Rel C P2 G2 H' ∧ i ≤ ds.length ∧ m = ds.length - i ∧ lcW g tt te (wipe3 σ vs) p live (keepL w p Q) (ds.drop i) G2,
    ⟨ds.length, P1, _, Le.refl _, r1.newG hp (.lst .nil), Nat.zero_le _, rfl, q1⟩, ?_⟩
  rintro i m H' ⟨P2, G2, l2, r2, hil, hm, q2⟩
  cases e : ds.drop i with
  | nil =>
    rw [e] at q2
    have hi' : i = ds.length := by
      have := List.drop_eq_nil_iff.mp e
      omega
    subst hi'
    exact .inl ⟨wk.2 P2 G2 H' l2 r2 q2.1, keepL_ok r2 q2.2 (k.le (l1.trans l2))⟩
  | cons d rest =>
    rw [e] at q2
    obtain ⟨lv, σ3, eg, q2⟩ := q2
    have hlt : i < ds.length := by
      have := congrArg List.length e
      simp at this
      omega
    have hd : ds[i]? = some d := by
      have := congrArg (·[0]?) e
      simpa using this
    have hr : ds.drop (i + 1) = rest := by
      have := congrArg (List.drop 1) e
      simpa [List.drop_drop, Nat.add_comm] using this
    obtain ⟨hgo, hy⟩ := wk.1 i d P2 G2 H' l2 r2 lv hd
    refine .inr ⟨hgo, fun H4 => ∃ P4 G4, Le P2 P4 ∧ Rel C P4 G4 H4 ∧ lcW g tt te (wipe3 σ vs) p live (keepL w p Q) rest G4, ?_, fun x H3 y => ?_⟩
    · rintro H4 ⟨P4, G4, l4, r4, q4⟩
      exact ⟨ds.length - (i + 1), by omega, P4, G4, l2.trans l4, r4, by omega, rfl, by rw [hr]; exact q4⟩
    · obtain ⟨P3, l3, r3, v3⟩ := hy x H3 y
      refine Tg.ok r3 g ((s.mono (l1.trans (l2.trans l3))).wipe vs) v3 eg hv fun τ5 s5 w5 => ⟨w5.trans (wipe_wipe τ vs), ?_⟩
      refine ⟨P3, σ3, G2, _, _, r3, s5, q2, fun P6 G6 H6 b l6 r6 q6 => ?_, eF_up⟩
      cases b with
      | false => exact ⟨P6, G6, l3.trans l6, r6, q6⟩
      | true =>
        refine ⟨P6, σ3, G6, _, _, r6, s5.mono l6, q6, fun P7 G7 H7 y v l7 r7 v7 q7 => ?_, eF_up⟩
        obtain ⟨acc, e7, z7, q7⟩ := q7
        obtain ⟨_, o, g1, g2⟩ := r7.own _ _ e7
        cases g2 with
        | lst qq => exact ⟨_, g1, by rw [← qq.length]; exact z7, P7, _, l3.trans (l6.trans l7), r7.write e7 (.lst (qq.app (.cons v7 .nil))), q7⟩
section
variable {w : Bool} {elt tg iter : Expr} {ifs : List Expr} {scope : Scope} {own : List (Str × Nat)} {pos spos : Pos} {it : TI3} {g : Tg} {tt : TT3} {te : T3}
theorem pe_lc3 (hc : X.calm = true) (hN : X.N.Nodup) (hv : ∀ i ∈ g.vars, i ∈ own.map (·.2)) (hi : PI X tg iter (upI C W it)) (ok : BlkOk X.N X.env.scope scope own)
    (hg : ∀ (s : Shared) (H : Hp) (c : Addr) (cl : List (Str × Addr)) (fp : List Addr), PG (X.blk s H scope (compEnvC scope cl c X.env) fp) tg (g.l2 X.K)) (ht : ∀ (s : Shared) (H : Hp) (c : Addr) (cl : List (Str × Addr)) (fp : List Addr), PTs (X.blk s H scope (compEnvC scope cl c X.env) fp) ifs (upT C W0 tt))
    (he : ∀ (s : Shared) (H : Hp) (c : Addr) (cl : List (Str × Addr)) (fp : List Addr), PE (X.blk s H scope (compEnvC scope cl c X.env) fp) elt (up C W0 te)) (hs : ∀ x, foldedSetIterable iter X.env x = pure x) :
    PE X (.ListComp elt [⟨tg, iter, ifs, 0⟩] scope pos) (up C W (tlc w it g tt te (own.map (·.2)))) := PEw (pe_lc hc hN hi ok hg ht he hs) (lc_up hv)
theorem ps_setLc3 {i : Nat} {y : Str} {py : Pos} (hc : X.calm = true) (hN : X.N.Nodup) (hv : ∀ i ∈ g.vars, i ∈ own.map (·.2)) (hy : X.N[i]? = some y) (hyl : X.env.scope.names.lookup y = some .local)
    (hsw : swapsWith (.ListComp elt [⟨tg, iter, ifs, 0⟩] scope pos) (some (.Name y py)) spos.line X.env = pure true) (hi : PI X tg iter (upI C W it)) (ok : BlkOk X.N X.env.scope scope own)
    (hg : ∀ (s : Shared) (H : Hp) (c : Addr) (cl : List (Str × Addr)) (fp : List Addr), PG (X.blk s H scope (compEnvC scope cl c X.env) fp) tg (g.l2 X.K)) (ht : ∀ (s : Shared) (H : Hp) (c : Addr) (cl : List (Str × Addr)) (fp : List Addr), PTs (X.blk s H scope (compEnvC scope cl c X.env) fp) ifs (upT C W0 tt))
    (he : ∀ (s : Shared) (H : Hp) (c : Addr) (cl : List (Str × Addr)) (fp : List Addr), PE (X.blk s H scope (compEnvC scope cl c X.env) fp) elt (up C W0 te)) (hs : ∀ x, foldedSetIterable iter X.env x = pure x) :
    PS X (.Assign [.Name y py] (.ListComp elt [⟨tg, iter, ifs, 0⟩] scope pos) spos) (upS C W (sasg (tlc w it g tt te (own.map (·.2))) (gnm i))) := PSw (ps_setLc hc hN hy hyl hsw hi ok hg ht he hs) fun D0 τ H h => by
  refine lc_up (w := w) hv τ H _ ?_
  obtain ⟨P, σ, G, N, E, r, s, h, h1, h2, h3, h4, h5⟩ := h
  refine ⟨P, σ, G, _, _, r, s, h, fun P1 G1 H1 d v l1 r1 v1 q1 => ?_, h5.ex s⟩
  exact h1 P1 G1 H1 _ _ l1 r1 ((s.mono l1).set v1 i) q1
end
/-! ### dict comprehensions, keys ints and texts -/
section
variable (g : Tg) (tt : TT3) (tk tv : T3) (σw : S3) (p : Addr) (live : Gp → Prop) (K : Gp → Prop)
def dcW : List D → Gp → Prop
  | [], G => live G ∧ K G
  | d :: ds, G => live G ∧ ∃ σ2, g.run d σw = some σ2 ∧ tt σ2 G (fun b G3 => if b = true then tk σ2 G3 (fun y G4 => tv σ2 G4 (fun z G5 => ∃ acc k, G5 p = some (.dk acc) ∧ keyD y = some k ∧ acc.length < sizeLine ∧ dcW ds (gset G5 p (.dk (putD acc k z)))) eF) eF else dcW ds G3) eF
end
def keepD (w : Bool) (p : Addr) (Q : K3) : Gp → Prop := fun G => ∃ acc, G p = some (.dk acc) ∧ if w = true then Q (.ref p) G else Q (.dk acc) (gdel G p)
def tdc (w : Bool) (it : TI3) (g : Tg) (tt : TT3) (tk tv : T3) (vs : List Nat) : T3 := fun σ G Q E => it σ G (fun ds live G1 => ∀ p, G1 p = none → dcW g tt tk tv (wipe3 σ vs) p live (keepD w p Q) ds (gset G1 p (.dk []))) E
theorem keepD_ok {w : Bool} {p : Addr} {Q : K3} {R : VK} {H : Hp} (r : Rel C P G H) (h : keepD w p Q G) (k : kUp C P Q R) : R (.ref p) H := by
  obtain ⟨acc, e, h⟩ := h
  obtain ⟨_, o, h1, h2⟩ := r.own _ _ e
  cases h2 with
  | dk q =>
    split at h
    · exact k P G H _ _ (Le.refl _) r (.ref p) h
    · obtain ⟨l, r'⟩ := r.freeze e h1
      exact k _ _ _ _ _ l r' (.dk upd_same (q.mono l)) h
theorem dc_up {w : Bool} {it : TI3} {g : Tg} {tt : TT3} {tk tv : T3} {vs : List Nat} {K : PySem.W.Frag} (hv : ∀ i ∈ g.vars, i ∈ vs) : ∀ τ H R, up C W (tdc w it g tt tk tv vs) τ H R → tDc (upI C W it) (g.l2 K) (upT C W0 tt) (up C W0 tk) (up C W0 tv) vs τ H R := fun τ H R h => by
  obtain ⟨P, σ, G, Q, E, r, s, h, k, e⟩ := h
  refine ⟨P, σ, G, _, _, r, s, h, fun P1 G1 H1 J ds live l1 r1 wk q1 => ?_, e⟩
  intro p hp
  have q1 := q1 p (r1.gfree hp)
  refine ⟨fun i m H' => ∃ P2 G2, Le P1 P2 ∧ Rel C P2 G2 H' ∧ i ≤ ds.length ∧ m = ds.length - i ∧ dcW g tt tk tv (wipe3 σ vs) p live (keepD w p Q) (ds.drop i) G2,
    ⟨ds.length, P1, _, Le.refl _, r1.newG hp (.dk .nil), Nat.zero_le _, rfl, q1⟩, ?_⟩
  rintro i m H' ⟨P2, G2, l2, r2, hil, hm, q2⟩
  cases e : ds.drop i with
  | nil =>
    rw [e] at q2
    have hi' : i = ds.length := by
      have := List.drop_eq_nil_iff.mp e
      omega
    subst hi'
    exact .inl ⟨wk.2 P2 G2 H' l2 r2 q2.1, keepD_ok r2 q2.2 (k.le (l1.trans l2))⟩
  | cons d rest =>
    rw [e] at q2
    obtain ⟨lv, σ3, eg, q2⟩ := q2
    have hlt : i < ds.length := by
      have := congrArg List.length e
      simp at this
      omega
    have hd : ds[i]? = some d := by
      have := congrArg (·[0]?) e
      simpa using this
    have hr : ds.drop (i + 1) = rest := by
      have := congrArg (List.drop 1) e
      simpa [List.drop_drop, Nat.add_comm] using this
    obtain ⟨hgo, hy⟩ := wk.1 i d P2 G2 H' l2 r2 lv hd
    refine .inr ⟨hgo, fun H4 => ∃ P4 G4, Le P2 P4 ∧ Rel C P4 G4 H4 ∧ dcW g tt tk tv (wipe3 σ vs) p live (keepD w p Q) rest G4, ?_, fun x H3 y => ?_⟩
    · rintro H4 ⟨P4, G4, l4, r4, q4⟩
      exact ⟨ds.length - (i + 1), by omega, P4, G4, l2.trans l4, r4, by omega, rfl, by rw [hr]; exact q4⟩
    · obtain ⟨P3, l3, r3, v3⟩ := hy x H3 y
      refine Tg.ok r3 g ((s.mono (l1.trans (l2.trans l3))).wipe vs) v3 eg hv fun τ5 s5 w5 => ⟨w5.trans (wipe_wipe τ vs), ?_⟩
      refine ⟨P3, σ3, G2, _, _, r3, s5, q2, fun P6 G6 H6 b l6 r6 q6 => ?_, eF_up⟩
      cases b with
      | false => exact ⟨P6, G6, l3.trans l6, r6, q6⟩
      | true =>
        refine ⟨P6, σ3, G6, _, _, r6, s5.mono l6, q6, fun P7 G7 H7 y v l7 r7 v7 q7 => ?_, eF_up⟩
        refine ⟨P7, σ3, G7, _, _, r7, s5.mono (l6.trans l7), q7, fun P8 G8 H8 z u l8 r8 v8 q8 => ?_, eF_up⟩
        obtain ⟨acc, kk, e8, ek, z8, q8⟩ := q8
        obtain ⟨_, o, g1, g2⟩ := r8.own _ _ e8
        cases g2 with
        | dk qq => exact ⟨_, kk, keyD_ok v7 ek, g1, by rw [← qq.length]; exact z8, P8, _, l3.trans (l6.trans (l7.trans l8)), r8.write e8 (.dk (qq.put v8)), q8⟩
theorem pe_dc3 {w : Bool} {kx vx tg iter : Expr} {ifs : List Expr} {scope : Scope} {own : List (Str × Nat)} {pos : Pos} {it : TI3} {g : Tg} {tt : TT3} {tk tv : T3} (hc : X.calm = true) (hN : X.N.Nodup) (hv : ∀ i ∈ g.vars, i ∈ own.map (·.2)) (hi : PI X tg iter (upI C W it)) (ok : BlkOk X.N X.env.scope scope own)
    (hg : ∀ (s : Shared) (H : Hp) (c : Addr) (cl : List (Str × Addr)) (fp : List Addr), PG (X.blk s H scope (compEnvC scope cl c X.env) fp) tg (g.l2 X.K)) (ht : ∀ (s : Shared) (H : Hp) (c : Addr) (cl : List (Str × Addr)) (fp : List Addr), PTs (X.blk s H scope (compEnvC scope cl c X.env) fp) ifs (upT C W0 tt))
    (hk : ∀ (s : Shared) (H : Hp) (c : Addr) (cl : List (Str × Addr)) (fp : List Addr), PE (X.blk s H scope (compEnvC scope cl c X.env) fp) kx (up C W0 tk))
    (he : ∀ (s : Shared) (H : Hp) (c : Addr) (cl : List (Str × Addr)) (fp : List Addr), PE (X.blk s H scope (compEnvC scope cl c X.env) fp) vx (up C W0 tv)) (hs : ∀ x, foldedSetIterable iter X.env x = pure x) :
    PE X (.DictComp kx vx [⟨tg, iter, ifs, 0⟩] scope pos) (up C W (tdc w it g tt tk tv (own.map (·.2)))) := PEw (pe_dc hc hN hi ok hg ht hk he hs) (dc_up hv)
end
end V3
set_option Elab.async false
set_option linter.all false
set_option maxRecDepth 100000
set_option maxHeartbeats 4000000
/-! V9: what loops walk. -/
namespace V3
open PySem PySem.Spec L2 PyProof.Rows RZ
section
open PySem.F
set_option maxHeartbeats 4000000 in
/-- the call of enumerate with one argument, any that begins -/
theorem meets_enum1 {v : Value} {o : Obj} {Hh : Heap → Prop} (B : Begins v o Hh) :
    Meets (Builtin.«enumerate.__new__» ⟨[.type "enumerate", v], []⟩) (fun _ R s => Hh s.heap ∧ R (.ok (.ret (.ref (s.heap.push o).objs.size)))
      { s with heap := (s.heap.push o).push { cls := .type "enumerate", data := .fields #[.none, .bool false, .ref s.heap.objs.size, rawInt 0, .none, .none] } }) := by
  refine .of_wp fun prog w A R s h => ?_
  obtain ⟨hp, g, d, tk, os⟩ := s
  obtain ⟨b1, h⟩ := h
  have hsub := sub_enumerate
  have go : ∀ {A' : Around} {E : Value → Shared → Prop} {Q : Value → Shared → Prop}, Q (.ref hp.objs.size) ⟨hp.push o, g, d, tk, os⟩ → wpAny (model prog w) A' (pyIter v) Q E ⟨hp, g, d, tk, os⟩ := fun q => B.iter prog w _ _ _ _ b1 q
  wp_walk using go
  refine wpAny_stack_any fun st => wpAny_pure ?_
  split
  · rename_i c _ _ _ _ _
    cases (c == Value.type "enumerate") <;> (wp_walk using go; exact ⟨_, rfl, h⟩)
  · wp_walk using go
    exact ⟨_, rfl, h⟩
theorem enum1_begins {prog : Program} {w : World} {A : Around} {E : Value → Shared → Prop} {s : Shared} {v : Value} {o : Obj} {Hh : Heap → Prop} {Q : Value → Shared → Prop} (B : Begins v o Hh) (b1 : Hh s.heap)
    (h : ∀ h', IsEnum h' (s.heap.objs.size + 1) s.heap.objs.size 0 .none → h'.get? s.heap.objs.size = some o → (∀ b u, s.heap.get? b = some u → h'.get? b = some u) → Q (.ref (s.heap.objs.size + 1)) { s with heap := h' }) :
    wpAny (model prog w) A (call (.type "enumerate") [v]) Q E s := by
  have hz : (s.heap.push o).objs.size = s.heap.objs.size + 1 := Heap.size_push ..
  have he := Heap.get?_push_size (s.heap.push o) (o := ({ cls := .type "enumerate", data := .fields #[.none, .bool false, .ref s.heap.objs.size, rawInt 0, .none, .none] } : Obj)) rfl
  rw [hz] at he
  refine callType_new F.called_enumerate (by decide) (F.typeCall_enumerate_1 _) (F.newCall_enumerate_1 _) (fun obj => F.args_object_init_2 obj _) F.entry_enumerate_new (meets_enum1 B) ⟨b1, ?_⟩
  show _ ∧ _
  rw [hz]
  exact ⟨⟨_, he, rfl⟩, h _ he (Heap.get?_push_of_some _ (Heap.get?_push_size _ B.free)) fun b u q => Heap.get?_push_of_some _ (Heap.get?_push_of_some _ q)⟩
end
/-- the tuple at a, each item in a new pair -/
def IteT (K : PySem.W.Frag) (a : Addr) : It :=
  ⟨fun i H => ∃ (xs : List V) (x : V), SqT K H a xs ∧ xs[i]? = some x, fun i H v H' => ∃ T x, v = .ref T ∧ H T = none ∧ H' = upd H T (.tup [.int (i : Nat), x]) ∧ ∀ xs, SqT K H a xs → xs[i]? = some x, fun i H => ∃ xs : List V, SqT K H a xs ∧ xs.length = i⟩
theorem turn_enumT {P : Program} {w : World} {K : PySem.W.Frag} {elts : List Expr} {kk : Nat} {tpos : Pos} (a e it : Addr) (hai : a ≠ it) (hae : a ≠ e) :
    Turn P w K (.Tuple elts kk tpos) (IteT K a) [e, it] e (fun i h => (∃ old, IsEnum h e it ((i : Nat) : Int) old) ∧ h.IsTupleIter it a i ∧ e ≠ it) where
  mem := List.mem_cons_self ..
  obj := fun i h st b hb => by
    obtain ⟨⟨old, he⟩, ⟨o, ho, hc, hd⟩, _⟩ := st
    rcases List.mem_cons.mp hb with z | z
    · rw [z]; exact ⟨_, he, fun v q => nomatch q⟩
    · rw [List.mem_singleton.mp z]; exact ⟨o, ho, fun v q => by rw [hd] at q; cases q⟩
  keep := fun i h h' st k => by
    obtain ⟨⟨old, he⟩, hi, hne⟩ := st
    exact ⟨⟨old, k e (List.mem_cons_self ..) _ he⟩, hi.at fun o q => k it (by simp) o q, hne⟩
  item := by
    intro X hP hw hK hc i pins s σ H E I hf st hg
    subst hP hw hK
    obtain ⟨⟨old, he⟩, hit, hne⟩ := st
    obtain ⟨xs, x, hq, hx⟩ := hg
    obtain ⟨its, rv, p, hz⟩ := I.tuple hq
    obtain ⟨u, hu, ru⟩ := rv.get hx
    have hel : e < s.heap.objs.size := Heap.lt_size he
    have hil : it < s.heap.objs.size := by obtain ⟨_, q, _⟩ := hit; exact Heap.lt_size q
    have hlt : i < its.toArray.size := by
      have := (List.getElem?_eq_some_iff.mp hu).1
      simpa using this
    have p' : s.heap.IsTuple a its.toArray := p
    refine wpAny_pyNext_enum_itemD (Draws.tuple (A := X.A.in1) (I.ok.hd hc) it a hai its.toArray) he ⟨hit, p'⟩ hlt hne (by simp [hne, hae.symm]) fun y h' tk hy ho hit' hT hsz hk => ?_
    have ey : y = u := by
      have h1 : its[i]? = some y := by simpa using hy
      rw [hu] at h1
      exact (Option.some.inj h1).symm
    subst ey
    refine ⟨_, rfl, wpAny_letOwnedTupleGo_enum (s := { s with heap := h', toks := tk + 1 }) ho fun h'' he' sb => ?_⟩
    have hT2 : h''.get? s.heap.objs.size = some { cls := .type "tuple", data := .seq #[.int i tk, y] } := (sb.2 _ (Nat.ne_of_gt hel)).trans hT
    have new : ObjOk X.prog X.w (upd H s.heap.objs.size (.tup [.int (i : Nat), x])) h'' s.heap.objs.size (.tup [.int (i : Nat), x]) :=
      ⟨by show 2 ≤ sizeLine; decide, [.int i tk, y], .cons ⟨_, rfl⟩ (.cons ru .nil), ⟨_, hT2, rfl, _, rfl⟩⟩
    have I1 : Inv X pins σ (upd H s.heap.objs.size (.tup [.int (i : Nat), x])) { s with heap := h'', toks := tk + 1 } :=
      I.turnedNew (ch := [e, it]) (fun b ob hb q => (sb.2 b fun z => hb (by simp [z])).trans (hk b ob (fun z => hb (by simp [z])) (fun z => hb (by simp [z])) q)) hf (Nat.le_refl _) new
    refine ⟨.ref s.heap.objs.size, _, I1, rfl, ⟨_, x, rfl, I.hok.fresh (Nat.le_refl _), rfl, fun ys hy' => by rw [I.tuple_inj hy' hq]; exact hx⟩, ⟨⟨y, ?_⟩, hit'.1.at fun o q => (sb.2 it (Ne.symm hne)).trans q, hne⟩, fun b hb => ?_⟩
    · have e1 : ((i + 1 : Nat) : Int) = (i : Int) + 1 := by omega
      rw [e1]; exact he'
    · have hb' : b < s.heap.objs.size := by
        rcases List.mem_cons.mp hb with z | z
        · rw [z]; exact hel
        · rw [List.mem_singleton.mp z]; exact hil
      rw [upd_ne (Nat.ne_of_lt hb')]
      exact (hf b hb).1
  done := by
    intro X hP hw hK hc i pins s σ H E I hf st hg
    subst hP hw hK
    obtain ⟨⟨old, he⟩, hit, hne⟩ := st
    obtain ⟨xs, hq, hx⟩ := hg
    obtain ⟨its, rv, p, hz⟩ := I.tuple hq
    obtain ⟨f0, f1, f2, f3, f4, f5⟩ := hf it (by simp)
    have hl := rv.length
    have p' : s.heap.IsTuple a its.toArray := p
    have hlen : its.toArray.size = i := by simp; omega
    subst hlen
    exact wpAny_pyNext_enum_endD (Draws.tuple (A := X.A.in1) (I.ok.hd hc) it a hai its.toArray) he ⟨hit, p'⟩ fun h' eb => ⟨rfl, I.turned (t' := s.toks) (fun b o hb q => eb b o hb q) f0 f1 f3 f4 f5⟩
  self := fun A i s Q E st h => by
    obtain ⟨⟨_, he⟩, _⟩ := st
    exact wpAny_pyIter_enum he h

section
variable {C : Cn} {W : WX} {X : Cx} {P : Hp} {G : Gp}
/-- enumerate of a list or a tuple -/
def iEnA (K : PySem.W.Frag) (ta : TA) : TI := fun σ H R => ta σ H fun vs H1 => ∃ a xs, vs = [.ref a] ∧ ((SqL K H1 a xs ∧ R (Ite K a) H1) ∨ (SqT K H1 a xs ∧ R (IteT K a) H1))
theorem pi_enA {e : Expr} {ta : TA} {p pos tpos : Pos} {elts : List Expr} {kk : Nat} (hg : Gl X "enumerate") (hm : X.mg "enumerate" = none) (ha : PA X [e] ta) (hs : starEach [e] X.env = [(false, eval e X.env)]) :
    PI X (.Tuple elts kk tpos) (.Call (.Name "enumerate" p) [e] [] pos) (iEnA X.K ta) := by
  refine ⟨fun pins s σ H R I h => ?_⟩
  refine Call_ (ld_blt I hg hm boot_enumerate (PyProof.Rows.callWith_type1 (thn (ha.run pos pins s σ H _ I h) fun us s1 ⟨vs, H1, I1, r1, q1⟩ => ?_) hs rfl))
  obtain ⟨a, xs, ex, q1⟩ := q1
  subst ex
  cases r1 with
  | cons r rr =>
    cases rr
    cases r
    have fr2 : ∀ b ∈ [s1.heap.objs.size + 1, s1.heap.objs.size], FpOk X pins H1 b := fun b hb => by
      have hle : s1.heap.objs.size ≤ b := by
        rcases List.mem_cons.mp hb with z | z
        · omega
        · rw [List.mem_singleton.mp z]; exact Nat.le_refl _
      exact I1.fpOk hle (I1.hok.fresh hle)
    rcases q1 with ⟨hq, q⟩ | ⟨hq, q⟩
    · obtain ⟨its, rv, p', hz⟩ := I1.list hq
      refine call_enumerate_list p'.isList fun h' he hit hsz hk => wpAny_pyIter_enum he ?_
      exact ⟨s1.heap.objs.size + 1, [s1.heap.objs.size + 1, s1.heap.objs.size], _, _, H1, rfl, I1.kept (t' := s1.toks) hk, turn_enum a (s1.heap.objs.size + 1) s1.heap.objs.size, ⟨⟨.none, he⟩, hit, Nat.succ_ne_self _⟩, fr2, q⟩
    · obtain ⟨its, rv, p', hz⟩ := I1.tuple hq
      have p2 : s1.heap.IsTuple a its.toArray := p'
      have hlt : a < s1.heap.objs.size := by obtain ⟨o, ho, _⟩ := id p2; exact Heap.lt_size ho
      refine enum1_begins (begins_tuple a its.toArray) p2 fun h' he hit hk => wpAny_pyIter_enum he ?_
      refine ⟨s1.heap.objs.size + 1, [s1.heap.objs.size + 1, s1.heap.objs.size], _, _, H1, rfl, I1.kept (t' := s1.toks) hk, turn_enumT a (s1.heap.objs.size + 1) s1.heap.objs.size (Nat.ne_of_lt hlt) (Nat.ne_of_lt (Nat.lt_succ_of_lt hlt)), ⟨⟨.none, he⟩, ⟨_, hit, rfl, rfl⟩, Nat.succ_ne_self _⟩, fr2, q⟩

/-! ### over trees -/
/-- a list or tuple, or a text, by what it yields; live: what must hold at each turn -/
def liveOf (G : Gp) : D → Gp → Prop
  | .ref a => fun G' => G' a = G a
  | _ => fun _ => True
def walkD (G : Gp) : D → Option (List D)
  | .str x => some (x.cps.toList.map fun c => .str ⟨#[c]⟩)
  | d => seqA G d
/-- what a sequence at a yields at each turn -/
theorem walk_seq (hK : X.K = C.K) {d : D} {v : V} {xs : List D} {H : Hp} (r : Rel C P G H) (rv : Rv C P d v) (h : seqA G d = some xs) :
    ∃ a vs, v = .ref a ∧ ((SqL X.K H a vs ∧ ∀ P' G' H', Le P P' → Rel C P' G' H' → liveOf G d G' → ∃ ws, SqL X.K H' a ws ∧ Rvs C P' xs ws) ∨
      (SqT X.K H a vs ∧ ∀ P' G' H', Le P P' → Rel C P' G' H' → liveOf G d G' → ∃ ws, SqT X.K H' a ws ∧ Rvs C P' xs ws)) := by
  rw [hK]
  cases rv with
  | tup s q =>
    cases h
    exact ⟨_, _, rfl, .inr ⟨SqT.of (r.sub _ _ s), fun P' G' H' l r' _ => ⟨_, SqT.of (r'.sub _ _ (l _ _ s)), q.mono l⟩⟩⟩
  | tuf z s q =>
    cases h
    exact ⟨_, _, rfl, .inr ⟨.inl (.inr ⟨_, r.sub _ _ s⟩), fun P' G' H' l r' _ => ⟨_, .inl (.inr ⟨_, r'.sub _ _ (l _ _ s)⟩), q.mono l⟩⟩⟩
  | lst s q =>
    cases h
    exact ⟨_, _, rfl, .inl ⟨SqL.of (r.sub _ _ s), fun P' G' H' l r' _ => ⟨_, SqL.of (r'.sub _ _ (l _ _ s)), q.mono l⟩⟩⟩
  | rol s q =>
    cases h
    exact ⟨_, _, rfl, .inl ⟨r.sub.sqL s, fun P' G' H' l r' _ => ⟨_, r'.sub.sqL (l.sqL s), q.mono l⟩⟩⟩
  | ref a =>
    simp only [seqA, seqL] at h
    split at h
    · rename_i ys e
      cases h
      obtain ⟨_, o, h1, h2⟩ := r.own _ _ e
      cases h2 with
      | lst q =>
        refine ⟨a, _, rfl, .inl ⟨SqL.of h1, fun P' G' H' l r' lv => ?_⟩⟩
        have e' : G' a = some (.lst xs) := by
          have : G' a = G a := lv
          rw [this, e]
        obtain ⟨_, o', g1, g2⟩ := r'.own _ _ e'
        cases g2 with
        | lst q' => exact ⟨_, SqL.of g1, q'⟩
    · cases h
  | _ => simp [seqA, seqL] at h
theorem wk_list {K : PySem.W.Frag} {a : Addr} {xs : List D} {live : Gp → Prop} (h : ∀ P' G' H', Le P P' → Rel C P' G' H' → live G' → ∃ ws, SqL K H' a ws ∧ Rvs C P' xs ws) : WkOk C P (Itl K a) xs live := by
  refine ⟨fun i d P' G' H' l r lv hd => ?_, fun P' G' H' l r lv => ?_⟩
  · obtain ⟨ws, h1, h2⟩ := h P' G' H' l r lv
    obtain ⟨w, e1, e2⟩ := h2.get hd
    refine ⟨⟨ws, w, h1, e1⟩, fun x H2 ⟨eH, y⟩ => ?_⟩
    subst eH
    have := y ws h1
    rw [e1] at this
    cases this
    exact ⟨P', Le.refl _, r, e2⟩
  · obtain ⟨ws, h1, h2⟩ := h P' G' H' l r lv
    exact ⟨ws, h1, by rw [← h2.length]; exact Nat.le_refl _⟩
theorem wk_tup {K : PySem.W.Frag} {a : Addr} {xs : List D} {live : Gp → Prop} (h : ∀ P' G' H', Le P P' → Rel C P' G' H' → live G' → ∃ ws, SqT K H' a ws ∧ Rvs C P' xs ws) : WkOk C P (Itt K a) xs live := by
  refine ⟨fun i d P' G' H' l r lv hd => ?_, fun P' G' H' l r lv => ?_⟩
  · obtain ⟨ws, h1, h2⟩ := h P' G' H' l r lv
    obtain ⟨w, e1, e2⟩ := h2.get hd
    refine ⟨⟨ws, w, h1, e1⟩, fun x H2 ⟨eH, y⟩ => ?_⟩
    subst eH
    have := y ws h1
    rw [e1] at this
    cases this
    exact ⟨P', Le.refl _, r, e2⟩
  · obtain ⟨ws, h1, h2⟩ := h P' G' H' l r lv
    exact ⟨ws, h1, by rw [← h2.length]; exact Nat.le_refl _⟩
def enumD (xs : List D) : List D := xs.mapIdx fun i x => .tup [.int (i : Nat), x]
theorem enum_get {xs : List D} {i : Nat} {d : D} (h : (enumD xs)[i]? = some d) : ∃ x, xs[i]? = some x ∧ d = .tup [.int (i : Nat), x] := by
  unfold enumD at h
  rw [List.getElem?_mapIdx] at h
  cases e : xs[i]? with
  | none => rw [e] at h; cases h
  | some x =>
    rw [e] at h
    exact ⟨x, rfl, (Option.some.inj h).symm⟩
theorem wk_en {K : PySem.W.Frag} {a : Addr} {xs : List D} {live : Gp → Prop} (h : ∀ P' G' H', Le P P' → Rel C P' G' H' → live G' → ∃ ws, SqL K H' a ws ∧ Rvs C P' xs ws) : WkOk C P (Ite K a) (enumD xs) live := by
  refine ⟨fun i d P' G' H' l r lv hd => ?_, fun P' G' H' l r lv => ?_⟩
  · obtain ⟨ws, h1, h2⟩ := h P' G' H' l r lv
    obtain ⟨y, hy, rfl⟩ := enum_get hd
    obtain ⟨w, e1, e2⟩ := h2.get hy
    refine ⟨⟨ws, w, h1, e1⟩, fun x H2 ⟨T, x', e3, e4, e5, e6⟩ => ?_⟩
    subst e3 e5
    have := e6 ws h1
    rw [e1] at this
    cases this
    obtain ⟨l2, r2⟩ := r.newP (o := .tup [.int (i : Nat), w]) e4
    exact ⟨_, l2, r2, .tup upd_same (.cons (.int _) (.cons (e2.mono l2) .nil))⟩
  · obtain ⟨ws, h1, h2⟩ := h P' G' H' l r lv
    refine ⟨ws, h1, ?_⟩
    have : (enumD xs).length = xs.length := by simp [enumD]
    rw [this, ← h2.length]; exact Nat.le_refl _
theorem wk_enT {K : PySem.W.Frag} {a : Addr} {xs : List D} {live : Gp → Prop} (h : ∀ P' G' H', Le P P' → Rel C P' G' H' → live G' → ∃ ws, SqT K H' a ws ∧ Rvs C P' xs ws) : WkOk C P (IteT K a) (enumD xs) live := by
  refine ⟨fun i d P' G' H' l r lv hd => ?_, fun P' G' H' l r lv => ?_⟩
  · obtain ⟨ws, h1, h2⟩ := h P' G' H' l r lv
    obtain ⟨y, hy, rfl⟩ := enum_get hd
    obtain ⟨w, e1, e2⟩ := h2.get hy
    refine ⟨⟨ws, w, h1, e1⟩, fun x H2 ⟨T, x', e3, e4, e5, e6⟩ => ?_⟩
    subst e3 e5
    have := e6 ws h1
    rw [e1] at this
    cases this
    obtain ⟨l2, r2⟩ := r.newP (o := .tup [.int (i : Nat), w]) e4
    exact ⟨_, l2, r2, .tup upd_same (.cons (.int _) (.cons (e2.mono l2) .nil))⟩
  · obtain ⟨ws, h1, h2⟩ := h P' G' H' l r lv
    refine ⟨ws, h1, ?_⟩
    have : (enumD xs).length = xs.length := by simp [enumD]
    rw [this, ← h2.length]
def zipD (xs ys : List D) : List D := List.zipWith (fun x y => .tup [x, y]) xs ys
theorem zip_get {xs ys : List D} {i : Nat} {d : D} (h : (zipD xs ys)[i]? = some d) : ∃ x y, xs[i]? = some x ∧ ys[i]? = some y ∧ d = .tup [x, y] := by
  unfold zipD at h
  rw [List.getElem?_zipWith] at h
  cases e : xs[i]? with
  | none => rw [e] at h; simp at h
  | some x =>
    cases e2 : ys[i]? with
    | none => rw [e, e2] at h; simp at h
    | some y =>
      rw [e, e2] at h
      exact ⟨x, y, rfl, rfl, (Option.some.inj h).symm⟩
theorem wk_zip {K : PySem.W.Frag} {a b : Addr} {xs ys : List D} {live : Gp → Prop} (h : ∀ P' G' H', Le P P' → Rel C P' G' H' → live G' → ∃ ws, SqL K H' a ws ∧ Rvs C P' xs ws) (k : ∀ P' G' H', Le P P' → Rel C P' G' H' → live G' → ∃ ws, SqL K H' b ws ∧ Rvs C P' ys ws) : WkOk C P (Itz K a b) (zipD xs ys) live := by
  refine ⟨fun i d P' G' H' l r lv hd => ?_, fun P' G' H' l r lv => ?_⟩
  · obtain ⟨ws, h1, h2⟩ := h P' G' H' l r lv
    obtain ⟨us, k1, k2⟩ := k P' G' H' l r lv
    obtain ⟨x, y, hx, hy, rfl⟩ := zip_get hd
    obtain ⟨w, e1, e2⟩ := h2.get hx
    obtain ⟨u, f1, f2⟩ := k2.get hy
    refine ⟨⟨ws, us, w, u, h1, k1, e1, f1⟩, fun v H2 ⟨T, x', y', e3, e4, e5, e6, e7⟩ => ?_⟩
    subst e3 e5
    have := e6 ws h1
    rw [e1] at this
    cases this
    have := e7 us k1
    rw [f1] at this
    cases this
    obtain ⟨l2, r2⟩ := r.newP (o := .tup [w, u]) e4
    exact ⟨_, l2, r2, .tup upd_same (.cons (e2.mono l2) (.cons (f2.mono l2) .nil))⟩
  · obtain ⟨ws, h1, h2⟩ := h P' G' H' l r lv
    obtain ⟨us, k1, k2⟩ := k P' G' H' l r lv
    refine ⟨ws, us, h1, k1, ?_⟩
    have e : (zipD xs ys).length = min xs.length ys.length := by simp [zipD]
    rw [e, ← h2.length, ← k2.length]
    omega
theorem wk_zipT {K : PySem.W.Frag} {a b : Addr} {xs ys : List D} {live : Gp → Prop} (h : ∀ P' G' H', Le P P' → Rel C P' G' H' → live G' → ∃ ws, SqT K H' a ws ∧ Rvs C P' xs ws) (k : ∀ P' G' H', Le P P' → Rel C P' G' H' → live G' → ∃ ws, SqT K H' b ws ∧ Rvs C P' ys ws) : WkOk C P (ItzT K a b) (zipD xs ys) live := by
  refine ⟨fun i d P' G' H' l r lv hd => ?_, fun P' G' H' l r lv => ?_⟩
  · obtain ⟨ws, h1, h2⟩ := h P' G' H' l r lv
    obtain ⟨us, k1, k2⟩ := k P' G' H' l r lv
    obtain ⟨x, y, hx, hy, rfl⟩ := zip_get hd
    obtain ⟨w, e1, e2⟩ := h2.get hx
    obtain ⟨u, f1, f2⟩ := k2.get hy
    refine ⟨⟨ws, us, w, u, h1, k1, e1, f1⟩, fun v H2 ⟨T, x', y', e3, e4, e5, e6, e7⟩ => ?_⟩
    subst e3 e5
    have := e6 ws h1
    rw [e1] at this
    cases this
    have := e7 us k1
    rw [f1] at this
    cases this
    obtain ⟨l2, r2⟩ := r.newP (o := .tup [w, u]) e4
    exact ⟨_, l2, r2, .tup upd_same (.cons (e2.mono l2) (.cons (f2.mono l2) .nil))⟩
  · obtain ⟨ws, h1, h2⟩ := h P' G' H' l r lv
    obtain ⟨us, k1, k2⟩ := k P' G' H' l r lv
    refine ⟨ws, us, h1, k1, ?_⟩
    have e : (zipD xs ys).length = min xs.length ys.length := by simp [zipD]
    rw [e, ← h2.length, ← k2.length]
    omega
/-- over a list, a tuple, a text -/
def iseq (t : T3) : TI3 := fun σ G R E => t σ G (fun x G1 => ∃ xs, walkD G1 x = some xs ∧ R xs (liveOf G1 x) G1) E
def isWk (K : PySem.W.Frag) (te : TE) : TI := fun σ H R => te σ H fun v H1 => (∃ x, v = .str x ∧ R (Its x) H1) ∨ ∃ a xs, v = .ref a ∧ ((SqL K H1 a xs ∧ R (Itl K a) H1) ∨ (SqT K H1 a xs ∧ R (Itt K a) H1))
theorem pi_seqA {tg e : Expr} {te : TE} (he : PE X e te) : PI X tg e (isWk X.K te) := by
  refine ⟨fun pins s σ H R I h => ?_⟩
  refine thn (he.run pins s σ H _ I h) fun v s1 ⟨y, H1, I1, r1, q⟩ => ?_
  have noTk : ∀ (a : Addr), y = .ref a → v = .ref a := fun a e => by subst e; exact r1
  rcases q with ⟨x, ex, q⟩ | ⟨a, xs, ex, q⟩
  · subst ex
    obtain ⟨t, rfl⟩ := r1
    cases ha : x.cps.all (· < 128)
    · exact wpAny_pyIter_wide ha (pi_one (tk := s1.toks) I1 _ (turn_str _ x t "str_iterator" (.inr rfl)) ⟨_, Heap.get?_push_size _ rfl, rfl, rfl⟩ q)
    · exact wpAny_pyIter_ascii ha (pi_one (tk := s1.toks) I1 _ (turn_str _ x t "str_ascii_iterator" (.inl rfl)) ⟨_, Heap.get?_push_size _ rfl, rfl, rfl⟩ q)
  · have := noTk a ex
    subst this
    rcases q with ⟨hq, q⟩ | ⟨hq, q⟩
    · obtain ⟨its, rv, p, hz⟩ := I1.list hq
      exact wpAny_pyIter_list p.isList (pi_one (tk := s1.toks) I1 _ (turn_list a _) ⟨_, Heap.get?_push_size _ rfl, rfl, rfl⟩ q)
    · obtain ⟨its, rv, p, hz⟩ := I1.tuple hq
      exact wpAny_pyIter_tuple (show s1.heap.IsTuple a its.toArray from p) (pi_one (tk := s1.toks) I1 _ (turn_tuple a _) ⟨_, Heap.get?_push_size _ rfl, rfl, rfl⟩ q)
theorem str_items {x : Str} {i : Nat} {d : D} (h : (x.cps.toList.map fun c => D.str ⟨#[c]⟩)[i]? = some d) : ∃ c, x.cps[i]? = some c ∧ d = .str ⟨#[c]⟩ := by
  rw [List.getElem?_map] at h
  cases e : x.cps.toList[i]? with
  | none => rw [e] at h; cases h
  | some c =>
    rw [e] at h
    exact ⟨c, by simpa using e, (Option.some.inj h).symm⟩
theorem pi_seq3 {tg e : Expr} {t : T3} (hK : X.K = C.K) (he : PE X e (up C W t)) : PI X tg e (upI C W (iseq t)) := PIw (pi_seqA he) fun τ H R h => by
  obtain ⟨P, σ, G, Q, E, r, s, h, k, ee⟩ := h
  refine up_go r s h (fun P1 G1 H1 x v l1 r1 v1 ⟨xs, e1, q1⟩ => ?_) ee
  cases x with
  | str x =>
    cases v1
    cases e1
    refine .inl ⟨x, rfl, k P1 G1 H1 _ _ _ l1 r1 ⟨fun i d P' G' H' l r' _ hd => ?_, fun P' G' H' l r' _ => ?_⟩ q1⟩
    · obtain ⟨c, h1, rfl⟩ := str_items hd
      refine ⟨(Array.getElem?_eq_some_iff.mp h1).1, fun y H2 ⟨e2, c', h2, e3⟩ => ?_⟩
      subst e2 e3
      rw [h1] at h2
      cases h2
      exact ⟨P', Le.refl _, r', .str _⟩
    · show x.cps.size ≤ _
      simp
  | _ =>
    refine .inr ?_
    obtain ⟨a, vs, ev, z⟩ := walk_seq (X := X) hK r1 v1 (by simpa only [walkD] using e1)
    refine ⟨a, vs, ev, ?_⟩
    rcases z with ⟨z1, z2⟩ | ⟨z1, z2⟩
    · exact .inl ⟨z1, k P1 G1 H1 _ _ _ l1 r1 (wk_list z2) q1⟩
    · exact .inr ⟨z1, k P1 G1 H1 _ _ _ l1 r1 (wk_tup z2) q1⟩
def ien (t : T3) : TI3 := fun σ G R E => t σ G (fun x G1 => ∃ xs, seqA G1 x = some xs ∧ R (enumD xs) (liveOf G1 x) G1) E
theorem pi_en3 {e : Expr} {t : T3} {p pos tpos : Pos} {elts : List Expr} {kk : Nat} (hK : X.K = C.K) (hg : Gl X "enumerate") (hm : X.mg "enumerate" = none) (he : PE X e (up C W t)) (hs : starEach [e] X.env = [(false, eval e X.env)]) :
    PI X (.Tuple elts kk tpos) (.Call (.Name "enumerate" p) [e] [] pos) (upI C W (ien t)) := PIw (pi_enA hg hm (pa_cons he pa_nil hs) hs) fun τ H R h => by
  obtain ⟨P, σ, G, Q, E, r, s, h, k, ee⟩ := h
  refine up_go r s h (fun P1 G1 H1 x v l1 r1 v1 ⟨xs, e1, q1⟩ => ?_) ee
  obtain ⟨a, vs, ev, z⟩ := walk_seq (X := X) hK r1 v1 e1
  subst ev
  refine ⟨a, vs, rfl, ?_⟩
  rcases z with ⟨z1, z2⟩ | ⟨z1, z2⟩
  · exact .inl ⟨z1, k P1 G1 H1 _ _ _ l1 r1 (wk_en z2) q1⟩
  · exact .inr ⟨z1, k P1 G1 H1 _ _ _ l1 r1 (wk_enT z2) q1⟩
def isTup : D → Bool
  | .tup _ => true
  | .tuf _ => true
  | _ => false
def izip (ta tb : T3) : TI3 := fun σ G R E => ta σ G (fun x G1 => tb σ G1 (fun y G2 => ∃ xs ys, seqA G2 x = some xs ∧ seqA G2 y = some ys ∧ isTup x = isTup y ∧ R (zipD xs ys) (fun G' => liveOf G2 x G' ∧ liveOf G2 y G') G2) E) E
theorem walk_kind (hK : X.K = C.K) {d : D} {v : V} {xs : List D} {H : Hp} (r : Rel C P G H) (rv : Rv C P d v) (h : seqA G d = some xs) :
    ∃ a vs, v = .ref a ∧ ((isTup d = false ∧ SqL X.K H a vs ∧ ∀ P' G' H', Le P P' → Rel C P' G' H' → liveOf G d G' → ∃ ws, SqL X.K H' a ws ∧ Rvs C P' xs ws) ∨
      (isTup d = true ∧ SqT X.K H a vs ∧ ∀ P' G' H', Le P P' → Rel C P' G' H' → liveOf G d G' → ∃ ws, SqT X.K H' a ws ∧ Rvs C P' xs ws)) := by
  cases rv with
  | tup s q =>
    cases h
    rw [hK]
    exact ⟨_, _, rfl, .inr ⟨rfl, SqT.of (r.sub _ _ s), fun P' G' H' l r' _ => ⟨_, SqT.of (r'.sub _ _ (l _ _ s)), q.mono l⟩⟩⟩
  | tuf z s q =>
    cases h
    rw [hK]
    exact ⟨_, _, rfl, .inr ⟨rfl, .inl (.inr ⟨_, r.sub _ _ s⟩), fun P' G' H' l r' _ => ⟨_, .inl (.inr ⟨_, r'.sub _ _ (l _ _ s)⟩), q.mono l⟩⟩⟩
  | lst s q =>
    cases h
    rw [hK]
    exact ⟨_, _, rfl, .inl ⟨rfl, SqL.of (r.sub _ _ s), fun P' G' H' l r' _ => ⟨_, SqL.of (r'.sub _ _ (l _ _ s)), q.mono l⟩⟩⟩
  | rol s q =>
    cases h
    rw [hK]
    exact ⟨_, _, rfl, .inl ⟨rfl, r.sub.sqL s, fun P' G' H' l r' _ => ⟨_, r'.sub.sqL (l.sqL s), q.mono l⟩⟩⟩
  | ref a =>
    rw [hK]
    simp only [seqA, seqL] at h
    split at h
    · rename_i ys e
      cases h
      obtain ⟨_, o, h1, h2⟩ := r.own _ _ e
      cases h2 with
      | lst q =>
        refine ⟨a, _, rfl, .inl ⟨rfl, SqL.of h1, fun P' G' H' l r' lv => ?_⟩⟩
        have e' : G' a = some (.lst xs) := by
          have : G' a = G a := lv
          rw [this, e]
        obtain ⟨_, o', g1, g2⟩ := r'.own _ _ e'
        cases g2 with
        | lst q' => exact ⟨_, SqL.of g1, q'⟩
    · cases h
  | _ => simp [seqA, seqL] at h
theorem pi_zip3 {e e2 : Expr} {ta tb : T3} {p pos tpos : Pos} {elts : List Expr} {kk : Nat} (hK : X.K = C.K) (hg : Gl X "zip") (hm : X.mg "zip" = none) (he : PE X e (up C W ta)) (he2 : PE X e2 (up C W tb))
    (hs : starEach [e, e2] X.env = (false, eval e X.env) :: starEach [e2] X.env) (hs2 : starEach [e2] X.env = [(false, eval e2 X.env)]) (hpl : (backTo pos (starEach [e2] X.env)).any (·.1) = false) :
    PI X (.Tuple elts kk tpos) (.Call (.Name "zip" p) [e, e2] [] pos) (upI C W (izip ta tb)) := PIw (pi_zipA hg hm (pa_cons he (pa_cons he2 pa_nil hs2) hs) hs hpl) fun τ H R h => by
  obtain ⟨P, σ, G, Q, E, r, s, h, k, ee⟩ := h
  refine up_go r s h (fun P1 G1 H1 x v l1 r1 v1 q1 => ?_) ee
  refine up_go r1 (s.mono l1) q1 (fun P2 G2 H2 y u l2 r2 v2 ⟨xs, ys, e1, e2, hk, q2⟩ => ?_) (ee.le l1)
  obtain ⟨a, vs, ev, z⟩ := walk_kind (X := X) hK r2 (v1.mono l2) e1
  obtain ⟨b, us, eu, z'⟩ := walk_kind (X := X) hK r2 v2 e2
  subst ev eu
  refine ⟨a, b, vs, us, rfl, ?_⟩
  rcases z with ⟨k1, z1, z2⟩ | ⟨k1, z1, z2⟩
  · rcases z' with ⟨k2, y1, y2⟩ | ⟨k2, y1, y2⟩
    · exact .inl ⟨z1, y1, k P2 G2 H2 _ _ _ (l1.trans l2) r2 (wk_zip (fun P' G' H' l r lv => z2 P' G' H' l r lv.1) fun P' G' H' l r lv => y2 P' G' H' l r lv.2) q2⟩
    · rw [k1, k2] at hk; cases hk
  · rcases z' with ⟨k2, y1, y2⟩ | ⟨k2, y1, y2⟩
    · rw [k1, k2] at hk; cases hk
    · exact .inr ⟨z1, y1, k P2 G2 H2 _ _ _ (l1.trans l2) r2 (wk_zipT (fun P' G' H' l r lv => z2 P' G' H' l r lv.1) fun P' G' H' l r lv => y2 P' G' H' l r lv.2) q2⟩
/-- range(n), range(a, b) -/
def rngD (lo : Int) (n : Nat) : List D := (List.range n).map fun i => .int (lo + (i : Nat))
theorem wk_rng {lo : Int} {n : Nat} {live : Gp → Prop} : WkOk C P (Itr lo n) (rngD lo n) live := by
  refine ⟨fun i d P' G' H' l r lv hd => ?_, fun P' G' H' l r lv => ?_⟩
  · unfold rngD at hd
    rw [List.getElem?_map] at hd
    by_cases h : i < n
    · rw [List.getElem?_range h] at hd
      cases hd
      refine ⟨h, fun x H2 ⟨e1, e2⟩ => ?_⟩
      subst e1 e2
      exact ⟨P', Le.refl _, r, .int _⟩
    · rw [List.getElem?_eq_none (by simp; omega)] at hd
      cases hd
  · show n ≤ _
    simp [rngD]
def irng1 (t : T3) : TI3 := fun σ G R E => t σ G (fun x G1 => ∃ j : Int, x = .int j ∧ -(2 ^ 62) ≤ j ∧ j < 2 ^ 62 ∧ R (rngD 0 j.toNat) (fun _ => True) G1) E
theorem pi_rng1 {tg a : Expr} {t : T3} {p pos : Pos} (hg : Gl X "range") (hm : X.mg "range" = none) (ha : PE X a (up C W t)) (hs : starEach [a] X.env = [(false, eval a X.env)]) : PI X tg (.Call (.Name "range" p) [a] [] pos) (upI C W (irng1 t)) :=
  PIw (pi_range1 hg hm (pa_cons ha pa_nil hs) hs) fun τ H R h => by
    obtain ⟨P, σ, G, Q, E, r, s, h, k, ee⟩ := h
    refine up_go r s h (fun P1 G1 H1 x v l1 r1 v1 ⟨j, e1, q1, q2, q3⟩ => ?_) ee
    subst e1
    cases v1
    exact ⟨j, rfl, q1, q2, k P1 G1 H1 _ _ _ l1 r1 wk_rng q3⟩
def irng2 (ta tb : T3) : TI3 := fun σ G R E => ta σ G (fun x G1 => tb σ G1 (fun y G2 => ∃ i j : Int, x = .int i ∧ y = .int j ∧ (-(2 ^ 62) ≤ i ∧ i < 2 ^ 62 ∧ -(2 ^ 62) ≤ j ∧ j < 2 ^ 62) ∧ R (rngD i (j - i).toNat) (fun _ => True) G2) E) E
theorem pi_rng2 {tg a b : Expr} {ta tb : T3} {p pos : Pos} (hg : Gl X "range") (hm : X.mg "range" = none) (ha : PE X a (up C W ta)) (hb : PE X b (up C W tb)) (hs : starEach [a, b] X.env = [(false, eval a X.env), (false, eval b X.env)]) (hs2 : starEach [b] X.env = [(false, eval b X.env)]) :
    PI X tg (.Call (.Name "range" p) [a, b] [] pos) (upI C W (irng2 ta tb)) :=
  PIw (pi_range2 hg hm (pa_cons ha (pa_cons hb pa_nil hs2) (by rw [hs, hs2])) hs hs2) fun τ H R h => by
    obtain ⟨P, σ, G, Q, E, r, s, h, k, ee⟩ := h
    refine up_go r s h (fun P1 G1 H1 x v l1 r1 v1 q1 => ?_) ee
    refine up_go r1 (s.mono l1) q1 (fun P2 G2 H2 y u l2 r2 v2 ⟨i, j, e1, e2, q1', q2⟩ => ?_) (ee.le l1)
    subst e1 e2
    cases v1
    cases v2
    exact ⟨i, j, rfl, q1', k P2 G2 H2 _ _ _ (l1.trans l2) r2 wk_rng q2⟩
end
end V3
set_option Elab.async false
set_option linter.all false
set_option maxRecDepth 100000
set_option maxHeartbeats 4000000
/-! V10: defs and calls over trees. -/
namespace V3
open PySem PySem.Spec L2 PyProof.Rows
/-- what every rule asks of a body's context -/
structure Bd (C : Cn) (X : Cx) (W : WX) (k : Nat) : Prop where
  hK : X.K = C.K
  hc : X.calm = true
  hN : X.N.Nodup
  hr : Room k X.A
  hg : X.A.guards = some []
  tk : Takes X W
  hp : PassesOwn (model X.prog X.w) X.A X.env X.xe
section
variable {C : Cn} {X : Cx} {W : WX} {k : Nat}
theorem Bd.hu (B : Bd C X W k) : X.A.units + 65 < cLine := by have := B.hr.un; omega
theorem Bd.hu1 (B : Bd C X W k) : X.A.units + 1 < cLine := by have := B.hr.un; omega
theorem Bd.hu66 (B : Bd C X W k) : X.A.units + 66 < cLine := by have := B.hr.un; omega
theorem takesF {X : Cx} : Takes X W0 := fun _ _ x => by
  obtain ⟨_, _, _, _, _, _, _, _, _, _, _, _, _, _, _, _, z⟩ := x
  exact z.elim
theorem Bd.blk (B : Bd C X W k) (s : Shared) (H : Hp) (sc : Scope) (e : Env) (fp : List Addr) : Bd C (X.blk s H sc e fp) W0 k := ⟨B.hK, B.hc, B.hN, B.hr, B.hg, takesF, PassesOwn.never⟩
theorem Bd.tr (B : Bd C X W k) (pn : List (Addr × Obj)) (xe : Value → Shared → Prop) {W' : WX} (tk : Takes (X.tr pn xe) W') (hp : PassesOwn (model X.prog X.w) X.A X.env xe) : Bd C (X.tr pn xe) W' k := ⟨B.hK, B.hc, B.hN, B.hr, B.hg, tk, hp⟩
end
/-- a def's promise over trees -/
abbrev F3 := List D → Gp → K3 → E3 → Prop
def upF (C : Cn) (n : Nat) (f : F3) : Sp := fun vs H R E' => ∃ P G ds Q E, Rel C.b0 P G H ∧ Rvs C P ds vs ∧ ds.length = n ∧ f ds G Q E ∧ kUp C.b0 P Q R ∧ eUp C.b0 P E E'
/-- a def of the text: as the layer's, with what repr asks -/
structure FnG (P : Program) (w : World) (K : PySem.W.Frag) (mg : Str → Option Value) (base : Heap) (k : Nat) (f : Addr) (fd : FuncData) (ps : List Str) (sp : Sp) : Prop where
  len : ∀ vs H Q E, sp vs H Q E → vs.length = ps.length
  go : ∀ (A : Around) (outer : List Env) (s : Shared) (H : Hp) (args : Args) (us : List Value) (vs : List V) (Q : VK) (E : XK), Room k A → A.guards = some [] → Env0 P w K mg base A outer s H → BindsTo s fd args (ps.zip us) → Vals vs us → sp vs H Q E →
    codeAny (model P w) A (.call (.ref f) args) (CR (L2.CX P w) outer P w H s Q E) s
theorem FnG.mono {P : Program} {w : World} {K : PySem.W.Frag} {mg : Str → Option Value} {base : Heap} {j k : Nat} {f : Addr} {fd : FuncData} {ps : List Str} {sp : Sp} (F : FnG P w K mg base j f fd ps sp) (h : j ≤ k) : FnG P w K mg base k f fd ps sp :=
  ⟨F.len, fun A outer s H args us vs Q E hr => F.go A outer s H args us vs Q E (hr.mono h)⟩
theorem guards_deeper {A : Around} {e : Env} (h : A.guards = some []) : (A.deeper e).guards = some [] := by
  first | exact h | (simpa [Around.deeper] using h)
def run3 (t : TS3) (σ : S3) : Gp → K3 → E3 → Prop := fun G Q E => t { nx := fun _ G1 => Q .non G1, rt := Q, bk := fun _ _ => False, ct := fun _ _ => False } (fun x _ G1 => E x G1) σ G
def start3 (N : List Str) (ds : List D) : S3 := ds.map some ++ List.replicate (N.length - ds.length) none
theorem Rs.start {C : Cn} {P : Hp} {N : List Str} : ∀ {ds : List D} {vs : List V}, Rvs C P ds vs → Rs C P (start3 N ds) (L2.start N vs) := fun {ds vs} h => by
  have nos : ∀ n, Rs C P (List.replicate n none) (List.replicate n none) := fun n => by
    induction n with
    | zero => exact .nil
    | succ n ih => exact .no ih
  have app : ∀ {ds : List D} {vs : List V} {σ : S3} {τ : L2.St}, Rvs C P ds vs → Rs C P σ τ → Rs C P (ds.map some ++ σ) (vs.map some ++ τ) := fun {ds} => by
    induction ds with
    | nil => intro vs σ τ h s; cases h; exact s
    | cons d ds ih => intro vs σ τ h s; cases h with | cons a b => exact .so a (ih b s)
  unfold start3 L2.start
  rw [h.length]
  exact app h (nos _)
section
variable {P : Program} {w : World} {K : PySem.W.Frag} {mg : Str → Option Value} {base : Heap} {C : Cn}
/-- the context of a def's body -/
abbrev cx3 (P : Program) (w : World) (K : PySem.W.Frag) (mg : Str → Option Value) (base : Heap) (N : List Str) (qual : Str) (st : Stmt) (f : Addr) (cdv : Value) (A : Around) (outer : List Env) (s : Shared) (H : Hp) (E : XK) : Cx :=
  cxOf (L2.CX P w) P w K mg base N qual (defScope st) f cdv A outer s H E
theorem bd_def {N ps : List Str} {qual : Str} {st : Stmt} {f : Addr} {cdv : Value} {A : Around} {outer : List Env} {s : Shared} {H : Hp} {E : XK} {k : Nat} (hK : K = C.K) (S : FnScope N ps (defScope st)) (hr : Room k (A.deeper (envOfC qual (defScope st) s.heap.objs.size f cdv))) (hg : A.guards = some []) :
    Bd C (cx3 P w K mg base N qual st f cdv A outer s H E) (fun c d _ H' => E c d H') k :=
  ⟨hK, rfl, S.nd, hr, guards_deeper hg, takes_of rfl rfl rfl rfl, passes_of rfl⟩
/-- a def by its body -/
theorem fn3 {x qual : Str} {st : Stmt} {f : Addr} {fd : FuncData} {N ps : List Str} {k n : Nat} {t : TS3} {dvs : List V} {kws : List (Str × V)} (F : FunD K x qual (defArgs st) (defBody st) (defScope st) dvs kws f fd) (hK : K = C.K) (S : FnScope N ps (defScope st)) (hn : ps.length = n)
    (hbody : ∀ (cdv : Value) (A : Around) (outer : List Env) (s : Shared) (H : Hp) (E : XK), PySem.W.codeIn K cdv qual = true → Bd C.b0 (cx3 P w K mg base N qual st f cdv A outer s H E) (fun c d _ H' => E c d H') k →
      PSs (cx3 P w K mg base N qual st f cdv A outer s H E) (defBody st) (upS C.b0 (fun c d _ H' => E c d H') t)) :
    FnG P w K mg base (k + 1) f fd ps (upF C n fun ds => run3 t (start3 N ds)) := by
  obtain ⟨oc, od, dV, kV, doc, pm, an, cdv, ct, osl, rfl, lk, hcd, _, _⟩ := F.ex
  refine ⟨fun vs H Q E h => ?_, fun A outer s H args us vs Q E hr hg e0 hb r h => ?_⟩
  · obtain ⟨Pp, G, ds, Q3, E3, r, rv, hl, _⟩ := h
    rw [← rv.length, hl, hn]
  · have hl' : vs.length = ps.length := by
      obtain ⟨Pp, G, ds, Q3, E3, r, rv, hl, _⟩ := h
      rw [← rv.length, hl, hn]
    refine LamX.run_ofS (N := N) (ps := ps) lk hcd S hr e0 hb r hl' fun hr' => ?_
    refine ⟨_, hbody cdv A outer s H E hcd (bd_def (C := C.b0) hK S hr' hg), ?_⟩
    obtain ⟨Pp, G, ds, Q3, E3, rl, rv, hl, h, k1, k2⟩ := h
    refine ⟨Pp, _, G, _, _, rl, Rs.start rv, h, ?_, ?_, ?_, ?_, ?_⟩
    · exact fun P' G' H' σ' τ' l r' _ q => k1 P' G' H' .non .non l r' .non q
    · exact k1
    · exact fun P' G' H' σ' τ' l r' _ q => q.elim
    · exact fun P' G' H' σ' τ' l r' _ q => q.elim
    · exact fun P' G' H' σ' τ' x c d l r' _ q e => k2 P' G' H' x c d l r' q e
end

/-! ### calls -/
section
variable {C : Cn} {X : Cx} {W : WX} {k n : Nat} {f c : Addr} {fd : FuncData} {ps : List Str} {sp : Sp} {f3 : F3} {dd : List D} {dvs : List V} {dus : List Value} {x m : Str} {p pos apos : Pos} {e o : Expr} {es : List Expr} {ta : T3} {t : TA3}
theorem run_fnG {pins : List (Addr × Obj)} {σ : L2.St} {H : Hp} {s : Shared} {Q : VK} {us : List Value} {vs : List V} (F : FnG X.prog X.w X.K X.mg X.base k f fd ps sp) (B : Bd C X W k) (hb : Binds X.K fd ps dus) (hd : Vals dvs dus)
    (I : Inv X pins σ H s) (r : Vals vs us) (h : sp (vs ++ dvs) H Q (WE W σ)) : wpAny (model X.prog X.w) X.A (call (.ref f) us) (EP X pins σ Q) X.xe s := by
  have r2 := r.append hd
  refine wpAny_call (codeAny_mono (F.go X.A X.stack s H ⟨us, []⟩ (us ++ dus) (vs ++ dvs) Q _ B.hr B.hg I.env0 (hb s us I.kIn (by rw [← r2.length]; exact F.len _ _ _ _ h)) r2 h) fun res s' hq => ?_)
  cases res with
  | error ev => exact passAt B.tk σ pins H s ev s' I hq
  | ok fl =>
    cases fl with
    | ret u => exact I.after hq
    | next => exact (show False from hq).elim
    | brk => exact (show False from hq).elim
    | cont => exact (show False from hq).elim
def tcf (n : Nat) (f3 : F3) (dd : List D) (t : TA3) : T3 := fun σ G Q E => t σ G (fun xs G1 => (xs ++ dd).length = n ∧ f3 (xs ++ dd) G1 Q E) E
theorem Rvs.appC {P : Hp} (h : ∀ P, Rvs C P dd dvs) {xs : List D} {vs : List V} (r : Rvs C P xs vs) : Rvs C P (xs ++ dd) (vs ++ dvs) := r.app (h P)
/-- f(e, ..) by position -/
theorem pe_call3 (F : FnG X.prog X.w X.K X.mg X.base k f fd ps (upF C n f3)) (B : Bd C X W k) (hg : Gl X x) (hm : X.mg x = some (.ref f)) (hk : PySem.W.keepIn X.K (.ref f) = true) (hb : Binds X.K fd ps dus) (hd : Vals dvs dus) (hdd : ∀ P, Rvs C P dd dvs)
    (ha : PA X (e :: es) (upA C W t)) (hdb : (x == ("__debug__" : Str)) = false) (he : starEach (e :: es) X.env = (false, eval e X.env) :: starEach es X.env) (hpl : (backTo pos (starEach es X.env)).any (·.1) = false) :
    PE X (.Call (.Name x p) (e :: es) [] pos) (up C W (tcf n f3 dd t)) := by
  refine ⟨fun pins s σ H R I h => ?_⟩
  obtain ⟨P, σ3, G, Q, E, r, s3, h, kk, ee⟩ := h
  refine wpAny_Call_Name_kw (ld_glob I hg hm ?_ hdb)
  refine PySem.W.callWith_K (h₀ := X.base) I.ok.mod.kin hk (thn (ha.run pos pins s σ H (fun vs H1 => ∃ P1 G1 ds, Le P P1 ∧ Rel C P1 G1 H1 ∧ Rvs C P1 ds vs ∧ (ds ++ dd).length = n ∧ f3 (ds ++ dd) G1 Q E) I
    ⟨P, σ3, G, _, E, r, s3, h, fun P1 G1 H1 ds vs l1 r1 v1 q1 => ⟨P1, G1, ds, l1, r1, v1, q1.1, q1.2⟩, ee⟩) fun us s1 ⟨vs, H1, I1, rr, P1, G1, ds, l1, r1, v1, hdl, q⟩ => ⟨I1.kIn, ?_⟩) he hpl
  exact run_fnG F B hb hd I1 rr ⟨P1, G1, ds ++ dd, Q, E, r1.b0, v1.appC hdd, hdl, q, (kk.le l1).b0 r1, (ee.le l1).b0 r1⟩
theorem pe_call03 (F : FnG X.prog X.w X.K X.mg X.base k f fd ps (upF C n f3)) (B : Bd C X W k) (hg : Gl X x) (hm : X.mg x = some (.ref f)) (hk : PySem.W.keepIn X.K (.ref f) = true) (hb : Binds X.K fd ps dus) (hd : Vals dvs dus) (hdd : ∀ P, Rvs C P dd dvs) (hdb : (x == ("__debug__" : Str)) = false) :
    PE X (.Call (.Name x p) [] [] pos) (up C W (tcf n f3 dd tanil)) := by
  refine ⟨fun pins s σ H R I h => ?_⟩
  obtain ⟨P, σ3, G, Q, E, r, s3, h, kk, ee⟩ := h
  refine wpAny_Call_Name_kw (ld_glob I hg hm ?_ hdb)
  exact PySem.W.callWith_K0 I.kIn hk (run_fnG (us := []) (vs := []) F B hb hd I .nil ⟨P, G, [] ++ dd, Q, E, r.b0, hdd P, h.1, h.2, kk.b0 r, ee.b0 r⟩)
end
end V3
set_option Elab.async false
set_option linter.all false
set_option maxRecDepth 100000
set_option maxHeartbeats 4000000
/-! V11: builtins called, isinstance, chains, stars, own methods, classes made. -/
namespace V3
open PySem PySem.Spec L2 PyProof.Rows
section
variable {C : Cn} {X : Cx} {W : WX} {k n : Nat} {e o : Expr} {es : List Expr} {ta tb tc : T3} {t : TA3} {p pos apos : Pos}
/-- a builtin function called by name -/
theorem pe_bf3 {b : Bf} {w : Bool} {x : Str} (B : Bd C X W k) (hx : b.name = x) (hg : Gl X x) (hm : X.mg x = none) (ha : PA X (e :: es) (upA C W t)) (he : starEach (e :: es) X.env = (false, eval e X.env) :: starEach es X.env) (hpl : (backTo pos (starEach es X.env)).any (·.1) = false) :
    PE X (.Call (.Name x p) (e :: es) [] pos) (up C W (tcl (bfV w b) t)) := by
  have ok := bf_ok (w := w) (b := b) B.hc B.hg B.hu66 B.hK
  subst hx
  have fin : ∀ τ H R, up C W (tcl (bfV w b) t) τ H R → tCB (upCl C (bfV w b)) (upA C W t) τ H R := fun τ H R h => by
    obtain ⟨P, σ, G, Q, E, r, s, h, k, ee⟩ := h
    exact ⟨P, σ, G, _, E, r, s, h, fun P1 G1 H1 ds vs l1 r1 v1 q1 => ⟨P1, G1, ds, Q, r1, v1, q1, k.le l1⟩, ee⟩
  cases b
  case len => exact PEw (pe_callB ok hg hm (by decide +kernel) ha (by decide +kernel) (by decide +kernel) he hpl) fin
  case abs => exact PEw (pe_callB ok hg hm (by decide +kernel) ha (by decide +kernel) (by decide +kernel) he hpl) fin
  case max2 => exact PEw (pe_callB ok hg hm (by decide +kernel) ha (by decide +kernel) (by decide +kernel) he hpl) fin
  case min2 => exact PEw (pe_callB ok hg hm (by decide +kernel) ha (by decide +kernel) (by decide +kernel) he hpl) fin
  case sum => exact PEw (pe_callB ok hg hm (by decide +kernel) ha (by decide +kernel) (by decide +kernel) he hpl) fin
  case all => exact PEw (pe_callB ok hg hm (by decide +kernel) ha (by decide +kernel) (by decide +kernel) he hpl) fin
  case any => exact PEw (pe_callB ok hg hm (by decide +kernel) ha (by decide +kernel) (by decide +kernel) he hpl) fin
  case sorted => exact PEw (pe_callB ok hg hm (by decide +kernel) ha (by decide +kernel) (by decide +kernel) he hpl) fin
  case divmod => exact PEw (pe_callB ok hg hm (by decide +kernel) ha (by decide +kernel) (by decide +kernel) he hpl) fin
  case repr => exact PEw (pe_callB ok hg hm (by decide +kernel) ha (by decide +kernel) (by decide +kernel) he hpl) fin
  case int => exact PEw (pe_callTy ok hg hm (by decide +kernel) ha (by decide +kernel) (by decide +kernel) he hpl) fin
  case tuple => exact PEw (pe_callTy ok hg hm (by decide +kernel) ha (by decide +kernel) (by decide +kernel) he hpl) fin
  case list => exact PEw (pe_callTy ok hg hm (by decide +kernel) ha (by decide +kernel) (by decide +kernel) he hpl) fin
  case dict => exact PEw (pe_callTy ok hg hm (by decide +kernel) ha (by decide +kernel) (by decide +kernel) he hpl) fin
  case str => exact PEw (pe_callTy ok hg hm (by decide +kernel) ha (by decide +kernel) (by decide +kernel) he hpl) fin
  case bool => exact PEw (pe_callTy ok hg hm (by decide +kernel) ha (by decide +kernel) (by decide +kernel) he hpl) fin

/-! ### a op1 b op2 c -/
def tchain (o1 o2 : CmpOp) (ta tb tc : T3) : T3 := fun σ G Q E => ta σ G (fun x G1 => tb σ G1 (fun y G2 => cmpV o1 x y G2 (fun z G3 => ∃ c, z = .bl c ∧ if c = true then tc σ G3 (fun u G4 => cmpV o2 y u G4 Q) E else Q (.bl false) G3)) E) E
theorem chain_up {o1 o2 : CmpOp} {τ : L2.St} {H : Hp} {R : VK} (h : up C W (tchain o1 o2 ta tb tc) τ H R) : tChain (upOp C (cmpV o1)) (upOp C (cmpV o2)) (up C W ta) (up C W tb) (up C W tc) τ H R := by
  obtain ⟨P, σ, G, Q, E, r, s, h, k, ee⟩ := h
  refine up_go r s h (fun P1 G1 H1 x v l1 r1 v1 q1 => ?_) ee
  refine up_go r1 (s.mono l1) q1 (fun P2 G2 H2 y u l2 r2 v2 q2 => ?_) (ee.le l1)
  refine ⟨P2, G2, x, y, _, r2, v1.mono l2, v2, q2, fun P3 G3 H3 z zv l3 r3 v3 ⟨c, e1, q3⟩ => ?_⟩
  subst e1
  cases v3
  refine ⟨c, rfl, ?_⟩
  cases c with
  | false =>
    rw [if_neg Bool.false_ne_true] at q3 ⊢
    exact k P3 G3 H3 _ _ (l1.trans (l2.trans l3)) r3 (.bl _) q3
  | true =>
    rw [if_pos rfl] at q3 ⊢
    refine up_go r3 (s.mono (l1.trans (l2.trans l3))) q3 (fun P4 G4 H4 u' w' l4 r4 v4 q4 => ?_) (ee.le (l1.trans (l2.trans l3)))
    exact ⟨P4, G4, y, u', Q, r4, v2.mono (l3.trans l4), v4, q4, k.le (l1.trans (l2.trans (l3.trans l4)))⟩
theorem pe_chain3 {a b c : Expr} {o1 o2 : CmpOp} (B : Bd C X W k) (ha : PE X a (up C W ta)) (hb : PE X b (up C W tb)) (hc : PE X c (up C W tc)) (hm : lastMarks [o1, o2] [b, c] = false) : PE X (.Compare a [o1, o2] [b, c] pos) (up C W (tchain o1 o2 ta tb tc)) :=
  PEw (pe_chain (opC_ok B.hu B.hK) (opC_ok B.hu B.hK) ha hb hc hm) fun _ _ _ h => chain_up h
theorem pt_chain3 {a b c : Expr} {o1 o2 : CmpOp} (B : Bd C X W k) (ha : PE X a (up C W ta)) (hb : PE X b (up C W tb)) (hc : PE X c (up C W tc)) (hm : lastMarks [o1, o2] [b, c] = false) : PT X (.Compare a [o1, o2] [b, c] pos) (upT C W (tbl (tchain o1 o2 ta tb tc))) :=
  PTw (pt_chain (opC_ok B.hu B.hK) (opC_ok B.hu B.hK) ha hb hc hm) fun τ H R h => by
    obtain ⟨P, σ, G, Q, E, r, s, h, k, ee⟩ := h
    refine chain_up ⟨P, σ, G, _, E, r, s, h, fun P1 G1 H1 x v l1 r1 v1 ⟨c, e1, q1⟩ => ?_, ee⟩
    subst e1
    cases v1
    exact ⟨c, rfl, k P1 G1 H1 c l1 r1 q1⟩

/-! ### (*a, b) -/
def tstar (ta : T3) (t : TA3) : TA3 := fun σ G Q E => ta σ G (fun x G1 => ∃ xs, seqA G1 x = some xs ∧ t σ G1 (fun ys G2 => Q (xs ++ ys) G2) E) E
theorem pa_star3 (hK : X.K = C.K) (he : PE X e (up C W ta)) (hr : PA X es (upA C W t)) (hs : starEach (.Starred e p :: es) X.env = (true, eval e X.env) :: starEach es X.env) : PA X (.Starred e p :: es) (upA C W (tstar ta t)) :=
  PAw (StX.pa_star he hr hs) fun τ H R h => by
    obtain ⟨P, σ, G, Q, E, r, s, h, k, ee⟩ := h
    refine up_go r s h (fun P1 G1 H1 x v l1 r1 v1 ⟨xs, e1, q1⟩ => ?_) ee
    obtain ⟨a, vs, ev, hq, rv⟩ := seqA_ok hK r1 v1 e1
    refine ⟨a, vs, ev, hq.symm, P1, σ, G1, _, E, r1, s.mono l1, q1, fun P2 G2 H2 ds us l2 r2 v2 q2 => ?_, ee.le l1⟩
    exact k P2 G2 H2 _ _ (l1.trans l2) r2 ((rv.mono l2).app v2) q2

/-! ### isinstance -/
inductive Ty3 where
  | b (n : String)
  | o (c : Nat)
def tyD (G : Gp) : D → Option Ty3
  | .non => some (.b "NoneType") | .bl _ => some (.b "bool") | .int _ => some (.b "int") | .str _ => some (.b "str") | .tup _ => some (.b "tuple") | .tuf _ => some (.b "tuple") | .lst _ => some (.b "list") | .rol _ => some (.b "list") | .dk _ => some (.b "dict") | .dt _ => some (.b "dict")
  | .obj c _ => some (.o c)
  | .ref a => match G a with
    | some (.lst _) => some (.b "list")
    | some (.dk _) => some (.b "dict")
    | some (.dt _) => some (.b "dict")
    | some (.ins c _) => some (.o c)
    | none => none
  | .ty _ => none
/-- what isinstance asks of an own class -/
structure IsO (K : PySem.W.Frag) (a : Addr) : Prop where
  cl : Cls K a
  ha : PySem.W.findIn K (.ref a) "__class__" = some (some (.builtin "object.__class__"))
  hn : PySem.W.specialIn K (.builtin "object.__class__") "__get__" = some (some (.builtin "getset_descriptor.__get__"))
  htk : PySem.W.takesIn K (.builtin "object.__class__") = some true
  hm : PySem.W.mroIn K a (.type "object") = some true
def Ty3.val (C : Cn) : Ty3 → Value
  | .b n => .type n
  | .o c => .ref (C.cls c)
theorem sqL_ty {K : PySem.W.Frag} {H : Hp} {a : Addr} {xs : List V} (h : SqL K H a xs) : TyX K H (.ref a) (.type "list") := by
  rcases h with (h | ⟨o, h⟩) | ⟨o, its, n, h1, h2, _⟩
  · exact .base (.lst h)
  · exact .base (.frz h)
  · exact .kList h1 h2
theorem tyD_ok (hK : X.K = C.K) {P : Hp} {G : Gp} {H : Hp} (r : Rel C P G H) {d : D} {v : V} {t : Ty3} (rv : Rv C P d v) (h : tyD G d = some t) (ho : ∀ c, t = .o c → IsO C.K (C.cls c)) : TyX X.K H v (t.val C) := by
  rw [hK]
  cases rv with
  | non => cases h; exact .base .non
  | bl b => cases h; exact .base (.bl b)
  | int i => cases h; exact .base (.int i)
  | str x => cases h; exact .base (.str x)
  | ty n => cases h
  | tup s q => cases h; exact .base (.tup (r.sub _ _ s))
  | tuf z s q => cases h; exact .fTuple (r.sub _ _ s)
  | lst s q => cases h; exact .base (.lst (r.sub _ _ s))
  | rol s q => cases h; exact sqL_ty (r.sub.sqL s)
  | dk s q => cases h; exact .base (.dK (r.sub _ _ s))
  | dt s q => cases h; exact .base (.dT (r.sub _ _ s))
  | obj s q =>
    cases h
    obtain ⟨z1, z2, z3, z4, z5⟩ := ho _ rfl
    exact .base (.ins (r.sub _ _ s) z1 z2 z3 z4 z5)
  | ref a =>
    simp only [tyD] at h
    split at h
    · rename_i xs e
      cases h
      obtain ⟨_, o, h1, h2⟩ := r.own _ _ e
      cases h2; exact .base (.lst h1)
    · rename_i xs e
      cases h
      obtain ⟨_, o, h1, h2⟩ := r.own _ _ e
      cases h2; exact .base (.dK h1)
    · rename_i xs e
      cases h
      obtain ⟨_, o, h1, h2⟩ := r.own _ _ e
      cases h2; exact .base (.dT h1)
    · rename_i c xs e
      cases h
      obtain ⟨_, o, h1, h2⟩ := r.own _ _ e
      obtain ⟨z1, z2, z3, z4, z5⟩ := ho _ rfl
      cases h2; exact .base (.ins h1 z1 z2 z3 z4 z5)
    · cases h
/-- the answers: told by a table -/
def IsTab (C : Cn) (f : Ty3 → Option Bool) (u : Value) : Prop := (∀ t b, f t = some b → PySem.W.kitOne C.K (t.val C) u = some b) ∧ ∀ c b, f (.o c) = some b → IsO C.K (C.cls c)
def tisi (f : Ty3 → Option Bool) (t : T3) : T3 := fun σ G Q E => t σ G (fun x G1 => ∃ y b, tyD G1 x = some y ∧ f y = some b ∧ Q (.bl b) G1) E
theorem pe_isi3 {f : Ty3 → Option Bool} {u : Value} {v : V} {ce : Expr} (B : Bd C X W k) (hf : IsTab C f u) (hg : Gl X "isinstance") (hm : X.mg "isinstance" = none) (he : PE X e (up C W ta)) (hce : PE X ce (tC v)) (hv : ClsV v u)
    (hs : starEach [e, ce] X.env = (false, eval e X.env) :: starEach [ce] X.env) (hs2 : starEach [ce] X.env = [(false, eval ce X.env)]) (hpl : (backTo pos (starEach [ce] X.env)).any (·.1) = false) :
    PE X (.Call (.Name "isinstance" p) [e, ce] [] pos) (up C W (tisi f ta)) :=
  PEw (pe_callB call_isi hg hm boot_isinstance (pa_cons he (pa_cons hce pa_nil hs2) hs) (by decide +kernel) (by decide +kernel) hs hpl) fun τ H R h => by
    obtain ⟨P, σ, G, Q, E, r, s, h, k, ee⟩ := h
    refine up_go r s h (fun P1 G1 H1 x w l1 r1 v1 ⟨y, b, e1, e2, q1⟩ => ?_) ee
    refine ⟨w, v, y.val C, u, b, rfl, hv, tyD_ok B.hK r1 v1 e1 (fun c ec => hf.2 c b (by rw [← ec]; exact e2)), ?_, k P1 G1 H1 _ _ l1 r1 (.bl b) q1⟩
    rw [B.hK]
    exact hf.1 y b e2

/-! ### own methods -/
theorem Rvf.lookupN {P : Hp} (hi : AttInj C) {j : Nat} : ∀ {ds : List (Nat × D)} {vs : List (Str × V)}, Rvf C P ds vs → ds.lookup j = none → vs.lookup (C.att j) = none
  | _, _, .nil, _ => rfl
  | (i, d') :: ds, (_, v') :: vs, .cons a b, e => by
    by_cases h : j = i
    · subst h
      simp only [List.lookup_cons, beq_self_eq_true] at e
      cases e
    · have h1 : (j == i) = false := by simpa using h
      have h2 : (C.att j == C.att i) = false := by
        have : ¬ C.att j = C.att i := fun z => h (hi _ _ z)
        simpa using this
      simp only [List.lookup_cons, h1] at e
      simp only [List.lookup_cons, h2]
      exact Rvf.lookupN hi b e
def tmeth (c j n : Nat) (f3 : F3) (dd : List D) (ta : T3) (t : TA3) : T3 := fun σ G Q E => ta σ G (fun x G1 => ∃ fs, insD G1 x = some (c, fs) ∧ fs.lookup j = none ∧ t σ G1 (fun xs G2 => (x :: (xs ++ dd)).length = n ∧ f3 (x :: (xs ++ dd)) G2 Q E) E) E
section
variable {c j : Nat} {f : Addr} {fd : FuncData} {ps : List Str} {f3 : F3} {dd : List D} {dvs : List V} {dus : List Value} {m : Str}
theorem pe_meth3 {pl : Sem Bool} (B : Bd C X W k) (hi : AttInj C) (hj : C.att j = m) (he : PE X o (up C W ta)) (cl : Cls C.K (C.cls c)) (hm : Meth C.K (C.cls c) m f) (F : FnG X.prog X.w X.K X.mg X.base k f fd ps (upF C n f3)) (hb : Binds X.K fd ps dus) (hd : Vals dvs dus) (hdd : ∀ P, Rvs C P dd dvs) (ha : PA X (e :: es) (upA C W t))
    (hst : starEach (e :: es) X.env = (false, eval e X.env) :: starEach es X.env) (hpl : (backTo pos (starEach es X.env)).any (·.1) = false)
    (ht : eval (.Call (.Attribute o m apos) (e :: es) [] pos) X.env = (do
      let ov ← eval o X.env
      standAt apos.atName
      let (g, first) ← holding [ov] (getMethod ov m pl)
      callWith pos g first (backTo pos (starEach (e :: es) X.env)) (backToKw pos (keywordEach [] X.env)))) :
    PE X (.Call (.Attribute o m apos) (e :: es) [] pos) (up C W (tmeth c j n f3 dd ta t)) := by
  subst hj
  refine ⟨fun pins s σ H R I h => ?_⟩
  obtain ⟨P, σ3, G, Q, E, r, s3, h, kk, ee⟩ := h
  refine PySem.W.methodCall_KW (pl := pl) (thn (he.run pins s σ H (fun v H1 => ∃ P1 G1 x fs, Le P P1 ∧ Rel C P1 G1 H1 ∧ Rv C P1 x v ∧ insD G1 x = some (c, fs) ∧ fs.lookup j = none ∧ t σ3 G1 (fun xs G2 => (x :: (xs ++ dd)).length = n ∧ f3 (x :: (xs ++ dd)) G2 Q E) E) I
    ⟨P, σ3, G, _, E, r, s3, h, fun P1 G1 H1 x v l1 r1 v1 ⟨fs, e1, e2, q1⟩ => ⟨P1, G1, x, fs, l1, r1, v1, e1, e2, q1⟩, ee⟩) fun u s1 ⟨v, H1, I1, rr, P1, G1, x, fs, l1, r1, v1, e1, e2, q1⟩ => ?_) ht
  obtain ⟨a, dx, vs, rfl, h1, h2⟩ := insD_ok r1 v1 e1
  obtain rfl : u = Value.ref a := rr
  refine getmeth_ok I1 h1 (by rw [B.hK]; exact cl) (by rw [B.hK]; exact hm) (h2.lookupN hi e2) ?_
  refine PySem.W.callWith_K (first := [.ref a]) (h₀ := X.base) I.ok.mod.kin (by rw [B.hK]; exact hm.kp) (thn (ha.run pos pins s1 σ H1 (fun vs H2 => ∃ P2 G2 ds, Le P1 P2 ∧ Rel C P2 G2 H2 ∧ Rvs C P2 ds vs ∧ (x :: (ds ++ dd)).length = n ∧ f3 (x :: (ds ++ dd)) G2 Q E) I1
    ⟨P1, σ3, G1, _, E, r1, s3.mono l1, q1, fun P2 G2 H2 ds vs l2 r2 v2 q2 => ⟨P2, G2, ds, l2, r2, v2, q2.1, q2.2⟩, ee.le l1⟩) fun us s2 ⟨vs, H2, I2, r3, P2, G2, ds, l2, r2, v2, q2, q3⟩ => ⟨I2.kIn, ?_⟩) hst hpl
  exact run_fnG (us := .ref a :: us) (vs := .ref a :: vs) F B hb hd I2 (.cons rfl r3) ⟨P2, G2, x :: (ds ++ dd), Q, E, r2.b0, .cons (v1.mono l2) (v2.appC hdd), q2, q3, (kk.le (l1.trans l2)).b0 r2, (ee.le (l1.trans l2)).b0 r2⟩
theorem pe_meth03 {pl : Sem Bool} (B : Bd C X W k) (hi : AttInj C) (hj : C.att j = m) (he : PE X o (up C W ta)) (cl : Cls C.K (C.cls c)) (hm : Meth C.K (C.cls c) m f) (F : FnG X.prog X.w X.K X.mg X.base k f fd ps (upF C n f3)) (hb : Binds X.K fd ps dus) (hd : Vals dvs dus) (hdd : ∀ P, Rvs C P dd dvs)
    (ht : eval (.Call (.Attribute o m apos) [] [] pos) X.env = (do
      let ov ← eval o X.env
      standAt apos.atName
      let (g, first) ← holding [ov] (getMethod ov m pl)
      callWith pos g first (backTo pos (starEach [] X.env)) (backToKw pos (keywordEach [] X.env)))) :
    PE X (.Call (.Attribute o m apos) [] [] pos) (up C W (tmeth c j n f3 dd ta tanil)) := by
  subst hj
  refine ⟨fun pins s σ H R I h => ?_⟩
  obtain ⟨P, σ3, G, Q, E, r, s3, h, kk, ee⟩ := h
  refine PySem.W.methodCall_KW (pl := pl) (thn (he.run pins s σ H (fun v H1 => ∃ P1 G1 x fs, Le P P1 ∧ Rel C P1 G1 H1 ∧ Rv C P1 x v ∧ insD G1 x = some (c, fs) ∧ fs.lookup j = none ∧ tanil σ3 G1 (fun xs G2 => (x :: (xs ++ dd)).length = n ∧ f3 (x :: (xs ++ dd)) G2 Q E) E) I
    ⟨P, σ3, G, _, E, r, s3, h, fun P1 G1 H1 x v l1 r1 v1 ⟨fs, e1, e2, q1⟩ => ⟨P1, G1, x, fs, l1, r1, v1, e1, e2, q1⟩, ee⟩) fun u s1 ⟨v, H1, I1, rr, P1, G1, x, fs, l1, r1, v1, e1, e2, q1⟩ => ?_) ht
  obtain ⟨a, dx, vs, rfl, h1, h2⟩ := insD_ok r1 v1 e1
  obtain rfl : u = Value.ref a := rr
  refine getmeth_ok I1 h1 (by rw [B.hK]; exact cl) (by rw [B.hK]; exact hm) (h2.lookupN hi e2) ?_
  exact PySem.W.callWith_K0 (first := [.ref a]) I1.kIn (by rw [B.hK]; exact hm.kp) (run_fnG (us := [.ref a]) (vs := [.ref a]) F B hb hd I1 (.cons rfl .nil) ⟨P1, G1, x :: ([] ++ dd), Q, E, r1.b0, .cons v1 (hdd P1), q1.1, q1.2, (kk.le l1).b0 r1, (ee.le l1).b0 r1⟩)

/-! ### classes made -/
/-- w: the instance is a cell; else it stands from now on -/
def keepI (w : Bool) (c : Nat) (p : Addr) (Q : K3) : K3 := fun v G => v = .non ∧ if w = true then Q (.ref p) G else ∃ fs, G p = some (.ins c fs) ∧ Q (.obj c fs) (gdel G p)
def tmake (w : Bool) (c n : Nat) (f3 : F3) (dd : List D) (t : TA3) : T3 := fun σ G Q E => t σ G (fun xs G1 => ∀ p, G1 p = none → (D.ref p :: (xs ++ dd)).length = n ∧ f3 (.ref p :: (xs ++ dd)) (gset G1 p (.ins c [])) (keepI w c p Q) (fun x G2 => E x (gdel G2 p))) E
theorem run_make3 {w : Bool} {pins : List (Addr × Obj)} {σ : L2.St} {H : Hp} {s : Shared} {R : VK} {us : List Value} {vs : List V} {ds : List D} {P : Hp} {G : Gp} {Q : K3} {E : E3} (M : Mk X.K (C.cls c) f) (B : Bd C X W (k + 1)) (F : FnG X.prog X.w X.K X.mg X.base k f fd ps (upF C n f3)) (hb : Binds X.K fd ps dus) (hd : Vals dvs dus) (hdd : ∀ P, Rvs C P dd dvs)
    (I : Inv X pins σ H s) (rv : Vals vs us) (r : Rel C P G H) (rd : Rvs C P ds vs) (h : ∀ p, G p = none → (D.ref p :: (ds ++ dd)).length = n ∧ f3 (.ref p :: (ds ++ dd)) (gset G p (.ins c [])) (keepI w c p Q) (fun x G2 => E x (gdel G2 p)))
    (kk : kUp C P Q R) (ee : eUp C P E (WE W σ)) : wpAny (model X.prog X.w) X.A (call (.ref (C.cls c)) us) (EP X pins σ R) X.xe s := by
  have n1 : H (s.heap.objs.size + 1) = none := I.hok.fresh (Nat.le_succ _)
  have n0 : H s.heap.objs.size = none := I.hok.fresh (Nat.le_refl _)
  have ne : s.heap.objs.size + 1 ≠ s.heap.objs.size := Nat.succ_ne_self _
  obtain ⟨hl, hq⟩ := h (s.heap.objs.size + 1) (r.gfree n1)
  have I2 := Inv.made (C := C.cls c) I
  have r2 : Vals (V.ref (s.heap.objs.size + 1) :: (vs ++ dvs)) (Value.ref (s.heap.objs.size + 1) :: us ++ dus) := .cons rfl (rv.append hd)
  have rl : Rel C P (gset G (s.heap.objs.size + 1) (.ins c [])) (upd (upd H s.heap.objs.size (.own (s.heap.objs.size + 1))) (s.heap.objs.size + 1) (.ins (C.cls c) s.heap.objs.size [])) :=
    (r.other (o := .own (s.heap.objs.size + 1)) n0).newG (by rw [upd_ne ne]; exact n1) (.ins .nil)
  have hlen : (Value.ref (s.heap.objs.size + 1) :: us ++ dus).length = ps.length := by
    rw [← r2.length]
    exact F.len (V.ref (s.heap.objs.size + 1) :: (vs ++ dvs)) _ (fun _ _ => True) (fun _ _ _ => True) ⟨P, _, D.ref (s.heap.objs.size + 1) :: (ds ++ dd), _, _, rl.b0, .cons (.ref _) (rd.appC hdd), hl, hq, fun _ _ _ _ _ _ _ _ _ => trivial, fun _ _ _ _ _ _ _ _ _ _ => trivial⟩
  refine wpAny_call (make_map (f := f) I.kIn M.makes M.init (beq_iff_eq.mp M.fn) (codeAny_mono (F.go _ X.stack _ _ ⟨Value.ref (s.heap.objs.size + 1) :: us, []⟩ (Value.ref (s.heap.objs.size + 1) :: us ++ dus) _ (fun v H2 => v = .non ∧ R (.ref (s.heap.objs.size + 1)) H2) (WE W σ) (B.hr.make _ us []) ?_
    (I2.env0.make _ us []) (hb _ (Value.ref (s.heap.objs.size + 1) :: us) I2.kIn hlen) r2 ⟨P, _, D.ref (s.heap.objs.size + 1) :: (ds ++ dd), _, _, rl.b0, .cons (.ref _) (rd.appC hdd), hl, hq, ?_, ?_⟩) fun res s' hq' => ?_))
  · have := B.hg
    first | exact this | (simpa [Around.under, Code.guards, Code.isGuard, pushGuards, guardIds] using this)
  · intro P' G' H' d v l' r0 v' ⟨e1, q⟩
    have r' := r.on (P1 := P) l' r0
    subst e1
    cases v'
    refine ⟨rfl, ?_⟩
    split at q
    · exact kk P' G' H' _ _ l' r' (.ref _) q
    · obtain ⟨fs, e2, q⟩ := q
      obtain ⟨_, o, g1, g2⟩ := r'.own _ _ e2
      cases g2 with
      | ins q2 =>
        obtain ⟨l2, r2'⟩ := r'.freeze e2 g1
        exact kk _ _ _ _ _ (l'.trans l2) r2' (.obj upd_same (q2.mono l2)) q
  · intro P' G' H' x cv d l' r0 xr q
    have r' := r.on (P1 := P) l' r0
    exact ee P' _ H' x cv d l' (r'.drop fun b g hb' => by
      unfold gdel at hb'
      split at hb'
      · cases hb'
      · exact hb') xr q
  · cases res with
    | error ev => exact passAt B.tk σ pins _ _ ev s' I2 hq'
    | ok fl =>
      cases fl with
      | ret u =>
        obtain ⟨v, H', I3, rv', ev, q3⟩ := I2.after hq'
        subst ev
        exact ⟨rv', ⟨V.ref (s.heap.objs.size + 1), H', I3, rfl, q3⟩⟩
      | next => exact (show False from hq').elim
      | brk => exact (show False from hq').elim
      | cont => exact (show False from hq').elim
theorem pe_make3 {w : Bool} {x : Str} (M : Mk X.K (C.cls c) f) (B : Bd C X W (k + 1)) (F : FnG X.prog X.w X.K X.mg X.base k f fd ps (upF C n f3)) (hg : Gl X x) (hm : X.mg x = some (.ref (C.cls c))) (hb : Binds X.K fd ps dus) (hd : Vals dvs dus) (hdd : ∀ P, Rvs C P dd dvs) (ha : PA X (e :: es) (upA C W t))
    (hdb : (x == ("__debug__" : Str)) = false) (he : starEach (e :: es) X.env = (false, eval e X.env) :: starEach es X.env) (hpl : (backTo pos (starEach es X.env)).any (·.1) = false) :
    PE X (.Call (.Name x p) (e :: es) [] pos) (up C W (tmake w c n f3 dd t)) := by
  refine ⟨fun pins s σ H R I h => ?_⟩
  obtain ⟨P, σ3, G, Q, E, r, s3, h, kk, ee⟩ := h
  refine wpAny_Call_Name_kw (ld_glob I hg hm ?_ hdb)
  refine PySem.W.callWith_K (h₀ := X.base) I.ok.mod.kin M.kp (thn (ha.run pos pins s σ H (fun vs H1 => ∃ P1 G1 ds, Le P P1 ∧ Rel C P1 G1 H1 ∧ Rvs C P1 ds vs ∧ ∀ p, G1 p = none → (D.ref p :: (ds ++ dd)).length = n ∧ f3 (.ref p :: (ds ++ dd)) (gset G1 p (.ins c [])) (keepI w c p Q) (fun x G2 => E x (gdel G2 p))) I
    ⟨P, σ3, G, _, E, r, s3, h, fun P1 G1 H1 ds vs l1 r1 v1 q1 => ⟨P1, G1, ds, l1, r1, v1, q1⟩, ee⟩) fun us s1 ⟨vs, H1, I1, rr, P1, G1, ds, l1, r1, v1, q⟩ => ⟨I1.kIn, ?_⟩) he hpl
  exact run_make3 M B F hb hd hdd I1 rr r1 v1 q (kk.le l1) (ee.le l1)
end
end
end V3
set_option Elab.async false
set_option linter.all false
set_option maxRecDepth 100000
set_option maxHeartbeats 4000000
/-! V12: methods of lists and tuples; own exceptions: raised, caught. -/
namespace V3
open PySem PySem.Spec L2 PyProof.Rows
section
variable {C : Cn} {X : Cx} {W : WX} {k n : Nat} {e o : Expr} {es : List Expr} {ta to : T3} {t : TA3} {p pos apos : Pos}
/-! ### methods of builtins -/
inductive Mt where
  | append | tindex | lindex | pop
def Mt.ty : Mt → String
  | .append => "list" | .tindex => "tuple" | .lindex => "list" | .pop => "list"
def isTy (G : Gp) (T : String) (x : D) : Prop := match x with
  | .tup _ => False
  | x => T = "list" ∧ ∃ xs, seqL G x = some xs
def mtV : Mt → D → List D → Gp → K3 → Prop
  | .append, .ref a, [d], G, Q => ∃ xs, G a = some (.lst xs) ∧ xs.length < sizeLine ∧ Q .non (gset G a (.lst (xs ++ [d])))
  | .lindex, x, [d], G, Q => ∃ xs j z, seqL G x = some xs ∧ flatD d = true ∧ xs.all flatD = true ∧ xs[j]? = some z ∧ eqF z d = true ∧ (∀ m z', m < j → xs[m]? = some z' → eqF z' d = false) ∧ Q (.int (j : Nat)) G
  | .pop, .ref a, [], G, Q => ∃ xs y, G a = some (.lst xs) ∧ xs[xs.length - 1]? = some y ∧ Q y (gset G a (.lst xs.dropLast))
  | _, _, _, _, _ => False
theorem Rvs.dropLast {P : Hp} : ∀ {ds : List D} {vs : List V}, Rvs C P ds vs → Rvs C P ds.dropLast vs.dropLast
  | _, _, .nil => .nil
  | _, _, .cons _ .nil => .nil
  | _, _, .cons a (.cons b r) => .cons a (Rvs.dropLast (.cons b r))
theorem mt_app3 : MtR X "list.append" (upMt C (mtV .append)) := by
  intro pins s σ H x vs v us R I rx rv h
  obtain ⟨P, G, y, ds, Q, r, ry, rd, h, k⟩ := h
  cases ry with
  | ref a =>
    cases rd with
    | nil => exact (show False from h).elim
    | cons d1 d2 =>
      cases d2 with
      | cons _ _ => exact (show False from h).elim
      | nil =>
        obtain ⟨xs, e1, hl, q⟩ := h
        obtain ⟨_, o, h1, h2⟩ := r.own _ _ e1
        cases h2 with
        | lst q2 => exact mt_append pins s σ H _ _ v us R I rx rv ⟨a, _, _, rfl, rfl, h1, by rw [← q2.length]; exact hl, k P _ _ _ _ (Le.refl _) (r.write e1 (.lst (q2.app (.cons d1 .nil)))) .non q⟩
  | _ => exact (show False from (by cases rd <;> first | exact h | (rename_i d1 d2; cases d2 <;> exact h))).elim
theorem mt_lix3 (hK : X.K = C.K) : MtR X "list.index" (upMt C (mtV .lindex)) := by
  intro pins s σ H x vs v us R I rx rv h
  obtain ⟨P, G, y, ds, Q, r, ry, rd, h, k⟩ := h
  cases rd with
  | nil => cases ry <;> exact (show False from h).elim
  | cons d1 d2 =>
    cases d2 with
    | cons _ _ => cases ry <;> exact (show False from h).elim
    | nil =>
      rename_i d0 v0
      have h' : ∃ xs j z, seqL G y = some xs ∧ flatD d0 = true ∧ xs.all flatD = true ∧ xs[j]? = some z ∧ eqF z d0 = true ∧ (∀ m z', m < j → xs[m]? = some z' → eqF z' d0 = false) ∧ Q (.int (j : Nat)) G := by
        cases ry <;> exact h
      obtain ⟨xs, j, z, e1, f1, f2, e2, e3, e4, q⟩ := h'
      obtain ⟨a, ws, rfl, h1, h2⟩ := seqL_ok r ry e1
      obtain ⟨w, g1, g2⟩ := h2.get e2
      have fz : flatD z = true := List.all_eq_true.mp f2 z (List.mem_of_getElem? e2)
      refine mt_index pins s σ H _ _ v us R I rx rv ⟨a, ws, _, j, w, rfl, rfl, by rw [hK]; exact h1, flat_ok d1 f1, flats_ok h2 f2, g1, by rw [eqF_ok g2 d1 fz f1]; exact e3, fun m z' hm hz => ?_, k P G H _ _ (Le.refl _) r (.int _) q⟩
      have hlt : m < xs.length := by
        rw [h2.length]
        exact (List.getElem?_eq_some_iff.mp hz).1
      obtain ⟨w', g3, g4⟩ := h2.get (List.getElem?_eq_getElem hlt)
      rw [hz] at g3
      cases g3
      have fz' : flatD (xs[m]) = true := List.all_eq_true.mp f2 _ (List.getElem_mem hlt)
      rw [eqF_ok g4 d1 fz' f1]
      exact e4 m _ hm (List.getElem?_eq_getElem hlt)
theorem mt_pop3 : MtR X "list.pop" (upMt C (mtV .pop)) := by
  intro pins s σ H x vs v us R I rx rv h
  obtain ⟨P, G, y, ds, Q, r, ry, rd, h, k⟩ := h
  cases ry with
  | ref a =>
    cases rd with
    | cons _ _ => exact (show False from h).elim
    | nil =>
      obtain ⟨xs, y, e1, e2, q⟩ := h
      obtain ⟨_, o, h1, h2⟩ := r.own _ _ e1
      cases h2 with
      | lst q2 =>
        obtain ⟨w, g1, g2⟩ := q2.get e2
        refine mt_pop pins s σ H _ _ v us R I rx rv ⟨a, _, w, rfl, rfl, h1, by rw [← q2.length]; exact g1, k P _ _ _ _ (Le.refl _) (r.write e1 (.lst q2.dropLast)) g2 q⟩
  | _ => exact (show False from (by cases rd <;> exact h)).elim
theorem isTy_ok (hK : X.K = C.K) {P : Hp} {G : Gp} {H : Hp} (r : Rel C P G H) {x : D} {v : V} (rv : Rv C P x v) (h : ∃ xs, seqL G x = some xs) : tyV X.K "list" v H := by
  obtain ⟨xs, h⟩ := h
  obtain ⟨a, vs, rfl, h1, _⟩ := seqL_ok r rv h
  exact .inl ⟨rfl, vs, by rw [hK]; exact h1⟩
/-- x.append(y), x.index(y), x a list -/
def tbm (m : Mt) (to : T3) (t : TA3) : T3 := fun σ G Q E => to σ G (fun x G1 => (∃ xs, seqL G1 x = some xs) ∧ t σ G1 (fun ds G2 => mtV m x ds G2 Q) E) E
theorem tbm_up (hK : X.K = C.K) {m : Mt} {τ : L2.St} {H : Hp} {R : VK} (h : up C W (tbm m to t) τ H R) : tBM X.K "list" (upMt C (mtV m)) (up C W to) (upA C W t) τ H R := by
  obtain ⟨P, σ, G, Q, E, r, s, h, k, ee⟩ := h
  refine up_go r s h (fun P1 G1 H1 x v l1 r1 v1 ⟨z, q1⟩ => ?_) ee
  refine ⟨isTy_ok hK r1 v1 z, P1, σ, G1, _, E, r1, s.mono l1, q1, fun P2 G2 H2 ds vs l2 r2 v2 q2 => ?_, ee.le l1⟩
  exact ⟨P2, G2, x, ds, Q, r2, v1.mono l2, v2, q2, k.le (l1.trans l2)⟩
theorem pe_app3 (hK : X.K = C.K) (ho : PE X o (up C W to)) (ha : PA X (e :: es) (upA C W t)) (hb : attributeBase o "append" X.env (eval o X.env) = eval o X.env)
    (hfew : ((backTo pos (starEach (e :: es) X.env)).all (fun x => !x.1) && (backToKw pos (keywordEach [] X.env)).all (fun x => x.1.isSome) && decide ((e :: es).length + ([] : List Keyword).length + (if ([] : List Keyword).isEmpty then 0 else 1) < 30)) = true)
    (hl : (apos.endLine == pos.line) = true) (hs : starEach (e :: es) X.env = (false, eval e X.env) :: starEach es X.env) (hp : (backTo pos (starEach es X.env)).any (·.1) = false) :
    PE X (.Call (.Attribute o "append" apos) (e :: es) [] pos) (up C W (tbm .append to t)) :=
  PEw (pe_bm PySem.F.plainAttrs_list PySem.F.slot_list_append PySem.F.type_list_append mt_app3 ho ha hb hfew hl hs hp) fun _ _ _ h => tbm_up hK h
theorem pe_lix3 (hK : X.K = C.K) (ho : PE X o (up C W to)) (ha : PA X (e :: es) (upA C W t)) (hb : attributeBase o "index" X.env (eval o X.env) = eval o X.env)
    (hfew : ((backTo pos (starEach (e :: es) X.env)).all (fun x => !x.1) && (backToKw pos (keywordEach [] X.env)).all (fun x => x.1.isSome) && decide ((e :: es).length + ([] : List Keyword).length + (if ([] : List Keyword).isEmpty then 0 else 1) < 30)) = true)
    (hl : (apos.endLine == pos.line) = true) (hs : starEach (e :: es) X.env = (false, eval e X.env) :: starEach es X.env) (hp : (backTo pos (starEach es X.env)).any (·.1) = false) :
    PE X (.Call (.Attribute o "index" apos) (e :: es) [] pos) (up C W (tbm .lindex to t)) :=
  PEw (pe_bm PySem.F.plainAttrs_list PySem.F.slot_list_index PySem.F.type_list_index (mt_lix3 hK) ho ha hb hfew hl hs hp) fun _ _ _ h => tbm_up hK h

/-! ### own exceptions -/
/-- __init__(self, g): self.f = g -/
def spI (K : PySem.W.Frag) (f : Str) : Sp := fun vs H Q _ => ∃ (a c : Addr) (y : V), vs = [.ref a, y] ∧ OexC K c ∧ PySem.W.findIn K (.ref c) f = some none ∧ H a = some (exo a c none) ∧ ∀ dx, H dx = none → dx ≠ a → Q .non (upd (upd H dx (exd dx [(f, y)])) a (exo a c (some dx)))
theorem init3 {P : Program} {w : World} {K : PySem.W.Frag} {mg : Str → Option Value} {base : Heap} {qual f g : Str} {st : Stmt} {fI : Addr} {fd : FuncData} {p1 p2 p3 p4 : Pos} (F : FunD K "__init__" qual (defArgs st) (defBody st) (defScope st) [] [] fI fd) (S : FnScope ["self", g] ["self", g] (defScope st))
    (hb : defBody st = [.Assign [.Attribute (.Name "self" p1) f p2] (.Name g p3) p4]) (hl1 : (defScope st).names.lookup ("self" : Str) = some .local) (hl2 : (defScope st).names.lookup g = some .local) (hg1 : (g == ("__debug__" : Str)) = false) (hg2 : (g == ("__classdict__" : Str)) = false)
    (hs : ∀ (cdv : Value) (A : Around) (outer : List Env) (s : Shared) (H : Hp) (E : XK), swapsWith (.Name g p3) (some (.Attribute (.Name "self" p1) f p2)) p4.line (cxOf CX0 P w K mg base ["self", g] qual (defScope st) fI cdv A outer s H E).env = pure false) :
    FnOk P w K mg base CX0 1 fI fd ["self", g] (spI K f) := by
  refine F.ok S (fun vs H Q E h => ?_) (fun cdv A outer s H vs Q E hr h => ?_)
  · obtain ⟨a, c, y, rfl, _⟩ := h
    rfl
  · obtain ⟨a, c, y, rfl, T, nf, ha, q⟩ := h
    rw [hb]
    refine ⟨_, PSs.nox (pss_one (ps_ost (pe_var (i := 0) rfl (.inl hl1) (by decide) (by decide)) (pe_var (i := 1) rfl (.inl hl2) hg1 hg2) (hs cdv A outer s H E))), ?_⟩
    exact ⟨y, rfl, .ref a, rfl, a, c, rfl, T, nf, .inl ⟨ha, q⟩⟩
/-- what is known of an own exception class that keeps one thing -/
structure XCls (X : Cx) (C : Cn) (c j : Nat) (x : Str) : Prop where
  oex : OexC C.K (C.cls c)
  mg : X.mg x = some (.ref (C.cls c))
  nf : PySem.W.findIn C.K (.ref (C.cls c)) (C.att j) = some none
  init : ∃ (fI : Addr) (fd : FuncData) (g : Str), PySem.W.findIn C.K (.ref (C.cls c)) "__init__" = some (some (.ref fI)) ∧ PySem.W.typeIn C.K (.ref fI) = some (.type "function") ∧ FnOk X.prog X.w X.K X.mg X.base CX0 1 fI fd ["self", g] (spI C.K (C.att j)) ∧ Binds X.K fd ["self", g] []
def sraise (c j : Nat) (t : TA3) : TS3 := fun N E σ G => t σ G (fun ds G1 => ∃ d, ds = [d] ∧ E ⟨c, [(j, d)]⟩ σ G1) (fun x G1 => E x σ G1)
theorem ps_raise3 {c j : Nat} {x : Str} {pos2 : Pos} (B : Bd C X W k) (hk : 2 ≤ k) (T : XCls X C c j x) (hg : Gl X x) (ha : PA X (e :: es) (upA C W t)) (hdb : (x == ("__debug__" : Str)) = false) (he : starEach (e :: es) X.env = (false, eval e X.env) :: starEach es X.env) (hpl : (backTo pos (starEach es X.env)).any (·.1) = false) :
    PS X (.Raise (some (.Call (.Name x p) (e :: es) [] pos)) none pos2) (upS C W (sraise c j t)) := by
  obtain ⟨fI, fd, g, i1, i2, FI, bI⟩ := T.init
  have hKs := B.hK
  refine PSw (ps_raise B.hc B.tk (pmk_oex (CX := CX0) (sp := spI C.K (C.att j)) (ds := []) (dvs := []) (by rw [hKs]; exact T.oex) (by rw [hKs]; exact i1) (by rw [hKs]; exact i2) FI (B.hr.mono hk) bI .nil pass0 hg T.mg ha hdb he hpl)) fun D0 τ H h => ?_
  · obtain ⟨P, σ, G, N, E, r, s, h, h1, h2, h3, h4, h5⟩ := h
    refine ⟨P, σ, G, _, _, r, s, h, fun P1 G1 H1 ds vs l1 r1 v1 ⟨d, e1, q1⟩ => ?_, h5.ex s⟩
    subst e1
    cases v1 with
    | cons a1 b1 =>
      cases b1
      rename_i v0
      refine ⟨by simp, fun a hn => ?_⟩
      refine ⟨a, C.cls c, v0, rfl, T.oex, T.nf, upd_same, fun dx hd hne => ⟨rfl, dx, _, upd_same, by rw [upd_ne hne, upd_same], by rw [upd_ne hne] at hd; exact hd, ?_⟩⟩
      have hd' : H1 dx = none := by rw [upd_ne hne] at hd; exact hd
      have eH : upd (del (upd (upd (upd H1 a (exo a (C.cls c) none)) dx (exd dx [(C.att j, v0)])) a (exo a (C.cls c) (some dx))) a) dx (.xd [(C.att j, v0)]) = upd H1 dx (.xd [(C.att j, v0)]) := by
        funext b
        by_cases hb : b = dx
        · subst hb; rw [upd_same, upd_same]
        · rw [upd_ne hb, upd_ne hb]
          by_cases hba : b = a
          · subst hba; rw [del_same, hn]
          · rw [del_ne hba, upd_ne hba, upd_ne hb, upd_ne hba]
      rw [eH]
      obtain ⟨l2, r2⟩ := r1.newP (o := .xd [(C.att j, v0)]) hd'
      exact h5 _ G1 _ σ τ ⟨c, [(j, d)]⟩ _ _ (l1.trans l2) r2 (s.mono (l1.trans l2)) ⟨rfl, .inr ⟨dx, _, rfl, upd_same, .cons (a1.mono l2) .nil⟩⟩ q1
/-- try: body, except x as n: return n.f -/
def styR (i c j : Nat) (test : Nat → Option Bool) (tb : TS3) : TS3 := fun N E σ G => tb N (fun x σ' G' => ∃ b, test x.c = some b ∧ (b = true → x.c = c ∧ i < σ'.length ∧ ∃ d, x.fs.lookup j = some d ∧ N.rt d G') ∧ (b = false → E x σ' G')) σ G
theorem ps_tryR3 {i c j : Nat} {test : Nat → Option Bool} {x nm f : Str} {body : List Stmt} {tb : TS3} {cv : Value} {np p1 p2 p3 pos' : Pos} (B : Bd C X W k) (hi : AttInj C) (hj : C.att j = f) (hs : X.stack = X.env :: X.outer) (hf : X.env.frame = some X.env.locals) (hN : X.N[i]? = some nm) (hln : X.env.kindOf nm = some .local) (hlk : X.env.scope.names.lookup nm = some .local) (hc : Names X x cv)
    (ht : ∀ c b, test c = some b → PySem.W.exmOne C.K (.ref (C.cls c)) cv = some b) (T : XfC C.K (C.cls c)) (hno : PySem.W.findIn C.K (.ref (C.cls c)) f = some none) (hd1 : (nm == ("__debug__" : Str)) = false) (hd2 : (nm == ("__classdict__" : Str)) = false)
    (hb : ∀ (W' : WX) (pn : List (Addr × Obj)) (xe : Value → Shared → Prop), Bd C (X.tr pn xe) W' k → PSs (X.tr pn xe) body (upS C W' tb)) (hab : ∀ a oe pn, attributeBase (.Name nm p1) f (X.suite a ((a, oe) :: pn)).env (eval (.Name nm p1) (X.suite a ((a, oe) :: pn)).env) = eval (.Name nm p1) (X.suite a ((a, oe) :: pn)).env) :
    PS X (.Try body [.ExceptHandler (some (.Name x np)) (some nm) [.Return (some (.Attribute (.Name nm p1) f p2)) p3] pos'] [] [] pos) (upS C W (styR i c j test tb)) := by
  have hKs := B.hK
  subst hj
  refine PSw (ps_try_as hs hf B.hN hN hln hc B.tk (tb := fun W' => upS C W' tb) (ts := fun a cls d => tRet (tXf a cls d (C.cls c) (C.att j) (tVar i))) (fun W' pn xe tk hp => hb W' pn xe (B.tr pn xe tk hp)) (fun a oe cls d pn hz hv => ?_)) fun D0 τ H h => ?_
  · refine pss_one (ps_ret (pe_xf (by rw [hKs]; exact T) (by rw [hKs]; exact hno) hz hv (pe_var (i := i) hN (.inl hlk) hd1 hd2) (hab a oe pn)))
  · obtain ⟨P, σ, G, N, E, r, s, h, h1, h2, h3, h4, h5⟩ := h
    refine ⟨P, σ, G, N, _, r, s, h, h1, h2, h3, h4, fun P' G' H' σ' τ' x cls d l' r' s' xr q => ?_⟩
    obtain ⟨b, e1, q1, q2⟩ := q
    obtain ⟨ec, xr⟩ := xr
    subst ec
    refine ⟨b, by rw [hKs]; exact ht _ _ e1, fun eb a hn => ?_, fun eb => h5 P' G' H' σ' τ' x _ d l' r' s' ⟨rfl, xr⟩ (q2 eb)⟩
    obtain ⟨ecx, hlt, dd, e2, q⟩ := q1 eb
    rcases xr with ⟨z, _⟩ | ⟨a', vs, ed, hp, rf⟩
    · rw [z] at e2; cases e2
    · obtain ⟨v, e3, rv⟩ := rf.lookup hi e2
      refine ⟨.ref a, by rw [List.getElem?_set_self (by rw [← s'.length]; exact hlt)], rfl, by rw [ecx], a', vs, v, ed, r'.sub _ _ hp, e3, ?_⟩
      exact h2 P' G' H' dd v l' r' rv q
end
end V3
set_option Elab.async false
set_option linter.all false
set_option maxRecDepth 100000
set_option maxHeartbeats 4000000
/-! V13: tuple.index of a known tuple. -/
namespace V3
open PySem PySem.Spec L2 PyProof.Rows
section
variable {C : Cn} {X : Cx} {W : WX} {k n : Nat} {e o : Expr} {es : List Expr} {to : T3} {t : TA3} {pos apos : Pos}
theorem frz_is {pins : List (Addr × Obj)} {σ : L2.St} {H : Hp} {s : Shared} {a : Addr} {ob : Obj} {xs : List V} (I : Inv X pins σ H s) (h : H a = some (.frz ob (.tup xs))) (hd : ob.dict = none) : s.TypeIs (.ref a) "tuple" ∧ ∀ b, Value.ref a = .ref b → ∃ oc, s.heap.get? b = some oc ∧ oc.dict = none := by
  obtain ⟨h1, _, its, rv, oo, h2, h3, _⟩ := (show ObjOk X.prog X.w H s.heap a (.frz ob (.tup xs)) from I.hok a _ h)
  refine ⟨⟨oo, h2, h3⟩, fun b eb => ?_⟩
  cases eb
  exact ⟨ob, h1, hd⟩
def tbmF (r : V → List V → Hp → VK → Prop) (to : TE) (t : TA) : TE := fun σ H Q => to σ H fun x H1 => (∃ a ob xs, x = .ref a ∧ H1 a = some (.frz ob (.tup xs)) ∧ ob.dict = none) ∧ t σ H1 fun vs H2 => r x vs H2 Q
theorem pe_tixL {tO : TE} {tt : TA} {r : V → List V → Hp → VK → Prop} (hm : MtR X "tuple.index" r) (ho : PE X o tO) (ha : PA X (e :: es) tt) (hbase : attributeBase o "index" X.env (eval o X.env) = eval o X.env)
    (hfew : ((backTo pos (starEach (e :: es) X.env)).all (fun x => !x.1) && (backToKw pos (keywordEach [] X.env)).all (fun x => x.1.isSome) && decide ((e :: es).length + ([] : List Keyword).length + (if ([] : List Keyword).isEmpty then 0 else 1) < 30)) = true)
    (hline : (apos.endLine == pos.line) = true) (hs : starEach (e :: es) X.env = (false, eval e X.env) :: starEach es X.env) (hpl : (backTo pos (starEach es X.env)).any (·.1) = false) :
    PE X (.Call (.Attribute o "index" apos) (e :: es) [] pos) (tbmF r tO tt) := by
  refine ⟨fun pins s σ H Q I h => ?_⟩
  refine wpAny_Call_method_late hbase hfew hline rfl (thn (ho.run pins s σ H _ I h) fun v s1 ⟨x, H1, I1, r1, ⟨a, ob, xs, ex, hf, hd⟩, q1⟩ => ?_)
  subst ex
  obtain rfl : v = Value.ref a := r1
  obtain ⟨h1, h2⟩ := frz_is I1 hf hd
  refine ⟨"tuple", "tuple.index", PySem.F.plainAttrs_tuple, PySem.F.slot_tuple_index, PySem.F.type_tuple_index, h1, h2, ?_⟩
  have hA := ha.run pos pins s1 σ H1 _ I1 q1
  rw [hs] at hA ⊢
  refine Calls.callWith_builtin (by show (false || (backTo pos (starEach es X.env)).any (·.1)) = false; rw [hpl]; rfl) (Calls.evalArgs_plain ?_)
  exact thn hA fun us s2 ⟨vs, H2, I2, r2, q2⟩ => hm pins s2 σ H2 (.ref a) vs (.ref a) us Q I2 rfl r2 q2
def ttix (to : T3) (t : TA3) : T3 := fun σ G Q E => to σ G (fun x G1 => (∃ xs, x = .tuf xs) ∧ t σ G1 (fun ds G2 => ∃ xs ys z j, x = .tuf xs ∧ ds = [.str z] ∧ strsOf xs = some ys ∧ ys[j]? = some z ∧ (∀ m, m < j → ys[m]? ≠ some z) ∧ Q (.int (j : Nat)) G2) E) E
theorem pe_tix3 (hK : X.K = C.K) (ho : PE X o (up C W to)) (ha : PA X (e :: es) (upA C W t)) (hbase : attributeBase o "index" X.env (eval o X.env) = eval o X.env)
    (hfew : ((backTo pos (starEach (e :: es) X.env)).all (fun x => !x.1) && (backToKw pos (keywordEach [] X.env)).all (fun x => x.1.isSome) && decide ((e :: es).length + ([] : List Keyword).length + (if ([] : List Keyword).isEmpty then 0 else 1) < 30)) = true)
    (hline : (apos.endLine == pos.line) = true) (hs : starEach (e :: es) X.env = (false, eval e X.env) :: starEach es X.env) (hpl : (backTo pos (starEach es X.env)).any (·.1) = false) :
    PE X (.Call (.Attribute o "index" apos) (e :: es) [] pos) (up C W (ttix to t)) :=
  PEw (pe_tixL mt_tup_index ho ha hbase hfew hline hs hpl) fun τ H R h => by
    obtain ⟨P, σ, G, Q, E, r, s, h, k, ee⟩ := h
    refine up_go r s h (fun P1 G1 H1 x v l1 r1 v1 ⟨⟨xs, ex⟩, q1⟩ => ?_) ee
    subst ex
    cases v1 with
    | @tuf a1 o1 ds1 vs1 z s1 q =>
      refine ⟨⟨a1, o1, vs1, rfl, r1.sub _ _ s1, z⟩, P1, σ, G1, _, E, r1, s.mono l1, q1, fun P2 G2 H2 ds vs l2 r2 v2 q2 => ?_, ee.le l1⟩
      obtain ⟨xs', ys, w, j, e1, e2, e3, e4, e5, q2⟩ := q2
      cases e1
      subst e2
      cases v2 with
      | cons a b =>
        cases b
        cases a
        have hv := strsOf_ok (q.mono l2) e3
        refine ⟨a1, ys, w, j, rfl, rfl, .inl (.inr ⟨o1, ?_⟩), e4, e5, k P2 G2 H2 _ _ (l1.trans l2) r2 (.int _) q2⟩
        exact r2.sub _ _ (l2 _ _ (by rw [← hv]; exact s1))
end
end V3
set_option Elab.async false
set_option linter.all false
set_option maxRecDepth 100000
set_option maxHeartbeats 4000000
/-! V14: dict(zip(..)) over any two things that are drawn from. -/
namespace V3
open PySem PySem.Spec L2 PyProof.Rows
section
variable {prog : Program} {w : World} {A : Around} {E : Value → Shared → Prop} {s : Shared} {z TI TO T i1 i2 : Addr} {f1 f2 : List Addr} {n1 n2 j : Nat} {P1 P2 : Nat → Value → Prop} {S1 S2 : Nat → Heap → Prop} {f : Bool} {oT : Obj}
/-- what stands apart: the zip object, its two iterators, what these read -/
structure Apart2 (z i1 i2 : Addr) (f1 f2 : List Addr) : Prop where
  z1 : z ∉ f1
  z2 : z ∉ f2
  a : i1 ∉ f2
  b : i2 ∉ f1
  m1 : i1 ∈ f1
  m2 : i2 ∈ f2
theorem Apart2.zi1 (D : Apart2 z i1 i2 f1 f2) : z ≠ i1 := fun e => D.z1 (e ▸ D.m1)
theorem Apart2.zi2 (D : Apart2 z i1 i2 f1 f2) : z ≠ i2 := fun e => D.z2 (e ▸ D.m2)
theorem Apart2.i12 (D : Apart2 z i1 i2 f1 f2) : i1 ≠ i2 := fun e => D.a (e ▸ D.m2)
/-- the state goes on where only one object has turned -/
theorem Draws.past {i c : Addr} {fp : List Addr} {n k : Nat} {P : Nat → Value → Prop} {St : Nat → Heap → Prop} {h h' : Heap} (D : Draws prog w A i fp n P St) (hc : c ∉ fp) (st : St k h) (x : Heap.ExtBut c h h') : St k h' :=
  D.frame _ _ _ st fun b hb o e => x b o (fun q => hc (q ▸ hb)) e
theorem held_turn {Q : Value → Shared → Prop} (D1 : Draws prog w A i1 f1 n1 P1 S1) (D2 : Draws prog w A i2 f2 n2 P2 S2) (D : Apart2 z i1 i2 f1 f2) (hz : IsZipHeld s.heap z TI TO T f) (hT : s.heap.get? T = some oT) (hp : IsPair s.heap TI (.ref i1) (.ref i2))
    (a1 : S1 j s.heap) (a2 : S2 j s.heap) (l1 : j < n1) (l2 : j < n2)
    (hQ : ∀ x y h' tk, P1 j x → P2 j y → IsZipHeld h' z TI TO T true → S1 (j + 1) h' → S2 (j + 1) h' → IsPair h' s.heap.objs.size x y → (∀ c o, c ∉ [z, i1, i2] → s.heap.get? c = some o → h'.get? c = some o) → Q (.ref s.heap.objs.size) { s with heap := h', toks := tk }) :
    wpAny (model prog w) A (Builtin.«zip.__next__» ⟨[.ref z], []⟩) (fun r s' => ∃ v, r = .done (.ret v) ∧ Q v s') E s := by
  show wpAny _ _ (field (.ref z) 2 >>= _) _ _ _
  refine wpAny_bind (wpAny_field hz rfl (x := .bool false) rfl ?_)
  show wpAny _ _ (field (.ref z) 3 >>= _) _ _ _
  refine wpAny_bind (wpAny_field hz rfl (x := .ref TI) rfl (wpAny_bind (wpAny_seqItems hp rfl ?_)))
  show wpAny _ _ (Builtin.SmallTypes.ownedTupleIsFree (.ref z) >>= _) _ _ _
  refine wpAny_bind (wpAny_tupleHeld_zip hz hT fun g1 z1 c1 => ?_)
  simp only [Bool.false_eq_true, if_false]
  rw [← Array.forIn_toList]
  simp only [List.forIn_cons, List.forIn_nil]
  refine wpAny_bind (wpAny_bind (wpAny_bind (wpAny_holding ?_)))
  show wpAny _ _ (Builtin.SmallTypes.nextOf (.ref i1) >>= _) _ _ _
  refine wpAny_bind (D1.item j _ _ _ l1 (Draws.past D1 D.z1 a1 c1.extBut) fun x g2 k2 px b1 c2 => wpAny_pure (wpAny_pure (wpAny_bind (wpAny_bind (wpAny_holding ?_)))))
  show wpAny _ _ (Builtin.SmallTypes.nextOf (.ref i2) >>= _) _ _ _
  refine wpAny_bind (D2.item j _ _ _ l2 (Draws.past D2 D.a (Draws.past D2 D.z2 a2 c1.extBut) c2.extBut) fun y g3 k3 py b2 c3 => wpAny_pure (wpAny_pure (wpAny_pure ?_)))
  show wpAny _ _ (newTuple [x, y] >>= _) _ _ _
  refine wpAny_bind (wpAny_newTuple (wpAny_pure ⟨_, rfl, ?_⟩))
  have sz : g3.objs.size = s.heap.objs.size := by rw [c3.1, c2.1, c1.1]
  have z3 : IsZipHeld g3 z TI TO T true := c3.extBut _ _ D.zi2 (c2.extBut _ _ D.zi1 z1)
  have up : ∀ c o, g3.get? c = some o → (g3.push { cls := .type "tuple", data := .seq #[x, y] }).get? c = some o := fun c o q => Heap.get?_push_of_some _ q
  show Q (.ref g3.objs.size) _
  have new : IsPair (g3.push { cls := .type "tuple", data := .seq #[x, y] }) g3.objs.size x y := Heap.get?_push_size _ rfl
  rw [sz] at new ⊢
  refine hQ x y _ k3 px py (up _ _ z3) (D1.frame _ _ _ (Draws.past D1 D.b b1 c3.extBut) fun b _ o q => up b o q) (D2.frame _ _ _ b2 fun b _ o q => up b o q) new fun c o hc q => up c o ?_
  have hc' : c ≠ z ∧ c ≠ i1 ∧ c ≠ i2 := by simpa using hc
  exact c3.extBut _ _ hc'.2.2 (c2.extBut _ _ hc'.2.1 (c1.extBut _ _ hc'.1 q))
theorem held_stop {Q : Fin → Shared → Prop} (D1 : Draws prog w A i1 f1 n1 P1 S1) (D2 : Draws prog w A i2 f2 n2 P2 S2) (D : Apart2 z i1 i2 f1 f2) (hz : IsZipHeld s.heap z TI TO T f) (hT : s.heap.get? T = some oT) (hp : IsPair s.heap TI (.ref i1) (.ref i2))
    (a1 : S1 (min n1 n2) s.heap) (a2 : S2 (min n1 n2) s.heap)
    (hE : ∀ h' tk e, (∀ c o, c ∉ [z, i1, i2] → s.heap.get? c = some o → h'.get? c = some o) → (∃ o, h'.get? e = some o ∧ o.cls = .type "StopIteration") → E (.ref e) { s with heap := h', toks := tk }) :
    wpAny (model prog w) A (Builtin.«zip.__next__» ⟨[.ref z], []⟩) Q E s := by
  show wpAny _ _ (field (.ref z) 2 >>= _) _ _ _
  refine wpAny_bind (wpAny_field hz rfl (x := .bool false) rfl ?_)
  show wpAny _ _ (field (.ref z) 3 >>= _) _ _ _
  refine wpAny_bind (wpAny_field hz rfl (x := .ref TI) rfl (wpAny_bind (wpAny_seqItems hp rfl ?_)))
  show wpAny _ _ (Builtin.SmallTypes.ownedTupleIsFree (.ref z) >>= _) _ _ _
  refine wpAny_bind (wpAny_tupleHeld_zip hz hT fun g1 z1 c1 => ?_)
  simp only [Bool.false_eq_true, if_false]
  rw [← Array.forIn_toList]
  simp only [List.forIn_cons, List.forIn_nil]
  refine wpAny_bind (wpAny_bind (wpAny_bind (wpAny_holding ?_)))
  show wpAny _ _ (Builtin.SmallTypes.nextOf (.ref i1) >>= _) _ _ _
  have b1 := Draws.past D1 D.z1 a1 c1.extBut
  have b2 := Draws.past D2 D.z2 a2 c1.extBut
  by_cases hn : n1 ≤ n2
  · rw [Nat.min_eq_left hn] at b1
    refine wpAny_bind (D1.done _ _ _ b1 fun g2 e c2 he => hE g2 s.toks e (fun c o hc q => ?_) he)
    have hc' : c ≠ z ∧ c ≠ i1 ∧ c ≠ i2 := by simpa using hc
    exact c2 c o hc'.2.1 (c1.extBut _ _ hc'.1 q)
  · have hm : min n1 n2 = n2 := Nat.min_eq_right (Nat.le_of_not_le hn)
    rw [hm] at b1 b2
    refine wpAny_bind (D1.item n2 _ _ _ (Nat.lt_of_not_le hn) b1 fun x g2 k2 _ _ c2 => wpAny_pure (wpAny_pure (wpAny_bind (wpAny_bind (wpAny_holding ?_)))))
    show wpAny _ _ (Builtin.SmallTypes.nextOf (.ref i2) >>= _) _ _ _
    refine wpAny_bind (D2.done _ _ _ (Draws.past D2 D.a b2 c2.extBut) fun g3 e c3 he => hE g3 k2 e (fun c o hc q => ?_) he)
    have hc' : c ≠ z ∧ c ≠ i1 ∧ c ≠ i2 := by simpa using hc
    exact c3 c o hc'.2.2 (c2.extBut _ _ hc'.2.1 (c1.extBut _ _ hc'.1 q))
end

/-- dict(z), z a zip of two tuples -/
theorem pairs_tups {prog : Program} {w : World} {z TI TO i1 i2 a b : Addr} (D : ZipApart z TI TO i1 i2 a b) (xs ys : Array Value) :
    PairArg prog w "zip" z [z, TI, TO, i1, i2, a, b] [z, TO, i1, i2] (min xs.size ys.size) (fun j u v => xs[j]? = some u ∧ ys[j]? = some v)
      (fun h => IsZip h z TI TO .none ∧ IsPair h TI (.ref i1) (.ref i2) ∧ (∃ p q, IsPair h TO p q) ∧ h.IsTupleIter i1 a 0 ∧ h.IsTupleIter i2 b 0 ∧ h.IsTuple a xs ∧ h.IsTuple b ys) := by
  have ap : Apart2 z i1 i2 [i1, a] [i2, b] := ⟨by simp [D.i1z.symm, D.l1z.symm], by simp [D.i2z.symm, D.l2z.symm], by simp [D.i12, D.l2i1.symm], by simp [D.i12.symm, D.l1i2.symm], by simp, by simp⟩
  refine ⟨fun s ok => ⟨_, ok.1, rfl⟩, by decide, ?_, ?_, ?_, ?_, ?_⟩
  · rintro h h' ⟨o1, o2, ⟨p, q, o3⟩, o4, o5, o6, o7⟩ k
    exact ⟨k _ _ o1, k _ _ o2, ⟨p, q, k _ _ o3⟩, o4.at fun o e => k _ o e, o5.at fun o e => k _ o e, o6.at fun o e => k _ o e, o7.at fun o e => k _ o e⟩
  · rintro h ⟨o1, o2, ⟨p, q, o3⟩, ⟨_, o4, _⟩, ⟨_, o5, _⟩, ⟨_, o6, _⟩, ⟨_, o7, _⟩⟩ c hc
    simp only [List.mem_cons, List.not_mem_nil, or_false] at hc
    rcases hc with e | e | e | e | e | e | e <;> rw [e] <;> first | exact ⟨_, o1⟩ | exact ⟨_, o2⟩ | exact ⟨_, o3⟩ | exact ⟨_, o4⟩ | exact ⟨_, o5⟩ | exact ⟨_, o6⟩ | exact ⟨_, o7⟩
  · intro c hc
    simp only [List.mem_cons, List.not_mem_nil, or_false] at hc ⊢
    rcases hc with e | e | e | e <;> simp [e]
  · intro A s Q E hA ok h
    exact getAttrOr_miss_zip ok.1 rfl rfl rfl zip_no_keys (by decide +kernel) hA h
  · rintro A s d Q E hA ⟨o1, o2, ⟨p, q, o3⟩, o4, o5, o6, o7⟩ hd hnd h
    simp only [List.mem_cons, List.not_mem_nil, or_false, not_or] at hnd
    obtain ⟨d1, d2, d3, d4, d5, d6, d7⟩ := hnd
    have D1 := Draws.tuple (prog := prog) (w := w) (A := A.in1) hA i1 a D.l1i1 xs
    have D2 := Draws.tuple (prog := prog) (w := w) (A := A.in1) hA i2 b D.l2i2 ys
    refine wpAny_pyIter_zip o1 (h z [z, TO, i1, i2] (fun j g => IsPair g TI (.ref i1) (.ref i2) ∧ (g.IsTupleIter i1 a j ∧ g.IsTuple a xs) ∧ (g.IsTupleIter i2 b j ∧ g.IsTuple b ys) ∧
      ((IsZip g z TI TO .none ∧ ∃ p q, IsPair g TO p q) ∨ ∃ T f oT, IsZipHeld g z TI TO T f ∧ g.get? T = some oT ∧ T ∉ [z, i1, i2] ∧ T ≠ d)) s.heap s.toks ⟨?_, ?_, ?_, ?_⟩ ⟨o2, ⟨o4, o6⟩, ⟨o5, o7⟩, .inl ⟨o1, p, q, o3⟩⟩ (fun _ _ e => e) fun c hc => .inl hc)
    · simp [d1, d3, d4, d5]
    · rintro j g g' ⟨p1, p2, p3, p4⟩ k
      refine ⟨k _ _ (Ne.symm d2) p1, ⟨p2.1.at fun o e => k _ o (Ne.symm d4) e, p2.2.at fun o e => k _ o (Ne.symm d6) e⟩, ⟨p3.1.at fun o e => k _ o (Ne.symm d5) e, p3.2.at fun o e => k _ o (Ne.symm d7) e⟩, ?_⟩
      rcases p4 with ⟨q1, p, q, q2⟩ | ⟨T, f, oT, q1, q2, q3, q4⟩
      · exact .inl ⟨k _ _ (Ne.symm d1) q1, p, q, k _ _ (Ne.symm d3) q2⟩
      · exact .inr ⟨T, f, oT, k _ _ (Ne.symm d1) q1, k _ _ q4 q2, q3, q4⟩
    · rintro j s1 Q1 E1 hj ⟨p1, p2, p3, p4⟩ hds hQ
      have jx : j < xs.size := by omega
      have jy : j < ys.size := by omega
      have old : ∀ {c o}, s1.heap.get? c = some o → s1.heap.objs.size ≠ c := fun e => Nat.ne_of_gt (Heap.lt_size e)
      have ni1 : s1.heap.objs.size ≠ i1 := by obtain ⟨_, e, _⟩ := p2.1; exact old e
      have ni2 : s1.heap.objs.size ≠ i2 := by obtain ⟨_, e, _⟩ := p3.1; exact old e
      rcases p4 with ⟨q1, p, q, q2⟩ | ⟨T, f, oT, q1, q2, q3, q4⟩
      · refine RZ.pyNext_zipT_item D q1 p1 q2 p2.1 p3.1 p2.2 p3.2 (Array.getElem?_eq_getElem jx) (Array.getElem?_eq_getElem jy) fun h' r1 r2 r3 r4 r5 r6 k => ?_
        refine hQ s1.heap.objs.size _ _ h' s1.toks ⟨Array.getElem?_eq_getElem jx, Array.getElem?_eq_getElem jy⟩ (.inl ⟨_, r5, rfl, _, rfl⟩) ⟨k _ _ D.TIz D.TITO D.TIi1 D.TIi2 p1, ⟨r3, p2.2.at fun o e => k _ o D.l1z D.l1TO D.l1i1 D.l1i2 e⟩, ⟨r4, p3.2.at fun o e => k _ o D.l2z D.l2TO D.l2i1 D.l2i2 e⟩,
          .inr ⟨_, false, _, r1, r5, by simp [old q1, ni1, ni2], Nat.ne_of_gt hds⟩⟩ fun c o hc e => ?_
        simp only [List.mem_cons, List.not_mem_nil, or_false, not_or] at hc
        exact k c o hc.1 hc.2.1 hc.2.2.1 hc.2.2.2 e
      · have hTy : s1.TypeIs (.ref z) "zip" := ⟨_, q1, rfl⟩
        unfold pyNext
        refine wpAny_bind (wpAny_attempt (wpAny_callSpecial?_slot (name := Str.ofString "__next__") hTy F.slot_zip_next (wpAny_call_entry F.slot_zip_next hTy F.entry_zip_next (held_turn D1 D2 ap q1 q2 p1 p2 p3 jx jy fun x y h' tk px py r1 r3 r4 r5 k => wpAny_pure ?_) (F.args_zip_next_1 _))))
        have q3' : T ≠ z ∧ T ≠ i1 ∧ T ≠ i2 := by simpa using q3
        refine hQ s1.heap.objs.size _ _ h' tk ⟨px, py⟩ (.inl ⟨_, r5, rfl, _, rfl⟩) ⟨k _ _ (by simp [D.TIz, D.TIi1, D.TIi2]) p1, r3, r4, .inr ⟨T, true, oT, r1, k _ _ q3 q2, q3, q4⟩⟩ fun c o hc e => ?_
        simp only [List.mem_cons, List.not_mem_nil, or_false, not_or] at hc
        exact k c o (by simp [hc.1, hc.2.2.1, hc.2.2.2]) e
    · rintro s1 Q1 E1 ⟨p1, p2, p3, p4⟩ hQ
      have fin : ∀ {h' : Heap} {tk : Nat}, (∀ c o, c ∉ [z, i1, i2] → s1.heap.get? c = some o → h'.get? c = some o) → Q1 none { s1 with heap := h', toks := tk } := fun k => hQ _ _ fun c o hc e => by
        simp only [List.mem_cons, List.not_mem_nil, or_false, not_or] at hc
        exact k c o (by simp [hc.1, hc.2.2.1, hc.2.2.2]) e
      rcases p4 with ⟨q1, p, q, q2⟩ | ⟨T, f, oT, q1, q2, q3, q4⟩
      · refine RZ.pyNext_zipT_end hA D q1 p1 q2 p2.1 p3.1 p2.2 p3.2 ?_ fun h' k => hQ h' s1.toks fun c o hc e => ?_
        · by_cases hn : xs.size ≤ ys.size
          · exact .inl (Array.getElem?_eq_none (by omega))
          · exact .inr (Array.getElem?_eq_none (by omega))
        · simp only [List.mem_cons, List.not_mem_nil, or_false, not_or] at hc
          exact k c o hc.1 hc.2.1 hc.2.2.1 hc.2.2.2 e
      · have hTy : s1.TypeIs (.ref z) "zip" := ⟨_, q1, rfl⟩
        unfold pyNext
        refine wpAny_bind (wpAny_attempt (wpAny_callSpecial?_slot (name := Str.ofString "__next__") hTy F.slot_zip_next (wpAny_call_entry F.slot_zip_next hTy F.entry_zip_next (held_stop D1 D2 ap q1 q2 p1 p2 p3 fun h' tk e k he => ?_) (F.args_zip_next_1 _))))
        obtain ⟨o, ho, hc⟩ := he
        exact wpAny_bind (wpAny_isInstance (T := "StopIteration") (b := true) ⟨o, ho, hc⟩ isSubtype_stop (wpAny_pure (fin k)))
section
variable {C : Cn} {X : Cx} {W : WX} {k : Nat} {e1 e2 : Expr} {ta tb : T3} {p p2 pos pos2 : Pos}
theorem keys_zip {ks : List Key} {vs ws : List V} {us rs : List Value} (hk : vs = ks.map kV) (r1 : Vals vs us) (r2 : Vals ws rs) : PairsHave (mixKind X.prog X.w) (min us.toArray.size rs.toArray.size) (fun j u v => us.toArray[j]? = some u ∧ rs.toArray[j]? = some v) (List.zip ks rs) ∧ KV (List.zip ks ws) (List.zip ks rs) := by
  subst hk
  have l1 := r1.length
  rw [List.length_map] at l1
  refine ⟨⟨by simp [l1], fun j u v ⟨hu, hv⟩ => ?_⟩, ?_⟩
  · have hu : us[j]? = some u := by simpa using hu
    have hv : rs[j]? = some v := by simpa using hv
    have hlt : j < ks.length := by rw [l1]; exact (List.getElem?_eq_some_iff.mp hu).1
    obtain ⟨u', g1, g2⟩ := r1.get (i := j) (x := kV ks[j]) (by simp [hlt])
    rw [hu] at g1
    cases g1
    exact ⟨ks[j], by rw [List.getElem?_zip_eq_some]; exact ⟨List.getElem?_eq_getElem hlt, hv⟩, kV_is g2⟩
  · clear l1 r1
    induction ks generalizing ws rs with
    | nil => exact .nil
    | cons k ks ih =>
      cases r2 with
      | nil => exact .nil
      | cons a b => exact .cons ⟨rfl, a⟩ (ih b)
def mergeD (kvs : List (Key × D)) : List (Key × D) := kvs.foldl (fun acc kv => putD acc kv.1 kv.2) []
theorem Rvk.merge {P : Hp} : ∀ {more : List (Key × D)} {ws : List (Key × V)} {acc : List (Key × D)} {vs : List (Key × V)}, Rvk C P more ws → Rvk C P acc vs → Rvk C P (more.foldl (fun acc kv => putD acc kv.1 kv.2) acc) (mergeK vs ws) := by
  intro more
  induction more with
  | nil => intro ws acc vs m h; cases m; exact h
  | cons x more ih =>
    intro ws acc vs m h
    cases m with
    | @cons k d v ds ws' a b =>
      have := ih (acc := putD acc k d) (vs := putK vs k v) b (h.put a)
      exact this
theorem Rvk.zip {P : Hp} : ∀ (ks : List Key) {ds : List D} {vs : List V}, Rvs C P ds vs → Rvk C P (List.zip ks ds) (List.zip ks vs)
  | [], _, _, _ => .nil
  | _ :: _, _, _, .nil => .nil
  | _ :: ks, _, _, .cons a b => .cons a (Rvk.zip ks b)
/-- dict(zip(a, b)), a and b tuples, a's items keys -/
def tdzip (w : Bool) (ta tb : T3) : T3 := fun σ G Q E => ta σ G (fun x G1 => tb σ G1 (fun y G2 => ∃ xs ys ks, tupA x = some xs ∧ tupA y = some ys ∧ keyDs xs = some ks ∧ newD w (mergeD (List.zip ks ys)) G2 Q) E) E
theorem pe_dzip3 {w : Bool} (B : Bd C X W k) (hg : Gl X "dict") (hm : X.mg "dict" = none) (hg2 : Gl X "zip") (hm2 : X.mg "zip" = none) (ha : PE X e1 (up C W ta)) (hb : PE X e2 (up C W tb))
    (hs : starEach [e1, e2] X.env = (false, eval e1 X.env) :: starEach [e2] X.env) (hs2 : starEach [e2] X.env = [(false, eval e2 X.env)]) (hpl : (backTo pos2 (starEach [e2] X.env)).any (·.1) = false)
    (hs3 : starEach [.Call (.Name "zip" p2) [e1, e2] [] pos2] X.env = [(false, eval (.Call (.Name "zip" p2) [e1, e2] [] pos2) X.env)]) :
    PE X (.Call (.Name "dict" p) [.Call (.Name "zip" p2) [e1, e2] [] pos2] [] pos) (up C W (tdzip w ta tb)) := by
  refine ⟨fun pins s σ H R I h => ?_⟩
  have hA := pa_cons ha (pa_cons hb pa_nil hs2) hs
  refine Call_ (ld_blt I hg hm PyProof.Rows.boot_dict ?_)
  refine PyProof.Rows.callWith_type1 ?_ hs3 rfl
  rw [hs3]
  show wpAny _ _ (spliced ((false, eval (.Call (.Name "zip" p2) [e1, e2] [] pos2) X.env) :: [])) _ _ _
  refine Calls.spliced_cons (Call_ (ld_blt I hg2 hm2 PyProof.Rows.boot_zip (PyProof.Rows.callWith_type1 (thn (hA.run pos2 pins s σ H (fun vs H1 => ∃ a b v1 v2 ks, vs = [.ref a, .ref b] ∧ SqT X.K H1 a v1 ∧ SqT X.K H1 b v2 ∧ v1 = ks.map kV ∧ ∀ q, H1 q = none → R (.ref q) (upd H1 q (.dK (mergeK [] (List.zip ks v2))))) I ?_) fun us s1 hh => ?_) hs hpl)))
  · obtain ⟨P, σ3, G, Q, E, r, s3, h, kk, ee⟩ := h
    refine up_go r s3 h (fun P1 G1 H1 x v l1 r1 v1 q1 => ?_) ee
    refine up_go r1 (s3.mono l1) q1 (fun P2 G2 H2 y u l2 r2 v2 q2 => ?_) (ee.le l1)
    obtain ⟨xs, ys, ks, t1, t2, t3, q2⟩ := q2
    obtain ⟨a, w1, ex, h1, z1⟩ := tupA_ok (K := X.K) r2 (v1.mono l2) t1
    obtain ⟨b, w2, ey, h2, z2⟩ := tupA_ok (K := X.K) r2 v2 t2
    subst ex ey
    refine ⟨a, b, w1, w2, ks, rfl, h1, h2, keyDs_ok z1 t3, fun q hq => ?_⟩
    exact newD_ok r2 (Rvk.merge (Rvk.zip ks z2) .nil) q2 (kk.le (l1.trans l2)) q hq
  · obtain ⟨vs, H1, I1, rr, a, b, v1, v2, ks, ev, h1, h2, hk, q⟩ := hh
    subst ev
    cases rr with
    | cons ra rt =>
      cases rt with
      | cons rb rn =>
        cases rn
        cases ra
        cases rb
        obtain ⟨its, r1, p1, _⟩ := I1.tuple h1
        obtain ⟨its2, r2, p2', _⟩ := I1.tuple h2
        have c1 : s1.heap.IsTuple a its.toArray := p1
        have c2 : s1.heap.IsTuple b its2.toArray := p2'
        have la : a < s1.heap.objs.size := by obtain ⟨o, ho, _⟩ := id c1; exact Heap.lt_size ho
        have lb : b < s1.heap.objs.size := by obtain ⟨o, ho, _⟩ := id c2; exact Heap.lt_size ho
        refine RZ.call_zipT c1 c2 fun h' z1 z2 z3 z4 z5 _ kp => Calls.spliced_nil ?_
        have I2 : Inv X pins σ H1 { s1 with heap := h' } := I1.kept (t' := s1.toks) kp
        obtain ⟨hp, hkv⟩ := keys_zip (X := X) hk r1 r2
        refine call_dict_pairs (pairs_tups (PySem.W.ktu_apart s1.heap.objs.size a b la lb) its.toArray its2.toArray) (I.ok.hd B.hc) ⟨z1, z2, ⟨_, _, z3⟩, z4, z5, c1.at fun o e => kp _ o e, c2.at fun o e => kp _ o e⟩ hp ?_ fun h2' tk hd2 k2 => ?_
        · have := r1.length
          have z := (I1.tuple h1).choose_spec.2.2
          simp only [List.size_toArray]
          omega
        · have lenz : (mergeK [] (List.zip ks v2)).length ≤ sizeLine := by
            refine Nat.le_trans (length_mergeK _ _) ?_
            have z := (I1.tuple h1).choose_spec.2.2
            rw [hk, List.length_map] at z
            rw [List.length_nil, List.length_zip, Nat.zero_add]
            exact Nat.le_trans (Nat.min_le_left _ _) z
          have hz : s1.heap.objs.size + 5 ≤ h'.objs.size := by
            have := Heap.lt_size z1
            omega
          have hm : (h'.objs.size == sysModules) = false := beq_eq_false_iff_ne.mpr (Nat.ne_of_gt (Nat.lt_of_lt_of_le I1.big (by omega)))
          have I3 : Inv X pins σ (upd H1 h'.objs.size (.dK (mergeK [] (List.zip ks v2)))) { s1 with heap := h2', toks := tk } := I1.laid (t' := tk) (fun b o e => k2 b o (by
            have := Heap.lt_size e
            simp only [List.mem_cons, List.not_mem_nil, or_false, not_or]
            exact ⟨Nat.ne_of_lt (Nat.lt_of_lt_of_le this (Nat.le_add_right _ _)), Nat.ne_of_lt (Nat.lt_of_lt_of_le this (Nat.le_add_right _ _)), Nat.ne_of_lt this, Nat.ne_of_lt (Nat.lt_of_lt_of_le this (Nat.le_add_right _ _))⟩) (kp b o e)) (by omega) (show ObjOk X.prog X.w _ _ _ (.dK _) from ⟨lenz, hm, merged [] (List.zip ks its2), KV.merge hkv .nil, hd2⟩)
          exact ⟨.ref h'.objs.size, _, I3, rfl, q _ (I1.hok.fresh (by omega))⟩
end
end V3
set_option Elab.async false
set_option linter.all false
set_option maxRecDepth 100000
set_option maxHeartbeats 4000000
/-! V15: sum(d.values()). -/
namespace V3
open PySem PySem.Spec L2 PyProof.Rows
section
variable {C : Cn} {X : Cx} {W : WX} {k : Nat} {o : Expr} {to : T3} {p apos mpos pos : Pos}
theorem presum_take (f : Nat → Int) (is : List Int) (h : ∀ i, f i = is.getD i 0) : ∀ n, n ≤ is.length → preSum f n = (is.take n).sum
  | 0, _ => by simp [preSum]
  | n + 1, hn => by
    have hlt : n < is.length := hn
    rw [preSum, presum_take f is h n (Nat.le_of_lt hlt), h n, List.take_add_one, List.sum_append, List.getD_eq_getElem?_getD, List.getElem?_eq_getElem hlt]
    simp
/-- sum(o.values()), a dict with int values -/
def tSumV (td : TE) : TE := fun σ H Q => td σ H fun x H1 => ∃ (a : Addr) (kvs : List (Key × V)) (is : List Int), x = V.ref a ∧ H1 a = some (.dK kvs) ∧ kvs.map (·.2) = is.map V.int ∧ Q (.int is.sum) H1
theorem pe_sumV {td : TE} (hc : X.calm = true) (hg : Gl X "sum") (hm : X.mg "sum" = none) (hd : PE X o td) (hb : attributeBase o "values" X.env (eval o X.env) = eval o X.env) (hl : (apos.endLine == mpos.line) = true)
    (hs : starEach [Expr.Call (.Attribute o "values" apos) [] [] mpos] X.env = [(false, eval (Expr.Call (.Attribute o "values" apos) [] [] mpos) X.env)]) :
    PE X (.Call (.Name "sum" p) [.Call (.Attribute o "values" apos) [] [] mpos] [] pos) (tSumV td) := by
  refine ⟨fun pins s σ H Q I h => ?_⟩
  refine wpAny_Call_Name_kw (ld_blt I hg hm (u := .builtin "sum") (by decide +kernel) ?_ (by decide +kernel) (by decide +kernel))
  rw [hs]
  refine PySem.callWith_builtin1 (wpAny_Call_method0_late hb hl (thn (hd.run pins s σ H _ I h) fun v s1 ⟨x, H1, I1, r1, a, kvs, is, ex, ha, hv, q⟩ => ?_))
  subst ex
  obtain rfl : v = Value.ref a := r1
  obtain ⟨_, hsys, vs, rel, dof⟩ := dk_of I1.hok ha
  obtain ⟨ep, dat⟩ := dof.dictAt
  obtain ⟨ob, es, ho, exd, _⟩ := id dat
  refine ⟨"dict", "dict.values", F.plainAttrs_dict, F.slot_dict_values, F.type_dict_values, ⟨ob, ho, exd.1⟩, fun b e => ?_, Calls.callWith_builtin rfl (PySem.evalArgs_none ?_)⟩
  · cases e
    exact ⟨ob, ho, exd.2.1⟩
  refine call_meetsIn F.slot_dict_values ⟨ob, ho, exd.1⟩ F.entry_dict_values (F.args_dict_values_1 _) (meets_dict_values (mixKind X.prog X.w) a hsys) ⟨⟨vs, dof⟩, ?_⟩
  generalize hh1 : s1.heap.push { cls := .type "dict_values", data := .fields #[.ref a] } = h1
  have k1 : ∀ b u, s1.heap.get? b = some u → h1.get? b = some u := fun b u e => by
    rw [← hh1]; exact Heap.get?_push_of_some _ e
  have view : h1.get? s1.heap.objs.size = some { cls := .type "dict_values", data := .fields #[.ref a] } := by
    rw [← hh1]; exact Heap.get?_push_size _ rfl
  have sz1 : h1.objs.size = s1.heap.objs.size + 1 := by rw [← hh1]; exact Heap.size_push _ _
  have dat1 := dat.keep k1
  have hlt : a < s1.heap.objs.size := Heap.lt_size ho
  have hn : vs.length = is.length := by
    have e1 := congrArg List.length hv
    rw [List.length_map, List.length_map] at e1
    rw [← e1]
    exact (KV.length rel).symm
  have at_ : ∀ (i : Nat) (v : Value), (∃ k, vs[i]? = some (k, v)) → ∃ t, v = Value.int (is.getD i 0) t := fun i v hk => by
    obtain ⟨k, hk⟩ := hk
    obtain ⟨x, g1, g2⟩ := KV.at' rel hk
    have e1 : (kvs.map (·.2))[i]? = some x := by rw [List.getElem?_map, g1]; rfl
    rw [hv, List.getElem?_map] at e1
    obtain ⟨j, hj, e2⟩ := Option.map_eq_some_iff.mp e1
    subst e2
    obtain ⟨t, e3⟩ := g2
    exact ⟨t, by rw [e3, List.getD_eq_getElem?_getD, hj]; rfl⟩
  refine call_sum_walkAnyS (wpAny_pyIter_values (v := s1.heap.objs.size) (d := a) ⟨_, view, rfl, rfl⟩ dat1 ?_)
  have W1 := Walks.dictValues (prog := X.prog) (w := X.w) (knd := mixKind X.prog X.w) (A := X.A.in1) (I.ok.hd hc) h1.objs.size a (by rw [sz1]; exact Nat.ne_of_lt (Nat.lt_succ_of_lt hlt)) vs ep
  refine ⟨h1.objs.size, _, _, _, vs.length, _, _, fun i => is.getD i 0, rfl, W1.toS, ⟨⟨_, Heap.get?_push_size _ rfl, rfl, rfl⟩, dat1.keep fun b u e => Heap.get?_push_of_some _ e⟩, fun b hb => ?_, at_, fun s' t' mv => ?_⟩
  · show b < (h1.push _).objs.size
    rw [Heap.size_push]
    rcases List.mem_cons.mp hb with e | hb
    · rw [e]; exact Nat.lt_succ_self _
    · rw [List.mem_singleton.mp hb, sz1]
      exact Nat.lt_succ_of_lt (Nat.lt_succ_of_lt hlt)
  · have keep : ∀ b u, s1.heap.get? b = some u → s'.heap.get? b = some u := fun b u e => mv.heap b u (fun hm' => by
      have e1 := List.mem_singleton.mp hm'
      have e2 := Heap.lt_size e
      rw [e1, sz1] at e2
      exact absurd e2 (Nat.not_lt.mpr (Nat.le_succ _))) (Heap.get?_push_of_some _ (k1 b u e))
    rw [Moved.eq_with mv]
    refine ⟨.int is.sum, H1, I1.kept (t' := s'.toks) keep, ⟨t', ?_⟩, q⟩
    rw [presum_take _ is (fun _ => rfl) _ (Nat.le_of_eq hn), hn, List.take_length]
theorem Rvk.vals {P : Hp} : ∀ {ds : List (Key × D)} {vs : List (Key × V)}, Rvk C P ds vs → Rvs C P (ds.map (·.2)) (vs.map (·.2))
  | _, _, .nil => .nil
  | _, _, .cons a b => .cons a (Rvk.vals b)
def tsumv (to : T3) : T3 := fun σ G Q E => to σ G (fun x G1 => ∃ kvs is, dicK G1 x = some kvs ∧ intsOf (kvs.map (·.2)) = some is ∧ Q (.int is.sum) G1) E
theorem pe_sumv3 (B : Bd C X W k) (hg : Gl X "sum") (hm : X.mg "sum" = none) (hd : PE X o (up C W to)) (hb : attributeBase o "values" X.env (eval o X.env) = eval o X.env) (hl : (apos.endLine == mpos.line) = true)
    (hs : starEach [Expr.Call (.Attribute o "values" apos) [] [] mpos] X.env = [(false, eval (Expr.Call (.Attribute o "values" apos) [] [] mpos) X.env)]) :
    PE X (.Call (.Name "sum" p) [.Call (.Attribute o "values" apos) [] [] mpos] [] pos) (up C W (tsumv to)) :=
  PEw (pe_sumV B.hc hg hm hd hb hl hs) fun τ H R h => by
    obtain ⟨P, σ, G, Q, E, r, s, h, k, ee⟩ := h
    refine up_go r s h (fun P1 G1 H1 x v l1 r1 v1 ⟨kvs, is, e1, e2, q1⟩ => ?_) ee
    obtain ⟨a, vs, rfl, h1, z⟩ := dicK_ok r1 v1 e1
    exact ⟨a, vs, is, rfl, h1, intsOf_ok z.vals e2, k P1 G1 H1 _ _ l1 r1 (.int _) q1⟩
end
end V3
set_option Elab.async false
set_option linter.all false
set_option maxRecDepth 100000
set_option maxHeartbeats 4000000
/-! V16: lambdas with parameters, handed to a def that calls them. -/
namespace V3
open PySem PySem.Spec L2 PyProof.Rows LamX
theorem lookup_nd {l : List (Str × Value)} {x : Str} {u : Value} (nd : (l.map (·.1)).Nodup) (h : (x, u) ∈ l) : l.lookup x = some u := by
  induction l with
  | nil => cases h
  | cons p r ih =>
    rw [List.map_cons, List.nodup_cons] at nd
    rcases List.mem_cons.mp h with e | e
    · subst e
      simp [List.lookup_cons]
    · have hx : ¬ x = p.1 := fun z => nd.1 (by rw [← z]; exact List.mem_map.mpr ⟨_, e, rfl⟩)
      have : (x == p.1) = false := by simpa using hx
      obtain ⟨a, b⟩ := p
      simp only [List.lookup_cons, this]
      exact ih nd.2 e
theorem lookup_zip {ps : List Str} {us : List Value} {j : Nat} {x : Str} {u : Value} (nd : ps.Nodup) (h1 : ps[j]? = some x) (h2 : us[j]? = some u) : (ps.zip us).reverse.lookup x = some u := by
  refine lookup_nd ?_ (List.mem_reverse.mpr ?_)
  · rw [List.map_reverse]
    refine List.pairwise_reverse.mpr (List.Pairwise.imp (fun h => Ne.symm h) ?_)
    have : (ps.zip us).map (·.1) = ps.take us.length := by
      clear nd h1 h2
      induction ps generalizing us with
      | nil => simp
      | cons p ps ih =>
        cases us with
        | nil => simp
        | cons v us => simp [ih]
    rw [this]
    exact List.Pairwise.sublist (List.take_sublist _ _) nd
  · exact List.mem_of_getElem? (i := j) (List.getElem?_zip_eq_some.mpr ⟨h1, h2⟩)
/-- the slots of the parameters filled -/
def putL {α : Type} (σ : List (Option α)) : List Nat → List α → List (Option α)
  | i :: is, v :: vs => putL (σ.set i (some v)) is vs
  | _, _ => σ
theorem putL_length {α : Type} : ∀ (is : List Nat) (vs : List α) (σ : List (Option α)), (putL σ is vs).length = σ.length
  | [], _, _ => rfl
  | _ :: _, [], _ => rfl
  | i :: is, v :: vs, σ => by unfold putL; rw [putL_length is vs, List.length_set]
theorem putL_out {α : Type} {k : Nat} : ∀ (is : List Nat) (vs : List α) (σ : List (Option α)), k ∉ is → (putL σ is vs)[k]? = σ[k]?
  | [], _, _, _ => rfl
  | _ :: _, [], _, _ => rfl
  | i :: is, v :: vs, σ, h => by
    unfold putL
    rw [putL_out is vs _ fun z => h (List.mem_cons_of_mem _ z), List.getElem?_set_ne fun z => h (by rw [z]; exact List.mem_cons_self ..)]
theorem putL_at {α : Type} {j k : Nat} {v : α} : ∀ (is : List Nat) (vs : List α) (σ : List (Option α)), is.Nodup → is[j]? = some k → vs[j]? = some v → k < σ.length → (putL σ is vs)[k]? = some (some v)
  | [], _, _, _, h, _, _ => by simp at h
  | _ :: _, [], _, _, _, h, _ => by simp at h
  | i :: is, w :: vs, σ, nd, h1, h2, hl => by
    rw [List.nodup_cons] at nd
    cases j with
    | zero =>
      simp at h1 h2
      subst h1 h2
      unfold putL
      rw [putL_out is vs _ nd.1, List.getElem?_set_self hl]
    | succ j =>
      unfold putL
      exact putL_at is vs _ nd.2 (by simpa using h1) (by simpa using h2) (by rw [List.length_set]; exact hl)
theorem Rs.put {C : Cb} {P : Hp} : ∀ (is : List Nat) {ds : List D} {vs : List V} {σ : S3} {τ : L2.St}, Rs C P σ τ → Rvs C P ds vs → Rs C P (putL σ is ds) (putL τ is vs)
  | [], _, _, _, _, s, _ => by unfold putL; exact s
  | _ :: _, _, _, _, _, s, .nil => by unfold putL; exact s
  | i :: is, _, _, _, _, s, .cons a b => by unfold putL; exact Rs.put is (s.set a i) b
/-- the lambda's names: ps its parameters, at the slots is; captured ones and globals besides -/
structure LamP (N : List Str) (sc scope : Scope) (ps : List Str) (is : List Nat) : Prop where
  kind : scope.kind = .function
  co : scope.isCoroutine = false
  gen : scope.isGenerator = false
  own : ∀ y ∈ scope.names, y.2 ≠ .cell ∧ (y.2 = .local → y.1 ∈ ps)
  free : ∀ y ∈ scope.names, y.2 = .free → sc.names.lookup y.1 = some .cell ∨ sc.names.lookup y.1 = some .free
  par : ∀ x ∈ ps, scope.names.lookup x = some .local
  nd : ps.Nodup
  ix : is.map (fun i => N[i]?) = ps.map some
  ndi : is.Nodup
def lamPB (N : List Str) (sc scope : Scope) (ps : List Str) (is : List Nat) : Bool :=
  decide (scope.kind = .function) && (!scope.isCoroutine && (!scope.isGenerator && ((scope.names.all fun y => !decide (y.2 = .cell) && (!decide (y.2 = .local) || decide (y.1 ∈ ps))) &&
    ((scope.names.all fun y => !decide (y.2 = .free) || (decide (sc.names.lookup y.1 = some .cell) || decide (sc.names.lookup y.1 = some .free))) && ((ps.all fun x => decide (scope.names.lookup x = some .local)) && (decide ps.Nodup && (decide (is.map (fun i => N[i]?) = ps.map some) && decide is.Nodup)))))))
theorem lamP_by {N : List Str} {sc scope : Scope} {ps : List Str} {is : List Nat} (h : lamPB N sc scope ps is = true) : LamP N sc scope ps is := by
  unfold lamPB at h
  simp only [Bool.and_eq_true, Bool.or_eq_true, Bool.not_eq_true', decide_eq_true_eq, decide_eq_false_iff_not, List.all_eq_true] at h
  obtain ⟨h1, h2, h3, h4, h5, h6, h7, h8, h9⟩ := h
  refine ⟨h1, h2, h3, fun y hy => ⟨(h4 y hy).1, fun e => ?_⟩, fun y hy e => ?_, h6, h7, h8, h9⟩
  · rcases (h4 y hy).2 with z | z
    · exact absurd e z
    · exact z
  · rcases h5 y hy with z | z
    · exact absurd e z
    · exact z
section
variable {X : Cx} {pins : List (Addr × Obj)} {σ : L2.St} {H HZ : Hp} {s s1 : Shared} {ps : List Str} {is : List Nat}
theorem LamP.has {scope : Scope} (L : LamP X.N X.env.scope scope ps is) (ok : X.Ok) : ∀ y ∈ scope.names, y.2 = .free → ∃ c, X.env.cells.lookup y.1 = some c := fun y hy e => by
  rcases L.free y hy e with k | k
  · exact ok.has _ (.inl k)
  · exact ok.has _ (.inr k)
theorem LamP.at {N : List Str} {sc scope : Scope} (L : LamP N sc scope ps is) {j : Nat} {x : Str} (h : ps[j]? = some x) : ∃ i, is[j]? = some i ∧ N[i]? = some x := by
  have := congrArg (fun l => l[j]?) L.ix
  simp only [List.getElem?_map, h] at this
  cases e : is[j]? with
  | none => rw [e] at this; cases this
  | some i =>
    rw [e] at this
    exact ⟨i, rfl, Option.some.inj this⟩
theorem LamP.back {N : List Str} {sc scope : Scope} (L : LamP N sc scope ps is) {j i : Nat} (h : is[j]? = some i) : ∃ x, ps[j]? = some x ∧ N[i]? = some x := by
  have := congrArg (fun l => l[j]?) L.ix
  simp only [List.getElem?_map, h] at this
  cases e : ps[j]? with
  | none => rw [e] at this; cases this
  | some x =>
    rw [e] at this
    exact ⟨x, rfl, Option.some.inj this⟩
theorem lam_in {A : Around} {outer : List Env} {E : XK} {scope : Scope} {f c' : Addr} {h₁ : Heap} {tk : Nat} {us : List Value} {vs : List V} (I : Inv X pins σ H s) (hN : X.N.Nodup) (L : LamP X.N X.env.scope scope ps is) (e0 : Env0 X.prog X.w X.K X.mg X.base A outer s1 HZ) (hd : A.handled = none)
    (un : Un (frs X.stack) [] H HZ s.heap s1.heap) (hns : h₁.Ns s1.heap.objs.size fun y => (ps.zip us).reverse.lookup y) (kp : ∀ b o, s1.heap.get? b = some o → h₁.get? b = some o) (rv : Vals vs us) (hl0 : vs.length = ps.length) :
    Inv (lamCx X A outer s1 HZ E scope f c') [] (putL σ is vs) HZ { s1 with heap := h₁, toks := tk } := by
  have hfree := L.has I.ok
  have cm : ∀ {y c}, (cloFrom X.env.cells scope.names []).lookup y = some c → X.env.cells.lookup y = some c := fun {y c} e => by
    rcases cloFrom_mem (PySem.mem_of_lookup e) with hm | ⟨h1, h2⟩
    · cases hm
    · obtain ⟨c1, hc⟩ := hfree _ h1 rfl
      have hc : X.env.cells.lookup y = some c1 := hc
      have e2 : c = c1 := by rw [h2, hc]; rfl
      rw [e2]; exact hc
  have look : ∀ {y}, scope.names.lookup y = some .free → ∃ c, (cloFrom X.env.cells scope.names []).lookup y = some c := fun {y} hl =>
    mem_lookup (cloFrom_has (cells := X.env.cells) (acc := []) (show (y, NameKind.free) ∈ scope.names from PySem.mem_of_lookup hl))
  have cellK : ∀ {c : Addr} {v : Option Value}, H c = none → s.heap.IsCell c v → h₁.IsCell c v := fun {c v} n ⟨o, ho, hd⟩ => by
    obtain ⟨sl, q⟩ := un.any ho n (by simp)
    exact ⟨_, kp _ _ q, hd⟩
  have noA : ∀ b : Addr, b ∉ (lamCx X A outer s1 HZ E scope f c').ex := fun b z => absurd (show b ∈ ([] : List Addr) from z) (by simp)
  have okc : (lamCx X A outer s1 HZ E scope f c').Ok := by
    refine ⟨e0.mod, L.kind, rfl, rfl, Nat.le_refl _, fun y z c e1 e2 => I.ok.inj y z c (cm e1) (cm e2), fun y hy => ?_, fun y c z _ => ?_, fun _ => hd, Around.frames_deeper e0.frames, .inr ⟨rfl, rfl⟩, fun b z => absurd z (noA b), e0.bs, e0.bsz, fun b _ _ => noA b, fun b z => absurd z (noA b), e0.funs, e0.frf⟩
    · have hy : scope.names.lookup y = some .cell ∨ scope.names.lookup y = some .free := hy
      rcases hy with hy | hy
      · exact absurd rfl (L.own _ (PySem.mem_of_lookup hy)).1
      · exact look hy
    · have z : false = true := z
      cases z
  refine ⟨okc, rfl, e0.bare, Un.kept kp, ⟨_, hns, fun i y v e1 e2 e3 => ?_⟩, fun y c e => ?_, e0.hok.fresh (Nat.le_refl _), fun y c e => ?_, fun q hq => absurd (show q ∈ ([] : List (Addr × Obj)) ++ [] from hq) (by simp), e0.hok.kept kp, ?_⟩
  · have e1 : X.N[i]? = some y := e1
    have e3 : Vis scope y := e3
    by_cases hp : y ∈ ps
    · obtain ⟨j, hj⟩ := List.getElem?_of_mem hp
      obtain ⟨i', hi', hn'⟩ := L.at hj
      have ei : i' = i := nodup_ix hN hn' e1
      subst ei
      have hlt : i' < σ.length := by
        rw [I.len]
        exact (List.getElem?_eq_some_iff.mp e1).1
      have hjv : j < vs.length := by
        rw [hl0]
        exact (List.getElem?_eq_some_iff.mp hj).1
      obtain ⟨u, hu, ru⟩ := rv.get (List.getElem?_eq_getElem hjv)
      have e4 := putL_at is vs σ L.ndi hi' (List.getElem?_eq_getElem hjv) hlt
      rw [e2] at e4
      cases e4
      exact ⟨u, ru, .inl ⟨L.par y hp, lookup_zip L.nd hj hu⟩⟩
    · have nis : i ∉ is := fun z => by
        obtain ⟨j, hj⟩ := List.getElem?_of_mem z
        obtain ⟨x, h1, h2⟩ := L.back hj
        rw [e1] at h2
        cases h2
        exact hp (List.mem_of_getElem? h1)
      rw [putL_out is vs σ nis] at e2
      rcases e3 with k | k | k
      · exact absurd ((L.own _ (PySem.mem_of_lookup k)).2 rfl) hp
      · exact absurd rfl (L.own _ (PySem.mem_of_lookup k)).1
      · obtain ⟨m, hn, hl⟩ := I.loc
        have hvis : Vis X.env.scope y := (L.free _ (PySem.mem_of_lookup k) rfl).elim (fun k => .inr (.inl k)) (fun k => .inr (.inr k))
        obtain ⟨w', r, q⟩ := hl i y v e1 e2 hvis
        obtain ⟨c2, h2⟩ := look k
        refine ⟨w', r, .inr ⟨.inr k, c2, h2, ?_⟩⟩
        have c1 := cm h2
        rcases q with ⟨k', _⟩ | ⟨_, c3, e', z⟩
        · have k' : X.env.scope.names.lookup y = some .local := k'
          rcases L.free _ (PySem.mem_of_lookup k) rfl with k2 | k2 <;> rw [show X.env.scope.names.lookup y = _ from k2] at k' <;> cases k'
        · rw [c1] at e'
          cases e'
          exact cellK (I.freeC y _ c1) z
  · obtain ⟨w', z⟩ := I.cell y c (cm e)
    exact ⟨w', cellK (I.freeC y c (cm e)) z⟩
  · obtain ⟨v, o, ho, hd⟩ := I.cell y c (cm e)
    exact un.free c o ho (I.freeC y c (cm e)) (by simp)
  · show (putL σ is vs).length = X.N.length
    rw [putL_length]; exact I.len
end
end V3
set_option Elab.async false
set_option linter.all false
set_option maxRecDepth 100000
set_option maxHeartbeats 4000000
/-! V17: the def calls the lambda that it got; the call that hands it over. -/
namespace V3
open PySem PySem.Spec L2 PyProof.Rows LamX
/-- the call of the lambda at f, made over the slots σm, its parameters at is, its body's reading tb; in a def whose slot i holds it -/
def tact (i : Nat) (f : Addr) (σm : S3) (is : List Nat) (tb : T3) (t : TA3) : T3 := fun σZ G Q E => σZ[i]? = some (some (.ref f)) ∧ t σZ G (fun ds G1 => ds.length = is.length ∧ tb (putL σm is ds) G1 Q E) E
theorem bd_lam {C : Cn} {X : Cx} {A : Around} {outer : List Env} {s : Shared} {H : Hp} {E : XK} {scope : Scope} {f c' : Addr} {k : Nat} (hK : X.K = C.K) (hN : X.N.Nodup) (hr : Room k (A.deeper (lamEnv X scope s.heap.objs.size f c'))) (hg : A.guards = some []) :
    Bd C (lamCx X A outer s H E scope f c') (fun c d _ H' => E c d H') k := ⟨hK, rfl, hN, hr, guards_deeper hg, takes_of rfl rfl rfl rfl, passes_of rfl⟩
section
variable {C : Cn} {X : Cx} {pins : List (Addr × Obj)} {σm : L2.St} {H : Hp} {s : Shared}
theorem pe_act3 {σ3 : S3} {Eg : XK} {Ng : List Str} {qg : Str} {sg : Scope} {g f c' : Addr} {cdg pm ctv : Value} {params : Arguments} {body : Expr} {scope : Scope} {k i : Nat} {is : List Nat} {ps : List Str} {a : Str} {W : WX} {tb : T3} {t : TA3} {e : Expr} {es : List Expr} {p1 p2 : Pos}
    (I : Inv X pins σm H s) (hN0 : X.N.Nodup) (hK : X.K = C.K) (L : LamP X.N X.env.scope scope ps is) (hs3 : Rs C C.P0 σ3 σm) (hco : C.P0 c' = some (CodeO c' (X.env.qual ++ "<lambda>")))
    (hf : s.heap.get? f = some (PySem.W.kla_obj "<lambda>" (X.env.qual ++ "<lambda>") params body scope (cloFrom X.env.cells scope.names []) pm c' ctv)) (hfn : H f = none) (hfr : f ∉ frs X.stack)
    (hbind : ∀ us : List Value, us.length = ps.length → bindArgs (PySem.W.kla_fn "<lambda>" (X.env.qual ++ "<lambda>") params body scope (cloFrom X.env.cells scope.names []) pm (.ref c') ctv) ⟨us, []⟩ = pure (ps.zip us))
    (B : Bd C (cxOf (L2.CX X.prog X.w) X.prog X.w X.K X.mg X.base Ng qg sg g cdg X.A X.stack s H Eg) W (k + 1))
    (hbody : ∀ (A : Around) (outer : List Env) (s : Shared) (H : Hp) (E : XK), Bd C (lamCx X A outer s H E scope f c') (fun c d _ H' => E c d H') k → PE (lamCx X A outer s H E scope f c') body (up C (fun c d _ H' => E c d H') tb))
    (ha : PA (cxOf (L2.CX X.prog X.w) X.prog X.w X.K X.mg X.base Ng qg sg g cdg X.A X.stack s H Eg) (e :: es) (upA C W t))
    (hN : Ng[i]? = some a) (hv : Vis sg a) (hd : (a == ("__debug__" : Str)) = false) (hcd : (a == ("__classdict__" : Str)) = false)
    (he : starEach (e :: es) (cxOf (L2.CX X.prog X.w) X.prog X.w X.K X.mg X.base Ng qg sg g cdg X.A X.stack s H Eg).env = (false, eval e (cxOf (L2.CX X.prog X.w) X.prog X.w X.K X.mg X.base Ng qg sg g cdg X.A X.stack s H Eg).env) :: starEach es (cxOf (L2.CX X.prog X.w) X.prog X.w X.K X.mg X.base Ng qg sg g cdg X.A X.stack s H Eg).env)
    (hpl : (backTo p2 (starEach es (cxOf (L2.CX X.prog X.w) X.prog X.w X.K X.mg X.base Ng qg sg g cdg X.A X.stack s H Eg).env)).any (·.1) = false) :
    PE (cxOf (L2.CX X.prog X.w) X.prog X.w X.K X.mg X.base Ng qg sg g cdg X.A X.stack s H Eg) (.Call (.Name a p1) (e :: es) [] p2) (up C W (tact i f σ3 is tb t)) := by
  refine ⟨fun pinsZ sZ σZ HZ R IZ h => ?_⟩
  obtain ⟨P, σ4, G, Q, E, r, s4, ⟨h1, h⟩, kk, ee⟩ := h
  obtain ⟨v0, e0, rv0⟩ := s4.get h1
  cases rv0
  refine wpAny_Call_Name_kw (thn ((pe_var (pos := p1) (i := i) hN hv hd hcd).run pinsZ sZ σZ HZ (fun v H1 => v = .ref f ∧ H1 = HZ) IZ ⟨.ref f, e0, rfl, rfl⟩) fun u s1 ⟨v, H1, I1, r1, ev, eH⟩ => ?_)
  subst ev eH
  obtain rfl : u = Value.ref f := r1
  have there : ∀ {σ' : L2.St} {H' : Hp} {s' : Shared}, Inv (cxOf (L2.CX X.prog X.w) X.prog X.w X.K X.mg X.base Ng qg sg g cdg X.A X.stack s H Eg) pinsZ σ' H' s' → s'.heap.get? f = some (PySem.W.kla_obj "<lambda>" (X.env.qual ++ "<lambda>") params body scope (cloFrom X.env.cells scope.names []) pm c' ctv) :=
    fun J => J.base.keep f _ hf hfn hfr (fun z => nomatch (show f ∈ ([] : List Addr) from z))
  refine PySem.W.callWith_F ⟨_, _, _, _, there I1⟩ (thn (ha.run p2 pinsZ s1 σZ H1 (fun vs H2 => ∃ P2 G2 ds, Le P P2 ∧ Rel C P2 G2 H2 ∧ Rvs C P2 ds vs ∧ ds.length = is.length ∧ tb (putL σ3 is ds) G2 Q E) I1
    ⟨P, σ4, G, _, E, r, s4, h, fun P2 G2 H2 ds vs l2 r2 v2 q2 => ⟨P2, G2, ds, l2, r2, v2, q2.1, q2.2⟩, ee⟩) fun us s2 ⟨vs, H2, I2, rr, P2, G2, ds, l2, r2, v2, hl, q⟩ => ⟨⟨_, _, _, _, there I2⟩, ?_⟩) he hpl
  have of2 := there I2
  have un : Un (frs X.stack) [] H H2 s.heap s2.heap := I2.base
  have hco2 : H2 c' = some (CodeO c' (X.env.qual ++ "<lambda>")) := r2.sub _ _ (r2.pb _ _ hco)
  obtain ⟨⟨oc, vsc, tc, hoc, hdc, hvc⟩, _, _⟩ := I2.hok c' _ hco2
  have lip : is.length = ps.length := by
    have := congrArg List.length L.ix
    simpa using this
  have lv : vs.length = ps.length := by rw [← v2.length, hl, lip]
  have lu : us.length = ps.length := by rw [← rr.length, lv]
  have rc : codeAny (model X.prog X.w) (X.A.deeper (envOfC qg sg s.heap.objs.size g cdg)) (.call (.ref f) ⟨us, []⟩) (CR (L2.CX X.prog X.w) (envOfC qg sg s.heap.objs.size g cdg :: X.stack) X.prog X.w H2 s2 R (WE W σZ)) s2 := by
    refine PySem.W.kla_callFunE B.hr.depth of2 rfl L.co L.gen rfl ⟨c', oc, vsc, tc, rfl, hoc, hdc, hvc⟩ ?_
    rw [hbind us lu]
    refine wpAny_pure (wpAny_newFunctionEnv (fun y hy => (L.own y hy).1) (fun y hy => L.par y.1 (List.of_mem_zip (show (y.1, y.2) ∈ ps.zip us from hy)).1) (fun h₁ hns hsb => ⟨I2.nolimit.fresh _ hsb, ?_⟩) L.kind)
    show codeAny _ _ (.expr body (lamEnv X scope s2.heap.objs.size f c')) _ _
    have kp : ∀ b o, s2.heap.get? b = some o → h₁.get? b = some o := fun b o e => hsb.extBut b o (Nat.ne_of_lt (Heap.lt_size e)) (Heap.get?_push_of_some _ e)
    have J : Inv (lamCx X (X.A.deeper (envOfC qg sg s.heap.objs.size g cdg)) (envOfC qg sg s.heap.objs.size g cdg :: X.stack) s2 H2 (WE W σZ) scope f c') [] (putL σm is vs) H2 { s2 with heap := h₁, toks := s2.toks + (ps.zip us).length } :=
      lam_in I hN0 L I2.env0 B.hr.hd un hns kp rr lv
    refine PySem.W.kla_codeExpr (wpAny_mono ((hbody _ _ s2 H2 (WE W σZ) (bd_lam hK hN0 (B.hr.deeper _) B.hg)).run [] _ _ H2 R J ⟨P2, putL σ3 is ds, G2, Q, E, r2, Rs.put is (hs3.mono r2.pb) v2, q, kk.le l2, ee.le l2⟩) (fun v s' hq => ?_) fun e s' hq => hq)
    obtain ⟨w', H', J', rv, q⟩ := hq
    exact ⟨w', H', J'.os, J'.bare, J'.base, J'.hok, rv, q⟩
  refine wpAny_call (codeAny_mono rc fun res s' hq => ?_)
  cases res with
  | error er => exact passAt B.tk σZ pinsZ H2 s2 er s' I2 hq
  | ok fl =>
    cases fl with
    | ret u => exact I2.after hq
    | next => exact (show False from hq).elim
    | brk => exact (show False from hq).elim
    | cont => exact (show False from hq).elim
/-- a def that is handed a function and calls it: its body, whatever the calls of its slot i read as -/
def Gives (C : Cn) (X : Cx) (Ng : List Str) (qg : Str) (sg : Scope) (g : Addr) (cdg : Value) (bg : List Stmt) (i k m : Nat) (tg : (TA3 → T3) → TS3) : Prop :=
  ∀ (C' : Cn) (s : Shared) (H : Hp) (E : XK) (act : TA3 → T3), C'.toCb = C.toCb → Bd C' (cxOf (L2.CX X.prog X.w) X.prog X.w X.K X.mg X.base Ng qg sg g cdg X.A X.stack s H E) (fun c d _ H' => E c d H') k →
    (∀ (e : Expr) (es : List Expr) (t : TA3) (a : Str) (p1 p2 : Pos), es.length + 1 = m → Ng[i]? = some a → PA (cxOf (L2.CX X.prog X.w) X.prog X.w X.K X.mg X.base Ng qg sg g cdg X.A X.stack s H E) (e :: es) (upA C' (fun c d _ H' => E c d H') t) →
      starEach (e :: es) (cxOf (L2.CX X.prog X.w) X.prog X.w X.K X.mg X.base Ng qg sg g cdg X.A X.stack s H E).env = (false, eval e (cxOf (L2.CX X.prog X.w) X.prog X.w X.K X.mg X.base Ng qg sg g cdg X.A X.stack s H E).env) :: starEach es (cxOf (L2.CX X.prog X.w) X.prog X.w X.K X.mg X.base Ng qg sg g cdg X.A X.stack s H E).env →
      (backTo p2 (starEach es (cxOf (L2.CX X.prog X.w) X.prog X.w X.K X.mg X.base Ng qg sg g cdg X.A X.stack s H E).env)).any (·.1) = false →
      PE (cxOf (L2.CX X.prog X.w) X.prog X.w X.K X.mg X.base Ng qg sg g cdg X.A X.stack s H E) (.Call (.Name a p1) (e :: es) [] p2) (up C' (fun c d _ H' => E c d H') (act t))) →
    PSs (cxOf (L2.CX X.prog X.w) X.prog X.w X.K X.mg X.base Ng qg sg g cdg X.A X.stack s H E) bg (upS C' (fun c d _ H' => E c d H') (tg act))
/-- x(e, lambda ..) -/
def tlam2 (Ng : List Str) (is : List Nat) (tg : (TA3 → T3) → TS3) (te tb : T3) : T3 := fun σ G Q E => te σ G (fun d G1 => ∀ f, G1 f = none → run3 (tg (tact 1 f σ is tb)) (start3 Ng [d, .ref f]) G1 Q E) E
theorem pe_lam2 {W : WX} {x : Str} {g c PT : Addr} {k : Nat} {pg : Arguments} {bg : List Stmt} {sg : Scope} {dV kV doc pmg cdg ct oc : Value} {an od : Option Addr} {osl : Array (Option Value)} {Ng pg2 ps : List Str} {is : List Nat} {params : Arguments} {body e : Expr} {scope : Scope} {te tb : T3} {tg : (TA3 → T3) → TS3} {p lpos pos : Pos}
    (B : Bd C X W (k + 3)) (hg : Gl X x) (hm : X.mg x = some (.ref g)) (hk : PySem.W.keepIn X.K (.ref g) = true) (lk : X.K.lookup g = some ⟨oc, od, .func (PySem.W.fnOf x x pg bg sg dV kV doc pmg an cdg ct), osl⟩) (hcg : PySem.W.codeIn X.K cdg x = true)
    (hb : L2.Binds X.K (PySem.W.fnOf x x pg bg sg dV kV doc pmg an cdg ct) pg2 []) (Sg : FnScope Ng pg2 sg) (hp2 : pg2.length = 2) (hv1 : ∀ a, Ng[1]? = some a → Vis sg a ∧ (a == ("__debug__" : Str)) = false ∧ (a == ("__classdict__" : Str)) = false)
    (hG : ∀ k', k' = k + 2 → Gives C X Ng x sg g cdg bg 1 k' ps.length tg)
    (TB : TabB X.base X.mg c PT) (hcode : X.env.code = .ref c) (hmT : (PT, X.env.qual ++ "<lambda>") ∈ C.T) (hu : ∀ p ∈ C.T, p.1 = PT → p.2 = X.env.qual ++ "<lambda>") (L : LamP X.N X.env.scope scope ps is) (hdef : defaultsOf params X.env = ([], []))
    (hbind : ∀ (q : Str) (cl : List (Str × Addr)) (pm cv ctv : Value) (us : List Value), us.length = ps.length → bindArgs (PySem.W.kla_fn "<lambda>" q params body scope cl pm cv ctv) ⟨us, []⟩ = pure (ps.zip us))
    (he : PE X e (up C W te))
    (hbody : ∀ (C' : Cn) (A : Around) (outer : List Env) (s : Shared) (H : Hp) (E : XK) (f c' : Addr), C'.toCb = C.toCb → Bd C' (lamCx X A outer s H E scope f c') (fun c d _ H' => E c d H') (k + 1) → PE (lamCx X A outer s H E scope f c') body (up C' (fun c d _ H' => E c d H') tb))
    (hdb : (x == ("__debug__" : Str)) = false) (hs : starEach [e, .Lambda params body scope lpos] X.env = (false, eval e X.env) :: starEach [.Lambda params body scope lpos] X.env) (hs2 : starEach [.Lambda params body scope lpos] X.env = [(false, eval (.Lambda params body scope lpos) X.env)]) (hpl : (backTo pos (starEach [.Lambda params body scope lpos] X.env)).any (·.1) = false) :
    PE X (.Call (.Name x p) [e, .Lambda params body scope lpos] [] pos) (up C W (tlam2 Ng is tg te tb)) := by
  refine ⟨fun pins s σ H R I h => ?_⟩
  obtain ⟨P, σ3, G, Q, E, r, s3, h, kk, ee⟩ := h
  refine wpAny_Call_Name_kw (ld_glob I hg hm ?_ hdb)
  refine PySem.W.callWith_K (h₀ := X.base) I.ok.mod.kin hk ?_ hs hpl
  rw [hs, hs2]
  show wpAny _ _ (spliced ((false, eval e X.env) :: backTo pos [(false, eval (.Lambda params body scope lpos) X.env)])) _ _ s
  refine Calls.spliced_cons (thn (he.run pins s σ H (fun v H1 => ∃ P1 G1 d, Le P P1 ∧ Rel C P1 G1 H1 ∧ Rv C P1 d v ∧ ∀ f, G1 f = none → run3 (tg (tact 1 f σ3 is tb)) (start3 Ng [d, .ref f]) G1 Q E) I ⟨P, σ3, G, _, E, r, s3, h, fun P1 G1 H1 d v l1 r1 v1 q1 => ⟨P1, G1, d, l1, r1, v1, q1⟩, ee⟩) fun u s1 ⟨v, H1, I1, rv, P1, G1, d, l1, r1, v1, q1⟩ => ?_)
  show wpAny _ _ (spliced ((false, eval (.Lambda params body scope lpos) X.env) :: [])) _ _ s1
  refine Calls.spliced_cons (lam_make2 I1 TB hcode hmT hu r1.tb hdef (L.has I1.ok) fun f c' pm' ctv H2 s' I2 eN T1 hf hfn hfr hco => Calls.spliced_nil ⟨I2.kIn, ?_⟩)
  obtain ⟨l3, r3⟩ := (r1.lam eN T1).known hco
  have rr : Rel ⟨C.toCb, upd P1 c' (CodeO c' (X.env.qual ++ "<lambda>"))⟩ (upd P1 c' (CodeO c' (X.env.qual ++ "<lambda>"))) G1 H2 := r3.root
  have nf : G1 f = none := by
    cases ef : G1 f with
    | none => rfl
    | some gg =>
      obtain ⟨_, o, z, _⟩ := r3.own _ _ ef
      rw [hfn] at z; cases z
  have rc : codeAny (model X.prog X.w) X.A (.call (.ref g) ⟨[u, .ref f], []⟩) (CR (L2.CX X.prog X.w) X.stack X.prog X.w H2 s' R (WE W σ)) s' := by
    refine run_ofS (N := Ng) (ps := pg2) (us := [u, .ref f]) (vs := [v, .ref f]) (k := k + 2) lk hcg Sg B.hr I2.env0 ?_ (.cons rv (.cons rfl .nil)) hp2.symm fun hr' => ?_
    · have := hb s' [u, .ref f] I2.kIn (by rw [hp2]; rfl)
      rw [List.append_nil] at this
      exact this
    · have Bg : Bd ⟨C.toCb, upd P1 c' (CodeO c' (X.env.qual ++ "<lambda>"))⟩ (cxOf (L2.CX X.prog X.w) X.prog X.w X.K X.mg X.base Ng x sg g cdg X.A X.stack s' H2 (WE W σ)) (fun c d _ H' => (WE W σ) c d H') (k + 2) :=
        ⟨B.hK, rfl, Sg.nd, hr', guards_deeper B.hg, takes_of rfl rfl rfl rfl, passes_of rfl⟩
      refine ⟨_, hG _ rfl ⟨C.toCb, upd P1 c' (CodeO c' (X.env.qual ++ "<lambda>"))⟩ s' H2 (WE W σ) (tact 1 f σ3 is tb) rfl Bg fun e2 es2 t2 a p1 p2 hlen ha ht he2 hpl2 => ?_, ?_⟩
      · obtain ⟨w1, w2, w3⟩ := hv1 a ha
        exact pe_act3 I2 B.hN B.hK L ((s3.mono (l1.trans l3))) upd_same hf hfn hfr (fun us hus => hbind _ _ _ _ _ us hus) Bg (fun A outer s H E hB => hbody _ A outer s H E f c' rfl hB) ht ha w1 w2 w3 he2 hpl2
      · refine ⟨_, start3 Ng [d, .ref f], G1, _, _, rr, Rs.start (.cons (v1.mono l3) (.cons (.ref f) .nil)), q1 f nf, ?_, ?_, ?_, ?_, ?_⟩
        · exact fun P' G' H' σ' τ' l r' _ q => (kk.le (l1.trans l3)).rt r3 P' G' H' .non .non l r' .non q
        · exact (kk.le (l1.trans l3)).rt r3
        · exact fun P' G' H' σ' τ' l r' _ q => q.elim
        · exact fun P' G' H' σ' τ' l r' _ q => q.elim
        · exact fun P' G' H' σ' τ' x c d l r' _ xr q => (ee.le (l1.trans l3)).rt r3 P' G' H' x c d l r' xr q
  refine wpAny_call (codeAny_mono rc fun res s2 hq => ?_)
  cases res with
  | error er => exact passAt B.tk σ pins H2 s' er s2 I2 hq
  | ok fl =>
    cases fl with
    | ret u => exact I2.after hq
    | next => exact (show False from hq).elim
    | brk => exact (show False from hq).elim
    | cont => exact (show False from hq).elim
/-- the same, the def told as the head tells it -/
theorem pe_lam3 {W : WX} {x : Str} {g c PT : Addr} {k : Nat} {pg : Arguments} {bg : List Stmt} {sg : Scope} {fd : FuncData} {Ng pg2 ps : List Str} {is : List Nat} {params : Arguments} {body e : Expr} {scope : Scope} {te tb : T3} {tg : (TA3 → T3) → TS3} {p lpos pos : Pos}
    (B : Bd C X W (k + 3)) (hg : Gl X x) (hm : X.mg x = some (.ref g)) (F : FunD X.K x x pg bg sg [] [] g fd) (hb : L2.Binds X.K fd pg2 []) (Sg : FnScope Ng pg2 sg) (hp2 : pg2.length = 2) (hv1 : ∀ a, Ng[1]? = some a → Vis sg a ∧ (a == ("__debug__" : Str)) = false ∧ (a == ("__classdict__" : Str)) = false)
    (hG : ∀ cdg, Gives C X Ng x sg g cdg bg 1 (k + 2) ps.length tg)
    (TB : TabB X.base X.mg c PT) (hcode : X.env.code = .ref c) (hmT : (PT, X.env.qual ++ "<lambda>") ∈ C.T) (hu : ∀ p ∈ C.T, p.1 = PT → p.2 = X.env.qual ++ "<lambda>") (L : LamP X.N X.env.scope scope ps is) (hdef : defaultsOf params X.env = ([], []))
    (hbind : ∀ (q : Str) (cl : List (Str × Addr)) (pm cv ctv : Value) (us : List Value), us.length = ps.length → bindArgs (PySem.W.kla_fn "<lambda>" q params body scope cl pm cv ctv) ⟨us, []⟩ = pure (ps.zip us))
    (he : PE X e (up C W te))
    (hbody : ∀ (C' : Cn) (A : Around) (outer : List Env) (s : Shared) (H : Hp) (E : XK) (f c' : Addr), C'.toCb = C.toCb → Bd C' (lamCx X A outer s H E scope f c') (fun c d _ H' => E c d H') (k + 1) → PE (lamCx X A outer s H E scope f c') body (up C' (fun c d _ H' => E c d H') tb))
    (hdb : (x == ("__debug__" : Str)) = false) (hs : starEach [e, .Lambda params body scope lpos] X.env = (false, eval e X.env) :: starEach [.Lambda params body scope lpos] X.env) (hs2 : starEach [.Lambda params body scope lpos] X.env = [(false, eval (.Lambda params body scope lpos) X.env)]) (hpl : (backTo pos (starEach [.Lambda params body scope lpos] X.env)).any (·.1) = false) :
    PE X (.Call (.Name x p) [e, .Lambda params body scope lpos] [] pos) (up C W (tlam2 Ng is tg te tb)) := by
  obtain ⟨oc, od, dV, kV, doc, pm, an, cdv, ct, osl, rfl, lk, hcd, hD, _⟩ := id F.ex
  rcases hD with ⟨_, rfl⟩ | ⟨z, _⟩
  · exact pe_lam2 B hg hm F.kp lk hcd hb Sg hp2 hv1 (fun k' e => by subst e; exact hG cdv) TB hcode hmT hu L hdef hbind he hbody hdb hs hs2 hpl
  · exact absurd rfl z
end
end V3
set_option Elab.async false
set_option linter.all false
set_option maxRecDepth 100000
set_option maxHeartbeats 4000000
/-! V18: a law's end: the promise of its def over trees, at the heap behind the top. -/
namespace V3
open PySem PySem.Spec L2 PyProof.Rows LamX
/-- what is tracked as the law begins: the script (where the text does not know it already), the tables of code objects, all empty -/
def H00 (K : PySem.W.Frag) (a : Addr) (so : Obj) (xs : List V) (T : List Addr) : Hp := fun b => if b = a ∧ (K.lookup a).isNone = true then some (.frz so (.lst xs)) else if b ∈ T then some (.tbl #[]) else none
/-- the heap behind the top -/
structure Top (K : PySem.W.Frag) (mg mb : Str → Option Value) (s : Shared) (cs : List (Addr × Addr)) (a : Addr) (vs : List Value) (ns : List Int) : Prop where
  kx : K.In s.heap
  ns_ : s.heap.Ns mainGlobals mg
  nb : s.heap.Ns builtinsNs mb
  bb : ∀ x : Str, x ≠ "__name__" → mb x = bootBuiltins x
  lim : s.heap.NoLimit
  gens : s.gens = #[]
  hT : ∀ p ∈ cs, s.heap.get? p.2 = some { cls := .none, data := .fields #[] }
  nT : ∀ p ∈ cs, K.lookup p.2 = none
  code : ∀ p ∈ cs, PySem.W.CodeHd s.heap p.1 p.2
  bm : ∃ (bm : Addr) (ob : Obj), mg "__builtins__" = some (.ref bm) ∧ bm ≠ builtinsNs ∧ s.heap.get? bm = some ob ∧ ob.cls = .type "module" ∧ ob.dict = some builtinsNs ∧ ob.data = .plain
  ha : s.heap.get? a = some { cls := .type "list", data := .seq vs.toArray }
  hi : IntsAre vs ns
  hl : ns.length ≤ sizeLine
section
variable {P : Program} {w : World} {K : PySem.W.Frag} {mg mb : Str → Option Value} {s : Shared} {cs : List (Addr × Addr)} {a : Addr} {vs : List Value} {ns : List Int}
abbrev sob (vs : List Value) : Obj := { cls := .type "list", data := .seq vs.toArray }
theorem Top.aT (t : Top K mg mb s cs a vs ns) : a ∉ cs.map (·.2) := fun z => by
  obtain ⟨p, hp, e⟩ := List.mem_map.mp z
  have h1 := t.hT p hp
  rw [e, t.ha] at h1
  exact nomatch (congrArg Obj.data (Option.some.inj h1) : Data.seq _ _ = Data.fields _)
/-- three kinds of addresses -/
theorem Top.cases (t : Top K mg mb s cs a vs ns) (b : Addr) : (b = a ∧ (K.lookup a).isNone = true ∧ H00 K a (sob vs) (ns.map V.int) (cs.map (·.2)) b = some (.frz (sob vs) (.lst (ns.map V.int)))) ∨
    (b ∈ cs.map (·.2) ∧ s.heap.get? b = some { cls := .none, data := .fields #[] } ∧ H00 K a (sob vs) (ns.map V.int) (cs.map (·.2)) b = some (.tbl #[])) ∨ H00 K a (sob vs) (ns.map V.int) (cs.map (·.2)) b = none := by
  unfold H00
  by_cases h1 : b = a ∧ (K.lookup a).isNone = true
  · exact .inl ⟨h1.1, h1.2, if_pos h1⟩
  · by_cases h2 : b ∈ cs.map (·.2)
    · obtain ⟨p, hp, e⟩ := List.mem_map.mp h2
      exact .inr (.inl ⟨h2, by rw [← e]; exact t.hT p hp, by rw [if_neg h1, if_pos h2]⟩)
    · exact .inr (.inr (by rw [if_neg h1, if_neg h2]))
theorem Top.tb (t : Top K mg mb s cs a vs ns) {p : Addr × Addr} (hp : p ∈ cs) : H00 K a (sob vs) (ns.map V.int) (cs.map (·.2)) p.2 = some (.tbl #[]) := by
  have hm : p.2 ∈ cs.map (·.2) := List.mem_map.mpr ⟨p, hp, rfl⟩
  unfold H00
  rw [if_neg (fun z => t.aT (by rw [← z.1]; exact hm)), if_pos hm]
theorem Top.seq (t : Top K mg mb s cs a vs ns) : SqL K (H00 K a (sob vs) (ns.map V.int) (cs.map (·.2))) a (ns.map V.int) := by
  cases hk : K.lookup a with
  | none => exact .inl (.inr ⟨sob vs, by unfold H00; exact if_pos ⟨rfl, by rw [hk]; rfl⟩⟩)
  | some o =>
    have e := t.kx a o hk
    rw [t.ha] at e
    cases e
    exact .inr ⟨sob vs, vs.toArray, _, hk, rfl, rfl, rfl, by rw [List.size_toArray, t.hi.length]; exact t.hl, by simpa using vals_ints t.hi⟩
theorem Top.hok (t : Top K mg mb s cs a vs ns) : HOk P w (H00 K a (sob vs) (ns.map V.int) (cs.map (·.2))) s.heap := fun b u e => by
  rcases t.cases b with ⟨e1, _, e2⟩ | ⟨_, e1, e2⟩ | e2
  · rw [e2] at e
    cases e
    subst e1
    exact ⟨t.ha, by rw [List.length_map]; exact t.hl, vs, _, vals_ints t.hi, t.ha⟩
  · rw [e2] at e
    cases e
    exact e1
  · rw [e2] at e; cases e
/-- what else there is, is in the base -/
theorem Top.base (t : Top K mg mb s cs a vs ns) {b : Addr} {o : Obj} (e : s.heap.get? b = some o) (h1 : ∀ xs n, o.data ≠ .seq xs n) (h2 : o.data ≠ .fields #[]) : (hidT s.heap (H00 K a (sob vs) (ns.map V.int) (cs.map (·.2)))).get? b = some o := by
  refine hidT_get e ?_
  rcases t.cases b with ⟨e1, _, _⟩ | ⟨_, e1, _⟩ | e2
  · subst e1
    rw [t.ha] at e
    cases e
    exact absurd rfl (h1 _ _)
  · rw [e1] at e
    cases e
    exact absurd rfl h2
  · exact e2
theorem Top.baseNs (t : Top K mg mb s cs a vs ns) {b : Addr} {m : Str → Option Value} (h : s.heap.Ns b m) : (hidT s.heap (H00 K a (sob vs) (ns.map V.int) (cs.map (·.2)))).Ns b m := by
  obtain ⟨o, es, ep, e, d, r⟩ := h
  exact ⟨o, es, ep, t.base e (fun _ _ z => by rw [d] at z; cases z) (fun z => by rw [d] at z; cases z), d, r⟩
theorem Top.kin (t : Top K mg mb s cs a vs ns) : K.In (hidT s.heap (H00 K a (sob vs) (ns.map V.int) (cs.map (·.2)))) := fun b o e => by
  refine hidT_get (t.kx b o e) ?_
  rcases t.cases b with ⟨e1, e2, _⟩ | ⟨e1, _, _⟩ | e2
  · subst e1
    rw [e] at e2; cases e2
  · obtain ⟨p, hp, ep⟩ := List.mem_map.mp e1
    rw [← ep, t.nT p hp] at e; cases e
  · exact e2
theorem Top.tabB (t : Top K mg mb s cs a vs ns) {p : Addr × Addr} (hp : p ∈ cs) : TabB (hidT s.heap (H00 K a (sob vs) (ns.map V.int) (cs.map (·.2)))) mg p.1 p.2 := by
  refine ⟨?_, ?_, fun z => ?_⟩
  · obtain ⟨o, us, fl, tf, flg, tg, inF, tx, tt, e1, r1, r2, r3, r⟩ := t.code p hp
    refine ⟨o, us, fl, tf, flg, tg, inF, tx, tt, t.base e1 (fun _ _ z => by rw [r2] at z; cases z) (fun z => ?_), r1, r2, r3, r⟩
    rw [r2] at z
    cases z
    simp at r3
  · obtain ⟨bm, ob, b1, b2, b3, b4, b5, b6⟩ := t.bm
    refine ⟨bm, ob, b1, b2, fun q => ?_, fun q => ?_, t.base b3 (fun _ _ z => by rw [b6] at z; cases z) (fun z => by rw [b6] at z; cases z), b4, b5, b6⟩
    · obtain ⟨o, es, ep, e, hd, _⟩ := t.ns_
      rw [q, e] at b3
      cases b3
      rw [hd] at b6; cases b6
    · rw [q, t.hT p hp] at b3
      cases b3
      cases b6
  · obtain ⟨o, es, ep, e, hd, _⟩ := t.ns_
    rw [z, t.hT p hp] at e
    cases e
    cases hd
theorem law_end {k : Nat} {fa : Addr} {fd : FuncData} {x : Str} {sp : Sp} (t : Top K mg mb s cs a vs ns) (hr : Room k callerA) (F : FnG P w K mg (hidT s.heap (H00 K a (sob vs) (ns.map V.int) (cs.map (·.2)))) k fa fd [x] sp) (hb : ∀ (s : Shared) (u : Value), BindsTo s fd ⟨[u], []⟩ [(x, u)])
    (hsp : sp [.ref a] (H00 K a (sob vs) (ns.map V.int) (cs.map (·.2))) (fun v _ => v = .bl true) fun _ _ _ => False) :
    codeAny (model P w) callerA (.call (.ref fa) ⟨[.ref a], []⟩) (fun r s' => r = .ok (.ret (.bool true)) ∧ OldK s.heap s'.heap ∧ s'.os = s.os ∧ AllBare s'.gens) s := by
  have e0 : Env0 P w K mg (hidT s.heap (H00 K a (sob vs) (ns.map V.int) (cs.map (·.2)))) callerA [] s (H00 K a (sob vs) (ns.map V.int) (cs.map (·.2))) := by
    refine ⟨rfl, ⟨t.kin, t.baseNs t.ns_, ⟨mb, t.baseNs t.nb, t.bb⟩, ?_⟩, fun b o e => of_hidT e, Nat.le_of_eq (hidT_size _ _), trivial, (fun b hb => nomatch (show b ∈ ([] : List Addr) from hb)), t.hok, .of_eq t.gens⟩
    obtain ⟨mc, l1, l2⟩ := t.lim
    exact ⟨mc, t.baseNs l1, l2⟩
  refine codeAny_mono (F.go callerA [] s _ ⟨[.ref a], []⟩ [.ref a] [.ref a] _ _ hr rfl e0 (hb s (.ref a)) (.cons rfl .nil) hsp) fun r s' h => ?_
  cases r with
  | error e =>
    obtain ⟨_, _, _, _, _, _, _, _, _, _, _, _, z⟩ := (show L2.CX P w [] _ s (fun _ _ _ => False) e s' from h)
    exact z.elim
  | ok fl =>
    cases fl with
    | next => exact (show False from h).elim
    | brk => exact (show False from h).elim
    | cont => exact (show False from h).elim
    | ret u =>
      obtain ⟨v, H', os, bare, un, hok', r', q⟩ := h
      have q' : v = .bl true := q
      subst q'
      obtain rfl : u = Value.bool true := r'
      have kept : ∀ b o, s.heap.get? b = some o → (s'.heap.get? b = some o) ∨ (b ∈ cs.map (·.2) ∧ ∃ more : Array Value, s'.heap.get? b = some { cls := .none, data := .fields more }) := fun b o e => by
        rcases t.cases b with ⟨_, _, e2⟩ | ⟨e1, _, e2⟩ | e2
        · obtain ⟨z1, _⟩ := t.hok (P := P) (w := w) b _ e2
          obtain ⟨z2, _⟩ := hok' b _ (un.frzs b _ _ e2)
          rw [e] at z1
          cases z1
          exact .inl z2
        · obtain ⟨more, z⟩ := un.tbls b #[] e2
          exact .inr ⟨e1, _, hok' b _ z⟩
        · exact .inl (un.keep b o e e2 (fun z => nomatch (show b ∈ ([] : List Addr) from z)) (fun z => nomatch (show b ∈ ([] : List Addr) from z)))
      refine ⟨rfl, ⟨fun b o e => ?_, fun b o e => ?_⟩, os, bare⟩
      · rcases kept b o e with z | ⟨z, more, z2⟩
        · exact .inl z
        · obtain ⟨p, hp, ep⟩ := List.mem_map.mp z
          rw [← ep] at e z2 ⊢
          have hTp := t.hT p hp
          rw [hTp] at e
          cases e
          exact .inr (.inl ⟨((t.code p hp).tab hTp).isCodeTable, rfl, #[], more, rfl, by rw [Array.empty_append]; exact z2⟩)
      · rcases kept b o e with z | ⟨_, more, z⟩
        · exact ⟨o, z⟩
        · exact ⟨_, z⟩
/-- what is tracked at the beginning, as standing -/
def P00 (K : PySem.W.Frag) (a : Addr) (so : Obj) (xs : List V) : Hp := fun b => if b = a ∧ (K.lookup a).isNone = true then some (.frz so (.lst xs)) else none
/-- a law by its def's promise over trees -/
theorem law_tree {k : Nat} {fa : Addr} {fd : FuncData} {x : Str} {f : F3} {C : Cn} (t : Top K mg mb s cs a vs ns) (hK : K = C.K) (hT : ∀ p ∈ C.T, ∃ q ∈ cs, q.2 = p.1) (hr : Room k callerA) (F : FnG P w K mg (hidT s.heap (H00 K a (sob vs) (ns.map V.int) (cs.map (·.2)))) k fa fd [x] (upF C 1 f))
    (hb : ∀ (s : Shared) (u : Value), BindsTo s fd ⟨[u], []⟩ [(x, u)]) (h : f [.rol (ns.map D.int)] (fun _ => none) (fun d _ => d = .bl true) (fun _ _ => False)) :
    codeAny (model P w) callerA (.call (.ref fa) ⟨[.ref a], []⟩) (fun r s' => r = .ok (.ret (.bool true)) ∧ OldK s.heap s'.heap ∧ s'.os = s.os ∧ AllBare s'.gens) s := by
  refine law_end t hr F hb ⟨P00 K a (sob vs) (ns.map V.int), fun _ => none, [.rol (ns.map D.int)], _, _, ?_, .cons ?_ .nil, rfl, h, ?_, ?_⟩
  · refine ⟨fun b o e => ?_, (fun b g e => nomatch e), fun p hp => ?_, fun b ps e => ?_, (fun _ _ z => nomatch z)⟩
    · unfold P00 at e
      unfold H00
      split at e
      · rename_i hc
        rw [if_pos hc]; exact e
      · cases e
    · obtain ⟨q, hq, e⟩ := hT p hp
      rw [← e]
      exact TabS.nil (t.tb hq)
    · unfold P00 at e
      split at e <;> cases e
  · refine .rol ?_ (Rvs.ints ns)
    rw [← hK]
    rcases t.seq with (z | ⟨o, z⟩) | z
    · exfalso
      rcases t.cases a with ⟨_, _, e⟩ | ⟨e, _, _⟩ | e
      · rw [e] at z; cases z
      · exact t.aT e
      · rw [e] at z; cases z
    · refine .inl (.inr ⟨sob vs, ?_⟩)
      unfold P00
      rcases t.cases a with ⟨_, e, _⟩ | ⟨e, _, _⟩ | e
      · exact if_pos ⟨rfl, e⟩
      · exact absurd e t.aT
      · rw [e] at z; cases z
    · exact .inr z
  · intro P' G' H' d v _ _ rv q
    subst q
    cases rv
    rfl
  · exact fun _ _ _ _ _ _ _ _ _ q => q.elim
end
end V3
set_option Elab.async false
set_option linter.all false
set_option maxRecDepth 100000
set_option maxHeartbeats 4000000
/-! V19: constants of the module: numbers, texts, a dict with text keys. -/
namespace V3
open PySem PySem.Spec L2 PyProof.Rows
/-- a dict of the module, never written, its keys texts, its values flat -/
structure KTab (K : PySem.W.Frag) (w : World) (a : Addr) (kvs : List (Str × D)) : Prop where
  kd : ∃ es n, KDict K w a es n
  get : ∀ z, (∀ d, kvs.lookup z = some d → ∃ u v, PySem.W.nsIn K a z = some (some u) ∧ RelV v u ∧ ∀ (C : Cb) (P : Hp), Rv C P d v) ∧ (kvs.lookup z = none → PySem.W.nsIn K a z = some none)
section
variable {C : Cn} {X : Cx} {W : WX} {k : Nat} {e : Expr} {te : T3} {x : Str} {a : Addr} {kvs : List (Str × D)} {p pos : Pos}
def kinV (kvs : List (Str × D)) (neg : Bool) : D → Gp → K3 → Prop := fun x G Q => ∃ z, x = .str z ∧ Q (.bl ((kvs.lookup z).isSome != neg)) G
theorem pe_kin3 (T : KTab X.K X.w a kvs) (he : PE X e (up C W te)) (hg : Gl X x) (hm : X.mg x = some (.ref a)) (hd : (x == ("__debug__" : Str)) = false) (hb : behindInMarks .In (.Name x p) = false) : PE X (.Compare e [.In] [.Name x p] pos) (up C W (t1 (kinV kvs false) te)) := by
  obtain ⟨es, n, kd⟩ := T.kd
  refine PEw (pe_cmpR (op_in_kd kd) he (pe_glob (v := .ref a) hg hm rfl hd) hb) fun τ H R h => ?_
  obtain ⟨P, σ, G, Q, E, r, s, h, k, ee⟩ := h
  refine up_go r s h (fun P1 G1 H1 y v l1 r1 v1 ⟨z, e1, q1⟩ => ?_) ee
  subst e1
  cases v1
  cases el : kvs.lookup z with
  | none =>
    rw [el] at q1
    exact ⟨z, none, rfl, rfl, (T.get z).2 el, k P1 G1 H1 _ _ l1 r1 (.bl _) q1⟩
  | some d =>
    rw [el] at q1
    obtain ⟨u, v, h1, _⟩ := (T.get z).1 d el
    exact ⟨z, some u, rfl, rfl, h1, k P1 G1 H1 _ _ l1 r1 (.bl _) q1⟩
theorem pe_knin3 (T : KTab X.K X.w a kvs) (he : PE X e (up C W te)) (hg : Gl X x) (hm : X.mg x = some (.ref a)) (hd : (x == ("__debug__" : Str)) = false) (hb : behindInMarks .NotIn (.Name x p) = false) : PE X (.Compare e [.NotIn] [.Name x p] pos) (up C W (t1 (kinV kvs true) te)) := by
  obtain ⟨es, n, kd⟩ := T.kd
  refine PEw (pe_cmpR (op_notIn_kd kd) he (pe_glob (v := .ref a) hg hm rfl hd) hb) fun τ H R h => ?_
  obtain ⟨P, σ, G, Q, E, r, s, h, k, ee⟩ := h
  refine up_go r s h (fun P1 G1 H1 y v l1 r1 v1 ⟨z, e1, q1⟩ => ?_) ee
  subst e1
  cases v1
  cases el : kvs.lookup z with
  | none =>
    rw [el] at q1
    exact ⟨z, none, rfl, rfl, (T.get z).2 el, k P1 G1 H1 _ _ l1 r1 (.bl _) q1⟩
  | some d =>
    rw [el] at q1
    obtain ⟨u, v, h1, _⟩ := (T.get z).1 d el
    exact ⟨z, some u, rfl, rfl, h1, k P1 G1 H1 _ _ l1 r1 (.bl _) q1⟩
def kixV (kvs : List (Str × D)) : D → Gp → K3 → Prop := fun x G Q => ∃ z d, x = .str z ∧ kvs.lookup z = some d ∧ Q d G
theorem pe_kix3 (T : KTab X.K X.w a kvs) (he : PE X e (up C W te)) (hg : Gl X x) (hm : X.mg x = some (.ref a)) (hd : (x == ("__debug__" : Str)) = false) (hs : NoSl e) : PE X (.Subscript (.Name x p) e pos) (up C W (t1 (kixV kvs) te)) := by
  obtain ⟨es, n, kd⟩ := T.kd
  refine ⟨fun pins s σ H R I h => ?_⟩
  refine subD_of PySem.F.slot_dict_getitem.lookup hs (thn ((pe_glob (v := .ref a) (pos := p) hg hm rfl hd).run pins s σ H (fun v H1 => v = .ref a ∧ H1 = H) I ⟨rfl, rfl⟩) fun u s1 ⟨v, H1, I1, r1, ev, eH⟩ => ?_)
  subst ev eH
  obtain rfl : u = Value.ref a := r1
  refine thn (he.run pins s1 σ H1 (fun y H2 => ∃ z u0 v0, y = .str z ∧ PySem.W.nsIn X.K a z = some (some u0) ∧ RelV v0 u0 ∧ R v0 H2) I1 ?_) fun iv s2 ⟨y, H2, I2, r2, z, u0, v0, ey, e1, e2, q⟩ => ⟨kd_type kd I2, ?_⟩
  · obtain ⟨P, σ3, G, Q, E, r, s3, h, kk, ee⟩ := h
    refine up_go r s3 h (fun P1 G1 H1 y v l1 r1 v1 ⟨z, d, e1, e2, q1⟩ => ?_) ee
    subst e1
    cases v1
    obtain ⟨u0, v0, h1, h2, h3⟩ := (T.get z).1 d e2
    exact ⟨z, u0, v0, rfl, h1, h2, kk P1 G1 H1 _ _ l1 r1 (h3 _ _) q1⟩
  · exact op_item_kd kd pins s2 σ H2 (.ref a) y (.ref a) iv R I2 rfl r2 ⟨z, u0, v0, rfl, ey, e1, e2, q⟩
/-- the facts from the head's -/
theorem nsIn_none {K : PySem.W.Frag} {w : World} {a : Addr} {ks : List Str} {z : Str} (h : He.dicW K a = some (He.keysIn w.params ks)) (hz : z ∉ ks) : PySem.W.nsIn K a z = some none := by
  obtain ⟨es, n, kd⟩ := He.dicW_ok h
  have e1 : es.toList.map He.keyOf = He.keysIn w.params ks := by
    unfold He.dicW at h
    rw [kd.at_] at h
    simp only [kd.low, decide_true, Bool.true_and, Bool.not_false, Bool.and_true] at h
    exact Option.some.inj h
  unfold PySem.W.nsIn
  rw [kd.at_]
  simp only
  have nokey : ∀ e ∈ es.toList, ∃ x t, e.key = .str x t ∧ x ∈ ks := fun e he => by
    have hm : He.keyOf e ∈ He.keysIn w.params ks := by rw [← e1]; exact List.mem_map.mpr ⟨e, he, rfl⟩
    unfold He.keysIn at hm
    obtain ⟨x, hx, ex⟩ := List.mem_map.mp hm
    unfold He.keyOf at ex
    split at ex
    · rename_i y t q
      have h2 := (Prod.mk.inj (Option.some.inj ex)).1
      exact ⟨y, t, q, h2 ▸ hx⟩
    · cases ex
  have f1 : es.toList.find? (fun e => e.key.isStr z) = none := List.find?_eq_none.mpr fun e he => by
    obtain ⟨x, t, ex, hx⟩ := nokey e he
    rw [ex]
    intro hq
    have : x = z := by simpa [Value.isStr] using hq
    exact hz (this ▸ hx)
  have f2 : es.toList.any (fun e => e.refKey) = false := List.any_eq_false.mpr fun e he => by
    obtain ⟨x, t, ex, hx⟩ := nokey e he
    simp [DictEntry.refKey, ex]
  rw [f1, f2]
  rfl
end
end V3
set_option Elab.async false
set_option linter.all false
set_option maxRecDepth 100000
set_option maxHeartbeats 4000000
/-! V20: short forms for printed proofs. -/
namespace V3
open PySem PySem.Spec L2 PyProof.Rows
/-- attribute names by number: a table, then names that no text has -/
def attOf (T : List Str) (n : Nat) : Str := match T[n]? with
  | some s => s
  | none => ⟨Array.replicate (200 + n) 63⟩
theorem attOf_inj {T : List Str} (nd : T.Nodup) (hs : ∀ s ∈ T, s.cps.size < 200) (j k : Nat) (h : attOf T j = attOf T k) : j = k := by
  unfold attOf at h
  cases ej : T[j]? with
  | none =>
    cases ek : T[k]? with
    | none =>
      rw [ej, ek] at h
      have := congrArg (fun s : Str => s.cps.size) h
      simp at this
      exact this
    | some s =>
      rw [ej, ek] at h
      have := congrArg (fun s : Str => s.cps.size) h
      have hl := hs s (List.mem_of_getElem? ek)
      simp at this
      omega
  | some s =>
    cases ek : T[k]? with
    | none =>
      rw [ej, ek] at h
      have := congrArg (fun s : Str => s.cps.size) h
      have hl := hs s (List.mem_of_getElem? ej)
      simp at this
      omega
    | some s' =>
      rw [ej, ek] at h
      have h : s = s' := h
      subst h
      obtain ⟨lj, gj⟩ := List.getElem?_eq_some_iff.mp ej
      obtain ⟨lk, gk⟩ := List.getElem?_eq_some_iff.mp ek
      rcases Nat.lt_trichotomy j k with z | z | z
      · exact absurd (gj.trans gk.symm) (List.pairwise_iff_getElem.mp nd j k lj lk z)
      · exact z
      · exact absurd (gk.trans gj.symm) (List.pairwise_iff_getElem.mp nd k j lk lj z)
section
variable {C : Cn} {X : Cx} {W : WX} {k n : Nat} {e : Expr} {es : List Expr} {ta : T3} {t : TA3} {tt : TT3} {p pos : Pos} {j : Nat}
theorem c_int {i : Int} : PE X (.Constant (.int i) j pos) (up C W (tcon (.int i))) := pe_con pe_int fun _ => .int i
theorem c_str {x : Str} : PE X (.Constant (.str x) j pos) (up C W (tcon (.str x))) := pe_con pe_str fun _ => .str x
theorem c_bl {b : Bool} : PE X (.Constant (.bool b) j pos) (up C W (tcon (.bl b))) := pe_con pe_bl fun _ => .bl b
theorem c_non : PE X (.Constant .none j pos) (up C W (tcon .non)) := pe_con pe_non fun _ => .non
theorem g_int {x : Str} {i : Int} (hm : ∃ t, X.mg x = some (.int i t)) (hg : Gl X x) (hd : (x == ("__debug__" : Str)) = false) : PE X (.Name x pos) (up C W (tcon (.int i))) := by
  obtain ⟨t, hm⟩ := hm
  exact pe_con (v := .int i) (pe_glob hg hm ⟨t, rfl⟩ hd) fun _ => .int i
theorem g_str {x z : Str} (hm : ∃ t, X.mg x = some (.str z t)) (hg : Gl X x) (hd : (x == ("__debug__" : Str)) = false) : PE X (.Name x pos) (up C W (tcon (.str z))) := by
  obtain ⟨t, hm⟩ := hm
  exact pe_con (v := .str z) (pe_glob hg hm ⟨t, rfl⟩ hd) fun _ => .str z
/-- {}: w, it is a cell -/
def tdict0 (w : Bool) : T3 := fun _ G Q _ => newD w [] G Q
theorem pe_dict03 {w : Bool} : PE X (.Dict [] [] pos) (up C W (tdict0 w)) := PEw pe_dnewK fun τ H R h => by
  obtain ⟨P, σ, G, Q, E, r, s, h, k, e⟩ := h
  exact newD_ok r .nil h k
theorem pe_one3 {op : BoolOp} (ha : PE X e (up C W ta)) (h : ∀ {t : TE}, PE X e t → PE X (.BoolOp op [e] pos) t) : PE X (.BoolOp op [e] pos) (up C W ta) := h ha
/-- a def with its promise and its bindings: ar, the defaults that fill up, one list an arity -/
def Dok (P : Program) (w : World) (K : PySem.W.Frag) (mg : Str → Option Value) (base : Heap) (C : Cn) (k : Nat) (a : Addr) (ps : List Str) (n : Nat) (f : F3) (ar : List (List D)) : Prop :=
  ∃ fd, FnG P w K mg base k a fd ps (upF C n f) ∧ PySem.W.keepIn K (.ref a) = true ∧ ∀ dd ∈ ar, ∃ dvs dus, Vals dvs dus ∧ (∀ P : Hp, Rvs C P dd dvs) ∧ Binds K fd ps dus
theorem upF_toCb {C C' : Cn} (h : C'.toCb = C.toCb) {n : Nat} {f : F3} : upF C' n f = upF C n f := by
  have : C'.b0 = C.b0 := by unfold Cn.b0; rw [h]
  unfold upF
  rw [this, h]
theorem Dok.of {P : Program} {w : World} {K : PySem.W.Frag} {mg : Str → Option Value} {base : Heap} {C C' : Cn} (h : C'.toCb = C.toCb) {k : Nat} {a : Addr} {ps : List Str} {n : Nat} {f : F3} {ar : List (List D)} (d : Dok P w K mg base C k a ps n f ar) : Dok P w K mg base C' k a ps n f ar := by
  obtain ⟨fd, h1, h2, h3⟩ := d
  exact ⟨fd, by rw [upF_toCb h]; exact h1, h2, by rw [h]; exact h3⟩
theorem c_call {a : Addr} {ps : List Str} {f : F3} {ar : List (List D)} {dd : List D} {x : Str} {kf : Nat} (d : Dok X.prog X.w X.K X.mg X.base C kf a ps n f ar) (B : Bd C X W k) (hk : kf ≤ k) (hdd : dd ∈ ar) (hm : X.mg x = some (.ref a)) (hg : Gl X x) (ha : PA X (e :: es) (upA C W t)) (hdb : (x == ("__debug__" : Str)) = false)
    (he : starEach (e :: es) X.env = (false, eval e X.env) :: starEach es X.env) (hpl : (backTo pos (starEach es X.env)).any (·.1) = false) : PE X (.Call (.Name x p) (e :: es) [] pos) (up C W (tcf n f dd t)) := by
  obtain ⟨fd, h1, h2, h3⟩ := d
  obtain ⟨dvs, dus, v1, v2, v3⟩ := h3 dd hdd
  exact pe_call3 (h1.mono hk) B hg hm h2 v3 v1 v2 ha hdb he hpl
theorem c_meth {a : Addr} {ps : List Str} {f : F3} {ar : List (List D)} {dd : List D} {c jm : Nat} {m : Str} {kf : Nat} {o : Expr} {apos : Pos} {pl : Sem Bool} (d : Dok X.prog X.w X.K X.mg X.base C kf a ps n f ar) (B : Bd C X W k) (hk : kf ≤ k) (hdd : dd ∈ ar) (hi : AttInj C) (hj : C.att jm = m) (cl : Cls C.K (C.cls c)) (hm : Meth C.K (C.cls c) m a)
    (ho : PE X o (up C W ta)) (ha : PA X (e :: es) (upA C W t)) (hst : starEach (e :: es) X.env = (false, eval e X.env) :: starEach es X.env) (hpl : (backTo pos (starEach es X.env)).any (·.1) = false)
    (ht : eval (.Call (.Attribute o m apos) (e :: es) [] pos) X.env = (do
      let ov ← eval o X.env
      standAt apos.atName
      let (g, first) ← holding [ov] (getMethod ov m pl)
      callWith pos g first (backTo pos (starEach (e :: es) X.env)) (backToKw pos (keywordEach [] X.env)))) : PE X (.Call (.Attribute o m apos) (e :: es) [] pos) (up C W (tmeth c jm n f dd ta t)) := by
  obtain ⟨fd, h1, h2, h3⟩ := d
  obtain ⟨dvs, dus, v1, v2, v3⟩ := h3 dd hdd
  exact pe_meth3 B hi hj ho cl hm (h1.mono hk) v3 v1 v2 ha hst hpl ht
theorem c_meth0 {a : Addr} {ps : List Str} {f : F3} {ar : List (List D)} {dd : List D} {c jm : Nat} {m : Str} {kf : Nat} {o : Expr} {apos : Pos} {pl : Sem Bool} (d : Dok X.prog X.w X.K X.mg X.base C kf a ps n f ar) (B : Bd C X W k) (hk : kf ≤ k) (hdd : dd ∈ ar) (hi : AttInj C) (hj : C.att jm = m) (cl : Cls C.K (C.cls c)) (hm : Meth C.K (C.cls c) m a)
    (ho : PE X o (up C W ta)) (ht : eval (.Call (.Attribute o m apos) [] [] pos) X.env = (do
      let ov ← eval o X.env
      standAt apos.atName
      let (g, first) ← holding [ov] (getMethod ov m pl)
      callWith pos g first (backTo pos (starEach [] X.env)) (backToKw pos (keywordEach [] X.env)))) : PE X (.Call (.Attribute o m apos) [] [] pos) (up C W (tmeth c jm n f dd ta tanil)) := by
  obtain ⟨fd, h1, h2, h3⟩ := d
  obtain ⟨dvs, dus, v1, v2, v3⟩ := h3 dd hdd
  exact pe_meth03 B hi hj ho cl hm (h1.mono hk) v3 v1 v2 ht
theorem c_make {w : Bool} {a : Addr} {ps : List Str} {f : F3} {ar : List (List D)} {dd : List D} {c : Nat} {x : Str} {kf : Nat} (d : Dok X.prog X.w X.K X.mg X.base C kf a ps n f ar) (B : Bd C X W k) (hk : kf + 1 ≤ k) (hdd : dd ∈ ar) (M : Mk X.K (C.cls c) a) (hm : X.mg x = some (.ref (C.cls c))) (hg : Gl X x) (ha : PA X (e :: es) (upA C W t)) (hdb : (x == ("__debug__" : Str)) = false)
    (he : starEach (e :: es) X.env = (false, eval e X.env) :: starEach es X.env) (hpl : (backTo pos (starEach es X.env)).any (·.1) = false) : PE X (.Call (.Name x p) (e :: es) [] pos) (up C W (tmake w c n f dd t)) := by
  obtain ⟨fd, h1, h2, h3⟩ := d
  obtain ⟨dvs, dus, v1, v2, v3⟩ := h3 dd hdd
  obtain ⟨k', rfl⟩ : ∃ k', k = k' + 1 := ⟨k - 1, by omega⟩
  exact pe_make3 M B (h1.mono (by omega)) hg hm v3 v1 v2 ha hdb he hpl
end
end V3
set_option Elab.async false
set_option linter.all false
set_option maxRecDepth 100000
set_option maxHeartbeats 4000000
/-! V21: more short forms, with what a term can find by itself. -/
namespace V3
open PySem PySem.Spec L2 PyProof.Rows
section
variable {C : Cn} {P : Program} {w : World} {K : PySem.W.Frag} {mg : Str → Option Value} {base : Heap}
/-- a def by its body, its code object told -/
theorem fn3c {x qual : Str} {st : Stmt} {f : Addr} {fd : FuncData} {N ps : List Str} {k n : Nat} {t : TS3} {dvs : List V} {kws : List (Str × V)} (F : FunD K x qual (defArgs st) (defBody st) (defScope st) dvs kws f fd) (hK : K = C.K) (S : FnScope N ps (defScope st)) (hn : ps.length = n)
    (hbody : ∀ (cdv : Value) (A : Around) (outer : List Env) (s : Shared) (H : Hp) (E : XK), PySem.W.codeIn K cdv qual = true → (∀ c : Addr, cdv = .ref c → ∀ p : Str × Option Str, He.fAd K p = f → He.codeOf K p = c) → Bd C.b0 (cx3 P w K mg base N qual st f cdv A outer s H E) (fun c d _ H' => E c d H') k →
      PSs (cx3 P w K mg base N qual st f cdv A outer s H E) (defBody st) (upS C.b0 (fun c d _ H' => E c d H') t)) :
    FnG P w K mg base (k + 1) f fd ps (upF C n fun ds => run3 t (start3 N ds)) := by
  obtain ⟨oc, od, dV, kV, doc, pm, an, cdv, ct, osl, rfl, lk, hcd, _, _⟩ := F.ex
  refine ⟨fun vs H Q E h => ?_, fun A outer s H args us vs Q E hr hg e0 hb r h => ?_⟩
  · obtain ⟨Pp, G, ds, Q3, E3, r, rv, hl, _⟩ := h
    rw [← rv.length, hl, hn]
  · have hl' : vs.length = ps.length := by
      obtain ⟨Pp, G, ds, Q3, E3, r, rv, hl, _⟩ := h
      rw [← rv.length, hl, hn]
    refine LamX.run_ofS (N := N) (ps := ps) lk hcd S hr e0 hb r hl' fun hr' => ?_
    refine ⟨_, hbody cdv A outer s H E hcd (fun c ec p ep => He.codeOf_eq (by rw [ep]; exact lk) ec) (bd_def (C := C.b0) hK S hr' hg), ?_⟩
    obtain ⟨Pp, G, ds, Q3, E3, rl, rv, hl, h, k1, k2⟩ := h
    refine ⟨Pp, _, G, _, _, rl, Rs.start rv, h, ?_, ?_, ?_, ?_, ?_⟩
    · exact fun P' G' H' σ' τ' l r' _ q => k1 P' G' H' .non .non l r' .non q
    · exact k1
    · exact fun P' G' H' σ' τ' l r' _ q => q.elim
    · exact fun P' G' H' σ' τ' l r' _ q => q.elim
    · exact fun P' G' H' σ' τ' x c d l r' _ q e => k2 P' G' H' x c d l r' q e
end
section
variable {C : Cn} {X : Cx} {W : WX} {pos : Pos}
theorem v3 (i : Nat) {x : Str} (hN : X.N[i]? = some x := by rfl) (hv : Vis X.env.scope x := by first | exact .inl rfl | exact .inr (.inl rfl) | exact .inr (.inr rfl)) (hd : (x == ("__debug__" : Str)) = false := by decide) (hcd : (x == ("__classdict__" : Str)) = false := by decide) :
    PE X (.Name x pos) (up C W (tvar i)) := pe_var3 hN hv hd hcd
/-- isinstance of a kind that is built in: the tables -/
def kinds7 : List String := ["NoneType", "bool", "int", "str", "tuple", "list", "dict"]
def isB (n : String) (m : Nat) : Ty3 → Option Bool
  | .b t => if kinds7.contains t then some (t == n || (t == "bool" && n == "int")) else none
  | .o c => if c < m then some false else none
def isC (k : Nat) (m : Nat) : Ty3 → Option Bool
  | .b t => if kinds7.contains t then some false else none
  | .o c => if c < m then some (c == k) else none
end
end V3
set_option Elab.async false
set_option linter.all false
set_option maxRecDepth 100000
set_option maxHeartbeats 4000000
/-! V22: the end of a law, checks for the head. -/
namespace V3
open PySem PySem.Spec L2 PyProof.Rows PySem.W
section
theorem walk3 {l : OpenLaw} {n k : Nat} {q : Program} {loose : List Str} {XP : (Str → Option Value) → Heap → Prop} {YP : World → Heap → Prop} {d : DefRec} {x : Str}
    (hn : l.most = some n) (hn2 : n ≤ sizeLine) (hdf : d.params.defaults = []) (hr : Room k callerA)
    (F : ∀ (w : World) (mg : Str → Option Value) (fa : Addr) (h : Heap), YP w h → h.Ns mainGlobals mg → mg d.name = some (.ref fa) →
      ∃ (K : Frag) (cs : List (Addr × Addr)) (fd : FuncData) (f : F3) (C : Cn), K.In h ∧ K = C.K ∧ (∀ p ∈ C.T, ∃ q ∈ cs, q.2 = p.1) ∧ (∀ p ∈ cs, h.get? p.2 = some { cls := .none, data := .fields #[] }) ∧ (∀ p ∈ cs, K.lookup p.2 = none) ∧ (∀ p ∈ cs, CodeHd h p.1 p.2) ∧
        (∀ (s : Shared) (u : Value), BindsTo s fd ⟨[u], []⟩ [(x, u)]) ∧ (∀ base : Heap, K.In base → base.Ns mainGlobals mg → (∀ p ∈ cs, LamX.TabB base mg p.1 p.2) → FnG l.prog w K mg base k fa fd [x] (upF C 1 f)) ∧
        ∀ ns : List Int, ns.length ≤ n → (∀ z ∈ ns, Builtin.Int.intBits z ≤ 1048576) → f [.rol (ns.map D.int)] (fun _ => none) (fun d _ => d = .bl true) (fun _ _ => False)) :
    WalkO q loose XP YP l.row.toRowW d [] (fun f vs => PySem.call f vs) := by
  refine Att.attach_callB hn hdf fun w s₀ s₁ mg mb fa o pm cd doc a vs ns G Y ho hd hcd hmg hobj hints hlen hbits hg => ?_
  obtain ⟨K, cs, fd, f, C, KX, eK, hT, h1, h2, h3, hb, hF, hp⟩ := F w mg fa _ Y G.T.g hmg
  have t : Top K mg mb s₁ cs a vs ns := ⟨KX, G.T.g, G.T.b, G.T.builtins, G.T.nolimit, hg, h1, h2, h3, G.T.bmain, hobj, hints, Nat.le_trans hlen hn2⟩
  exact law_tree t eK hT hr (hF _ t.kin (t.baseNs t.ns_) (fun p hp => t.tabB hp)) hb (hp ns hlen hbits)
end
section
variable {K : Frag} {C : Addr}
def oexB (K : Frag) (C : Addr) : Bool := (match K.lookup C with
  | some ⟨.type ty, _, .cls cd, sl⟩ => (match cd.mro, sl.toList with
    | .ref C' :: bm, [_, _, _, _, some (.builtin n), _] => decide (ty = "type") && (decide (C' = C) && (decide (n = "ValueError.__new__") && (!cd.hasDel && (cd.hasDict && PySem.HandSPX.refsVE bm))))
    | _, _ => false)
  | _ => false) && (decide (findIn K (.ref C) "__setattr__" = some (some (.builtin "object.__setattr__"))) && (decide (subIn K (.ref C) (.type "BaseException") = some true) && (decide (typeIn K (.ref C) = some (.type "type")) && keepIn K (.ref C))))
theorem oexB_ok (h : oexB K C = true) : OexC K C := by
  obtain ⟨h1, h⟩ := Bool.and_eq_true_iff.mp h
  obtain ⟨h2, h⟩ := Bool.and_eq_true_iff.mp h
  obtain ⟨h3, h⟩ := Bool.and_eq_true_iff.mp h
  obtain ⟨h4, h5⟩ := Bool.and_eq_true_iff.mp h
  refine ⟨?_, of_decide_eq_true h2, of_decide_eq_true h3, of_decide_eq_true h4, h5⟩
  split at h1
  · rename_i ty dd cd sl ho
    split at h1
    · rename_i C' bm k0 k1 k2 k3 n k5 hm hs
      simp only [Bool.and_eq_true, decide_eq_true_eq, Bool.not_eq_true'] at h1
      obtain ⟨rfl, rfl, rfl, hdel, hdct, ht⟩ := h1
      obtain ⟨nm, bs, mro, ns, qn, hd, sn, sub, ab, col, del⟩ := cd
      dsimp only at hm hdel hdct
      subst hm hdel hdct
      have hsl : sl = #[k0, k1, k2, k3, some (.builtin "ValueError.__new__"), k5] := by
        obtain ⟨l⟩ := sl
        simp only at hs
        rw [hs]
      subst hsl
      exact ⟨nm, qn, ns, bs, bm, sn, sub, ab, col, dd, k0, k1, k2, k3, k5, ho, ht⟩
    · cases h1
  · cases h1
/-! isinstance -/
def isoB (K : Frag) (a : Addr) : Bool := decide (findIn K (.ref a) "__class__" = some (some (.builtin "object.__class__"))) && (decide (specialIn K (.builtin "object.__class__") "__get__" = some (some (.builtin "getset_descriptor.__get__"))) && (decide (takesIn K (.builtin "object.__class__") = some true) && decide (mroIn K a (.type "object") = some true)))
theorem isoB_ok {a : Addr} (c : Cls K a) (h : isoB K a = true) : IsO K a := by
  obtain ⟨h1, h⟩ := Bool.and_eq_true_iff.mp h
  obtain ⟨h2, h⟩ := Bool.and_eq_true_iff.mp h
  obtain ⟨h3, h4⟩ := Bool.and_eq_true_iff.mp h
  exact ⟨c, of_decide_eq_true h1, of_decide_eq_true h2, of_decide_eq_true h3, of_decide_eq_true h4⟩
def isiB (K : Frag) (cls : Nat → Addr) (m : Nat) (f : Ty3 → Option Bool) (u : Value) : Bool := kinds7.all (fun s => decide (kitOne K (.type s) u = f (.b s))) && (List.range m).all (fun c => decide (kitOne K (.ref (cls c)) u = f (.o c)) && isoB K (cls c))
theorem isiB_ok {D : Cn} {m : Nat} {f : Ty3 → Option Bool} {u : Value} (hf : ∀ s b, f (.b s) = some b → s ∈ kinds7) (hg : ∀ c b, f (.o c) = some b → c < m) (hc : ∀ c, c < m → Cls D.K (D.cls c)) (h : isiB D.K D.cls m f u = true) : IsTab D f u := by
  obtain ⟨h1, h2⟩ := Bool.and_eq_true_iff.mp h
  have g : ∀ c b, f (.o c) = some b → kitOne D.K (.ref (D.cls c)) u = f (.o c) ∧ IsO D.K (D.cls c) := fun c b e => by
    have hl := hg c b e
    obtain ⟨z1, z2⟩ := Bool.and_eq_true_iff.mp (List.all_eq_true.mp h2 c (List.mem_range.mpr hl))
    exact ⟨of_decide_eq_true z1, isoB_ok (hc c hl) z2⟩
  refine ⟨fun t b e => ?_, fun c b e => (g c b e).2⟩
  cases t with
  | b s =>
    rw [← e]
    exact of_decide_eq_true (List.all_eq_true.mp h1 s (hf s b e))
  | o c =>
    rw [← e]
    exact (g c b e).1
theorem isB_b {n : String} {m : Nat} : ∀ s b, isB n m (.b s) = some b → s ∈ kinds7 := fun s b e => by
  unfold isB at e
  dsimp only at e
  split at e
  · rename_i h; exact List.contains_iff_mem.mp h
  · cases e
theorem isB_o {n : String} {m : Nat} : ∀ c b, isB n m (.o c) = some b → c < m := fun c b e => by
  unfold isB at e
  dsimp only at e
  split at e
  · assumption
  · cases e
theorem isC_b {n : Nat} {m : Nat} : ∀ s b, isC n m (.b s) = some b → s ∈ kinds7 := fun s b e => by
  unfold isC at e
  dsimp only at e
  split at e
  · rename_i h; exact List.contains_iff_mem.mp h
  · cases e
theorem isC_o {n : Nat} {m : Nat} : ∀ c b, isC n m (.o c) = some b → c < m := fun c b e => by
  unfold isC at e
  dsimp only at e
  split at e
  · assumption
  · cases e
/-! a dict of the module -/
def ktB (K : Frag) (a : Addr) (kvs : List (Str × D)) : Bool := kvs.all fun q => match nsIn K a q.1, q.2 with
  | some (some (.int i _)), .int j => decide (i = j)
  | some (some (.str i _)), .str j => decide (i = j)
  | _, _ => false
theorem ktab_of {w : World} {a : Addr} {kvs : List (Str × D)} (h1 : He.dicW K a = some (He.keysIn w.params (kvs.map (·.1)))) (h2 : ktB K a kvs = true) : KTab K w a kvs := by
  refine ⟨He.dicW_ok h1, fun z => ⟨fun d e => ?_, fun e => nsIn_none h1 fun hz => ?_⟩⟩
  · have hm : (z, d) ∈ kvs := by
      clear h1 h2
      induction kvs with
      | nil => cases e
      | cons p r ih =>
        obtain ⟨y, b⟩ := p
        simp only [List.lookup] at e
        split at e
        · rename_i hq
          have hq := beq_iff_eq.mp hq
          cases e
          subst hq
          exact List.mem_cons_self
        · exact List.mem_cons_of_mem _ (ih e)
    have h := List.all_eq_true.mp h2 _ hm
    dsimp only at h
    split at h
    · rename_i i t j e1 e2
      have := of_decide_eq_true h
      subst this
      exact ⟨_, .int _, e2, ⟨_, rfl⟩, fun _ _ => .int _⟩
    · rename_i i t j e1 e2
      have := of_decide_eq_true h
      subst this
      exact ⟨_, .str _, e2, ⟨_, rfl⟩, fun _ _ => .str _⟩
    · cases h
  · clear h1 h2
    induction kvs with
    | nil => cases hz
    | cons p r ih =>
      obtain ⟨y, b⟩ := p
      simp only [List.lookup] at e
      split at e
      · cases e
      · rename_i hq
        rcases List.mem_cons.mp hz with q | q
        · subst q
          simp at hq
        · exact ih e q
def tabsU (T : List (Addr × Str)) : Bool := T.all fun p => T.all fun q => decide (p.1 ≠ q.1) || decide (p.2 = q.2)
theorem tabsU_ok {T : List (Addr × Str)} (h : tabsU T = true) {a : Addr} {x : Str} (hm : (a, x) ∈ T) : ∀ p ∈ T, p.1 = a → p.2 = x := fun p hp e => by
  have h1 := List.all_eq_true.mp (List.all_eq_true.mp h p hp) _ hm
  rcases Bool.or_eq_true_iff.mp h1 with z | z
  · exact absurd e (of_decide_eq_true z)
  · exact of_decide_eq_true z
end
end V3
namespace V3
open PySem PySem.Spec L2 PyProof.Rows PySem.W
def ownB (K : Frag) (cls : Nat → Addr) (att : Nat → Str) (T : List (List Nat)) : Bool := (List.range T.length).all fun c => (T.getD c []).all fun j => decide (findIn K (.ref (cls c)) (att j) = some none)
theorem ownB_ok {D : Cb} {T : List (List Nat)} (hc : ∀ c, c < T.length → Cls D.K (D.cls c)) (h : ownB D.K D.cls D.att T = true) {c j : Nat} (e : (T.getD c []).contains j = true) : Owns D c j := by
  have hl : c < T.length := by
    rcases Nat.lt_or_ge c T.length with z | z
    · exact z
    · have : T.getD c [] = [] := by simp [List.getD, List.getElem?_eq_none z]
      rw [this] at e
      cases e
  exact ⟨hc c hl, show findIn D.K (.ref (D.cls c)) (D.att j) = some none from of_decide_eq_true (List.all_eq_true.mp (List.all_eq_true.mp h c (List.mem_range.mpr hl)) j (List.contains_iff_mem.mp e))⟩
theorem tabEq {fa : List He.Fa} {fn : List He.DefD} {ts : List He.Tab} {w : World} {K : Frag} (c : He.SaysT fa fn ts w K) (i : Nat) {t : He.Tab} (h : ts[i]? = some t) : He.dicW K (t.1 K) = some (He.keysIn w.params t.2) := by
  have e : ts.map (fun t => He.dicW K (t.1 K)) = ts.map fun t => some (He.keysIn w.params t.2) := congrArg (fun z : He.AlT => z.2) c
  have e2 : (ts.map fun t => He.dicW K (t.1 K))[i]? = (ts.map fun t => some (He.keysIn w.params t.2))[i]? := by rw [e]
  rw [List.getElem?_map, List.getElem?_map, h] at e2
  exact Option.some.inj e2
end V3
set_option Elab.async false
set_option linter.all false
set_option maxRecDepth 100000
set_option maxHeartbeats 4000000
/-! V23: a head's facts in parts over a written list of addresses, one run each; the looks in a run of their own. -/
namespace V3
open PySem PySem.Spec L2 PyProof.Rows PySem.W HandSHeadRun
structure Part where
  fa : List He.Fa
  fn : List He.DefD
  ts : List He.Tab
  tf : List He.Defn
  ex : Frag → Bool
def obK (K : Frag) (p : Part) (g : Addr → Option Obj) : He.AlX := (He.obsT p.fa p.fn p.ts K, p.ex K && He.tabsB g p.tf K)
def Part.ob (as : List Addr) (p : Part) (g : Addr → Option Obj) : He.AlX := obK (He.frT g as) p g
def Part.val (p : Part) (w : World) : He.AlX := He.valX p.fn p.ts w
def Part.Says (p : Part) (w : World) (h : Heap) (K : Frag) : Prop := He.SaysX p.fa p.fn p.ts p.tf p.ex w h K
theorem part_says {p : Part} {w : World} {h : Heap} {as : List Addr} (e : p.ob as h.get? = p.val w) : p.Says w h (He.frT h.get? as) := by
  generalize hK : He.frT h.get? as = K
  have e' : obK K p h.get? = p.val w := by rw [← hK]; exact e
  obtain ⟨z1, z2⟩ := Prod.mk.inj (show (_, _) = (_, _) from e')
  obtain ⟨z3, z4⟩ := Bool.and_eq_true_iff.mp z2
  have key : ∀ q ∈ p.tf, PySem.W.codeHdIn K (He.cT K q).1 (He.cT K q).2 = true ∧ ∃ o, h.get? (He.cT K q).2 = some o ∧ He.emptyTab o = true := by
    intro q hq
    obtain ⟨y1, y2⟩ := Bool.and_eq_true_iff.mp (List.all_eq_true.mp z4 q hq)
    refine ⟨y1, ?_⟩
    split at y2
    · rename_i o eo
      exact ⟨o, eo, y2⟩
    · exact absurd y2 (by simp)
  refine ⟨z1, z3, fun q hq => (key q hq).1, fun q hq => ?_, fun q hq => ?_⟩
  · obtain ⟨_, o, y1, y2⟩ := key q hq
    have y3 := He.frT_none (as := as) y1 y2
    rw [hK] at y3
    exact y3
  · obtain ⟨_, o, y1, y2⟩ := key q hq
    exact y1.trans (congrArg some (He.emptyTab_eq y2))
def hookL (as : List Addr) (ps : List Part) : Hook where
  α := List He.AlX
  obs := fun s => ps.map fun p => p.ob as s.heap.get?
  val := fun w => ps.map fun p => p.val w
  says := fun w h => ∃ K : Frag, K.In h ∧ ∀ p ∈ ps, p.Says w h K
  of := fun w h e => ⟨_, He.frT_in, fun p hp => part_says (List.map_inj_left.mp e p hp)⟩
  keeps := fun _ _ _ ⟨K, hK, c⟩ k => ⟨K, Frag.In.keeps hK k, fun p hp => ⟨(c p hp).t, (c p hp).more, (c p hp).hd, (c p hp).out, fun q hq => k _ _ ((c p hp).empty q hq)⟩⟩
def obL (as : List Addr) (ps : List Part) (s : SharedT) : List He.AlX := ps.map fun p => p.ob as (getT s)
theorem obL_eq (as : List Addr) (ps : List Part) (s : SharedT) : obL as ps s = (hookL as ps).obs s.abs := List.map_congr_left fun p _ => by
  rw [show getT s = s.abs.heap.get? from funext (getT_eq s)]
def PartRun (r : OpenRow) (as : List Addr) (M : Nat) (p : Part) (w : World) : Prop := ∀ os : OsState, (endF (stepQ (denQ tabQ) r.prog w) M r.prog w os).map (fun s => p.ob as (getT s)) = some (p.val w)
/-- the looks behind the top, without facts -/
def LookRun (r : OpenRow) (q : Program) (M : Nat) (loose : List PySem.Str) (w : World) : Prop :=
  ∀ os : OsState, (endF (stepQ (denQ tabQ) r.prog w) M r.prog w os).map (fun s => (looksF r.prog (boot_heap w.params) s.abs, seenQ q loose (importedModules r.prog.main.body) (fun s => xlAt q [] s && recOk r.toRowW.records s) s.abs)) = some (true, openGood q loose)
theorem runL {r : OpenRow} {q : Program} {as : List Addr} {M : Nat} {loose : List PySem.Str} {w : World} {ps : List Part} (h0 : LookRun r q M loose w) (h : ∀ p ∈ ps, PartRun r as M p w) : RunEq r q (hookL as ps) (obL as ps) M loose w := by
  intro os
  cases e : endF (stepQ (denQ tabQ) r.prog w) M r.prog w os with
  | none =>
    have h0 := h0 os
    rw [e] at h0
    cases h0
  | some s =>
    have g : ∀ p ∈ ps, p.ob as (getT s) = p.val w := fun p hp => by
      have z := h p hp os
      rw [e] at z
      exact Option.some.inj z
    have z := h0 os
    rw [e] at z
    have g0 := Option.some.inj z
    have e1 := congrArg Prod.fst g0
    have e2 := congrArg (fun z => z.2) g0
    have e3 : obL as ps s = ps.map fun p => p.val w := List.map_congr_left fun p hp => g p hp
    show some _ = some _
    exact congrArg some (Prod.ext e1 (Prod.ext e2 e3))
theorem row2 {P : World → Prop} (f : ∀ w : World, P (w.withFollow "special-get-raises" false)) (t : ∀ w : World, P (w.withFollow "special-get-raises" true)) (w : World) : P w := byRow2 "special-get-raises" f t w
end V3
set_option Elab.async false
set_option linter.all false
set_option maxRecDepth 100000
set_option maxHeartbeats 4000000
/-! V24: readings opened by the simplifier. -/
namespace V3
open PySem PySem.Spec L2 PyProof.Rows
/-- no attribute of this number -/
def NoAt (j : Nat) (fs : List (Nat × D)) : Prop := fs.lookup j = none
@[simp] theorem noAt_nil {j : Nat} : NoAt j [] = True := propext ⟨fun _ => trivial, fun _ => rfl⟩
@[simp] theorem noAt_cons {j k : Nat} {d : D} {r : List (Nat × D)} : NoAt j ((k, d) :: r) = (j ≠ k ∧ NoAt j r) := by
  unfold NoAt
  simp only [List.lookup]
  by_cases h : j = k
  · subst h
    simp
  · have : (j == k) = false := by simpa using h
    rw [this]
    simp [h]
section
variable {t u : TS3} {N : N3} {E : ES3} {E1 : E3} {σ : S3} {G : Gp} {Q : K3} {a b c : T3} {ta : TA3} {tt tu : TT3} {g : TG3} {gs : TGs3} {d e : D} {QA : List D → Gp → Prop} {QT : Bool → Gp → Prop} {R : S3 → Gp → Prop}
@[simp ↓] theorem s_run3 : run3 t σ G Q E1 = t { nx := fun _ G1 => Q .non G1, rt := Q, bk := fun _ _ => False, ct := fun _ _ => False } (fun x _ G1 => E1 x G1) σ G := rfl
@[simp ↓] theorem s_seq : sseq t u N E σ G = t { N with nx := fun σ1 G1 => u N E σ1 G1 } E σ G := rfl
@[simp ↓] theorem s_nil : snil N E σ G = N.nx σ G := rfl
@[simp ↓] theorem s_ret : sret a N E σ G = a σ G N.rt (fun x G1 => E x σ G1) := rfl
@[simp ↓] theorem s_retN : sretN N E σ G = N.rt .non G := rfl
@[simp ↓] theorem s_exp : sexp a N E σ G = a σ G (fun _ G1 => N.nx σ G1) (fun x G1 => E x σ G1) := rfl
@[simp ↓] theorem s_if : sif tt t u N E σ G = tt σ G (fun b G1 => if b = true then t N E σ G1 else u N E σ G1) (fun x G1 => E x σ G1) := rfl
@[simp ↓] theorem s_asg : sasg a g N E σ G = a σ G (fun d G1 => g d σ G1 N.nx E) (fun x G1 => E x σ G1) := rfl
@[simp ↓] theorem s_nm {i : Nat} : gnm i d σ G R E = R (σ.set i (some d)) G := rfl
@[simp ↓] theorem s_gtp {n : Nat} {ds : List D} : gtp n gs (.tup ds) σ G R E = (ds.length = n ∧ gs ds σ G R E) := by
  unfold gtp
  simp
@[simp ↓] theorem s_gsc {ds : List D} : gsc g gs (d :: ds) σ G R E = g d σ G (fun σ1 G1 => gs ds σ1 G1 R E) E := propext ⟨fun ⟨_, _, e, h⟩ => by cases e; exact h, fun h => ⟨_, _, rfl, h⟩⟩
@[simp ↓] theorem s_gsn : gsn [] σ G R E = R σ G := by
  unfold gsn
  simp
@[simp ↓] theorem s_gsub {f : D → D → D → Gp → (Gp → Prop) → Prop} : gsub3 a b f d σ G R E = a σ G (fun o G1 => b σ G1 (fun i G2 => f o i d G2 fun G3 => R σ G3) (fun x G2 => E x σ G2)) (fun x G1 => E x σ G1) := rfl
@[simp ↓] theorem s_fld {ow : Nat → Nat → Bool} {k : Nat} : sfld ow k a b N E σ G = b σ G (fun d G1 => a σ G1 (fun x G2 => ∃ p c fs, x = .ref p ∧ G2 p = some (.ins c fs) ∧ ow c k = true ∧ fs.length < 1000 ∧ N.nx σ (gset G2 p (.ins c (putA k d fs)))) (fun x G2 => E x σ G2)) (fun x G1 => E x σ G1) := rfl
@[simp ↓] theorem s_var {i : Nat} : tvar i σ G Q E1 = ∃ d, σ[i]? = some (some d) ∧ Q d G := rfl
@[simp ↓] theorem s_con : tcon d σ G Q E1 = Q d G := rfl
@[simp ↓] theorem s_t1 {f : D → Gp → K3 → Prop} : t1 f a σ G Q E1 = a σ G (fun x G1 => f x G1 Q) E1 := rfl
@[simp ↓] theorem s_t2 {f : D → D → Gp → K3 → Prop} : t2 f a b σ G Q E1 = a σ G (fun x G1 => b σ G1 (fun y G2 => f x y G2 Q) E1) E1 := rfl
@[simp ↓] theorem s_cl {f : List D → Gp → K3 → Prop} : tcl f ta σ G Q E1 = ta σ G (fun xs G1 => f xs G1 Q) E1 := rfl
@[simp ↓] theorem s_cf {n : Nat} {f : F3} {dd : List D} : tcf n f dd ta σ G Q E1 = ta σ G (fun xs G1 => (xs ++ dd).length = n ∧ f (xs ++ dd) G1 Q E1) E1 := rfl
@[simp ↓] theorem s_anil : tanil σ G QA E1 = QA [] G := rfl
@[simp ↓] theorem s_acons : tacons a ta σ G QA E1 = a σ G (fun x G1 => ta σ G1 (fun xs G2 => QA (x :: xs) G2) E1) E1 := rfl
@[simp ↓] theorem s_tup {n : Nat} : ttup n ta σ G Q E1 = ta σ G (fun xs G1 => xs.length ≤ sizeLine ∧ Q (.tup xs) G1) E1 := rfl
@[simp ↓] theorem s_lst {w : Bool} : tlst w ta σ G Q E1 = ta σ G (fun xs G1 => xs.length ≤ sizeLine ∧ newL w xs G1 Q) E1 := rfl
@[simp ↓] theorem s_newF {xs : List D} : newL false xs G Q = Q (.lst xs) G := rfl
@[simp ↓] theorem s_newT {xs : List D} : newL true xs G Q = ∀ p, G p = none → Q (.ref p) (gset G p (.lst xs)) := rfl
@[simp ↓] theorem s_newDF {xs : List (Key × D)} : newD false xs G Q = Q (.dk xs) G := rfl
@[simp ↓] theorem s_newDT {xs : List (Key × D)} : newD true xs G Q = ∀ p, G p = none → Q (.ref p) (gset G p (.dk xs)) := rfl
@[simp ↓] theorem s_tbl : tbl a σ G QT E1 = a σ G (fun x G1 => ∃ k, x = .bl k ∧ QT k G1) E1 := rfl
@[simp ↓] theorem s_ttru : ttru a σ G QT E1 = a σ G (fun x G1 => ∃ k, truD G1 x = some k ∧ QT k G1) E1 := rfl
@[simp ↓] theorem s_tnot : tnot tt σ G QT E1 = tt σ G (fun c G1 => QT (!c) G1) E1 := rfl
@[simp ↓] theorem s_tand : tand tt tu σ G QT E1 = tt σ G (fun c G1 => if c = true then tu σ G1 QT E1 else QT false G1) E1 := rfl
@[simp ↓] theorem s_tor : tor tt tu σ G QT E1 = tt σ G (fun c G1 => if c = true then QT true G1 else tu σ G1 QT E1) E1 := rfl
@[simp ↓] theorem s_andV : tandV a b σ G Q E1 = a σ G (fun x G1 => ∃ k, truD G1 x = some k ∧ if k = true then b σ G1 Q E1 else Q x G1) E1 := rfl
@[simp ↓] theorem s_orV : torV a b σ G Q E1 = a σ G (fun x G1 => ∃ k, truD G1 x = some k ∧ if k = true then Q x G1 else b σ G1 Q E1) E1 := rfl
@[simp ↓] theorem s_notV : tnotV a σ G Q E1 = a σ G (fun x G1 => ∃ k, truD G1 x = some k ∧ Q (.bl (!k)) G1) E1 := rfl
@[simp ↓] theorem s_ife : tife tt a b σ G Q E1 = tt σ G (fun k G1 => if k = true then a σ G1 Q E1 else b σ G1 Q E1) E1 := rfl
@[simp ↓] theorem s_truB {b : Bool} : truD G (.bl b) = some b := rfl
@[simp ↓] theorem s_truN : truD G .non = some false := rfl
@[simp ↓] theorem s_truI {i : Int} : truD G (.int i) = some (i != 0) := rfl
@[simp ↓] theorem s_isi {f : Ty3 → Option Bool} : tisi f a σ G Q E1 = a σ G (fun x G1 => ∃ y b, tyD G1 x = some y ∧ f y = some b ∧ Q (.bl b) G1) E1 := rfl
theorem s_fldV {ow : Nat → Nat → Bool} {k : Nat} : fldV ow k d G Q = ∃ c fs x, insD G d = some (c, fs) ∧ ow c k = true ∧ fs.lookup k = some x ∧ Q x G := rfl
@[simp ↓] theorem s_meth {c j n : Nat} {f : F3} {dd : List D} : tmeth c j n f dd a ta σ G Q E1 = a σ G (fun x G1 => ∃ fs, insD G1 x = some (c, fs) ∧ NoAt j fs ∧ ta σ G1 (fun xs G2 => (x :: (xs ++ dd)).length = n ∧ f (x :: (xs ++ dd)) G2 Q E1) E1) E1 := rfl
@[simp ↓] theorem s_par {i j : Nat} : spar i j ta N E σ G = ta σ G (fun ds G1 => ∃ x y, ds = [x, y] ∧ N.nx ((σ.set i (some x)).set j (some y)) G1) (fun x G1 => E x σ G1) := rfl
@[simp ↓] theorem s_par3 {i j l : Nat} : spar3 i j l ta N E σ G = ta σ G (fun ds G1 => ∃ x y z, ds = [x, y, z] ∧ N.nx (((σ.set i (some x)).set j (some y)).set l (some z)) G1) (fun x G1 => E x σ G1) := rfl
@[simp ↓] theorem s_raise {c j : Nat} : sraise c j ta N E σ G = ta σ G (fun ds G1 => ∃ d, ds = [d] ∧ E ⟨c, [(j, d)]⟩ σ G1) (fun x G1 => E x σ G1) := rfl
@[simp ↓] theorem gset_at {p : Addr} {o : GO} : gset G p o p = some o := if_pos rfl
theorem gset_off {p q : Addr} {o : GO} (h : q ≠ p) : gset G p o q = G q := if_neg h
@[simp ↓] theorem gset_twice {p : Addr} {o o' : GO} : gset (gset G p o) p o' = gset G p o' := by
  funext b
  unfold gset
  split <;> rfl
theorem atI_nat {α : Type} (xs : List α) (i : Nat) : atI xs (i : Int) = xs[i]? := by
  unfold atI ixN
  by_cases h : i < xs.length
  · simp [h]
  · simp [h]
end
section
variable {w : Bool} {i j : Int} {x y z : Str} {G : Gp} {Q : K3} {xs ys : List D} {p : Addr} {d : D} {R : Gp → Prop}
@[simp ↓] theorem b_addI : binV w .Add (.int i) (.int j) G Q = Q (.int (i + j)) G := rfl
@[simp ↓] theorem b_subI : binV w .Sub (.int i) (.int j) G Q = Q (.int (i - j)) G := rfl
@[simp ↓] theorem b_mulI : binV w .Mult (.int i) (.int j) G Q = (CMul i j ∧ Q (.int (i * j)) G) := rfl
@[simp ↓] theorem b_divI : binV w .FloorDiv (.int i) (.int j) G Q = (CDiv i j ∧ Q (.int (i / j)) G) := rfl
@[simp ↓] theorem b_modI : binV w .Mod (.int i) (.int j) G Q = (0 < j ∧ Q (.int (i % j)) G) := rfl
@[simp ↓] theorem c_ltI : cmpV .Lt (.int i) (.int j) G Q = Q (.bl (decide (i < j))) G := rfl
@[simp ↓] theorem c_leI : cmpV .LtE (.int i) (.int j) G Q = Q (.bl (decide (i ≤ j))) G := rfl
@[simp ↓] theorem c_gtI : cmpV .Gt (.int i) (.int j) G Q = Q (.bl (decide (j < i))) G := rfl
@[simp ↓] theorem c_geI : cmpV .GtE (.int i) (.int j) G Q = Q (.bl (decide (j ≤ i))) G := rfl
@[simp ↓] theorem f_int : bfV w .int [.int i] G Q = Q (.int i) G := rfl
@[simp ↓] theorem f_divmod : bfV w .divmod [.int i, .int j] G Q = (CDiv i j ∧ Q (.tup [.int (i / j), .int (i % j)]) G) := rfl
@[simp ↓] theorem f_max : bfV w .max2 [.int i, .int j] G Q = Q (.int (if j > i then j else i)) G := rfl
@[simp ↓] theorem f_min : bfV w .min2 [.int i, .int j] G Q = Q (.int (if j < i then j else i)) G := rfl
@[simp ↓] theorem f_len : bfV w .len [d] G Q = ∃ n : Nat, lenD G d = some n ∧ Q (.int n) G := rfl
@[simp ↓] theorem x_tup : ixV (.tup xs) (.int i) G Q = ∃ d, atI xs i = some d ∧ Q d G := rfl
@[simp ↓] theorem x_tuf : ixV (.tuf xs) (.int i) G Q = ∃ d, atI xs i = some d ∧ Q d G := rfl
@[simp ↓] theorem x_lst : ixV (.lst xs) (.int i) G Q = ∃ d, atI xs i = some d ∧ Q d G := rfl
@[simp ↓] theorem x_rol : ixV (.rol xs) (.int i) G Q = ∃ d, atI xs i = some d ∧ Q d G := rfl
theorem x_ref (h : G p = some (.lst xs)) : ixV (.ref p) (.int i) G Q = ∃ d, atI xs i = some d ∧ Q d G := by
  unfold ixV
  simp only [seqA, seqL, h]
theorem w_ref (h : G p = some (.lst xs)) : setW (.ref p) (.int i) d G R = ∃ j, ixN xs.length i = some j ∧ R (gset G p (.lst (xs.set j d))) := by
  unfold setW
  simp only [h]
  exact propext ⟨fun ⟨k, j, e, h1, h2⟩ => by cases e; exact ⟨j, h1, h2⟩, fun ⟨j, h1, h2⟩ => ⟨i, j, rfl, h1, h2⟩⟩
end
end V3
set_option Elab.async false
set_option linter.all false
set_option maxRecDepth 100000
set_option maxHeartbeats 4000000
/-! V25: loops and comprehensions on the plain side. -/
namespace V3
open PySem PySem.Spec L2 PyProof.Rows
section
variable {g : Tg} {tb : TS3} {N : N3} {E : ES3} {live : Gp → Prop}
/-- a for loop by an invariant over what is left -/
theorem forW_inv (I : List D → S3 → Gp → Prop) (hl : ∀ ds σ G, I ds σ G → live G) (hend : ∀ σ G, I [] σ G → N.nx σ G)
    (step : ∀ d ds σ G (K : S3 → Gp → Prop), I (d :: ds) σ G → (∀ σ' G', I ds σ' G' → K σ' G') → ∃ σ2, g.run d σ = some σ2 ∧ tb { N with nx := K, ct := K, bk := N.nx } E σ2 G) : ∀ ds σ G, I ds σ G → forW g tb N E live ds σ G
  | [], σ, G, h => ⟨hl _ _ _ h, hend _ _ h⟩
  | d :: ds, σ, G, h => by
    obtain ⟨σ2, e, q⟩ := step d ds σ G _ h fun σ' G' h' => forW_inv I hl hend step ds σ' G' h'
    exact ⟨hl _ _ _ h, σ2, e, q⟩
end
section
variable {g : Tg} {tt : TT3} {te : T3} {σw : S3} {p : Addr} {live K : Gp → Prop}
/-- a list comprehension whose element and test change nothing -/
theorem lcW_pure (f : D → D) (b : D → Bool) (G0 : Gp) (hK : ∀ acc, K (gset G0 p (.lst acc))) : True := trivial
theorem lcW_map (f : D → D) (b : D → Bool) {G0 : Gp} : ∀ (ds acc : List D), acc.length + ds.length < sizeLine →
    (∀ acc', live (gset G0 p (.lst acc'))) →
    (∀ d ∈ ds, ∀ (acc' : List D) (R : Gp → Prop), ∃ σ2, g.run d σw = some σ2 ∧ ∀ (Q1 Q2 : Gp → Prop), (b d = true → Q1 (gset G0 p (.lst acc'))) → (b d = false → Q2 (gset G0 p (.lst acc'))) → tt σ2 (gset G0 p (.lst acc')) (fun k G3 => if k = true then Q1 G3 else Q2 G3) eF) →
    (∀ d ∈ ds, b d = true → ∀ (acc' : List D) (Q : K3) σ2, g.run d σw = some σ2 → Q (f d) (gset G0 p (.lst acc')) → te σ2 (gset G0 p (.lst acc')) Q eF) →
    K (gset G0 p (.lst (acc ++ (ds.filter b).map f))) → lcW g tt te σw p live K ds (gset G0 p (.lst acc))
  | [], acc, _, hl, _, _, hK => ⟨hl _, by simpa using hK⟩
  | d :: ds, acc, hz, hl, ht, he, hK => by
    obtain ⟨σ2, e, q⟩ := ht d List.mem_cons_self acc K
    refine ⟨hl _, σ2, e, q _ _ (fun hb => ?_) (fun hb => ?_)⟩
    · refine he d List.mem_cons_self hb acc _ σ2 e ⟨acc, gset_at, by simp only [List.length_cons] at hz; omega, ?_⟩
      rw [gset_twice]
      refine lcW_map f b ds (acc ++ [f d]) (by simp only [List.length_cons, List.length_append, List.length_nil] at hz ⊢; omega) hl (fun d' hd' => ht d' (List.mem_cons_of_mem _ hd')) (fun d' hd' => he d' (List.mem_cons_of_mem _ hd')) ?_
      rw [List.filter_cons, if_pos hb, List.map_cons] at hK
      simpa using hK
    · refine lcW_map f b ds acc (by simp only [List.length_cons] at hz; omega) hl (fun d' hd' => ht d' (List.mem_cons_of_mem _ hd')) (fun d' hd' => he d' (List.mem_cons_of_mem _ hd')) ?_
      rw [List.filter_cons, if_neg (by simp [hb])] at hK
      exact hK
end
end V3
set_option Elab.async false
set_option linter.all false
set_option maxRecDepth 100000
set_option maxHeartbeats 4000000
/-! V26: more readings opened by the simplifier; comprehensions whose parts change nothing. -/
namespace V3
open PySem PySem.Spec L2 PyProof.Rows
/-- what stands in G stands in G' -/
def Sub (G G' : Gp) : Prop := ∀ q, G q ≠ none → G' q = G q
theorem Sub.refl {G : Gp} : Sub G G := fun _ _ => rfl
theorem Sub.trans {G G' G2 : Gp} (h : Sub G G') (k : Sub G' G2) : Sub G G2 := fun q h1 => by
  have e := h q h1
  rw [k q (by rw [e]; exact h1), e]
theorem Sub.new {G : Gp} {p : Addr} {o : GO} (h : G p = none) : Sub G (gset G p o) := fun q h1 => by
  have hq : q ≠ p := fun e => h1 (by rw [e]; exact h)
  exact if_neg hq
theorem Sub.at {G G' : Gp} {q : Addr} {o : GO} (s : Sub G G') (h : G q = some o) : G' q = some o := by rw [s q (by rw [h]; simp), h]
section
variable {t u : TS3} {N : N3} {E : ES3} {E1 : E3} {σ : S3} {G : Gp} {Q : K3} {a b c : T3} {ta : TA3} {tt tu : TT3} {g : Tg} {d e : D} {R : List D → (Gp → Prop) → Gp → Prop}
@[simp ↓] theorem s_for {it : TI3} : sfor it g t N E σ G = it σ G (fun ds live G1 => forW g t N E live ds σ G1) (fun x G1 => E x σ G1) := rfl
@[simp ↓] theorem s_iseq : iseq a σ G R E1 = a σ G (fun x G1 => ∃ xs, walkD G1 x = some xs ∧ R xs (liveOf G1 x) G1) E1 := rfl
@[simp ↓] theorem s_rng1 : irng1 a σ G R E1 = a σ G (fun x G1 => ∃ j : Int, x = .int j ∧ -(2 ^ 62) ≤ j ∧ j < 2 ^ 62 ∧ R (rngD 0 j.toNat) (fun _ => True) G1) E1 := rfl
@[simp ↓] theorem s_en : ien a σ G R E1 = a σ G (fun x G1 => ∃ xs, seqA G1 x = some xs ∧ R (enumD xs) (liveOf G1 x) G1) E1 := rfl
@[simp ↓] theorem s_lc {w : Bool} {it : TI3} {vs : List Nat} : tlc w it g tt a vs σ G Q E1 = it σ G (fun ds live G1 => ∀ p, G1 p = none → lcW g tt a (wipe3 σ vs) p live (keepL w p Q) ds (gset G1 p (.lst []))) E1 := rfl
@[simp ↓] theorem s_dc {w : Bool} {it : TI3} {vs : List Nat} : tdc w it g tt a b vs σ G Q E1 = it σ G (fun ds live G1 => ∀ p, G1 p = none → dcW g tt a b (wipe3 σ vs) p live (keepD w p Q) ds (gset G1 p (.dk []))) E1 := rfl
@[simp ↓] theorem s_yes {QT : Bool → Gp → Prop} : tyes σ G QT E1 = QT true G := rfl
@[simp ↓] theorem s_sl {w : Bool} {tl th : TO3} : tsl w a tl th σ G Q E1 = a σ G (fun x G1 => tl σ G1 (fun l G2 => th σ G2 (fun u G3 => slV w x l u G3 Q) E1) E1) E1 := rfl
@[simp ↓] theorem s_ono {QO : Option Int → Gp → Prop} : tono σ G QO E1 = QO none G := rfl
@[simp ↓] theorem s_oso {QO : Option Int → Gp → Prop} : toso a σ G QO E1 = a σ G (fun x G1 => ∃ i, x = .int i ∧ QO (some i) G1) E1 := rfl
@[simp ↓] theorem s_chain {o1 o2 : CmpOp} : tchain o1 o2 a b c σ G Q E1 = a σ G (fun x G1 => b σ G1 (fun y G2 => cmpV o1 x y G2 (fun z G3 => ∃ k, z = .bl k ∧ if k = true then c σ G3 (fun u G4 => cmpV o2 y u G4 Q) E1 else Q (.bl false) G3)) E1) E1 := rfl
@[simp ↓] theorem s_star {QA : List D → Gp → Prop} : tstar a ta σ G QA E1 = a σ G (fun x G1 => ∃ xs, seqA G1 x = some xs ∧ ta σ G1 (fun ys G2 => QA (xs ++ ys) G2) E1) E1 := rfl
@[simp ↓] theorem s_make {w : Bool} {k n : Nat} {f : F3} {dd : List D} : tmake w k n f dd ta σ G Q E1 = ta σ G (fun xs G1 => ∀ p, G1 p = none → (D.ref p :: (xs ++ dd)).length = n ∧ f (.ref p :: (xs ++ dd)) (gset G1 p (.ins k [])) (keepI w k p Q) (fun x G2 => E1 x (gdel G2 p))) E1 := rfl
@[simp ↓] theorem s_bm {m : Mt} : tbm m a ta σ G Q E1 = a σ G (fun x G1 => (∃ xs, seqL G1 x = some xs) ∧ ta σ G1 (fun ds G2 => mtV m x ds G2 Q) E1) E1 := rfl
@[simp ↓] theorem s_sumv : tsumv a σ G Q E1 = a σ G (fun x G1 => ∃ kvs is, dicK G1 x = some kvs ∧ intsOf (kvs.map (·.2)) = some is ∧ Q (.int is.sum) G1) E1 := rfl
@[simp ↓] theorem s_dzip {w : Bool} : tdzip w a b σ G Q E1 = a σ G (fun x G1 => b σ G1 (fun y G2 => ∃ xs ys ks, tupA x = some xs ∧ tupA y = some ys ∧ keyDs xs = some ks ∧ newD w (mergeD (List.zip ks ys)) G2 Q) E1) E1 := rfl
@[simp ↓] theorem s_dict0 {w : Bool} : tdict0 w σ G Q E1 = newD w [] G Q := rfl
@[simp ↓] theorem s_kin {kvs : List (Str × D)} {neg : Bool} {x : Str} : kinV kvs neg (.str x) G Q = Q (.bl ((kvs.lookup x).isSome != neg)) G := propext ⟨fun ⟨_, e, h⟩ => by cases e; exact h, fun h => ⟨_, rfl, h⟩⟩
@[simp ↓] theorem s_kix {kvs : List (Str × D)} {x : Str} : kixV kvs (.str x) G Q = ∃ d, kvs.lookup x = some d ∧ Q d G := propext ⟨fun ⟨_, d, e, h⟩ => by cases e; exact ⟨d, h⟩, fun ⟨d, h⟩ => ⟨_, d, rfl, h⟩⟩
end
section
variable {w : Bool} {i j : Int} {x y z : Str} {G : Gp} {Q : K3} {xs ys : List D} {p : Addr} {d e : D} {R : Gp → Prop} {b b' : Bool}
@[simp ↓] theorem b_addT : binV w .Add (.tup xs) (.tup ys) G Q = (xs.length + ys.length ≤ sizeLine ∧ Q (.tup (xs ++ ys)) G) := by
  show catV w _ _ G Q = _
  refine propext ⟨fun h => ?_, fun ⟨h, q⟩ => .inl ⟨xs, ys, rfl, rfl, h, ?_⟩⟩
  · rcases h with ⟨a, b, e1, e2, hz, q⟩ | ⟨a, b, e1, _⟩
    · cases e1; cases e2
      refine ⟨hz, ?_⟩
      split at q
      · rename_i h; subst h; simpa using q
      · split at q
        · rename_i h; subst h; simpa using q
        · exact q
    · cases e1
  · split
    · rename_i h; subst h; simpa using q
    · split
      · rename_i h; subst h; simpa using q
      · exact q
@[simp ↓] theorem b_addL : binV false .Add (.lst xs) (.lst ys) G Q = (xs.length + ys.length ≤ sizeLine ∧ Q (.lst (xs ++ ys)) G) := by
  show catV false _ _ G Q = _
  refine propext ⟨fun h => ?_, fun ⟨h, q⟩ => .inr ⟨xs, ys, rfl, rfl, h, q⟩⟩
  rcases h with ⟨a, b, e1, _⟩ | ⟨a, b, e1, e2, hz, q⟩
  · cases e1
  · cases e1; cases e2
    exact ⟨hz, q⟩
@[simp ↓] theorem b_addS : binV w .Add (.str x) (.str y) G Q = (x.length + y.length ≤ sizeLine ∧ Q (.str (x ++ y)) G) := rfl
@[simp ↓] theorem sl_tup {lo hi : Option Int} : slV w (.tup xs) lo hi G Q = Q (.tup (cutD xs lo hi)) G := by
  refine propext ⟨fun h => ?_, fun h => .inl ⟨xs, rfl, ?_⟩⟩
  · rcases h with ⟨a, e, h⟩ | ⟨a, e, _⟩
    · cases e
      split at h
      · rename_i c; rw [cut_all c]; exact h
      · exact h
    · cases e
  · split
    · rename_i c; rw [cut_all c] at h; exact h
    · exact h
@[simp ↓] theorem sl_lst {lo hi : Option Int} : slV false (.lst xs) lo hi G Q = Q (.lst (cutD xs lo hi)) G := by
  refine propext ⟨fun h => ?_, fun h => .inr ⟨xs, rfl, h⟩⟩
  rcases h with ⟨a, e, h⟩ | ⟨a, e, h⟩
  · cases e
  · cases e; exact h
@[simp ↓] theorem len_tup : lenD G (.tup xs) = some xs.length := rfl
@[simp ↓] theorem len_tuf : lenD G (.tuf xs) = some xs.length := rfl
@[simp ↓] theorem len_lst : lenD G (.lst xs) = some xs.length := rfl
@[simp ↓] theorem len_dk {kvs : List (Key × D)} : lenD G (.dk kvs) = some kvs.length := rfl
@[simp ↓] theorem tru_tup : truD G (.tup xs) = some (!xs.isEmpty) := rfl
@[simp ↓] theorem tru_lst : truD G (.lst xs) = some (!xs.isEmpty) := rfl
@[simp ↓] theorem walk_tup : walkD G (.tup xs) = some xs := rfl
@[simp ↓] theorem walk_tuf : walkD G (.tuf xs) = some xs := rfl
@[simp ↓] theorem walk_lst : walkD G (.lst xs) = some xs := rfl
@[simp ↓] theorem walk_str : walkD G (.str x) = some (x.cps.toList.map fun c => D.str ⟨#[c]⟩) := rfl
@[simp ↓] theorem seqA_tup : seqA G (.tup xs) = some xs := rfl
@[simp ↓] theorem seqA_tuf : seqA G (.tuf xs) = some xs := rfl
@[simp ↓] theorem seqA_lst : seqA G (.lst xs) = some xs := rfl
@[simp ↓] theorem seqL_lst : seqL G (.lst xs) = some xs := rfl
@[simp ↓] theorem tupA_tup : tupA (.tup xs) = some xs := rfl
@[simp ↓] theorem tupA_tuf : tupA (.tuf xs) = some xs := rfl
theorem seqL_ref (h : G p = some (.lst xs)) : seqL G (.ref p) = some xs := by unfold seqL; simp [h]
theorem seqA_ref (h : G p = some (.lst xs)) : seqA G (.ref p) = some xs := seqL_ref h
theorem walk_ref (h : G p = some (.lst xs)) : walkD G (.ref p) = some xs := seqL_ref h
theorem len_ref (h : G p = some (.lst xs)) : lenD G (.ref p) = some xs.length := by unfold lenD; simp [h]
theorem dicK_ref {kvs : List (Key × D)} (h : G p = some (.dk kvs)) : dicK G (.ref p) = some kvs := by unfold dicK; simp [h]
theorem ins_ref {c : Nat} {fs : List (Nat × D)} (h : G p = some (.ins c fs)) : insD G (.ref p) = some (c, fs) := by unfold insD; simp [h]
@[simp ↓] theorem ins_obj {c : Nat} {fs : List (Nat × D)} : insD G (.obj c fs) = some (c, fs) := rfl
theorem ix_dref {kvs : List (Key × D)} (h : G p = some (.dk kvs)) : ixV (.ref p) (.str x) G Q = ∃ d, getK kvs (.inr x) = some d ∧ Q d G := by
  unfold ixV
  simp [seqA, seqL, h, dget, dicK, keyD]
theorem set_dref {kvs : List (Key × D)} (h : G p = some (.dk kvs)) : setW (.ref p) (.str x) d G R = (kvs.length < sizeLine ∧ R (gset G p (.dk (putD kvs (.inr x) d)))) := by
  unfold setW
  simp [h, keyD]
theorem app_ref (h : G p = some (.lst xs)) : mtV .append (.ref p) [d] G Q = (xs.length < sizeLine ∧ Q .non (gset G p (.lst (xs ++ [d])))) := by
  refine propext ⟨fun ⟨a, e, h1, h2⟩ => ?_, fun ⟨h1, h2⟩ => ⟨xs, h, h1, h2⟩⟩
  rw [h] at e; cases e
  exact ⟨h1, h2⟩
@[simp ↓] theorem c_is : cmpV .Is d .non G Q = Q (.bl (isNon d)) G := by cases d <;> rfl
@[simp ↓] theorem c_isnot : cmpV .IsNot d .non G Q = Q (.bl (!isNon d)) G := by cases d <;> rfl
@[simp] theorem isNon_non : isNon .non = true := rfl
@[simp] theorem isNon_int : isNon (.int i) = false := rfl
@[simp] theorem isNon_str : isNon (.str x) = false := rfl
@[simp] theorem isNon_tup : isNon (.tup xs) = false := rfl
@[simp] theorem isNon_bl : isNon (.bl b) = false := rfl
@[simp ↓] theorem c_ltS : cmpV .Lt (.str x) (.str y) G Q = Q (.bl (decide (x.cps.toList < y.cps.toList))) G := rfl
/-- == of two things by their data -/
theorem c_eq {u v : PyData} (h1 : toPyG G d = some u) (h2 : toPyG G e = some v) (s1 : SeqAt.shaped u = true) (s2 : SeqAt.shaped v = true) : cmpV .Eq d e G Q = Q (.bl (PyData.eqv u v)) G := by
  show (∃ _ _, _) = _
  refine propext ⟨fun ⟨a, b, e1, e2, _, _, q⟩ => ?_, fun q => ⟨u, v, h1, h2, s1, s2, q⟩⟩
  rw [h1] at e1; rw [h2] at e2; cases e1; cases e2; exact q
theorem c_ne {u v : PyData} (h1 : toPyG G d = some u) (h2 : toPyG G e = some v) (s1 : SeqAt.shaped u = true) (s2 : SeqAt.shaped v = true) : cmpV .NotEq d e G Q = Q (.bl (!PyData.eqv u v)) G := by
  show (∃ _ _, _) = _
  refine propext ⟨fun ⟨a, b, e1, e2, _, _, q⟩ => ?_, fun q => ⟨u, v, h1, h2, s1, s2, q⟩⟩
  rw [h1] at e1; rw [h2] at e2; cases e1; cases e2; exact q
theorem beq_dec {α : Type} [DecidableEq α] {a b : α} : (a == b) = decide (a = b) := by
  by_cases h : a = b
  · simp [h]
  · simp [h]
@[simp ↓] theorem c_eqI : cmpV .Eq (.int i) (.int j) G Q = Q (.bl (decide (i = j))) G := by rw [c_eq (u := .int i) (v := .int j) rfl rfl rfl rfl, PyData.eqv]; rfl
@[simp ↓] theorem c_neI : cmpV .NotEq (.int i) (.int j) G Q = Q (.bl (!decide (i = j))) G := by rw [c_ne (u := .int i) (v := .int j) rfl rfl rfl rfl, PyData.eqv]; rfl
theorem shaped_str : SeqAt.shaped (.str x) = PyData.strOk x := by
  unfold SeqAt.shaped
  simp [PyData.canLay0, PyData.depth]
@[simp ↓] theorem c_eqS : cmpV .Eq (.str x) (.str y) G Q = (PyData.strOk x = true ∧ PyData.strOk y = true ∧ Q (.bl (decide (x = y))) G) := by
  refine propext ⟨fun h => ?_, fun ⟨h1, h2, q⟩ => ?_⟩
  · obtain ⟨a, b, e1, e2, h1, h2, q⟩ := h
    cases e1; cases e2
    rw [PyData.eqv, beq_dec] at q
    rw [shaped_str] at h1 h2
    exact ⟨h1, h2, q⟩
  · rw [c_eq (u := .str x) (v := .str y) rfl rfl (by rw [shaped_str]; exact h1) (by rw [shaped_str]; exact h2), PyData.eqv, beq_dec]
    exact q
@[simp ↓] theorem c_neS : cmpV .NotEq (.str x) (.str y) G Q = (PyData.strOk x = true ∧ PyData.strOk y = true ∧ Q (.bl (!decide (x = y))) G) := by
  refine propext ⟨fun h => ?_, fun ⟨h1, h2, q⟩ => ?_⟩
  · obtain ⟨a, b, e1, e2, h1, h2, q⟩ := h
    cases e1; cases e2
    rw [PyData.eqv, beq_dec] at q
    rw [shaped_str] at h1 h2
    exact ⟨h1, h2, q⟩
  · rw [c_ne (u := .str x) (v := .str y) rfl rfl (by rw [shaped_str]; exact h1) (by rw [shaped_str]; exact h2), PyData.eqv, beq_dec]
    exact q
@[simp ↓] theorem c_in : cmpV .In d e G Q = ∃ k, inD G d e = some k ∧ Q (.bl k) G := by cases d <;> rfl
@[simp ↓] theorem c_nin : cmpV .NotIn d e G Q = ∃ k, inD G d e = some k ∧ Q (.bl (!k)) G := by cases d <;> rfl
end
@[simp] theorem ofS_eq {a b : String} : (Str.ofString a = Str.ofString b) = (a = b) := by
  refine propext ⟨fun h => ?_, fun h => by rw [h]⟩
  rw [Str.ofString_eq_toList, Str.ofString_eq_toList] at h
  have h1 := congrArg (fun z : Str => z.cps.toList) h
  simp at h1
  have inj : ∀ c d : Char, c.toNat = d.toNat → c = d := fun c d e => Char.ext (UInt32.toNat_inj.mp e)
  have : a.toList = b.toList := by
    clear h
    generalize a.toList = x at h1 ⊢
    generalize b.toList = y at h1 ⊢
    induction x generalizing y with
    | nil => cases y <;> simp at h1 ⊢
    | cons c x ih =>
      cases y with
      | nil => simp at h1
      | cons d y =>
        simp at h1 ⊢
        exact ⟨inj _ _ h1.1, ih _ h1.2⟩
  exact String.toList_inj.mp this
@[simp] theorem ofS_ok {a : String} : PyData.strOk (Str.ofString a) = true := by
  rw [Str.ofString_eq_toList]
  unfold PyData.strOk
  rw [← Array.all_toList, List.all_eq_true]
  intro c hc
  simp at hc
  obtain ⟨d, _, rfl⟩ := hc
  have hv : d.toNat < 0x110000 := by
    rcases d.valid with h | h
    · exact Nat.lt_of_lt_of_le h (by decide)
    · exact h.2
  simpa using hv
@[simp] theorem wipe_nil {σ : S3} : wipe3 σ [] = σ := rfl
@[simp] theorem wipe_cons {σ : S3} {v : Nat} {vs : List Nat} : wipe3 σ (v :: vs) = (wipe3 σ vs).set v none := rfl
@[simp ↓] theorem inD_str {G : Gp} {a b : Str} : inD G (.str a) (.str b) = some (!(Builtin.Str.occurrences b a 0 b.length 1).isEmpty) := rfl
theorem inD_flat {G : Gp} {x y : D} {ys : List D} (hy : seqA G y = some ys) (hx : flatD x = true) (ha : ys.all flatD = true) : inD G x y = some (ys.any fun z => eqF z x) := by
  have hn : ∀ b, y ≠ .str b := fun b e => by subst e; cases hy
  unfold inD
  split
  · exact absurd rfl (hn _)
  · rw [hy]
    simp [hx, ha]
theorem flat_strs (ns : List Str) : (ns.map D.str).all flatD = true := by simp [flatD]
theorem any_strs (ns : List Str) (x : Str) : (ns.map D.str).any (fun z => eqF z (.str x)) = decide (x ∈ ns) := by
  induction ns with
  | nil => rfl
  | cons a r ih =>
    simp only [List.map_cons, List.any_cons, ih, List.mem_cons]
    show ((a == x) || _) = _
    by_cases h : a = x
    · simp [h]
    · have h' : ¬ x = a := fun e => h e.symm
      simp [h, h']
theorem six0 {n d k : Nat} : HT.sIx n d (some (k : Int)) = min k n := HT.sIx_nat n d k
theorem cut_to {xs : List D} {n : Nat} : V3.cutD xs none (some (n : Int)) = xs.take n := by
  unfold V3.cutD
  rw [six0, HT.sIx_none]
  simp only [List.drop_zero, Nat.sub_zero]
  rw [List.take_eq_take_iff]
  omega
theorem cut_from {xs : List D} {n : Nat} : V3.cutD xs (some (n : Int)) none = xs.drop n := by
  unfold V3.cutD
  rw [six0, HT.sIx_none]
  rcases Nat.le_total n xs.length with h | h
  · rw [Nat.min_eq_left h, List.take_of_length_le (by simp)]
  · rw [Nat.min_eq_right h, List.drop_eq_nil_of_le (Nat.le_refl _), List.drop_eq_nil_of_le h]
    simp
/-! ### comprehensions whose parts change nothing -/
section
variable {g : Tg} {tt : TT3} {te tk : T3} {σw : S3} {live : Gp → Prop} {G : Gp} {Q : K3} {xs : List D}
theorem lc_run (f : D → D) (b : D → Bool) (hz : xs.length < sizeLine) {p : Addr} (hp : G p = none) (hl : ∀ acc, live (gset G p (.lst acc)))
    (he : ∀ d ∈ xs, ∃ σ2, g.run d σw = some σ2 ∧ (∀ (G' : Gp) (QT : Bool → Gp → Prop), Sub G G' → QT (b d) G' → tt σ2 G' QT eF) ∧ (b d = true → ∀ (G' : Gp) (Q : K3), Sub G G' → Q (f d) G' → te σ2 G' Q eF)) {K : Gp → Prop}
    (hK : K (gset G p (.lst ((xs.filter b).map f)))) : lcW g tt te σw p live K xs (gset G p (.lst [])) := by
  refine lcW_map (G0 := G) f b xs [] (by simpa using hz) hl (fun d hd acc R => ?_) (fun d hd hb acc Q σ2 e q => ?_) (by simpa using hK)
  · obtain ⟨σ2, e, h1, _⟩ := he d hd
    refine ⟨σ2, e, fun Q1 Q2 q1 q2 => h1 _ _ (Sub.new hp) ?_⟩
    cases hb : b d with
    | true => simpa using q1 hb
    | false => simpa using q2 hb
  · obtain ⟨σ3, e3, _, h2⟩ := he d hd
    rw [e] at e3; cases e3
    exact h2 hb _ _ (Sub.new hp) q
theorem lc_go (f : D → D) (b : D → Bool) (hz : xs.length < sizeLine) (hl : ∀ p acc, G p = none → live (gset G p (.lst acc)))
    (he : ∀ d ∈ xs, ∃ σ2, g.run d σw = some σ2 ∧ (∀ (G' : Gp) (QT : Bool → Gp → Prop), Sub G G' → QT (b d) G' → tt σ2 G' QT eF) ∧ (b d = true → ∀ (G' : Gp) (Q : K3), Sub G G' → Q (f d) G' → te σ2 G' Q eF))
    (hQ : Q (.lst ((xs.filter b).map f)) G) : ∀ p, G p = none → lcW g tt te σw p live (keepL false p Q) xs (gset G p (.lst [])) := fun p hp =>
  lc_run f b hz hp (fun acc => hl p acc hp) he ⟨_, gset_at, by rw [gdel_gset hp]; exact hQ⟩
theorem dcW_run (k : D → Key) (f : D → D) {p : Addr} (hp : G p = none) (hl : ∀ acc, live (gset G p (.dk acc))) {K : Gp → Prop} : ∀ (xs : List D) (acc : List (Key × D)), acc.length + xs.length < sizeLine →
    (∀ d ∈ xs, ∃ σ2, g.run d σw = some σ2 ∧ (∀ (G' : Gp) (QT : Bool → Gp → Prop), Sub G G' → QT true G' → tt σ2 G' QT eF) ∧ (∃ y, keyD y = some (k d) ∧ ∀ (G' : Gp) (Q : K3), Sub G G' → Q y G' → tk σ2 G' Q eF) ∧ (∀ (G' : Gp) (Q : K3), Sub G G' → Q (f d) G' → te σ2 G' Q eF)) →
    K (gset G p (.dk (xs.foldl (fun acc d => putD acc (k d) (f d)) acc))) → dcW g tt tk te σw p live K xs (gset G p (.dk acc))
  | [], acc, _, _, hK => ⟨hl _, hK⟩
  | d :: xs, acc, hz, he, hK => by
    obtain ⟨σ2, e, h1, ⟨y, hy, h2⟩, h3⟩ := he d List.mem_cons_self
    refine ⟨hl _, σ2, e, h1 _ _ (Sub.new hp) ?_⟩
    rw [if_pos rfl]
    refine h2 _ _ (Sub.new hp) (h3 _ _ (Sub.new hp) ⟨acc, k d, gset_at, hy, by simp only [List.length_cons] at hz; omega, ?_⟩)
    rw [gset_twice]
    refine dcW_run k f hp hl xs _ ?_ (fun d' hd' => he d' (List.mem_cons_of_mem _ hd')) hK
    have : (putD acc (k d) (f d)).length ≤ acc.length + 1 := by
      unfold putD
      split
      · simp
      · simp
    simp only [List.length_cons] at hz
    omega
end
end V3
set_option Elab.async false
set_option linter.all false
set_option maxRecDepth 100000
set_option maxHeartbeats 4000000
/-! V27: how long printed data are. -/
namespace V3
open PySem PySem.Spec L2 PyProof.Rows
theorem piled_le {B : Nat} : ∀ (ts : List Str), (∀ t ∈ ts, t.length ≤ B) → piled ts ≤ ts.length * (B + 2)
  | [], _ => by simp [piled]
  | t :: r, h => by
    rw [piled_cons, List.length_cons, Nat.succ_mul]
    have h1 := h t List.mem_cons_self
    have h2 := piled_le r fun u hu => h u (List.mem_cons_of_mem _ hu)
    omega
theorem slen_app (a b : Str) : (a ++ b).length = a.length + b.length := strLen_append a b
theorem listText_le : ∀ (ts : List Str), (PySem.listText ts).length ≤ piled ts + 2
  | [] => by decide
  | t :: r => by
    have h := textFrom_length_pos r 1 (("[" : Str) ++ (if (0 : Nat) > 0 then ", " else "" : String) ++ t) (Nat.succ_pos 0)
    have e : ((("[" : Str) ++ (if (0 : Nat) > 0 then ", " else "" : String) ++ t)).length = 1 + t.length := by
      rw [slen_app, slen_app]; rfl
    have hY : (textFrom 0 "[" (t :: r)).length = (textFrom 1 (("[" : Str) ++ (if (0 : Nat) > 0 then ", " else "" : String) ++ t) r).length := rfl
    unfold PySem.listText
    rw [slen_app, hY, h, e, piled_cons]
    have : ("]" : Str).length = 1 := rfl
    omega
theorem tupleText_le : ∀ (ts : List Str), (PySem.tupleText ts).length ≤ piled ts + 3
  | [] => by decide
  | t :: r => by
    have h := join_length_add (t :: r) (by simp)
    have h3 : ∀ b : Bool, (Str.ofString (if b = true then ",)" else ")")).length ≤ 2 := by decide
    unfold PySem.tupleText
    rw [slen_app, slen_app]
    have h1 : ("(" : Str).length = 1 := rfl
    have := h3 ((t :: r).length == 1)
    omega
theorem shownAll_len {B : Nat} : ∀ (xs : List PyData), (∀ x ∈ xs, x.shown.length ≤ B) → ∀ t ∈ PyData.shownAll xs, t.length ≤ B
  | [], _, t, ht => by simp [PyData.shownAll] at ht
  | x :: xs, h, t, ht => by
    rw [PyData.shownAll] at ht
    rcases List.mem_cons.mp ht with rfl | ht
    · exact h x List.mem_cons_self
    · exact shownAll_len xs (fun y hy => h y (List.mem_cons_of_mem _ hy)) t ht
theorem shownAll_size : ∀ (xs : List PyData), (PyData.shownAll xs).length = xs.length
  | [] => rfl
  | x :: xs => by rw [PyData.shownAll]; simp [shownAll_size xs]
theorem shown_list {B : Nat} {xs : List PyData} (h : ∀ x ∈ xs, x.shown.length ≤ B) : (PyData.shown (.list xs)).length ≤ xs.length * (B + 2) + 2 := by
  rw [PyData.shown]
  have h1 := listText_le (PyData.shownAll xs)
  have h2 := piled_le _ (shownAll_len xs h)
  rw [shownAll_size] at h2
  omega
theorem shown_tup {B : Nat} {xs : List PyData} (h : ∀ x ∈ xs, x.shown.length ≤ B) : (PyData.shown (.tuple xs)).length ≤ xs.length * (B + 2) + 3 := by
  rw [PyData.shown]
  have h1 := tupleText_le (PyData.shownAll xs)
  have h2 := piled_le _ (shownAll_len xs h)
  rw [shownAll_size] at h2
  omega
theorem shown_int {i : Int} (h : i.natAbs < 10 ^ 30) : (PyData.shown (.int i)).length ≤ 31 := by
  rw [PyData.shown]
  show (Str.ofString (toString i)).length ≤ 31
  rw [PySem.ofString_length]
  exact int_text_length_le10 (k := 30) (by decide) h
theorem showable_int {i : Int} (h : i.natAbs < 10 ^ 30) : PyData.showable (.int i) = true := by
  rw [PyData.showable]
  have : i.natAbs.log2 < 1920 := by
    by_cases z : i.natAbs = 0
    · rw [z]; decide
    · exact (Nat.log2_lt z).mpr (Nat.lt_of_lt_of_le h (by decide))
  exact decide_eq_true this
/-! letters of printed data -/
theorem ok_app {a b : Str} : PyData.strOk (a ++ b) = (PyData.strOk a && PyData.strOk b) := by
  unfold PyData.strOk
  show (a.cps ++ b.cps).all _ = _
  rw [Array.all_append]
theorem ok_textFrom : ∀ (ts : List Str) (k : Nat) (acc : Str), PyData.strOk acc = true → (∀ t ∈ ts, PyData.strOk t = true) → PyData.strOk (textFrom k acc ts) = true
  | [], _, acc, h, _ => h
  | t :: r, k, acc, h, ht => by
    refine ok_textFrom r (k + 1) _ ?_ fun u hu => ht u (List.mem_cons_of_mem _ hu)
    rw [ok_app, ok_app, h, ht t List.mem_cons_self]
    simp
theorem ok_listText {ts : List Str} (h : ∀ t ∈ ts, PyData.strOk t = true) : PyData.strOk (PySem.listText ts) = true := by
  unfold PySem.listText
  rw [ok_app, ok_textFrom ts 0 _ ofS_ok h]
  exact ofS_ok
theorem ok_join : ∀ (ts : List Str), (∀ t ∈ ts, PyData.strOk t = true) → PyData.strOk (Str.join ", " ts) = true
  | [], _ => by decide +kernel
  | [x], h => h x List.mem_cons_self
  | x :: y :: r, h => by
    show PyData.strOk (x ++ ", " ++ Str.join ", " (y :: r)) = true
    rw [ok_app, ok_app, h x List.mem_cons_self, ok_join (y :: r) fun t ht => h t (List.mem_cons_of_mem _ ht)]
    simp
theorem ok_tupleText {ts : List Str} (h : ∀ t ∈ ts, PyData.strOk t = true) : PyData.strOk (PySem.tupleText ts) = true := by
  unfold PySem.tupleText
  rw [ok_app, ok_app, ok_join ts h]
  simp
theorem shownAll_ok : ∀ (xs : List PyData), (∀ x ∈ xs, PyData.strOk x.shown = true) → ∀ t ∈ PyData.shownAll xs, PyData.strOk t = true
  | [], _, t, ht => by simp [PyData.shownAll] at ht
  | x :: xs, h, t, ht => by
    rw [PyData.shownAll] at ht
    rcases List.mem_cons.mp ht with rfl | ht
    · exact h x List.mem_cons_self
    · exact shownAll_ok xs (fun y hy => h y (List.mem_cons_of_mem _ hy)) t ht
theorem showableAll_of : ∀ (xs : List PyData), (∀ x ∈ xs, x.showable = true) → PyData.showableAll xs = true
  | [], _ => rfl
  | x :: xs, h => by
    rw [PyData.showableAll, h x List.mem_cons_self, showableAll_of xs fun y hy => h y (List.mem_cons_of_mem _ hy)]
    rfl
theorem canLayAll_of : ∀ (xs : List PyData), (∀ x ∈ xs, x.canLay0 = true) → PyData.canLayAll0 xs = true
  | [], _ => rfl
  | x :: xs, h => by
    rw [PyData.canLayAll0, h x List.mem_cons_self, canLayAll_of xs fun y hy => h y (List.mem_cons_of_mem _ hy)]
    rfl
theorem depthAll_le {n : Nat} : ∀ (xs : List PyData), (∀ x ∈ xs, x.depth ≤ n) → PyData.depthAll xs ≤ n
  | [], _ => by simp [PyData.depthAll]
  | x :: xs, h => by
    rw [PyData.depthAll]
    have h1 := h x List.mem_cons_self
    have h2 := depthAll_le xs fun y hy => h y (List.mem_cons_of_mem _ hy)
    omega
/-- printed data that are neither long nor odd: at most B signs, at most n deep -/
structure Small (n B : Nat) (d : PyData) : Prop where
  sh : d.showable = true
  cl : d.canLay0 = true
  dp : d.depth ≤ n
  ok : PyData.strOk d.shown = true
  ln : d.shown.length ≤ B
theorem Small.int {n : Nat} {i : Int} (h : i.natAbs < 10 ^ 30) : Small n 31 (.int i) := ⟨showable_int h, rfl, by simp [PyData.depth], by rw [PyData.shown]; exact ofS_ok, shown_int h⟩
theorem Small.le {n m B C : Nat} {d : PyData} (h : Small n B d) (h1 : n ≤ m) (h2 : B ≤ C) : Small m C d := ⟨h.sh, h.cl, by have := h.dp; omega, h.ok, by have := h.ln; omega⟩
theorem Small.list {n B : Nat} {xs : List PyData} (h : ∀ x ∈ xs, Small n B x) : Small (n + 1) (xs.length * (B + 2) + 2) (.list xs) := by
  refine ⟨?_, ?_, ?_, ?_, shown_list fun x hx => (h x hx).ln⟩
  · rw [PyData.showable]; exact showableAll_of xs fun x hx => (h x hx).sh
  · rw [PyData.canLay0]; exact canLayAll_of xs fun x hx => (h x hx).cl
  · rw [PyData.depth]; have := depthAll_le xs fun x hx => (h x hx).dp; omega
  · rw [PyData.shown]; exact ok_listText (shownAll_ok xs fun x hx => (h x hx).ok)
theorem Small.tup {n B : Nat} {xs : List PyData} (h : ∀ x ∈ xs, Small n B x) : Small (n + 1) (xs.length * (B + 2) + 3) (.tuple xs) := by
  refine ⟨?_, ?_, ?_, ?_, shown_tup fun x hx => (h x hx).ln⟩
  · rw [PyData.showable]; exact showableAll_of xs fun x hx => (h x hx).sh
  · rw [PyData.canLay0]; exact canLayAll_of xs fun x hx => (h x hx).cl
  · rw [PyData.depth]; have := depthAll_le xs fun x hx => (h x hx).dp; omega
  · rw [PyData.shown]; exact ok_tupleText (shownAll_ok xs fun x hx => (h x hx).ok)
theorem Small.shaped {n B : Nat} {d : PyData} (h : Small n B d) (hn : n ≤ 64) : SeqAt.shaped d = true := by
  unfold SeqAt.shaped
  rw [h.cl]
  have := h.dp
  simp
  omega
/-- repr -/
theorem b_repr {n B : Nat} {d : D} {p : PyData} {w : Bool} {G : Gp} {Q : K3} (h : toPyG G d = some p) (s : Small n B p) (hn : n ≤ 64) (hB : B ≤ sizeLine) (hq : Q (.str p.shown) G) : bfV w .repr [d] G Q :=
  ⟨p, h, s.sh, s.shaped hn, Nat.le_trans s.ln hB, hq⟩
/-- the data of trees, one by one -/
inductive Pys : List D → List PyData → Prop
  | nil : Pys [] []
  | cons {d : D} {p : PyData} {ds : List D} {ps : List PyData} : toPy d = some p → Pys ds ps → Pys (d :: ds) (p :: ps)
theorem Pys.py {ds : List D} {ps : List PyData} (h : Pys ds ps) : toPys ds = some ps := by
  induction h with
  | nil => rfl
  | cons h _ ih => simp [toPys, h, ih]
theorem toPys_map {α : Type} {f : α → D} {g : α → PyData} : ∀ (xs : List α), (∀ x ∈ xs, toPy (f x) = some (g x)) → toPys (xs.map f) = some (xs.map g)
  | [], _ => rfl
  | x :: xs, h => by
    simp only [List.map_cons, toPys, h x List.mem_cons_self, toPys_map xs fun y hy => h y (List.mem_cons_of_mem _ hy)]
end V3
set_option Elab.async false
set_option linter.all false
set_option maxRecDepth 100000
set_option maxHeartbeats 2000000
/-! V28: == and != of instances of a class with an own __eq__ -/
namespace V3N
open PySem PySem.Spec PyProof.Rows
section
variable {prog : Program} {w : World} {A : Around} {E : Value → Shared → Prop} {s : Shared} {K : PySem.W.Frag} {x C f : Addr} {ox : Obj} {od : Option Obj} {b : Value}
theorem neBuilt (hu : A.units < cLine) (X : K.In s.heap) (I : PySem.W.InstAt s.heap x ox C od) (he : PySem.W.findIn K (.ref C) "__eq__" = some (some (.ref f))) (hf : PySem.W.isFn K (.ref f) = true) {Q : Fin → Shared → Prop}
    (hcall : wpAny (model prog w) A (call (.ref f) [.ref x, b]) (fun v s' => ∃ c, v = .bool c ∧ Q (.done (.ret (.bool (!c)))) s') E s) :
    wpAny (model prog w) A (Builtin.«object.__ne__» ⟨[.ref x, b], []⟩) Q E s := by
  unfold Builtin.«object.__ne__»
  repeat (first
    | with_reducible refine wpAny_cRoomFor hu ?_
    | (refine wpAny_bind (m := callSpecialIfBound? (.ref x) (Str.ofString "__eq__") [b])
        (PySem.W.ifBound_K X I he hf (wpAny_mono hcall (fun z s1 zz => by
          obtain ⟨c, rfl, q⟩ := zz
          repeat (first | exact q | exact wpAny_pure q | exact wpAny_truthy_bool q | (refine wpAny_bind (m := truthy (.bool _)) (wpAny_truthy_bool ?_)) | wp_step)) fun _ _ z => z)))
    | wp_step)
theorem neCall (hu : A.in1.units < cLine) (X : K.In s.heap) (I : PySem.W.InstAt s.heap x ox C od) (hm : PySem.W.mroIn K C (.type "object") = some true) (he : PySem.W.findIn K (.ref C) "__eq__" = some (some (.ref f))) (hf : PySem.W.isFn K (.ref f) = true) {Q : Value → Shared → Prop}
    (hcall : wpAny (model prog w) A.in1 (call (.ref f) [.ref x, b]) (fun v s' => ∃ c, v = .bool c ∧ Q (.bool (!c)) s') E s) :
    wpAny (model prog w) A (call (.builtin "object.__ne__") [.ref x, b]) Q E s :=
  wpAny_call (codeAny_call_builtin F.cmp_object.ne.plain F.cmpEntry_ne
    (PySem.W.check_slot F.cmpKind_ne F.cmpSplit_ne (I.type.andThen (PySem.W.looks_mroIn X hm)) (F.cmpArgs_ne _ _)
      (neBuilt (A := A.in1) hu X I he hf (wpAny_mono hcall (fun v s1 hv => hv) fun _ _ z => z))))
theorem neBound {args : List Value} {Q : Option Value → Shared → Prop} (X : K.In s.heap) (I : PySem.W.InstAt s.heap x ox C od) (hs : PySem.W.findIn K (.ref C) "__ne__" = some (some (.builtin "object.__ne__")))
    (h : wpAny (model prog w) A (call (.builtin "object.__ne__") (.ref x :: args)) (fun v => Q (some v)) E s) : wpAny (model prog w) A (callSpecialIfBound? (.ref x) "__ne__" args) Q E s := by
  simp only [callSpecialIfBound?, bindSpecialIfBound?]
  refine wpAny_holding (wpAny_bind (wpAny_bind (wpAny_bind (I.type.here ((PySem.W.looks_findIn X hs).here ?_)))))
  refine wpAny_bind (wpAny_askSetting (wpAny_ite ?_))
  have last : wpAny (model prog w) A (call (.builtin "object.__ne__") ([.ref x] ++ args) >>= fun v => pure (some v)) Q E s := wpAny_bind (wpAny_mono h (fun v s1 z => wpAny_pure z) fun _ _ z => z)
  split
  · exact wpAny_bind (wpAny_of_eq (F.cmp_object.ne.bind _) (wpAny_pure (by exact last)))
  · exact wpAny_tryCatch (wpAny_bind (wpAny_of_eq (F.cmp_object.ne.bind _) (wpAny_pure (by exact last))))
theorem neRich {tb : Value} (hu : A.units + 1 < cLine) (X : K.In s.heap) (I : PySem.W.InstAt s.heap x ox C od) (hb : PySem.W.Looks (model prog w) s.heap (typeOf b) tb) (hn : tb = .ref C) (hm : PySem.W.mroIn K C (.type "object") = some true)
    (hne : PySem.W.findIn K (.ref C) "__ne__" = some (some (.builtin "object.__ne__"))) (he : PySem.W.findIn K (.ref C) "__eq__" = some (some (.ref f))) (hf : PySem.W.isFn K (.ref f) = true) {Q : Value → Shared → Prop}
    (hcall : wpAny (model prog w) A.in1 (call (.ref f) [.ref x, b]) (fun v s' => ∃ c, v = .bool c ∧ Q (.bool (!c)) s') E s) :
    wpAny (model prog w) A (richCompare .NotEq (.ref x) b) Q E s := by
  subst hn
  have one : wpAny (model prog w) A (tryCompare (.ref x) "__ne__" b) (fun r s1 => ∃ v, r = some v ∧ Q v s1) E s := by
    unfold tryCompare
    refine wpAny_bind (neBound X I hne (neCall (show A.in1.units < cLine from hu) X I hm he hf (wpAny_mono hcall (fun v s1 z => ?_) fun _ _ z => z)))
    obtain ⟨c, rfl, q⟩ := z
    exact ⟨c, rfl, wpAny_pure ⟨_, rfl, q⟩⟩
  unfold richCompare
  simp only [oneThing_ref, cmpInfo_NotEq]
  refine wpAny_holding (wpAny_bind (wpAny_cRoomFor (by omega) ?_))
  refine wpAny_bind (I.type.here (wpAny_bind (hb.here ?_)))
  rw [show (Value.ref C != Value.ref C) = false from by simp]
  simp only [Bool.false_eq_true, if_false]
  refine wpAny_bind (wpAny_pure ?_)
  simp only [Bool.false_eq_true, if_false]
  refine wpAny_bind (wpAny_mono one (fun r s1 z => ?_) fun _ _ z => z)
  obtain ⟨v, rfl, q⟩ := z
  exact wpAny_pure q
end
end V3N
namespace V3
open PySem PySem.Spec L2 PyProof.Rows
/-- what a class with an own __eq__ must have -/
structure EqC (K : PySem.W.Frag) (c g : Addr) : Prop where
  eq : PySem.W.findIn K (.ref c) "__eq__" = some (some (.ref g))
  ne : PySem.W.findIn K (.ref c) "__ne__" = some (some (.builtin "object.__ne__"))
  fn : PySem.W.isFn K (.ref g) = true
  mro : PySem.W.mroIn K c (.type "object") = some true
def eqcB (K : PySem.W.Frag) (c g : Addr) : Bool := decide (PySem.W.findIn K (.ref c) "__eq__" = some (some (.ref g))) && (decide (PySem.W.findIn K (.ref c) "__ne__" = some (some (.builtin "object.__ne__"))) && (PySem.W.isFn K (.ref g) && decide (PySem.W.mroIn K c (.type "object") = some true)))
theorem eqcB_ok {K : PySem.W.Frag} {c g : Addr} (h : eqcB K c g = true) : EqC K c g := by
  obtain ⟨h1, h⟩ := Bool.and_eq_true_iff.mp h
  obtain ⟨h2, h⟩ := Bool.and_eq_true_iff.mp h
  obtain ⟨h3, h4⟩ := Bool.and_eq_true_iff.mp h
  exact ⟨of_decide_eq_true h1, of_decide_eq_true h2, h3, of_decide_eq_true h4⟩
/-- x == y, both of class c, whose __eq__ reads f -/
def ownEqV (c : Nat) (f : F3) (x y : D) (G : Gp) (Q : K3) : Prop := ∃ fs gs, insD G x = some (c, fs) ∧ insD G y = some (c, gs) ∧ f [x, y] G Q (fun _ _ => False)
def ownNeV (c : Nat) (f : F3) (x y : D) (G : Gp) (Q : K3) : Prop := ∃ fs gs, insD G x = some (c, fs) ∧ insD G y = some (c, gs) ∧ f [x, y] G (fun d G1 => ∃ b, d = .bl b ∧ Q (.bl (!b)) G1) (fun _ _ => False)
section
variable {C : Cn} {X : Cx} {W : WX} {k c : Nat} {f : Addr} {fd : FuncData} {ps : List Str} {f3 : F3}
theorem op_ownEq (B : Bd C X W k) (T : EqC C.K (C.cls c) f) (F : FnG X.prog X.w X.K X.mg X.base k f fd ps (upF C 2 f3)) (hb : Binds X.K fd ps []) : OpR X (compareOp .Eq) (upOp C (ownEqV c f3)) := by
  intro pins s σ H x y v u R I rx ry h
  obtain ⟨P, G, dx, dy, Q, r, vx, vy, ⟨fs, gs, e1, e2, q⟩, kk⟩ := h
  obtain ⟨a, ax, vs, rfl, h1, _⟩ := insD_ok r vx e1
  obtain ⟨b, bx, ws, rfl, h2, _⟩ := insD_ok r vy e2
  cases (show v = Value.ref a from rx)
  cases (show u = Value.ref b from ry)
  obtain ⟨m1, O1, _⟩ := ins_get I.hok h1
  obtain ⟨m2, O2, _⟩ := ins_get I.hok h2
  obtain ⟨od1, J1, _⟩ := O1.look
  obtain ⟨od2, J2, _⟩ := O2.look
  obtain ⟨m, hF⟩ := I.fr
  show wpAny _ _ (richCompare .Eq (.ref a) (.ref b)) _ _ _
  refine PySem.W.cmp_K (op := .Eq) (tb := .ref (C.cls c)) (by have := B.hu; omega) hF I.ok.mod.kin J1 J2.type (by unfold PySem.W.notFirst; simp) (by rw [B.hK]; exact T.eq) (by rw [B.hK]; exact T.fn) ?_
  refine wpAny_mono (run_fnG (us := [.ref a, .ref b]) (vs := [.ref a, .ref b]) F B hb .nil I (.cons rfl (.cons rfl .nil)) (Q := R) ⟨P, G, [dx, dy], Q, fun _ _ => False, r.b0, .cons vx (.cons vy .nil), rfl, q, kk.b0 r, fun _ _ _ _ _ _ _ _ _ z => z.elim⟩) (fun v s1 z => ?_) fun _ _ z => z
  obtain ⟨z1, H1, I1, rz, qz⟩ := z
  exact SlX.cmpback rz ⟨z1, H1, I1, rz, qz⟩
theorem op_ownNe (B : Bd C X W (k + 1)) (T : EqC C.K (C.cls c) f) (F : FnG X.prog X.w X.K X.mg X.base k f fd ps (upF C 2 f3)) (hb : Binds X.K fd ps []) : OpR X (compareOp .NotEq) (upOp C (ownNeV c f3)) := by
  intro pins s σ H x y v u R I rx ry h
  obtain ⟨P, G, dx, dy, Q, r, vx, vy, ⟨fs, gs, e1, e2, q⟩, kk⟩ := h
  obtain ⟨a, ax, vs, rfl, h1, _⟩ := insD_ok r vx e1
  obtain ⟨b, bx, ws, rfl, h2, _⟩ := insD_ok r vy e2
  cases (show v = Value.ref a from rx)
  cases (show u = Value.ref b from ry)
  obtain ⟨m1, O1, _⟩ := ins_get I.hok h1
  obtain ⟨m2, O2, _⟩ := ins_get I.hok h2
  obtain ⟨od1, J1, _⟩ := O1.look
  obtain ⟨od2, J2, _⟩ := O2.look
  show wpAny _ _ (richCompare .NotEq (.ref a) (.ref b)) _ _ _
  refine V3N.neRich (tb := .ref (C.cls c)) (by have := B.hu; omega) I.kIn J1 J2.type rfl (by rw [B.hK]; exact T.mro) (by rw [B.hK]; exact T.ne) (by rw [B.hK]; exact T.eq) (by rw [B.hK]; exact T.fn) ?_
  refine wpAny_call (codeAny_mono (F.go X.A.in1 X.stack s H ⟨[.ref a, .ref b], []⟩ [.ref a, .ref b] [.ref a, .ref b] (fun v H1 => ∃ b, v = .bl b ∧ R (.bl (!b)) H1) (WE W σ) B.hr.in1 B.hg I.env0.in1 (hb s _ I.kIn (by exact F.len [.ref a, .ref b] _ _ _ ?g)) (.cons rfl (.cons rfl .nil)) ?g) fun res s1 hq => ?_)
  case g =>
    exact ⟨P, G, [dx, dy], _, fun _ _ => False, r.b0, .cons vx (.cons vy .nil), rfl, q, (fun P' G' H' d v l r1 rv ⟨b, e, q1⟩ => by subst e; cases rv; exact ⟨b, rfl, (kk.b0 r) P' G' H' _ _ l r1 (.bl _) q1⟩), fun _ _ _ _ _ _ _ _ _ z => z.elim⟩
  cases res with
  | error ev => exact passAt B.tk σ pins H s ev s1 I hq
  | ok fl =>
    cases fl with
    | ret u =>
      obtain ⟨z1, H1, I1, rz, bb, rfl, qz⟩ := I.after hq
      cases (show u = Value.bool bb from rz)
      exact ⟨bb, rfl, .bl (!bb), H1, I1, rfl, qz⟩
    | next => exact (show False from hq).elim
    | brk => exact (show False from hq).elim
    | cont => exact (show False from hq).elim
theorem dok_nil {P : Program} {w : World} {K : PySem.W.Frag} {mg : Str → Option Value} {base : Heap} {n : Nat} {ar : List (List D)} (d : Dok P w K mg base C k f ps n f3 ar) (hdd : [] ∈ ar) : ∃ fd, FnG P w K mg base k f fd ps (upF C n f3) ∧ Binds K fd ps [] := by
  obtain ⟨fd, h1, h2, h3⟩ := d
  obtain ⟨dvs, dus, v1, v2, v3⟩ := h3 [] hdd
  cases v2 (fun _ => none)
  cases v1
  exact ⟨fd, h1, v3⟩
theorem c_ownEq {kf : Nat} {ar : List (List D)} (d : Dok X.prog X.w X.K X.mg X.base C kf f ps 2 f3 ar) (B : Bd C X W k) (hk : kf ≤ k) (hdd : [] ∈ ar) (T : EqC C.K (C.cls c) f) : OpR X (compareOp .Eq) (upOp C (ownEqV c f3)) := by
  obtain ⟨fd, h1, h2⟩ := dok_nil d hdd
  exact op_ownEq B T (h1.mono hk) h2
theorem c_ownNe {kf : Nat} {ar : List (List D)} (d : Dok X.prog X.w X.K X.mg X.base C kf f ps 2 f3 ar) (B : Bd C X W k) (hk : kf + 1 ≤ k) (hdd : [] ∈ ar) (T : EqC C.K (C.cls c) f) : OpR X (compareOp .NotEq) (upOp C (ownNeV c f3)) := by
  obtain ⟨fd, h1, h2⟩ := dok_nil d hdd
  obtain ⟨k', rfl⟩ : ∃ k', k = k' + 1 := ⟨k - 1, by omega⟩
  exact op_ownNe B T (h1.mono (by omega)) h2
end
end V3
set_option Elab.async false
set_option linter.all false
set_option maxRecDepth 100000
set_option maxHeartbeats 2000000
/-! V29: plain trees compared -/
namespace V3
open PySem PySem.Spec L2 PyProof.Rows
/-- a tree that is data, at most n deep -/
def Plain (n : Nat) (x : D) : Prop := ∃ p, toPy x = some p ∧ p.canLay0 = true ∧ p.depth ≤ n
theorem toPyG_of {x : D} {p : PyData} {G : Gp} (h : toPy x = some p) : toPyG G x = some p := by
  cases x <;> first | exact h | cases h
theorem Plain.int {n : Nat} {i : Int} : Plain n (.int i) := ⟨_, rfl, rfl, by simp [PyData.depth]⟩
theorem Plain.bl {n : Nat} {b : Bool} : Plain n (.bl b) := ⟨_, rfl, rfl, by simp [PyData.depth]⟩
theorem Plain.non {n : Nat} : Plain n .non := ⟨_, rfl, rfl, by simp [PyData.depth]⟩
theorem Plain.str {n : Nat} {x : Str} (h : PyData.strOk x = true) : Plain n (.str x) := ⟨_, rfl, by rw [PyData.canLay0]; exact h, by simp [PyData.depth]⟩
theorem Plain.lit {n : Nat} {x : String} : Plain n (.str (Str.ofString x)) := .str ofS_ok
theorem plains {n : Nat} : ∀ {xs : List D}, (∀ x ∈ xs, Plain n x) → ∃ ps, toPys xs = some ps ∧ (∀ p ∈ ps, p.canLay0 = true) ∧ ∀ p ∈ ps, p.depth ≤ n
  | [], _ => ⟨[], rfl, by simp, by simp⟩
  | x :: xs, h => by
    obtain ⟨p, h1, h2, h3⟩ := h x List.mem_cons_self
    obtain ⟨ps, k1, k2, k3⟩ := plains (xs := xs) fun y hy => h y (List.mem_cons_of_mem _ hy)
    refine ⟨p :: ps, by simp only [toPys, h1, k1], fun q hq => ?_, fun q hq => ?_⟩
    · rcases List.mem_cons.mp hq with rfl | hq
      · exact h2
      · exact k2 q hq
    · rcases List.mem_cons.mp hq with rfl | hq
      · exact h3
      · exact k3 q hq
theorem Plain.tup {n : Nat} {xs : List D} (h : ∀ x ∈ xs, Plain n x) : Plain (n + 1) (.tup xs) := by
  obtain ⟨ps, h1, h2, h3⟩ := plains h
  refine ⟨.tuple ps, by simp only [toPy, h1, Option.map_some], by rw [PyData.canLay0]; exact canLayAll_of _ h2, ?_⟩
  rw [PyData.depth]
  have := depthAll_le ps h3
  omega
theorem Plain.tuf {n : Nat} {xs : List D} (h : ∀ x ∈ xs, Plain n x) : Plain (n + 1) (.tuf xs) := by
  obtain ⟨ps, h1, h2, h3⟩ := plains h
  refine ⟨.tuple ps, by simp only [toPy, h1, Option.map_some], by rw [PyData.canLay0]; exact canLayAll_of _ h2, ?_⟩
  rw [PyData.depth]
  have := depthAll_le ps h3
  omega
theorem Plain.lst {n : Nat} {xs : List D} (h : ∀ x ∈ xs, Plain n x) : Plain (n + 1) (.lst xs) := by
  obtain ⟨ps, h1, h2, h3⟩ := plains h
  refine ⟨.list ps, by simp only [toPy, h1, Option.map_some], by rw [PyData.canLay0]; exact canLayAll_of _ h2, ?_⟩
  rw [PyData.depth]
  have := depthAll_le ps h3
  omega
theorem Plain.le {n m : Nat} {x : D} (h : Plain n x) (k : n ≤ m) : Plain m x := by
  obtain ⟨p, h1, h2, h3⟩ := h
  exact ⟨p, h1, h2, by omega⟩
theorem shaped_of {n : Nat} {p : PyData} (h : p.canLay0 = true) (d : p.depth ≤ n) (k : n ≤ 64) : SeqAt.shaped p = true := by
  unfold SeqAt.shaped
  rw [h]
  simp
  omega
section
variable {G : Gp} {Q : K3} {x y : D} {n m : Nat}
/-- == of plain trees: some answer, True for the same -/
theorem c_eqP (hx : Plain n x) (hy : Plain m y) (hn : n ≤ 64) (hm : m ≤ 64) (hq : ∀ b, (x = y → b = true) → Q (.bl b) G) : cmpV .Eq x y G Q := by
  obtain ⟨p, h1, h2, h3⟩ := hx
  obtain ⟨q, k1, k2, k3⟩ := hy
  refine ⟨p, q, toPyG_of h1, toPyG_of k1, shaped_of h2 h3 hn, shaped_of k2 k3 hm, hq _ fun e => ?_⟩
  subst e
  rw [h1] at k1
  cases k1
  exact PySem.SeqAt.eqv_refl p h2
theorem c_neP (hx : Plain n x) (hy : Plain m y) (hn : n ≤ 64) (hm : m ≤ 64) (hq : ∀ b, (x = y → b = true) → Q (.bl (!b)) G) : cmpV .NotEq x y G Q := by
  obtain ⟨p, h1, h2, h3⟩ := hx
  obtain ⟨q, k1, k2, k3⟩ := hy
  refine ⟨p, q, toPyG_of h1, toPyG_of k1, shaped_of h2 h3 hn, shaped_of k2 k3 hm, hq _ fun e => ?_⟩
  subst e
  rw [h1] at k1
  cases k1
  exact PySem.SeqAt.eqv_refl p h2
/-- the answer of == on plain trees -/
def eqP (x y : D) : Bool := match toPy x, toPy y with
  | some p, some q => PyData.eqv p q
  | _, _ => false
theorem c_eqA (hx : Plain n x) (hy : Plain m y) (hn : n ≤ 64) (hm : m ≤ 64) (hq : Q (.bl (eqP x y)) G) : cmpV .Eq x y G Q := by
  obtain ⟨p, h1, h2, h3⟩ := hx
  obtain ⟨q, k1, k2, k3⟩ := hy
  refine ⟨p, q, toPyG_of h1, toPyG_of k1, shaped_of h2 h3 hn, shaped_of k2 k3 hm, ?_⟩
  unfold eqP at hq
  rw [h1, k1] at hq
  exact hq
theorem c_neA (hx : Plain n x) (hy : Plain m y) (hn : n ≤ 64) (hm : m ≤ 64) (hq : Q (.bl (!eqP x y)) G) : cmpV .NotEq x y G Q := by
  obtain ⟨p, h1, h2, h3⟩ := hx
  obtain ⟨q, k1, k2, k3⟩ := hy
  refine ⟨p, q, toPyG_of h1, toPyG_of k1, shaped_of h2 h3 hn, shaped_of k2 k3 hm, ?_⟩
  unfold eqP at hq
  rw [h1, k1] at hq
  exact hq
theorem eqP_refl (hx : Plain n x) : eqP x x = true := by
  obtain ⟨p, h1, h2, h3⟩ := hx
  unfold eqP
  rw [h1]
  exact PySem.SeqAt.eqv_refl p h2
@[simp ↓] theorem s_ownEq {c : Nat} {f : F3} : ownEqV c f x y G Q = ∃ fs gs, insD G x = some (c, fs) ∧ insD G y = some (c, gs) ∧ f [x, y] G Q (fun _ _ => False) := rfl
@[simp ↓] theorem s_ownNe {c : Nat} {f : F3} : ownNeV c f x y G Q = ∃ fs gs, insD G x = some (c, fs) ∧ insD G y = some (c, gs) ∧ f [x, y] G (fun d G1 => ∃ b, d = .bl b ∧ Q (.bl (!b)) G1) (fun _ _ => False) := rfl
end
end V3
set_option Elab.async false
set_option linter.all false
set_option maxRecDepth 100000
set_option maxHeartbeats 2000000
/-! V30: try with several clauses, each with a name or without -/
namespace L2
open PySem PySem.Spec PyProof.Rows
/-- a clause's ends: its name goes when it ends -/
def endN : Option Nat → Ends → Ends
  | none, D => D
  | some i, D => { nx := fun σ1 H1 => D.nx (σ1.set i none) H1, rt := D.rt, bk := fun σ1 H1 => D.bk (σ1.set i none) H1, ct := fun σ1 H1 => D.ct (σ1.set i none) H1 }
def putN : Option Nat → Addr → St → St
  | none, _, σ => σ
  | some i, a, σ => σ.set i (some (.ref a))
abbrev ClR := Value × Option Nat × (Addr → Value → Option Addr → TS)
/-- what the clauses ask of an exception, one by one -/
def wCl (K : PySem.W.Frag) (Wout : WX) (D : Ends) : List ClR → WX
  | [] => Wout
  | (c, i, ts) :: r => fun cls d σ H => ∃ b, PySem.W.exmOne K cls c = some b ∧ (b = true → ∀ a, H a = none → ts a cls d (endN i D) (putN i a σ) H) ∧ (b = false → wCl K Wout D r cls d σ H)
inductive HdC (X : Cx) : List ExceptHandler → List ClR → Prop
  | nil : HdC X [] []
  | bare {x : Str} {c : Value} {ts : Addr → Value → Option Addr → TS} {b₀ : Stmt} {suite : List Stmt} {np pos' : Pos} {hds : List ExceptHandler} {l : List ClR} (hc : Names X x c)
      (hsu : ∀ (a : Addr) (oe : Obj) (cls : Value) (d : Option Addr) (pn : List (Addr × Obj)), Zc cls d oe → (∃ vs, oe.data = .fields vs) → PSs (X.suite a ((a, oe) :: pn)) (b₀ :: suite) (ts a cls d)) (r : HdC X hds l) :
      HdC X (.ExceptHandler (some (.Name x np)) none (b₀ :: suite) pos' :: hds) ((c, none, ts) :: l)
  | named {x n : Str} {i : Nat} {c : Value} {ts : Addr → Value → Option Addr → TS} {b₀ : Stmt} {suite : List Stmt} {np pos' : Pos} {hds : List ExceptHandler} {l : List ClR} (hc : Names X x c) (hi : X.N[i]? = some n) (hln : X.env.kindOf n = some .local)
      (hsu : ∀ (a : Addr) (oe : Obj) (cls : Value) (d : Option Addr) (pn : List (Addr × Obj)), Zc cls d oe → (∃ vs, oe.data = .fields vs) → PSs (X.suite a ((a, oe) :: pn)) (b₀ :: suite) (ts a cls d)) (r : HdC X hds l) :
      HdC X (.ExceptHandler (some (.Name x np)) (some n) (b₀ :: suite) pos' :: hds) ((c, some i, ts) :: l)
section
variable {X : Cx} {body : List Stmt} {h₀ : ExceptHandler} {hds : List ExceptHandler} {l : List ClR} {pos : Pos} {tb : WX → TS} {Wout : WX}
theorem ps_try_cl (hs : X.stack = X.env :: X.outer) (hf : X.env.frame = some X.env.locals) (hN : X.N.Nodup) (tk : Takes X Wout)
    (hb : ∀ (W1 : WX) (pn1 : List (Addr × Obj)) (xe1 : Value → Shared → Prop), Takes (X.tr pn1 xe1) W1 → PassesOwn (model X.prog X.w) X.A X.env xe1 → PSs (X.tr pn1 xe1) body (tb W1))
    (hh : HdC X (h₀ :: hds) l) : PS X (.Try body (h₀ :: hds) [] [] pos) (fun D σ H => tb (wCl X.K Wout D l) D σ H) := by
  refine ⟨fun ps0 sh σ H D I hw => ?_⟩
  have ok := I.ok
  have frs0 : X.A.frames = some (X.env :: X.outer) := by rw [ok.frames, hs]
  refine wpAny_Try_except ?_
  refine wpAny_mono ((hb (wCl X.K Wout D l) (X.pn ++ ps0) (fun e s₁ => wpAny (model X.prog X.w) X.A (noteFrame e X.env)
    (fun _ s₂ => wpAny (model X.prog X.w) X.A (setFlight e none)
      (fun _ s₃ => wpAny (model X.prog X.w) X.A (handleBy e X.env (h₀ :: hds)) (SP X ps0 D) X.xe s₃) X.xe s₂) X.xe s₁)
    (fun u sh1 xx => ?_) PassesOwn.looking).run [] sh σ H D (I.toTry _) hw) (fun f sh1 hsp => ?_) (fun e sh1 he => he)
  · obtain ⟨a, B, sI, ps1, τ, H1, cls, d, rfl, J0, nb, up, sky, na, os, ag, w⟩ := xx
    have J : Inv X ps0 τ H1 sI := J0.ofTry ok
    have sky1 : Sky B (X.env :: X.outer) a (Zc cls d) X.env.locals sh1.heap := by rw [← hs]; exact sky
    show wpAny (model X.prog X.w) X.A (noteFrame (.ref a) X.env) _ _ _
    refine Sky.land Zc.steady frs0 hf sky1 fun g3 fl3 up3 => ?_
    have J3 : Inv X ps0 τ H1 { sh1 with heap := g3 } := J.landed nb fl3.1 (up.trans up3) os ag
    obtain ⟨o3, vs3, he3, hz3, hd3⟩ := fl3.there
    have noFr : ∀ {g : Heap} {o : Obj} {vs : Array Value}, g.FunFrames B (X.env :: X.outer) → g.get? a = some o → o.data = .fields vs → a ∉ frs (X.env :: X.outer) := fun {g o vs} ff e dd hm => by
      obtain ⟨_, o1, e1, hnf⟩ := ff.mem hm
      rw [e] at e1
      cases e1
      exact hnf _ dd
    have nfr := noFr fl3.2.2.1 he3 hd3
    have nL : a ≠ X.env.locals := fun z => nfr (List.mem_filterMap.mpr ⟨X.env, List.mem_cons_self, by rw [hf, z]⟩)
    have nF : a ∉ X.fs := fun hm => by
      obtain ⟨e, he, q⟩ := List.mem_filterMap.mp hm
      exact nfr (List.mem_filterMap.mpr ⟨e, List.mem_cons_of_mem _ he, q⟩)
    have S3 := J3.suite he3 hd3 na nL nF
    have go : ∀ {hds1 : List ExceptHandler} {l1 : List ClR}, HdC X hds1 l1 → wCl X.K Wout D l1 cls d τ H1 →
        wpAny (model X.prog X.w) X.A (handleBy (.ref a) X.env hds1) (SP X ps0 D) X.xe { sh1 with heap := g3 } := by
      intro hds1 l1 hk
      induction hk with
      | nil =>
        intro w
        refine wpAny_handleBy_nil ?_
        obtain ⟨k1, k2, k3, oe, vs, T, oT, ts1, he, hz, hd, h1, hr⟩ := id fl3
        unfold PySem.passOn
        refine wpAny_bind (wpAny_field he hd h1 ?_)
        rw [if_neg (show ¬ ((Value.ref T == Value.none) = true) from by simp)]
        have last : wpAny (model X.prog X.w) X.A (setFlight (.ref a) X.env.frame)
            (fun _ s4 => wpAny (model X.prog X.w) X.A (throw (.ref a) : Sem Flow) (SP X ps0 D) X.xe s4) X.xe { sh1 with heap := g3 } := by
          rw [hf]
          refine HandSPX.setFlight_upZ fl3 fun g4 hg4 up4 => wpAny_throw (tk _ _ ?_)
          exact ⟨a, B, sI, ps0, τ, H1, cls, d, rfl, J, nb, (up.trans up3).trans up4, .inr (.inr (by rw [hs]; exact hg4)), na, os, ag, w⟩
        first
          | exact wpAny_bind (wpAny_pure (wpAny_bind last))
          | exact wpAny_bind last
      | @bare x c ts b₀ suite np p1 hds2 l2 hc hsu r ih =>
        intro w
        obtain ⟨b, hb1, hyes, hno⟩ := w
        refine wpAny_handleBy_cons (codeAny_handlers_test ?_) (by intro q; cases q)
        have LT : PySem.W.Looks (model X.prog X.w) g3 (typeOf (.ref a)) cls := fun A Q E s k q => wpAny_typeOf_ref (k _ _ he3) (by rw [hz3.1]; exact q)
        have LM := PySem.W.exm_one (M := model X.prog X.w) J3.kIn LT hb1
        have test : ∀ {Q : Value → Shared → Prop} {E : Value → Shared → Prop}, Q c { sh1 with heap := g3 } →
            wpAny (model X.prog X.w) (X.A.mark (some (.ref a))) (eval (.Name x np) X.env) Q E { sh1 with heap := g3 } := fun {Q E} q => by
          obtain ⟨hg, hdbg, hm | ⟨hm, hv, hnn⟩⟩ := hc
          · exact ld_glob (X := X.suite a ((a, o3) :: (X.pn ++ ps0))) S3 hg hm q hdbg
          · exact ld_blt (X := X.suite a ((a, o3) :: (X.pn ++ ps0))) S3 hg hm hv q hnn hdbg
        refine test (LM.here ?_)
        cases b with
        | true =>
          refine codeAny_handlers_suite ?_
          refine HandSPX.lands_againZ fl3 fun g4 fl4 up4 => ?_
          have J4 : Inv X ps0 τ H1 { sh1 with heap := g4 } := J.landed nb fl4.1 ((up.trans up3).trans up4) os ag
          obtain ⟨o4, vs4, he4, hz4, hd4⟩ := fl4.there
          have S4 := J4.suite he4 hd4 na nL nF
          refine wpAny_mono ((hsu a o4 cls d (X.pn ++ ps0) hz4 ⟨_, hd4⟩).run [] _ _ H1 _ S4 (hyes rfl a na)) (fun f s6 hsp => ?_) (fun _ _ z => False.elim z)
          cases f with
          | next => obtain ⟨τ6, H6, S6, q6⟩ := hsp; exact ⟨_, _, S6.unsuite ok, q6⟩
          | brk => obtain ⟨τ6, H6, S6, q6⟩ := hsp; exact ⟨_, _, S6.unsuite ok, q6⟩
          | cont => obtain ⟨τ6, H6, S6, q6⟩ := hsp; exact ⟨_, _, S6.unsuite ok, q6⟩
          | ret u => obtain ⟨v6, τ6, H6, S6, r6, q6⟩ := hsp; exact ⟨_, _, _, S6.unsuite ok, r6, q6⟩
        | false =>
          show wpAny _ X.A (handleBy (.ref a) X.env hds2) _ _ _
          exact ih (hno rfl)
      | @named x n i c ts b₀ suite np p1 hds2 l2 hc hi hln hsu r ih =>
        intro w
        obtain ⟨b, hb1, hyes, hno⟩ := w
        refine wpAny_handleBy_cons (codeAny_handlers_test ?_) (by intro q; cases q)
        have LT : PySem.W.Looks (model X.prog X.w) g3 (typeOf (.ref a)) cls := fun A Q E s k q => wpAny_typeOf_ref (k _ _ he3) (by rw [hz3.1]; exact q)
        have LM := PySem.W.exm_one (M := model X.prog X.w) J3.kIn LT hb1
        have test : ∀ {Q : Value → Shared → Prop} {E : Value → Shared → Prop}, Q c { sh1 with heap := g3 } →
            wpAny (model X.prog X.w) (X.A.mark (some (.ref a))) (eval (.Name x np) X.env) Q E { sh1 with heap := g3 } := fun {Q E} q => by
          obtain ⟨hg, hdbg, hm | ⟨hm, hv, hnn⟩⟩ := hc
          · exact ld_glob (X := X.suite a ((a, o3) :: (X.pn ++ ps0))) S3 hg hm q hdbg
          · exact ld_blt (X := X.suite a ((a, o3) :: (X.pn ++ ps0))) S3 hg hm hv q hnn hdbg
        refine test (LM.here ?_)
        cases b with
        | true =>
          refine codeAny_handlers_suite_as ?_
          refine HandSPX.lands_againZ fl3 fun g4 fl4 up4 => ?_
          have J4 : Inv X ps0 τ H1 { sh1 with heap := g4 } := J.landed nb fl4.1 ((up.trans up3).trans up4) os ag
          obtain ⟨o4, vs4, he4, hz4, hd4⟩ := fl4.there
          have S4 := J4.suite he4 hd4 na nL nF
          refine store_ok (X := X.suite a ((a, o4) :: (X.pn ++ ps0))) (v := .ref a) S4 hN hi (.inl hln) rfl (fun s5 S5 => ?_) (.inr hln)
          refine wpAny_mono ((hsu a o4 cls d (X.pn ++ ps0) hz4 ⟨_, hd4⟩).run [] s5 _ H1 _ S5 (hyes rfl a na)) (fun f s6 hsp => ?_) (fun _ _ z => False.elim z)
          have over : ∀ {τ6 : St} {H6 : Hp} {Q : Shared → Prop}, Inv (X.suite a ((a, o4) :: (X.pn ++ ps0))) [] τ6 H6 s6 → (∀ s7, Inv X ps0 (τ6.set i none) H6 s7 → Q s7) →
              wpAny (model X.prog X.w) X.A (do bindName X.env n .none; unbindBehindTheSuite X.env n p1) (fun _ s7 => Q s7) X.xe s6 := fun {τ6 H6 Q} S6 hq => gone_ok (S6.unsuite ok) hN hi hln hq
          cases f with
          | next => obtain ⟨τ6, H6, S6, q6⟩ := hsp; exact over S6 fun s7 J7 => ⟨_, _, J7, q6⟩
          | brk => obtain ⟨τ6, H6, S6, q6⟩ := hsp; exact over S6 fun s7 J7 => ⟨_, _, J7, q6⟩
          | cont => obtain ⟨τ6, H6, S6, q6⟩ := hsp; exact over S6 fun s7 J7 => ⟨_, _, J7, q6⟩
          | ret u => obtain ⟨v6, τ6, H6, S6, r6, q6⟩ := hsp; exact over S6 fun s7 J7 => ⟨_, _, _, J7, r6, q6⟩
        | false =>
          show wpAny _ X.A (handleBy (.ref a) X.env hds2) _ _ _
          exact ih (hno rfl)
    exact go hh w
  · cases f with
    | next => obtain ⟨τ, H1, J1, q⟩ := hsp; exact wpAny_execs_nil ⟨τ, H1, J1.ofTry ok, q⟩
    | brk => obtain ⟨τ, H1, J1, q⟩ := hsp; exact ⟨τ, H1, J1.ofTry ok, q⟩
    | cont => obtain ⟨τ, H1, J1, q⟩ := hsp; exact ⟨τ, H1, J1.ofTry ok, q⟩
    | ret u => obtain ⟨v, τ, H1, J1, r, q⟩ := hsp; exact ⟨v, τ, H1, J1.ofTry ok, r, q⟩
end
end L2
set_option Elab.async false
set_option linter.all false
set_option maxRecDepth 100000
set_option maxHeartbeats 4000000
/-! V31: isinstance of a caught own exception that keeps things -/
namespace V3E
open PySem PySem.Spec PySem.Calls PyProof.Rows PySem.W
section
variable {prog : Program} {w : World} {A : Around} {E : Value → Shared → Prop} {s : Shared} {K : Frag} {x D : Addr} {ox o1 : Obj}
theorem kinE {Q : Option Value → Shared → Prop} (C : L2.ExcC K D) (X : K.In s.heap) (I : InstAt s.heap x ox D (some o1)) (h : Q (some (.ref D)) { s with toks := s.toks + 1 }) : wpAny (model prog w) A (getAttr? (.ref x) "__class__") Q E s := by
  have e0 : findObj K D (some o1) "__class__" = some (.bind (.builtin "getset_descriptor.__get__") (.builtin "object.__class__")) := findObj_data (by obtain ⟨cd, hc, _⟩ := any_some C.hd; rw [hc]; rfl) C.ha C.hn C.ht
  obtain ⟨hp, g, d, t, os⟩ := s
  have z0 := I.type (M := model prog w)
  have z1 := looks_findIn (M := model prog w) X C.hg
  have z2 := looks_findIn (M := model prog w) X C.hk
  have z3 := looks_find (M := model prog w) X I e0
  have below : Looks (model prog w) hp (isInstance (.ref x) (.type "BaseException")) true := z0.andThen (looks_subIn X C.hs)
  have y0 : (false && onTheHeap (Value.builtin "BaseException.__getattribute__")) = false := rfl
  have y2 : (Value.builtin "BaseException.__getattribute__" == Value.builtin "object.__getattribute__") = false := by decide +kernel
  have y1 : (onTheHeap (Value.ref D) && Value.builtin "BaseException.__getattribute__" == Value.builtin "object.__getattribute__") = false := by rw [y2]; rfl
  unfold getAttr? getAttrBy? getAttrBy
  refine wpAny_bind (wpAny_mkText (wpAny_bind (wpAny_attempt (wpAny_holding (wpAny_bind (z0.at (wpAny_bind (z1.at ?_))))))))
  show wpAny (model prog w) _ (if (onTheHeap (Value.ref D) && Value.builtin "BaseException.__getattribute__" == Value.builtin "object.__getattribute__") = true then _ else _) _ _ _
  rw [y1, if_neg Bool.false_ne_true]
  unfold getAttrByItsOwn hookBefore
  refine wpAny_bind ?_
  rw [if_pos (show onTheHeap (.ref D) = true from rfl)]
  refine z2.at ?_
  refine (wpAny_bind (wpAny_attempt (wpAny_holding ?_)))
  unfold callGetattribute
  rw [y0, if_neg Bool.false_ne_true]
  unfold boundAndCalled
  rw [(PySem.F.excAttr_ValueError.ga.bind (.ref x))]
  refine wpAny_bind (wpAny_pure ?_)
  show wpAny (model prog w) _ (call (.builtin "BaseException.__getattribute__") [.ref x, .str "__class__" t]) _ _ _
  refine (wpAny_call (codeAny_call_builtin PySem.F.excAttr_ValueError.ga.plain PySem.F.entry_bexc_ga ?_))
  refine @check_slot (model prog w) _ _ ⟨hp, g, d, t + 1, os⟩ "BaseException.__getattribute__" "BaseException" "__getattribute__" (.ref x) [.str "__class__" t] [] _ (by decide +kernel) (by decide +kernel) below (PySem.F.args_bexc_ga (.ref x) (.str "__class__" t)) ?_
  unfold Builtin.«object.__getattribute__»
  refine (wpAny_bind (wpAny_of_eq (a := ((Value.ref x : Value), [Value.str "__class__" t])) (by first | rfl | (simp only [slotArgs]; rfl)) ?_))
  refine wpAny_bind (wpAny_pure (wpAny_bind (z0.at (wpAny_bind (z3.at ?_)))))
  show wpAny (model prog w) _ (holding [Value.builtin "object.__class__"] (call (.builtin "getset_descriptor.__get__") [.builtin "object.__class__", .ref x, .ref D]) >>= ret) _ _ _
  refine wpAny_bind (wpAny_holding (wpAny_call (class_get (s := ⟨hp, g, d, t + 1, os⟩) (ox := ox) (od := some o1) X I C.hm ?_)))
  refine wpAny_pure ?_
  show wpAny (model prog w) _ (handedOut (.ref D)) _ _ _
  rw [handedOut_of (v := .ref D) rfl]
  first
    | exact wpAny_pure (wpAny_pure h)
    | exact wpAny_pure h
    | exact (wpAny_pure (wpAny_bind (wpAny_pure (wpAny_pure h))))
theorem kitE (C : L2.ExcC K D) : KitX K (.ref x) (.ref D) (fun h => InstAt h x ox D (some o1)) where
  ty := fun _ _ _ I => I.type
  it := fun _ _ X _ => by
    obtain ⟨cdD, hcD, _⟩ := any_some C.hd
    unfold clsIn at hcD
    split at hcD
    · rename_i c' d' cd' sl' ho
      intro A1 Q1 E1 s1 k q
      unfold isType loadHead
      exact (wpAny_bind (wpAny_loadPart (k _ _ (X _ _ ho)) (wpAny_pure q)))
    · cases hcD
  ne := fun h tp dd its n sl X htp => by
    obtain ⟨cdD, hcD, _⟩ := any_some C.hd
    refine Bool.eq_false_iff.mpr fun q => ?_
    have e : D = tp := Value.ref.inj (beq_iff_eq.mp q)
    subst e
    unfold clsIn at hcD
    split at hcD
    · rename_i c' d' cd' sl' ho
      cases (X _ _ ho).symm.trans htp
    · cases hcD
  ca := fun X I k => kinE C X I k
end
end V3E
namespace V3
open PySem PySem.Spec L2 PyProof.Rows
theorem Rel.p0 {C : Cn} {P P' : Hp} {G : Gp} {H : Hp} (r : Rel ⟨C.toCb, P⟩ P' G H) (h : Le C.P0 P) : Rel C P' G H := ⟨r.sub, r.own, r.tb, r.nt, h.trans r.pb⟩
theorem Rel.to0 {C : Cn} {P : Hp} {G : Gp} {H : Hp} (r : Rel C P G H) : Rel ⟨C.toCb, P⟩ P G H := ⟨r.sub, r.own, r.tb, r.nt, Le.refl _⟩
/-- e.f, e the caught exception x -/
def texf (a : Addr) (x : X3) (j : Nat) (ta : T3) : T3 := fun σ G Q E => ta σ G (fun y G1 => y = .ref a ∧ ∃ v, x.fs.lookup j = some v ∧ Q v G1) E
/-- isinstance(e, ..) -/
def texi (a : Addr) (b : Bool) (ta : T3) : T3 := fun σ G Q E => ta σ G (fun y G1 => y = .ref a ∧ Q (.bl b) G1) E
section
variable {C : Cn} {X : Cx} {W : WX} {a : Addr} {oe : Obj} {cls : Value} {d : Option Addr} {pn : List (Addr × Obj)} {P0 : Hp} {x : X3} {c j : Nat} {f : Str} {e : Expr} {pos p : Pos} {ta : T3}
theorem pe_xf3 (hK : X.K = C.K) (hi : AttInj C) (hj : C.att j = f) (T : XfC C.K (C.cls x.c)) (hno : PySem.W.findIn C.K (.ref (C.cls x.c)) f = some none) (hz : Zc cls d oe) (hf : ∃ vs, oe.data = .fields vs) (xr : Xr C P0 x cls d)
    (he : PE (X.suite a ((a, oe) :: pn)) e (up ⟨C.toCb, P0⟩ W ta)) (hb : attributeBase e f X.env (eval e X.env) = eval e X.env) :
    PE (X.suite a ((a, oe) :: pn)) (.Attribute e f pos) (up ⟨C.toCb, P0⟩ W (texf a x j ta)) := by
  subst hj
  refine PEw (pe_xf (by rw [hK]; exact T) (by rw [hK]; exact hno) hz hf he hb) fun τ H R h => ?_
  obtain ⟨P, σ, G, Q, E, r, s, h, k, ee⟩ := h
  refine up_go r s h (fun P1 G1 H1 y v l1 r1 v1 ⟨ey, z, ez, q⟩ => ?_) ee
  subst ey
  cases v1
  obtain ⟨ec, xr⟩ := xr
  rcases xr with ⟨z0, _⟩ | ⟨dd, vs, ed, hp, rf⟩
  · rw [z0] at ez; cases ez
  · obtain ⟨v2, e3, rv⟩ := rf.lookup hi ez
    exact ⟨rfl, ec, dd, vs, v2, ed, r1.sub _ _ (r1.pb _ _ hp), e3, k P1 G1 H1 _ _ l1 r1 (rv.mono r1.pb) q⟩
theorem call_isX {dd : Addr} {D : Addr} (C : ExcC X.K D) (hz : Zc (.ref D) (some dd) oe) (hf : ∃ vs, oe.data = .fields vs) :
    CallR (X.suite a ((a, oe) :: pn)) (.builtin "isinstance") (fun xs H Q => ∃ (c : V) (cv : Value) (b : Bool) (fs : List (Str × V)), xs = [.ref a, c] ∧ (∀ u, RelV c u → u = cv) ∧ PySem.W.kitOne X.K (.ref D) cv = some b ∧ H dd = some (.xd fs) ∧ Q (.bl b) H) := by
  intro pins s σ H xs us Q I r h
  obtain ⟨c, cv, b, fs, rfl, hcv, e, hdd, q⟩ := h
  cases r with
  | cons rx rr =>
    cases rr with
    | cons rt rr =>
      cases rr
      cases rx
      have ec := hcv _ rt
      subst ec
      obtain ⟨hget, _⟩ := I.pin (a, oe) (List.mem_append.mpr (.inl List.mem_cons_self))
      obtain ⟨vs, hv⟩ := hf
      have hx : ObjOk X.prog X.w H s.heap dd (.xd fs) := I.hok dd _ hdd
      obtain ⟨mA, hns, hr⟩ := hx
      obtain ⟨od, ho, hl⟩ := lookIn_ns hns
      have J : PySem.W.InstAt s.heap a oe D (some od) := ⟨hget, hz.1, by unfold PySem.W.notCls; rw [hv] <;> rfl, by rw [hz.2]; exact ho⟩
      exact PySem.W.kia_one (V3E.kitE C) I.kIn J e (fun z => nomatch z) fun tk => ⟨.bl b, H, I.kept (t' := tk) fun _ _ z => z, rfl, q⟩
theorem pe_xi3 {b : Bool} {u : Value} {v : V} {ce : Expr} (hK : X.K = C.K) (T : ExcC C.K (C.cls x.c)) (hkit : PySem.W.kitOne C.K (.ref (C.cls x.c)) u = some b) (hz : Zc cls d oe) (hf : ∃ vs, oe.data = .fields vs) (xr : Xr C P0 x cls d) (hg : Gl X "isinstance") (hm : X.mg "isinstance" = none)
    (he : PE (X.suite a ((a, oe) :: pn)) e (up ⟨C.toCb, P0⟩ W ta)) (hce : PE (X.suite a ((a, oe) :: pn)) ce (tC v)) (hv : ∀ z, RelV v z → z = u)
    (hs : starEach [e, ce] X.env = (false, eval e X.env) :: starEach [ce] X.env) (hs2 : starEach [ce] X.env = [(false, eval ce X.env)]) (hpl : (backTo pos (starEach [ce] X.env)).any (·.1) = false) :
    PE (X.suite a ((a, oe) :: pn)) (.Call (.Name "isinstance" p) [e, ce] [] pos) (up ⟨C.toCb, P0⟩ W (texi a b ta)) := by
  obtain ⟨ec, xr⟩ := xr
  subst ec
  have hg2 : Gl (X.suite a ((a, oe) :: pn)) "isinstance" := hg
  rcases xr with ⟨z0, ed⟩ | ⟨dd, vs, ed, hp, rf⟩
  · subst ed
    refine PEw (pe_callB (call_isE (by rw [hK]; exact T) hz hf) hg2 hm boot_isinstance (pa_cons he (pa_cons hce pa_nil hs2) hs) (by decide +kernel) (by decide +kernel) hs hpl) fun τ H R h => ?_
    obtain ⟨P, σ, G, Q, E, r, s, h, k, ee⟩ := h
    refine up_go r s h (fun P1 G1 H1 y w l1 r1 v1 ⟨ey, q⟩ => ?_) ee
    subst ey
    cases v1
    exact ⟨v, u, b, rfl, hv, by rw [hK]; exact hkit, k P1 G1 H1 _ _ l1 r1 (.bl b) q⟩
  · subst ed
    refine PEw (pe_callB (call_isX (by rw [hK]; exact T) hz hf) hg2 hm boot_isinstance (pa_cons he (pa_cons hce pa_nil hs2) hs) (by decide +kernel) (by decide +kernel) hs hpl) fun τ H R h => ?_
    obtain ⟨P, σ, G, Q, E, r, s, h, k, ee⟩ := h
    refine up_go r s h (fun P1 G1 H1 y w l1 r1 v1 ⟨ey, q⟩ => ?_) ee
    subst ey
    cases v1
    exact ⟨v, u, b, vs, rfl, hv, by rw [hK]; exact hkit, r1.sub _ _ (r1.pb _ _ hp), k P1 G1 H1 _ _ l1 r1 (.bl b) q⟩
end
end V3
set_option Elab.async false
set_option linter.all false
set_option maxRecDepth 100000
set_option maxHeartbeats 2000000
/-! V32: try with clauses, over trees -/
namespace V3
open PySem PySem.Spec L2 PyProof.Rows
def endS : Option Nat → N3 → N3
  | none, N => N
  | some i, N => { nx := fun σ G => N.nx (σ.set i none) G, rt := N.rt, bk := fun σ G => N.bk (σ.set i none) G, ct := fun σ G => N.ct (σ.set i none) G }
def putS : Option Nat → Addr → S3 → S3
  | none, _, σ => σ
  | some i, a, σ => σ.set i (some (.ref a))
/-- a clause: which classes it catches, its name, what its suite reads as -/
structure Cl3 where
  test : Nat → Option Bool
  nm : Option Nat
  rd : Addr → X3 → TS3
def hCl (N : N3) (E : ES3) : List Cl3 → ES3
  | [] => E
  | c :: r => fun x σ G => ∃ b, c.test x.c = some b ∧ (b = true → ∀ a, G a = none → c.rd a x (endS c.nm N) (fun _ _ _ => False) (putS c.nm a σ) G) ∧ (b = false → hCl N E r x σ G)
def stryC (l : List Cl3) (tb : TS3) : TS3 := fun N E σ G => tb N (hCl N E l) σ G
/-- a clause's suite, in the heap -/
def clR (C : Cn) (c : Cl3) : Addr → Value → Option Addr → TS := fun a cls d D τ H => ∃ P σ G N x, Rel C P G H ∧ Rs C P σ τ ∧ Xr C P x cls d ∧ c.test x.c = some true ∧ c.rd a x N (fun _ _ _ => False) σ G ∧ sUp C P N.nx D.nx ∧ kUp C P N.rt D.rt ∧ sUp C P N.bk D.bk ∧ sUp C P N.ct D.ct
/-- what a suite's proof must give -/
def Suite (C : Cn) (X : Cx) (c : Cl3) (ss : List Stmt) : Prop := ∀ (a : Addr) (oe : Obj) (cls : Value) (d : Option Addr) (pn : List (Addr × Obj)) (P0 : Hp) (x : X3), Zc cls d oe → (∃ vs, oe.data = .fields vs) → Xr C P0 x cls d → c.test x.c = some true →
  PSs (X.suite a ((a, oe) :: pn)) ss (upS ⟨C.toCb, P0⟩ W0 (c.rd a x))
inductive HdC3 (C : Cn) (X : Cx) : List ExceptHandler → List Cl3 → Prop
  | nil : HdC3 C X [] []
  | bare {x : Str} {cv : Value} {c : Cl3} {b₀ : Stmt} {suite : List Stmt} {np pos' : Pos} {hds : List ExceptHandler} {l : List Cl3} (hc : Names X x cv) (ht : ∀ k b, c.test k = some b → PySem.W.exmOne C.K (.ref (C.cls k)) cv = some b) (hn : c.nm = none) (hs : Suite C X c (b₀ :: suite)) (r : HdC3 C X hds l) :
      HdC3 C X (.ExceptHandler (some (.Name x np)) none (b₀ :: suite) pos' :: hds) (c :: l)
  | named {x n : Str} {i : Nat} {cv : Value} {c : Cl3} {b₀ : Stmt} {suite : List Stmt} {np pos' : Pos} {hds : List ExceptHandler} {l : List Cl3} (hc : Names X x cv) (ht : ∀ k b, c.test k = some b → PySem.W.exmOne C.K (.ref (C.cls k)) cv = some b) (hn : c.nm = some i) (hi : X.N[i]? = some n) (hln : X.env.kindOf n = some .local) (hs : Suite C X c (b₀ :: suite)) (r : HdC3 C X hds l) :
      HdC3 C X (.ExceptHandler (some (.Name x np)) (some n) (b₀ :: suite) pos' :: hds) (c :: l)
section
variable {C : Cn} {X : Cx} {W : WX} {k : Nat}
theorem suite_ok {c : Cl3} {ss : List Stmt} (h : Suite C X c ss) {a : Addr} {oe : Obj} {cls : Value} {d : Option Addr} {pn : List (Addr × Obj)} (hz : Zc cls d oe) (hf : ∃ vs, oe.data = .fields vs) : PSs (X.suite a ((a, oe) :: pn)) ss (clR C c a cls d) := by
  refine ⟨fun pins s τ H D I q => ?_⟩
  obtain ⟨P, σ, G, N, x, r, rs, xr, ht, q, h1, h2, h3, h4⟩ := q
  refine (h a oe cls d pn P x hz hf xr ht).run pins s τ H D I ⟨P, σ, G, N, _, r.to0, rs, q, ?_, ?_, ?_, ?_, ?_⟩
  · exact fun P1 G1 H1 σ1 τ1 l1 r1 => h1 P1 G1 H1 σ1 τ1 l1 (r1.p0 r.pb)
  · exact fun P1 G1 H1 y v l1 r1 => h2 P1 G1 H1 y v l1 (r1.p0 r.pb)
  · exact fun P1 G1 H1 σ1 τ1 l1 r1 => h3 P1 G1 H1 σ1 τ1 l1 (r1.p0 r.pb)
  · exact fun P1 G1 H1 σ1 τ1 l1 r1 => h4 P1 G1 H1 σ1 τ1 l1 (r1.p0 r.pb)
  · exact fun _ _ _ _ _ _ _ _ _ _ _ _ z => z.elim
theorem Rel.gnone {P : Hp} {G : Gp} {H : Hp} {a : Addr} (r : Rel C P G H) (h : H a = none) : G a = none := by
  cases e : G a with
  | none => rfl
  | some g =>
    obtain ⟨_, o, h1, _⟩ := r.own a g e
    rw [h] at h1
    cases h1
theorem hds_ok {hds : List ExceptHandler} {l : List Cl3} (h : HdC3 C X hds l) : ∃ l2, HdC X hds l2 ∧ ∀ {P : Hp} {σ : S3} {τ : L2.St} {G : Gp} {H : Hp} {N : N3} {E : ES3} {D : Ends} {x : X3} {cls : Value} {d : Option Addr}, Rel C P G H → Rs C P σ τ → Xr C P x cls d →
    sUp C P N.nx D.nx → kUp C P N.rt D.rt → sUp C P N.bk D.bk → sUp C P N.ct D.ct → esUp C P E W → hCl N E l x σ G → wCl C.K W D l2 cls d τ H := by
  induction h with
  | nil => exact ⟨[], .nil, fun {P σ τ G H N E D x cls d} r rs xr h1 h2 h3 h4 h5 q => h5 P G H σ τ x cls d (Le.refl _) r rs xr q⟩
  | @bare x cv c b₀ suite np p1 hds l hc ht hn hs r0 ih =>
    obtain ⟨l2, k1, k2⟩ := ih
    refine ⟨(cv, none, clR C c) :: l2, .bare hc (fun a oe cls d pn hz hf => suite_ok hs hz hf) k1, fun {P σ τ G H N E D x cls d} r rs xr h1 h2 h3 h4 h5 q => ?_⟩
    obtain ⟨b, e1, q1, q2⟩ := q
    obtain ⟨ec, xr2⟩ := id xr
    refine ⟨b, by rw [ec]; exact ht _ _ e1, fun eb a ha => ?_, fun eb => k2 r rs xr h1 h2 h3 h4 h5 (q2 eb)⟩
    subst eb
    have q3 := q1 rfl a (r.gnone ha)
    rw [hn] at q3
    exact ⟨P, σ, G, N, x, r, rs, xr, e1, q3, h1, h2, h3, h4⟩
  | @named x n i cv c b₀ suite np p1 hds l hc ht hn hi hln hs r0 ih =>
    obtain ⟨l2, k1, k2⟩ := ih
    refine ⟨(cv, some i, clR C c) :: l2, .named hc hi hln (fun a oe cls d pn hz hf => suite_ok hs hz hf) k1, fun {P σ τ G H N E D x cls d} r rs xr h1 h2 h3 h4 h5 q => ?_⟩
    obtain ⟨b, e1, q1, q2⟩ := q
    obtain ⟨ec, xr2⟩ := id xr
    refine ⟨b, by rw [ec]; exact ht _ _ e1, fun eb a ha => ?_, fun eb => k2 r rs xr h1 h2 h3 h4 h5 (q2 eb)⟩
    subst eb
    have q3 := q1 rfl a (r.gnone ha)
    rw [hn] at q3
    refine ⟨P, _, G, _, x, r, rs.set (.ref a) i, xr, e1, q3, ?_, h2, ?_, ?_⟩
    · exact fun P1 G1 H1 σ1 τ1 l1 r1 s1 z => h1 P1 G1 H1 _ _ l1 r1 (s1.unset i none) z
    · exact fun P1 G1 H1 σ1 τ1 l1 r1 s1 z => h3 P1 G1 H1 _ _ l1 r1 (s1.unset i none) z
    · exact fun P1 G1 H1 σ1 τ1 l1 r1 s1 z => h4 P1 G1 H1 _ _ l1 r1 (s1.unset i none) z
theorem ps_tryC3 {body : List Stmt} {h₀ : ExceptHandler} {hds : List ExceptHandler} {l : List Cl3} {tb : TS3} {pos : Pos} (B : Bd C X W k) (hs : X.stack = X.env :: X.outer) (hf : X.env.frame = some X.env.locals)
    (hb : ∀ (W1 : WX) (pn : List (Addr × Obj)) (xe : Value → Shared → Prop), Bd C (X.tr pn xe) W1 k → PSs (X.tr pn xe) body (upS C W1 tb)) (hh : HdC3 C X (h₀ :: hds) l) :
    PS X (.Try body (h₀ :: hds) [] [] pos) (upS C W (stryC l tb)) := by
  obtain ⟨l2, k1, k2⟩ := hds_ok (W := W) hh
  refine PSw (ps_try_cl hs hf B.hN B.tk (tb := fun W1 => upS C W1 tb) (fun W1 pn xe tk hp => hb W1 pn xe (B.tr pn xe tk hp)) k1) fun D τ H h => ?_
  obtain ⟨P, σ, G, N, E, r, s, h, h1, h2, h3, h4, h5⟩ := h
  refine ⟨P, σ, G, N, _, r, s, h, h1, h2, h3, h4, fun P1 G1 H1 σ1 τ1 x cls d l1 r1 s1 xr q => ?_⟩
  rw [B.hK]
  exact k2 r1 s1 xr (h1.le l1) (h2.le l1) (h3.le l1) (h4.le l1) (h5.le l1) q
end
end V3
set_option Elab.async false
set_option linter.all false
set_option maxRecDepth 100000
set_option maxHeartbeats 2000000
/-! V33: readings of try opened; facts for the head -/
namespace V3
open PySem PySem.Spec L2 PyProof.Rows
section
variable {N : N3} {ES : ES3} {σ : S3} {G : Gp} {Q : K3} {E : E3} {a : Addr} {x : X3} {j : Nat} {b : Bool} {ta : T3} {tb : TS3} {l : List Cl3} {c : Cl3}
@[simp ↓] theorem s_tryC : stryC l tb N ES σ G = tb N (hCl N ES l) σ G := rfl
@[simp ↓] theorem s_hnil : hCl N ES [] x σ G = ES x σ G := rfl
@[simp ↓] theorem s_hcons : hCl N ES (c :: l) x σ G = ∃ b, c.test x.c = some b ∧ (b = true → ∀ a, G a = none → c.rd a x (endS c.nm N) (fun _ _ _ => False) (putS c.nm a σ) G) ∧ (b = false → hCl N ES l x σ G) := rfl
@[simp ↓] theorem s_texf : texf a x j ta σ G Q E = ta σ G (fun y G1 => y = .ref a ∧ ∃ v, x.fs.lookup j = some v ∧ Q v G1) E := rfl
@[simp ↓] theorem s_texi : texi a b ta σ G Q E = ta σ G (fun y G1 => y = .ref a ∧ Q (.bl b) G1) E := rfl
end
def excB (K : PySem.W.Frag) (D : Addr) : Bool := decide (PySem.W.findIn K (.ref D) "__getattribute__" = some (some (.builtin "BaseException.__getattribute__"))) && (decide (PySem.W.findIn K (.ref D) "__getattr__" = some none) && (decide (PySem.W.subIn K (.ref D) (.type "BaseException") = some true) && (PySem.W.hasDictIn K D &&
  (decide (PySem.W.findIn K (.ref D) "__class__" = some (some (.builtin "object.__class__"))) && (decide (PySem.W.specialIn K (.builtin "object.__class__") "__get__" = some (some (.builtin "getset_descriptor.__get__"))) && (decide (PySem.W.takesIn K (.builtin "object.__class__") = some true) && decide (PySem.W.mroIn K D (.type "object") = some true)))))))
theorem excB_ok {K : PySem.W.Frag} {D : Addr} (h : excB K D = true) : ExcC K D := by
  obtain ⟨h1, h⟩ := Bool.and_eq_true_iff.mp h
  obtain ⟨h2, h⟩ := Bool.and_eq_true_iff.mp h
  obtain ⟨h3, h⟩ := Bool.and_eq_true_iff.mp h
  obtain ⟨h4, h⟩ := Bool.and_eq_true_iff.mp h
  obtain ⟨h5, h⟩ := Bool.and_eq_true_iff.mp h
  obtain ⟨h6, h⟩ := Bool.and_eq_true_iff.mp h
  obtain ⟨h7, h8⟩ := Bool.and_eq_true_iff.mp h
  exact ⟨of_decide_eq_true h1, of_decide_eq_true h2, of_decide_eq_true h3, h4, of_decide_eq_true h5, of_decide_eq_true h6, of_decide_eq_true h7, of_decide_eq_true h8⟩
theorem ExcC.xf {K : PySem.W.Frag} {D : Addr} (h : ExcC K D) : XfC K D := ⟨h.hg, h.hk, h.hs, h.hd⟩
end V3
set_option Elab.async false
set_option linter.all false
set_option maxRecDepth 100000
set_option maxHeartbeats 2000000
/-! V34: d.get(k, x) -/
namespace V3
open PySem PySem.Spec L2 PyProof.Rows
/-- the tree is a dict -/
def isDk (G : Gp) : D → Bool
  | .dk _ => true
  | .dt _ => true
  | .ref a => match G a with
    | some (.dk _) => true
    | some (.dt _) => true
    | _ => false
  | _ => false
theorem isDk_ok {C : Cn} {P : Hp} {G : Gp} {H : Hp} (r : Rel C P G H) {d : D} {v : V} (rv : Rv C P d v) (h : isDk G d = true) : ∃ a, v = .ref a ∧ IsD H a := by
  cases rv with
  | dk s q => exact ⟨_, rfl, .inl ⟨_, .inl (r.sub _ _ s)⟩⟩
  | dt s q => exact ⟨_, rfl, .inr ⟨_, .inl (r.sub _ _ s)⟩⟩
  | ref a =>
    simp only [isDk] at h
    split at h
    · rename_i xs e
      obtain ⟨_, o, h1, h2⟩ := r.own _ _ e
      cases h2
      exact ⟨a, rfl, .inl ⟨_, .inl h1⟩⟩
    · rename_i xs e
      obtain ⟨_, o, h1, h2⟩ := r.own _ _ e
      cases h2
      exact ⟨a, rfl, .inr ⟨_, .inl h1⟩⟩
    · cases h
  | _ => cases h
/-- d.get(k, x) -/
def tdget (td ty tx : T3) : T3 := fun σ G Q E => td σ G (fun x G1 => isDk G1 x = true ∧ ty σ G1 (fun y G2 => tx σ G2 (fun z G3 => ∃ o, dget G3 x y = some o ∧ Q (o.getD z) G3) E) E) E
section
variable {C : Cn} {X : Cx} {W : WX} {o e f : Expr} {apos cpos : Pos} {td ty tx : T3}
theorem pe_dget3 (hu : X.A.units + 1 < cLine) (ho : PE X o (up C W td)) (he : PE X e (up C W ty)) (hf : PE X f (up C W tx)) (m : M2 X o "get" apos e f cpos) : PE X (.Call (.Attribute o "get" apos) [e, f] [] cpos) (up C W (tdget td ty tx)) :=
  PEw (pe_dget2 hu ho he hf m) fun τ H R h => by
    obtain ⟨P, σ, G, Q, E, r, s, h, k, ee⟩ := h
    refine up_go r s h (fun P1 G1 H1 x v l1 r1 v1 ⟨hx, q1⟩ => ?_) ee
    obtain ⟨a, rfl, hd⟩ := isDk_ok r1 v1 hx
    refine ⟨a, rfl, hd, ?_⟩
    refine up_go r1 (s.mono l1) q1 (fun P2 G2 H2 y u l2 r2 v2 q2 => ?_) (ee.le l1)
    refine up_go r2 (s.mono (l1.trans l2)) q2 (fun P3 G3 H3 z w l3 r3 v3 ⟨op, e1, q3⟩ => ?_) (ee.le (l1.trans l2))
    obtain ⟨b, w2, eb, g, g1, g2⟩ := dget_ok r3 (v1.mono (l2.trans l3)) (v2.mono l3) e1
    cases eb
    refine ⟨w2, g, ?_⟩
    cases op with
    | some d =>
      obtain ⟨z2, ez, rz⟩ := g1 d rfl
      subst ez
      exact k P3 G3 H3 _ _ (l1.trans (l2.trans l3)) r3 rz q3
    | none =>
      rw [g2 rfl]
      exact k P3 G3 H3 _ _ (l1.trans (l2.trans l3)) r3 v3 q3
@[simp ↓] theorem s_tdget {σ : S3} {G : Gp} {Q : K3} {E : E3} : tdget td ty tx σ G Q E = td σ G (fun x G1 => isDk G1 x = true ∧ ty σ G1 (fun y G2 => tx σ G2 (fun z G3 => ∃ o, dget G3 x y = some o ∧ Q (o.getD z) G3) E) E) E := rfl
end
end V3
set_option Elab.async false
set_option linter.all false
set_option maxRecDepth 100000
set_option maxHeartbeats 2000000
/-! V35: calls by name (the names in the parameters' order, no default taken) -/
namespace V3
open PySem PySem.Spec L2 PyProof.Rows
/-- n values by position, then the names ks -/
def KwB (K : PySem.W.Frag) (fd : FuncData) (ps : List Str) (n : Nat) (ks : List Str) : Prop := ∀ (s : Shared) (us ws : List Value), K.In s.heap → us.length = n → ws.length = ks.length → BindsTo s fd ⟨us, ks.zip ws⟩ (ps.zip (us ++ ws))
theorem kwb_of {K : PySem.W.Frag} {x qual : Str} {params : Arguments} {body : List Stmt} {scope : Scope} {f : Addr} {fd : FuncData} {ps : List Str} {kws : List (Str × V)} (F : FunD K x qual params body scope [] kws f fd) (n : Nat) (ks : List Str)
    (h : ∀ (kV doc pm : Value) (an : Option Addr) (cdv ct : Value) (us ws : List Value), us.length = n → ws.length = ks.length → bindArgs (PySem.W.fnOf x qual params body scope .none kV doc pm an cdv ct) ⟨us, ks.zip ws⟩ = pure (ps.zip (us ++ ws))) : KwB K fd ps n ks := by
  obtain ⟨oc, od, dV, kV, doc, pm, an, cdv, ct, osl, rfl, lk, hcd, hD, hK⟩ := F.ex
  rcases hD with ⟨_, rfl⟩ | ⟨e, _⟩
  · exact fun s us ws _ l1 l2 => .of_eq (h kV doc pm an cdv ct us ws l1 l2)
  · exact absurd rfl e
/-- a def as told, called by name -/
def DokK (P : Program) (w : World) (K : PySem.W.Frag) (mg : Str → Option Value) (base : Heap) (C : Cn) (k : Nat) (a : Addr) (ps : List Str) (n : Nat) (f : F3) (j : Nat) (ks : List Str) : Prop :=
  ∃ fd, FnG P w K mg base k a fd ps (upF C n f) ∧ PySem.W.keepIn K (.ref a) = true ∧ KwB K fd ps j ks
theorem DokK.of {P : Program} {w : World} {K : PySem.W.Frag} {mg : Str → Option Value} {base : Heap} {C C' : Cn} (h : C'.toCb = C.toCb) {k j : Nat} {a : Addr} {ps : List Str} {n : Nat} {f : F3} {ks : List Str} (d : DokK P w K mg base C k a ps n f j ks) : DokK P w K mg base C' k a ps n f j ks := by
  obtain ⟨fd, h1, h2, h3⟩ := d
  exact ⟨fd, by rw [upF_toCb h]; exact h1, h2, h3⟩
theorem DokK.mono {P : Program} {w : World} {K : PySem.W.Frag} {mg : Str → Option Value} {base : Heap} {C : Cn} {k k' j : Nat} {a : Addr} {ps : List Str} {n : Nat} {f : F3} {ks : List Str} (h : k ≤ k') (d : DokK P w K mg base C k a ps n f j ks) : DokK P w K mg base C k' a ps n f j ks := by
  obtain ⟨fd, h1, h2, h3⟩ := d
  exact ⟨fd, h1.mono h, h2, h3⟩
section
variable {C : Cn} {X : Cx} {W : WX} {k n : Nat} {f : Addr} {fd : FuncData} {ps ks : List Str} {sp : Sp} {f3 : F3} {m : Str} {p pos apos : Pos} {e o : Expr} {es : List Expr} {kws : List Keyword} {ta : T3} {t tk : TA3}
theorem run_fnGK {j : Nat} {pins : List (Addr × Obj)} {σ : L2.St} {H : Hp} {s : Shared} {Q : VK} {us ws : List Value} {vs zs : List V} (F : FnG X.prog X.w X.K X.mg X.base k f fd ps sp) (B : Bd C X W k) (hb : KwB X.K fd ps j ks) (l1 : us.length = j) (l2 : ws.length = ks.length)
    (I : Inv X pins σ H s) (r : Vals vs us) (rz : Vals zs ws) (h : sp (vs ++ zs) H Q (WE W σ)) : wpAny (model X.prog X.w) X.A (call (.ref f) us (ks.zip ws)) (EP X pins σ Q) X.xe s := by
  have r2 := r.append rz
  refine wpAny_call (codeAny_mono (F.go X.A X.stack s H ⟨us, ks.zip ws⟩ (us ++ ws) (vs ++ zs) Q _ B.hr B.hg I.env0 (hb s us ws I.kIn l1 l2) r2 h) fun res s' hq => ?_)
  cases res with
  | error ev => exact passAt B.tk σ pins H s ev s' I hq
  | ok fl =>
    cases fl with
    | ret u => exact I.after hq
    | next => exact (show False from hq).elim
    | brk => exact (show False from hq).elim
    | cont => exact (show False from hq).elim
/-- the values of the names -/
theorem pk_nil3 : PK X [] (upA C W tanil) := ⟨fun pos pins s σ H Q I h => by
  obtain ⟨P, σ3, G, Q3, E, r, s3, h, k, e⟩ := h
  exact (pk_nil (X := X)).run pos pins s σ H Q I (k P G H [] [] (Le.refl _) r .nil h)⟩
theorem pk_cons3 {nm : Option Str} {kpos : Pos} {r : TA3} (ha : PE X e (up C W ta)) (hr : PK X kws (upA C W r)) : PK X (⟨nm, e, kpos⟩ :: kws) (upA C W (tacons ta r)) := by
  refine ⟨fun pos pins s σ H Q I h => (pk_cons ha hr).run pos pins s σ H Q I ?_⟩
  obtain ⟨P, σ, G, Q, E, rl, s, h, k, ee⟩ := h
  refine up_go rl s h (fun P1 G1 H1 x v l1 r1 v1 q1 => ?_) ee
  refine ⟨P1, σ, G1, _, E, r1, s.mono l1, q1, fun P2 G2 H2 ds vs l2 r2 v2 q2 => ?_, ee.le l1⟩
  exact k P2 G2 H2 (x :: ds) (v :: vs) (l1.trans l2) r2 (.cons (v1.mono l2) v2) q2
/-- o.m(a = .., b = ..) -/
def tmethK (c j n q : Nat) (f3 : F3) (ta : T3) (tk : TA3) : T3 := fun σ G Q E => ta σ G (fun x G1 => ∃ fs, insD G1 x = some (c, fs) ∧ fs.lookup j = none ∧ tk σ G1 (fun xs G2 => xs.length = q ∧ (x :: xs).length = n ∧ f3 (x :: xs) G2 Q E) E) E
theorem pe_methK3 {c jm q : Nat} {pl : Sem Bool} (d : DokK X.prog X.w X.K X.mg X.base C k f ps n f3 1 ks) (B : Bd C X W k) (hi : AttInj C) (hj : C.att jm = m) (cl : Cls C.K (C.cls c)) (hm : Meth C.K (C.cls c) m f) (hq : ks.length = q) (he : PE X o (up C W ta)) (hkw : PK X kws (upA C W tk))
    (hall : (backToKw pos (keywordEach kws X.env)).all (·.1.isSome) = true) (hks : (backToKw pos (keywordEach kws X.env)).filterMap (·.1) = ks) (hpl : ((backTo pos (starEach [] X.env)).any (·.1) || (backToKw pos (keywordEach kws X.env)).any (·.1.isNone)) = false)
    (ht : eval (.Call (.Attribute o m apos) [] kws pos) X.env = (do
      let ov ← eval o X.env
      standAt apos.atName
      let (g, first) ← holding [ov] (getMethod ov m pl)
      callWith pos g first (backTo pos (starEach [] X.env)) (backToKw pos (keywordEach kws X.env)))) :
    PE X (.Call (.Attribute o m apos) [] kws pos) (up C W (tmethK c jm n q f3 ta tk)) := by
  subst hj
  subst hq
  obtain ⟨fd, F, hkp, hb⟩ := d
  refine ⟨fun pins s σ H R I h => ?_⟩
  obtain ⟨P, σ3, G, Q, E, r, s3, h, kk, ee⟩ := h
  refine PySem.W.methodCall_KW (pl := pl) (thn (he.run pins s σ H (fun v H1 => ∃ P1 G1 x fs, Le P P1 ∧ Rel C P1 G1 H1 ∧ Rv C P1 x v ∧ insD G1 x = some (c, fs) ∧ fs.lookup jm = none ∧ tk σ3 G1 (fun xs G2 => xs.length = ks.length ∧ (x :: xs).length = n ∧ f3 (x :: xs) G2 Q E) E) I
    ⟨P, σ3, G, _, E, r, s3, h, fun P1 G1 H1 x v l1 r1 v1 ⟨fs, e1, e2, q1⟩ => ⟨P1, G1, x, fs, l1, r1, v1, e1, e2, q1⟩, ee⟩) fun u s1 ⟨v, H1, I1, rr, P1, G1, x, fs, l1, r1, v1, e1, e2, q1⟩ => ?_) ht
  obtain ⟨a, dx, vs, rfl, h1, h2⟩ := insD_ok r1 v1 e1
  obtain rfl : u = Value.ref a := rr
  refine getmeth_ok I1 h1 (by rw [B.hK]; exact cl) (by rw [B.hK]; exact hm) (h2.lookupN hi e2) ?_
  refine PySem.W.callWith_KW0 (first := [.ref a]) (h₀ := X.base) I.ok.mod.kin (by rw [B.hK]; exact hm.kp) hall (thn (hkw.run pos pins s1 σ H1 (fun zs H2 => ∃ P2 G2 ds, Le P1 P2 ∧ Rel C P2 G2 H2 ∧ Rvs C P2 ds zs ∧ ds.length = ks.length ∧ (x :: ds).length = n ∧ f3 (x :: ds) G2 Q E) I1
    ⟨P1, σ3, G1, _, E, r1, s3.mono l1, q1, fun P2 G2 H2 ds zs l2 r2 v2 q2 => ⟨P2, G2, ds, l2, r2, v2, q2.1, q2.2.1, q2.2.2⟩, ee.le l1⟩) fun us s2 ⟨zs, H2, I2, r3, P2, G2, ds, l2, r2, v2, q2, q3, q4⟩ => ⟨I2.kIn, ?_⟩) hpl
  rw [hks]
  exact run_fnGK (us := [.ref a]) (vs := [.ref a]) F B hb rfl (by rw [← r3.length, ← v2.length, q2]) I2 (.cons rfl .nil) r3 ⟨P2, G2, x :: ds, Q, E, r2.b0, .cons (v1.mono l2) v2, q3, q4, (kk.le (l1.trans l2)).b0 r2, (ee.le (l1.trans l2)).b0 r2⟩
@[simp ↓] theorem s_methK {c j n q : Nat} {σ : S3} {G : Gp} {Q : K3} {E : E3} : tmethK c j n q f3 ta tk σ G Q E = ta σ G (fun x G1 => ∃ fs, insD G1 x = some (c, fs) ∧ NoAt j fs ∧ tk σ G1 (fun xs G2 => xs.length = q ∧ (x :: xs).length = n ∧ f3 (x :: xs) G2 Q E) E) E := rfl
end
end V3
set_option Elab.async false
set_option linter.all false
set_option maxRecDepth 100000
set_option maxHeartbeats 2000000
/-! V36: defs and classes called by name -/
namespace V3
open PySem PySem.Spec L2 PyProof.Rows
section
variable {C : Cn} {X : Cx} {W : WX} {k n c : Nat} {f : Addr} {fd : FuncData} {ps ks : List Str} {f3 : F3} {x : Str} {p pos : Pos} {kws : List Keyword} {t : TA3}
/-- f(a = .., b = ..): reads as the call by position -/
theorem pe_callK3 (d : DokK X.prog X.w X.K X.mg X.base C k f ps n f3 0 ks) (B : Bd C X W k) (hn : ks.length = n) (hg : Gl X x) (hm : X.mg x = some (.ref f)) (hkw : PK X kws (upA C W t))
    (hall : (backToKw pos (keywordEach kws X.env)).all (·.1.isSome) = true) (hks : (backToKw pos (keywordEach kws X.env)).filterMap (·.1) = ks) (hpl : ((backTo pos (starEach [] X.env)).any (·.1) || (backToKw pos (keywordEach kws X.env)).any (·.1.isNone)) = false) (hdb : (x == ("__debug__" : Str)) = false) :
    PE X (.Call (.Name x p) [] kws pos) (up C W (tcf n f3 [] t)) := by
  obtain ⟨fd, F, hk, hb⟩ := d
  refine ⟨fun pins s σ H R I h => ?_⟩
  obtain ⟨P, σ3, G, Q, E, r, s3, h, kk, ee⟩ := h
  refine wpAny_Call_Name_kw (ld_glob I hg hm ?_ hdb)
  refine PySem.W.callWith_KW0 (first := []) (h₀ := X.base) I.ok.mod.kin hk hall (thn (hkw.run pos pins s σ H (fun zs H1 => ∃ P1 G1 ds, Le P P1 ∧ Rel C P1 G1 H1 ∧ Rvs C P1 ds zs ∧ (ds ++ []).length = n ∧ f3 (ds ++ []) G1 Q E) I
    ⟨P, σ3, G, _, E, r, s3, h, fun P1 G1 H1 ds zs l1 r1 v1 q1 => ⟨P1, G1, ds, l1, r1, v1, q1.1, q1.2⟩, ee⟩) fun us s1 ⟨zs, H1, I1, rr, P1, G1, ds, l1, r1, v1, hdl, q⟩ => ⟨I1.kIn, ?_⟩) hpl
  rw [hks]
  rw [List.append_nil] at hdl q
  exact run_fnGK (us := []) (vs := []) F B hb rfl (by rw [← rr.length, ← v1.length, hdl, hn]) I1 .nil rr ⟨P1, G1, ds, Q, E, r1.b0, v1, hdl, q, (kk.le l1).b0 r1, (ee.le l1).b0 r1⟩
theorem run_makeK3 {w : Bool} {pins : List (Addr × Obj)} {σ : L2.St} {H : Hp} {s : Shared} {R : VK} {ws : List Value} {zs : List V} {ds : List D} {P : Hp} {G : Gp} {Q : K3} {E : E3} (M : Mk X.K (C.cls c) f) (B : Bd C X W (k + 1)) (F : FnG X.prog X.w X.K X.mg X.base k f fd ps (upF C n f3)) (hb : KwB X.K fd ps 1 ks) (l2 : ws.length = ks.length)
    (I : Inv X pins σ H s) (rv : Vals zs ws) (r : Rel C P G H) (rd : Rvs C P ds zs) (h : ∀ p, G p = none → (D.ref p :: (ds ++ [])).length = n ∧ f3 (.ref p :: (ds ++ [])) (gset G p (.ins c [])) (keepI w c p Q) (fun x G2 => E x (gdel G2 p)))
    (kk : kUp C P Q R) (ee : eUp C P E (WE W σ)) : wpAny (model X.prog X.w) X.A (call (.ref (C.cls c)) [] (ks.zip ws)) (EP X pins σ R) X.xe s := by
  have n1 : H (s.heap.objs.size + 1) = none := I.hok.fresh (Nat.le_succ _)
  have n0 : H s.heap.objs.size = none := I.hok.fresh (Nat.le_refl _)
  have ne : s.heap.objs.size + 1 ≠ s.heap.objs.size := Nat.succ_ne_self _
  obtain ⟨hl, hq⟩ := h (s.heap.objs.size + 1) (r.gfree n1)
  rw [List.append_nil] at hl hq
  have I2 := Inv.made (C := C.cls c) I
  have r2 : Vals ([V.ref (s.heap.objs.size + 1)] ++ zs) ([Value.ref (s.heap.objs.size + 1)] ++ ws) := Vals.append (.cons rfl .nil) rv
  have rl : Rel C P (gset G (s.heap.objs.size + 1) (.ins c [])) (upd (upd H s.heap.objs.size (.own (s.heap.objs.size + 1))) (s.heap.objs.size + 1) (.ins (C.cls c) s.heap.objs.size [])) :=
    (r.other (o := .own (s.heap.objs.size + 1)) n0).newG (by rw [upd_ne ne]; exact n1) (.ins .nil)
  refine wpAny_call (make_map (f := f) I.kIn M.makes M.init (beq_iff_eq.mp M.fn) (codeAny_mono (F.go _ X.stack _ _ ⟨[Value.ref (s.heap.objs.size + 1)], ks.zip ws⟩ ([Value.ref (s.heap.objs.size + 1)] ++ ws) _ (fun v H2 => v = .non ∧ R (.ref (s.heap.objs.size + 1)) H2) (WE W σ) (B.hr.make _ [] (ks.zip ws)) ?_
    (I2.env0.make _ [] (ks.zip ws)) (hb _ [Value.ref (s.heap.objs.size + 1)] ws I2.kIn rfl l2) r2 ⟨P, _, D.ref (s.heap.objs.size + 1) :: ds, _, _, rl.b0, .cons (.ref _) rd, hl, hq, ?_, ?_⟩) fun res s' hq' => ?_))
  · have := B.hg
    first | exact this | (simpa [Around.under, Code.guards, Code.isGuard, pushGuards, guardIds] using this)
  · intro P' G' H' d v l' r0 v' ⟨e1, q⟩
    have r' := r.on (P1 := P) l' r0
    subst e1
    cases v'
    refine ⟨rfl, ?_⟩
    split at q
    · exact kk P' G' H' _ _ l' r' (.ref _) q
    · obtain ⟨fs, e2, q⟩ := q
      obtain ⟨_, o, g1, g2⟩ := r'.own _ _ e2
      cases g2 with
      | ins q2 =>
        obtain ⟨l2, r2'⟩ := r'.freeze e2 g1
        exact kk _ _ _ _ _ (l'.trans l2) r2' (.obj upd_same (q2.mono l2)) q
  · intro P' G' H' x cv d l' r0 xr q
    have r' := r.on (P1 := P) l' r0
    exact ee P' _ H' x cv d l' (r'.drop fun b g hb' => by
      unfold gdel at hb'
      split at hb'
      · cases hb'
      · exact hb') xr q
  · cases res with
    | error ev => exact passAt B.tk σ pins _ _ ev s' I2 hq'
    | ok fl =>
      cases fl with
      | ret u =>
        obtain ⟨v, H', I3, rv', ev, q3⟩ := I2.after hq'
        subst ev
        exact ⟨rv', ⟨V.ref (s.heap.objs.size + 1), H', I3, rfl, q3⟩⟩
      | next => exact (show False from hq').elim
      | brk => exact (show False from hq').elim
      | cont => exact (show False from hq').elim
/-- C(a = .., b = ..) -/
theorem pe_makeK3 {w : Bool} (d : DokK X.prog X.w X.K X.mg X.base C k f ps n f3 1 ks) (B : Bd C X W (k + 1)) (M : Mk X.K (C.cls c) f) (hn : ks.length + 1 = n) (hg : Gl X x) (hm : X.mg x = some (.ref (C.cls c))) (hkw : PK X kws (upA C W t))
    (hall : (backToKw pos (keywordEach kws X.env)).all (·.1.isSome) = true) (hks : (backToKw pos (keywordEach kws X.env)).filterMap (·.1) = ks) (hpl : ((backTo pos (starEach [] X.env)).any (·.1) || (backToKw pos (keywordEach kws X.env)).any (·.1.isNone)) = false) (hdb : (x == ("__debug__" : Str)) = false) :
    PE X (.Call (.Name x p) [] kws pos) (up C W (tmake w c n f3 [] t)) := by
  obtain ⟨fd, F, hk, hb⟩ := d
  refine ⟨fun pins s σ H R I h => ?_⟩
  obtain ⟨P, σ3, G, Q, E, r, s3, h, kk, ee⟩ := h
  refine wpAny_Call_Name_kw (ld_glob I hg hm ?_ hdb)
  refine PySem.W.callWith_KW0 (first := []) (h₀ := X.base) I.ok.mod.kin M.kp hall (thn (hkw.run pos pins s σ H (fun zs H1 => ∃ P1 G1 ds, Le P P1 ∧ Rel C P1 G1 H1 ∧ Rvs C P1 ds zs ∧ ∀ p, G1 p = none → (D.ref p :: (ds ++ [])).length = n ∧ f3 (.ref p :: (ds ++ [])) (gset G1 p (.ins c [])) (keepI w c p Q) (fun x G2 => E x (gdel G2 p))) I
    ⟨P, σ3, G, _, E, r, s3, h, fun P1 G1 H1 ds zs l1 r1 v1 q1 => ⟨P1, G1, ds, l1, r1, v1, q1⟩, ee⟩) fun us s1 ⟨zs, H1, I1, rr, P1, G1, ds, l1, r1, v1, q⟩ => ⟨I1.kIn, ?_⟩) hpl
  rw [hks]
  have hlen : us.length = ks.length := by
    have n1 : H1 (s1.heap.objs.size + 1) = none := I1.hok.fresh (Nat.le_succ _)
    have := (q _ (r1.gfree n1)).1
    simp at this
    have e1 := rr.length
    have e2 := v1.length
    omega
  exact run_makeK3 M B F hb hlen I1 rr r1 v1 q (kk.le l1) (ee.le l1)
end
end V3
set_option Elab.async false
set_option linter.all false
set_option maxRecDepth 100000
set_option maxHeartbeats 4000000
/-! V37: the def calls the function without arguments that it got, in a try or not -/
namespace V3
open PySem PySem.Spec L2 PyProof.Rows LamX
def tact0 (i : Nat) (f : Addr) (σm : S3) (tb : T3) : T3 := fun σZ G Q E => σZ[i]? = some (some (.ref f)) ∧ tb (putL σm [] []) G Q E
section
variable {C : Cn} {X : Cx} {pins : List (Addr × Obj)} {σm : L2.St} {H : Hp} {s : Shared}
theorem pe_act0 {σ3 : S3} {Eg : XK} {Ng : List Str} {qg : Str} {sg : Scope} {g f c' : Addr} {cdg pm ctv : Value} {params : Arguments} {body : Expr} {scope : Scope} {k i : Nat} {a : Str} {W : WX} {tb : T3} {p1 p2 : Pos} {pn0 : List (Addr × Obj)} {xe0 : Value → Shared → Prop}
    (I : Inv X pins σm H s) (hN0 : X.N.Nodup) (hK : X.K = C.K) (L : LamP X.N X.env.scope scope [] []) (hs3 : Rs C C.P0 σ3 σm) (hco : C.P0 c' = some (CodeO c' (X.env.qual ++ "<lambda>")))
    (hf : s.heap.get? f = some (PySem.W.kla_obj "<lambda>" (X.env.qual ++ "<lambda>") params body scope (cloFrom X.env.cells scope.names []) pm c' ctv)) (hfn : H f = none) (hfr : f ∉ frs X.stack)
    (hbind : ∀ us : List Value, us.length = ([] : List Str).length → bindArgs (PySem.W.kla_fn "<lambda>" (X.env.qual ++ "<lambda>") params body scope (cloFrom X.env.cells scope.names []) pm (.ref c') ctv) ⟨us, []⟩ = pure (([] : List Str).zip us))
    (B : Bd C ((cxOf (L2.CX X.prog X.w) X.prog X.w X.K X.mg X.base Ng qg sg g cdg X.A X.stack s H Eg).tr pn0 xe0) W (k + 1))
    (hbody : ∀ (A : Around) (outer : List Env) (s : Shared) (H : Hp) (E : XK), Bd C (lamCx X A outer s H E scope f c') (fun c d _ H' => E c d H') k → PE (lamCx X A outer s H E scope f c') body (up C (fun c d _ H' => E c d H') tb))
    (hN : Ng[i]? = some a) (hv : Vis sg a) (hd : (a == ("__debug__" : Str)) = false) (hcd : (a == ("__classdict__" : Str)) = false) :
    PE ((cxOf (L2.CX X.prog X.w) X.prog X.w X.K X.mg X.base Ng qg sg g cdg X.A X.stack s H Eg).tr pn0 xe0) (.Call (.Name a p1) [] [] p2) (up C W (tact0 i f σ3 tb)) := by
  refine ⟨fun pinsZ sZ σZ HZ R IZ h => ?_⟩
  obtain ⟨P, σ4, G, Q, E, r, s4, ⟨h1, h⟩, kk, ee⟩ := h
  obtain ⟨v0, e0, rv0⟩ := s4.get h1
  cases rv0
  refine wpAny_Call_Name_kw (thn ((pe_var (pos := p1) (i := i) hN hv hd hcd).run pinsZ sZ σZ HZ (fun v H1 => v = .ref f ∧ H1 = HZ) IZ ⟨.ref f, e0, rfl, rfl⟩) fun u s1 ⟨v, H1, I1, r1, ev, eH⟩ => ?_)
  subst ev eH
  obtain rfl : u = Value.ref f := r1
  have there : ∀ {σ' : L2.St} {H' : Hp} {s' : Shared}, Inv ((cxOf (L2.CX X.prog X.w) X.prog X.w X.K X.mg X.base Ng qg sg g cdg X.A X.stack s H Eg).tr pn0 xe0) pinsZ σ' H' s' → s'.heap.get? f = some (PySem.W.kla_obj "<lambda>" (X.env.qual ++ "<lambda>") params body scope (cloFrom X.env.cells scope.names []) pm c' ctv) :=
    fun J => J.base.keep f _ hf hfn hfr (fun z => nomatch (show f ∈ ([] : List Addr) from z))
  refine PySem.W.callWith_F0 (first := []) ⟨_, _, _, _, there I1⟩ ?_
  have I2 := I1
  have rr : Vals [] ([] : List Value) := .nil
  have of2 := there I2
  have un : Un (frs X.stack) [] H H1 s.heap s1.heap := I2.base
  have hco2 : H1 c' = some (CodeO c' (X.env.qual ++ "<lambda>")) := r.sub _ _ (r.pb _ _ hco)
  obtain ⟨⟨oc, vsc, tc, hoc, hdc, hvc⟩, _, _⟩ := I2.hok c' _ hco2
  have rc : codeAny (model X.prog X.w) (X.A.deeper (envOfC qg sg s.heap.objs.size g cdg)) (.call (.ref f) ⟨[], []⟩) (CR (L2.CX X.prog X.w) (envOfC qg sg s.heap.objs.size g cdg :: X.stack) X.prog X.w H1 s1 R (WE W σZ)) s1 := by
    refine PySem.W.kla_callFunE B.hr.depth of2 rfl L.co L.gen rfl ⟨c', oc, vsc, tc, rfl, hoc, hdc, hvc⟩ ?_
    rw [hbind [] rfl]
    refine wpAny_pure (wpAny_newFunctionEnv (fun y hy => (L.own y hy).1) (fun y hy => L.par y.1 (List.of_mem_zip (show (y.1, y.2) ∈ ([] : List Str).zip ([] : List Value) from hy)).1) (fun h₁ hns hsb => ⟨I2.nolimit.fresh _ hsb, ?_⟩) L.kind)
    show codeAny _ _ (.expr body (lamEnv X scope s1.heap.objs.size f c')) _ _
    have kp : ∀ b o, s1.heap.get? b = some o → h₁.get? b = some o := fun b o e => hsb.extBut b o (Nat.ne_of_lt (Heap.lt_size e)) (Heap.get?_push_of_some _ e)
    have J : Inv (lamCx X (X.A.deeper (envOfC qg sg s.heap.objs.size g cdg)) (envOfC qg sg s.heap.objs.size g cdg :: X.stack) s1 H1 (WE W σZ) scope f c') [] (putL σm [] []) H1 { s1 with heap := h₁, toks := s1.toks + (([] : List Str).zip ([] : List Value)).length } :=
      lam_in I hN0 L I2.env0 B.hr.hd un hns kp rr rfl
    refine PySem.W.kla_codeExpr (wpAny_mono ((hbody _ _ s1 H1 (WE W σZ) (bd_lam hK hN0 (B.hr.deeper _) B.hg)).run [] _ _ H1 R J ⟨P, putL σ3 [] [], G, Q, E, r, Rs.put [] (hs3.mono r.pb) .nil, h, kk, ee⟩) (fun v s' hq => ?_) fun e s' hq => hq)
    obtain ⟨w', H', J', rv, q⟩ := hq
    exact ⟨w', H', J'.os, J'.bare, J'.base, J'.hok, rv, q⟩
  refine wpAny_call (codeAny_mono rc fun res s' hq => ?_)
  cases res with
  | error er => exact passAt B.tk σZ pinsZ H1 s1 er s' I2 hq
  | ok fl =>
    cases fl with
    | ret u => exact I2.after hq
    | next => exact (show False from hq).elim
    | brk => exact (show False from hq).elim
    | cont => exact (show False from hq).elim
end
end V3
set_option Elab.async false
set_option linter.all false
set_option maxRecDepth 100000
set_option maxHeartbeats 4000000
/-! V38: a function without arguments handed to a def -/
namespace V3
open PySem PySem.Spec L2 PyProof.Rows LamX
def Gives0 (C : Cn) (X : Cx) (Ng : List Str) (qg : Str) (sg : Scope) (g : Addr) (cdg : Value) (bg : List Stmt) (i k : Nat) (tg : T3 → TS3) : Prop :=
  ∀ (C' : Cn) (s : Shared) (H : Hp) (E : XK) (act : T3), C'.toCb = C.toCb → Bd C' (cxOf (L2.CX X.prog X.w) X.prog X.w X.K X.mg X.base Ng qg sg g cdg X.A X.stack s H E) (fun c d _ H' => E c d H') k →
    (∀ (a : Str) (p1 p2 : Pos) (pn0 : List (Addr × Obj)) (xe0 : Value → Shared → Prop) (W0 : WX), Ng[i]? = some a → Bd C' ((cxOf (L2.CX X.prog X.w) X.prog X.w X.K X.mg X.base Ng qg sg g cdg X.A X.stack s H E).tr pn0 xe0) W0 k →
      PE ((cxOf (L2.CX X.prog X.w) X.prog X.w X.K X.mg X.base Ng qg sg g cdg X.A X.stack s H E).tr pn0 xe0) (.Call (.Name a p1) [] [] p2) (up C' W0 act)) →
    PSs (cxOf (L2.CX X.prog X.w) X.prog X.w X.K X.mg X.base Ng qg sg g cdg X.A X.stack s H E) bg (upS C' (fun c d _ H' => E c d H') (tg act))
/-- x(lambda: ..) -/
def tlam0 (Ng : List Str) (tg : T3 → TS3) (tb : T3) : T3 := fun σ G Q E => ∀ f, G f = none → run3 (tg (tact0 0 f σ tb)) (start3 Ng [.ref f]) G Q E
section
variable {C : Cn} {X : Cx}
theorem pe_lam0 {W : WX} {x : Str} {g c PT : Addr} {k : Nat} {pg : Arguments} {bg : List Stmt} {sg : Scope} {dV kV doc pmg cdg ct oc : Value} {an od : Option Addr} {osl : Array (Option Value)} {Ng pg2 : List Str} {params : Arguments} {body : Expr} {scope : Scope} {tb : T3} {tg : T3 → TS3} {p lpos pos : Pos}
    (B : Bd C X W (k + 3)) (hg : Gl X x) (hm : X.mg x = some (.ref g)) (hk : PySem.W.keepIn X.K (.ref g) = true) (lk : X.K.lookup g = some ⟨oc, od, .func (PySem.W.fnOf x x pg bg sg dV kV doc pmg an cdg ct), osl⟩) (hcg : PySem.W.codeIn X.K cdg x = true)
    (hb : L2.Binds X.K (PySem.W.fnOf x x pg bg sg dV kV doc pmg an cdg ct) pg2 []) (Sg : FnScope Ng pg2 sg) (hp2 : pg2.length = 1) (hv1 : ∀ a, Ng[0]? = some a → Vis sg a ∧ (a == ("__debug__" : Str)) = false ∧ (a == ("__classdict__" : Str)) = false)
    (hG : ∀ k', k' = k + 2 → Gives0 C X Ng x sg g cdg bg 0 k' tg)
    (TB : TabB X.base X.mg c PT) (hcode : X.env.code = .ref c) (hmT : (PT, X.env.qual ++ "<lambda>") ∈ C.T) (hu : ∀ p ∈ C.T, p.1 = PT → p.2 = X.env.qual ++ "<lambda>") (L : LamP X.N X.env.scope scope [] []) (hdef : defaultsOf params X.env = ([], []))
    (hbind : ∀ (q : Str) (cl : List (Str × Addr)) (pm cv ctv : Value) (us : List Value), us.length = ([] : List Str).length → bindArgs (PySem.W.kla_fn "<lambda>" q params body scope cl pm cv ctv) ⟨us, []⟩ = pure (([] : List Str).zip us))
    (hbody : ∀ (C' : Cn) (A : Around) (outer : List Env) (s : Shared) (H : Hp) (E : XK) (f c' : Addr), C'.toCb = C.toCb → Bd C' (lamCx X A outer s H E scope f c') (fun c d _ H' => E c d H') (k + 1) → PE (lamCx X A outer s H E scope f c') body (up C' (fun c d _ H' => E c d H') tb))
    (hdb : (x == ("__debug__" : Str)) = false) (hs2 : starEach [.Lambda params body scope lpos] X.env = [(false, eval (.Lambda params body scope lpos) X.env)]) (hpl : (backTo pos (starEach [] X.env)).any (·.1) = false) :
    PE X (.Call (.Name x p) [.Lambda params body scope lpos] [] pos) (up C W (tlam0 Ng tg tb)) := by
  refine ⟨fun pins s σ H R I h => ?_⟩
  obtain ⟨P, σ3, G, Q, E, r, s3, h, kk, ee⟩ := h
  refine wpAny_Call_Name_kw (ld_glob I hg hm ?_ hdb)
  refine PySem.W.callWith_K (h₀ := X.base) I.ok.mod.kin hk ?_ hs2 hpl
  rw [hs2]
  show wpAny _ _ (spliced ((false, eval (.Lambda params body scope lpos) X.env) :: [])) _ _ s
  have l1 : Le P P := Le.refl _
  refine Calls.spliced_cons (lam_make2 I TB hcode hmT hu r.tb hdef (L.has I.ok) fun f c' pm' ctv H2 s' I2 eN T1 hf hfn hfr hco => Calls.spliced_nil ⟨I2.kIn, ?_⟩)
  obtain ⟨l3, r3⟩ := (r.lam eN T1).known hco
  have rr : Rel ⟨C.toCb, upd P c' (CodeO c' (X.env.qual ++ "<lambda>"))⟩ (upd P c' (CodeO c' (X.env.qual ++ "<lambda>"))) G H2 := r3.root
  have nf : G f = none := by
    cases ef : G f with
    | none => rfl
    | some gg =>
      obtain ⟨_, o, z, _⟩ := r3.own _ _ ef
      rw [hfn] at z; cases z
  have rc : codeAny (model X.prog X.w) X.A (.call (.ref g) ⟨[.ref f], []⟩) (CR (L2.CX X.prog X.w) X.stack X.prog X.w H2 s' R (WE W σ)) s' := by
    refine run_ofS (N := Ng) (ps := pg2) (us := [.ref f]) (vs := [.ref f]) (k := k + 2) lk hcg Sg B.hr I2.env0 ?_ (.cons rfl .nil) hp2.symm fun hr' => ?_
    · have := hb s' [.ref f] I2.kIn (by rw [hp2]; rfl)
      rw [List.append_nil] at this
      exact this
    · have Bg : Bd ⟨C.toCb, upd P c' (CodeO c' (X.env.qual ++ "<lambda>"))⟩ (cxOf (L2.CX X.prog X.w) X.prog X.w X.K X.mg X.base Ng x sg g cdg X.A X.stack s' H2 (WE W σ)) (fun c d _ H' => (WE W σ) c d H') (k + 2) :=
        ⟨B.hK, rfl, Sg.nd, hr', guards_deeper B.hg, takes_of rfl rfl rfl rfl, passes_of rfl⟩
      refine ⟨_, hG _ rfl ⟨C.toCb, upd P c' (CodeO c' (X.env.qual ++ "<lambda>"))⟩ s' H2 (WE W σ) (tact0 0 f σ3 tb) rfl Bg fun a p1 p2 pn0 xe0 W0 ha hB0 => ?_, ?_⟩
      · obtain ⟨w1, w2, w3⟩ := hv1 a ha
        exact pe_act0 I2 B.hN B.hK L ((s3.mono (l1.trans l3))) upd_same hf hfn hfr (fun us hus => hbind _ _ _ _ _ us hus) hB0 (fun A outer s H E hB => hbody _ A outer s H E f c' rfl hB) ha w1 w2 w3
      · refine ⟨_, start3 Ng [.ref f], G, _, _, rr, Rs.start (.cons (.ref f) .nil), h f nf, ?_, ?_, ?_, ?_, ?_⟩
        · exact fun P' G' H' σ' τ' l r' _ q => (kk.le (l1.trans l3)).rt r3 P' G' H' .non .non l r' .non q
        · exact (kk.le (l1.trans l3)).rt r3
        · exact fun P' G' H' σ' τ' l r' _ q => q.elim
        · exact fun P' G' H' σ' τ' l r' _ q => q.elim
        · exact fun P' G' H' σ' τ' x c d l r' _ xr q => (ee.le (l1.trans l3)).rt r3 P' G' H' x c d l r' xr q
  refine wpAny_call (codeAny_mono rc fun res s2 hq => ?_)
  cases res with
  | error er => exact passAt B.tk σ pins H2 s' er s2 I2 hq
  | ok fl =>
    cases fl with
    | ret u => exact I2.after hq
    | next => exact (show False from hq).elim
    | brk => exact (show False from hq).elim
    | cont => exact (show False from hq).elim
theorem pe_lam03 {W : WX} {x : Str} {g c PT : Addr} {k : Nat} {pg : Arguments} {bg : List Stmt} {sg : Scope} {fd : FuncData} {Ng pg2 : List Str} {params : Arguments} {body : Expr} {scope : Scope} {tb : T3} {tg : T3 → TS3} {p lpos pos : Pos}
    (B : Bd C X W (k + 3)) (hg : Gl X x) (hm : X.mg x = some (.ref g)) (F : FunD X.K x x pg bg sg [] [] g fd) (hb : L2.Binds X.K fd pg2 []) (Sg : FnScope Ng pg2 sg) (hp2 : pg2.length = 1) (hv1 : ∀ a, Ng[0]? = some a → Vis sg a ∧ (a == ("__debug__" : Str)) = false ∧ (a == ("__classdict__" : Str)) = false)
    (hG : ∀ cdg, Gives0 C X Ng x sg g cdg bg 0 (k + 2) tg)
    (TB : TabB X.base X.mg c PT) (hcode : X.env.code = .ref c) (hmT : (PT, X.env.qual ++ "<lambda>") ∈ C.T) (hu : ∀ p ∈ C.T, p.1 = PT → p.2 = X.env.qual ++ "<lambda>") (L : LamP X.N X.env.scope scope [] []) (hdef : defaultsOf params X.env = ([], []))
    (hbind : ∀ (q : Str) (cl : List (Str × Addr)) (pm cv ctv : Value) (us : List Value), us.length = ([] : List Str).length → bindArgs (PySem.W.kla_fn "<lambda>" q params body scope cl pm cv ctv) ⟨us, []⟩ = pure (([] : List Str).zip us))
    (hbody : ∀ (C' : Cn) (A : Around) (outer : List Env) (s : Shared) (H : Hp) (E : XK) (f c' : Addr), C'.toCb = C.toCb → Bd C' (lamCx X A outer s H E scope f c') (fun c d _ H' => E c d H') (k + 1) → PE (lamCx X A outer s H E scope f c') body (up C' (fun c d _ H' => E c d H') tb))
    (hdb : (x == ("__debug__" : Str)) = false) (hs2 : starEach [.Lambda params body scope lpos] X.env = [(false, eval (.Lambda params body scope lpos) X.env)]) (hpl : (backTo pos (starEach [] X.env)).any (·.1) = false) :
    PE X (.Call (.Name x p) [.Lambda params body scope lpos] [] pos) (up C W (tlam0 Ng tg tb)) := by
  obtain ⟨oc, od, dV, kV, doc, pm, an, cdv, ct, osl, rfl, lk, hcd, hD, _⟩ := id F.ex
  rcases hD with ⟨_, rfl⟩ | ⟨z, _⟩
  · exact pe_lam0 B hg hm F.kp lk hcd hb Sg hp2 hv1 (fun k' e => by subst e; exact hG cdv) TB hcode hmT hu L hdef hbind hbody hdb hs2 hpl
  · exact absurd rfl z
end
end V3
set_option Elab.async false
set_option linter.all false
set_option maxRecDepth 100000
set_option maxHeartbeats 2000000
/-! V39: == and != of an own instance with a thing of any kind; a function that is never reached -/
namespace V3N
open PySem PySem.Spec PyProof.Rows
section
variable {prog : Program} {w : World} {A : Around} {E : Value → Shared → Prop} {s : Shared} {K : PySem.W.Frag} {x C f : Addr} {ox : Obj} {od : Option Obj} {b : Value}
theorem neRichM {tb : Value} (hu : A.units + 1 < cLine) (X : K.In s.heap) (I : PySem.W.InstAt s.heap x ox C od) (hb : PySem.W.Looks (model prog w) s.heap (typeOf b) tb) (hn : PySem.W.notFirst K C tb = true) (hm : PySem.W.mroIn K C (.type "object") = some true)
    (hne : PySem.W.findIn K (.ref C) "__ne__" = some (some (.builtin "object.__ne__"))) (he : PySem.W.findIn K (.ref C) "__eq__" = some (some (.ref f))) (hf : PySem.W.isFn K (.ref f) = true) {Q : Value → Shared → Prop}
    (hcall : wpAny (model prog w) A.in1 (call (.ref f) [.ref x, b]) (fun v s' => ∃ c, v = .bool c ∧ Q (.bool (!c)) s') E s) :
    wpAny (model prog w) A (richCompare .NotEq (.ref x) b) Q E s := by
  have one : wpAny (model prog w) A (tryCompare (.ref x) "__ne__" b) (fun r s1 => ∃ v, r = some v ∧ Q v s1) E s := by
    unfold tryCompare
    refine wpAny_bind (neBound X I hne (neCall (show A.in1.units < cLine from hu) X I hm he hf (wpAny_mono hcall (fun v s1 z => ?_) fun _ _ z => z)))
    obtain ⟨c, rfl, q⟩ := z
    exact ⟨c, rfl, wpAny_pure ⟨_, rfl, q⟩⟩
  unfold richCompare
  simp only [oneThing_ref, cmpInfo_NotEq]
  refine wpAny_holding (wpAny_bind (wpAny_cRoomFor (by omega) ?_))
  refine wpAny_bind (I.type.here (wpAny_bind (hb.here ?_)))
  split
  · rename_i q
    have e : PySem.W.subIn K tb (.ref C) = some false := by
      rcases Bool.or_eq_true_iff.mp hn with e | e
      · rw [beq_iff_eq.mp e] at q; simp at q
      · exact beq_iff_eq.mp e
    refine wpAny_bind ((PySem.W.looks_subIn X e).here ?_)
    simp only [Bool.false_eq_true, if_false]
    refine wpAny_bind (wpAny_mono one (fun r s1 z => ?_) fun _ _ z => z)
    obtain ⟨v, rfl, q⟩ := z
    exact wpAny_pure q
  · refine wpAny_bind (wpAny_pure ?_)
    simp only [Bool.false_eq_true, if_false]
    refine wpAny_bind (wpAny_mono one (fun r s1 z => ?_) fun _ _ z => z)
    obtain ⟨v, rfl, q⟩ := z
    exact wpAny_pure q
end
end V3N
namespace V3
open PySem PySem.Spec L2 PyProof.Rows
/-- kinds of things that an instance of class c may be compared with -/
def MTab (C : Cn) (c : Nat) (t : Ty3 → Bool) : Prop := ∀ y, t y = true → PySem.W.notFirst C.K (C.cls c) (y.val C) = true ∧ ∀ k, y = .o k → IsO C.K (C.cls k)
/-- kinds told by a list of classes and one of builtin types -/
def mT (os : List Nat) (bs : List String) : Ty3 → Bool
  | .o k => os.contains k
  | .b n => bs.contains n
def mtB (K : PySem.W.Frag) (cls : Nat → Addr) (c : Nat) (os : List Nat) (bs : List String) : Bool :=
  (os.all fun k => PySem.W.notFirst K (cls c) (.ref (cls k))) && bs.all fun n => PySem.W.notFirst K (cls c) (.type n)
theorem mtB_ok {C : Cn} {c : Nat} {os : List Nat} {bs : List String} (h : mtB C.K C.cls c os bs = true) (ho : ∀ k ∈ os, IsO C.K (C.cls k)) : MTab C c (mT os bs) := fun y hy => by
  obtain ⟨h1, h2⟩ := Bool.and_eq_true_iff.mp h
  cases y with
  | b n =>
    refine ⟨List.all_eq_true.mp h2 n (List.contains_iff_mem.mp hy), fun k e => by cases e⟩
  | o k =>
    refine ⟨List.all_eq_true.mp h1 k (List.contains_iff_mem.mp hy), fun k' e => by cases e; exact ho k (List.contains_iff_mem.mp hy)⟩
def ownEqMV (c : Nat) (t : Ty3 → Bool) (f : F3) (x y : D) (G : Gp) (Q : K3) : Prop := ∃ fs ty, insD G x = some (c, fs) ∧ tyD G y = some ty ∧ t ty = true ∧ f [x, y] G Q (fun _ _ => False)
def ownNeMV (c : Nat) (t : Ty3 → Bool) (f : F3) (x y : D) (G : Gp) (Q : K3) : Prop := ∃ fs ty, insD G x = some (c, fs) ∧ tyD G y = some ty ∧ t ty = true ∧ f [x, y] G (fun d G1 => ∃ b, d = .bl b ∧ Q (.bl (!b)) G1) (fun _ _ => False)
section
variable {C : Cn} {X : Cx} {W : WX} {k c : Nat} {f : Addr} {fd : FuncData} {ps : List Str} {f3 : F3} {t : Ty3 → Bool}
theorem op_ownEqM (B : Bd C X W k) (T : EqC C.K (C.cls c) f) (M : MTab C c t) (F : FnG X.prog X.w X.K X.mg X.base k f fd ps (upF C 2 f3)) (hb : Binds X.K fd ps []) : OpR X (compareOp .Eq) (upOp C (ownEqMV c t f3)) := by
  intro pins s σ H x y v u R I rx ry h
  obtain ⟨P, G, dx, dy, Q, r, vx, vy, ⟨fs, ty, e1, e2, e3, q⟩, kk⟩ := h
  obtain ⟨a, ax, vs, rfl, h1, _⟩ := insD_ok r vx e1
  cases (show v = Value.ref a from rx)
  obtain ⟨m1, O1, _⟩ := ins_get I.hok h1
  obtain ⟨od1, J1, _⟩ := O1.look
  obtain ⟨PH, kx, ph, _⟩ := kit_of I ry (tyD_ok B.hK r vy e2 (M ty e3).2)
  obtain ⟨m, hF⟩ := I.fr
  show wpAny _ _ (richCompare .Eq (.ref a) u) _ _ _
  refine PySem.W.cmp_K (op := .Eq) (tb := ty.val C) (by have := B.hu; omega) hF I.ok.mod.kin J1 (kx.ty _ _ I.kIn ph) (by rw [B.hK]; exact (M ty e3).1) (by rw [B.hK]; exact T.eq) (by rw [B.hK]; exact T.fn) ?_
  refine wpAny_mono (run_fnG (us := [.ref a, u]) (vs := [.ref a, y]) F B hb .nil I (.cons rfl (.cons ry .nil)) (Q := R) ⟨P, G, [dx, dy], Q, fun _ _ => False, r.b0, .cons vx (.cons vy .nil), rfl, q, kk.b0 r, fun _ _ _ _ _ _ _ _ _ z => z.elim⟩) (fun v s1 z => ?_) fun _ _ z => z
  obtain ⟨z1, H1, I1, rz, qz⟩ := z
  exact SlX.cmpback rz ⟨z1, H1, I1, rz, qz⟩
theorem op_ownNeM (B : Bd C X W (k + 1)) (T : EqC C.K (C.cls c) f) (M : MTab C c t) (F : FnG X.prog X.w X.K X.mg X.base k f fd ps (upF C 2 f3)) (hb : Binds X.K fd ps []) : OpR X (compareOp .NotEq) (upOp C (ownNeMV c t f3)) := by
  intro pins s σ H x y v u R I rx ry h
  obtain ⟨P, G, dx, dy, Q, r, vx, vy, ⟨fs, ty, e1, e2, e3, q⟩, kk⟩ := h
  obtain ⟨a, ax, vs, rfl, h1, _⟩ := insD_ok r vx e1
  cases (show v = Value.ref a from rx)
  obtain ⟨m1, O1, _⟩ := ins_get I.hok h1
  obtain ⟨od1, J1, _⟩ := O1.look
  obtain ⟨PH, kx, ph, _⟩ := kit_of I ry (tyD_ok B.hK r vy e2 (M ty e3).2)
  show wpAny _ _ (richCompare .NotEq (.ref a) u) _ _ _
  refine V3N.neRichM (tb := ty.val C) (by have := B.hu; omega) I.kIn J1 (kx.ty _ _ I.kIn ph) (by rw [B.hK]; exact (M ty e3).1) (by rw [B.hK]; exact T.mro) (by rw [B.hK]; exact T.ne) (by rw [B.hK]; exact T.eq) (by rw [B.hK]; exact T.fn) ?_
  refine wpAny_call (codeAny_mono (F.go X.A.in1 X.stack s H ⟨[.ref a, u], []⟩ [.ref a, u] [.ref a, y] (fun v H1 => ∃ b, v = .bl b ∧ R (.bl (!b)) H1) (WE W σ) B.hr.in1 B.hg I.env0.in1 (hb s _ I.kIn (by exact F.len [.ref a, y] _ _ _ ?g)) (.cons rfl (.cons ry .nil)) ?g) fun res s1 hq => ?_)
  case g =>
    exact ⟨P, G, [dx, dy], _, fun _ _ => False, r.b0, .cons vx (.cons vy .nil), rfl, q, (fun P' G' H' d v l r1 rv ⟨b, e, q1⟩ => by subst e; cases rv; exact ⟨b, rfl, (kk.b0 r) P' G' H' _ _ l r1 (.bl _) q1⟩), fun _ _ _ _ _ _ _ _ _ z => z.elim⟩
  cases res with
  | error ev => exact passAt B.tk σ pins H s ev s1 I hq
  | ok fl =>
    cases fl with
    | ret u =>
      obtain ⟨z1, H1, I1, rz, bb, rfl, qz⟩ := I.after hq
      cases (show u = Value.bool bb from rz)
      exact ⟨bb, rfl, .bl (!bb), H1, I1, rfl, qz⟩
    | next => exact (show False from hq).elim
    | brk => exact (show False from hq).elim
    | cont => exact (show False from hq).elim
theorem c_ownEqM {kf : Nat} {ar : List (List D)} (d : Dok X.prog X.w X.K X.mg X.base C kf f ps 2 f3 ar) (B : Bd C X W k) (hk : kf ≤ k) (hdd : [] ∈ ar) (T : EqC C.K (C.cls c) f) (M : MTab C c t) : OpR X (compareOp .Eq) (upOp C (ownEqMV c t f3)) := by
  obtain ⟨fd, h1, h2⟩ := dok_nil d hdd
  exact op_ownEqM B T M (h1.mono hk) h2
theorem c_ownNeM {kf : Nat} {ar : List (List D)} (d : Dok X.prog X.w X.K X.mg X.base C kf f ps 2 f3 ar) (B : Bd C X W k) (hk : kf + 1 ≤ k) (hdd : [] ∈ ar) (T : EqC C.K (C.cls c) f) (M : MTab C c t) : OpR X (compareOp .NotEq) (upOp C (ownNeMV c t f3)) := by
  obtain ⟨fd, h1, h2⟩ := dok_nil d hdd
  obtain ⟨k', rfl⟩ : ∃ k', k = k' + 1 := ⟨k - 1, by omega⟩
  exact op_ownNeM B T M (h1.mono (by omega)) h2
end
end V3
namespace V3
open PySem PySem.Spec L2 PyProof.Rows
/-- the reading of a def that is never reached -/
def fNever : F3 := fun _ _ _ _ => False
theorem fnNever {P : Program} {w : World} {K : PySem.W.Frag} {mg : Str → Option Value} {base : Heap} {C : Cn} {k n : Nat} {f : Addr} {fd : FuncData} {ps : List Str} : FnG P w K mg base k f fd ps (upF C n fNever) :=
  ⟨fun _ _ _ _ ⟨_, _, _, _, _, _, _, _, h, _⟩ => h.elim, fun _ _ _ _ _ _ _ _ _ _ _ _ _ _ ⟨_, _, _, _, _, _, _, _, h, _⟩ => h.elim⟩
end V3
namespace V3
open PySem PySem.Spec L2 PyProof.Rows
section
variable {C : Cn} {X : Cx} {W W1 : WX} {k : Nat} {a : Addr} {pn : List (Addr × Obj)} {P0 : Hp} {e : Expr} {es : List Expr} {t : TA3} {p pos : Pos}
/-- repr in an except suite -/
theorem pe_reprS3 (B : Bd C X W1 k) (hg : Gl X "repr") (hm : X.mg "repr" = none) (ha : PA (X.suite a pn) (e :: es) (upA ⟨C.toCb, P0⟩ W t)) (he : starEach (e :: es) X.env = (false, eval e X.env) :: starEach es X.env) (hpl : (backTo pos (starEach es X.env)).any (·.1) = false) :
    PE (X.suite a pn) (.Call (.Name "repr" p) (e :: es) [] pos) (up ⟨C.toCb, P0⟩ W (tcl (bfV false .repr) t)) := by
  have hgd : (X.suite a pn).A.guards = some [] := by
    have := B.hg
    first | exact this | (simpa [Around.mark] using this)
  have hu : (X.suite a pn).A.units + 66 < cLine := by
    have := B.hu66
    first | exact this | (simpa [Around.mark] using this)
  have ok : CallR (X.suite a pn) (.builtin "repr") (upCl ⟨C.toCb, P0⟩ (bfV false .repr)) := by
    intro pins s τ H vs us R I rv h
    obtain ⟨P, G, xs, Q, r, qx, h, k⟩ := h
    cases qx with
    | nil => exact h.elim
    | cons ra tl =>
      cases tl with
      | cons _ _ => exact h.elim
      | nil =>
        obtain ⟨p, e, h1, h2, h3, q⟩ := h
        exact call_reprV hgd hu pins s τ H _ us R I rv ⟨_, p, rfl, toPyG_ok (C := ⟨C.toCb, P0⟩) B.hK r ra e, h1, h2, h3, k P G H _ _ (Le.refl _) r (.str _) q⟩
  have fin : ∀ τ H R, up ⟨C.toCb, P0⟩ W (tcl (bfV false .repr) t) τ H R → tCB (upCl ⟨C.toCb, P0⟩ (bfV false .repr)) (upA ⟨C.toCb, P0⟩ W t) τ H R := fun τ H R h => by
    obtain ⟨P, σ, G, Q, E, r, s, h, k, ee⟩ := h
    exact ⟨P, σ, G, _, E, r, s, h, fun P1 G1 H1 ds vs l1 r1 v1 q1 => ⟨P1, G1, ds, Q, r1, v1, q1, k.le l1⟩, ee⟩
  exact PEw (pe_callB ok hg hm (by decide +kernel) ha (by decide +kernel) (by decide +kernel) he hpl) fin
end
end V3
set_option Elab.async false
set_option linter.all false
set_option maxRecDepth 100000
set_option maxHeartbeats 2000000
/-! V40: repr of an empty dict, too -/
namespace V3
open PySem PySem.Spec L2 PyProof.Rows
/-- repr(x): of an empty dict, too -/
def rprV : List D → Gp → K3 → Prop := fun ds G Q => match ds with
  | [.dk []] => Q (.str "{}") G
  | _ => bfV false .repr ds G Q
@[simp ↓] theorem rpr_dk {G : Gp} {Q : K3} : rprV [.dk []] G Q = Q (.str "{}") G := rfl
theorem rpr_go {n B : Nat} {d : D} {p : PyData} {G : Gp} {Q : K3} (h : toPyG G d = some p) (s : Small n B p) (hn : n ≤ 64) (hB : B ≤ sizeLine) (hq : Q (.str p.shown) G) : rprV [d] G Q := by
  have := b_repr (w := false) (G := G) (Q := Q) h s hn hB hq
  unfold rprV
  split
  · rename_i e
    cases e
    cases h
  · exact this
theorem shown_e : PyData.shown (.dict []) = "{}" := by
  rw [PyData.shown]
  decide +kernel
section
variable {C : Cn} {X : Cx} {W W1 : WX} {k : Nat} {a : Addr} {pn : List (Addr × Obj)} {P0 : Hp} {e : Expr} {es : List Expr} {t : TA3} {p pos : Pos}
theorem rpr_ok (hgd : X.A.guards = some []) (hu : X.A.units + 66 < cLine) (hK : X.K = C.K) : CallR X (.builtin "repr") (upCl C rprV) := by
  intro pins s τ H vs us R I rv h
  obtain ⟨P, G, xs, Q, r, qx, h, kk⟩ := h
  unfold rprV at h
  split at h
  · cases qx with
    | cons ra tl =>
      cases tl with
      | nil =>
        cases ra with
        | dk sp q =>
          rename_i aa kvs
          cases q
          obtain ⟨u, rfl, rx⟩ := vals1 rv
          obtain rfl : u = Value.ref _ := rx
          obtain ⟨_, hsm, vs, kv, o, es, ep, h1, h2, h3, _, h5, _⟩ := dk_of I.hok (r.sub _ _ sp)
          cases kv
          have e0 : es.toList = [] := List.eq_nil_of_length_eq_zero (by rw [h5.length]; rfl)
          have hr : Reads s.heap (.ref aa) (.dict []) (aa :: [] ++ []) := .dict h1 h2.1 h3 (by rw [e0]; exact .nil) (by rw [e0]; exact .nil)
          refine repr_of_reads' hr (by simp [PyData.showable, PyData.showableKv]) (fun _ z => ?_) hgd (by simp [PyData.depth, PyData.depthKv]; omega) (fun _ _ e => e) (fun h' t tk kp => ⟨.str _, H, I.kept kp, ⟨_, rfl⟩, ?_⟩) (by rw [shown_e]; decide)
          · simp at z
            rw [z] at hsm
            simp at hsm
          · rw [shown_e]
            exact kk P G H _ _ (Le.refl _) r (.str _) h
  · cases qx with
    | nil => exact h.elim
    | cons ra tl =>
      cases tl with
      | cons _ _ => exact h.elim
      | nil =>
        obtain ⟨p, e, h1, h2, h3, q⟩ := h
        exact call_reprV hgd hu pins s τ H _ us R I rv ⟨_, p, rfl, toPyG_ok hK r ra e, h1, h2, h3, kk P G H _ _ (Le.refl _) r (.str _) q⟩
theorem pe_rpr0 (ok : CallR X (.builtin "repr") (upCl C rprV)) (hg : Gl X "repr") (hm : X.mg "repr" = none) (ha : PA X (e :: es) (upA C W t)) (he : starEach (e :: es) X.env = (false, eval e X.env) :: starEach es X.env) (hpl : (backTo pos (starEach es X.env)).any (·.1) = false) :
    PE X (.Call (.Name "repr" p) (e :: es) [] pos) (up C W (tcl rprV t)) :=
  PEw (pe_callB ok hg hm (by decide +kernel) ha (by decide +kernel) (by decide +kernel) he hpl) fun τ H R h => by
    obtain ⟨P, σ, G, Q, E, r, s, h, k, ee⟩ := h
    exact ⟨P, σ, G, _, E, r, s, h, fun P1 G1 H1 ds vs l1 r1 v1 q1 => ⟨P1, G1, ds, Q, r1, v1, q1, k.le l1⟩, ee⟩
theorem pe_rpr3 (B : Bd C X W k) (hg : Gl X "repr") (hm : X.mg "repr" = none) (ha : PA X (e :: es) (upA C W t)) (he : starEach (e :: es) X.env = (false, eval e X.env) :: starEach es X.env) (hpl : (backTo pos (starEach es X.env)).any (·.1) = false) :
    PE X (.Call (.Name "repr" p) (e :: es) [] pos) (up C W (tcl rprV t)) := pe_rpr0 (rpr_ok B.hg B.hu66 B.hK) hg hm ha he hpl
theorem pe_rprS3 (B : Bd C X W1 k) (hg : Gl X "repr") (hm : X.mg "repr" = none) (ha : PA (X.suite a pn) (e :: es) (upA ⟨C.toCb, P0⟩ W t)) (he : starEach (e :: es) X.env = (false, eval e X.env) :: starEach es X.env) (hpl : (backTo pos (starEach es X.env)).any (·.1) = false) :
    PE (X.suite a pn) (.Call (.Name "repr" p) (e :: es) [] pos) (up ⟨C.toCb, P0⟩ W (tcl rprV t)) := by
  have hgd : (X.suite a pn).A.guards = some [] := by
    have := B.hg
    first | exact this | (simpa [Around.mark] using this)
  have hu : (X.suite a pn).A.units + 66 < cLine := by
    have := B.hu66
    first | exact this | (simpa [Around.mark] using this)
  exact pe_rpr0 (C := ⟨C.toCb, P0⟩) (rpr_ok hgd hu B.hK) hg hm ha he hpl
end
end V3
set_option Elab.async false
set_option linter.all false
set_option maxRecDepth 100000
set_option maxHeartbeats 2000000
/-! V41: xs.pop(i), xs.extend(ys), sum of a tuple, a, b = a list, dict(a list of pairs) -/
namespace V3
open PySem PySem.Spec L2 PyProof.Rows
/-- x.pop(i), x a cell -/
def lpopV : D → List D → Gp → K3 → Prop
  | .ref a, [.int i], G, Q => ∃ xs k y, G a = some (.lst xs) ∧ -(2 ^ 63) ≤ i ∧ i < 2 ^ 63 ∧ seqIndex? i xs.length = some k ∧ xs[k]? = some y ∧ Q y (gset G a (.lst (xs.eraseIdx k)))
  | _, _, _, _ => False
/-- x.extend(y), x a cell, y a list that is none -/
def lextV : D → List D → Gp → K3 → Prop
  | .ref a, [.lst ys], G, Q => ∃ xs, G a = some (.lst xs) ∧ xs.length + ys.length ≤ sizeLine ∧ Q .non (gset G a (.lst (xs ++ ys)))
  | _, _, _, _ => False
section
variable {C : Cn} {X : Cx} {W : WX} {o e : Expr} {es : List Expr} {to ta : T3} {t : TA3} {apos pos p : Pos}
theorem Rvs.eraseIdx {P : Hp} : ∀ {ds : List D} {vs : List V} (k : Nat), Rvs C P ds vs → Rvs C P (ds.eraseIdx k) (vs.eraseIdx k)
  | _, _, _, .nil => .nil
  | _, _, 0, .cons _ r => r
  | _, _, k + 1, .cons a r => .cons a (Rvs.eraseIdx k r)
theorem mt_lpop3 : MtR X "list.pop" (upMt C lpopV) := by
  intro pins s σ H x vs v us R I rx rv h
  obtain ⟨P, G, y, ds, Q, r, ry, rd, h, k⟩ := h
  unfold lpopV at h
  split at h
  · rename_i a i
    cases ry
    cases rd with
    | cons d1 d2 =>
      cases d2
      cases d1
      obtain ⟨xs, j, y, e1, b1, b2, e2, e3, q⟩ := h
      obtain ⟨_, o, h1, h2⟩ := r.own _ _ e1
      cases h2 with
      | lst q2 =>
        obtain ⟨w, g1, g2⟩ := q2.get e3
        exact mt_popAt pins s σ H _ _ v us R I rx rv ⟨a, _, i, j, w, rfl, rfl, h1, b1, b2, by rw [← q2.length]; exact e2, g1, k P _ _ _ _ (Le.refl _) (r.write e1 (.lst (q2.eraseIdx j))) g2 q⟩
  · exact h.elim
theorem mt_lext3 : MtR X "list.extend" (upMt C lextV) := by
  intro pins s σ H x vs v us R I rx rv h
  obtain ⟨P, G, y, ds, Q, r, ry, rd, h, k⟩ := h
  unfold lextV at h
  split at h
  · rename_i a ys
    cases ry
    cases rd with
    | cons d1 d2 =>
      cases d2
      cases d1 with
      | lst sp q1 =>
        obtain ⟨xs, e1, hz, q⟩ := h
        obtain ⟨_, o, h1, h2⟩ := r.own _ _ e1
        cases h2 with
        | lst q2 =>
          exact mt_extend pins s σ H _ _ v us R I rx rv ⟨a, _, _, _, rfl, rfl, h1, r.sub _ _ sp, by rw [← q2.length, ← q1.length]; exact hz, k P _ _ _ _ (Le.refl _) (r.write e1 (.lst (q2.app q1))) .non q⟩
  · exact h.elim
/-- a method of a list -/
def tbmL (f : D → List D → Gp → K3 → Prop) (to : T3) (t : TA3) : T3 := fun σ G Q E => to σ G (fun x G1 => (∃ xs, seqL G1 x = some xs) ∧ t σ G1 (fun ds G2 => f x ds G2 Q) E) E
theorem tbmL_up (hK : X.K = C.K) {f : D → List D → Gp → K3 → Prop} {τ : L2.St} {H : Hp} {R : VK} (h : up C W (tbmL f to t) τ H R) : tBM X.K "list" (upMt C f) (up C W to) (upA C W t) τ H R := by
  obtain ⟨P, σ, G, Q, E, r, s, h, k, ee⟩ := h
  refine up_go r s h (fun P1 G1 H1 x v l1 r1 v1 ⟨z, q1⟩ => ?_) ee
  refine ⟨isTy_ok hK r1 v1 z, P1, σ, G1, _, E, r1, s.mono l1, q1, fun P2 G2 H2 ds vs l2 r2 v2 q2 => ?_, ee.le l1⟩
  exact ⟨P2, G2, x, ds, Q, r2, v1.mono l2, v2, q2, k.le (l1.trans l2)⟩
theorem pe_lpop3 (hK : X.K = C.K) (ho : PE X o (up C W to)) (ha : PA X (e :: es) (upA C W t)) (hb : attributeBase o "pop" X.env (eval o X.env) = eval o X.env)
    (hfew : ((backTo pos (starEach (e :: es) X.env)).all (fun x => !x.1) && (backToKw pos (keywordEach [] X.env)).all (fun x => x.1.isSome) && decide ((e :: es).length + ([] : List Keyword).length + (if ([] : List Keyword).isEmpty then 0 else 1) < 30)) = true)
    (hl : (apos.endLine == pos.line) = true) (hs : starEach (e :: es) X.env = (false, eval e X.env) :: starEach es X.env) (hp : (backTo pos (starEach es X.env)).any (·.1) = false) :
    PE X (.Call (.Attribute o "pop" apos) (e :: es) [] pos) (up C W (tbmL lpopV to t)) :=
  PEw (pe_bm PySem.F.plainAttrs_list PySem.F.slot_list_pop PySem.F.type_list_pop mt_lpop3 ho ha hb hfew hl hs hp) fun _ _ _ h => tbmL_up hK h
theorem pe_lext3 (hK : X.K = C.K) (ho : PE X o (up C W to)) (ha : PA X (e :: es) (upA C W t)) (hb : attributeBase o "extend" X.env (eval o X.env) = eval o X.env)
    (hfew : ((backTo pos (starEach (e :: es) X.env)).all (fun x => !x.1) && (backToKw pos (keywordEach [] X.env)).all (fun x => x.1.isSome) && decide ((e :: es).length + ([] : List Keyword).length + (if ([] : List Keyword).isEmpty then 0 else 1) < 30)) = true)
    (hl : (apos.endLine == pos.line) = true) (hs : starEach (e :: es) X.env = (false, eval e X.env) :: starEach es X.env) (hp : (backTo pos (starEach es X.env)).any (·.1) = false) :
    PE X (.Call (.Attribute o "extend" apos) (e :: es) [] pos) (up C W (tbmL lextV to t)) :=
  PEw (pe_bm PySem.F.plainAttrs_list PySem.F.slot_list_extend PySem.F.type_list_extend mt_lext3 ho ha hb hfew hl hs hp) fun _ _ _ h => tbmL_up hK h
/-- sum(x), x a tuple of ints -/
def sumTV : List D → Gp → K3 → Prop := fun ds G Q => ∃ x xs ns, ds = [x] ∧ tupA x = some xs ∧ intsOf xs = some ns ∧ Q (.int ns.sum) G
theorem sumT_ok (hc : X.calm = true) (hK : X.K = C.K) : CallR X (.builtin "sum") (upCl C sumTV) := by
  intro pins s τ H vs us R I rv h
  obtain ⟨P, G, ds, Q, r, qx, ⟨x, xs, ns, rfl, e1, e2, q⟩, k⟩ := h
  cases qx with
  | cons ra tl =>
    cases tl
    obtain ⟨a, ws, rfl, h1, q1⟩ := tupA_ok (K := X.K) r ra e1
    obtain rfl := intsOf_ok q1 e2
    obtain ⟨its, rv2, ht, hz⟩ := I.tuple h1
    rw [Vals.ref1 rv]
    have hi := rv2.ints
    obtain ⟨zs, ez⟩ := hi.allInts.items
    have hn : numsOf (intItems zs).toList = ns := by rw [← ez]; exact hi.numsOf
    rw [nums_intItems] at hn
    rw [ez] at ht
    refine PySem.W.ktm_sumG (I.ok.hd hc) ht fun h' tk t' hk => ⟨.int ns.sum, H, I.kept hk, ?_, k P G H _ _ (Le.refl _) r (.int _) q⟩
    refine ⟨t', ?_⟩
    rw [preSum_eq, List.take_of_length_le (by simp), hn]
theorem pe_sumT3 {k : Nat} (B : Bd C X W k) (hg : Gl X "sum") (hm : X.mg "sum" = none) (ha : PA X (e :: es) (upA C W t)) (he : starEach (e :: es) X.env = (false, eval e X.env) :: starEach es X.env) (hpl : (backTo pos (starEach es X.env)).any (·.1) = false) :
    PE X (.Call (.Name "sum" p) (e :: es) [] pos) (up C W (tcl sumTV t)) :=
  PEw (pe_callB (sumT_ok B.hc B.hK) hg hm (by decide +kernel) ha (by decide +kernel) (by decide +kernel) he hpl) fun τ H R h => by
    obtain ⟨P, σ, G, Q, E, r, s, h, k, ee⟩ := h
    exact ⟨P, σ, G, _, E, r, s, h, fun P1 G1 H1 ds vs l1 r1 v1 q1 => ⟨P1, G1, ds, Q, r1, v1, q1, k.le l1⟩, ee⟩
/-- a, b = a list -/
def gtl (n : Nat) (t : TGs3) : TG3 := fun d σ G Q E => ∃ ds, seqL G d = some ds ∧ ds.length = n ∧ t ds σ G Q E
theorem pg_tl3 {es : List Expr} {k n : Nat} {t : TGs3} {pos : Pos} (hK : X.K = C.K) (hc : X.calm = true) (h : PGs X es (upGs C W t)) (hn : (assignEach es X.env).length = n) (hst : (assignEach es X.env).findIdx? (·.1) = none) : PG X (.Tuple es k pos) (upG C W (gtl n t)) := by
  refine PGw (pg_lst hc h hn hst) fun v τ H R h => ?_
  obtain ⟨P, σ, G, d, Q, E, r, s, rv, ⟨ds, e1, hl, h⟩, k, ee⟩ := h
  obtain ⟨a, vs, rfl, h1, q1⟩ := seqL_ok r rv e1
  exact ⟨a, vs, rfl, by rw [hK]; exact h1, by rw [← q1.length]; exact hl, P, σ, G, ds, Q, E, r, s, q1, h, k, ee⟩
@[simp ↓] theorem s_gtl {n : Nat} {gs : TGs3} {d : D} {σ : S3} {G : Gp} {R : S3 → Gp → Prop} {E : ES3} : gtl n gs d σ G R E = ∃ ds, seqL G d = some ds ∧ ds.length = n ∧ gs ds σ G R E := rfl
@[simp ↓] theorem s_bmL {f : D → List D → Gp → K3 → Prop} {a : T3} {ta : TA3} {σ : S3} {G : Gp} {Q : K3} {E : E3} : tbmL f a ta σ G Q E = a σ G (fun x G1 => (∃ xs, seqL G1 x = some xs) ∧ ta σ G1 (fun ds G2 => f x ds G2 Q) E) E := rfl
theorem sumT_go {is : List Int} {G : Gp} {Q : K3} (hq : Q (.int is.sum) G) : sumTV [.tup (is.map D.int)] G Q := by
  have e : ∀ is : List Int, intsOf (is.map D.int) = some is := fun is => by
    induction is with
    | nil => rfl
    | cons a r ih => simp [intsOf, ih]
  exact ⟨_, _, is, rfl, rfl, e is, hq⟩
end
end V3
set_option Elab.async false
set_option linter.all false
set_option maxRecDepth 100000
set_option maxHeartbeats 2000000
/-! V42: dict(a list of pairs) -/
namespace V3
open PySem PySem.Spec L2 PyProof.Rows
/-- a tree (k, v) -/
def pairD : D → Option (Key × D)
  | .tup [a, b] => (keyD a).map fun k => (k, b)
  | _ => none
def pairDs : List D → Option (List (Key × D))
  | [] => some []
  | d :: ds => match pairD d, pairDs ds with
    | some k, some ks => some (k :: ks)
    | _, _ => none
/-- dict(x), x a list of pairs -/
def dictPV (w : Bool) : List D → Gp → K3 → Prop := fun ds G Q => ∃ x xs kvs, ds = [x] ∧ seqL G x = some xs ∧ pairDs xs = some kvs ∧ newD w (mergeD kvs) G Q
section
variable {C : Cn} {X : Cx} {W : WX} {e : Expr} {es : List Expr} {t : TA3} {pos p : Pos}
theorem pairs_ok {P : Hp} {G : Gp} {H : Hp} {K : PySem.W.Frag} (r : Rel C P G H) : ∀ {ds : List D} {vs : List V} {kvs : List (Key × D)}, Rvs C P ds vs → pairDs ds = some kvs →
    ∃ (ps : List Addr) (ws : List (Key × V)), vs = ps.map V.ref ∧ Paired (fun p (kv : Key × V) => SqT K H p [kV kv.1, kv.2]) ps ws ∧ Rvk C P kvs ws
  | _, _, _, .nil, e => by
    cases e
    exact ⟨[], [], rfl, .nil, .nil⟩
  | d :: ds, _, kvs, .cons a b, e => by
    simp only [pairDs] at e
    split at e
    · rename_i k ks e1 e2
      cases e
      obtain ⟨ps, ws, rfl, h1, h2⟩ := pairs_ok (K := K) r b e2
      unfold pairD at e1
      split at e1
      · rename_i x y
        obtain ⟨k0, hk, rfl⟩ := Option.map_eq_some_iff.mp e1
        obtain ⟨q, vs, rfl, s1, s2⟩ := tupA_ok (K := K) r a rfl
        cases s2 with
        | cons c1 c2 =>
          cases c2 with
          | cons c3 c4 =>
            cases c4
            rw [keyD_ok c1 hk] at s1
            exact ⟨q :: ps, (k0, _) :: ws, rfl, .cons s1 h1, .cons c3 h2⟩
      · cases e1
    · cases e
theorem dictP_ok {w : Bool} (hc : X.calm = true) (hK : X.K = C.K) : CallR X (.type "dict") (upCl C (dictPV w)) := by
  intro pins s τ H vs us R I rv h
  obtain ⟨P, G, ds, Q, r, qx, ⟨x, xs, kvs, rfl, e1, e2, q⟩, k⟩ := h
  cases qx with
  | cons ra tl =>
    cases tl
    obtain ⟨a, ws, rfl, h1, q1⟩ := seqL_ok r ra e1
    obtain ⟨ps, zs, rfl, p1, p2⟩ := pairs_ok (K := X.K) r q1 e2
    exact call_dictP hc pins s τ H _ us R I rv ⟨a, ps, zs, rfl, by rw [hK]; exact h1, p1, newD_ok r (p2.merge .nil) q k⟩
theorem pe_dictP3 {w : Bool} {k : Nat} (B : Bd C X W k) (hg : Gl X "dict") (hm : X.mg "dict" = none) (ha : PA X (e :: es) (upA C W t)) (he : starEach (e :: es) X.env = (false, eval e X.env) :: starEach es X.env) (hpl : (backTo pos (starEach es X.env)).any (·.1) = false) :
    PE X (.Call (.Name "dict" p) (e :: es) [] pos) (up C W (tcl (dictPV w) t)) :=
  PEw (pe_callTy (dictP_ok B.hc B.hK) hg hm (by decide +kernel) ha (by decide +kernel) (by decide +kernel) he hpl) fun τ H R h => by
    obtain ⟨P, σ, G, Q, E, r, s, h, k, ee⟩ := h
    exact ⟨P, σ, G, _, E, r, s, h, fun P1 G1 H1 ds vs l1 r1 v1 q1 => ⟨P1, G1, ds, Q, r1, v1, q1, k.le l1⟩, ee⟩
end
end V3
set_option Elab.async false
set_option linter.all false
set_option maxRecDepth 100000
set_option maxHeartbeats 2000000
/-! V43: t[::-1], t a tuple -/
namespace HT
open PySem PySem.Spec PyProof.Rows
section
variable {prog : Program} {w : World} {A : Around} {E : Value → Shared → Prop} {s : Shared}
theorem adjust_rev (n : Nat) : Builtin.Slice.sliceAdjust none none (-1) (n : Int) = ((n : Int) - 1, -1) := rfl
theorem places_rev (n : Nat) : Builtin.Slice.slicePlaces ((n : Int) - 1) (-1) (-1) = n := by
  unfold Builtin.Slice.slicePlaces
  have h1 : ¬ ((-1 : Int) > 0) := by omega
  simp only [h1, if_false]
  have e : (- -1 : Int) = 1 := by decide
  rw [e, Int.ediv_one]
  split <;> omega
theorem sliceApplied_rev {sl : Addr} {vl vu vs : Value} {n : Nat} {Q : Int × Int × Nat → Shared → Prop} (hs : s.heap.IsSliceOf sl vl vu vs) (pl : IsPart vl none) (pu : IsPart vu none) (ps : IsPart vs (some (-1)))
    (h : Q ((n : Int) - 1, -1, n) s) : wpAny (model prog w) A (Builtin.Slice.sliceApplied (.ref sl) (pure (n : Int))) Q E s := by
  obtain ⟨os, hos, hcs, hds⟩ := id hs
  unfold Builtin.Slice.sliceApplied Builtin.Slice.sliceFields
  refine wpAny_bind (wpAny_bind (wpAny_field hos hds (x := vl) rfl (wpAny_bind (wpAny_field hos hds (x := vu) rfl (wpAny_bind (wpAny_field hos hds (x := vs) rfl (wpAny_pure ?_)))))))
  refine wpAny_bind (slicePart_ ps ?_)
  show wpAny _ _ (if ((-1 : Int) == 0) = true then _ else _) _ _ s
  rw [if_neg (by decide)]
  refine wpAny_bind (slicePart_ pl (wpAny_bind (slicePart_ pu (wpAny_bind (wpAny_pure ?_)))))
  show wpAny _ _ (match Builtin.Slice.sliceAdjust none none (-1) (n : Int) with | (lo, hi) => pure (lo, (-1 : Int), Builtin.Slice.slicePlaces lo hi (-1))) _ _ s
  rw [adjust_rev n]
  show wpAny _ _ (pure ((n : Int) - 1, (-1 : Int), Builtin.Slice.slicePlaces ((n : Int) - 1) (-1) (-1))) _ _ s
  rw [places_rev]
  exact wpAny_pure h
theorem pick_rev (xs : Array Value) : ((List.range xs.size).filterMap fun (m : Nat) => xs[((xs.size : Int) - 1 + (m : Int) * (-1)).toNat]?).toArray = xs.toList.reverse.toArray := by
  have e : (fun (m : Nat) => xs[((xs.size : Int) - 1 + (m : Int) * (-1)).toNat]?) = (xs[·]?) ∘ fun (m : Nat) => ((xs.size : Int) - 1 + (m : Int) * (-1)).toNat := rfl
  rw [e, ← List.filterMap_map]
  have e2 : (List.range xs.size).map (fun (m : Nat) => ((xs.size : Int) - 1 + (m : Int) * (-1)).toNat) = (List.range xs.size).map (fun k => xs.size - 1 - k) := by
    apply List.map_congr_left
    intro k hk
    have := List.mem_range.mp hk
    omega
  rw [e2, PySem.W.krv_range, List.filterMap_reverse, PySem.W.krv_all]
theorem getItem_tuple_rev {t sl : Addr} {items : Array Value} {vl vu vs : Value} {Q : Value → Shared → Prop} (ht : IsTup s.heap t items) (hs : s.heap.IsSliceOf sl vl vu vs) (pl : IsPart vl none) (pu : IsPart vu none) (ps : IsPart vs (some (-1)))
    (h : Q (.ref s.heap.objs.size) { s with heap := s.heap.push { cls := .type "tuple", data := .seq items.toList.reverse.toArray } })
    (hsz : items.size ≤ sizeLine) : wpAny (model prog w) A (getItem (.ref t) (.ref sl)) Q E s := by
  have htake : sizeOk (.seq items.toList.reverse.toArray) := by
    show items.toList.reverse.toArray.size ≤ sizeLine
    rw [List.size_toArray, List.length_reverse, Array.length_toList]
    omega
  obtain ⟨os, hos, hcs, hds⟩ := id hs
  have hTs : s.TypeIs (.ref sl) "slice" := ⟨os, hos, hcs⟩
  unfold getItem
  try with_reducible refine wpAny_holding ?_
  first | refine wpAny_bind (wpAny_pure ?_) | skip
  refine wpAny_bind (wpAny_sequenceKey ht.typeIs (by decide) ?_)
  refine wpAny_bind (wpAny_callSpecial?_slot (name := Str.ofString "__getitem__") ht.typeIs PyProof.Rows.slot_tuple_getitem
    (wpAny_call_entry PyProof.Rows.slot_tuple_getitem ht.typeIs entry_tuple_getitem ?_ (args_tuple_getitem _ _)))
  show wpAny _ _ (Builtin.Tuple.tupleItemsOf (.ref t) >>= _) _ _ s
  refine wpAny_bind (tupleItemsOf_ ht ?_)
  refine wpAny_bind (wpAny_typeOf hTs ?_)
  rw [if_pos (by decide)]
  refine wpAny_bind (sliceApplied_rev hs pl pu ps ?_)
  have hno : ¬ (((items.size : Int) - 1 == 0 && (-1 : Int) == 1 && items.size == items.size) = true) := by
    simp
  show wpAny _ _ (if ((items.size : Int) - 1 == 0 && (-1 : Int) == 1 && items.size == items.size) = true then _ else _) _ _ s
  rw [if_neg hno, pick_rev]
  first
    | exact wpAny_bind (m := Builtin.Tuple.tupleExact _) (wpAny_newObj_type (wpAny_pure ⟨_, rfl, wpAny_pure h⟩) htake)
    | exact wpAny_bind (m := Builtin.Tuple.tupleExact _) (wpAny_newObj_type (wpAny_bind (wpAny_pure (wpAny_pure ⟨_, rfl, wpAny_pure h⟩))) htake)
    | exact wpAny_bind (wpAny_bind (m := Builtin.Tuple.tupleExact _) (wpAny_newObj_type (wpAny_pure (wpAny_pure ⟨_, rfl, wpAny_pure h⟩)) htake))
    | exact wpAny_bind (wpAny_bind (m := Builtin.Tuple.tupleExact _) (wpAny_newObj_type (wpAny_pure ⟨_, rfl, wpAny_pure h⟩) htake))
end
end HT
namespace V3
open PySem PySem.Spec L2 PyProof.Rows
def tRevT (K : PySem.W.Frag) (te : TE) : TE := fun σ H Q => te σ H fun x H1 => ∃ a xs, x = .ref a ∧ SqT K H1 a xs ∧ ∀ p, H1 p = none → Q (.ref p) (upd H1 p (.tup xs.reverse))
theorem pe_revT {X : Cx} {e : Expr} {te : TE} {k : Nat} {p1 p2 p3 pos : Pos} (he : PE X e te) : PE X (.Subscript e (.Slice none none (some (.UnaryOp .USub (.Constant (.int 1) k p1) p2)) p3) pos) (tRevT X.K te) := by
  refine ⟨fun pins s σ H Q I h => ?_⟩
  refine Subscript_ (thn (he.run pins s σ H _ I h) fun v s1 ⟨x, H1, I1, r1, q1⟩ => ?_)
  obtain ⟨a, xs, ex, hx, q⟩ := q1
  subst ex
  cases r1
  have hst : PO X (some (.UnaryOp .USub (.Constant (.int 1) k p1) p2)) (tPart (tUn (rU fun i => .int (-i)) (tC (.int 1)))) := po_some (pe_un un_neg pe_int)
  refine wpAny_Slice (thn (po_none.run pins s1 σ H1 (fun o H2 => o = none ∧ H2 = H1) I1 ⟨rfl, rfl⟩) fun vl s2 ⟨l, H2, I2, pl, el, e2⟩ => ?_)
  subst el e2
  refine thn (po_none.run pins s2 σ H2 (fun o H3 => o = none ∧ H3 = H2) I2 ⟨rfl, rfl⟩) fun vu s3 ⟨u, H3, I3, pu, eu, e3⟩ => ?_
  subst eu e3
  refine thn (hst.run pins s3 σ H3 (fun o H4 => o = some (-1) ∧ H4 = H3) I3 ⟨1, rfl, -1, rfl, rfl, rfl⟩) fun vs s4 ⟨o, H4, I4, ps, eo, e4⟩ => ?_
  subst eo e4
  have I5 : Inv X pins σ H4 { s4 with heap := s4.heap.push { cls := .type "slice", data := .fields #[vl, vu, vs] } } := I4.kept (t' := s4.toks) fun b ob q => Heap.get?_push_of_some _ q
  obtain ⟨its, r, ht, hz⟩ := I5.tuple hx
  have hlen := r.length
  show wpAny (model X.prog X.w) X.A (subscriptTail e (.Slice none none (some (.UnaryOp .USub (.Constant (.int 1) k p1) p2)) p3) (.ref a) (.ref s4.heap.objs.size)) (EP X pins σ Q) X.xe { s4 with heap := s4.heap.push { cls := .type "slice", data := .fields #[vl, vu, vs] } }
  refine tail_any (ops := [.ref a, .ref s4.heap.objs.size]) ht.typeIs (PyProof.Rows.slot_tuple_getitem.lookup) ?_ (by with_unfolding_all rfl)
  refine HT.getItem_tuple_rev ht (Heap.IsSliceOf.new _ vl vu vs) pl pu ps ?_ (by rw [List.size_toArray]; omega)
  refine ⟨.ref _, _, I5.laid (t' := s4.toks) (o := .tup xs.reverse) (fun b ob q => Heap.get?_push_of_some _ q) (Nat.le_refl _) ?_, rfl, q _ (I5.hok.fresh (Nat.le_refl _))⟩
  exact ⟨by rw [List.length_reverse]; exact hz, _, r.reverse, IsTup.new _ _⟩
section
variable {C : Cn} {X : Cx} {W : WX} {e : Expr} {t : T3} {σ : S3} {G : Gp} {Q : K3} {E1 : E3} {xs : List D}
theorem rvs_rev {P : Hp} : ∀ {ds : List D} {vs : List V}, Rvs C P ds vs → Rvs C P ds.reverse vs.reverse
  | _, _, .nil => .nil
  | _, _, .cons a b => by
    rw [List.reverse_cons, List.reverse_cons]
    exact (rvs_rev b).app (.cons a .nil)
/-- t[::-1] -/
def revV : D → Gp → K3 → Prop := fun x G Q => ∃ xs, tupA x = some xs ∧ Q (.tup xs.reverse) G
theorem pe_revT3 {k : Nat} {p1 p2 p3 pos : Pos} (hK : X.K = C.K) (he : PE X e (up C W t)) :
    PE X (.Subscript e (.Slice none none (some (.UnaryOp .USub (.Constant (.int 1) k p1) p2)) p3) pos) (up C W (t1 revV t)) := by
  refine PEw (pe_revT he) fun τ H R h => ?_
  obtain ⟨P, σ, G, Q, E, r, s, h, k, ee⟩ := h
  refine up_go r s h (fun P1 G1 H1 x v l1 r1 v1 ⟨xs, e1, q1⟩ => ?_) ee
  obtain ⟨a, vs, rfl, h1, h2⟩ := tupA_ok (K := X.K) r1 v1 e1
  exact ⟨a, vs, rfl, h1, newT_ok r1 (rvs_rev h2) q1 (k.le l1)⟩
@[simp ↓] theorem s_rev : t1 revV t σ G Q E1 = t σ G (fun x G1 => revV x G1 Q) E1 := rfl
@[simp ↓] theorem rev_tup : revV (.tup xs) G Q = Q (.tup xs.reverse) G := by
  unfold revV
  simp [tupA]
end
/-! {k: i, ..}: constant keys, constant ints -/
def tdlitI (w : Bool) (kvs : List (Key × Int)) : T3 := fun _ G Q _ => newD w (mergeD (kvs.map fun kv => (kv.1, D.int kv.2))) G Q
theorem tPairs_cst : ∀ (kvs : List (Key × Int)) {τ : L2.St} {H : Hp} {Q : List (V × V) → Hp → Prop}, Q (kvs.map fun kv => (kV kv.1, V.int kv.2)) H → tPairs (kvs.map fun kv => (tC (kV kv.1), tC (.int kv.2))) τ H Q
  | [], _, _, _, h => h
  | kv :: r, τ, H, Q, h => tPairs_cst r (Q := fun ps H3 => Q ((kV kv.1, V.int kv.2) :: ps) H3) h
theorem rvk_int {C : Cn} {P : Hp} : ∀ (kvs : List (Key × Int)), Rvk C P (kvs.map fun kv => (kv.1, D.int kv.2)) (kvs.map fun kv => (kv.1, V.int kv.2))
  | [] => .nil
  | kv :: r => .cons (.int _) (rvk_int r)
section
variable {C : Cn} {X : Cx} {W : WX} {o e : Expr} {apos cpos pos : Pos} {td ty : T3}
theorem pe_dlitI3 {w : Bool} {keys : List (Option Expr)} {values : List Expr} {trs : List (TE × TE)} (kvs : List (Key × Int)) (h : PPs X pos keys values trs) (et : trs = kvs.map fun kv => (tC (kV kv.1), tC (.int kv.2))) (hall : keys.all (·.isSome) = true) (hl : keys.length = values.length) (h0 : keys ≠ [])
    (h15 : keys.length ≤ 15) (hk : kvs.length ≤ 15) : PE X (.Dict keys values pos) (up C W (tdlitI w kvs)) := by
  subst et
  refine PEw (pe_disp h hall hl h0 h15) fun τ H R h => ?_
  obtain ⟨P, σ, G, Q, E, r, s, h, k, ee⟩ := h
  intro p hp
  refine tPairs_cst kvs ⟨upd_same, kvs.map fun kv => (kv.1, V.int kv.2), by rw [List.map_map]; rfl, by rw [List.length_map]; exact hk, ?_⟩
  rw [upd_upd]
  exact newD_ok r ((rvk_int kvs).merge .nil) h k p hp
/-- d.get(k) -/
def tdget1 (td ty : T3) : T3 := fun σ G Q E => td σ G (fun x G1 => isDk G1 x = true ∧ ty σ G1 (fun y G2 => ∃ o, dget G2 x y = some o ∧ Q (o.getD .non) G2) E) E
theorem pe_dget13 (hu : X.A.units + 1 < cLine) (ho : PE X o (up C W td)) (he : PE X e (up C W ty)) (m : M1 X o "get" apos e cpos) : PE X (.Call (.Attribute o "get" apos) [e] [] cpos) (up C W (tdget1 td ty)) :=
  PEw (pe_dget1 hu ho he m) fun τ H R h => by
    obtain ⟨P, σ, G, Q, E, r, s, h, k, ee⟩ := h
    refine up_go r s h (fun P1 G1 H1 x v l1 r1 v1 ⟨hx, q1⟩ => ?_) ee
    obtain ⟨a, rfl, hd⟩ := isDk_ok r1 v1 hx
    refine ⟨a, rfl, hd, ?_⟩
    refine up_go r1 (s.mono l1) q1 (fun P2 G2 H2 y u l2 r2 v2 ⟨op, e1, q2⟩ => ?_) (ee.le l1)
    obtain ⟨b, w2, eb, g, g1, g2⟩ := dget_ok r2 (v1.mono l2) v2 e1
    cases eb
    refine ⟨w2, g, ?_⟩
    cases op with
    | some d =>
      obtain ⟨z2, ez, rz⟩ := g1 d rfl
      subst ez
      exact k P2 G2 H2 _ _ (l1.trans l2) r2 rz q2
    | none =>
      rw [g2 rfl]
      exact k P2 G2 H2 _ _ (l1.trans l2) r2 .non q2
@[simp ↓] theorem s_tdget1 {σ : S3} {G : Gp} {Q : K3} {E : E3} : tdget1 td ty σ G Q E = td σ G (fun x G1 => isDk G1 x = true ∧ ty σ G1 (fun y G2 => ∃ o, dget G2 x y = some o ∧ Q (o.getD .non) G2) E) E := rfl
@[simp ↓] theorem s_tdlitI {w : Bool} {kvs : List (Key × Int)} {σ : S3} {G : Gp} {Q : K3} {E : E3} : tdlitI w kvs σ G Q E = newD w (mergeD (kvs.map fun kv => (kv.1, D.int kv.2))) G Q := rfl
/-- t == (), t a tuple of anything -/
def eqT0V : D → D → Gp → K3 → Prop := fun x y G Q => ∃ xs, tupA x = some xs ∧ y = .tup [] ∧ Q (.bl xs.isEmpty) G
theorem op_eqT0 (hu : X.A.units + 65 < cLine) : OpR X (compareOp .Eq) (upOp C eqT0V) := by
  intro pins s τ H v u vv uu R I r1 r2 h
  obtain ⟨P, G, x, y, Q, r, rx, ry, ⟨xs, e1, rfl, q⟩, k⟩ := h
  obtain ⟨a, vs, rfl, h1, h2⟩ := tupA_ok (K := X.K) r rx e1
  obtain ⟨b, ws, rfl, h3, h4⟩ := tupA_ok (K := X.K) r ry (xs := []) rfl
  cases h4
  cases r1; cases r2
  obtain ⟨its, s1, t1, _⟩ := I.tuple h1
  obtain ⟨its2, s2, t2, _⟩ := I.tuple h3
  cases s2
  have ex : xs.length = its.length := by rw [h2.length, s1.length]
  refine SeqAt.eq_tupleAt (e := fun _ => true) t1 t2 (by omega) (fun j h1 h2 => absurd h2 (by simp)) ?_
  have go : R (.bl xs.isEmpty) H := k P G H _ _ (Le.refl _) r (.bl _) q
  have eb : ((List.range (min its.toArray.size ([] : List Value).toArray.size)).all (fun _ => true) && its.toArray.size == ([] : List Value).toArray.size) = xs.isEmpty := by
    cases xs with
    | nil => simp at ex; simp [← ex]
    | cons y ys =>
      simp at ex
      have : its ≠ [] := fun z => by rw [z] at ex; simp at ex
      simp [this]
  show EP X pins τ R (.bool _) s
  rw [eb]
  exact ⟨.bl xs.isEmpty, H, I, rfl, go⟩
end
end V3
set_option Elab.async false
set_option linter.all false
set_option maxRecDepth 100000
set_option maxHeartbeats 2000000
/-! V44: f(), a def without arguments -/
namespace V3
open PySem PySem.Spec L2 PyProof.Rows
section
variable {C : Cn} {X : Cx} {W : WX} {k n : Nat} {p pos : Pos}
theorem c_call0 {a : Addr} {ps : List Str} {f : F3} {ar : List (List D)} {dd : List D} {x : Str} {kf : Nat} (d : Dok X.prog X.w X.K X.mg X.base C kf a ps n f ar) (B : Bd C X W k) (hk : kf ≤ k) (hdd : dd ∈ ar) (hm : X.mg x = some (.ref a)) (hg : Gl X x) (hdb : (x == ("__debug__" : Str)) = false) :
    PE X (.Call (.Name x p) [] [] pos) (up C W (tcf n f dd tanil)) := by
  obtain ⟨fd, h1, h2, h3⟩ := d
  obtain ⟨dvs, dus, v1, v2, v3⟩ := h3 dd hdd
  exact pe_call03 (h1.mono hk) B hg hm h2 v3 v1 v2 hdb
end
end V3
set_option Elab.async false
set_option linter.all false
set_option maxRecDepth 100000
set_option maxHeartbeats 2000000
/-! V45: a written tuple whose very object is known (so that .index may be asked) -/
namespace V3
open PySem PySem.Spec L2 PyProof.Rows
def tTupF (t : TA) : TE := fun σ H Q => t σ H fun xs H1 => xs.length ≤ sizeLine ∧ ∀ l o, o.dict = none → H1 l = none → Q (.ref l) (upd H1 l (.frz o (.tup xs)))
theorem pe_tupFr {X : Cx} {es : List Expr} {t : TA} {pos : Pos} {x1 : Nat} (h : PA X es t) : PE X (.Tuple es x1 pos) (tTupF t) := by
  refine ⟨fun pins s σ H Q I hq => ?_⟩
  refine wpAny_Tuple_spliced (thn (h.run pos pins s σ H _ I hq) fun us s1 ⟨xs, H1, I1, r, z, q⟩ => ⟨by rw [← r.length]; exact z, ?_⟩)
  have hf : H1 s1.heap.objs.size = none := I1.hok.fresh (Nat.le_refl _)
  have en : (s1.heap.push { cls := .type "tuple", data := .seq us.toArray }).get? s1.heap.objs.size = some { cls := .type "tuple", data := .seq us.toArray } := Heap.get?_push_size _ rfl
  have ok : ObjOk X.prog X.w (upd H1 s1.heap.objs.size (.frz { cls := .type "tuple", data := .seq us.toArray } (.tup xs))) (s1.heap.push { cls := .type "tuple", data := .seq us.toArray }) s1.heap.objs.size (.frz { cls := .type "tuple", data := .seq us.toArray } (.tup xs)) := ⟨en, z, us, r, PyProof.Rows.IsTup.new _ _⟩
  exact ⟨.ref s1.heap.objs.size, _, I1.laid (t' := s1.toks) (fun b u e => Heap.get?_push_of_some _ e) (Nat.le_refl _) ok, rfl, q _ _ rfl hf⟩
def ttupF (n : Nat) (t : TA3) : T3 := fun σ G Q E => t σ G (fun xs G1 => xs.length ≤ sizeLine ∧ Q (.tuf xs) G1) E
section
variable {C : Cn} {X : Cx} {W : WX} {es : List Expr} {r ta : TA3} {pos : Pos} {n : Nat} {σ : S3} {G : Gp} {Q : K3} {E1 : E3}
theorem pe_tupF3 {x1 : Nat} (h : PA X es (upA C W r)) : PE X (.Tuple es x1 pos) (up C W (ttupF n r)) := by
  refine PEw (pe_tupFr h) fun τ H R h => ?_
  obtain ⟨P, σ, G, Q, E, rl, s, h, k, ee⟩ := h
  refine ⟨P, σ, G, _, E, rl, s, h, fun P1 G1 H1 xs vs l1 r1 v1 ⟨z, q1⟩ => ?_, ee⟩
  refine ⟨by rw [← v1.length]; exact z, fun l o ho hn => ?_⟩
  obtain ⟨l2, r2⟩ := r1.newP (o := .frz o (.tup vs)) hn
  exact k _ _ _ _ _ (l1.trans l2) r2 (.tuf ho upd_same (v1.mono l2)) q1
@[simp ↓] theorem s_tupF : ttupF n ta σ G Q E1 = ta σ G (fun xs G1 => xs.length ≤ sizeLine ∧ Q (.tuf xs) G1) E1 := rfl
end
end V3
set_option Elab.async false
set_option linter.all false
set_option maxRecDepth 100000
set_option maxHeartbeats 2000000
/-! V46: calls by position and by name, in any order, defaults taken -/
namespace V3
open PySem PySem.Spec L2 PyProof.Rows
/-- those at some places -/
def pickL {α : Type} (sel : List Nat) (xs : List α) : List α := sel.filterMap (xs[·]?)
theorem vals_at {xs : List V} {us : List Value} (r : Vals xs us) : ∀ i : Nat, (xs[i]? = none ∧ us[i]? = none) ∨ ∃ x u, xs[i]? = some x ∧ us[i]? = some u ∧ RelV x u := by
  induction r with
  | nil => exact fun i => .inl ⟨rfl, rfl⟩
  | cons h t ih =>
    intro i
    cases i with
    | zero => exact .inr ⟨_, _, rfl, rfl, h⟩
    | succ i => simpa using ih i
theorem rvs_at {C : Cn} {P : Hp} : ∀ {ds : List D} {vs : List V}, Rvs C P ds vs → ∀ i : Nat, (ds[i]? = none ∧ vs[i]? = none) ∨ ∃ x u, ds[i]? = some x ∧ vs[i]? = some u ∧ Rv C P x u
  | _, _, .nil, i => .inl ⟨rfl, rfl⟩
  | _, _, .cons a b, 0 => .inr ⟨_, _, rfl, rfl, a⟩
  | _, _, .cons a b, i + 1 => by simpa using rvs_at b i
theorem vals_pick {xs : List V} {us : List Value} (r : Vals xs us) : ∀ sel : List Nat, Vals (pickL sel xs) (pickL sel us)
  | [] => .nil
  | i :: sel => by
    unfold pickL
    rw [List.filterMap_cons, List.filterMap_cons]
    rcases vals_at r i with ⟨h1, h2⟩ | ⟨x, u, h1, h2, h3⟩
    · simp only [h1, h2]
      exact vals_pick r sel
    · simp only [h1, h2]
      exact .cons h3 (vals_pick r sel)
theorem rvs_pick {C : Cn} {P : Hp} {ds : List D} {vs : List V} (r : Rvs C P ds vs) : ∀ sel : List Nat, Rvs C P (pickL sel ds) (pickL sel vs)
  | [] => .nil
  | i :: sel => by
    unfold pickL
    rw [List.filterMap_cons, List.filterMap_cons]
    rcases rvs_at r i with ⟨h1, h2⟩ | ⟨x, u, h1, h2, h3⟩
    · simp only [h1, h2]
      exact rvs_pick r sel
    · simp only [h1, h2]
      exact .cons h3 (rvs_pick r sel)
/-- j values by position, the names ks, the defaults dus: the parameters take those at the places sel -/
def KwG (K : PySem.W.Frag) (fd : FuncData) (ps : List Str) (j : Nat) (ks : List Str) (sel : List Nat) (dus : List Value) : Prop := ∀ (s : Shared) (us ws : List Value), K.In s.heap → us.length = j → ws.length = ks.length → BindsTo s fd ⟨us, ks.zip ws⟩ (ps.zip (pickL sel (us ++ ws ++ dus)))
theorem kwg_of {K : PySem.W.Frag} {x qual : Str} {params : Arguments} {body : List Stmt} {scope : Scope} {f : Addr} {fd : FuncData} {ps : List Str} {kws : List (Str × V)} (F : FunD K x qual params body scope [] kws f fd) (n : Nat) (ks : List Str) (sel : List Nat)
    (h : ∀ (kV doc pm : Value) (an : Option Addr) (cdv ct : Value) (us ws : List Value), us.length = n → ws.length = ks.length → bindArgs (PySem.W.fnOf x qual params body scope .none kV doc pm an cdv ct) ⟨us, ks.zip ws⟩ = pure (ps.zip (pickL sel (us ++ ws ++ [])))) : ∃ dvs dus, dvs = [] ∧ Vals dvs dus ∧ KwG K fd ps n ks sel dus := by
  obtain ⟨oc, od, dV, kV, doc, pm, an, cdv, ct, osl, rfl, lk, hcd, hD, hK⟩ := F.ex
  rcases hD with ⟨_, rfl⟩ | ⟨e, _⟩
  · exact ⟨[], [], rfl, .nil, fun s us ws _ l1 l2 => .of_eq (h kV doc pm an cdv ct us ws l1 l2)⟩
  · exact absurd rfl e
theorem kwg_ofD {K : PySem.W.Frag} {x qual : Str} {params : Arguments} {body : List Stmt} {scope : Scope} {f : Addr} {fd : FuncData} {ps : List Str} {dvs : List V} {kws : List (Str × V)} (F : FunD K x qual params body scope dvs kws f fd) (hd : dvs ≠ []) (n : Nat) (ks : List Str) (sel : List Nat)
    (h : ∀ (T : Addr) (kV doc pm : Value) (an : Option Addr) (cdv ct : Value) (us ws its : List Value), us.length = n → ws.length = ks.length → its.length = dvs.length →
      ∃ k, bindArgs (PySem.W.fnOf x qual params body scope (.ref T) kV doc pm an cdv ct) ⟨us, ks.zip ws⟩ = seqItems? (.ref T) >>= k ∧ k (some its.toArray) = pure (ps.zip (pickL sel (us ++ ws ++ its)))) : ∃ dvs' dus, dvs' = dvs ∧ Vals dvs' dus ∧ KwG K fd ps n ks sel dus := by
  obtain ⟨oc, od, dV, kV, doc, pm, an, cdv, ct, osl, rfl, lk, hcd, hD, hK⟩ := F.ex
  rcases hD with ⟨e, _⟩ | ⟨_, T, o, its, m, rfl, lT, oT, rT⟩
  · exact absurd e hd
  · refine ⟨dvs, its, rfl, rT, fun s us ws X l1 l2 => ?_⟩
    obtain ⟨k, e1, e2⟩ := h T kV doc pm an cdv ct us ws its l1 l2 rT.length.symm
    refine BindsTo.of_looks fun M => ?_
    rw [e1]
    exact looks_items X lT oT (.of_pure e2)
/-- a def as told, called by position and by name -/
def DokG (P : Program) (w : World) (K : PySem.W.Frag) (mg : Str → Option Value) (base : Heap) (C : Cn) (k : Nat) (a : Addr) (ps : List Str) (n : Nat) (f : F3) (j : Nat) (ks : List Str) (sel : List Nat) (dd : List D) : Prop :=
  ∃ fd, FnG P w K mg base k a fd ps (upF C n f) ∧ PySem.W.keepIn K (.ref a) = true ∧ ∃ dvs dus, Vals dvs dus ∧ (∀ P : Hp, Rvs C P dd dvs) ∧ KwG K fd ps j ks sel dus
theorem DokG.of {P : Program} {w : World} {K : PySem.W.Frag} {mg : Str → Option Value} {base : Heap} {C C' : Cn} (h : C'.toCb = C.toCb) {k j : Nat} {a : Addr} {ps : List Str} {n : Nat} {f : F3} {ks : List Str} {sel : List Nat} {dd : List D} (d : DokG P w K mg base C k a ps n f j ks sel dd) : DokG P w K mg base C' k a ps n f j ks sel dd := by
  obtain ⟨fd, h1, h2, h3⟩ := d
  exact ⟨fd, by rw [upF_toCb h]; exact h1, h2, by rw [h]; exact h3⟩
theorem DokG.mono {P : Program} {w : World} {K : PySem.W.Frag} {mg : Str → Option Value} {base : Heap} {C : Cn} {k k' j : Nat} {a : Addr} {ps : List Str} {n : Nat} {f : F3} {ks : List Str} {sel : List Nat} {dd : List D} (h : k ≤ k') (d : DokG P w K mg base C k a ps n f j ks sel dd) : DokG P w K mg base C k' a ps n f j ks sel dd := by
  obtain ⟨fd, h1, h2⟩ := d
  exact ⟨fd, h1.mono h, h2⟩
/-- f(a, .., k = b, ..) -/
def tcfG (j q n : Nat) (f3 : F3) (sel : List Nat) (dd : List D) (tp tk : TA3) : T3 := fun σ G Q E => tp σ G (fun xs G1 => tk σ G1 (fun ys G2 => xs.length = j ∧ ys.length = q ∧ (pickL sel (xs ++ ys ++ dd)).length = n ∧ f3 (pickL sel (xs ++ ys ++ dd)) G2 Q E) E) E
section
variable {C : Cn} {X : Cx} {W : WX} {k n j q : Nat} {f : Addr} {fd : FuncData} {ps ks : List Str} {sp : Sp} {f3 : F3} {x : Str} {p pos : Pos} {e : Expr} {es : List Expr} {kws : List Keyword} {t tp tk : TA3} {sel : List Nat} {dd : List D}
theorem run_fnGG {pins : List (Addr × Obj)} {σ : L2.St} {H : Hp} {s : Shared} {Q : VK} {us ws dus : List Value} {vs zs dvs : List V} (F : FnG X.prog X.w X.K X.mg X.base k f fd ps sp) (B : Bd C X W k) (hb : KwG X.K fd ps j ks sel dus) (l1 : us.length = j) (l2 : ws.length = ks.length)
    (I : Inv X pins σ H s) (r : Vals vs us) (rz : Vals zs ws) (rd : Vals dvs dus) (h : sp (pickL sel (vs ++ zs ++ dvs)) H Q (WE W σ)) : wpAny (model X.prog X.w) X.A (call (.ref f) us (ks.zip ws)) (EP X pins σ Q) X.xe s := by
  have r2 := vals_pick ((r.append rz).append rd) sel
  refine wpAny_call (codeAny_mono (F.go X.A X.stack s H ⟨us, ks.zip ws⟩ _ _ Q _ B.hr B.hg I.env0 (hb s us ws I.kIn l1 l2) r2 h) fun res s' hq => ?_)
  cases res with
  | error ev => exact passAt B.tk σ pins H s ev s' I hq
  | ok fl =>
    cases fl with
    | ret u => exact I.after hq
    | next => exact (show False from hq).elim
    | brk => exact (show False from hq).elim
    | cont => exact (show False from hq).elim
theorem pe_callG03 (d : DokG X.prog X.w X.K X.mg X.base C k f ps n f3 0 ks sel dd) (B : Bd C X W k) (hq : ks.length = q) (hg : Gl X x) (hm : X.mg x = some (.ref f)) (hkw : PK X kws (upA C W tk))
    (hall : (backToKw pos (keywordEach kws X.env)).all (·.1.isSome) = true) (hks : (backToKw pos (keywordEach kws X.env)).filterMap (·.1) = ks) (hpl : ((backTo pos (starEach [] X.env)).any (·.1) || (backToKw pos (keywordEach kws X.env)).any (·.1.isNone)) = false) (hdb : (x == ("__debug__" : Str)) = false) :
    PE X (.Call (.Name x p) [] kws pos) (up C W (tcfG 0 q n f3 sel dd tanil tk)) := by
  obtain ⟨fd, F, hk, dvs, dus, v1, v2, hb⟩ := d
  refine ⟨fun pins s σ H R I h => ?_⟩
  obtain ⟨P, σ3, G, Q, E, r, s3, h, kk, ee⟩ := h
  refine wpAny_Call_Name_kw (ld_glob I hg hm ?_ hdb)
  refine PySem.W.callWith_KW0 (first := []) (h₀ := X.base) I.ok.mod.kin hk hall (thn (hkw.run pos pins s σ H (fun zs H1 => ∃ P1 G1 ds, Le P P1 ∧ Rel C P1 G1 H1 ∧ Rvs C P1 ds zs ∧ (0 = 0 ∧ ds.length = q ∧ (pickL sel ([] ++ ds ++ dd)).length = n ∧ f3 (pickL sel ([] ++ ds ++ dd)) G1 Q E)) I
    ⟨P, σ3, G, _, E, r, s3, h, fun P1 G1 H1 ds zs l1 r1 v1 q1 => ⟨P1, G1, ds, l1, r1, v1, q1⟩, ee⟩) fun us s1 ⟨zs, H1, I1, rr, P1, G1, ds, l1, r1, w1, _, hl, hdl, q1⟩ => ⟨I1.kIn, ?_⟩) hpl
  rw [hks]
  exact run_fnGG (us := []) (vs := []) F B hb rfl (by rw [← rr.length, ← w1.length, hl, hq]) I1 .nil rr v1 ⟨P1, G1, _, Q, E, r1.b0, rvs_pick (((Rvs.nil (C := C) (P := P1)).app w1).app (v2 P1)) sel, hdl, q1, (kk.le l1).b0 r1, (ee.le l1).b0 r1⟩
theorem pe_callG3 (d : DokG X.prog X.w X.K X.mg X.base C k f ps n f3 j ks sel dd) (B : Bd C X W k) (hq : ks.length = q) (hg : Gl X x) (hm : X.mg x = some (.ref f)) (ha : PA X (e :: es) (upA C W tp)) (hkw : PK X kws (upA C W tk))
    (hall : (backToKw pos (keywordEach kws X.env)).all (·.1.isSome) = true) (hks : (backToKw pos (keywordEach kws X.env)).filterMap (·.1) = ks) (hpl : ((backTo pos (starEach (e :: es) X.env)).any (·.1) || (backToKw pos (keywordEach kws X.env)).any (·.1.isNone)) = false) (hdb : (x == ("__debug__" : Str)) = false)
    (he : starEach (e :: es) X.env = (false, eval e X.env) :: starEach es X.env) :
    PE X (.Call (.Name x p) (e :: es) kws pos) (up C W (tcfG j q n f3 sel dd tp tk)) := by
  obtain ⟨fd, F, hk, dvs, dus, v1, v2, hb⟩ := d
  refine ⟨fun pins s σ H R I h => ?_⟩
  obtain ⟨P, σ3, G, Q, E, r, s3, h, kk, ee⟩ := h
  refine wpAny_Call_Name_kw (ld_glob I hg hm ?_ hdb)
  refine PySem.W.callWith_KW (first := []) (h₀ := X.base) I.ok.mod.kin hk hall (thn (ha.run pos pins s σ H (fun vs H1 => ∃ P1 G1 xs, Le P P1 ∧ Rel C P1 G1 H1 ∧ Rvs C P1 xs vs ∧ tk σ3 G1 (fun ys G2 => xs.length = j ∧ ys.length = q ∧ (pickL sel (xs ++ ys ++ dd)).length = n ∧ f3 (pickL sel (xs ++ ys ++ dd)) G2 Q E) E) I
    ⟨P, σ3, G, _, E, r, s3, h, fun P1 G1 H1 ds zs l1 r1 v1 q1 => ⟨P1, G1, ds, l1, r1, v1, q1⟩, ee⟩) fun us s1 ⟨vs, H1, I1, rr, P1, G1, xs, l1, r1, w1, q1⟩ => ?_) hpl he
  refine thn (hkw.run pos pins s1 σ H1 (fun zs H2 => ∃ P2 G2 ds, Le P1 P2 ∧ Rel C P2 G2 H2 ∧ Rvs C P2 ds zs ∧ (xs.length = j ∧ ds.length = q ∧ (pickL sel (xs ++ ds ++ dd)).length = n ∧ f3 (pickL sel (xs ++ ds ++ dd)) G2 Q E)) I1
    ⟨P1, σ3, G1, _, E, r1, s3.mono l1, q1, fun P2 G2 H2 ds zs l2 r2 v2 q2 => ⟨P2, G2, ds, l2, r2, v2, q2⟩, ee.le l1⟩) fun ws s2 ⟨zs, H2, I2, rz, P2, G2, ds, l2, r2, w2, hj, hl, hdl, q2⟩ => ⟨I2.kIn, ?_⟩
  rw [hks]
  exact run_fnGG (us := us) (vs := vs) F B hb (by rw [← rr.length, ← w1.length, hj]) (by rw [← rz.length, ← w2.length, hl, hq]) I2 rr rz v1 ⟨P2, G2, _, Q, E, r2.b0, rvs_pick (((w1.mono l2).app w2).app (v2 P2)) sel, hdl, q2, (kk.le (l1.trans l2)).b0 r2, (ee.le (l1.trans l2)).b0 r2⟩
@[simp ↓] theorem s_tcfG {σ : S3} {G : Gp} {Q : K3} {E : E3} : tcfG j q n f3 sel dd tp tk σ G Q E = tp σ G (fun xs G1 => tk σ G1 (fun ys G2 => xs.length = j ∧ ys.length = q ∧ (pickL sel (xs ++ ys ++ dd)).length = n ∧ f3 (pickL sel (xs ++ ys ++ dd)) G2 Q E) E) E := rfl
end
end V3
set_option Elab.async false
set_option linter.all false
set_option maxRecDepth 100000
set_option maxHeartbeats 2000000
/-! V47: an instance made by position and by name -/
namespace V3
open PySem PySem.Spec L2 PyProof.Rows
/-- C(a, .., k = b, ..) -/
def tmakeG (w : Bool) (c j q n : Nat) (f3 : F3) (sel : List Nat) (dd : List D) (tp tk : TA3) : T3 := fun σ G Q E => tp σ G (fun xs G1 => tk σ G1 (fun ys G2 => xs.length = j ∧ ys.length = q ∧ ∀ p, G2 p = none → (pickL sel (D.ref p :: (xs ++ ys ++ dd))).length = n ∧ f3 (pickL sel (D.ref p :: (xs ++ ys ++ dd))) (gset G2 p (.ins c [])) (keepI w c p Q) (fun x G3 => E x (gdel G3 p))) E) E
section
variable {C : Cn} {X : Cx} {W : WX} {k n c j q : Nat} {f : Addr} {fd : FuncData} {ps ks : List Str} {f3 : F3} {x : Str} {p pos : Pos} {e : Expr} {es : List Expr} {kws : List Keyword} {t tp tk : TA3} {sel : List Nat} {dd : List D}
theorem run_makeG3 {w : Bool} {pins : List (Addr × Obj)} {σ : L2.St} {H : Hp} {s : Shared} {R : VK} {us ws dus : List Value} {vs zs dvs : List V} {xs ds dd : List D} {P : Hp} {G : Gp} {Q : K3} {E : E3} (M : Mk X.K (C.cls c) f) (B : Bd C X W (k + 1)) (F : FnG X.prog X.w X.K X.mg X.base k f fd ps (upF C n f3)) (hb : KwG X.K fd ps (j + 1) ks sel dus) (l1 : us.length = j) (l2 : ws.length = ks.length)
    (I : Inv X pins σ H s) (ru : Vals vs us) (rv : Vals zs ws) (rw_ : Vals dvs dus) (r : Rel C P G H) (rx : Rvs C P xs vs) (rd : Rvs C P ds zs) (re : Rvs C P dd dvs) (h : ∀ p, G p = none → (pickL sel (D.ref p :: (xs ++ ds ++ dd))).length = n ∧ f3 (pickL sel (D.ref p :: (xs ++ ds ++ dd))) (gset G p (.ins c [])) (keepI w c p Q) (fun x G2 => E x (gdel G2 p)))
    (kk : kUp C P Q R) (ee : eUp C P E (WE W σ)) : wpAny (model X.prog X.w) X.A (call (.ref (C.cls c)) us (ks.zip ws)) (EP X pins σ R) X.xe s := by
  have n1 : H (s.heap.objs.size + 1) = none := I.hok.fresh (Nat.le_succ _)
  have n0 : H s.heap.objs.size = none := I.hok.fresh (Nat.le_refl _)
  have ne : s.heap.objs.size + 1 ≠ s.heap.objs.size := Nat.succ_ne_self _
  obtain ⟨hl, hq⟩ := h (s.heap.objs.size + 1) (r.gfree n1)
  have I2 := Inv.made (C := C.cls c) I
  have r2 : Vals (V.ref (s.heap.objs.size + 1) :: (vs ++ zs ++ dvs)) (Value.ref (s.heap.objs.size + 1) :: (us ++ ws ++ dus)) := .cons rfl ((ru.append rv).append rw_)
  have rl : Rel C P (gset G (s.heap.objs.size + 1) (.ins c [])) (upd (upd H s.heap.objs.size (.own (s.heap.objs.size + 1))) (s.heap.objs.size + 1) (.ins (C.cls c) s.heap.objs.size [])) :=
    (r.other (o := .own (s.heap.objs.size + 1)) n0).newG (by rw [upd_ne ne]; exact n1) (.ins .nil)
  refine wpAny_call (make_map (f := f) I.kIn M.makes M.init (beq_iff_eq.mp M.fn) (codeAny_mono (F.go _ X.stack _ _ ⟨Value.ref (s.heap.objs.size + 1) :: us, ks.zip ws⟩ _ _ (fun v H2 => v = .non ∧ R (.ref (s.heap.objs.size + 1)) H2) (WE W σ) (B.hr.make _ us (ks.zip ws)) ?_
    (I2.env0.make _ us (ks.zip ws)) (hb _ (Value.ref (s.heap.objs.size + 1) :: us) ws I2.kIn (by simp [l1]) l2) (vals_pick r2 sel) ⟨P, _, _, _, _, rl.b0, rvs_pick (.cons (.ref _) ((rx.app rd).app re)) sel, hl, hq, ?_, ?_⟩) fun res s' hq' => ?_))
  · have := B.hg
    first | exact this | (simpa [Around.under, Code.guards, Code.isGuard, pushGuards, guardIds] using this)
  · intro P' G' H' d v l' r0 v' ⟨e1, q⟩
    have r' := r.on (P1 := P) l' r0
    subst e1
    cases v'
    refine ⟨rfl, ?_⟩
    split at q
    · exact kk P' G' H' _ _ l' r' (.ref _) q
    · obtain ⟨fs, e2, q⟩ := q
      obtain ⟨_, o, g1, g2⟩ := r'.own _ _ e2
      cases g2 with
      | ins q2 =>
        obtain ⟨l2, r2'⟩ := r'.freeze e2 g1
        exact kk _ _ _ _ _ (l'.trans l2) r2' (.obj upd_same (q2.mono l2)) q
  · intro P' G' H' x cv d l' r0 xr q
    have r' := r.on (P1 := P) l' r0
    exact ee P' _ H' x cv d l' (r'.drop fun b g hb' => by
      unfold gdel at hb'
      split at hb'
      · cases hb'
      · exact hb') xr q
  · cases res with
    | error ev => exact passAt B.tk σ pins _ _ ev s' I2 hq'
    | ok fl =>
      cases fl with
      | ret u =>
        obtain ⟨v, H', I3, rv', ev, q3⟩ := I2.after hq'
        subst ev
        exact ⟨rv', ⟨V.ref (s.heap.objs.size + 1), H', I3, rfl, q3⟩⟩
      | next => exact (show False from hq').elim
      | brk => exact (show False from hq').elim
      | cont => exact (show False from hq').elim
theorem pe_makeG03 {w : Bool} (d : DokG X.prog X.w X.K X.mg X.base C k f ps n f3 1 ks sel dd) (B : Bd C X W (k + 1)) (M : Mk X.K (C.cls c) f) (hq : ks.length = q) (hg : Gl X x) (hm : X.mg x = some (.ref (C.cls c))) (hkw : PK X kws (upA C W tk))
    (hall : (backToKw pos (keywordEach kws X.env)).all (·.1.isSome) = true) (hks : (backToKw pos (keywordEach kws X.env)).filterMap (·.1) = ks) (hpl : ((backTo pos (starEach [] X.env)).any (·.1) || (backToKw pos (keywordEach kws X.env)).any (·.1.isNone)) = false) (hdb : (x == ("__debug__" : Str)) = false) :
    PE X (.Call (.Name x p) [] kws pos) (up C W (tmakeG w c 0 q n f3 sel dd tanil tk)) := by
  obtain ⟨fd, F, hk, dvs, dus, v1, v2, hb⟩ := d
  refine ⟨fun pins s σ H R I h => ?_⟩
  obtain ⟨P, σ3, G, Q, E, r, s3, h, kk, ee⟩ := h
  refine wpAny_Call_Name_kw (ld_glob I hg hm ?_ hdb)
  refine PySem.W.callWith_KW0 (first := []) (h₀ := X.base) I.ok.mod.kin M.kp hall (thn (hkw.run pos pins s σ H (fun zs H1 => ∃ P1 G1 ds, Le P P1 ∧ Rel C P1 G1 H1 ∧ Rvs C P1 ds zs ∧ ds.length = q ∧ ∀ p, G1 p = none → (pickL sel (D.ref p :: ([] ++ ds ++ dd))).length = n ∧ f3 (pickL sel (D.ref p :: ([] ++ ds ++ dd))) (gset G1 p (.ins c [])) (keepI w c p Q) (fun x G2 => E x (gdel G2 p))) I
    ⟨P, σ3, G, _, E, r, s3, h, fun P1 G1 H1 ds zs l1 r1 v1 q1 => ⟨P1, G1, ds, l1, r1, v1, q1.2⟩, ee⟩) fun us s1 ⟨zs, H1, I1, rr, P1, G1, ds, l1, r1, w1, hl, q1⟩ => ⟨I1.kIn, ?_⟩) hpl
  rw [hks]
  exact run_makeG3 (us := []) (vs := []) (xs := []) M B F hb rfl (by rw [← rr.length, ← w1.length, hl, hq]) I1 .nil rr v1 r1 .nil w1 (v2 P1) q1 (kk.le l1) (ee.le l1)
theorem pe_makeG3 {w : Bool} (d : DokG X.prog X.w X.K X.mg X.base C k f ps n f3 (j + 1) ks sel dd) (B : Bd C X W (k + 1)) (M : Mk X.K (C.cls c) f) (hq : ks.length = q) (hg : Gl X x) (hm : X.mg x = some (.ref (C.cls c))) (ha : PA X (e :: es) (upA C W tp)) (hkw : PK X kws (upA C W tk))
    (hall : (backToKw pos (keywordEach kws X.env)).all (·.1.isSome) = true) (hks : (backToKw pos (keywordEach kws X.env)).filterMap (·.1) = ks) (hpl : ((backTo pos (starEach (e :: es) X.env)).any (·.1) || (backToKw pos (keywordEach kws X.env)).any (·.1.isNone)) = false) (hdb : (x == ("__debug__" : Str)) = false)
    (he : starEach (e :: es) X.env = (false, eval e X.env) :: starEach es X.env) :
    PE X (.Call (.Name x p) (e :: es) kws pos) (up C W (tmakeG w c j q n f3 sel dd tp tk)) := by
  obtain ⟨fd, F, hk, dvs, dus, v1, v2, hb⟩ := d
  refine ⟨fun pins s σ H R I h => ?_⟩
  obtain ⟨P, σ3, G, Q, E, r, s3, h, kk, ee⟩ := h
  refine wpAny_Call_Name_kw (ld_glob I hg hm ?_ hdb)
  refine PySem.W.callWith_KW (first := []) (h₀ := X.base) I.ok.mod.kin M.kp hall (thn (ha.run pos pins s σ H (fun vs H1 => ∃ P1 G1 xs, Le P P1 ∧ Rel C P1 G1 H1 ∧ Rvs C P1 xs vs ∧ tk σ3 G1 (fun ys G2 => xs.length = j ∧ ys.length = q ∧ ∀ p, G2 p = none → (pickL sel (D.ref p :: (xs ++ ys ++ dd))).length = n ∧ f3 (pickL sel (D.ref p :: (xs ++ ys ++ dd))) (gset G2 p (.ins c [])) (keepI w c p Q) (fun x G3 => E x (gdel G3 p))) E) I
    ⟨P, σ3, G, _, E, r, s3, h, fun P1 G1 H1 ds zs l1 r1 v1 q1 => ⟨P1, G1, ds, l1, r1, v1, q1⟩, ee⟩) fun us s1 ⟨vs, H1, I1, rr, P1, G1, xs, l1, r1, w1, q1⟩ => ?_) hpl he
  refine thn (hkw.run pos pins s1 σ H1 (fun zs H2 => ∃ P2 G2 ds, Le P1 P2 ∧ Rel C P2 G2 H2 ∧ Rvs C P2 ds zs ∧ (xs.length = j ∧ ds.length = q ∧ ∀ p, G2 p = none → (pickL sel (D.ref p :: (xs ++ ds ++ dd))).length = n ∧ f3 (pickL sel (D.ref p :: (xs ++ ds ++ dd))) (gset G2 p (.ins c [])) (keepI w c p Q) (fun x G3 => E x (gdel G3 p)))) I1
    ⟨P1, σ3, G1, _, E, r1, s3.mono l1, q1, fun P2 G2 H2 ds zs l2 r2 v2 q2 => ⟨P2, G2, ds, l2, r2, v2, q2⟩, ee.le l1⟩) fun ws s2 ⟨zs, H2, I2, rz, P2, G2, ds, l2, r2, w2, hj, hl, q2⟩ => ⟨I2.kIn, ?_⟩
  rw [hks]
  exact run_makeG3 (us := us) (vs := vs) (xs := xs) M B F hb (by rw [← rr.length, ← w1.length, hj]) (by rw [← rz.length, ← w2.length, hl, hq]) I2 rr rz v1 r2 (w1.mono l2) w2 (v2 P2) q2 (kk.le (l1.trans l2)) (ee.le (l1.trans l2))
@[simp ↓] theorem s_tmakeG {w : Bool} {σ : S3} {G : Gp} {Q : K3} {E : E3} : tmakeG w c j q n f3 sel dd tp tk σ G Q E = tp σ G (fun xs G1 => tk σ G1 (fun ys G2 => xs.length = j ∧ ys.length = q ∧ ∀ p, G2 p = none → (pickL sel (D.ref p :: (xs ++ ys ++ dd))).length = n ∧ f3 (pickL sel (D.ref p :: (xs ++ ys ++ dd))) (gset G2 p (.ins c [])) (keepI w c p Q) (fun x G3 => E x (gdel G3 p))) E) E := rfl
end
end V3
set_option Elab.async false
set_option linter.all false
set_option maxRecDepth 100000
set_option maxHeartbeats 2000000
/-! V48: texts compared by <= -/
namespace V3
open PySem PySem.Spec L2 PyProof.Rows
def leSV : D → D → Gp → K3 → Prop := fun x y G Q => ∃ i j, x = .str i ∧ y = .str j ∧ Q (.bl (!decide (j.cps.toList < i.cps.toList))) G
section
variable {C : Cn} {X : Cx} {G : Gp} {Q : K3} {x y : Str}
theorem op_leS : OpR X (compareOp .LtE) (upOp C leSV) := by
  intro pins s τ H v u vv uu R I r1 r2 h
  obtain ⟨P, G, x, y, Q, r, rx, ry, ⟨i, j, rfl, rfl, q⟩, k⟩ := h
  cases rx; cases ry
  exact op_le_str pins s τ H _ _ vv uu R I r1 r2 ⟨_, _, rfl, rfl, k P G H _ _ (Le.refl _) r (.bl _) q⟩
@[simp ↓] theorem leS_str : leSV (.str x) (.str y) G Q = Q (.bl (!decide (y.cps.toList < x.cps.toList))) G := propext ⟨fun ⟨_, _, e1, e2, h⟩ => by cases e1; cases e2; exact h, fun h => ⟨_, _, rfl, rfl, h⟩⟩
end
end V3
set_option Elab.async false
set_option linter.all false
set_option maxRecDepth 100000
set_option maxHeartbeats 2000000
/-! V49: tuple(a text) -/
namespace V3
open PySem PySem.Spec L2 PyProof.Rows
def signs (x : Str) : List D := x.cps.toList.map fun c => .str ⟨#[c]⟩
def tupSV : List D → Gp → K3 → Prop := fun ds G Q => ∃ x, ds = [.str x] ∧ x.cps.size ≤ sizeLine ∧ Q (.tup (signs x)) G
theorem signs_vals : ∀ (cs : List Nat) (us : List Value), us.length = cs.length → (∀ (j : Nat) v, us[j]? = some v → ∃ c u, cs[j]? = some c ∧ v = .str ⟨#[c]⟩ u) → Vals (cs.map fun c => V.str ⟨#[c]⟩) us
  | [], [], _, _ => .nil
  | [], _ :: _, h, _ => by simp at h
  | _ :: _, [], h, _ => by simp at h
  | c :: cs, u :: us, h, k => by
    obtain ⟨c2, t, e1, e2⟩ := k 0 u rfl
    simp at e1
    subst e1
    exact .cons ⟨t, e2⟩ (signs_vals cs us (by simpa using h) fun j v hj => k (j + 1) v (by simpa using hj))
section
variable {C : Cn} {X : Cx} {W : WX} {e : Expr} {es : List Expr} {t : TA3} {pos p : Pos} {G : Gp} {Q : K3} {x : Str}
theorem signs_rvs {P : Hp} : ∀ cs : List Nat, Rvs C P (cs.map fun c => D.str ⟨#[c]⟩) (cs.map fun c => V.str ⟨#[c]⟩)
  | [] => .nil
  | c :: cs => .cons (.str _) (signs_rvs cs)
theorem tupS_ok (hc : X.calm = true) : CallR X (.type "tuple") (upCl C tupSV) := by
  intro pins s τ H vs us R I rv h
  obtain ⟨P, G, ds, Q, r, qx, ⟨x, rfl, hz, q⟩, k⟩ := h
  cases qx with
  | cons ra tl =>
    cases tl
    cases ra
    obtain ⟨u, rfl, hu⟩ := vals1 rv
    obtain ⟨t, rfl⟩ := hu
    refine PySem.call_tuple_str (I.ok.hd hc) x t (fun h' tk acc kp hit => ?_) hz
    have I1 : Inv X pins τ H { s with heap := h', toks := tk } := I.kept (t' := tk) kp
    have rv2 : Vals (x.cps.toList.map fun c => V.str ⟨#[c]⟩) acc.toList := signs_vals _ _ (by simp [hit.1]) fun j v hj => by
      obtain ⟨c, u, e1, e2⟩ := hit.2 j v (by simpa using hj)
      exact ⟨c, u, by simpa using e1, e2⟩
    refine ⟨.ref h'.objs.size, _, I1.laid (t' := tk) (o := .tup (x.cps.toList.map fun c => V.str ⟨#[c]⟩)) (fun b o e => Heap.get?_push_of_some _ e) (Nat.le_refl _) ?_, rfl, newT_ok r (signs_rvs x.cps.toList) q k _ (I1.hok.fresh (Nat.le_refl _))⟩
    exact ⟨by simpa using hz, acc.toList, rv2, by simpa using PyProof.Rows.IsTup.new h' acc.toList.toArray⟩
theorem pe_tupS3 {k : Nat} (B : Bd C X W k) (hg : Gl X "tuple") (hm : X.mg "tuple" = none) (ha : PA X (e :: es) (upA C W t)) (he : starEach (e :: es) X.env = (false, eval e X.env) :: starEach es X.env) (hpl : (backTo pos (starEach es X.env)).any (·.1) = false) :
    PE X (.Call (.Name "tuple" p) (e :: es) [] pos) (up C W (tcl tupSV t)) :=
  PEw (pe_callTy (tupS_ok B.hc) hg hm (by decide +kernel) ha (by decide +kernel) (by decide +kernel) he hpl) fun τ H R h => by
    obtain ⟨P, σ, G, Q, E, r, s, h, k, ee⟩ := h
    exact ⟨P, σ, G, _, E, r, s, h, fun P1 G1 H1 ds vs l1 r1 v1 q1 => ⟨P1, G1, ds, Q, r1, v1, q1, k.le l1⟩, ee⟩
@[simp ↓] theorem tupS_str : tupSV [.str x] G Q = (x.cps.size ≤ sizeLine ∧ Q (.tup (signs x)) G) := propext ⟨fun ⟨_, e, h⟩ => by cases e; exact h, fun h => ⟨_, rfl, h⟩⟩
end
end V3
set_option Elab.async false
set_option linter.all false
set_option maxRecDepth 100000
set_option maxHeartbeats 4000000
namespace K03
open PySem PySem.Spec L2 V3 PyProof.Rows
def top (i : Nat) : Stmt := PySem.Challenge.pw_alloutby_k03_houses_refused.main.body.getD i (.Pass ⟨0, 0, 0, 0⟩)
def inC (st : Stmt) (j : Nat) : Stmt := match st with
  | .ClassDef _ _ _ b _ _ _ _ _ _ _ => b.getD j (.Pass ⟨0, 0, 0, 0⟩)
  | _ => .Pass ⟨0, 0, 0, 0⟩

def clN : List Str := [("House" : Str), ("OutError" : Str), ("InvalidRooms" : Str), ("InvalidDoors" : Str), ("InvalidExits" : Str), ("InvalidPeople" : Str), ("InvalidBells" : Str)]
def clsA (K : PySem.W.Frag) (n : Nat) : Addr := match clN[n]? with
  | some x => He.ga K x
  | none => 0
def atT : List Str := [("rooms" : Str), ("doors" : Str), ("exits" : Str), ("people" : Str), ("bells" : Str), ("index" : Str)]
def tabs (K : PySem.W.Frag) : List (Addr × Str) := [((He.cT K ("wrong_room", none)).2, "wrong_room.<locals>.<lambda>"), ((He.cT K ("wrong_door", none)).2, "wrong_door.<locals>.<lambda>"), ((He.cT K ("wrong_exit", none)).2, "wrong_exit.<locals>.<lambda>"), ((He.cT K ("wrong_number", none)).2, "wrong_number.<locals>.<lambda>"), ((He.cT K ("_law_are_refused", none)).2, "_law_are_refused.<locals>.<lambda>")]
def cb (K : PySem.W.Frag) : Cb := ⟨K, clsA K, attOf atT, tabs K⟩
abbrev cn (K : PySem.W.Frag) : Cn := ⟨cb K, fun _ => none⟩
theorem att_inj {K : PySem.W.Frag} {P1 : Hp} : AttInj (Cn.mk (cb K) P1).toCb := attOf_inj (T := atT) (by decide +kernel) (by decide +kernel)
theorem at_0 : attOf atT 0 = ("rooms" : Str) := by decide +kernel
theorem at_1 : attOf atT 1 = ("doors" : Str) := by decide +kernel
theorem at_2 : attOf atT 2 = ("exits" : Str) := by decide +kernel
theorem at_3 : attOf atT 3 = ("people" : Str) := by decide +kernel
theorem at_4 : attOf atT 4 = ("bells" : Str) := by decide +kernel
theorem at_5 : attOf atT 5 = ("index" : Str) := by decide +kernel
def owT : List (List Nat) := [[0, 1, 2, 3, 4]]
def ow (c j : Nat) : Bool := (owT.getD c []).contains j
def tsm_InvalidBells (n : Nat) : Option Bool := if n = 2 then some false else if n = 3 then some false else if n = 4 then some false else if n = 5 then some false else if n = 6 then some true else none
def tsm_InvalidDoors (n : Nat) : Option Bool := if n = 2 then some false else if n = 3 then some true else if n = 4 then some false else if n = 5 then some false else if n = 6 then some false else none
def tsm_InvalidExits (n : Nat) : Option Bool := if n = 2 then some false else if n = 3 then some false else if n = 4 then some true else if n = 5 then some false else if n = 6 then some false else none
def tsm_InvalidPeople (n : Nat) : Option Bool := if n = 2 then some false else if n = 3 then some false else if n = 4 then some false else if n = 5 then some true else if n = 6 then some false else none
def tsm_InvalidRooms (n : Nat) : Option Bool := if n = 2 then some true else if n = 3 then some false else if n = 4 then some false else if n = 5 then some false else if n = 6 then some false else none
/-- what the head tells -/
structure Tx (P : Program) (w : World) (K : PySem.W.Frag) (mg : Str → Option Value) (base : Heap) : Prop where
  own : ∀ j c, ow c j = true → Owns (cb K) c j
  m_House : mg "House" = some (.ref (He.ga K "House"))
  m_InvalidBells : mg "InvalidBells" = some (.ref (He.ga K "InvalidBells"))
  m_InvalidDoors : mg "InvalidDoors" = some (.ref (He.ga K "InvalidDoors"))
  m_InvalidExits : mg "InvalidExits" = some (.ref (He.ga K "InvalidExits"))
  m_InvalidPeople : mg "InvalidPeople" = some (.ref (He.ga K "InvalidPeople"))
  m_InvalidRooms : mg "InvalidRooms" = some (.ref (He.ga K "InvalidRooms"))
  m__law_are_refused : mg "_law_are_refused" = some (.ref (He.ga K "_law_are_refused"))
  m__law_bent : mg "_law_bent" = some (.ref (He.ga K "_law_bent"))
  m__law_by_hand : mg "_law_by_hand" = some (.ref (He.ga K "_law_by_hand"))
  m__law_caught : mg "_law_caught" = some (.ref (He.ga K "_law_caught"))
  m__law_door : mg "_law_door" = some (.ref (He.ga K "_law_door"))
  m__law_due : mg "_law_due" = some (.ref (He.ga K "_law_due"))
  m__law_house : mg "_law_house" = some (.ref (He.ga K "_law_house"))
  m__law_is_door : mg "_law_is_door" = some (.ref (He.ga K "_law_is_door"))
  m__law_is_name : mg "_law_is_name" = some (.ref (He.ga K "_law_is_name"))
  m__law_is_number : mg "_law_is_number" = some (.ref (He.ga K "_law_is_number"))
  m__law_names : mg "_law_names" = some (.ref (He.ga K "_law_names"))
  m__law_odd : mg "_law_odd" = some (.ref (He.ga K "_law_odd"))
  m__law_pick : mg "_law_pick" = some (.ref (He.ga K "_law_pick"))
  m__law_purse : mg "_law_purse" = some (.ref (He.ga K "_law_purse"))
  m__law_right : mg "_law_right" = some (.ref (He.ga K "_law_right"))
  m__law_take : mg "_law_take" = some (.ref (He.ga K "_law_take"))
  m__law_wrong_doors : mg "_law_wrong_doors" = some (.ref (He.ga K "_law_wrong_doors"))
  m__law_wrong_exits : mg "_law_wrong_exits" = some (.ref (He.ga K "_law_wrong_exits"))
  m__law_wrong_numbers : mg "_law_wrong_numbers" = some (.ref (He.ga K "_law_wrong_numbers"))
  m__law_wrong_rooms : mg "_law_wrong_rooms" = some (.ref (He.ga K "_law_wrong_rooms"))
  m_check_bells : mg "check_bells" = some (.ref (He.ga K "check_bells"))
  m_check_doors : mg "check_doors" = some (.ref (He.ga K "check_doors"))
  m_check_exits : mg "check_exits" = some (.ref (He.ga K "check_exits"))
  m_check_numbers : mg "check_numbers" = some (.ref (He.ga K "check_numbers"))
  m_check_rooms : mg "check_rooms" = some (.ref (He.ga K "check_rooms"))
  m_first_wrong : mg "first_wrong" = some (.ref (He.ga K "first_wrong"))
  m_is_between : mg "is_between" = some (.ref (He.ga K "is_between"))
  m_is_door : mg "is_door" = some (.ref (He.ga K "is_door"))
  m_is_exit : mg "is_exit" = some (.ref (He.ga K "is_exit"))
  m_is_exit_behind : mg "is_exit_behind" = some (.ref (He.ga K "is_exit_behind"))
  m_is_made_of : mg "is_made_of" = some (.ref (He.ga K "is_made_of"))
  m_is_name : mg "is_name" = some (.ref (He.ga K "is_name"))
  m_is_none_or : mg "is_none_or" = some (.ref (He.ga K "is_none_or"))
  m_is_room_of : mg "is_room_of" = some (.ref (He.ga K "is_room_of"))
  m_is_row : mg "is_row" = some (.ref (He.ga K "is_row"))
  m_is_some_row : mg "is_some_row" = some (.ref (He.ga K "is_some_row"))
  m_is_string : mg "is_string" = some (.ref (He.ga K "is_string"))
  m_is_tuple_of : mg "is_tuple_of" = some (.ref (He.ga K "is_tuple_of"))
  m_is_whole : mg "is_whole" = some (.ref (He.ga K "is_whole"))
  m_wrong_door : mg "wrong_door" = some (.ref (He.ga K "wrong_door"))
  m_wrong_exit : mg "wrong_exit" = some (.ref (He.ga K "wrong_exit"))
  m_wrong_number : mg "wrong_number" = some (.ref (He.ga K "wrong_number"))
  m_wrong_room : mg "wrong_room" = some (.ref (He.ga K "wrong_room"))
  n_abs : mg "abs" = none
  n_all : mg "all" = none
  n_bool : mg "bool" = none
  n_enumerate : mg "enumerate" = none
  n_int : mg "int" = none
  n_isinstance : mg "isinstance" = none
  n_len : mg "len" = none
  n_list : mg "list" = none
  n_max : mg "max" = none
  n_min : mg "min" = none
  n_range : mg "range" = none
  n_repr : mg "repr" = none
  n_sorted : mg "sorted" = none
  n_str : mg "str" = none
  n_tuple : mg "tuple" = none
  i_FEWEST_ROOMS : ∃ t, mg "FEWEST_ROOMS" = some (.int 2 t)
  i_LONGEST_NAME : ∃ t, mg "LONGEST_NAME" = some (.int 8 t)
  i_MOST_BELL : ∃ t, mg "MOST_BELL" = some (.int 9 t)
  i_MOST_CLOSES : ∃ t, mg "MOST_CLOSES" = some (.int 30 t)
  i_MOST_DOORS : ∃ t, mg "MOST_DOORS" = some (.int 12 t)
  i_MOST_PEOPLE : ∃ t, mg "MOST_PEOPLE" = some (.int 30 t)
  i_MOST_PLACES : ∃ t, mg "MOST_PLACES" = some (.int 99 t)
  i_MOST_ROOMS : ∃ t, mg "MOST_ROOMS" = some (.int 7 t)
  i_MOST_STEPS : ∃ t, mg "MOST_STEPS" = some (.int 3 t)
  i_MOST_WIDTH : ∃ t, mg "MOST_WIDTH" = some (.int 9 t)
  i_SIZE_OF_DOOR : ∃ t, mg "SIZE_OF_DOOR" = some (.int 6 t)
  z_BOTH : ∃ t, mg "BOTH" = some (.str "both" t)
  z_ONE : ∃ t, mg "ONE" = some (.str "one" t)
  z_SMALL_LETTERS : ∃ t, mg "SMALL_LETTERS" = some (.str "abcdefghijklmnopqrstuvwxyz" t)
  cls_House : Cls K (He.ga K "House")
  k_House : Mk K (He.ga K "House") (He.fAd K ("House", some "__init__"))
  ist_bool : IsTab (cn K) (isB "bool" 1) (.type "bool")
  ist_int : IsTab (cn K) (isB "int" 1) (.type "int")
  ist_str : IsTab (cn K) (isB "str" 1) (.type "str")
  ist_tuple : IsTab (cn K) (isB "tuple" 1) (.type "tuple")
  tb_wrong_room : LamX.TabB base mg (He.cT K ("wrong_room", none)).1 (He.cT K ("wrong_room", none)).2
  tu_wrong_room : ∀ p ∈ tabs K, p.1 = (He.cT K ("wrong_room", none)).2 → p.2 = "wrong_room.<locals>.<lambda>"
  tb_wrong_door : LamX.TabB base mg (He.cT K ("wrong_door", none)).1 (He.cT K ("wrong_door", none)).2
  tu_wrong_door : ∀ p ∈ tabs K, p.1 = (He.cT K ("wrong_door", none)).2 → p.2 = "wrong_door.<locals>.<lambda>"
  tb_wrong_exit : LamX.TabB base mg (He.cT K ("wrong_exit", none)).1 (He.cT K ("wrong_exit", none)).2
  tu_wrong_exit : ∀ p ∈ tabs K, p.1 = (He.cT K ("wrong_exit", none)).2 → p.2 = "wrong_exit.<locals>.<lambda>"
  tb_wrong_number : LamX.TabB base mg (He.cT K ("wrong_number", none)).1 (He.cT K ("wrong_number", none)).2
  tu_wrong_number : ∀ p ∈ tabs K, p.1 = (He.cT K ("wrong_number", none)).2 → p.2 = "wrong_number.<locals>.<lambda>"
  tb__law_are_refused : LamX.TabB base mg (He.cT K ("_law_are_refused", none)).1 (He.cT K ("_law_are_refused", none)).2
  tu__law_are_refused : ∀ p ∈ tabs K, p.1 = (He.cT K ("_law_are_refused", none)).2 → p.2 = "_law_are_refused.<locals>.<lambda>"
  F_is_whole : ∃ fd, FunD K "is_whole" "is_whole" (defArgs (top 10)) (defBody (top 10)) (defScope (top 10)) [] [] (He.fAd K ("is_whole", none)) fd
  F_is_between : ∃ fd, FunD K "is_between" "is_between" (defArgs (top 11)) (defBody (top 11)) (defScope (top 11)) [] [] (He.fAd K ("is_between", none)) fd
  F_is_string : ∃ fd, FunD K "is_string" "is_string" (defArgs (top 12)) (defBody (top 12)) (defScope (top 12)) [] [] (He.fAd K ("is_string", none)) fd
  F_is_made_of : ∃ fd, FunD K "is_made_of" "is_made_of" (defArgs (top 13)) (defBody (top 13)) (defScope (top 13)) [] [] (He.fAd K ("is_made_of", none)) fd
  F_is_name : ∃ fd, FunD K "is_name" "is_name" (defArgs (top 14)) (defBody (top 14)) (defScope (top 14)) [] [] (He.fAd K ("is_name", none)) fd
  F_is_tuple_of : ∃ fd, FunD K "is_tuple_of" "is_tuple_of" (defArgs (top 15)) (defBody (top 15)) (defScope (top 15)) [] [] (He.fAd K ("is_tuple_of", none)) fd
  F_is_row : ∃ fd, FunD K "is_row" "is_row" (defArgs (top 16)) (defBody (top 16)) (defScope (top 16)) [] [] (He.fAd K ("is_row", none)) fd
  F_first_wrong : ∃ fd, FunD K "first_wrong" "first_wrong" (defArgs (top 17)) (defBody (top 17)) (defScope (top 17)) [] [] (He.fAd K ("first_wrong", none)) fd
  F_is_room_of : ∃ fd, FunD K "is_room_of" "is_room_of" (defArgs (top 31)) (defBody (top 31)) (defScope (top 31)) [] [] (He.fAd K ("is_room_of", none)) fd
  F_is_none_or : ∃ fd, FunD K "is_none_or" "is_none_or" (defArgs (top 32)) (defBody (top 32)) (defScope (top 32)) [] [] (He.fAd K ("is_none_or", none)) fd
  F_is_door : ∃ fd, FunD K "is_door" "is_door" (defArgs (top 33)) (defBody (top 33)) (defScope (top 33)) [] [] (He.fAd K ("is_door", none)) fd
  F_is_exit : ∃ fd, FunD K "is_exit" "is_exit" (defArgs (top 34)) (defBody (top 34)) (defScope (top 34)) [] [] (He.fAd K ("is_exit", none)) fd
  F_is_exit_behind : ∃ fd, FunD K "is_exit_behind" "is_exit_behind" (defArgs (top 35)) (defBody (top 35)) (defScope (top 35)) [] [] (He.fAd K ("is_exit_behind", none)) fd
  F_wrong_room : ∃ fd, FunD K "wrong_room" "wrong_room" (defArgs (top 36)) (defBody (top 36)) (defScope (top 36)) [] [] (He.fAd K ("wrong_room", none)) fd
  F_wrong_door : ∃ fd, FunD K "wrong_door" "wrong_door" (defArgs (top 37)) (defBody (top 37)) (defScope (top 37)) [] [] (He.fAd K ("wrong_door", none)) fd
  F_wrong_exit : ∃ fd, FunD K "wrong_exit" "wrong_exit" (defArgs (top 38)) (defBody (top 38)) (defScope (top 38)) [] [] (He.fAd K ("wrong_exit", none)) fd
  F_wrong_number : ∃ fd, FunD K "wrong_number" "wrong_number" (defArgs (top 39)) (defBody (top 39)) (defScope (top 39)) [] [] (He.fAd K ("wrong_number", none)) fd
  F_is_some_row : ∃ fd, FunD K "is_some_row" "is_some_row" (defArgs (top 40)) (defBody (top 40)) (defScope (top 40)) [] [] (He.fAd K ("is_some_row", none)) fd
  F_check_rooms : ∃ fd, FunD K "check_rooms" "check_rooms" (defArgs (top 41)) (defBody (top 41)) (defScope (top 41)) [] [] (He.fAd K ("check_rooms", none)) fd
  F_check_doors : ∃ fd, FunD K "check_doors" "check_doors" (defArgs (top 42)) (defBody (top 42)) (defScope (top 42)) [] [] (He.fAd K ("check_doors", none)) fd
  F_check_exits : ∃ fd, FunD K "check_exits" "check_exits" (defArgs (top 43)) (defBody (top 43)) (defScope (top 43)) [] [] (He.fAd K ("check_exits", none)) fd
  F_check_numbers : ∃ fd, FunD K "check_numbers" "check_numbers" (defArgs (top 44)) (defBody (top 44)) (defScope (top 44)) [] [] (He.fAd K ("check_numbers", none)) fd
  F_check_bells : ∃ fd, FunD K "check_bells" "check_bells" (defArgs (top 45)) (defBody (top 45)) (defScope (top 45)) [] [] (He.fAd K ("check_bells", none)) fd
  F_House___init__ : ∃ fd, FunD K "__init__" "House.__init__" (defArgs (inC (top 46) 0)) (defBody (inC (top 46) 0)) (defScope (inC (top 46) 0)) [.non] [] (He.fAd K ("House", some "__init__")) fd
  F__law_purse : ∃ fd, FunD K "_law_purse" "_law_purse" (defArgs (top 49)) (defBody (top 49)) (defScope (top 49)) [] [] (He.fAd K ("_law_purse", none)) fd
  F__law_take : ∃ fd, FunD K "_law_take" "_law_take" (defArgs (top 50)) (defBody (top 50)) (defScope (top 50)) [] [] (He.fAd K ("_law_take", none)) fd
  F__law_pick : ∃ fd, FunD K "_law_pick" "_law_pick" (defArgs (top 51)) (defBody (top 51)) (defScope (top 51)) [] [] (He.fAd K ("_law_pick", none)) fd
  F__law_is_number : ∃ fd, FunD K "_law_is_number" "_law_is_number" (defArgs (top 52)) (defBody (top 52)) (defScope (top 52)) [] [] (He.fAd K ("_law_is_number", none)) fd
  F__law_is_name : ∃ fd, FunD K "_law_is_name" "_law_is_name" (defArgs (top 53)) (defBody (top 53)) (defScope (top 53)) [] [] (He.fAd K ("_law_is_name", none)) fd
  F__law_names : ∃ fd, FunD K "_law_names" "_law_names" (defArgs (top 54)) (defBody (top 54)) (defScope (top 54)) [] [] (He.fAd K ("_law_names", none)) fd
  F__law_door : ∃ fd, FunD K "_law_door" "_law_door" (defArgs (top 55)) (defBody (top 55)) (defScope (top 55)) [] [] (He.fAd K ("_law_door", none)) fd
  F__law_house : ∃ fd, FunD K "_law_house" "_law_house" (defArgs (top 56)) (defBody (top 56)) (defScope (top 56)) [] [] (He.fAd K ("_law_house", none)) fd
  F__law_odd : ∃ fd, FunD K "_law_odd" "_law_odd" (defArgs (top 58)) (defBody (top 58)) (defScope (top 58)) [] [] (He.fAd K ("_law_odd", none)) fd
  F__law_bent : ∃ fd, FunD K "_law_bent" "_law_bent" (defArgs (top 59)) (defBody (top 59)) (defScope (top 59)) [] [] (He.fAd K ("_law_bent", none)) fd
  F__law_wrong_rooms : ∃ fd, FunD K "_law_wrong_rooms" "_law_wrong_rooms" (defArgs (top 60)) (defBody (top 60)) (defScope (top 60)) [] [] (He.fAd K ("_law_wrong_rooms", none)) fd
  F__law_is_door : ∃ fd, FunD K "_law_is_door" "_law_is_door" (defArgs (top 61)) (defBody (top 61)) (defScope (top 61)) [] [] (He.fAd K ("_law_is_door", none)) fd
  F__law_wrong_doors : ∃ fd, FunD K "_law_wrong_doors" "_law_wrong_doors" (defArgs (top 62)) (defBody (top 62)) (defScope (top 62)) [] [] (He.fAd K ("_law_wrong_doors", none)) fd
  F__law_wrong_exits : ∃ fd, FunD K "_law_wrong_exits" "_law_wrong_exits" (defArgs (top 63)) (defBody (top 63)) (defScope (top 63)) [] [] (He.fAd K ("_law_wrong_exits", none)) fd
  F__law_wrong_numbers : ∃ fd, FunD K "_law_wrong_numbers" "_law_wrong_numbers" (defArgs (top 64)) (defBody (top 64)) (defScope (top 64)) [] [] (He.fAd K ("_law_wrong_numbers", none)) fd
  F__law_due : ∃ fd, FunD K "_law_due" "_law_due" (defArgs (top 65)) (defBody (top 65)) (defScope (top 65)) [] [] (He.fAd K ("_law_due", none)) fd
  F__law_caught : ∃ fd, FunD K "_law_caught" "_law_caught" (defArgs (top 66)) (defBody (top 66)) (defScope (top 66)) [] [] (He.fAd K ("_law_caught", none)) fd
  F__law_are_refused : ∃ fd, FunD K "_law_are_refused" "_law_are_refused" (defArgs (top 67)) (defBody (top 67)) (defScope (top 67)) [] [] (He.fAd K ("_law_are_refused", none)) fd
  F__law_by_hand : ∃ fd, FunD K "_law_by_hand" "_law_by_hand" (defArgs (top 68)) (defBody (top 68)) (defScope (top 68)) [] [] (He.fAd K ("_law_by_hand", none)) fd
  F__law_right : ∃ fd, FunD K "_law_right" "_law_right" (defArgs (top 69)) (defBody (top 69)) (defScope (top 69)) [] [] (He.fAd K ("_law_right", none)) fd
  F_law : ∃ fd, FunD K "law" "law" (defArgs (top 70)) (defBody (top 70)) (defScope (top 70)) [] [] (He.fAd K ("law", none)) fd
  F_InvalidBells___init__ : ∃ fd, FunD K "__init__" "InvalidBells.__init__" (defArgs (inC (top 6) 0)) (defBody (inC (top 6) 0)) (defScope (inC (top 6) 0)) [] [] (He.fAd K ("InvalidBells", some "__init__")) fd
  F_InvalidDoors___init__ : ∃ fd, FunD K "__init__" "InvalidDoors.__init__" (defArgs (inC (top 3) 0)) (defBody (inC (top 3) 0)) (defScope (inC (top 3) 0)) [] [] (He.fAd K ("InvalidDoors", some "__init__")) fd
  F_InvalidExits___init__ : ∃ fd, FunD K "__init__" "InvalidExits.__init__" (defArgs (inC (top 4) 0)) (defBody (inC (top 4) 0)) (defScope (inC (top 4) 0)) [] [] (He.fAd K ("InvalidExits", some "__init__")) fd
  F_InvalidPeople___init__ : ∃ fd, FunD K "__init__" "InvalidPeople.__init__" (defArgs (inC (top 5) 0)) (defBody (inC (top 5) 0)) (defScope (inC (top 5) 0)) [] [] (He.fAd K ("InvalidPeople", some "__init__")) fd
  F_InvalidRooms___init__ : ∃ fd, FunD K "__init__" "InvalidRooms.__init__" (defArgs (inC (top 2) 0)) (defBody (inC (top 2) 0)) (defScope (inC (top 2) 0)) [] [] (He.fAd K ("InvalidRooms", some "__init__")) fd
  ox_InvalidBells : OexC K (He.ga K "InvalidBells")
  mx_InvalidBells : mg "InvalidBells" = some (.ref (He.ga K "InvalidBells"))
  nf_InvalidBells : PySem.W.findIn K (.ref (He.ga K "InvalidBells")) "index" = some none
  in_InvalidBells : PySem.W.findIn K (.ref (He.ga K "InvalidBells")) "__init__" = some (some (.ref (He.fAd K ("InvalidBells", some "__init__")))) ∧ PySem.W.typeIn K (.ref (He.fAd K ("InvalidBells", some "__init__"))) = some (.type "function")
  ox_InvalidDoors : OexC K (He.ga K "InvalidDoors")
  mx_InvalidDoors : mg "InvalidDoors" = some (.ref (He.ga K "InvalidDoors"))
  nf_InvalidDoors : PySem.W.findIn K (.ref (He.ga K "InvalidDoors")) "index" = some none
  in_InvalidDoors : PySem.W.findIn K (.ref (He.ga K "InvalidDoors")) "__init__" = some (some (.ref (He.fAd K ("InvalidDoors", some "__init__")))) ∧ PySem.W.typeIn K (.ref (He.fAd K ("InvalidDoors", some "__init__"))) = some (.type "function")
  ox_InvalidExits : OexC K (He.ga K "InvalidExits")
  mx_InvalidExits : mg "InvalidExits" = some (.ref (He.ga K "InvalidExits"))
  nf_InvalidExits : PySem.W.findIn K (.ref (He.ga K "InvalidExits")) "index" = some none
  in_InvalidExits : PySem.W.findIn K (.ref (He.ga K "InvalidExits")) "__init__" = some (some (.ref (He.fAd K ("InvalidExits", some "__init__")))) ∧ PySem.W.typeIn K (.ref (He.fAd K ("InvalidExits", some "__init__"))) = some (.type "function")
  ox_InvalidPeople : OexC K (He.ga K "InvalidPeople")
  mx_InvalidPeople : mg "InvalidPeople" = some (.ref (He.ga K "InvalidPeople"))
  nf_InvalidPeople : PySem.W.findIn K (.ref (He.ga K "InvalidPeople")) "index" = some none
  in_InvalidPeople : PySem.W.findIn K (.ref (He.ga K "InvalidPeople")) "__init__" = some (some (.ref (He.fAd K ("InvalidPeople", some "__init__")))) ∧ PySem.W.typeIn K (.ref (He.fAd K ("InvalidPeople", some "__init__"))) = some (.type "function")
  ox_InvalidRooms : OexC K (He.ga K "InvalidRooms")
  mx_InvalidRooms : mg "InvalidRooms" = some (.ref (He.ga K "InvalidRooms"))
  nf_InvalidRooms : PySem.W.findIn K (.ref (He.ga K "InvalidRooms")) "index" = some none
  in_InvalidRooms : PySem.W.findIn K (.ref (He.ga K "InvalidRooms")) "__init__" = some (some (.ref (He.fAd K ("InvalidRooms", some "__init__")))) ∧ PySem.W.typeIn K (.ref (He.fAd K ("InvalidRooms", some "__init__"))) = some (.type "function")
  tm_InvalidBells : ∀ k b, tsm_InvalidBells k = some b → PySem.W.exmOne K (.ref (clsA K k)) (.ref (He.ga K "InvalidBells")) = some b
  xt_InvalidBells : ∀ k, tsm_InvalidBells k = some true → ExcC K (clsA K k)
  tm_InvalidDoors : ∀ k b, tsm_InvalidDoors k = some b → PySem.W.exmOne K (.ref (clsA K k)) (.ref (He.ga K "InvalidDoors")) = some b
  xt_InvalidDoors : ∀ k, tsm_InvalidDoors k = some true → ExcC K (clsA K k)
  tm_InvalidExits : ∀ k b, tsm_InvalidExits k = some b → PySem.W.exmOne K (.ref (clsA K k)) (.ref (He.ga K "InvalidExits")) = some b
  xt_InvalidExits : ∀ k, tsm_InvalidExits k = some true → ExcC K (clsA K k)
  tm_InvalidPeople : ∀ k b, tsm_InvalidPeople k = some b → PySem.W.exmOne K (.ref (clsA K k)) (.ref (He.ga K "InvalidPeople")) = some b
  xt_InvalidPeople : ∀ k, tsm_InvalidPeople k = some true → ExcC K (clsA K k)
  tm_InvalidRooms : ∀ k b, tsm_InvalidRooms k = some b → PySem.W.exmOne K (.ref (clsA K k)) (.ref (He.ga K "InvalidRooms")) = some b
  xt_InvalidRooms : ∀ k, tsm_InvalidRooms k = some true → ExcC K (clsA K k)
  xn_InvalidBells_index : ∀ k, tsm_InvalidBells k = some true → PySem.W.findIn K (.ref (clsA K k)) "index" = some none
  xn_InvalidDoors_index : ∀ k, tsm_InvalidDoors k = some true → PySem.W.findIn K (.ref (clsA K k)) "index" = some none
  xn_InvalidExits_index : ∀ k, tsm_InvalidExits k = some true → PySem.W.findIn K (.ref (clsA K k)) "index" = some none
  xn_InvalidPeople_index : ∀ k, tsm_InvalidPeople k = some true → PySem.W.findIn K (.ref (clsA K k)) "index" = some none
  xn_InvalidRooms_index : ∀ k, tsm_InvalidRooms k = some true → PySem.W.findIn K (.ref (clsA K k)) "index" = some none
abbrev si_InvalidBells : Stmt := inC (top 6) 0
theorem xc_InvalidBells {P : Program} {w : World} {K : PySem.W.Frag} {mg : Str → Option Value} {base : Heap} (T : Tx P w K mg base) {X : Cx} {P1 : Hp} (h1 : X.prog = P := by rfl) (h2 : X.w = w := by rfl) (h3 : X.K = K := by rfl) (h4 : X.mg = mg := by rfl) (h5 : X.base = base := by rfl) : XCls X ⟨cb K, P1⟩ 6 5 "InvalidBells" := by
  subst h1 h2 h3 h4 h5
  obtain ⟨fd, F⟩ := T.F_InvalidBells___init__
  refine ⟨T.ox_InvalidBells, T.mx_InvalidBells, T.nf_InvalidBells, _, fd, "index", T.in_InvalidBells.1, T.in_InvalidBells.2, ?_, F.bindsN (fun _ _ _ _ _ _ us hl => match us, hl with | [_, _], _ => rfl)⟩
  exact init3 (st := si_InvalidBells) F ⟨rfl, rfl, rfl, by decide +kernel, rfl, by decide +kernel, by decide +kernel⟩ rfl rfl rfl (by decide) (by decide) (fun _ _ _ _ _ _ => rfl)
abbrev si_InvalidDoors : Stmt := inC (top 3) 0
theorem xc_InvalidDoors {P : Program} {w : World} {K : PySem.W.Frag} {mg : Str → Option Value} {base : Heap} (T : Tx P w K mg base) {X : Cx} {P1 : Hp} (h1 : X.prog = P := by rfl) (h2 : X.w = w := by rfl) (h3 : X.K = K := by rfl) (h4 : X.mg = mg := by rfl) (h5 : X.base = base := by rfl) : XCls X ⟨cb K, P1⟩ 3 5 "InvalidDoors" := by
  subst h1 h2 h3 h4 h5
  obtain ⟨fd, F⟩ := T.F_InvalidDoors___init__
  refine ⟨T.ox_InvalidDoors, T.mx_InvalidDoors, T.nf_InvalidDoors, _, fd, "index", T.in_InvalidDoors.1, T.in_InvalidDoors.2, ?_, F.bindsN (fun _ _ _ _ _ _ us hl => match us, hl with | [_, _], _ => rfl)⟩
  exact init3 (st := si_InvalidDoors) F ⟨rfl, rfl, rfl, by decide +kernel, rfl, by decide +kernel, by decide +kernel⟩ rfl rfl rfl (by decide) (by decide) (fun _ _ _ _ _ _ => rfl)
abbrev si_InvalidExits : Stmt := inC (top 4) 0
theorem xc_InvalidExits {P : Program} {w : World} {K : PySem.W.Frag} {mg : Str → Option Value} {base : Heap} (T : Tx P w K mg base) {X : Cx} {P1 : Hp} (h1 : X.prog = P := by rfl) (h2 : X.w = w := by rfl) (h3 : X.K = K := by rfl) (h4 : X.mg = mg := by rfl) (h5 : X.base = base := by rfl) : XCls X ⟨cb K, P1⟩ 4 5 "InvalidExits" := by
  subst h1 h2 h3 h4 h5
  obtain ⟨fd, F⟩ := T.F_InvalidExits___init__
  refine ⟨T.ox_InvalidExits, T.mx_InvalidExits, T.nf_InvalidExits, _, fd, "index", T.in_InvalidExits.1, T.in_InvalidExits.2, ?_, F.bindsN (fun _ _ _ _ _ _ us hl => match us, hl with | [_, _], _ => rfl)⟩
  exact init3 (st := si_InvalidExits) F ⟨rfl, rfl, rfl, by decide +kernel, rfl, by decide +kernel, by decide +kernel⟩ rfl rfl rfl (by decide) (by decide) (fun _ _ _ _ _ _ => rfl)
abbrev si_InvalidPeople : Stmt := inC (top 5) 0
theorem xc_InvalidPeople {P : Program} {w : World} {K : PySem.W.Frag} {mg : Str → Option Value} {base : Heap} (T : Tx P w K mg base) {X : Cx} {P1 : Hp} (h1 : X.prog = P := by rfl) (h2 : X.w = w := by rfl) (h3 : X.K = K := by rfl) (h4 : X.mg = mg := by rfl) (h5 : X.base = base := by rfl) : XCls X ⟨cb K, P1⟩ 5 5 "InvalidPeople" := by
  subst h1 h2 h3 h4 h5
  obtain ⟨fd, F⟩ := T.F_InvalidPeople___init__
  refine ⟨T.ox_InvalidPeople, T.mx_InvalidPeople, T.nf_InvalidPeople, _, fd, "index", T.in_InvalidPeople.1, T.in_InvalidPeople.2, ?_, F.bindsN (fun _ _ _ _ _ _ us hl => match us, hl with | [_, _], _ => rfl)⟩
  exact init3 (st := si_InvalidPeople) F ⟨rfl, rfl, rfl, by decide +kernel, rfl, by decide +kernel, by decide +kernel⟩ rfl rfl rfl (by decide) (by decide) (fun _ _ _ _ _ _ => rfl)
abbrev si_InvalidRooms : Stmt := inC (top 2) 0
theorem xc_InvalidRooms {P : Program} {w : World} {K : PySem.W.Frag} {mg : Str → Option Value} {base : Heap} (T : Tx P w K mg base) {X : Cx} {P1 : Hp} (h1 : X.prog = P := by rfl) (h2 : X.w = w := by rfl) (h3 : X.K = K := by rfl) (h4 : X.mg = mg := by rfl) (h5 : X.base = base := by rfl) : XCls X ⟨cb K, P1⟩ 2 5 "InvalidRooms" := by
  subst h1 h2 h3 h4 h5
  obtain ⟨fd, F⟩ := T.F_InvalidRooms___init__
  refine ⟨T.ox_InvalidRooms, T.mx_InvalidRooms, T.nf_InvalidRooms, _, fd, "index", T.in_InvalidRooms.1, T.in_InvalidRooms.2, ?_, F.bindsN (fun _ _ _ _ _ _ us hl => match us, hl with | [_, _], _ => rfl)⟩
  exact init3 (st := si_InvalidRooms) F ⟨rfl, rfl, rfl, by decide +kernel, rfl, by decide +kernel, by decide +kernel⟩ rfl rfl rfl (by decide) (by decide) (fun _ _ _ _ _ _ => rfl)
theorem tabs_mem_wrong_room {K : PySem.W.Frag} : ((He.cT K ("wrong_room", none)).2, ("wrong_room.<locals>.<lambda>" : Str)) ∈ tabs K := List.mem_cons_self
theorem tabs_mem_wrong_door {K : PySem.W.Frag} : ((He.cT K ("wrong_door", none)).2, ("wrong_door.<locals>.<lambda>" : Str)) ∈ tabs K := (List.mem_cons_of_mem _ List.mem_cons_self)
theorem tabs_mem_wrong_exit {K : PySem.W.Frag} : ((He.cT K ("wrong_exit", none)).2, ("wrong_exit.<locals>.<lambda>" : Str)) ∈ tabs K := (List.mem_cons_of_mem _ (List.mem_cons_of_mem _ List.mem_cons_self))
theorem tabs_mem_wrong_number {K : PySem.W.Frag} : ((He.cT K ("wrong_number", none)).2, ("wrong_number.<locals>.<lambda>" : Str)) ∈ tabs K := (List.mem_cons_of_mem _ (List.mem_cons_of_mem _ (List.mem_cons_of_mem _ List.mem_cons_self)))
theorem tabs_mem__law_are_refused {K : PySem.W.Frag} : ((He.cT K ("_law_are_refused", none)).2, ("_law_are_refused.<locals>.<lambda>" : Str)) ∈ tabs K := (List.mem_cons_of_mem _ (List.mem_cons_of_mem _ (List.mem_cons_of_mem _ (List.mem_cons_of_mem _ List.mem_cons_self))))
theorem ar_nil {K : PySem.W.Frag} {C : Cb} {fd : FuncData} {ps : List Str} (h : Binds K fd ps []) : ∀ dd ∈ [([] : List D)], ∃ dvs dus, Vals dvs dus ∧ (∀ P : Hp, Rvs C P dd dvs) ∧ Binds K fd ps dus := fun dd hd => by
  cases List.mem_singleton.mp hd
  exact ⟨[], [], .nil, fun _ => .nil, h⟩
/-! ### _law_take -/
abbrev s__law_take : Stmt := top 50
abbrev N__law_take : List Str := ["draws", "many", "figures", "seed", "turn"]
theorem sc__law_take : FnScope N__law_take ["draws", "many"] (defScope s__law_take) := ⟨rfl, rfl, rfl, by decide +kernel, rfl, by decide +kernel, by decide +kernel⟩
def t__law_take_4 : TS3 := sseq (sret (t2 (binV false .Mod) (tcl (bfV false .int) (tacons (t2 (binV false .FloorDiv) (t2 ixV (tvar 0) (tcon (.int 1))) (tcon (.int 128))) (tanil))) (tvar 1))) snil
def t__law_take_3 : TS3 := sseq (sif (tbl (t2 (cmpV .Gt) (tvar 2) (tcon (.int 0)))) (sseq (sasg (t2 (binV false .FloorDiv) (tcl (bfV false .int) (tacons (tvar 2) (tanil))) (tvar 1)) (gsub3 (tvar 0) (tcon (.int 0)) setW)) (sseq (sret (t2 (binV false .Mod) (tcl (bfV false .int) (tacons (tvar 2) (tanil))) (tvar 1))) (snil))) (snil)) t__law_take_4
def t__law_take_2 : TS3 := sseq (sasg (t2 (binV false .Add) (tvar 4) (tcon (.int 1))) (gsub3 (tvar 0) (tcon (.int 2)) setW)) t__law_take_3
def t__law_take_1 : TS3 := sseq (sasg (t2 (binV false .Mod) (tcl (bfV false .int) (tacons (t2 (binV false .Add) (t2 (binV false .Add) (t2 (binV false .Mult) (tvar 3) (t2 (binV false .Add) (tcon (.int 48017)) (t2 (binV false .Mult) (tcon (.int 6)) (tvar 4)))) (t2 (binV false .Mult) (tcon (.int 11489)) (tvar 4))) (tcon (.int 7919))) (tanil))) (tcon (.int 2147483549))) (gsub3 (tvar 0) (tcon (.int 1)) setW)) t__law_take_2
def t__law_take : TS3 := sseq (sasg (tvar 0) (gtl 3 (gsc (gnm 2) (gsc (gnm 3) (gsc (gnm 4) (gsn)))))) t__law_take_1
def f__law_take : F3 := fun ds => run3 t__law_take (start3 N__law_take ds)
theorem b__law_take {P : Program} {w : World} {K : PySem.W.Frag} {mg : Str → Option Value} {base : Heap} (T : Tx P w K mg base) {cdv : Value} {A : Around} {outer : List Env} {s : Shared} {H : Hp} {E : XK} (B : Bd (cn K) (cx3 P w K mg base N__law_take "_law_take" s__law_take (He.fAd K ("_law_take", none)) cdv A outer s H E) (fun c d _ H' => E c d H') 0) :
    PSs (cx3 P w K mg base N__law_take "_law_take" s__law_take (He.fAd K ("_law_take", none)) cdv A outer s H E) (defBody s__law_take) (upS (cn K) (fun c d _ H' => E c d H') t__law_take) := (pss_cons3 (ps_asg3 (v3 0) (pg_tl3 B.hK B.hc (pgs_c3 (pg_nm3 B.hN rfl (.inl rfl) (.inr rfl)) (pgs_c3 (pg_nm3 B.hN rfl (.inl rfl) (.inr rfl)) (pgs_c3 (pg_nm3 B.hN rfl (.inl rfl) (.inr rfl)) pgs_n3 rfl) rfl) rfl) rfl rfl) rfl rfl rfl) (pss_cons3 (ps_asg3 (pe_bin3 (opB_ok B.hK) (pe_bf3 (b := .int) (w := false) B rfl rfl T.n_int (pa_cons3 (pe_bin3 (opB_ok B.hK) (pe_bin3 (opB_ok B.hK) (pe_bin3 (opB_ok B.hK) (v3 3) (pe_bin3 (opB_ok B.hK) c_int (pe_bin3 (opB_ok B.hK) c_int (v3 4)))) (pe_bin3 (opB_ok B.hK) c_int (v3 4))) c_int) pa_nil3 rfl) rfl rfl) c_int) (pg_sub3 B.hu1 B.hK (v3 0) c_int (fun _ => rfl)) rfl rfl rfl) (pss_cons3 (ps_asg3 (pe_bin3 (opB_ok B.hK) (v3 4) c_int) (pg_sub3 B.hu1 B.hK (v3 0) c_int (fun _ => rfl)) rfl rfl rfl) (pss_cons3 (ps_if3 (pt_cmp3 (opC_ok B.hu B.hK) (v3 2) c_int (nomark _)) (pss_cons3 (ps_asg3 (pe_bin3 (opB_ok B.hK) (pe_bf3 (b := .int) (w := false) B rfl rfl T.n_int (pa_cons3 (v3 2) pa_nil3 rfl) rfl rfl) (v3 1)) (pg_sub3 B.hu1 B.hK (v3 0) c_int (fun _ => rfl)) rfl rfl rfl) (pss_cons3 (ps_ret3 (pe_bin3 (opB_ok B.hK) (pe_bf3 (b := .int) (w := false) B rfl rfl T.n_int (pa_cons3 (v3 2) pa_nil3 rfl) rfl rfl) (v3 1))) pss_nil3)) pss_nil3) (pss_cons3 (ps_ret3 (pe_bin3 (opB_ok B.hK) (pe_bf3 (b := .int) (w := false) B rfl rfl T.n_int (pa_cons3 (pe_bin3 (opB_ok B.hK) (pe_ix3 B.hu1 B.hK (v3 0) c_int (fun _ _ => rfl)) c_int) pa_nil3 rfl) rfl rfl) (v3 1))) pss_nil3)))))
theorem D__law_take {P : Program} {w : World} {K : PySem.W.Frag} {mg : Str → Option Value} {base : Heap} (T : Tx P w K mg base) : Dok P w K mg base (cn K) 1 (He.fAd K ("_law_take", none)) ["draws", "many"] 2 f__law_take [[]] := by
  obtain ⟨fd, F⟩ := T.F__law_take
  refine ⟨fd, fn3 F rfl sc__law_take rfl (fun cdv A outer s H E _ B => b__law_take T B), F.kp, ?_⟩
  · exact ar_nil (F.bindsN (fun _ _ _ _ _ _ us hl => match us, hl with | [_, _], _ => rfl))
/-! ### _law_names -/
abbrev s__law_names : Stmt := top 54
abbrev N__law_names : List Str := ["draws", "many", "turn", "found", "spare"]
theorem sc__law_names : FnScope N__law_names ["draws", "many"] (defScope s__law_names) := ⟨rfl, rfl, rfl, by decide +kernel, rfl, by decide +kernel, by decide +kernel⟩
def t__law_names_2 : TS3 := sseq (sret (tcl (bfV false .tuple) (tacons (tcl (bfV false .sorted) (tacons (tvar 3) (tanil))) (tanil)))) snil
def t__law_names_1 : TS3 := sseq (sfor (irng1 (tvar 1)) (.nm 2) (sseq (sexp (tbm .append (tvar 3) (tacons (tbmL lpopV (tvar 4) (tacons (tcf 2 f__law_take [] (tacons (tvar 0) (tacons (tcl (bfV false .len) (tacons (tvar 4) (tanil))) (tanil)))) (tanil))) (tanil)))) (snil))) t__law_names_2
def t__law_names : TS3 := sseq (spar 3 4 (tacons (tlst true (tanil)) (tacons (tlst true (tacons (tcon (.str "a")) (tacons (tcon (.str "b")) (tacons (tcon (.str "bells")) (tacons (tcon (.str "both")) (tacons (tcon (.str "door")) (tacons (tcon (.str "exit")) (tacons (tcon (.str "hall")) (tacons (tcon (.str "lab")) (tacons (tcon (.str "one")) (tacons (tcon (.str "people")) (tacons (tcon (.str "rooms")) (tacons (tcon (.str "yard")) (tanil)))))))))))))) (tanil)))) t__law_names_1
def f__law_names : F3 := fun ds => run3 t__law_names (start3 N__law_names ds)
theorem b__law_names {P : Program} {w : World} {K : PySem.W.Frag} {mg : Str → Option Value} {base : Heap} (T : Tx P w K mg base) {cdv : Value} {A : Around} {outer : List Env} {s : Shared} {H : Hp} {E : XK} (B : Bd (cn K) (cx3 P w K mg base N__law_names "_law_names" s__law_names (He.fAd K ("_law_names", none)) cdv A outer s H E) (fun c d _ H' => E c d H') 1) :
    PSs (cx3 P w K mg base N__law_names "_law_names" s__law_names (He.fAd K ("_law_names", none)) cdv A outer s H E) (defBody s__law_names) (upS (cn K) (fun c d _ H' => E c d H') t__law_names) := (pss_cons3 (ps_parV (i := 3) (j := 4) B.hc B.hN rfl rfl (by decide) rfl rfl (pa_cons3 (pe_lst3 (w := true) pa_nil3) (pa_cons3 (pe_lst3 (w := true) (pa_cons3 c_str (pa_cons3 c_str (pa_cons3 c_str (pa_cons3 c_str (pa_cons3 c_str (pa_cons3 c_str (pa_cons3 c_str (pa_cons3 c_str (pa_cons3 c_str (pa_cons3 c_str (pa_cons3 c_str (pa_cons3 c_str pa_nil3 rfl) rfl) rfl) rfl) rfl) rfl) rfl) rfl) rfl) rfl) rfl) rfl)) pa_nil3 rfl) rfl) rfl rfl) (pss_cons3 (ps_for3 (g := (.nm 2)) B.hp B.hc (pi_rng1 rfl T.n_range (v3 1) rfl) (pg_name B.hN rfl (.inl rfl) (.inr rfl)) (pss_cons3 (ps_exp3 (pe_app3 B.hK (v3 3) (pa_cons3 (pe_lpop3 B.hK (v3 4) (pa_cons3 (c_call (Dok.of rfl (D__law_take T)) B (by decide) List.mem_cons_self T.m__law_take rfl (pa_cons3 (v3 0) (pa_cons3 (pe_bf3 (b := .len) (w := false) B rfl rfl T.n_len (pa_cons3 (v3 4) pa_nil3 rfl) rfl rfl) pa_nil3 rfl) rfl) (by decide) rfl rfl) pa_nil3 rfl) rfl rfl rfl rfl rfl) pa_nil3 rfl) rfl rfl rfl rfl rfl) rfl) pss_nil3) (fun _ => rfl)) (pss_cons3 (ps_ret3 (pe_bf3 (b := .tuple) (w := false) B rfl rfl T.n_tuple (pa_cons3 (pe_bf3 (b := .sorted) (w := false) B rfl rfl T.n_sorted (pa_cons3 (v3 3) pa_nil3 rfl) rfl rfl) pa_nil3 rfl) rfl rfl)) pss_nil3)))
theorem D__law_names {P : Program} {w : World} {K : PySem.W.Frag} {mg : Str → Option Value} {base : Heap} (T : Tx P w K mg base) : Dok P w K mg base (cn K) 2 (He.fAd K ("_law_names", none)) ["draws", "many"] 2 f__law_names [[]] := by
  obtain ⟨fd, F⟩ := T.F__law_names
  refine ⟨fd, fn3 F rfl sc__law_names rfl (fun cdv A outer s H E _ B => b__law_names T B), F.kp, ?_⟩
  · exact ar_nil (F.bindsN (fun _ _ _ _ _ _ us hl => match us, hl with | [_, _], _ => rfl))
/-! ### _law_pick -/
abbrev s__law_pick : Stmt := top 51
abbrev N__law_pick : List Str := ["draws", "some"]
theorem sc__law_pick : FnScope N__law_pick ["draws", "some"] (defScope s__law_pick) := ⟨rfl, rfl, rfl, by decide +kernel, rfl, by decide +kernel, by decide +kernel⟩
def t__law_pick : TS3 := sseq (sret (t2 ixV (tvar 1) (tcf 2 f__law_take [] (tacons (tvar 0) (tacons (tcl (bfV false .len) (tacons (tvar 1) (tanil))) (tanil)))))) (snil)
def f__law_pick : F3 := fun ds => run3 t__law_pick (start3 N__law_pick ds)
theorem b__law_pick {P : Program} {w : World} {K : PySem.W.Frag} {mg : Str → Option Value} {base : Heap} (T : Tx P w K mg base) {cdv : Value} {A : Around} {outer : List Env} {s : Shared} {H : Hp} {E : XK} (B : Bd (cn K) (cx3 P w K mg base N__law_pick "_law_pick" s__law_pick (He.fAd K ("_law_pick", none)) cdv A outer s H E) (fun c d _ H' => E c d H') 1) :
    PSs (cx3 P w K mg base N__law_pick "_law_pick" s__law_pick (He.fAd K ("_law_pick", none)) cdv A outer s H E) (defBody s__law_pick) (upS (cn K) (fun c d _ H' => E c d H') t__law_pick) := (pss_cons3 (ps_ret3 (pe_ix3 B.hu1 B.hK (v3 1) (c_call (Dok.of rfl (D__law_take T)) B (by decide) List.mem_cons_self T.m__law_take rfl (pa_cons3 (v3 0) (pa_cons3 (pe_bf3 (b := .len) (w := false) B rfl rfl T.n_len (pa_cons3 (v3 1) pa_nil3 rfl) rfl rfl) pa_nil3 rfl) rfl) (by decide) rfl rfl) (fun _ _ => rfl))) pss_nil3)
theorem D__law_pick {P : Program} {w : World} {K : PySem.W.Frag} {mg : Str → Option Value} {base : Heap} (T : Tx P w K mg base) : Dok P w K mg base (cn K) 2 (He.fAd K ("_law_pick", none)) ["draws", "some"] 2 f__law_pick [[]] := by
  obtain ⟨fd, F⟩ := T.F__law_pick
  refine ⟨fd, fn3 F rfl sc__law_pick rfl (fun cdv A outer s H E _ B => b__law_pick T B), F.kp, ?_⟩
  · exact ar_nil (F.bindsN (fun _ _ _ _ _ _ us hl => match us, hl with | [_, _], _ => rfl))
/-! ### _law_door -/
abbrev s__law_door : Stmt := top 55
abbrev N__law_door : List Str := ["draws", "rooms", "one", "two", "closes", "width", "length"]
theorem sc__law_door : FnScope N__law_door ["draws", "rooms"] (defScope s__law_door) := ⟨rfl, rfl, rfl, by decide +kernel, rfl, by decide +kernel, by decide +kernel⟩
def t__law_door_5 : TS3 := sseq (sret (ttup 6 (tacons (t2 ixV (tvar 1) (tvar 2)) (tacons (tvar 3) (tacons (tcf 2 f__law_pick [] (tacons (tvar 0) (tacons (tlst false (tacons (tcon (.str "one")) (tacons (tcon (.str "both")) (tanil)))) (tanil)))) (tacons (tvar 5) (tacons (tvar 6) (tacons (tvar 4) (tanil))))))))) snil
def t__law_door_4 : TS3 := sseq (sasg (t2 (binV false .Add) (tcon (.int 1)) (tcf 2 f__law_take [] (tacons (tvar 0) (tacons (tcf 2 f__law_pick [] (tacons (tvar 0) (tacons (tlst false (tacons (tcon (.int 1)) (tacons (tcon (.int 2)) (tacons (tcon (.int 3)) (tanil))))) (tanil)))) (tanil))))) (gnm 6)) t__law_door_5
def t__law_door_3 : TS3 := sseq (sasg (t2 (binV false .Add) (tcon (.int 1)) (tcf 2 f__law_take [] (tacons (tvar 0) (tacons (tcf 2 f__law_pick [] (tacons (tvar 0) (tacons (tlst false (tacons (tcon (.int 1)) (tacons (tcon (.int 2)) (tacons (tcon (.int 3)) (tacons (tcon (.int 9)) (tanil)))))) (tanil)))) (tanil))))) (gnm 5)) t__law_door_4
def t__law_door_2 : TS3 := sseq (sasg (tcf 2 f__law_pick [] (tacons (tvar 0) (tacons (tlst false (tacons (tcon .non) (tacons (tcon .non) (tacons (tcon .non) (tacons (tcon (.int 0)) (tacons (tcon (.int 1)) (tacons (tcon (.int 2)) (tacons (tcon (.int 3)) (tacons (tcon (.int 5)) (tacons (tcon (.int 9)) (tacons (tcon (.int 30)) (tanil)))))))))))) (tanil)))) (gnm 4)) t__law_door_3
def t__law_door_1 : TS3 := sseq (sasg (t2 ixV (tvar 1) (t2 (binV false .Mod) (tcl (bfV false .int) (tacons (t2 (binV false .Add) (t2 (binV false .Add) (tvar 2) (tcon (.int 1))) (tcf 2 f__law_take [] (tacons (tvar 0) (tacons (t2 (binV false .Sub) (tcl (bfV false .len) (tacons (tvar 1) (tanil))) (tcon (.int 1))) (tanil))))) (tanil))) (tcl (bfV false .len) (tacons (tvar 1) (tanil))))) (gnm 3)) t__law_door_2
def t__law_door : TS3 := sseq (sasg (tcf 2 f__law_take [] (tacons (tvar 0) (tacons (tcl (bfV false .len) (tacons (tvar 1) (tanil))) (tanil)))) (gnm 2)) t__law_door_1
def f__law_door : F3 := fun ds => run3 t__law_door (start3 N__law_door ds)
theorem b__law_door {P : Program} {w : World} {K : PySem.W.Frag} {mg : Str → Option Value} {base : Heap} (T : Tx P w K mg base) {cdv : Value} {A : Around} {outer : List Env} {s : Shared} {H : Hp} {E : XK} (B : Bd (cn K) (cx3 P w K mg base N__law_door "_law_door" s__law_door (He.fAd K ("_law_door", none)) cdv A outer s H E) (fun c d _ H' => E c d H') 2) :
    PSs (cx3 P w K mg base N__law_door "_law_door" s__law_door (He.fAd K ("_law_door", none)) cdv A outer s H E) (defBody s__law_door) (upS (cn K) (fun c d _ H' => E c d H') t__law_door) := (pss_cons3 (ps_set3 (i := 2) B.hN rfl (.inl rfl) (c_call (Dok.of rfl (D__law_take T)) B (by decide) List.mem_cons_self T.m__law_take rfl (pa_cons3 (v3 0) (pa_cons3 (pe_bf3 (b := .len) (w := false) B rfl rfl T.n_len (pa_cons3 (v3 1) pa_nil3 rfl) rfl rfl) pa_nil3 rfl) rfl) (by decide) rfl rfl) rfl (.inr rfl)) (pss_cons3 (ps_set3 (i := 3) B.hN rfl (.inl rfl) (pe_ix3 B.hu1 B.hK (v3 1) (pe_bin3 (opB_ok B.hK) (pe_bf3 (b := .int) (w := false) B rfl rfl T.n_int (pa_cons3 (pe_bin3 (opB_ok B.hK) (pe_bin3 (opB_ok B.hK) (v3 2) c_int) (c_call (Dok.of rfl (D__law_take T)) B (by decide) List.mem_cons_self T.m__law_take rfl (pa_cons3 (v3 0) (pa_cons3 (pe_bin3 (opB_ok B.hK) (pe_bf3 (b := .len) (w := false) B rfl rfl T.n_len (pa_cons3 (v3 1) pa_nil3 rfl) rfl rfl) c_int) pa_nil3 rfl) rfl) (by decide) rfl rfl)) pa_nil3 rfl) rfl rfl) (pe_bf3 (b := .len) (w := false) B rfl rfl T.n_len (pa_cons3 (v3 1) pa_nil3 rfl) rfl rfl)) (fun _ _ => rfl)) rfl (.inr rfl)) (pss_cons3 (ps_set3 (i := 4) B.hN rfl (.inl rfl) (c_call (Dok.of rfl (D__law_pick T)) B (by decide) List.mem_cons_self T.m__law_pick rfl (pa_cons3 (v3 0) (pa_cons3 (pe_lst3 (w := false) (pa_cons3 c_non (pa_cons3 c_non (pa_cons3 c_non (pa_cons3 c_int (pa_cons3 c_int (pa_cons3 c_int (pa_cons3 c_int (pa_cons3 c_int (pa_cons3 c_int (pa_cons3 c_int pa_nil3 rfl) rfl) rfl) rfl) rfl) rfl) rfl) rfl) rfl) rfl)) pa_nil3 rfl) rfl) (by decide) rfl rfl) rfl (.inr rfl)) (pss_cons3 (ps_set3 (i := 5) B.hN rfl (.inl rfl) (pe_bin3 (opB_ok B.hK) c_int (c_call (Dok.of rfl (D__law_take T)) B (by decide) List.mem_cons_self T.m__law_take rfl (pa_cons3 (v3 0) (pa_cons3 (c_call (Dok.of rfl (D__law_pick T)) B (by decide) List.mem_cons_self T.m__law_pick rfl (pa_cons3 (v3 0) (pa_cons3 (pe_lst3 (w := false) (pa_cons3 c_int (pa_cons3 c_int (pa_cons3 c_int (pa_cons3 c_int pa_nil3 rfl) rfl) rfl) rfl)) pa_nil3 rfl) rfl) (by decide) rfl rfl) pa_nil3 rfl) rfl) (by decide) rfl rfl)) rfl (.inr rfl)) (pss_cons3 (ps_set3 (i := 6) B.hN rfl (.inl rfl) (pe_bin3 (opB_ok B.hK) c_int (c_call (Dok.of rfl (D__law_take T)) B (by decide) List.mem_cons_self T.m__law_take rfl (pa_cons3 (v3 0) (pa_cons3 (c_call (Dok.of rfl (D__law_pick T)) B (by decide) List.mem_cons_self T.m__law_pick rfl (pa_cons3 (v3 0) (pa_cons3 (pe_lst3 (w := false) (pa_cons3 c_int (pa_cons3 c_int (pa_cons3 c_int pa_nil3 rfl) rfl) rfl)) pa_nil3 rfl) rfl) (by decide) rfl rfl) pa_nil3 rfl) rfl) (by decide) rfl rfl)) rfl (.inr rfl)) (pss_cons3 (ps_ret3 (pe_tup3 (pa_cons3 (pe_ix3 B.hu1 B.hK (v3 1) (v3 2) (fun _ _ => rfl)) (pa_cons3 (v3 3) (pa_cons3 (c_call (Dok.of rfl (D__law_pick T)) B (by decide) List.mem_cons_self T.m__law_pick rfl (pa_cons3 (v3 0) (pa_cons3 (pe_lst3 (w := false) (pa_cons3 c_str (pa_cons3 c_str pa_nil3 rfl) rfl)) pa_nil3 rfl) rfl) (by decide) rfl rfl) (pa_cons3 (v3 5) (pa_cons3 (v3 6) (pa_cons3 (v3 4) pa_nil3 rfl) rfl) rfl) rfl) rfl) rfl))) pss_nil3))))))
theorem D__law_door {P : Program} {w : World} {K : PySem.W.Frag} {mg : Str → Option Value} {base : Heap} (T : Tx P w K mg base) : Dok P w K mg base (cn K) 3 (He.fAd K ("_law_door", none)) ["draws", "rooms"] 2 f__law_door [[]] := by
  obtain ⟨fd, F⟩ := T.F__law_door
  refine ⟨fd, fn3 F rfl sc__law_door rfl (fun cdv A outer s H E _ B => b__law_door T B), F.kp, ?_⟩
  · exact ar_nil (F.bindsN (fun _ _ _ _ _ _ us hl => match us, hl with | [_, _], _ => rfl))
/-! ### _law_house -/
abbrev s__law_house : Stmt := top 56
abbrev N__law_house : List Str := ["draws", "many", "doors", "found", "turn", "room", "exits", "most", "rooms", "people", "bells", "late"]
theorem sc__law_house : FnScope N__law_house ["draws", "many", "doors"] (defScope s__law_house) := ⟨rfl, rfl, rfl, by decide +kernel, rfl, by decide +kernel, by decide +kernel⟩
def t__law_house_8 : TS3 := sseq (sret (ttup 5 (tacons (tvar 8) (tacons (tvar 3) (tacons (tvar 6) (tacons (tvar 9) (tacons (tvar 10) (tanil)))))))) snil
def t__law_house_7 : TS3 := sseq (sfor (iseq (tvar 8)) (.nm 5) (sseq (spar 9 10 (tacons (t2 (binV false .Add) (tvar 9) (ttup 1 (tacons (tcf 2 f__law_take [] (tacons (tvar 0) (tacons (t2 (binV false .Add) (tvar 7) (tcon (.int 1))) (tanil)))) (tanil)))) (tacons (t2 (binV false .Add) (tvar 10) (ttup 1 (tacons (tcf 2 f__law_take [] (tacons (tvar 0) (tacons (tvar 11) (tanil)))) (tanil)))) (tanil)))) (snil))) t__law_house_8
def t__law_house_6 : TS3 := sseq (spar3 9 10 11 (tacons (ttup 0 (tanil)) (tacons (ttup 0 (tanil)) (tacons (tcf 2 f__law_pick [] (tacons (tvar 0) (tacons (tlst false (tacons (tcon (.int 1)) (tacons (tcon (.int 1)) (tacons (tcon (.int 3)) (tacons (tcon (.int 10)) (tanil)))))) (tanil)))) (tanil))))) t__law_house_7
def t__law_house_5 : TS3 := sseq (sasg (tcf 2 f__law_pick [] (tacons (tvar 0) (tacons (tlst false (tacons (tcon (.int 2)) (tacons (tcon (.int 3)) (tacons (tcon (.int 5)) (tacons (tcon (.int 30)) (tanil)))))) (tanil)))) (gnm 7)) t__law_house_6
def t__law_house_4 : TS3 := sseq (sasg (tife (tbl (t2 (cmpV .NotEq) (tvar 6) (ttup 0 (tanil)))) (tvar 6) (ttup 1 (tacons (ttup 2 (tacons (tcf 2 f__law_pick [] (tacons (tvar 0) (tacons (tvar 8) (tanil)))) (tacons (tcon .non) (tanil)))) (tanil)))) (gnm 6)) t__law_house_5
def t__law_house_3 : TS3 := sseq (sfor (iseq (tvar 8)) (.nm 5) (sseq (sif (tbl (t2 (cmpV .Eq) (tcf 2 f__law_take [] (tacons (tvar 0) (tacons (tcon (.int 3)) (tanil)))) (tcon (.int 0)))) (sseq (sasg (t2 (binV false .Add) (tvar 6) (ttup 1 (tacons (ttup 2 (tacons (tvar 5) (tacons (tcf 2 f__law_pick [] (tacons (tvar 0) (tacons (tlst false (tacons (tcon .non) (tacons (tcon .non) (tacons (tcon (.int 1)) (tacons (tcon (.int 2)) (tacons (tcon (.int 5)) (tacons (tcon (.int 99)) (tanil)))))))) (tanil)))) (tanil)))) (tanil)))) (gnm 6)) (snil)) (snil)) (snil))) t__law_house_4
def t__law_house_2 : TS3 := sseq (sfor (irng1 (tvar 2)) (.nm 4) (sseq (sasg (t2 (binV false .Add) (tvar 3) (ttup 1 (tacons (tcf 2 f__law_door [] (tacons (tvar 0) (tacons (tvar 8) (tanil)))) (tanil)))) (gnm 3)) (snil))) t__law_house_3
def t__law_house_1 : TS3 := sseq (sasg (ttup 0 (tanil)) (gnm 3)) t__law_house_2
def t__law_house : TS3 := sseq (spar 8 6 (tacons (tcf 2 f__law_names [] (tacons (tvar 0) (tacons (tvar 1) (tanil)))) (tacons (ttup 0 (tanil)) (tanil)))) t__law_house_1
def f__law_house : F3 := fun ds => run3 t__law_house (start3 N__law_house ds)
theorem b__law_house {P : Program} {w : World} {K : PySem.W.Frag} {mg : Str → Option Value} {base : Heap} (T : Tx P w K mg base) {cdv : Value} {A : Around} {outer : List Env} {s : Shared} {H : Hp} {E : XK} (B : Bd (cn K) (cx3 P w K mg base N__law_house "_law_house" s__law_house (He.fAd K ("_law_house", none)) cdv A outer s H E) (fun c d _ H' => E c d H') 3) :
    PSs (cx3 P w K mg base N__law_house "_law_house" s__law_house (He.fAd K ("_law_house", none)) cdv A outer s H E) (defBody s__law_house) (upS (cn K) (fun c d _ H' => E c d H') t__law_house) := (pss_cons3 (ps_parV (i := 8) (j := 6) B.hc B.hN rfl rfl (by decide) rfl rfl (pa_cons3 (c_call (Dok.of rfl (D__law_names T)) B (by decide) List.mem_cons_self T.m__law_names rfl (pa_cons3 (v3 0) (pa_cons3 (v3 1) pa_nil3 rfl) rfl) (by decide) rfl rfl) (pa_cons3 (pe_tup3 pa_nil3) pa_nil3 rfl) rfl) rfl rfl) (pss_cons3 (ps_set3 (i := 3) B.hN rfl (.inl rfl) (pe_tup3 pa_nil3) rfl (.inr rfl)) (pss_cons3 (ps_for3 (g := (.nm 4)) B.hp B.hc (pi_rng1 rfl T.n_range (v3 2) rfl) (pg_name B.hN rfl (.inl rfl) (.inr rfl)) (pss_cons3 (ps_set3 (i := 3) B.hN rfl (.inl rfl) (pe_bin3 (opB_ok B.hK) (v3 3) (pe_tup3 (pa_cons3 (c_call (Dok.of rfl (D__law_door T)) B (by decide) List.mem_cons_self T.m__law_door rfl (pa_cons3 (v3 0) (pa_cons3 (v3 8) pa_nil3 rfl) rfl) (by decide) rfl rfl) pa_nil3 rfl))) rfl (.inr rfl)) pss_nil3) (fun _ => rfl)) (pss_cons3 (ps_for3 (g := (.nm 5)) B.hp B.hc (pi_seq3 B.hK (v3 8)) (pg_name B.hN rfl (.inl rfl) (.inr rfl)) (pss_cons3 (ps_if3 (pt_cmp3 (opC_ok B.hu B.hK) (c_call (Dok.of rfl (D__law_take T)) B (by decide) List.mem_cons_self T.m__law_take rfl (pa_cons3 (v3 0) (pa_cons3 c_int pa_nil3 rfl) rfl) (by decide) rfl rfl) c_int (nomark _)) (pss_cons3 (ps_set3 (i := 6) B.hN rfl (.inl rfl) (pe_bin3 (opB_ok B.hK) (v3 6) (pe_tup3 (pa_cons3 (pe_tup3 (pa_cons3 (v3 5) (pa_cons3 (c_call (Dok.of rfl (D__law_pick T)) B (by decide) List.mem_cons_self T.m__law_pick rfl (pa_cons3 (v3 0) (pa_cons3 (pe_lst3 (w := false) (pa_cons3 c_non (pa_cons3 c_non (pa_cons3 c_int (pa_cons3 c_int (pa_cons3 c_int (pa_cons3 c_int pa_nil3 rfl) rfl) rfl) rfl) rfl) rfl)) pa_nil3 rfl) rfl) (by decide) rfl rfl) pa_nil3 rfl) rfl)) pa_nil3 rfl))) rfl (.inr rfl)) pss_nil3) pss_nil3) pss_nil3) (fun _ => rfl)) (pss_cons3 (ps_set3 (i := 6) B.hN rfl (.inl rfl) (pe_ife3 (pt_cmp3 (opC_ok B.hu B.hK) (v3 6) (pe_tup3 pa_nil3) (nomark _)) (v3 6) (pe_tup3 (pa_cons3 (pe_tup3 (pa_cons3 (c_call (Dok.of rfl (D__law_pick T)) B (by decide) List.mem_cons_self T.m__law_pick rfl (pa_cons3 (v3 0) (pa_cons3 (v3 8) pa_nil3 rfl) rfl) (by decide) rfl rfl) (pa_cons3 c_non pa_nil3 rfl) rfl)) pa_nil3 rfl))) rfl (.inr rfl)) (pss_cons3 (ps_set3 (i := 7) B.hN rfl (.inl rfl) (c_call (Dok.of rfl (D__law_pick T)) B (by decide) List.mem_cons_self T.m__law_pick rfl (pa_cons3 (v3 0) (pa_cons3 (pe_lst3 (w := false) (pa_cons3 c_int (pa_cons3 c_int (pa_cons3 c_int (pa_cons3 c_int pa_nil3 rfl) rfl) rfl) rfl)) pa_nil3 rfl) rfl) (by decide) rfl rfl) rfl (.inr rfl)) (pss_cons3 (ps_par3V (i := 9) (j := 10) (l := 11) B.hc B.hN rfl rfl rfl (by decide) (by decide) (by decide) rfl rfl rfl (pa_cons3 (pe_tup3 pa_nil3) (pa_cons3 (pe_tup3 pa_nil3) (pa_cons3 (c_call (Dok.of rfl (D__law_pick T)) B (by decide) List.mem_cons_self T.m__law_pick rfl (pa_cons3 (v3 0) (pa_cons3 (pe_lst3 (w := false) (pa_cons3 c_int (pa_cons3 c_int (pa_cons3 c_int (pa_cons3 c_int pa_nil3 rfl) rfl) rfl) rfl)) pa_nil3 rfl) rfl) (by decide) rfl rfl) pa_nil3 rfl) rfl) rfl) rfl rfl) (pss_cons3 (ps_for3 (g := (.nm 5)) B.hp B.hc (pi_seq3 B.hK (v3 8)) (pg_name B.hN rfl (.inl rfl) (.inr rfl)) (pss_cons3 (ps_parV (i := 9) (j := 10) B.hc B.hN rfl rfl (by decide) rfl rfl (pa_cons3 (pe_bin3 (opB_ok B.hK) (v3 9) (pe_tup3 (pa_cons3 (c_call (Dok.of rfl (D__law_take T)) B (by decide) List.mem_cons_self T.m__law_take rfl (pa_cons3 (v3 0) (pa_cons3 (pe_bin3 (opB_ok B.hK) (v3 7) c_int) pa_nil3 rfl) rfl) (by decide) rfl rfl) pa_nil3 rfl))) (pa_cons3 (pe_bin3 (opB_ok B.hK) (v3 10) (pe_tup3 (pa_cons3 (c_call (Dok.of rfl (D__law_take T)) B (by decide) List.mem_cons_self T.m__law_take rfl (pa_cons3 (v3 0) (pa_cons3 (v3 11) pa_nil3 rfl) rfl) (by decide) rfl rfl) pa_nil3 rfl))) pa_nil3 rfl) rfl) rfl rfl) pss_nil3) (fun _ => rfl)) (pss_cons3 (ps_ret3 (pe_tup3 (pa_cons3 (v3 8) (pa_cons3 (v3 3) (pa_cons3 (v3 6) (pa_cons3 (v3 9) (pa_cons3 (v3 10) pa_nil3 rfl) rfl) rfl) rfl) rfl))) pss_nil3)))))))))
theorem D__law_house {P : Program} {w : World} {K : PySem.W.Frag} {mg : Str → Option Value} {base : Heap} (T : Tx P w K mg base) : Dok P w K mg base (cn K) 4 (He.fAd K ("_law_house", none)) ["draws", "many", "doors"] 3 f__law_house [[]] := by
  obtain ⟨fd, F⟩ := T.F__law_house
  refine ⟨fd, fn3 F rfl sc__law_house rfl (fun cdv A outer s H E _ B => b__law_house T B), F.kp, ?_⟩
  · exact ar_nil (F.bindsN (fun _ _ _ _ _ _ us hl => match us, hl with | [_, _, _], _ => rfl))
def f__law_bent__0 : F3 := fNever
theorem D__law_bent__0 {P : Program} {w : World} {K : PySem.W.Frag} {mg : Str → Option Value} {base : Heap} (T : Tx P w K mg base) : Dok P w K mg base (cn K) 1 (He.fAd K ("_law_bent", none)) ["draws", "thing"] 2 f__law_bent__0 [[]] := by
  obtain ⟨fd, F⟩ := T.F__law_bent
  exact ⟨fd, fnNever, F.kp, ar_nil (F.bindsN (fun _ _ _ _ _ _ us hl => match us, hl with | [_, _], _ => rfl))⟩
/-! ### _law_odd -/
abbrev s__law_odd : Stmt := top 58
abbrev N__law_odd : List Str := ["draws", "some"]
theorem sc__law_odd : FnScope N__law_odd ["draws"] (defScope s__law_odd) := ⟨rfl, rfl, rfl, by decide +kernel, rfl, by decide +kernel, by decide +kernel⟩
def t__law_odd : TS3 := sseq (sasg (tlst false (tacons (tcon .non) (tacons (tcon (.bl true)) (tacons (tcon (.bl false)) (tacons (ttup 0 (tanil)) (tacons (tcon (.str "")) (tacons (tcon (.int 0)) (tacons (tcon (.int 1)) (tacons (tcon (.int 4)) (tacons (t1 negV (tcon (.int 1))) (tacons (t2 (binV false .Pow) (tcon (.int 10)) (tcon (.int 20))) (tacons (tcon (.str "a")) (tacons (tcon (.str "one")) (tacons (ttup 1 (tacons (tcon (.str "a")) (tanil))) (tacons (tlst false (tacons (tcon (.str "a")) (tanil))) (tacons (tdict0 false) (tacons (ttup 2 (tacons (tcon (.int 0)) (tacons (tcon (.int 0)) (tanil)))) (tacons (ttup 1 (tacons (ttup 2 (tacons (tcon (.int 0)) (tacons (tcon (.str "a")) (tanil)))) (tanil))) (tanil))))))))))))))))))) (gnm 1)) (sseq (sret (tcf 2 f__law_pick [] (tacons (tvar 0) (tacons (t2 (binV false .Add) (tvar 1) (tlst false (tacons (tcon (.str "rooms")) (tacons (ttup 6 (tacons (tcon (.str "a")) (tacons (tcon (.str "b")) (tacons (tcon (.str "one")) (tacons (tcon (.int 1)) (tacons (tcon (.int 1)) (tacons (tcon .non) (tanil)))))))) (tacons (ttup 4 (tacons (tcon (.int 0)) (tacons (tcon (.int 0)) (tacons (tcon (.str "a")) (tacons (tcon (.int 1)) (tanil)))))) (tacons (tcon (.int 12)) (tacons (tcon (.int 31)) (tanil)))))))) (tanil))))) (snil))
def f__law_odd : F3 := fun ds => run3 t__law_odd (start3 N__law_odd ds)
theorem b__law_odd {P : Program} {w : World} {K : PySem.W.Frag} {mg : Str → Option Value} {base : Heap} (T : Tx P w K mg base) {cdv : Value} {A : Around} {outer : List Env} {s : Shared} {H : Hp} {E : XK} (B : Bd (cn K) (cx3 P w K mg base N__law_odd "_law_odd" s__law_odd (He.fAd K ("_law_odd", none)) cdv A outer s H E) (fun c d _ H' => E c d H') 2) :
    PSs (cx3 P w K mg base N__law_odd "_law_odd" s__law_odd (He.fAd K ("_law_odd", none)) cdv A outer s H E) (defBody s__law_odd) (upS (cn K) (fun c d _ H' => E c d H') t__law_odd) := (pss_cons3 (ps_set3 (i := 1) B.hN rfl (.inl rfl) (pe_lst3 (w := false) (pa_cons3 c_non (pa_cons3 c_bl (pa_cons3 c_bl (pa_cons3 (pe_tup3 pa_nil3) (pa_cons3 c_str (pa_cons3 c_int (pa_cons3 c_int (pa_cons3 c_int (pa_cons3 (pe_un3 opN_ok c_int) (pa_cons3 (pe_bin3 (opB_ok B.hK) c_int c_int) (pa_cons3 c_str (pa_cons3 c_str (pa_cons3 (pe_tup3 (pa_cons3 c_str pa_nil3 rfl)) (pa_cons3 (pe_lst3 (w := false) (pa_cons3 c_str pa_nil3 rfl)) (pa_cons3 (pe_dict03 (w := false)) (pa_cons3 (pe_tup3 (pa_cons3 c_int (pa_cons3 c_int pa_nil3 rfl) rfl)) (pa_cons3 (pe_tup3 (pa_cons3 (pe_tup3 (pa_cons3 c_int (pa_cons3 c_str pa_nil3 rfl) rfl)) pa_nil3 rfl)) pa_nil3 rfl) rfl) rfl) rfl) rfl) rfl) rfl) rfl) rfl) rfl) rfl) rfl) rfl) rfl) rfl) rfl) rfl)) rfl (.inr rfl)) (pss_cons3 (ps_ret3 (c_call (Dok.of rfl (D__law_pick T)) B (by decide) List.mem_cons_self T.m__law_pick rfl (pa_cons3 (v3 0) (pa_cons3 (pe_bin3 (opB_ok B.hK) (v3 1) (pe_lst3 (w := false) (pa_cons3 c_str (pa_cons3 (pe_tup3 (pa_cons3 c_str (pa_cons3 c_str (pa_cons3 c_str (pa_cons3 c_int (pa_cons3 c_int (pa_cons3 c_non pa_nil3 rfl) rfl) rfl) rfl) rfl) rfl)) (pa_cons3 (pe_tup3 (pa_cons3 c_int (pa_cons3 c_int (pa_cons3 c_str (pa_cons3 c_int pa_nil3 rfl) rfl) rfl) rfl)) (pa_cons3 c_int (pa_cons3 c_int pa_nil3 rfl) rfl) rfl) rfl) rfl))) pa_nil3 rfl) rfl) (by decide) rfl rfl)) pss_nil3))
theorem D__law_odd {P : Program} {w : World} {K : PySem.W.Frag} {mg : Str → Option Value} {base : Heap} (T : Tx P w K mg base) : Dok P w K mg base (cn K) 3 (He.fAd K ("_law_odd", none)) ["draws"] 1 f__law_odd [[]] := by
  obtain ⟨fd, F⟩ := T.F__law_odd
  refine ⟨fd, fn3 F rfl sc__law_odd rfl (fun cdv A outer s H E _ B => b__law_odd T B), F.kp, ?_⟩
  · exact ar_nil (F.bindsN (fun _ _ _ _ _ _ us hl => match us, hl with | [_], _ => rfl))
/-! ### _law_bent -/
abbrev s__law_bent : Stmt := top 59
abbrev N__law_bent : List Str := ["draws", "thing", "way", "at"]
theorem sc__law_bent : FnScope N__law_bent ["draws", "thing"] (defScope s__law_bent) := ⟨rfl, rfl, rfl, by decide +kernel, rfl, by decide +kernel, by decide +kernel⟩
def t__law_bent__1_6 : TS3 := sseq (sret (t2 (binV false .Add) (t2 (binV false .Add) (tsl false (tvar 1) (tono) (toso (tvar 3))) (ttup 1 (tacons (tcf 2 f__law_bent__0 [] (tacons (tvar 0) (tacons (t2 ixV (tvar 1) (tvar 3)) (tanil)))) (tanil)))) (tsl false (tvar 1) (toso (t2 (binV false .Add) (tvar 3) (tcon (.int 1)))) (tono)))) snil
def t__law_bent__1_5 : TS3 := sseq (sif (tbl (t2 (cmpV .Eq) (tvar 2) (tcon (.int 3)))) (sseq (sret (tife (tbl (t2 (cmpV .Eq) (tcf 2 f__law_take [] (tacons (tvar 0) (tacons (tcon (.int 2)) (tanil)))) (tcon (.int 0)))) (t1 revV (tvar 1)) (tcl (bfV false .list) (tacons (tvar 1) (tanil))))) (snil)) (snil)) t__law_bent__1_6
def t__law_bent__1_4 : TS3 := sseq (sif (tbl (t2 (cmpV .Eq) (tvar 2) (tcon (.int 2)))) (sseq (sret (t2 (binV false .Add) (t2 (binV false .Add) (tsl false (tvar 1) (tono) (toso (tvar 3))) (ttup 1 (tacons (t2 ixV (tvar 1) (tvar 3)) (tanil)))) (tsl false (tvar 1) (toso (tvar 3)) (tono)))) (snil)) (snil)) t__law_bent__1_5
def t__law_bent__1_3 : TS3 := sseq (sif (tbl (t2 (cmpV .Eq) (tvar 2) (tcon (.int 1)))) (sseq (sret (t2 (binV false .Add) (tsl false (tvar 1) (tono) (toso (tvar 3))) (tsl false (tvar 1) (toso (t2 (binV false .Add) (tvar 3) (tcon (.int 1)))) (tono)))) (snil)) (snil)) t__law_bent__1_4
def t__law_bent__1_2 : TS3 := sseq (sasg (tcf 2 f__law_take [] (tacons (tvar 0) (tacons (tcl (bfV false .len) (tacons (tvar 1) (tanil))) (tanil)))) (gnm 3)) t__law_bent__1_3
def t__law_bent__1_1 : TS3 := sseq (sif (tor (tnot (ttru (tisi (isB "tuple" 1) (tvar 1)))) (tor (tbl (t2 eqT0V (tvar 1) (ttup 0 (tanil)))) (tbl (t2 (cmpV .Eq) (tvar 2) (tcon (.int 0)))))) (sseq (sret (tcf 1 f__law_odd [] (tacons (tvar 0) (tanil)))) (snil)) (snil)) t__law_bent__1_2
def t__law_bent__1 : TS3 := sseq (sasg (tcf 2 f__law_take [] (tacons (tvar 0) (tacons (tcon (.int 7)) (tanil)))) (gnm 2)) t__law_bent__1_1
def f__law_bent__1 : F3 := fun ds => run3 t__law_bent__1 (start3 N__law_bent ds)
theorem b__law_bent__1 {P : Program} {w : World} {K : PySem.W.Frag} {mg : Str → Option Value} {base : Heap} (T : Tx P w K mg base) {cdv : Value} {A : Around} {outer : List Env} {s : Shared} {H : Hp} {E : XK} (B : Bd (cn K) (cx3 P w K mg base N__law_bent "_law_bent" s__law_bent (He.fAd K ("_law_bent", none)) cdv A outer s H E) (fun c d _ H' => E c d H') 3) :
    PSs (cx3 P w K mg base N__law_bent "_law_bent" s__law_bent (He.fAd K ("_law_bent", none)) cdv A outer s H E) (defBody s__law_bent) (upS (cn K) (fun c d _ H' => E c d H') t__law_bent__1) := (pss_cons3 (ps_set3 (i := 2) B.hN rfl (.inl rfl) (c_call (Dok.of rfl (D__law_take T)) B (by decide) List.mem_cons_self T.m__law_take rfl (pa_cons3 (v3 0) (pa_cons3 c_int pa_nil3 rfl) rfl) (by decide) rfl rfl) rfl (.inr rfl)) (pss_cons3 (ps_if3 (L2.PW.pt (pw_or3 (pt_not3 (pt_tru B.hK (pe_isi3 B T.ist_tuple rfl T.n_isinstance (v3 1) (pe_bltn (x := "tuple") (v := .ty "tuple") rfl T.n_tuple rfl rfl) (.ty _) rfl rfl rfl) (fun _ => rfl))) (pw_or3 (pt_cmp3 (op_eqT0 B.hu) (v3 1) (pe_tup3 pa_nil3) (nomark _)) (L2.pw_or1 (pt_cmp3 (opC_ok B.hu B.hK) (v3 2) c_int (nomark _)))))) (pss_cons3 (ps_ret3 (c_call (Dok.of rfl (D__law_odd T)) B (by decide) List.mem_cons_self T.m__law_odd rfl (pa_cons3 (v3 0) pa_nil3 rfl) (by decide) rfl rfl)) pss_nil3) pss_nil3) (pss_cons3 (ps_set3 (i := 3) B.hN rfl (.inl rfl) (c_call (Dok.of rfl (D__law_take T)) B (by decide) List.mem_cons_self T.m__law_take rfl (pa_cons3 (v3 0) (pa_cons3 (pe_bf3 (b := .len) (w := false) B rfl rfl T.n_len (pa_cons3 (v3 1) pa_nil3 rfl) rfl rfl) pa_nil3 rfl) rfl) (by decide) rfl rfl) rfl (.inr rfl)) (pss_cons3 (ps_if3 (pt_cmp3 (opC_ok B.hu B.hK) (v3 2) c_int (nomark _)) (pss_cons3 (ps_ret3 (pe_bin3 (opB_ok B.hK) (pe_sl3 B.hK (v3 1) po_none3 (po_some3 (v3 3))) (pe_sl3 B.hK (v3 1) (po_some3 (pe_bin3 (opB_ok B.hK) (v3 3) c_int)) po_none3))) pss_nil3) pss_nil3) (pss_cons3 (ps_if3 (pt_cmp3 (opC_ok B.hu B.hK) (v3 2) c_int (nomark _)) (pss_cons3 (ps_ret3 (pe_bin3 (opB_ok B.hK) (pe_bin3 (opB_ok B.hK) (pe_sl3 B.hK (v3 1) po_none3 (po_some3 (v3 3))) (pe_tup3 (pa_cons3 (pe_ix3 B.hu1 B.hK (v3 1) (v3 3) (fun _ _ => rfl)) pa_nil3 rfl))) (pe_sl3 B.hK (v3 1) (po_some3 (v3 3)) po_none3))) pss_nil3) pss_nil3) (pss_cons3 (ps_if3 (pt_cmp3 (opC_ok B.hu B.hK) (v3 2) c_int (nomark _)) (pss_cons3 (ps_ret3 (pe_ife3 (pt_cmp3 (opC_ok B.hu B.hK) (c_call (Dok.of rfl (D__law_take T)) B (by decide) List.mem_cons_self T.m__law_take rfl (pa_cons3 (v3 0) (pa_cons3 c_int pa_nil3 rfl) rfl) (by decide) rfl rfl) c_int (nomark _)) (pe_revT3 B.hK (v3 1)) (pe_bf3 (b := .list) (w := false) B rfl rfl T.n_list (pa_cons3 (v3 1) pa_nil3 rfl) rfl rfl))) pss_nil3) pss_nil3) (pss_cons3 (ps_ret3 (pe_bin3 (opB_ok B.hK) (pe_bin3 (opB_ok B.hK) (pe_sl3 B.hK (v3 1) po_none3 (po_some3 (v3 3))) (pe_tup3 (pa_cons3 (c_call (Dok.of rfl (D__law_bent__0 T)) B (by decide) List.mem_cons_self T.m__law_bent rfl (pa_cons3 (v3 0) (pa_cons3 (pe_ix3 B.hu1 B.hK (v3 1) (v3 3) (fun _ _ => rfl)) pa_nil3 rfl) rfl) (by decide) rfl rfl) pa_nil3 rfl))) (pe_sl3 B.hK (v3 1) (po_some3 (pe_bin3 (opB_ok B.hK) (v3 3) c_int)) po_none3))) pss_nil3)))))))
theorem D__law_bent__1 {P : Program} {w : World} {K : PySem.W.Frag} {mg : Str → Option Value} {base : Heap} (T : Tx P w K mg base) : Dok P w K mg base (cn K) 4 (He.fAd K ("_law_bent", none)) ["draws", "thing"] 2 f__law_bent__1 [[]] := by
  obtain ⟨fd, F⟩ := T.F__law_bent
  refine ⟨fd, fn3 F rfl sc__law_bent rfl (fun cdv A outer s H E _ B => b__law_bent__1 T B), F.kp, ?_⟩
  · exact ar_nil (F.bindsN (fun _ _ _ _ _ _ us hl => match us, hl with | [_, _], _ => rfl))
def t__law_bent__2_6 : TS3 := sseq (sret (t2 (binV false .Add) (t2 (binV false .Add) (tsl false (tvar 1) (tono) (toso (tvar 3))) (ttup 1 (tacons (tcf 2 f__law_bent__1 [] (tacons (tvar 0) (tacons (t2 ixV (tvar 1) (tvar 3)) (tanil)))) (tanil)))) (tsl false (tvar 1) (toso (t2 (binV false .Add) (tvar 3) (tcon (.int 1)))) (tono)))) snil
def t__law_bent__2_5 : TS3 := sseq (sif (tbl (t2 (cmpV .Eq) (tvar 2) (tcon (.int 3)))) (sseq (sret (tife (tbl (t2 (cmpV .Eq) (tcf 2 f__law_take [] (tacons (tvar 0) (tacons (tcon (.int 2)) (tanil)))) (tcon (.int 0)))) (t1 revV (tvar 1)) (tcl (bfV false .list) (tacons (tvar 1) (tanil))))) (snil)) (snil)) t__law_bent__2_6
def t__law_bent__2_4 : TS3 := sseq (sif (tbl (t2 (cmpV .Eq) (tvar 2) (tcon (.int 2)))) (sseq (sret (t2 (binV false .Add) (t2 (binV false .Add) (tsl false (tvar 1) (tono) (toso (tvar 3))) (ttup 1 (tacons (t2 ixV (tvar 1) (tvar 3)) (tanil)))) (tsl false (tvar 1) (toso (tvar 3)) (tono)))) (snil)) (snil)) t__law_bent__2_5
def t__law_bent__2_3 : TS3 := sseq (sif (tbl (t2 (cmpV .Eq) (tvar 2) (tcon (.int 1)))) (sseq (sret (t2 (binV false .Add) (tsl false (tvar 1) (tono) (toso (tvar 3))) (tsl false (tvar 1) (toso (t2 (binV false .Add) (tvar 3) (tcon (.int 1)))) (tono)))) (snil)) (snil)) t__law_bent__2_4
def t__law_bent__2_2 : TS3 := sseq (sasg (tcf 2 f__law_take [] (tacons (tvar 0) (tacons (tcl (bfV false .len) (tacons (tvar 1) (tanil))) (tanil)))) (gnm 3)) t__law_bent__2_3
def t__law_bent__2_1 : TS3 := sseq (sif (tor (tnot (ttru (tisi (isB "tuple" 1) (tvar 1)))) (tor (tbl (t2 eqT0V (tvar 1) (ttup 0 (tanil)))) (tbl (t2 (cmpV .Eq) (tvar 2) (tcon (.int 0)))))) (sseq (sret (tcf 1 f__law_odd [] (tacons (tvar 0) (tanil)))) (snil)) (snil)) t__law_bent__2_2
def t__law_bent__2 : TS3 := sseq (sasg (tcf 2 f__law_take [] (tacons (tvar 0) (tacons (tcon (.int 7)) (tanil)))) (gnm 2)) t__law_bent__2_1
def f__law_bent__2 : F3 := fun ds => run3 t__law_bent__2 (start3 N__law_bent ds)
theorem b__law_bent__2 {P : Program} {w : World} {K : PySem.W.Frag} {mg : Str → Option Value} {base : Heap} (T : Tx P w K mg base) {cdv : Value} {A : Around} {outer : List Env} {s : Shared} {H : Hp} {E : XK} (B : Bd (cn K) (cx3 P w K mg base N__law_bent "_law_bent" s__law_bent (He.fAd K ("_law_bent", none)) cdv A outer s H E) (fun c d _ H' => E c d H') 4) :
    PSs (cx3 P w K mg base N__law_bent "_law_bent" s__law_bent (He.fAd K ("_law_bent", none)) cdv A outer s H E) (defBody s__law_bent) (upS (cn K) (fun c d _ H' => E c d H') t__law_bent__2) := (pss_cons3 (ps_set3 (i := 2) B.hN rfl (.inl rfl) (c_call (Dok.of rfl (D__law_take T)) B (by decide) List.mem_cons_self T.m__law_take rfl (pa_cons3 (v3 0) (pa_cons3 c_int pa_nil3 rfl) rfl) (by decide) rfl rfl) rfl (.inr rfl)) (pss_cons3 (ps_if3 (L2.PW.pt (pw_or3 (pt_not3 (pt_tru B.hK (pe_isi3 B T.ist_tuple rfl T.n_isinstance (v3 1) (pe_bltn (x := "tuple") (v := .ty "tuple") rfl T.n_tuple rfl rfl) (.ty _) rfl rfl rfl) (fun _ => rfl))) (pw_or3 (pt_cmp3 (op_eqT0 B.hu) (v3 1) (pe_tup3 pa_nil3) (nomark _)) (L2.pw_or1 (pt_cmp3 (opC_ok B.hu B.hK) (v3 2) c_int (nomark _)))))) (pss_cons3 (ps_ret3 (c_call (Dok.of rfl (D__law_odd T)) B (by decide) List.mem_cons_self T.m__law_odd rfl (pa_cons3 (v3 0) pa_nil3 rfl) (by decide) rfl rfl)) pss_nil3) pss_nil3) (pss_cons3 (ps_set3 (i := 3) B.hN rfl (.inl rfl) (c_call (Dok.of rfl (D__law_take T)) B (by decide) List.mem_cons_self T.m__law_take rfl (pa_cons3 (v3 0) (pa_cons3 (pe_bf3 (b := .len) (w := false) B rfl rfl T.n_len (pa_cons3 (v3 1) pa_nil3 rfl) rfl rfl) pa_nil3 rfl) rfl) (by decide) rfl rfl) rfl (.inr rfl)) (pss_cons3 (ps_if3 (pt_cmp3 (opC_ok B.hu B.hK) (v3 2) c_int (nomark _)) (pss_cons3 (ps_ret3 (pe_bin3 (opB_ok B.hK) (pe_sl3 B.hK (v3 1) po_none3 (po_some3 (v3 3))) (pe_sl3 B.hK (v3 1) (po_some3 (pe_bin3 (opB_ok B.hK) (v3 3) c_int)) po_none3))) pss_nil3) pss_nil3) (pss_cons3 (ps_if3 (pt_cmp3 (opC_ok B.hu B.hK) (v3 2) c_int (nomark _)) (pss_cons3 (ps_ret3 (pe_bin3 (opB_ok B.hK) (pe_bin3 (opB_ok B.hK) (pe_sl3 B.hK (v3 1) po_none3 (po_some3 (v3 3))) (pe_tup3 (pa_cons3 (pe_ix3 B.hu1 B.hK (v3 1) (v3 3) (fun _ _ => rfl)) pa_nil3 rfl))) (pe_sl3 B.hK (v3 1) (po_some3 (v3 3)) po_none3))) pss_nil3) pss_nil3) (pss_cons3 (ps_if3 (pt_cmp3 (opC_ok B.hu B.hK) (v3 2) c_int (nomark _)) (pss_cons3 (ps_ret3 (pe_ife3 (pt_cmp3 (opC_ok B.hu B.hK) (c_call (Dok.of rfl (D__law_take T)) B (by decide) List.mem_cons_self T.m__law_take rfl (pa_cons3 (v3 0) (pa_cons3 c_int pa_nil3 rfl) rfl) (by decide) rfl rfl) c_int (nomark _)) (pe_revT3 B.hK (v3 1)) (pe_bf3 (b := .list) (w := false) B rfl rfl T.n_list (pa_cons3 (v3 1) pa_nil3 rfl) rfl rfl))) pss_nil3) pss_nil3) (pss_cons3 (ps_ret3 (pe_bin3 (opB_ok B.hK) (pe_bin3 (opB_ok B.hK) (pe_sl3 B.hK (v3 1) po_none3 (po_some3 (v3 3))) (pe_tup3 (pa_cons3 (c_call (Dok.of rfl (D__law_bent__1 T)) B (by decide) List.mem_cons_self T.m__law_bent rfl (pa_cons3 (v3 0) (pa_cons3 (pe_ix3 B.hu1 B.hK (v3 1) (v3 3) (fun _ _ => rfl)) pa_nil3 rfl) rfl) (by decide) rfl rfl) pa_nil3 rfl))) (pe_sl3 B.hK (v3 1) (po_some3 (pe_bin3 (opB_ok B.hK) (v3 3) c_int)) po_none3))) pss_nil3)))))))
theorem D__law_bent__2 {P : Program} {w : World} {K : PySem.W.Frag} {mg : Str → Option Value} {base : Heap} (T : Tx P w K mg base) : Dok P w K mg base (cn K) 5 (He.fAd K ("_law_bent", none)) ["draws", "thing"] 2 f__law_bent__2 [[]] := by
  obtain ⟨fd, F⟩ := T.F__law_bent
  refine ⟨fd, fn3 F rfl sc__law_bent rfl (fun cdv A outer s H E _ B => b__law_bent__2 T B), F.kp, ?_⟩
  · exact ar_nil (F.bindsN (fun _ _ _ _ _ _ us hl => match us, hl with | [_, _], _ => rfl))
def t__law_bent_6 : TS3 := sseq (sret (t2 (binV false .Add) (t2 (binV false .Add) (tsl false (tvar 1) (tono) (toso (tvar 3))) (ttup 1 (tacons (tcf 2 f__law_bent__2 [] (tacons (tvar 0) (tacons (t2 ixV (tvar 1) (tvar 3)) (tanil)))) (tanil)))) (tsl false (tvar 1) (toso (t2 (binV false .Add) (tvar 3) (tcon (.int 1)))) (tono)))) snil
def t__law_bent_5 : TS3 := sseq (sif (tbl (t2 (cmpV .Eq) (tvar 2) (tcon (.int 3)))) (sseq (sret (tife (tbl (t2 (cmpV .Eq) (tcf 2 f__law_take [] (tacons (tvar 0) (tacons (tcon (.int 2)) (tanil)))) (tcon (.int 0)))) (t1 revV (tvar 1)) (tcl (bfV false .list) (tacons (tvar 1) (tanil))))) (snil)) (snil)) t__law_bent_6
def t__law_bent_4 : TS3 := sseq (sif (tbl (t2 (cmpV .Eq) (tvar 2) (tcon (.int 2)))) (sseq (sret (t2 (binV false .Add) (t2 (binV false .Add) (tsl false (tvar 1) (tono) (toso (tvar 3))) (ttup 1 (tacons (t2 ixV (tvar 1) (tvar 3)) (tanil)))) (tsl false (tvar 1) (toso (tvar 3)) (tono)))) (snil)) (snil)) t__law_bent_5
def t__law_bent_3 : TS3 := sseq (sif (tbl (t2 (cmpV .Eq) (tvar 2) (tcon (.int 1)))) (sseq (sret (t2 (binV false .Add) (tsl false (tvar 1) (tono) (toso (tvar 3))) (tsl false (tvar 1) (toso (t2 (binV false .Add) (tvar 3) (tcon (.int 1)))) (tono)))) (snil)) (snil)) t__law_bent_4
def t__law_bent_2 : TS3 := sseq (sasg (tcf 2 f__law_take [] (tacons (tvar 0) (tacons (tcl (bfV false .len) (tacons (tvar 1) (tanil))) (tanil)))) (gnm 3)) t__law_bent_3
def t__law_bent_1 : TS3 := sseq (sif (tor (tnot (ttru (tisi (isB "tuple" 1) (tvar 1)))) (tor (tbl (t2 eqT0V (tvar 1) (ttup 0 (tanil)))) (tbl (t2 (cmpV .Eq) (tvar 2) (tcon (.int 0)))))) (sseq (sret (tcf 1 f__law_odd [] (tacons (tvar 0) (tanil)))) (snil)) (snil)) t__law_bent_2
def t__law_bent : TS3 := sseq (sasg (tcf 2 f__law_take [] (tacons (tvar 0) (tacons (tcon (.int 7)) (tanil)))) (gnm 2)) t__law_bent_1
def f__law_bent : F3 := fun ds => run3 t__law_bent (start3 N__law_bent ds)
theorem b__law_bent {P : Program} {w : World} {K : PySem.W.Frag} {mg : Str → Option Value} {base : Heap} (T : Tx P w K mg base) {cdv : Value} {A : Around} {outer : List Env} {s : Shared} {H : Hp} {E : XK} (B : Bd (cn K) (cx3 P w K mg base N__law_bent "_law_bent" s__law_bent (He.fAd K ("_law_bent", none)) cdv A outer s H E) (fun c d _ H' => E c d H') 5) :
    PSs (cx3 P w K mg base N__law_bent "_law_bent" s__law_bent (He.fAd K ("_law_bent", none)) cdv A outer s H E) (defBody s__law_bent) (upS (cn K) (fun c d _ H' => E c d H') t__law_bent) := (pss_cons3 (ps_set3 (i := 2) B.hN rfl (.inl rfl) (c_call (Dok.of rfl (D__law_take T)) B (by decide) List.mem_cons_self T.m__law_take rfl (pa_cons3 (v3 0) (pa_cons3 c_int pa_nil3 rfl) rfl) (by decide) rfl rfl) rfl (.inr rfl)) (pss_cons3 (ps_if3 (L2.PW.pt (pw_or3 (pt_not3 (pt_tru B.hK (pe_isi3 B T.ist_tuple rfl T.n_isinstance (v3 1) (pe_bltn (x := "tuple") (v := .ty "tuple") rfl T.n_tuple rfl rfl) (.ty _) rfl rfl rfl) (fun _ => rfl))) (pw_or3 (pt_cmp3 (op_eqT0 B.hu) (v3 1) (pe_tup3 pa_nil3) (nomark _)) (L2.pw_or1 (pt_cmp3 (opC_ok B.hu B.hK) (v3 2) c_int (nomark _)))))) (pss_cons3 (ps_ret3 (c_call (Dok.of rfl (D__law_odd T)) B (by decide) List.mem_cons_self T.m__law_odd rfl (pa_cons3 (v3 0) pa_nil3 rfl) (by decide) rfl rfl)) pss_nil3) pss_nil3) (pss_cons3 (ps_set3 (i := 3) B.hN rfl (.inl rfl) (c_call (Dok.of rfl (D__law_take T)) B (by decide) List.mem_cons_self T.m__law_take rfl (pa_cons3 (v3 0) (pa_cons3 (pe_bf3 (b := .len) (w := false) B rfl rfl T.n_len (pa_cons3 (v3 1) pa_nil3 rfl) rfl rfl) pa_nil3 rfl) rfl) (by decide) rfl rfl) rfl (.inr rfl)) (pss_cons3 (ps_if3 (pt_cmp3 (opC_ok B.hu B.hK) (v3 2) c_int (nomark _)) (pss_cons3 (ps_ret3 (pe_bin3 (opB_ok B.hK) (pe_sl3 B.hK (v3 1) po_none3 (po_some3 (v3 3))) (pe_sl3 B.hK (v3 1) (po_some3 (pe_bin3 (opB_ok B.hK) (v3 3) c_int)) po_none3))) pss_nil3) pss_nil3) (pss_cons3 (ps_if3 (pt_cmp3 (opC_ok B.hu B.hK) (v3 2) c_int (nomark _)) (pss_cons3 (ps_ret3 (pe_bin3 (opB_ok B.hK) (pe_bin3 (opB_ok B.hK) (pe_sl3 B.hK (v3 1) po_none3 (po_some3 (v3 3))) (pe_tup3 (pa_cons3 (pe_ix3 B.hu1 B.hK (v3 1) (v3 3) (fun _ _ => rfl)) pa_nil3 rfl))) (pe_sl3 B.hK (v3 1) (po_some3 (v3 3)) po_none3))) pss_nil3) pss_nil3) (pss_cons3 (ps_if3 (pt_cmp3 (opC_ok B.hu B.hK) (v3 2) c_int (nomark _)) (pss_cons3 (ps_ret3 (pe_ife3 (pt_cmp3 (opC_ok B.hu B.hK) (c_call (Dok.of rfl (D__law_take T)) B (by decide) List.mem_cons_self T.m__law_take rfl (pa_cons3 (v3 0) (pa_cons3 c_int pa_nil3 rfl) rfl) (by decide) rfl rfl) c_int (nomark _)) (pe_revT3 B.hK (v3 1)) (pe_bf3 (b := .list) (w := false) B rfl rfl T.n_list (pa_cons3 (v3 1) pa_nil3 rfl) rfl rfl))) pss_nil3) pss_nil3) (pss_cons3 (ps_ret3 (pe_bin3 (opB_ok B.hK) (pe_bin3 (opB_ok B.hK) (pe_sl3 B.hK (v3 1) po_none3 (po_some3 (v3 3))) (pe_tup3 (pa_cons3 (c_call (Dok.of rfl (D__law_bent__2 T)) B (by decide) List.mem_cons_self T.m__law_bent rfl (pa_cons3 (v3 0) (pa_cons3 (pe_ix3 B.hu1 B.hK (v3 1) (v3 3) (fun _ _ => rfl)) pa_nil3 rfl) rfl) (by decide) rfl rfl) pa_nil3 rfl))) (pe_sl3 B.hK (v3 1) (po_some3 (pe_bin3 (opB_ok B.hK) (v3 3) c_int)) po_none3))) pss_nil3)))))))
theorem D__law_bent {P : Program} {w : World} {K : PySem.W.Frag} {mg : Str → Option Value} {base : Heap} (T : Tx P w K mg base) : Dok P w K mg base (cn K) 6 (He.fAd K ("_law_bent", none)) ["draws", "thing"] 2 f__law_bent [[]] := by
  obtain ⟨fd, F⟩ := T.F__law_bent
  refine ⟨fd, fn3 F rfl sc__law_bent rfl (fun cdv A outer s H E _ B => b__law_bent T B), F.kp, ?_⟩
  · exact ar_nil (F.bindsN (fun _ _ _ _ _ _ us hl => match us, hl with | [_, _], _ => rfl))
/-! ### _law_is_name -/
abbrev s__law_is_name : Stmt := top 53
abbrev N__law_is_name : List Str := ["value", "letter"]
theorem sc__law_is_name : FnScope N__law_is_name ["value"] (defScope s__law_is_name) := ⟨rfl, rfl, rfl, by decide +kernel, rfl, by decide +kernel, by decide +kernel⟩
def t__law_is_name : TS3 := sseq (sif (tor (tnot (ttru (tisi (isB "str" 1) (tvar 0)))) (tnot (tbl (tchain .Lt .Lt (tcon (.int 0)) (tcl (bfV false .len) (tacons (tvar 0) (tanil))) (tcon (.int 9)))))) (sseq (sret (tcon (.bl false))) (snil)) (snil)) (sseq (sret (tcl (bfV false .all) (tacons (tlc false (iseq (tvar 0)) (.nm 1) (tyes) (t2 (cmpV .In) (tvar 1) (tcon (.str "abcdefghijklmnopqrstuvwxyz"))) [1]) (tanil)))) (snil))
def f__law_is_name : F3 := fun ds => run3 t__law_is_name (start3 N__law_is_name ds)
theorem b__law_is_name {P : Program} {w : World} {K : PySem.W.Frag} {mg : Str → Option Value} {base : Heap} (T : Tx P w K mg base) {cdv : Value} {A : Around} {outer : List Env} {s : Shared} {H : Hp} {E : XK} (B : Bd (cn K) (cx3 P w K mg base N__law_is_name "_law_is_name" s__law_is_name (He.fAd K ("_law_is_name", none)) cdv A outer s H E) (fun c d _ H' => E c d H') 0) :
    PSs (cx3 P w K mg base N__law_is_name "_law_is_name" s__law_is_name (He.fAd K ("_law_is_name", none)) cdv A outer s H E) (defBody s__law_is_name) (upS (cn K) (fun c d _ H' => E c d H') t__law_is_name) := (pss_cons3 (ps_if3 (L2.PW.pt (pw_or3 (pt_not3 (pt_tru B.hK (pe_isi3 B T.ist_str rfl T.n_isinstance (v3 0) (pe_bltn (x := "str") (v := .ty "str") rfl T.n_str rfl rfl) (.ty _) rfl rfl rfl) (fun _ => rfl))) (L2.pw_or1 (pt_not3 (pt_chain3 B c_int (pe_bf3 (b := .len) (w := false) B rfl rfl T.n_len (pa_cons3 (v3 0) pa_nil3 rfl) rfl rfl) c_int (by with_unfolding_all rfl)))))) (pss_cons3 (ps_ret3 c_bl) pss_nil3) pss_nil3) (pss_cons3 (ps_ret3 (pe_bf3 (b := .all) (w := false) B rfl rfl T.n_all (pa_cons3 (pe_lc3 (w := false) (own := [("letter", 1)]) (g := (.nm 1)) (tt := tyes) (te := t2 (cmpV .In) (tvar 1) (tcon (.str "abcdefghijklmnopqrstuvwxyz"))) B.hc B.hN (by decide) (pi_seq3 B.hK (v3 0)) (blkOk_by rfl) (fun s0 H0 cc0 cl0 fp0 => (pg_name (B.blk s0 H0 _ _ fp0).hN rfl (.inl rfl) (.inr rfl))) (fun s0 H0 cc0 cl0 fp0 => pts_nil3) (fun s0 H0 cc0 cl0 fp0 => (pe_cmp3 (opC_ok (B.blk s0 H0 _ _ fp0).hu (B.blk s0 H0 _ _ fp0).hK) (v3 1) c_str rfl)) (fun _ => rfl)) pa_nil3 rfl) rfl rfl)) pss_nil3))
theorem D__law_is_name {P : Program} {w : World} {K : PySem.W.Frag} {mg : Str → Option Value} {base : Heap} (T : Tx P w K mg base) : Dok P w K mg base (cn K) 1 (He.fAd K ("_law_is_name", none)) ["value"] 1 f__law_is_name [[]] := by
  obtain ⟨fd, F⟩ := T.F__law_is_name
  refine ⟨fd, fn3 F rfl sc__law_is_name rfl (fun cdv A outer s H E _ B => b__law_is_name T B), F.kp, ?_⟩
  · exact ar_nil (F.bindsN (fun _ _ _ _ _ _ us hl => match us, hl with | [_], _ => rfl))
/-! ### _law_wrong_rooms -/
abbrev s__law_wrong_rooms : Stmt := top 60
abbrev N__law_wrong_rooms : List Str := ["value", "k"]
theorem sc__law_wrong_rooms : FnScope N__law_wrong_rooms ["value"] (defScope s__law_wrong_rooms) := ⟨rfl, rfl, rfl, by decide +kernel, rfl, by decide +kernel, by decide +kernel⟩
def t__law_wrong_rooms_2 : TS3 := sseq (sret (tlst false (tanil))) snil
def t__law_wrong_rooms_1 : TS3 := sseq (sfor (irng1 (tcl (bfV false .len) (tacons (tvar 0) (tanil)))) (.nm 1) (sseq (sif (tor (tnot (ttru (tcf 1 f__law_is_name [] (tacons (t2 ixV (tvar 0) (tvar 1)) (tanil))))) (tand (tbl (t2 (cmpV .Gt) (tvar 1) (tcon (.int 0)))) (tbl (t2 leSV (t2 ixV (tvar 0) (tvar 1)) (t2 ixV (tvar 0) (t2 (binV false .Sub) (tvar 1) (tcon (.int 1)))))))) (sseq (sret (tlst false (tacons (tvar 1) (tanil)))) (snil)) (snil)) (snil))) t__law_wrong_rooms_2
def t__law_wrong_rooms : TS3 := sseq (sif (tor (tnot (ttru (tisi (isB "tuple" 1) (tvar 0)))) (tnot (tbl (tchain .LtE .LtE (tcon (.int 2)) (tcl (bfV false .len) (tacons (tvar 0) (tanil))) (tcon (.int 7)))))) (sseq (sret (tlst false (tacons (tcon .non) (tanil)))) (snil)) (snil)) t__law_wrong_rooms_1
def f__law_wrong_rooms : F3 := fun ds => run3 t__law_wrong_rooms (start3 N__law_wrong_rooms ds)
theorem b__law_wrong_rooms {P : Program} {w : World} {K : PySem.W.Frag} {mg : Str → Option Value} {base : Heap} (T : Tx P w K mg base) {cdv : Value} {A : Around} {outer : List Env} {s : Shared} {H : Hp} {E : XK} (B : Bd (cn K) (cx3 P w K mg base N__law_wrong_rooms "_law_wrong_rooms" s__law_wrong_rooms (He.fAd K ("_law_wrong_rooms", none)) cdv A outer s H E) (fun c d _ H' => E c d H') 1) :
    PSs (cx3 P w K mg base N__law_wrong_rooms "_law_wrong_rooms" s__law_wrong_rooms (He.fAd K ("_law_wrong_rooms", none)) cdv A outer s H E) (defBody s__law_wrong_rooms) (upS (cn K) (fun c d _ H' => E c d H') t__law_wrong_rooms) := (pss_cons3 (ps_if3 (L2.PW.pt (pw_or3 (pt_not3 (pt_tru B.hK (pe_isi3 B T.ist_tuple rfl T.n_isinstance (v3 0) (pe_bltn (x := "tuple") (v := .ty "tuple") rfl T.n_tuple rfl rfl) (.ty _) rfl rfl rfl) (fun _ => rfl))) (L2.pw_or1 (pt_not3 (pt_chain3 B c_int (pe_bf3 (b := .len) (w := false) B rfl rfl T.n_len (pa_cons3 (v3 0) pa_nil3 rfl) rfl rfl) c_int (by with_unfolding_all rfl)))))) (pss_cons3 (ps_ret3 (pe_lst3 (w := false) (pa_cons3 c_non pa_nil3 rfl))) pss_nil3) pss_nil3) (pss_cons3 (ps_for3 (g := (.nm 1)) B.hp B.hc (pi_rng1 rfl T.n_range (pe_bf3 (b := .len) (w := false) B rfl rfl T.n_len (pa_cons3 (v3 0) pa_nil3 rfl) rfl rfl) rfl) (pg_name B.hN rfl (.inl rfl) (.inr rfl)) (pss_cons3 (ps_if3 (L2.PW.pt (pw_or3 (pt_not3 (pt_tru B.hK (c_call (Dok.of rfl (D__law_is_name T)) B (by decide) List.mem_cons_self T.m__law_is_name rfl (pa_cons3 (pe_ix3 B.hu1 B.hK (v3 0) (v3 1) (fun _ _ => rfl)) pa_nil3 rfl) (by decide) rfl rfl) (fun _ => rfl))) (L2.pw_or1 (L2.PW.pt (pw_and3 (pt_cmp3 (opC_ok B.hu B.hK) (v3 1) c_int (nomark _)) (L2.pw_and1 (pt_cmp3 op_leS (pe_ix3 B.hu1 B.hK (v3 0) (v3 1) (fun _ _ => rfl)) (pe_ix3 B.hu1 B.hK (v3 0) (pe_bin3 (opB_ok B.hK) (v3 1) c_int) (fun _ _ => rfl)) (nomark _)))))))) (pss_cons3 (ps_ret3 (pe_lst3 (w := false) (pa_cons3 (v3 1) pa_nil3 rfl))) pss_nil3) pss_nil3) pss_nil3) (fun _ => rfl)) (pss_cons3 (ps_ret3 (pe_lst3 (w := false) pa_nil3)) pss_nil3)))
theorem D__law_wrong_rooms {P : Program} {w : World} {K : PySem.W.Frag} {mg : Str → Option Value} {base : Heap} (T : Tx P w K mg base) : Dok P w K mg base (cn K) 2 (He.fAd K ("_law_wrong_rooms", none)) ["value"] 1 f__law_wrong_rooms [[]] := by
  obtain ⟨fd, F⟩ := T.F__law_wrong_rooms
  refine ⟨fd, fn3 F rfl sc__law_wrong_rooms rfl (fun cdv A outer s H E _ B => b__law_wrong_rooms T B), F.kp, ?_⟩
  · exact ar_nil (F.bindsN (fun _ _ _ _ _ _ us hl => match us, hl with | [_], _ => rfl))
/-! ### _law_is_number -/
abbrev s__law_is_number : Stmt := top 52
abbrev N__law_is_number : List Str := ["value", "low", "high"]
theorem sc__law_is_number : FnScope N__law_is_number ["value", "low", "high"] (defScope s__law_is_number) := ⟨rfl, rfl, rfl, by decide +kernel, rfl, by decide +kernel, by decide +kernel⟩
def t__law_is_number : TS3 := sseq (sret (tandV (tisi (isB "int" 1) (tvar 0)) (tandV (tnotV (tisi (isB "bool" 1) (tvar 0))) (tchain .LtE .LtE (tvar 1) (tvar 0) (tvar 2))))) (snil)
def f__law_is_number : F3 := fun ds => run3 t__law_is_number (start3 N__law_is_number ds)
theorem b__law_is_number {P : Program} {w : World} {K : PySem.W.Frag} {mg : Str → Option Value} {base : Heap} (T : Tx P w K mg base) {cdv : Value} {A : Around} {outer : List Env} {s : Shared} {H : Hp} {E : XK} (B : Bd (cn K) (cx3 P w K mg base N__law_is_number "_law_is_number" s__law_is_number (He.fAd K ("_law_is_number", none)) cdv A outer s H E) (fun c d _ H' => E c d H') 0) :
    PSs (cx3 P w K mg base N__law_is_number "_law_is_number" s__law_is_number (He.fAd K ("_law_is_number", none)) cdv A outer s H E) (defBody s__law_is_number) (upS (cn K) (fun c d _ H' => E c d H') t__law_is_number) := (pss_cons3 (ps_ret3 (pe_and3 B.hK (pe_isi3 B T.ist_int rfl T.n_isinstance (v3 0) (pe_bltn (x := "int") (v := .ty "int") rfl T.n_int rfl rfl) (.ty _) rfl rfl rfl) (pe_and3 B.hK (pe_not3 B.hK (pe_isi3 B T.ist_bool rfl T.n_isinstance (v3 0) (pe_bltn (x := "bool") (v := .ty "bool") rfl T.n_bool rfl rfl) (.ty _) rfl rfl rfl)) (L2.pe_one (pe_chain3 B (v3 1) (v3 0) (v3 2) (by with_unfolding_all rfl)))))) pss_nil3)
theorem D__law_is_number {P : Program} {w : World} {K : PySem.W.Frag} {mg : Str → Option Value} {base : Heap} (T : Tx P w K mg base) : Dok P w K mg base (cn K) 1 (He.fAd K ("_law_is_number", none)) ["value", "low", "high"] 3 f__law_is_number [[]] := by
  obtain ⟨fd, F⟩ := T.F__law_is_number
  refine ⟨fd, fn3 F rfl sc__law_is_number rfl (fun cdv A outer s H E _ B => b__law_is_number T B), F.kp, ?_⟩
  · exact ar_nil (F.bindsN (fun _ _ _ _ _ _ us hl => match us, hl with | [_, _, _], _ => rfl))
/-! ### _law_wrong_exits -/
abbrev s__law_wrong_exits : Stmt := top 63
abbrev N__law_wrong_exits : List Str := ["value", "rooms", "k", "row"]
theorem sc__law_wrong_exits : FnScope N__law_wrong_exits ["value", "rooms"] (defScope s__law_wrong_exits) := ⟨rfl, rfl, rfl, by decide +kernel, rfl, by decide +kernel, by decide +kernel⟩
def t__law_wrong_exits_2 : TS3 := sseq (sret (tlst false (tanil))) snil
def t__law_wrong_exits_1 : TS3 := sseq (sfor (irng1 (tcl (bfV false .len) (tacons (tvar 0) (tanil)))) (.nm 2) (sseq (sasg (t2 ixV (tvar 0) (tvar 2)) (gnm 3)) (sseq (sif (tor (tnot (ttru (tisi (isB "tuple" 1) (tvar 3)))) (tor (tbl (t2 (cmpV .NotEq) (tcl (bfV false .len) (tacons (tvar 3) (tanil))) (tcon (.int 2)))) (tor (tnot (ttru (tisi (isB "str" 1) (t2 ixV (tvar 3) (tcon (.int 0)))))) (tbl (t2 (cmpV .NotIn) (t2 ixV (tvar 3) (tcon (.int 0))) (tvar 1)))))) (sseq (sret (tlst false (tacons (tvar 2) (tanil)))) (snil)) (snil)) (sseq (sif (tor (tand (tbl (t2 (cmpV .IsNot) (t2 ixV (tvar 3) (tcon (.int 1))) (tcon .non))) (tnot (ttru (tcf 3 f__law_is_number [] (tacons (t2 ixV (tvar 3) (tcon (.int 1))) (tacons (tcon (.int 1)) (tacons (tcon (.int 99)) (tanil)))))))) (tand (tbl (t2 (cmpV .Gt) (tvar 2) (tcon (.int 0)))) (tbl (t2 leSV (t2 ixV (tvar 3) (tcon (.int 0))) (t2 ixV (t2 ixV (tvar 0) (t2 (binV false .Sub) (tvar 2) (tcon (.int 1)))) (tcon (.int 0))))))) (sseq (sret (tlst false (tacons (tvar 2) (tanil)))) (snil)) (snil)) (snil))))) t__law_wrong_exits_2
def t__law_wrong_exits : TS3 := sseq (sif (tor (tnot (ttru (tisi (isB "tuple" 1) (tvar 0)))) (tbl (t2 eqT0V (tvar 0) (ttup 0 (tanil))))) (sseq (sret (tlst false (tacons (tcon .non) (tanil)))) (snil)) (snil)) t__law_wrong_exits_1
def f__law_wrong_exits : F3 := fun ds => run3 t__law_wrong_exits (start3 N__law_wrong_exits ds)
theorem b__law_wrong_exits {P : Program} {w : World} {K : PySem.W.Frag} {mg : Str → Option Value} {base : Heap} (T : Tx P w K mg base) {cdv : Value} {A : Around} {outer : List Env} {s : Shared} {H : Hp} {E : XK} (B : Bd (cn K) (cx3 P w K mg base N__law_wrong_exits "_law_wrong_exits" s__law_wrong_exits (He.fAd K ("_law_wrong_exits", none)) cdv A outer s H E) (fun c d _ H' => E c d H') 1) :
    PSs (cx3 P w K mg base N__law_wrong_exits "_law_wrong_exits" s__law_wrong_exits (He.fAd K ("_law_wrong_exits", none)) cdv A outer s H E) (defBody s__law_wrong_exits) (upS (cn K) (fun c d _ H' => E c d H') t__law_wrong_exits) := (pss_cons3 (ps_if3 (L2.PW.pt (pw_or3 (pt_not3 (pt_tru B.hK (pe_isi3 B T.ist_tuple rfl T.n_isinstance (v3 0) (pe_bltn (x := "tuple") (v := .ty "tuple") rfl T.n_tuple rfl rfl) (.ty _) rfl rfl rfl) (fun _ => rfl))) (L2.pw_or1 (pt_cmp3 (op_eqT0 B.hu) (v3 0) (pe_tup3 pa_nil3) (nomark _))))) (pss_cons3 (ps_ret3 (pe_lst3 (w := false) (pa_cons3 c_non pa_nil3 rfl))) pss_nil3) pss_nil3) (pss_cons3 (ps_for3 (g := (.nm 2)) B.hp B.hc (pi_rng1 rfl T.n_range (pe_bf3 (b := .len) (w := false) B rfl rfl T.n_len (pa_cons3 (v3 0) pa_nil3 rfl) rfl rfl) rfl) (pg_name B.hN rfl (.inl rfl) (.inr rfl)) (pss_cons3 (ps_set3 (i := 3) B.hN rfl (.inl rfl) (pe_ix3 B.hu1 B.hK (v3 0) (v3 2) (fun _ _ => rfl)) rfl (.inr rfl)) (pss_cons3 (ps_if3 (L2.PW.pt (pw_or3 (pt_not3 (pt_tru B.hK (pe_isi3 B T.ist_tuple rfl T.n_isinstance (v3 3) (pe_bltn (x := "tuple") (v := .ty "tuple") rfl T.n_tuple rfl rfl) (.ty _) rfl rfl rfl) (fun _ => rfl))) (pw_or3 (pt_cmp3 (opC_ok B.hu B.hK) (pe_bf3 (b := .len) (w := false) B rfl rfl T.n_len (pa_cons3 (v3 3) pa_nil3 rfl) rfl rfl) c_int (nomark _)) (pw_or3 (pt_not3 (pt_tru B.hK (pe_isi3 B T.ist_str rfl T.n_isinstance (pe_ix3 B.hu1 B.hK (v3 3) c_int (fun _ _ => rfl)) (pe_bltn (x := "str") (v := .ty "str") rfl T.n_str rfl rfl) (.ty _) rfl rfl rfl) (fun _ => rfl))) (L2.pw_or1 (pt_cmp3 (opC_ok B.hu B.hK) (pe_ix3 B.hu1 B.hK (v3 3) c_int (fun _ _ => rfl)) (v3 1) rfl)))))) (pss_cons3 (ps_ret3 (pe_lst3 (w := false) (pa_cons3 (v3 2) pa_nil3 rfl))) pss_nil3) pss_nil3) (pss_cons3 (ps_if3 (L2.PW.pt (pw_or3 (L2.PW.pt (pw_and3 (pt_cmp3 (opC_ok B.hu B.hK) (pe_ix3 B.hu1 B.hK (v3 3) c_int (fun _ _ => rfl)) c_non (nomark _)) (L2.pw_and1 (pt_not3 (pt_tru B.hK (c_call (Dok.of rfl (D__law_is_number T)) B (by decide) List.mem_cons_self T.m__law_is_number rfl (pa_cons3 (pe_ix3 B.hu1 B.hK (v3 3) c_int (fun _ _ => rfl)) (pa_cons3 c_int (pa_cons3 c_int pa_nil3 rfl) rfl) rfl) (by decide) rfl rfl) (fun _ => rfl)))))) (L2.pw_or1 (L2.PW.pt (pw_and3 (pt_cmp3 (opC_ok B.hu B.hK) (v3 2) c_int (nomark _)) (L2.pw_and1 (pt_cmp3 op_leS (pe_ix3 B.hu1 B.hK (v3 3) c_int (fun _ _ => rfl)) (pe_ix3 B.hu1 B.hK (pe_ix3 B.hu1 B.hK (v3 0) (pe_bin3 (opB_ok B.hK) (v3 2) c_int) (fun _ _ => rfl)) c_int (fun _ _ => rfl)) (nomark _)))))))) (pss_cons3 (ps_ret3 (pe_lst3 (w := false) (pa_cons3 (v3 2) pa_nil3 rfl))) pss_nil3) pss_nil3) pss_nil3))) (fun _ => rfl)) (pss_cons3 (ps_ret3 (pe_lst3 (w := false) pa_nil3)) pss_nil3)))
theorem D__law_wrong_exits {P : Program} {w : World} {K : PySem.W.Frag} {mg : Str → Option Value} {base : Heap} (T : Tx P w K mg base) : Dok P w K mg base (cn K) 2 (He.fAd K ("_law_wrong_exits", none)) ["value", "rooms"] 2 f__law_wrong_exits [[]] := by
  obtain ⟨fd, F⟩ := T.F__law_wrong_exits
  refine ⟨fd, fn3 F rfl sc__law_wrong_exits rfl (fun cdv A outer s H E _ B => b__law_wrong_exits T B), F.kp, ?_⟩
  · exact ar_nil (F.bindsN (fun _ _ _ _ _ _ us hl => match us, hl with | [_, _], _ => rfl))
/-! ### _law_is_door -/
abbrev s__law_is_door : Stmt := top 61
abbrev N__law_is_door : List Str := ["row", "rooms", "each"]
theorem sc__law_is_door : FnScope N__law_is_door ["row", "rooms"] (defScope s__law_is_door) := ⟨rfl, rfl, rfl, by decide +kernel, rfl, by decide +kernel, by decide +kernel⟩
def t__law_is_door_3 : TS3 := sseq (sret (torV (t2 (cmpV .Is) (t2 ixV (tvar 0) (tcon (.int 5))) (tcon .non)) (tcf 3 f__law_is_number [] (tacons (t2 ixV (tvar 0) (tcon (.int 5))) (tacons (tcon (.int 0)) (tacons (tcon (.int 30)) (tanil))))))) snil
def t__law_is_door_2 : TS3 := sseq (sif (tor (tnot (ttru (tcf 3 f__law_is_number [] (tacons (t2 ixV (tvar 0) (tcon (.int 3))) (tacons (tcon (.int 1)) (tacons (tcon (.int 9)) (tanil))))))) (tnot (ttru (tcf 3 f__law_is_number [] (tacons (t2 ixV (tvar 0) (tcon (.int 4))) (tacons (tcon (.int 1)) (tacons (tcon (.int 3)) (tanil)))))))) (sseq (sret (tcon (.bl false))) (snil)) (snil)) t__law_is_door_3
def t__law_is_door_1 : TS3 := sseq (sif (tor (tbl (t2 (cmpV .NotIn) (t2 ixV (tvar 0) (tcon (.int 0))) (tvar 1))) (tor (tbl (t2 (cmpV .NotIn) (t2 ixV (tvar 0) (tcon (.int 1))) (tvar 1))) (tor (tbl (t2 (cmpV .Eq) (t2 ixV (tvar 0) (tcon (.int 0))) (t2 ixV (tvar 0) (tcon (.int 1))))) (tbl (t2 (cmpV .NotIn) (t2 ixV (tvar 0) (tcon (.int 2))) (ttup 2 (tacons (tcon (.str "one")) (tacons (tcon (.str "both")) (tanil))))))))) (sseq (sret (tcon (.bl false))) (snil)) (snil)) t__law_is_door_2
def t__law_is_door : TS3 := sseq (sif (tor (tnot (ttru (tisi (isB "tuple" 1) (tvar 0)))) (tor (tbl (t2 (cmpV .NotEq) (tcl (bfV false .len) (tacons (tvar 0) (tanil))) (tcon (.int 6)))) (tnot (ttru (tcl (bfV false .all) (tacons (tlc false (iseq (tsl false (tvar 0) (tono) (toso (tcon (.int 3))))) (.nm 2) (tyes) (tisi (isB "str" 1) (tvar 2)) [2]) (tanil))))))) (sseq (sret (tcon (.bl false))) (snil)) (snil)) t__law_is_door_1
def f__law_is_door : F3 := fun ds => run3 t__law_is_door (start3 N__law_is_door ds)
theorem b__law_is_door {P : Program} {w : World} {K : PySem.W.Frag} {mg : Str → Option Value} {base : Heap} (T : Tx P w K mg base) {cdv : Value} {A : Around} {outer : List Env} {s : Shared} {H : Hp} {E : XK} (B : Bd (cn K) (cx3 P w K mg base N__law_is_door "_law_is_door" s__law_is_door (He.fAd K ("_law_is_door", none)) cdv A outer s H E) (fun c d _ H' => E c d H') 1) :
    PSs (cx3 P w K mg base N__law_is_door "_law_is_door" s__law_is_door (He.fAd K ("_law_is_door", none)) cdv A outer s H E) (defBody s__law_is_door) (upS (cn K) (fun c d _ H' => E c d H') t__law_is_door) := (pss_cons3 (ps_if3 (L2.PW.pt (pw_or3 (pt_not3 (pt_tru B.hK (pe_isi3 B T.ist_tuple rfl T.n_isinstance (v3 0) (pe_bltn (x := "tuple") (v := .ty "tuple") rfl T.n_tuple rfl rfl) (.ty _) rfl rfl rfl) (fun _ => rfl))) (pw_or3 (pt_cmp3 (opC_ok B.hu B.hK) (pe_bf3 (b := .len) (w := false) B rfl rfl T.n_len (pa_cons3 (v3 0) pa_nil3 rfl) rfl rfl) c_int (nomark _)) (L2.pw_or1 (pt_not3 (pt_tru B.hK (pe_bf3 (b := .all) (w := false) B rfl rfl T.n_all (pa_cons3 (pe_lc3 (w := false) (own := [("each", 2)]) (g := (.nm 2)) (tt := tyes) (te := tisi (isB "str" 1) (tvar 2)) B.hc B.hN (by decide) (pi_seq3 B.hK (pe_sl3 B.hK (v3 0) po_none3 (po_some3 c_int))) (blkOk_by rfl) (fun s0 H0 cc0 cl0 fp0 => (pg_name (B.blk s0 H0 _ _ fp0).hN rfl (.inl rfl) (.inr rfl))) (fun s0 H0 cc0 cl0 fp0 => pts_nil3) (fun s0 H0 cc0 cl0 fp0 => (pe_isi3 (B.blk s0 H0 _ _ fp0) T.ist_str rfl T.n_isinstance (v3 2) (pe_bltn (x := "str") (v := .ty "str") rfl T.n_str rfl rfl) (.ty _) rfl rfl rfl)) (fun _ => rfl)) pa_nil3 rfl) rfl rfl) (fun _ => rfl))))))) (pss_cons3 (ps_ret3 c_bl) pss_nil3) pss_nil3) (pss_cons3 (ps_if3 (L2.PW.pt (pw_or3 (pt_cmp3 (opC_ok B.hu B.hK) (pe_ix3 B.hu1 B.hK (v3 0) c_int (fun _ _ => rfl)) (v3 1) rfl) (pw_or3 (pt_cmp3 (opC_ok B.hu B.hK) (pe_ix3 B.hu1 B.hK (v3 0) c_int (fun _ _ => rfl)) (v3 1) rfl) (pw_or3 (pt_cmp3 (opC_ok B.hu B.hK) (pe_ix3 B.hu1 B.hK (v3 0) c_int (fun _ _ => rfl)) (pe_ix3 B.hu1 B.hK (v3 0) c_int (fun _ _ => rfl)) (nomark _)) (L2.pw_or1 (pt_cmp3 (opC_ok B.hu B.hK) (pe_ix3 B.hu1 B.hK (v3 0) c_int (fun _ _ => rfl)) (pe_tup3 (pa_cons3 c_str (pa_cons3 c_str pa_nil3 rfl) rfl)) rfl)))))) (pss_cons3 (ps_ret3 c_bl) pss_nil3) pss_nil3) (pss_cons3 (ps_if3 (L2.PW.pt (pw_or3 (pt_not3 (pt_tru B.hK (c_call (Dok.of rfl (D__law_is_number T)) B (by decide) List.mem_cons_self T.m__law_is_number rfl (pa_cons3 (pe_ix3 B.hu1 B.hK (v3 0) c_int (fun _ _ => rfl)) (pa_cons3 c_int (pa_cons3 c_int pa_nil3 rfl) rfl) rfl) (by decide) rfl rfl) (fun _ => rfl))) (L2.pw_or1 (pt_not3 (pt_tru B.hK (c_call (Dok.of rfl (D__law_is_number T)) B (by decide) List.mem_cons_self T.m__law_is_number rfl (pa_cons3 (pe_ix3 B.hu1 B.hK (v3 0) c_int (fun _ _ => rfl)) (pa_cons3 c_int (pa_cons3 c_int pa_nil3 rfl) rfl) rfl) (by decide) rfl rfl) (fun _ => rfl)))))) (pss_cons3 (ps_ret3 c_bl) pss_nil3) pss_nil3) (pss_cons3 (ps_ret3 (pe_or3 B.hK (pe_cmp3 (opC_ok B.hu B.hK) (pe_ix3 B.hu1 B.hK (v3 0) c_int (fun _ _ => rfl)) c_non (nomark _)) (L2.pe_one (c_call (Dok.of rfl (D__law_is_number T)) B (by decide) List.mem_cons_self T.m__law_is_number rfl (pa_cons3 (pe_ix3 B.hu1 B.hK (v3 0) c_int (fun _ _ => rfl)) (pa_cons3 c_int (pa_cons3 c_int pa_nil3 rfl) rfl) rfl) (by decide) rfl rfl)))) pss_nil3))))
theorem D__law_is_door {P : Program} {w : World} {K : PySem.W.Frag} {mg : Str → Option Value} {base : Heap} (T : Tx P w K mg base) : Dok P w K mg base (cn K) 2 (He.fAd K ("_law_is_door", none)) ["row", "rooms"] 2 f__law_is_door [[]] := by
  obtain ⟨fd, F⟩ := T.F__law_is_door
  refine ⟨fd, fn3 F rfl sc__law_is_door rfl (fun cdv A outer s H E _ B => b__law_is_door T B), F.kp, ?_⟩
  · exact ar_nil (F.bindsN (fun _ _ _ _ _ _ us hl => match us, hl with | [_, _], _ => rfl))
/-! ### _law_wrong_doors -/
abbrev s__law_wrong_doors : Stmt := top 62
abbrev N__law_wrong_doors : List Str := ["value", "rooms", "k"]
theorem sc__law_wrong_doors : FnScope N__law_wrong_doors ["value", "rooms"] (defScope s__law_wrong_doors) := ⟨rfl, rfl, rfl, by decide +kernel, rfl, by decide +kernel, by decide +kernel⟩
def t__law_wrong_doors : TS3 := sseq (sif (tor (tnot (ttru (tisi (isB "tuple" 1) (tvar 0)))) (tnot (tbl (tchain .LtE .LtE (tcon (.int 1)) (tcl (bfV false .len) (tacons (tvar 0) (tanil))) (tcon (.int 12)))))) (sseq (sret (tlst false (tacons (tcon .non) (tanil)))) (snil)) (snil)) (sseq (sret (tsl false (tlc false (irng1 (tcl (bfV false .len) (tacons (tvar 0) (tanil)))) (.nm 2) (tnot (ttru (tcf 2 f__law_is_door [] (tacons (t2 ixV (tvar 0) (tvar 2)) (tacons (tvar 1) (tanil)))))) (tvar 2) [2]) (tono) (toso (tcon (.int 1))))) (snil))
def f__law_wrong_doors : F3 := fun ds => run3 t__law_wrong_doors (start3 N__law_wrong_doors ds)
theorem b__law_wrong_doors {P : Program} {w : World} {K : PySem.W.Frag} {mg : Str → Option Value} {base : Heap} (T : Tx P w K mg base) {cdv : Value} {A : Around} {outer : List Env} {s : Shared} {H : Hp} {E : XK} (B : Bd (cn K) (cx3 P w K mg base N__law_wrong_doors "_law_wrong_doors" s__law_wrong_doors (He.fAd K ("_law_wrong_doors", none)) cdv A outer s H E) (fun c d _ H' => E c d H') 2) :
    PSs (cx3 P w K mg base N__law_wrong_doors "_law_wrong_doors" s__law_wrong_doors (He.fAd K ("_law_wrong_doors", none)) cdv A outer s H E) (defBody s__law_wrong_doors) (upS (cn K) (fun c d _ H' => E c d H') t__law_wrong_doors) := (pss_cons3 (ps_if3 (L2.PW.pt (pw_or3 (pt_not3 (pt_tru B.hK (pe_isi3 B T.ist_tuple rfl T.n_isinstance (v3 0) (pe_bltn (x := "tuple") (v := .ty "tuple") rfl T.n_tuple rfl rfl) (.ty _) rfl rfl rfl) (fun _ => rfl))) (L2.pw_or1 (pt_not3 (pt_chain3 B c_int (pe_bf3 (b := .len) (w := false) B rfl rfl T.n_len (pa_cons3 (v3 0) pa_nil3 rfl) rfl rfl) c_int (by with_unfolding_all rfl)))))) (pss_cons3 (ps_ret3 (pe_lst3 (w := false) (pa_cons3 c_non pa_nil3 rfl))) pss_nil3) pss_nil3) (pss_cons3 (ps_ret3 (pe_sl3 B.hK (pe_lc3 (w := false) (own := [("k", 2)]) (g := (.nm 2)) (tt := tnot (ttru (tcf 2 f__law_is_door [] (tacons (t2 ixV (tvar 0) (tvar 2)) (tacons (tvar 1) (tanil)))))) (te := tvar 2) B.hc B.hN (by decide) (pi_rng1 rfl T.n_range (pe_bf3 (b := .len) (w := false) B rfl rfl T.n_len (pa_cons3 (v3 0) pa_nil3 rfl) rfl rfl) rfl) (blkOk_by rfl) (fun s0 H0 cc0 cl0 fp0 => (pg_name (B.blk s0 H0 _ _ fp0).hN rfl (.inl rfl) (.inr rfl))) (fun s0 H0 cc0 cl0 fp0 => (pts_one (pt_not3 (pt_tru (B.blk s0 H0 _ _ fp0).hK (c_call (Dok.of rfl (D__law_is_door T)) (B.blk s0 H0 _ _ fp0) (by decide) List.mem_cons_self T.m__law_is_door rfl (pa_cons3 (pe_ix3 (B.blk s0 H0 _ _ fp0).hu1 (B.blk s0 H0 _ _ fp0).hK (v3 0) (v3 2) (fun _ _ => rfl)) (pa_cons3 (v3 1) pa_nil3 rfl) rfl) (by decide) rfl rfl) (fun _ => rfl))))) (fun s0 H0 cc0 cl0 fp0 => (v3 2)) (fun _ => rfl)) po_none3 (po_some3 c_int))) pss_nil3))
theorem D__law_wrong_doors {P : Program} {w : World} {K : PySem.W.Frag} {mg : Str → Option Value} {base : Heap} (T : Tx P w K mg base) : Dok P w K mg base (cn K) 3 (He.fAd K ("_law_wrong_doors", none)) ["value", "rooms"] 2 f__law_wrong_doors [[]] := by
  obtain ⟨fd, F⟩ := T.F__law_wrong_doors
  refine ⟨fd, fn3 F rfl sc__law_wrong_doors rfl (fun cdv A outer s H E _ B => b__law_wrong_doors T B), F.kp, ?_⟩
  · exact ar_nil (F.bindsN (fun _ _ _ _ _ _ us hl => match us, hl with | [_, _], _ => rfl))
/-! ### _law_wrong_numbers -/
abbrev s__law_wrong_numbers : Stmt := top 64
abbrev N__law_wrong_numbers : List Str := ["value", "rooms", "most", "k"]
theorem sc__law_wrong_numbers : FnScope N__law_wrong_numbers ["value", "rooms", "most"] (defScope s__law_wrong_numbers) := ⟨rfl, rfl, rfl, by decide +kernel, rfl, by decide +kernel, by decide +kernel⟩
def t__law_wrong_numbers : TS3 := sseq (sif (tor (tnot (ttru (tisi (isB "tuple" 1) (tvar 0)))) (tbl (t2 (cmpV .NotEq) (tcl (bfV false .len) (tacons (tvar 0) (tanil))) (tcl (bfV false .len) (tacons (tvar 1) (tanil)))))) (sseq (sret (tlst false (tacons (tcon .non) (tanil)))) (snil)) (snil)) (sseq (sret (tsl false (tlc false (irng1 (tcl (bfV false .len) (tacons (tvar 0) (tanil)))) (.nm 3) (tnot (ttru (tcf 3 f__law_is_number [] (tacons (t2 ixV (tvar 0) (tvar 3)) (tacons (tcon (.int 0)) (tacons (tvar 2) (tanil))))))) (tvar 3) [3]) (tono) (toso (tcon (.int 1))))) (snil))
def f__law_wrong_numbers : F3 := fun ds => run3 t__law_wrong_numbers (start3 N__law_wrong_numbers ds)
theorem b__law_wrong_numbers {P : Program} {w : World} {K : PySem.W.Frag} {mg : Str → Option Value} {base : Heap} (T : Tx P w K mg base) {cdv : Value} {A : Around} {outer : List Env} {s : Shared} {H : Hp} {E : XK} (B : Bd (cn K) (cx3 P w K mg base N__law_wrong_numbers "_law_wrong_numbers" s__law_wrong_numbers (He.fAd K ("_law_wrong_numbers", none)) cdv A outer s H E) (fun c d _ H' => E c d H') 1) :
    PSs (cx3 P w K mg base N__law_wrong_numbers "_law_wrong_numbers" s__law_wrong_numbers (He.fAd K ("_law_wrong_numbers", none)) cdv A outer s H E) (defBody s__law_wrong_numbers) (upS (cn K) (fun c d _ H' => E c d H') t__law_wrong_numbers) := (pss_cons3 (ps_if3 (L2.PW.pt (pw_or3 (pt_not3 (pt_tru B.hK (pe_isi3 B T.ist_tuple rfl T.n_isinstance (v3 0) (pe_bltn (x := "tuple") (v := .ty "tuple") rfl T.n_tuple rfl rfl) (.ty _) rfl rfl rfl) (fun _ => rfl))) (L2.pw_or1 (pt_cmp3 (opC_ok B.hu B.hK) (pe_bf3 (b := .len) (w := false) B rfl rfl T.n_len (pa_cons3 (v3 0) pa_nil3 rfl) rfl rfl) (pe_bf3 (b := .len) (w := false) B rfl rfl T.n_len (pa_cons3 (v3 1) pa_nil3 rfl) rfl rfl) (nomark _))))) (pss_cons3 (ps_ret3 (pe_lst3 (w := false) (pa_cons3 c_non pa_nil3 rfl))) pss_nil3) pss_nil3) (pss_cons3 (ps_ret3 (pe_sl3 B.hK (pe_lc3 (w := false) (own := [("k", 3)]) (g := (.nm 3)) (tt := tnot (ttru (tcf 3 f__law_is_number [] (tacons (t2 ixV (tvar 0) (tvar 3)) (tacons (tcon (.int 0)) (tacons (tvar 2) (tanil))))))) (te := tvar 3) B.hc B.hN (by decide) (pi_rng1 rfl T.n_range (pe_bf3 (b := .len) (w := false) B rfl rfl T.n_len (pa_cons3 (v3 0) pa_nil3 rfl) rfl rfl) rfl) (blkOk_by rfl) (fun s0 H0 cc0 cl0 fp0 => (pg_name (B.blk s0 H0 _ _ fp0).hN rfl (.inl rfl) (.inr rfl))) (fun s0 H0 cc0 cl0 fp0 => (pts_one (pt_not3 (pt_tru (B.blk s0 H0 _ _ fp0).hK (c_call (Dok.of rfl (D__law_is_number T)) (B.blk s0 H0 _ _ fp0) (by decide) List.mem_cons_self T.m__law_is_number rfl (pa_cons3 (pe_ix3 (B.blk s0 H0 _ _ fp0).hu1 (B.blk s0 H0 _ _ fp0).hK (v3 0) (v3 3) (fun _ _ => rfl)) (pa_cons3 c_int (pa_cons3 (v3 2) pa_nil3 rfl) rfl) rfl) (by decide) rfl rfl) (fun _ => rfl))))) (fun s0 H0 cc0 cl0 fp0 => (v3 3)) (fun _ => rfl)) po_none3 (po_some3 c_int))) pss_nil3))
theorem D__law_wrong_numbers {P : Program} {w : World} {K : PySem.W.Frag} {mg : Str → Option Value} {base : Heap} (T : Tx P w K mg base) : Dok P w K mg base (cn K) 2 (He.fAd K ("_law_wrong_numbers", none)) ["value", "rooms", "most"] 3 f__law_wrong_numbers [[]] := by
  obtain ⟨fd, F⟩ := T.F__law_wrong_numbers
  refine ⟨fd, fn3 F rfl sc__law_wrong_numbers rfl (fun cdv A outer s H E _ B => b__law_wrong_numbers T B), F.kp, ?_⟩
  · exact ar_nil (F.bindsN (fun _ _ _ _ _ _ us hl => match us, hl with | [_, _, _], _ => rfl))
/-! ### _law_due -/
abbrev s__law_due : Stmt := top 65
abbrev N__law_due : List Str := ["rooms", "doors", "exits", "people", "bells", "some", "word", "wrong"]
theorem sc__law_due : FnScope N__law_due ["rooms", "doors", "exits", "people", "bells"] (defScope s__law_due) := ⟨rfl, rfl, rfl, by decide +kernel, rfl, by decide +kernel, by decide +kernel⟩
def t__law_due_4 : TS3 := sseq (sret (tlst false (tacons (tcon (.str "made")) (tanil)))) snil
def t__law_due_3 : TS3 := sseq (sfor (iseq (t2 (binV false .Add) (tvar 5) (tlst false (tacons (tlst false (tacons (tcon (.str "bells")) (tacons (tife (tbl (t2 (cmpV .Is) (tvar 4) (tcon .non))) (tlst false (tanil)) (tcf 3 f__law_wrong_numbers [] (tacons (tvar 4) (tacons (tvar 0) (tacons (tcon (.int 9)) (tanil)))))) (tanil)))) (tanil))))) (.tl (.cons (.nm 6) (.cons (.nm 7) .nil))) (sseq (sif (tbl (t2 (cmpV .NotEq) (tvar 7) (tlst false (tanil)))) (sseq (sret (tlst false (tacons (tvar 6) (tacons (tcl (bfV false .repr) (tacons (t2 ixV (tvar 7) (tcon (.int 0))) (tanil))) (tanil))))) (snil)) (snil)) (snil))) t__law_due_4
def t__law_due_2 : TS3 := sseq (sexp (tbm .append (tvar 5) (tacons (tlst false (tacons (tcon (.str "people")) (tacons (tcf 3 f__law_wrong_numbers [] (tacons (tvar 3) (tacons (tvar 0) (tacons (tcon (.int 30)) (tanil))))) (tanil)))) (tanil)))) t__law_due_3
def t__law_due_1 : TS3 := sseq (sasg (tlst true (tacons (tlst false (tacons (tcon (.str "doors")) (tacons (tcf 2 f__law_wrong_doors [] (tacons (tvar 1) (tacons (tvar 0) (tanil)))) (tanil)))) (tacons (tlst false (tacons (tcon (.str "exits")) (tacons (tcf 2 f__law_wrong_exits [] (tacons (tvar 2) (tacons (tvar 0) (tanil)))) (tanil)))) (tanil)))) (gnm 5)) t__law_due_2
def t__law_due : TS3 := sseq (sif (tbl (t2 (cmpV .NotEq) (tcf 1 f__law_wrong_rooms [] (tacons (tvar 0) (tanil))) (tlst false (tanil)))) (sseq (sret (tlst false (tacons (tcon (.str "rooms")) (tacons (tcl (bfV false .repr) (tacons (t2 ixV (tcf 1 f__law_wrong_rooms [] (tacons (tvar 0) (tanil))) (tcon (.int 0))) (tanil))) (tanil))))) (snil)) (snil)) t__law_due_1
def f__law_due : F3 := fun ds => run3 t__law_due (start3 N__law_due ds)
theorem b__law_due {P : Program} {w : World} {K : PySem.W.Frag} {mg : Str → Option Value} {base : Heap} (T : Tx P w K mg base) {cdv : Value} {A : Around} {outer : List Env} {s : Shared} {H : Hp} {E : XK} (B : Bd (cn K) (cx3 P w K mg base N__law_due "_law_due" s__law_due (He.fAd K ("_law_due", none)) cdv A outer s H E) (fun c d _ H' => E c d H') 3) :
    PSs (cx3 P w K mg base N__law_due "_law_due" s__law_due (He.fAd K ("_law_due", none)) cdv A outer s H E) (defBody s__law_due) (upS (cn K) (fun c d _ H' => E c d H') t__law_due) := (pss_cons3 (ps_if3 (pt_cmp3 (opC_ok B.hu B.hK) (c_call (Dok.of rfl (D__law_wrong_rooms T)) B (by decide) List.mem_cons_self T.m__law_wrong_rooms rfl (pa_cons3 (v3 0) pa_nil3 rfl) (by decide) rfl rfl) (pe_lst3 (w := false) pa_nil3) (nomark _)) (pss_cons3 (ps_ret3 (pe_lst3 (w := false) (pa_cons3 c_str (pa_cons3 (pe_bf3 (b := .repr) (w := false) B rfl rfl T.n_repr (pa_cons3 (pe_ix3 B.hu1 B.hK (c_call (Dok.of rfl (D__law_wrong_rooms T)) B (by decide) List.mem_cons_self T.m__law_wrong_rooms rfl (pa_cons3 (v3 0) pa_nil3 rfl) (by decide) rfl rfl) c_int (fun _ _ => rfl)) pa_nil3 rfl) rfl rfl) pa_nil3 rfl) rfl))) pss_nil3) pss_nil3) (pss_cons3 (ps_set3 (i := 5) B.hN rfl (.inl rfl) (pe_lst3 (w := true) (pa_cons3 (pe_lst3 (w := false) (pa_cons3 c_str (pa_cons3 (c_call (Dok.of rfl (D__law_wrong_doors T)) B (by decide) List.mem_cons_self T.m__law_wrong_doors rfl (pa_cons3 (v3 1) (pa_cons3 (v3 0) pa_nil3 rfl) rfl) (by decide) rfl rfl) pa_nil3 rfl) rfl)) (pa_cons3 (pe_lst3 (w := false) (pa_cons3 c_str (pa_cons3 (c_call (Dok.of rfl (D__law_wrong_exits T)) B (by decide) List.mem_cons_self T.m__law_wrong_exits rfl (pa_cons3 (v3 2) (pa_cons3 (v3 0) pa_nil3 rfl) rfl) (by decide) rfl rfl) pa_nil3 rfl) rfl)) pa_nil3 rfl) rfl)) rfl (.inr rfl)) (pss_cons3 (ps_exp3 (pe_app3 B.hK (v3 5) (pa_cons3 (pe_lst3 (w := false) (pa_cons3 c_str (pa_cons3 (c_call (Dok.of rfl (D__law_wrong_numbers T)) B (by decide) List.mem_cons_self T.m__law_wrong_numbers rfl (pa_cons3 (v3 3) (pa_cons3 (v3 0) (pa_cons3 c_int pa_nil3 rfl) rfl) rfl) (by decide) rfl rfl) pa_nil3 rfl) rfl)) pa_nil3 rfl) rfl rfl rfl rfl rfl) rfl) (pss_cons3 (ps_for3 (g := (.tl (.cons (.nm 6) (.cons (.nm 7) .nil)))) B.hp B.hc (pi_seq3 B.hK (pe_bin3 (opB_ok B.hK) (v3 5) (pe_lst3 (w := false) (pa_cons3 (pe_lst3 (w := false) (pa_cons3 c_str (pa_cons3 (pe_ife3 (pt_cmp3 (opC_ok B.hu B.hK) (v3 4) c_non (nomark _)) (pe_lst3 (w := false) pa_nil3) (c_call (Dok.of rfl (D__law_wrong_numbers T)) B (by decide) List.mem_cons_self T.m__law_wrong_numbers rfl (pa_cons3 (v3 4) (pa_cons3 (v3 0) (pa_cons3 c_int pa_nil3 rfl) rfl) rfl) (by decide) rfl rfl)) pa_nil3 rfl) rfl)) pa_nil3 rfl)))) (pg_lst B.hc (pgs_cons (pg_name B.hN rfl (.inl rfl) (.inr rfl)) (pgs_cons (pg_name B.hN rfl (.inl rfl) (.inr rfl)) pgs_nil rfl) rfl) rfl rfl) (pss_cons3 (ps_if3 (pt_cmp3 (opC_ok B.hu B.hK) (v3 7) (pe_lst3 (w := false) pa_nil3) (nomark _)) (pss_cons3 (ps_ret3 (pe_lst3 (w := false) (pa_cons3 (v3 6) (pa_cons3 (pe_bf3 (b := .repr) (w := false) B rfl rfl T.n_repr (pa_cons3 (pe_ix3 B.hu1 B.hK (v3 7) c_int (fun _ _ => rfl)) pa_nil3 rfl) rfl rfl) pa_nil3 rfl) rfl))) pss_nil3) pss_nil3) pss_nil3) (fun _ => rfl)) (pss_cons3 (ps_ret3 (pe_lst3 (w := false) (pa_cons3 c_str pa_nil3 rfl))) pss_nil3)))))
theorem D__law_due {P : Program} {w : World} {K : PySem.W.Frag} {mg : Str → Option Value} {base : Heap} (T : Tx P w K mg base) : Dok P w K mg base (cn K) 4 (He.fAd K ("_law_due", none)) ["rooms", "doors", "exits", "people", "bells"] 5 f__law_due [[]] := by
  obtain ⟨fd, F⟩ := T.F__law_due
  refine ⟨fd, fn3 F rfl sc__law_due rfl (fun cdv A outer s H E _ B => b__law_due T B), F.kp, ?_⟩
  · exact ar_nil (F.bindsN (fun _ _ _ _ _ _ us hl => match us, hl with | [_, _, _, _, _], _ => rfl))
/-! ### is_row -/
abbrev s_is_row : Stmt := top 16
abbrev N_is_row : List Str := ["value", "least", "most"]
theorem sc_is_row : FnScope N_is_row ["value", "least", "most"] (defScope s_is_row) := ⟨rfl, rfl, rfl, by decide +kernel, rfl, by decide +kernel, by decide +kernel⟩
def t_is_row : TS3 := sseq (sret (tandV (tisi (isB "tuple" 1) (tvar 0)) (tchain .LtE .LtE (tvar 1) (tcl (bfV false .len) (tacons (tvar 0) (tanil))) (tvar 2)))) (snil)
def f_is_row : F3 := fun ds => run3 t_is_row (start3 N_is_row ds)
theorem b_is_row {P : Program} {w : World} {K : PySem.W.Frag} {mg : Str → Option Value} {base : Heap} (T : Tx P w K mg base) {cdv : Value} {A : Around} {outer : List Env} {s : Shared} {H : Hp} {E : XK} (B : Bd (cn K) (cx3 P w K mg base N_is_row "is_row" s_is_row (He.fAd K ("is_row", none)) cdv A outer s H E) (fun c d _ H' => E c d H') 0) :
    PSs (cx3 P w K mg base N_is_row "is_row" s_is_row (He.fAd K ("is_row", none)) cdv A outer s H E) (defBody s_is_row) (upS (cn K) (fun c d _ H' => E c d H') t_is_row) := (pss_cons3 (ps_ret3 (pe_and3 B.hK (pe_isi3 B T.ist_tuple rfl T.n_isinstance (v3 0) (pe_bltn (x := "tuple") (v := .ty "tuple") rfl T.n_tuple rfl rfl) (.ty _) rfl rfl rfl) (L2.pe_one (pe_chain3 B (v3 1) (pe_bf3 (b := .len) (w := false) B rfl rfl T.n_len (pa_cons3 (v3 0) pa_nil3 rfl) rfl rfl) (v3 2) (by with_unfolding_all rfl))))) pss_nil3)
theorem D_is_row {P : Program} {w : World} {K : PySem.W.Frag} {mg : Str → Option Value} {base : Heap} (T : Tx P w K mg base) : Dok P w K mg base (cn K) 1 (He.fAd K ("is_row", none)) ["value", "least", "most"] 3 f_is_row [[]] := by
  obtain ⟨fd, F⟩ := T.F_is_row
  refine ⟨fd, fn3 F rfl sc_is_row rfl (fun cdv A outer s H E _ B => b_is_row T B), F.kp, ?_⟩
  · exact ar_nil (F.bindsN (fun _ _ _ _ _ _ us hl => match us, hl with | [_, _, _], _ => rfl))
/-! ### is_string -/
abbrev s_is_string : Stmt := top 12
abbrev N_is_string : List Str := ["value"]
theorem sc_is_string : FnScope N_is_string ["value"] (defScope s_is_string) := ⟨rfl, rfl, rfl, by decide +kernel, rfl, by decide +kernel, by decide +kernel⟩
def t_is_string : TS3 := sseq (sret (tisi (isB "str" 1) (tvar 0))) (snil)
def f_is_string : F3 := fun ds => run3 t_is_string (start3 N_is_string ds)
theorem b_is_string {P : Program} {w : World} {K : PySem.W.Frag} {mg : Str → Option Value} {base : Heap} (T : Tx P w K mg base) {cdv : Value} {A : Around} {outer : List Env} {s : Shared} {H : Hp} {E : XK} (B : Bd (cn K) (cx3 P w K mg base N_is_string "is_string" s_is_string (He.fAd K ("is_string", none)) cdv A outer s H E) (fun c d _ H' => E c d H') 0) :
    PSs (cx3 P w K mg base N_is_string "is_string" s_is_string (He.fAd K ("is_string", none)) cdv A outer s H E) (defBody s_is_string) (upS (cn K) (fun c d _ H' => E c d H') t_is_string) := (pss_cons3 (ps_ret3 (pe_isi3 B T.ist_str rfl T.n_isinstance (v3 0) (pe_bltn (x := "str") (v := .ty "str") rfl T.n_str rfl rfl) (.ty _) rfl rfl rfl)) pss_nil3)
theorem D_is_string {P : Program} {w : World} {K : PySem.W.Frag} {mg : Str → Option Value} {base : Heap} (T : Tx P w K mg base) : Dok P w K mg base (cn K) 1 (He.fAd K ("is_string", none)) ["value"] 1 f_is_string [[]] := by
  obtain ⟨fd, F⟩ := T.F_is_string
  refine ⟨fd, fn3 F rfl sc_is_string rfl (fun cdv A outer s H E _ B => b_is_string T B), F.kp, ?_⟩
  · exact ar_nil (F.bindsN (fun _ _ _ _ _ _ us hl => match us, hl with | [_], _ => rfl))
/-! ### is_made_of -/
abbrev s_is_made_of : Stmt := top 13
abbrev N_is_made_of : List Str := ["text", "signs", "sign"]
theorem sc_is_made_of : FnScope N_is_made_of ["text", "signs"] (defScope s_is_made_of) := ⟨rfl, rfl, rfl, by decide +kernel, rfl, by decide +kernel, by decide +kernel⟩
def t_is_made_of : TS3 := sseq (sret (tandV (t2 (cmpV .NotEq) (tvar 0) (tcon (.str ""))) (tcl (bfV false .all) (tacons (tlc false (iseq (tvar 0)) (.nm 2) (tyes) (t2 (cmpV .In) (tvar 2) (tvar 1)) [2]) (tanil))))) (snil)
def f_is_made_of : F3 := fun ds => run3 t_is_made_of (start3 N_is_made_of ds)
theorem b_is_made_of {P : Program} {w : World} {K : PySem.W.Frag} {mg : Str → Option Value} {base : Heap} (T : Tx P w K mg base) {cdv : Value} {A : Around} {outer : List Env} {s : Shared} {H : Hp} {E : XK} (B : Bd (cn K) (cx3 P w K mg base N_is_made_of "is_made_of" s_is_made_of (He.fAd K ("is_made_of", none)) cdv A outer s H E) (fun c d _ H' => E c d H') 0) :
    PSs (cx3 P w K mg base N_is_made_of "is_made_of" s_is_made_of (He.fAd K ("is_made_of", none)) cdv A outer s H E) (defBody s_is_made_of) (upS (cn K) (fun c d _ H' => E c d H') t_is_made_of) := (pss_cons3 (ps_ret3 (pe_and3 B.hK (pe_cmp3 (opC_ok B.hu B.hK) (v3 0) c_str (nomark _)) (L2.pe_one (pe_bf3 (b := .all) (w := false) B rfl rfl T.n_all (pa_cons3 (pe_lc3 (w := false) (own := [("sign", 2)]) (g := (.nm 2)) (tt := tyes) (te := t2 (cmpV .In) (tvar 2) (tvar 1)) B.hc B.hN (by decide) (pi_seq3 B.hK (v3 0)) (blkOk_by rfl) (fun s0 H0 cc0 cl0 fp0 => (pg_name (B.blk s0 H0 _ _ fp0).hN rfl (.inl rfl) (.inr rfl))) (fun s0 H0 cc0 cl0 fp0 => pts_nil3) (fun s0 H0 cc0 cl0 fp0 => (pe_cmp3 (opC_ok (B.blk s0 H0 _ _ fp0).hu (B.blk s0 H0 _ _ fp0).hK) (v3 2) (v3 1) rfl)) (fun _ => rfl)) pa_nil3 rfl) rfl rfl)))) pss_nil3)
theorem D_is_made_of {P : Program} {w : World} {K : PySem.W.Frag} {mg : Str → Option Value} {base : Heap} (T : Tx P w K mg base) : Dok P w K mg base (cn K) 1 (He.fAd K ("is_made_of", none)) ["text", "signs"] 2 f_is_made_of [[]] := by
  obtain ⟨fd, F⟩ := T.F_is_made_of
  refine ⟨fd, fn3 F rfl sc_is_made_of rfl (fun cdv A outer s H E _ B => b_is_made_of T B), F.kp, ?_⟩
  · exact ar_nil (F.bindsN (fun _ _ _ _ _ _ us hl => match us, hl with | [_, _], _ => rfl))
/-! ### is_name -/
abbrev s_is_name : Stmt := top 14
abbrev N_is_name : List Str := ["value"]
theorem sc_is_name : FnScope N_is_name ["value"] (defScope s_is_name) := ⟨rfl, rfl, rfl, by decide +kernel, rfl, by decide +kernel, by decide +kernel⟩
def t_is_name : TS3 := sseq (sret (tandV (tcf 1 f_is_string [] (tacons (tvar 0) (tanil))) (tandV (t2 (cmpV .LtE) (tcl (bfV false .len) (tacons (tvar 0) (tanil))) (tcon (.int 8))) (tcf 2 f_is_made_of [] (tacons (tvar 0) (tacons (tcon (.str "abcdefghijklmnopqrstuvwxyz")) (tanil))))))) (snil)
def f_is_name : F3 := fun ds => run3 t_is_name (start3 N_is_name ds)
theorem b_is_name {P : Program} {w : World} {K : PySem.W.Frag} {mg : Str → Option Value} {base : Heap} (T : Tx P w K mg base) {cdv : Value} {A : Around} {outer : List Env} {s : Shared} {H : Hp} {E : XK} (B : Bd (cn K) (cx3 P w K mg base N_is_name "is_name" s_is_name (He.fAd K ("is_name", none)) cdv A outer s H E) (fun c d _ H' => E c d H') 1) :
    PSs (cx3 P w K mg base N_is_name "is_name" s_is_name (He.fAd K ("is_name", none)) cdv A outer s H E) (defBody s_is_name) (upS (cn K) (fun c d _ H' => E c d H') t_is_name) := (pss_cons3 (ps_ret3 (pe_and3 B.hK (c_call (Dok.of rfl (D_is_string T)) B (by decide) List.mem_cons_self T.m_is_string rfl (pa_cons3 (v3 0) pa_nil3 rfl) (by decide) rfl rfl) (pe_and3 B.hK (pe_cmp3 (opC_ok B.hu B.hK) (pe_bf3 (b := .len) (w := false) B rfl rfl T.n_len (pa_cons3 (v3 0) pa_nil3 rfl) rfl rfl) (g_int T.i_LONGEST_NAME rfl (by decide)) (nomark _)) (L2.pe_one (c_call (Dok.of rfl (D_is_made_of T)) B (by decide) List.mem_cons_self T.m_is_made_of rfl (pa_cons3 (v3 0) (pa_cons3 (g_str T.z_SMALL_LETTERS rfl (by decide)) pa_nil3 rfl) rfl) (by decide) rfl rfl))))) pss_nil3)
theorem D_is_name {P : Program} {w : World} {K : PySem.W.Frag} {mg : Str → Option Value} {base : Heap} (T : Tx P w K mg base) : Dok P w K mg base (cn K) 2 (He.fAd K ("is_name", none)) ["value"] 1 f_is_name [[]] := by
  obtain ⟨fd, F⟩ := T.F_is_name
  refine ⟨fd, fn3 F rfl sc_is_name rfl (fun cdv A outer s H E _ B => b_is_name T B), F.kp, ?_⟩
  · exact ar_nil (F.bindsN (fun _ _ _ _ _ _ us hl => match us, hl with | [_], _ => rfl))
/-! ### first_wrong -/
abbrev s_first_wrong : Stmt := top 17
abbrev N_first_wrong : List Str := ["value", "is_right", "index", "each"]
theorem sc_first_wrong : FnScope N_first_wrong ["value", "is_right"] (defScope s_first_wrong) := ⟨rfl, rfl, rfl, by decide +kernel, rfl, by decide +kernel, by decide +kernel⟩
def tg_first_wrong (act : TA3 → T3) : TS3 := sseq (sfor (ien (tvar 0)) (.tp (.cons (.nm 2) (.cons (.nm 3) .nil))) (sseq (sif (tnot (ttru (act (tacons (tvar 3) (tacons (tsl false (tvar 0) (tono) (toso (tvar 2))) (tanil)))))) (sseq (sret (tvar 2)) (snil)) (snil)) (snil))) (sseq (sret (tcon .non)) (snil))
theorem G_first_wrong {P : Program} {w : World} {K : PySem.W.Frag} {mg : Str → Option Value} {base : Heap} (T : Tx P w K mg base) {P1 : Hp} {X : Cx} (hX : X.prog = P ∧ X.w = w ∧ X.K = K ∧ X.mg = mg ∧ X.base = base) {g : Addr} {cdg : Value} {k : Nat} : Gives ⟨cb K, P1⟩ X N_first_wrong "first_wrong" (defScope s_first_wrong) g cdg (defBody s_first_wrong) 1 k 2 tg_first_wrong := by
  obtain ⟨rfl, rfl, rfl, rfl, rfl⟩ := hX
  intro C2 s H E act hC B hact
  obtain ⟨b, P2⟩ := C2
  cases hC
  exact (pss_cons3 (ps_for3 (g := (.tp (.cons (.nm 2) (.cons (.nm 3) .nil)))) B.hp B.hc (pi_en3 B.hK rfl T.n_enumerate (v3 0) rfl) (pg_tup B.hc (pgs_cons (pg_name B.hN rfl (.inl rfl) (.inr rfl)) (pgs_cons (pg_name B.hN rfl (.inl rfl) (.inr rfl)) pgs_nil rfl) rfl) rfl rfl) (pss_cons3 (ps_if3 (pt_not3 (pt_tru B.hK (hact _ _ _ _ _ _ rfl rfl (pa_cons3 (v3 3) (pa_cons3 (pe_sl3 B.hK (v3 0) po_none3 (po_some3 (v3 2))) pa_nil3 rfl) rfl) rfl rfl) (fun _ => rfl))) (pss_cons3 (ps_ret3 (v3 2)) pss_nil3) pss_nil3) pss_nil3) (fun _ => rfl)) (pss_cons3 (ps_ret3 c_non) pss_nil3))
/-! ### wrong_room -/
abbrev s_wrong_room : Stmt := top 36
abbrev N_wrong_room : List Str := ["value", "name", "ahead"]
theorem sc_wrong_room : FnScope N_wrong_room ["value"] (defScope s_wrong_room) := ⟨rfl, rfl, rfl, by decide +kernel, rfl, by decide +kernel, by decide +kernel⟩
def t_wrong_room : TS3 := sseq (sret (tlam2 N_first_wrong [1, 2] tg_first_wrong (tvar 0) (tandV (tcf 1 f_is_name [] (tacons (tvar 1) (tanil))) (torV (t2 (cmpV .Eq) (tvar 2) (ttup 0 (tanil))) (t2 (cmpV .Lt) (t2 ixV (tvar 2) (t1 negV (tcon (.int 1)))) (tvar 1)))))) (snil)
def f_wrong_room : F3 := fun ds => run3 t_wrong_room (start3 N_wrong_room ds)
theorem b_wrong_room {P : Program} {w : World} {K : PySem.W.Frag} {mg : Str → Option Value} {base : Heap} (T : Tx P w K mg base) {cdv : Value} {A : Around} {outer : List Env} {s : Shared} {H : Hp} {E : XK} (hcd : cdv = .ref (He.cT K ("wrong_room", none)).1) (B : Bd (cn K) (cx3 P w K mg base N_wrong_room "wrong_room" s_wrong_room (He.fAd K ("wrong_room", none)) cdv A outer s H E) (fun c d _ H' => E c d H') 4) :
    PSs (cx3 P w K mg base N_wrong_room "wrong_room" s_wrong_room (He.fAd K ("wrong_room", none)) cdv A outer s H E) (defBody s_wrong_room) (upS (cn K) (fun c d _ H' => E c d H') t_wrong_room) := by
  obtain ⟨fw, Fw⟩ := T.F_first_wrong
  exact (pss_cons3 (ps_ret3 (pe_lam3 (ps := ["name", "ahead"]) (is := [1, 2]) B rfl T.m_first_wrong Fw (Fw.bindsN (fun _ _ _ _ _ _ us hl => match us, hl with | [_, _], _ => rfl)) sc_first_wrong rfl (fun a ha => by cases ha; exact ⟨.inl rfl, by decide, by decide⟩) (fun cdg => G_first_wrong T ⟨rfl, rfl, rfl, rfl, rfl⟩) (T.tb_wrong_room) hcd (by exact tabs_mem_wrong_room) T.tu_wrong_room (lamP_by rfl) rfl (fun _ _ _ _ _ us hl => match us, hl with | [_, _], _ => rfl) (v3 0) (fun C2 A outer s H E f c' hC B2 => by obtain ⟨b, P1⟩ := C2; cases hC; exact (pe_and3 B2.hK (c_call (Dok.of rfl (D_is_name T)) B2 (by decide) List.mem_cons_self T.m_is_name rfl (pa_cons3 (v3 1) pa_nil3 rfl) (by decide) rfl rfl) (L2.pe_one (pe_or3 B2.hK (pe_cmp3 (opC_ok B2.hu B2.hK) (v3 2) (pe_tup3 pa_nil3) (nomark _)) (L2.pe_one (pe_cmp3 (opC_ok B2.hu B2.hK) (pe_ix3 B2.hu1 B2.hK (v3 2) (pe_un3 opN_ok c_int) (fun _ _ => rfl)) (v3 1) (nomark _))))))) (by decide) rfl rfl rfl)) pss_nil3)
theorem D_wrong_room {P : Program} {w : World} {K : PySem.W.Frag} {mg : Str → Option Value} {base : Heap} (T : Tx P w K mg base) : Dok P w K mg base (cn K) 5 (He.fAd K ("wrong_room", none)) ["value"] 1 f_wrong_room [[]] := by
  obtain ⟨fd, F⟩ := T.F_wrong_room
  refine ⟨fd, fn3c F rfl sc_wrong_room rfl (fun cdv A outer s H E h1 h2 B => ?_), F.kp, ?_⟩
  · obtain ⟨c, rfl⟩ := He.codeIn_ref h1
    exact b_wrong_room T (congrArg Value.ref (h2 c rfl _ rfl).symm) B
  · exact ar_nil (F.bindsN (fun _ _ _ _ _ _ us hl => match us, hl with | [_], _ => rfl))
/-! ### check_rooms -/
abbrev s_check_rooms : Stmt := top 41
abbrev N_check_rooms : List Str := ["rooms", "wrong"]
theorem sc_check_rooms : FnScope N_check_rooms ["rooms"] (defScope s_check_rooms) := ⟨rfl, rfl, rfl, by decide +kernel, rfl, by decide +kernel, by decide +kernel⟩
def t_check_rooms : TS3 := sseq (sasg (tife (ttru (tcf 3 f_is_row [] (tacons (tvar 0) (tacons (tcon (.int 2)) (tacons (tcon (.int 7)) (tanil)))))) (tcf 1 f_wrong_room [] (tacons (tvar 0) (tanil))) (tcon .non)) (gnm 1)) (sseq (sif (tor (tnot (ttru (tcf 3 f_is_row [] (tacons (tvar 0) (tacons (tcon (.int 2)) (tacons (tcon (.int 7)) (tanil))))))) (tbl (t2 (cmpV .IsNot) (tvar 1) (tcon .non)))) (sseq (sraise 2 5 (tacons (tvar 1) (tanil))) (snil)) (snil)) (snil))
def f_check_rooms : F3 := fun ds => run3 t_check_rooms (start3 N_check_rooms ds)
theorem b_check_rooms {P : Program} {w : World} {K : PySem.W.Frag} {mg : Str → Option Value} {base : Heap} (T : Tx P w K mg base) {cdv : Value} {A : Around} {outer : List Env} {s : Shared} {H : Hp} {E : XK} (B : Bd (cn K) (cx3 P w K mg base N_check_rooms "check_rooms" s_check_rooms (He.fAd K ("check_rooms", none)) cdv A outer s H E) (fun c d _ H' => E c d H') 5) :
    PSs (cx3 P w K mg base N_check_rooms "check_rooms" s_check_rooms (He.fAd K ("check_rooms", none)) cdv A outer s H E) (defBody s_check_rooms) (upS (cn K) (fun c d _ H' => E c d H') t_check_rooms) := (pss_cons3 (ps_set3 (i := 1) B.hN rfl (.inl rfl) (pe_ife3 (pt_tru B.hK (c_call (Dok.of rfl (D_is_row T)) B (by decide) List.mem_cons_self T.m_is_row rfl (pa_cons3 (v3 0) (pa_cons3 (g_int T.i_FEWEST_ROOMS rfl (by decide)) (pa_cons3 (g_int T.i_MOST_ROOMS rfl (by decide)) pa_nil3 rfl) rfl) rfl) (by decide) rfl rfl) (fun _ => rfl)) (c_call (Dok.of rfl (D_wrong_room T)) B (by decide) List.mem_cons_self T.m_wrong_room rfl (pa_cons3 (v3 0) pa_nil3 rfl) (by decide) rfl rfl) c_non) rfl (.inr rfl)) (pss_cons3 (ps_if3 (L2.PW.pt (pw_or3 (pt_not3 (pt_tru B.hK (c_call (Dok.of rfl (D_is_row T)) B (by decide) List.mem_cons_self T.m_is_row rfl (pa_cons3 (v3 0) (pa_cons3 (g_int T.i_FEWEST_ROOMS rfl (by decide)) (pa_cons3 (g_int T.i_MOST_ROOMS rfl (by decide)) pa_nil3 rfl) rfl) rfl) (by decide) rfl rfl) (fun _ => rfl))) (L2.pw_or1 (pt_cmp3 (opC_ok B.hu B.hK) (v3 1) c_non (nomark _))))) (pss_cons3 (ps_raise3 (c := 2) (j := 5) B (by decide) (xc_InvalidRooms T) rfl (pa_cons3 (v3 1) pa_nil3 rfl) (by decide) rfl rfl) pss_nil3) pss_nil3) pss_nil3))
theorem D_check_rooms {P : Program} {w : World} {K : PySem.W.Frag} {mg : Str → Option Value} {base : Heap} (T : Tx P w K mg base) : Dok P w K mg base (cn K) 6 (He.fAd K ("check_rooms", none)) ["rooms"] 1 f_check_rooms [[]] := by
  obtain ⟨fd, F⟩ := T.F_check_rooms
  refine ⟨fd, fn3 F rfl sc_check_rooms rfl (fun cdv A outer s H E _ B => b_check_rooms T B), F.kp, ?_⟩
  · exact ar_nil (F.bindsN (fun _ _ _ _ _ _ us hl => match us, hl with | [_], _ => rfl))
/-! ### is_tuple_of -/
abbrev s_is_tuple_of : Stmt := top 15
abbrev N_is_tuple_of : List Str := ["value", "many"]
theorem sc_is_tuple_of : FnScope N_is_tuple_of ["value", "many"] (defScope s_is_tuple_of) := ⟨rfl, rfl, rfl, by decide +kernel, rfl, by decide +kernel, by decide +kernel⟩
def t_is_tuple_of : TS3 := sseq (sret (tandV (tisi (isB "tuple" 1) (tvar 0)) (t2 (cmpV .Eq) (tcl (bfV false .len) (tacons (tvar 0) (tanil))) (tvar 1)))) (snil)
def f_is_tuple_of : F3 := fun ds => run3 t_is_tuple_of (start3 N_is_tuple_of ds)
theorem b_is_tuple_of {P : Program} {w : World} {K : PySem.W.Frag} {mg : Str → Option Value} {base : Heap} (T : Tx P w K mg base) {cdv : Value} {A : Around} {outer : List Env} {s : Shared} {H : Hp} {E : XK} (B : Bd (cn K) (cx3 P w K mg base N_is_tuple_of "is_tuple_of" s_is_tuple_of (He.fAd K ("is_tuple_of", none)) cdv A outer s H E) (fun c d _ H' => E c d H') 0) :
    PSs (cx3 P w K mg base N_is_tuple_of "is_tuple_of" s_is_tuple_of (He.fAd K ("is_tuple_of", none)) cdv A outer s H E) (defBody s_is_tuple_of) (upS (cn K) (fun c d _ H' => E c d H') t_is_tuple_of) := (pss_cons3 (ps_ret3 (pe_and3 B.hK (pe_isi3 B T.ist_tuple rfl T.n_isinstance (v3 0) (pe_bltn (x := "tuple") (v := .ty "tuple") rfl T.n_tuple rfl rfl) (.ty _) rfl rfl rfl) (L2.pe_one (pe_cmp3 (opC_ok B.hu B.hK) (pe_bf3 (b := .len) (w := false) B rfl rfl T.n_len (pa_cons3 (v3 0) pa_nil3 rfl) rfl rfl) (v3 1) (nomark _))))) pss_nil3)
theorem D_is_tuple_of {P : Program} {w : World} {K : PySem.W.Frag} {mg : Str → Option Value} {base : Heap} (T : Tx P w K mg base) : Dok P w K mg base (cn K) 1 (He.fAd K ("is_tuple_of", none)) ["value", "many"] 2 f_is_tuple_of [[]] := by
  obtain ⟨fd, F⟩ := T.F_is_tuple_of
  refine ⟨fd, fn3 F rfl sc_is_tuple_of rfl (fun cdv A outer s H E _ B => b_is_tuple_of T B), F.kp, ?_⟩
  · exact ar_nil (F.bindsN (fun _ _ _ _ _ _ us hl => match us, hl with | [_, _], _ => rfl))
/-! ### is_room_of -/
abbrev s_is_room_of : Stmt := top 31
abbrev N_is_room_of : List Str := ["rooms", "value"]
theorem sc_is_room_of : FnScope N_is_room_of ["rooms", "value"] (defScope s_is_room_of) := ⟨rfl, rfl, rfl, by decide +kernel, rfl, by decide +kernel, by decide +kernel⟩
def t_is_room_of : TS3 := sseq (sret (tandV (tcf 1 f_is_string [] (tacons (tvar 1) (tanil))) (t2 (cmpV .In) (tvar 1) (tvar 0)))) (snil)
def f_is_room_of : F3 := fun ds => run3 t_is_room_of (start3 N_is_room_of ds)
theorem b_is_room_of {P : Program} {w : World} {K : PySem.W.Frag} {mg : Str → Option Value} {base : Heap} (T : Tx P w K mg base) {cdv : Value} {A : Around} {outer : List Env} {s : Shared} {H : Hp} {E : XK} (B : Bd (cn K) (cx3 P w K mg base N_is_room_of "is_room_of" s_is_room_of (He.fAd K ("is_room_of", none)) cdv A outer s H E) (fun c d _ H' => E c d H') 1) :
    PSs (cx3 P w K mg base N_is_room_of "is_room_of" s_is_room_of (He.fAd K ("is_room_of", none)) cdv A outer s H E) (defBody s_is_room_of) (upS (cn K) (fun c d _ H' => E c d H') t_is_room_of) := (pss_cons3 (ps_ret3 (pe_and3 B.hK (c_call (Dok.of rfl (D_is_string T)) B (by decide) List.mem_cons_self T.m_is_string rfl (pa_cons3 (v3 1) pa_nil3 rfl) (by decide) rfl rfl) (L2.pe_one (pe_cmp3 (opC_ok B.hu B.hK) (v3 1) (v3 0) rfl)))) pss_nil3)
theorem D_is_room_of {P : Program} {w : World} {K : PySem.W.Frag} {mg : Str → Option Value} {base : Heap} (T : Tx P w K mg base) : Dok P w K mg base (cn K) 2 (He.fAd K ("is_room_of", none)) ["rooms", "value"] 2 f_is_room_of [[]] := by
  obtain ⟨fd, F⟩ := T.F_is_room_of
  refine ⟨fd, fn3 F rfl sc_is_room_of rfl (fun cdv A outer s H E _ B => b_is_room_of T B), F.kp, ?_⟩
  · exact ar_nil (F.bindsN (fun _ _ _ _ _ _ us hl => match us, hl with | [_, _], _ => rfl))
/-! ### is_whole -/
abbrev s_is_whole : Stmt := top 10
abbrev N_is_whole : List Str := ["value"]
theorem sc_is_whole : FnScope N_is_whole ["value"] (defScope s_is_whole) := ⟨rfl, rfl, rfl, by decide +kernel, rfl, by decide +kernel, by decide +kernel⟩
def t_is_whole : TS3 := sseq (sret (tandV (tisi (isB "int" 1) (tvar 0)) (tnotV (tisi (isB "bool" 1) (tvar 0))))) (snil)
def f_is_whole : F3 := fun ds => run3 t_is_whole (start3 N_is_whole ds)
theorem b_is_whole {P : Program} {w : World} {K : PySem.W.Frag} {mg : Str → Option Value} {base : Heap} (T : Tx P w K mg base) {cdv : Value} {A : Around} {outer : List Env} {s : Shared} {H : Hp} {E : XK} (B : Bd (cn K) (cx3 P w K mg base N_is_whole "is_whole" s_is_whole (He.fAd K ("is_whole", none)) cdv A outer s H E) (fun c d _ H' => E c d H') 0) :
    PSs (cx3 P w K mg base N_is_whole "is_whole" s_is_whole (He.fAd K ("is_whole", none)) cdv A outer s H E) (defBody s_is_whole) (upS (cn K) (fun c d _ H' => E c d H') t_is_whole) := (pss_cons3 (ps_ret3 (pe_and3 B.hK (pe_isi3 B T.ist_int rfl T.n_isinstance (v3 0) (pe_bltn (x := "int") (v := .ty "int") rfl T.n_int rfl rfl) (.ty _) rfl rfl rfl) (L2.pe_one (pe_not3 B.hK (pe_isi3 B T.ist_bool rfl T.n_isinstance (v3 0) (pe_bltn (x := "bool") (v := .ty "bool") rfl T.n_bool rfl rfl) (.ty _) rfl rfl rfl))))) pss_nil3)
theorem D_is_whole {P : Program} {w : World} {K : PySem.W.Frag} {mg : Str → Option Value} {base : Heap} (T : Tx P w K mg base) : Dok P w K mg base (cn K) 1 (He.fAd K ("is_whole", none)) ["value"] 1 f_is_whole [[]] := by
  obtain ⟨fd, F⟩ := T.F_is_whole
  refine ⟨fd, fn3 F rfl sc_is_whole rfl (fun cdv A outer s H E _ B => b_is_whole T B), F.kp, ?_⟩
  · exact ar_nil (F.bindsN (fun _ _ _ _ _ _ us hl => match us, hl with | [_], _ => rfl))
/-! ### is_between -/
abbrev s_is_between : Stmt := top 11
abbrev N_is_between : List Str := ["value", "least", "most"]
theorem sc_is_between : FnScope N_is_between ["value", "least", "most"] (defScope s_is_between) := ⟨rfl, rfl, rfl, by decide +kernel, rfl, by decide +kernel, by decide +kernel⟩
def t_is_between : TS3 := sseq (sret (tandV (tcf 1 f_is_whole [] (tacons (tvar 0) (tanil))) (tchain .LtE .LtE (tvar 1) (tvar 0) (tvar 2)))) (snil)
def f_is_between : F3 := fun ds => run3 t_is_between (start3 N_is_between ds)
theorem b_is_between {P : Program} {w : World} {K : PySem.W.Frag} {mg : Str → Option Value} {base : Heap} (T : Tx P w K mg base) {cdv : Value} {A : Around} {outer : List Env} {s : Shared} {H : Hp} {E : XK} (B : Bd (cn K) (cx3 P w K mg base N_is_between "is_between" s_is_between (He.fAd K ("is_between", none)) cdv A outer s H E) (fun c d _ H' => E c d H') 1) :
    PSs (cx3 P w K mg base N_is_between "is_between" s_is_between (He.fAd K ("is_between", none)) cdv A outer s H E) (defBody s_is_between) (upS (cn K) (fun c d _ H' => E c d H') t_is_between) := (pss_cons3 (ps_ret3 (pe_and3 B.hK (c_call (Dok.of rfl (D_is_whole T)) B (by decide) List.mem_cons_self T.m_is_whole rfl (pa_cons3 (v3 0) pa_nil3 rfl) (by decide) rfl rfl) (L2.pe_one (pe_chain3 B (v3 1) (v3 0) (v3 2) (by with_unfolding_all rfl))))) pss_nil3)
theorem D_is_between {P : Program} {w : World} {K : PySem.W.Frag} {mg : Str → Option Value} {base : Heap} (T : Tx P w K mg base) : Dok P w K mg base (cn K) 2 (He.fAd K ("is_between", none)) ["value", "least", "most"] 3 f_is_between [[]] := by
  obtain ⟨fd, F⟩ := T.F_is_between
  refine ⟨fd, fn3 F rfl sc_is_between rfl (fun cdv A outer s H E _ B => b_is_between T B), F.kp, ?_⟩
  · exact ar_nil (F.bindsN (fun _ _ _ _ _ _ us hl => match us, hl with | [_, _, _], _ => rfl))
/-! ### is_none_or -/
abbrev s_is_none_or : Stmt := top 32
abbrev N_is_none_or : List Str := ["value", "least", "most"]
theorem sc_is_none_or : FnScope N_is_none_or ["value", "least", "most"] (defScope s_is_none_or) := ⟨rfl, rfl, rfl, by decide +kernel, rfl, by decide +kernel, by decide +kernel⟩
def t_is_none_or : TS3 := sseq (sret (torV (t2 (cmpV .Is) (tvar 0) (tcon .non)) (tcf 3 f_is_between [] (tacons (tvar 0) (tacons (tvar 1) (tacons (tvar 2) (tanil))))))) (snil)
def f_is_none_or : F3 := fun ds => run3 t_is_none_or (start3 N_is_none_or ds)
theorem b_is_none_or {P : Program} {w : World} {K : PySem.W.Frag} {mg : Str → Option Value} {base : Heap} (T : Tx P w K mg base) {cdv : Value} {A : Around} {outer : List Env} {s : Shared} {H : Hp} {E : XK} (B : Bd (cn K) (cx3 P w K mg base N_is_none_or "is_none_or" s_is_none_or (He.fAd K ("is_none_or", none)) cdv A outer s H E) (fun c d _ H' => E c d H') 2) :
    PSs (cx3 P w K mg base N_is_none_or "is_none_or" s_is_none_or (He.fAd K ("is_none_or", none)) cdv A outer s H E) (defBody s_is_none_or) (upS (cn K) (fun c d _ H' => E c d H') t_is_none_or) := (pss_cons3 (ps_ret3 (pe_or3 B.hK (pe_cmp3 (opC_ok B.hu B.hK) (v3 0) c_non (nomark _)) (L2.pe_one (c_call (Dok.of rfl (D_is_between T)) B (by decide) List.mem_cons_self T.m_is_between rfl (pa_cons3 (v3 0) (pa_cons3 (v3 1) (pa_cons3 (v3 2) pa_nil3 rfl) rfl) rfl) (by decide) rfl rfl)))) pss_nil3)
theorem D_is_none_or {P : Program} {w : World} {K : PySem.W.Frag} {mg : Str → Option Value} {base : Heap} (T : Tx P w K mg base) : Dok P w K mg base (cn K) 3 (He.fAd K ("is_none_or", none)) ["value", "least", "most"] 3 f_is_none_or [[]] := by
  obtain ⟨fd, F⟩ := T.F_is_none_or
  refine ⟨fd, fn3 F rfl sc_is_none_or rfl (fun cdv A outer s H E _ B => b_is_none_or T B), F.kp, ?_⟩
  · exact ar_nil (F.bindsN (fun _ _ _ _ _ _ us hl => match us, hl with | [_, _, _], _ => rfl))
/-! ### is_door -/
abbrev s_is_door : Stmt := top 33
abbrev N_is_door : List Str := ["rooms", "value"]
theorem sc_is_door : FnScope N_is_door ["rooms", "value"] (defScope s_is_door) := ⟨rfl, rfl, rfl, by decide +kernel, rfl, by decide +kernel, by decide +kernel⟩
def t_is_door : TS3 := sseq (sif (tor (tnot (ttru (tcf 2 f_is_tuple_of [] (tacons (tvar 1) (tacons (tcon (.int 6)) (tanil)))))) (tor (tnot (ttru (tcf 2 f_is_room_of [] (tacons (tvar 0) (tacons (t2 ixV (tvar 1) (tcon (.int 0))) (tanil)))))) (tnot (ttru (tcf 2 f_is_room_of [] (tacons (tvar 0) (tacons (t2 ixV (tvar 1) (tcon (.int 1))) (tanil)))))))) (sseq (sret (tcon (.bl false))) (snil)) (snil)) (sseq (sif (tor (tbl (t2 (cmpV .Eq) (t2 ixV (tvar 1) (tcon (.int 0))) (t2 ixV (tvar 1) (tcon (.int 1))))) (tor (tnot (ttru (tcf 1 f_is_string [] (tacons (t2 ixV (tvar 1) (tcon (.int 2))) (tanil))))) (tbl (t2 (cmpV .NotIn) (t2 ixV (tvar 1) (tcon (.int 2))) (ttup 2 (tacons (tcon (.str "one")) (tacons (tcon (.str "both")) (tanil)))))))) (sseq (sret (tcon (.bl false))) (snil)) (snil)) (sseq (sif (tor (tnot (ttru (tcf 3 f_is_between [] (tacons (t2 ixV (tvar 1) (tcon (.int 3))) (tacons (tcon (.int 1)) (tacons (tcon (.int 9)) (tanil))))))) (tnot (ttru (tcf 3 f_is_between [] (tacons (t2 ixV (tvar 1) (tcon (.int 4))) (tacons (tcon (.int 1)) (tacons (tcon (.int 3)) (tanil)))))))) (sseq (sret (tcon (.bl false))) (snil)) (snil)) (sseq (sret (tcf 3 f_is_none_or [] (tacons (t2 ixV (tvar 1) (tcon (.int 5))) (tacons (tcon (.int 0)) (tacons (tcon (.int 30)) (tanil)))))) (snil))))
def f_is_door : F3 := fun ds => run3 t_is_door (start3 N_is_door ds)
theorem b_is_door {P : Program} {w : World} {K : PySem.W.Frag} {mg : Str → Option Value} {base : Heap} (T : Tx P w K mg base) {cdv : Value} {A : Around} {outer : List Env} {s : Shared} {H : Hp} {E : XK} (B : Bd (cn K) (cx3 P w K mg base N_is_door "is_door" s_is_door (He.fAd K ("is_door", none)) cdv A outer s H E) (fun c d _ H' => E c d H') 3) :
    PSs (cx3 P w K mg base N_is_door "is_door" s_is_door (He.fAd K ("is_door", none)) cdv A outer s H E) (defBody s_is_door) (upS (cn K) (fun c d _ H' => E c d H') t_is_door) := (pss_cons3 (ps_if3 (L2.PW.pt (pw_or3 (pt_not3 (pt_tru B.hK (c_call (Dok.of rfl (D_is_tuple_of T)) B (by decide) List.mem_cons_self T.m_is_tuple_of rfl (pa_cons3 (v3 1) (pa_cons3 (g_int T.i_SIZE_OF_DOOR rfl (by decide)) pa_nil3 rfl) rfl) (by decide) rfl rfl) (fun _ => rfl))) (pw_or3 (pt_not3 (pt_tru B.hK (c_call (Dok.of rfl (D_is_room_of T)) B (by decide) List.mem_cons_self T.m_is_room_of rfl (pa_cons3 (v3 0) (pa_cons3 (pe_ix3 B.hu1 B.hK (v3 1) c_int (fun _ _ => rfl)) pa_nil3 rfl) rfl) (by decide) rfl rfl) (fun _ => rfl))) (L2.pw_or1 (pt_not3 (pt_tru B.hK (c_call (Dok.of rfl (D_is_room_of T)) B (by decide) List.mem_cons_self T.m_is_room_of rfl (pa_cons3 (v3 0) (pa_cons3 (pe_ix3 B.hu1 B.hK (v3 1) c_int (fun _ _ => rfl)) pa_nil3 rfl) rfl) (by decide) rfl rfl) (fun _ => rfl))))))) (pss_cons3 (ps_ret3 c_bl) pss_nil3) pss_nil3) (pss_cons3 (ps_if3 (L2.PW.pt (pw_or3 (pt_cmp3 (opC_ok B.hu B.hK) (pe_ix3 B.hu1 B.hK (v3 1) c_int (fun _ _ => rfl)) (pe_ix3 B.hu1 B.hK (v3 1) c_int (fun _ _ => rfl)) (nomark _)) (pw_or3 (pt_not3 (pt_tru B.hK (c_call (Dok.of rfl (D_is_string T)) B (by decide) List.mem_cons_self T.m_is_string rfl (pa_cons3 (pe_ix3 B.hu1 B.hK (v3 1) c_int (fun _ _ => rfl)) pa_nil3 rfl) (by decide) rfl rfl) (fun _ => rfl))) (L2.pw_or1 (pt_cmp3 (opC_ok B.hu B.hK) (pe_ix3 B.hu1 B.hK (v3 1) c_int (fun _ _ => rfl)) (pe_tup3 (pa_cons3 (g_str T.z_ONE rfl (by decide)) (pa_cons3 (g_str T.z_BOTH rfl (by decide)) pa_nil3 rfl) rfl)) rfl))))) (pss_cons3 (ps_ret3 c_bl) pss_nil3) pss_nil3) (pss_cons3 (ps_if3 (L2.PW.pt (pw_or3 (pt_not3 (pt_tru B.hK (c_call (Dok.of rfl (D_is_between T)) B (by decide) List.mem_cons_self T.m_is_between rfl (pa_cons3 (pe_ix3 B.hu1 B.hK (v3 1) c_int (fun _ _ => rfl)) (pa_cons3 c_int (pa_cons3 (g_int T.i_MOST_WIDTH rfl (by decide)) pa_nil3 rfl) rfl) rfl) (by decide) rfl rfl) (fun _ => rfl))) (L2.pw_or1 (pt_not3 (pt_tru B.hK (c_call (Dok.of rfl (D_is_between T)) B (by decide) List.mem_cons_self T.m_is_between rfl (pa_cons3 (pe_ix3 B.hu1 B.hK (v3 1) c_int (fun _ _ => rfl)) (pa_cons3 c_int (pa_cons3 (g_int T.i_MOST_STEPS rfl (by decide)) pa_nil3 rfl) rfl) rfl) (by decide) rfl rfl) (fun _ => rfl)))))) (pss_cons3 (ps_ret3 c_bl) pss_nil3) pss_nil3) (pss_cons3 (ps_ret3 (c_call (Dok.of rfl (D_is_none_or T)) B (by decide) List.mem_cons_self T.m_is_none_or rfl (pa_cons3 (pe_ix3 B.hu1 B.hK (v3 1) c_int (fun _ _ => rfl)) (pa_cons3 c_int (pa_cons3 (g_int T.i_MOST_CLOSES rfl (by decide)) pa_nil3 rfl) rfl) rfl) (by decide) rfl rfl)) pss_nil3))))
theorem D_is_door {P : Program} {w : World} {K : PySem.W.Frag} {mg : Str → Option Value} {base : Heap} (T : Tx P w K mg base) : Dok P w K mg base (cn K) 4 (He.fAd K ("is_door", none)) ["rooms", "value"] 2 f_is_door [[]] := by
  obtain ⟨fd, F⟩ := T.F_is_door
  refine ⟨fd, fn3 F rfl sc_is_door rfl (fun cdv A outer s H E _ B => b_is_door T B), F.kp, ?_⟩
  · exact ar_nil (F.bindsN (fun _ _ _ _ _ _ us hl => match us, hl with | [_, _], _ => rfl))
/-! ### wrong_door -/
abbrev s_wrong_door : Stmt := top 37
abbrev N_wrong_door : List Str := ["rooms", "value", "door", "ahead"]
theorem sc_wrong_door : FnScope N_wrong_door ["rooms", "value"] (defScope s_wrong_door) := ⟨rfl, rfl, rfl, by decide +kernel, rfl, by decide +kernel, by decide +kernel⟩
def t_wrong_door : TS3 := sseq (sret (tlam2 N_first_wrong [2, 3] tg_first_wrong (tvar 1) (tcf 2 f_is_door [] (tacons (tvar 0) (tacons (tvar 2) (tanil)))))) (snil)
def f_wrong_door : F3 := fun ds => run3 t_wrong_door (start3 N_wrong_door ds)
theorem b_wrong_door {P : Program} {w : World} {K : PySem.W.Frag} {mg : Str → Option Value} {base : Heap} (T : Tx P w K mg base) {cdv : Value} {A : Around} {outer : List Env} {s : Shared} {H : Hp} {E : XK} (hcd : cdv = .ref (He.cT K ("wrong_door", none)).1) (B : Bd (cn K) (cx3 P w K mg base N_wrong_door "wrong_door" s_wrong_door (He.fAd K ("wrong_door", none)) cdv A outer s H E) (fun c d _ H' => E c d H') 6) :
    PSs (cx3 P w K mg base N_wrong_door "wrong_door" s_wrong_door (He.fAd K ("wrong_door", none)) cdv A outer s H E) (defBody s_wrong_door) (upS (cn K) (fun c d _ H' => E c d H') t_wrong_door) := by
  obtain ⟨fw, Fw⟩ := T.F_first_wrong
  exact (pss_cons3 (ps_ret3 (pe_lam3 (ps := ["door", "ahead"]) (is := [2, 3]) B rfl T.m_first_wrong Fw (Fw.bindsN (fun _ _ _ _ _ _ us hl => match us, hl with | [_, _], _ => rfl)) sc_first_wrong rfl (fun a ha => by cases ha; exact ⟨.inl rfl, by decide, by decide⟩) (fun cdg => G_first_wrong T ⟨rfl, rfl, rfl, rfl, rfl⟩) (T.tb_wrong_door) hcd (by exact tabs_mem_wrong_door) T.tu_wrong_door (lamP_by rfl) rfl (fun _ _ _ _ _ us hl => match us, hl with | [_, _], _ => rfl) (v3 1) (fun C2 A outer s H E f c' hC B2 => by obtain ⟨b, P1⟩ := C2; cases hC; exact (c_call (Dok.of rfl (D_is_door T)) B2 (by decide) List.mem_cons_self T.m_is_door rfl (pa_cons3 (v3 0) (pa_cons3 (v3 2) pa_nil3 rfl) rfl) (by decide) rfl rfl)) (by decide) rfl rfl rfl)) pss_nil3)
theorem D_wrong_door {P : Program} {w : World} {K : PySem.W.Frag} {mg : Str → Option Value} {base : Heap} (T : Tx P w K mg base) : Dok P w K mg base (cn K) 7 (He.fAd K ("wrong_door", none)) ["rooms", "value"] 2 f_wrong_door [[]] := by
  obtain ⟨fd, F⟩ := T.F_wrong_door
  refine ⟨fd, fn3c F rfl sc_wrong_door rfl (fun cdv A outer s H E h1 h2 B => ?_), F.kp, ?_⟩
  · obtain ⟨c, rfl⟩ := He.codeIn_ref h1
    exact b_wrong_door T (congrArg Value.ref (h2 c rfl _ rfl).symm) B
  · exact ar_nil (F.bindsN (fun _ _ _ _ _ _ us hl => match us, hl with | [_, _], _ => rfl))
/-! ### check_doors -/
abbrev s_check_doors : Stmt := top 42
abbrev N_check_doors : List Str := ["rooms", "doors", "wrong"]
theorem sc_check_doors : FnScope N_check_doors ["rooms", "doors"] (defScope s_check_doors) := ⟨rfl, rfl, rfl, by decide +kernel, rfl, by decide +kernel, by decide +kernel⟩
def t_check_doors : TS3 := sseq (sasg (tife (ttru (tcf 3 f_is_row [] (tacons (tvar 1) (tacons (tcon (.int 1)) (tacons (tcon (.int 12)) (tanil)))))) (tcf 2 f_wrong_door [] (tacons (tvar 0) (tacons (tvar 1) (tanil)))) (tcon .non)) (gnm 2)) (sseq (sif (tor (tnot (ttru (tcf 3 f_is_row [] (tacons (tvar 1) (tacons (tcon (.int 1)) (tacons (tcon (.int 12)) (tanil))))))) (tbl (t2 (cmpV .IsNot) (tvar 2) (tcon .non)))) (sseq (sraise 3 5 (tacons (tvar 2) (tanil))) (snil)) (snil)) (snil))
def f_check_doors : F3 := fun ds => run3 t_check_doors (start3 N_check_doors ds)
theorem b_check_doors {P : Program} {w : World} {K : PySem.W.Frag} {mg : Str → Option Value} {base : Heap} (T : Tx P w K mg base) {cdv : Value} {A : Around} {outer : List Env} {s : Shared} {H : Hp} {E : XK} (B : Bd (cn K) (cx3 P w K mg base N_check_doors "check_doors" s_check_doors (He.fAd K ("check_doors", none)) cdv A outer s H E) (fun c d _ H' => E c d H') 7) :
    PSs (cx3 P w K mg base N_check_doors "check_doors" s_check_doors (He.fAd K ("check_doors", none)) cdv A outer s H E) (defBody s_check_doors) (upS (cn K) (fun c d _ H' => E c d H') t_check_doors) := (pss_cons3 (ps_set3 (i := 2) B.hN rfl (.inl rfl) (pe_ife3 (pt_tru B.hK (c_call (Dok.of rfl (D_is_row T)) B (by decide) List.mem_cons_self T.m_is_row rfl (pa_cons3 (v3 1) (pa_cons3 c_int (pa_cons3 (g_int T.i_MOST_DOORS rfl (by decide)) pa_nil3 rfl) rfl) rfl) (by decide) rfl rfl) (fun _ => rfl)) (c_call (Dok.of rfl (D_wrong_door T)) B (by decide) List.mem_cons_self T.m_wrong_door rfl (pa_cons3 (v3 0) (pa_cons3 (v3 1) pa_nil3 rfl) rfl) (by decide) rfl rfl) c_non) rfl (.inr rfl)) (pss_cons3 (ps_if3 (L2.PW.pt (pw_or3 (pt_not3 (pt_tru B.hK (c_call (Dok.of rfl (D_is_row T)) B (by decide) List.mem_cons_self T.m_is_row rfl (pa_cons3 (v3 1) (pa_cons3 c_int (pa_cons3 (g_int T.i_MOST_DOORS rfl (by decide)) pa_nil3 rfl) rfl) rfl) (by decide) rfl rfl) (fun _ => rfl))) (L2.pw_or1 (pt_cmp3 (opC_ok B.hu B.hK) (v3 2) c_non (nomark _))))) (pss_cons3 (ps_raise3 (c := 3) (j := 5) B (by decide) (xc_InvalidDoors T) rfl (pa_cons3 (v3 2) pa_nil3 rfl) (by decide) rfl rfl) pss_nil3) pss_nil3) pss_nil3))
theorem D_check_doors {P : Program} {w : World} {K : PySem.W.Frag} {mg : Str → Option Value} {base : Heap} (T : Tx P w K mg base) : Dok P w K mg base (cn K) 8 (He.fAd K ("check_doors", none)) ["rooms", "doors"] 2 f_check_doors [[]] := by
  obtain ⟨fd, F⟩ := T.F_check_doors
  refine ⟨fd, fn3 F rfl sc_check_doors rfl (fun cdv A outer s H E _ B => b_check_doors T B), F.kp, ?_⟩
  · exact ar_nil (F.bindsN (fun _ _ _ _ _ _ us hl => match us, hl with | [_, _], _ => rfl))
/-! ### is_some_row -/
abbrev s_is_some_row : Stmt := top 40
abbrev N_is_some_row : List Str := ["value"]
theorem sc_is_some_row : FnScope N_is_some_row ["value"] (defScope s_is_some_row) := ⟨rfl, rfl, rfl, by decide +kernel, rfl, by decide +kernel, by decide +kernel⟩
def t_is_some_row : TS3 := sseq (sret (tandV (tisi (isB "tuple" 1) (tvar 0)) (t2 (cmpV .Gt) (tcl (bfV false .len) (tacons (tvar 0) (tanil))) (tcon (.int 0))))) (snil)
def f_is_some_row : F3 := fun ds => run3 t_is_some_row (start3 N_is_some_row ds)
theorem b_is_some_row {P : Program} {w : World} {K : PySem.W.Frag} {mg : Str → Option Value} {base : Heap} (T : Tx P w K mg base) {cdv : Value} {A : Around} {outer : List Env} {s : Shared} {H : Hp} {E : XK} (B : Bd (cn K) (cx3 P w K mg base N_is_some_row "is_some_row" s_is_some_row (He.fAd K ("is_some_row", none)) cdv A outer s H E) (fun c d _ H' => E c d H') 0) :
    PSs (cx3 P w K mg base N_is_some_row "is_some_row" s_is_some_row (He.fAd K ("is_some_row", none)) cdv A outer s H E) (defBody s_is_some_row) (upS (cn K) (fun c d _ H' => E c d H') t_is_some_row) := (pss_cons3 (ps_ret3 (pe_and3 B.hK (pe_isi3 B T.ist_tuple rfl T.n_isinstance (v3 0) (pe_bltn (x := "tuple") (v := .ty "tuple") rfl T.n_tuple rfl rfl) (.ty _) rfl rfl rfl) (L2.pe_one (pe_cmp3 (opC_ok B.hu B.hK) (pe_bf3 (b := .len) (w := false) B rfl rfl T.n_len (pa_cons3 (v3 0) pa_nil3 rfl) rfl rfl) c_int (nomark _))))) pss_nil3)
theorem D_is_some_row {P : Program} {w : World} {K : PySem.W.Frag} {mg : Str → Option Value} {base : Heap} (T : Tx P w K mg base) : Dok P w K mg base (cn K) 1 (He.fAd K ("is_some_row", none)) ["value"] 1 f_is_some_row [[]] := by
  obtain ⟨fd, F⟩ := T.F_is_some_row
  refine ⟨fd, fn3 F rfl sc_is_some_row rfl (fun cdv A outer s H E _ B => b_is_some_row T B), F.kp, ?_⟩
  · exact ar_nil (F.bindsN (fun _ _ _ _ _ _ us hl => match us, hl with | [_], _ => rfl))
/-! ### is_exit -/
abbrev s_is_exit : Stmt := top 34
abbrev N_is_exit : List Str := ["rooms", "value"]
theorem sc_is_exit : FnScope N_is_exit ["rooms", "value"] (defScope s_is_exit) := ⟨rfl, rfl, rfl, by decide +kernel, rfl, by decide +kernel, by decide +kernel⟩
def t_is_exit : TS3 := sseq (sret (tandV (tcf 2 f_is_tuple_of [] (tacons (tvar 1) (tacons (tcon (.int 2)) (tanil)))) (tandV (tcf 2 f_is_room_of [] (tacons (tvar 0) (tacons (t2 ixV (tvar 1) (tcon (.int 0))) (tanil)))) (tcf 3 f_is_none_or [] (tacons (t2 ixV (tvar 1) (tcon (.int 1))) (tacons (tcon (.int 1)) (tacons (tcon (.int 99)) (tanil)))))))) (snil)
def f_is_exit : F3 := fun ds => run3 t_is_exit (start3 N_is_exit ds)
theorem b_is_exit {P : Program} {w : World} {K : PySem.W.Frag} {mg : Str → Option Value} {base : Heap} (T : Tx P w K mg base) {cdv : Value} {A : Around} {outer : List Env} {s : Shared} {H : Hp} {E : XK} (B : Bd (cn K) (cx3 P w K mg base N_is_exit "is_exit" s_is_exit (He.fAd K ("is_exit", none)) cdv A outer s H E) (fun c d _ H' => E c d H') 3) :
    PSs (cx3 P w K mg base N_is_exit "is_exit" s_is_exit (He.fAd K ("is_exit", none)) cdv A outer s H E) (defBody s_is_exit) (upS (cn K) (fun c d _ H' => E c d H') t_is_exit) := (pss_cons3 (ps_ret3 (pe_and3 B.hK (c_call (Dok.of rfl (D_is_tuple_of T)) B (by decide) List.mem_cons_self T.m_is_tuple_of rfl (pa_cons3 (v3 1) (pa_cons3 c_int pa_nil3 rfl) rfl) (by decide) rfl rfl) (pe_and3 B.hK (c_call (Dok.of rfl (D_is_room_of T)) B (by decide) List.mem_cons_self T.m_is_room_of rfl (pa_cons3 (v3 0) (pa_cons3 (pe_ix3 B.hu1 B.hK (v3 1) c_int (fun _ _ => rfl)) pa_nil3 rfl) rfl) (by decide) rfl rfl) (L2.pe_one (c_call (Dok.of rfl (D_is_none_or T)) B (by decide) List.mem_cons_self T.m_is_none_or rfl (pa_cons3 (pe_ix3 B.hu1 B.hK (v3 1) c_int (fun _ _ => rfl)) (pa_cons3 c_int (pa_cons3 (g_int T.i_MOST_PLACES rfl (by decide)) pa_nil3 rfl) rfl) rfl) (by decide) rfl rfl))))) pss_nil3)
theorem D_is_exit {P : Program} {w : World} {K : PySem.W.Frag} {mg : Str → Option Value} {base : Heap} (T : Tx P w K mg base) : Dok P w K mg base (cn K) 4 (He.fAd K ("is_exit", none)) ["rooms", "value"] 2 f_is_exit [[]] := by
  obtain ⟨fd, F⟩ := T.F_is_exit
  refine ⟨fd, fn3 F rfl sc_is_exit rfl (fun cdv A outer s H E _ B => b_is_exit T B), F.kp, ?_⟩
  · exact ar_nil (F.bindsN (fun _ _ _ _ _ _ us hl => match us, hl with | [_, _], _ => rfl))
/-! ### is_exit_behind -/
abbrev s_is_exit_behind : Stmt := top 35
abbrev N_is_exit_behind : List Str := ["rooms", "value", "ahead"]
theorem sc_is_exit_behind : FnScope N_is_exit_behind ["rooms", "value", "ahead"] (defScope s_is_exit_behind) := ⟨rfl, rfl, rfl, by decide +kernel, rfl, by decide +kernel, by decide +kernel⟩
def t_is_exit_behind : TS3 := sseq (sret (tandV (tcf 2 f_is_exit [] (tacons (tvar 0) (tacons (tvar 1) (tanil)))) (torV (t2 (cmpV .Eq) (tvar 2) (ttup 0 (tanil))) (t2 (cmpV .Lt) (t2 ixV (t2 ixV (tvar 2) (t1 negV (tcon (.int 1)))) (tcon (.int 0))) (t2 ixV (tvar 1) (tcon (.int 0))))))) (snil)
def f_is_exit_behind : F3 := fun ds => run3 t_is_exit_behind (start3 N_is_exit_behind ds)
theorem b_is_exit_behind {P : Program} {w : World} {K : PySem.W.Frag} {mg : Str → Option Value} {base : Heap} (T : Tx P w K mg base) {cdv : Value} {A : Around} {outer : List Env} {s : Shared} {H : Hp} {E : XK} (B : Bd (cn K) (cx3 P w K mg base N_is_exit_behind "is_exit_behind" s_is_exit_behind (He.fAd K ("is_exit_behind", none)) cdv A outer s H E) (fun c d _ H' => E c d H') 4) :
    PSs (cx3 P w K mg base N_is_exit_behind "is_exit_behind" s_is_exit_behind (He.fAd K ("is_exit_behind", none)) cdv A outer s H E) (defBody s_is_exit_behind) (upS (cn K) (fun c d _ H' => E c d H') t_is_exit_behind) := (pss_cons3 (ps_ret3 (pe_and3 B.hK (c_call (Dok.of rfl (D_is_exit T)) B (by decide) List.mem_cons_self T.m_is_exit rfl (pa_cons3 (v3 0) (pa_cons3 (v3 1) pa_nil3 rfl) rfl) (by decide) rfl rfl) (L2.pe_one (pe_or3 B.hK (pe_cmp3 (opC_ok B.hu B.hK) (v3 2) (pe_tup3 pa_nil3) (nomark _)) (L2.pe_one (pe_cmp3 (opC_ok B.hu B.hK) (pe_ix3 B.hu1 B.hK (pe_ix3 B.hu1 B.hK (v3 2) (pe_un3 opN_ok c_int) (fun _ _ => rfl)) c_int (fun _ _ => rfl)) (pe_ix3 B.hu1 B.hK (v3 1) c_int (fun _ _ => rfl)) (nomark _))))))) pss_nil3)
theorem D_is_exit_behind {P : Program} {w : World} {K : PySem.W.Frag} {mg : Str → Option Value} {base : Heap} (T : Tx P w K mg base) : Dok P w K mg base (cn K) 5 (He.fAd K ("is_exit_behind", none)) ["rooms", "value", "ahead"] 3 f_is_exit_behind [[]] := by
  obtain ⟨fd, F⟩ := T.F_is_exit_behind
  refine ⟨fd, fn3 F rfl sc_is_exit_behind rfl (fun cdv A outer s H E _ B => b_is_exit_behind T B), F.kp, ?_⟩
  · exact ar_nil (F.bindsN (fun _ _ _ _ _ _ us hl => match us, hl with | [_, _, _], _ => rfl))
/-! ### wrong_exit -/
abbrev s_wrong_exit : Stmt := top 38
abbrev N_wrong_exit : List Str := ["rooms", "value", "each", "ahead"]
theorem sc_wrong_exit : FnScope N_wrong_exit ["rooms", "value"] (defScope s_wrong_exit) := ⟨rfl, rfl, rfl, by decide +kernel, rfl, by decide +kernel, by decide +kernel⟩
def t_wrong_exit : TS3 := sseq (sret (tlam2 N_first_wrong [2, 3] tg_first_wrong (tvar 1) (tcf 3 f_is_exit_behind [] (tacons (tvar 0) (tacons (tvar 2) (tacons (tvar 3) (tanil))))))) (snil)
def f_wrong_exit : F3 := fun ds => run3 t_wrong_exit (start3 N_wrong_exit ds)
theorem b_wrong_exit {P : Program} {w : World} {K : PySem.W.Frag} {mg : Str → Option Value} {base : Heap} (T : Tx P w K mg base) {cdv : Value} {A : Around} {outer : List Env} {s : Shared} {H : Hp} {E : XK} (hcd : cdv = .ref (He.cT K ("wrong_exit", none)).1) (B : Bd (cn K) (cx3 P w K mg base N_wrong_exit "wrong_exit" s_wrong_exit (He.fAd K ("wrong_exit", none)) cdv A outer s H E) (fun c d _ H' => E c d H') 7) :
    PSs (cx3 P w K mg base N_wrong_exit "wrong_exit" s_wrong_exit (He.fAd K ("wrong_exit", none)) cdv A outer s H E) (defBody s_wrong_exit) (upS (cn K) (fun c d _ H' => E c d H') t_wrong_exit) := by
  obtain ⟨fw, Fw⟩ := T.F_first_wrong
  exact (pss_cons3 (ps_ret3 (pe_lam3 (ps := ["each", "ahead"]) (is := [2, 3]) B rfl T.m_first_wrong Fw (Fw.bindsN (fun _ _ _ _ _ _ us hl => match us, hl with | [_, _], _ => rfl)) sc_first_wrong rfl (fun a ha => by cases ha; exact ⟨.inl rfl, by decide, by decide⟩) (fun cdg => G_first_wrong T ⟨rfl, rfl, rfl, rfl, rfl⟩) (T.tb_wrong_exit) hcd (by exact tabs_mem_wrong_exit) T.tu_wrong_exit (lamP_by rfl) rfl (fun _ _ _ _ _ us hl => match us, hl with | [_, _], _ => rfl) (v3 1) (fun C2 A outer s H E f c' hC B2 => by obtain ⟨b, P1⟩ := C2; cases hC; exact (c_call (Dok.of rfl (D_is_exit_behind T)) B2 (by decide) List.mem_cons_self T.m_is_exit_behind rfl (pa_cons3 (v3 0) (pa_cons3 (v3 2) (pa_cons3 (v3 3) pa_nil3 rfl) rfl) rfl) (by decide) rfl rfl)) (by decide) rfl rfl rfl)) pss_nil3)
theorem D_wrong_exit {P : Program} {w : World} {K : PySem.W.Frag} {mg : Str → Option Value} {base : Heap} (T : Tx P w K mg base) : Dok P w K mg base (cn K) 8 (He.fAd K ("wrong_exit", none)) ["rooms", "value"] 2 f_wrong_exit [[]] := by
  obtain ⟨fd, F⟩ := T.F_wrong_exit
  refine ⟨fd, fn3c F rfl sc_wrong_exit rfl (fun cdv A outer s H E h1 h2 B => ?_), F.kp, ?_⟩
  · obtain ⟨c, rfl⟩ := He.codeIn_ref h1
    exact b_wrong_exit T (congrArg Value.ref (h2 c rfl _ rfl).symm) B
  · exact ar_nil (F.bindsN (fun _ _ _ _ _ _ us hl => match us, hl with | [_, _], _ => rfl))
/-! ### check_exits -/
abbrev s_check_exits : Stmt := top 43
abbrev N_check_exits : List Str := ["rooms", "exits", "wrong"]
theorem sc_check_exits : FnScope N_check_exits ["rooms", "exits"] (defScope s_check_exits) := ⟨rfl, rfl, rfl, by decide +kernel, rfl, by decide +kernel, by decide +kernel⟩
def t_check_exits : TS3 := sseq (sasg (tife (ttru (tcf 1 f_is_some_row [] (tacons (tvar 1) (tanil)))) (tcf 2 f_wrong_exit [] (tacons (tvar 0) (tacons (tvar 1) (tanil)))) (tcon .non)) (gnm 2)) (sseq (sif (tor (tnot (ttru (tcf 1 f_is_some_row [] (tacons (tvar 1) (tanil))))) (tbl (t2 (cmpV .IsNot) (tvar 2) (tcon .non)))) (sseq (sraise 4 5 (tacons (tvar 2) (tanil))) (snil)) (snil)) (snil))
def f_check_exits : F3 := fun ds => run3 t_check_exits (start3 N_check_exits ds)
theorem b_check_exits {P : Program} {w : World} {K : PySem.W.Frag} {mg : Str → Option Value} {base : Heap} (T : Tx P w K mg base) {cdv : Value} {A : Around} {outer : List Env} {s : Shared} {H : Hp} {E : XK} (B : Bd (cn K) (cx3 P w K mg base N_check_exits "check_exits" s_check_exits (He.fAd K ("check_exits", none)) cdv A outer s H E) (fun c d _ H' => E c d H') 8) :
    PSs (cx3 P w K mg base N_check_exits "check_exits" s_check_exits (He.fAd K ("check_exits", none)) cdv A outer s H E) (defBody s_check_exits) (upS (cn K) (fun c d _ H' => E c d H') t_check_exits) := (pss_cons3 (ps_set3 (i := 2) B.hN rfl (.inl rfl) (pe_ife3 (pt_tru B.hK (c_call (Dok.of rfl (D_is_some_row T)) B (by decide) List.mem_cons_self T.m_is_some_row rfl (pa_cons3 (v3 1) pa_nil3 rfl) (by decide) rfl rfl) (fun _ => rfl)) (c_call (Dok.of rfl (D_wrong_exit T)) B (by decide) List.mem_cons_self T.m_wrong_exit rfl (pa_cons3 (v3 0) (pa_cons3 (v3 1) pa_nil3 rfl) rfl) (by decide) rfl rfl) c_non) rfl (.inr rfl)) (pss_cons3 (ps_if3 (L2.PW.pt (pw_or3 (pt_not3 (pt_tru B.hK (c_call (Dok.of rfl (D_is_some_row T)) B (by decide) List.mem_cons_self T.m_is_some_row rfl (pa_cons3 (v3 1) pa_nil3 rfl) (by decide) rfl rfl) (fun _ => rfl))) (L2.pw_or1 (pt_cmp3 (opC_ok B.hu B.hK) (v3 2) c_non (nomark _))))) (pss_cons3 (ps_raise3 (c := 4) (j := 5) B (by decide) (xc_InvalidExits T) rfl (pa_cons3 (v3 2) pa_nil3 rfl) (by decide) rfl rfl) pss_nil3) pss_nil3) pss_nil3))
theorem D_check_exits {P : Program} {w : World} {K : PySem.W.Frag} {mg : Str → Option Value} {base : Heap} (T : Tx P w K mg base) : Dok P w K mg base (cn K) 9 (He.fAd K ("check_exits", none)) ["rooms", "exits"] 2 f_check_exits [[]] := by
  obtain ⟨fd, F⟩ := T.F_check_exits
  refine ⟨fd, fn3 F rfl sc_check_exits rfl (fun cdv A outer s H E _ B => b_check_exits T B), F.kp, ?_⟩
  · exact ar_nil (F.bindsN (fun _ _ _ _ _ _ us hl => match us, hl with | [_, _], _ => rfl))
/-! ### wrong_number -/
abbrev s_wrong_number : Stmt := top 39
abbrev N_wrong_number : List Str := ["value", "most", "number", "ahead"]
theorem sc_wrong_number : FnScope N_wrong_number ["value", "most"] (defScope s_wrong_number) := ⟨rfl, rfl, rfl, by decide +kernel, rfl, by decide +kernel, by decide +kernel⟩
def t_wrong_number : TS3 := sseq (sret (tlam2 N_first_wrong [2, 3] tg_first_wrong (tvar 0) (tcf 3 f_is_between [] (tacons (tvar 2) (tacons (tcon (.int 0)) (tacons (tvar 1) (tanil))))))) (snil)
def f_wrong_number : F3 := fun ds => run3 t_wrong_number (start3 N_wrong_number ds)
theorem b_wrong_number {P : Program} {w : World} {K : PySem.W.Frag} {mg : Str → Option Value} {base : Heap} (T : Tx P w K mg base) {cdv : Value} {A : Around} {outer : List Env} {s : Shared} {H : Hp} {E : XK} (hcd : cdv = .ref (He.cT K ("wrong_number", none)).1) (B : Bd (cn K) (cx3 P w K mg base N_wrong_number "wrong_number" s_wrong_number (He.fAd K ("wrong_number", none)) cdv A outer s H E) (fun c d _ H' => E c d H') 4) :
    PSs (cx3 P w K mg base N_wrong_number "wrong_number" s_wrong_number (He.fAd K ("wrong_number", none)) cdv A outer s H E) (defBody s_wrong_number) (upS (cn K) (fun c d _ H' => E c d H') t_wrong_number) := by
  obtain ⟨fw, Fw⟩ := T.F_first_wrong
  exact (pss_cons3 (ps_ret3 (pe_lam3 (ps := ["number", "ahead"]) (is := [2, 3]) B rfl T.m_first_wrong Fw (Fw.bindsN (fun _ _ _ _ _ _ us hl => match us, hl with | [_, _], _ => rfl)) sc_first_wrong rfl (fun a ha => by cases ha; exact ⟨.inl rfl, by decide, by decide⟩) (fun cdg => G_first_wrong T ⟨rfl, rfl, rfl, rfl, rfl⟩) (T.tb_wrong_number) hcd (by exact tabs_mem_wrong_number) T.tu_wrong_number (lamP_by rfl) rfl (fun _ _ _ _ _ us hl => match us, hl with | [_, _], _ => rfl) (v3 0) (fun C2 A outer s H E f c' hC B2 => by obtain ⟨b, P1⟩ := C2; cases hC; exact (c_call (Dok.of rfl (D_is_between T)) B2 (by decide) List.mem_cons_self T.m_is_between rfl (pa_cons3 (v3 2) (pa_cons3 c_int (pa_cons3 (v3 1) pa_nil3 rfl) rfl) rfl) (by decide) rfl rfl)) (by decide) rfl rfl rfl)) pss_nil3)
theorem D_wrong_number {P : Program} {w : World} {K : PySem.W.Frag} {mg : Str → Option Value} {base : Heap} (T : Tx P w K mg base) : Dok P w K mg base (cn K) 5 (He.fAd K ("wrong_number", none)) ["value", "most"] 2 f_wrong_number [[]] := by
  obtain ⟨fd, F⟩ := T.F_wrong_number
  refine ⟨fd, fn3c F rfl sc_wrong_number rfl (fun cdv A outer s H E h1 h2 B => ?_), F.kp, ?_⟩
  · obtain ⟨c, rfl⟩ := He.codeIn_ref h1
    exact b_wrong_number T (congrArg Value.ref (h2 c rfl _ rfl).symm) B
  · exact ar_nil (F.bindsN (fun _ _ _ _ _ _ us hl => match us, hl with | [_, _], _ => rfl))
/-! ### check_numbers -/
abbrev s_check_numbers : Stmt := top 44
abbrev N_check_numbers : List Str := ["rooms", "people", "most", "wrong"]
theorem sc_check_numbers : FnScope N_check_numbers ["rooms", "people", "most"] (defScope s_check_numbers) := ⟨rfl, rfl, rfl, by decide +kernel, rfl, by decide +kernel, by decide +kernel⟩
def t_check_numbers : TS3 := sseq (sasg (tife (ttru (tcf 2 f_is_tuple_of [] (tacons (tvar 1) (tacons (tcl (bfV false .len) (tacons (tvar 0) (tanil))) (tanil))))) (tcf 2 f_wrong_number [] (tacons (tvar 1) (tacons (tvar 2) (tanil)))) (tcon .non)) (gnm 3)) (sseq (sif (tor (tnot (ttru (tcf 2 f_is_tuple_of [] (tacons (tvar 1) (tacons (tcl (bfV false .len) (tacons (tvar 0) (tanil))) (tanil)))))) (tbl (t2 (cmpV .IsNot) (tvar 3) (tcon .non)))) (sseq (sraise 5 5 (tacons (tvar 3) (tanil))) (snil)) (snil)) (snil))
def f_check_numbers : F3 := fun ds => run3 t_check_numbers (start3 N_check_numbers ds)
theorem b_check_numbers {P : Program} {w : World} {K : PySem.W.Frag} {mg : Str → Option Value} {base : Heap} (T : Tx P w K mg base) {cdv : Value} {A : Around} {outer : List Env} {s : Shared} {H : Hp} {E : XK} (B : Bd (cn K) (cx3 P w K mg base N_check_numbers "check_numbers" s_check_numbers (He.fAd K ("check_numbers", none)) cdv A outer s H E) (fun c d _ H' => E c d H') 5) :
    PSs (cx3 P w K mg base N_check_numbers "check_numbers" s_check_numbers (He.fAd K ("check_numbers", none)) cdv A outer s H E) (defBody s_check_numbers) (upS (cn K) (fun c d _ H' => E c d H') t_check_numbers) := (pss_cons3 (ps_set3 (i := 3) B.hN rfl (.inl rfl) (pe_ife3 (pt_tru B.hK (c_call (Dok.of rfl (D_is_tuple_of T)) B (by decide) List.mem_cons_self T.m_is_tuple_of rfl (pa_cons3 (v3 1) (pa_cons3 (pe_bf3 (b := .len) (w := false) B rfl rfl T.n_len (pa_cons3 (v3 0) pa_nil3 rfl) rfl rfl) pa_nil3 rfl) rfl) (by decide) rfl rfl) (fun _ => rfl)) (c_call (Dok.of rfl (D_wrong_number T)) B (by decide) List.mem_cons_self T.m_wrong_number rfl (pa_cons3 (v3 1) (pa_cons3 (v3 2) pa_nil3 rfl) rfl) (by decide) rfl rfl) c_non) rfl (.inr rfl)) (pss_cons3 (ps_if3 (L2.PW.pt (pw_or3 (pt_not3 (pt_tru B.hK (c_call (Dok.of rfl (D_is_tuple_of T)) B (by decide) List.mem_cons_self T.m_is_tuple_of rfl (pa_cons3 (v3 1) (pa_cons3 (pe_bf3 (b := .len) (w := false) B rfl rfl T.n_len (pa_cons3 (v3 0) pa_nil3 rfl) rfl rfl) pa_nil3 rfl) rfl) (by decide) rfl rfl) (fun _ => rfl))) (L2.pw_or1 (pt_cmp3 (opC_ok B.hu B.hK) (v3 3) c_non (nomark _))))) (pss_cons3 (ps_raise3 (c := 5) (j := 5) B (by decide) (xc_InvalidPeople T) rfl (pa_cons3 (v3 3) pa_nil3 rfl) (by decide) rfl rfl) pss_nil3) pss_nil3) pss_nil3))
theorem D_check_numbers {P : Program} {w : World} {K : PySem.W.Frag} {mg : Str → Option Value} {base : Heap} (T : Tx P w K mg base) : Dok P w K mg base (cn K) 6 (He.fAd K ("check_numbers", none)) ["rooms", "people", "most"] 3 f_check_numbers [[]] := by
  obtain ⟨fd, F⟩ := T.F_check_numbers
  refine ⟨fd, fn3 F rfl sc_check_numbers rfl (fun cdv A outer s H E _ B => b_check_numbers T B), F.kp, ?_⟩
  · exact ar_nil (F.bindsN (fun _ _ _ _ _ _ us hl => match us, hl with | [_, _, _], _ => rfl))
/-! ### check_bells -/
abbrev s_check_bells : Stmt := top 45
abbrev N_check_bells : List Str := ["rooms", "bells", "wrong"]
theorem sc_check_bells : FnScope N_check_bells ["rooms", "bells"] (defScope s_check_bells) := ⟨rfl, rfl, rfl, by decide +kernel, rfl, by decide +kernel, by decide +kernel⟩
def t_check_bells : TS3 := sseq (sasg (tife (ttru (tcf 2 f_is_tuple_of [] (tacons (tvar 1) (tacons (tcl (bfV false .len) (tacons (tvar 0) (tanil))) (tanil))))) (tcf 2 f_wrong_number [] (tacons (tvar 1) (tacons (tcon (.int 9)) (tanil)))) (tcon .non)) (gnm 2)) (sseq (sif (tor (tnot (ttru (tcf 2 f_is_tuple_of [] (tacons (tvar 1) (tacons (tcl (bfV false .len) (tacons (tvar 0) (tanil))) (tanil)))))) (tbl (t2 (cmpV .IsNot) (tvar 2) (tcon .non)))) (sseq (sraise 6 5 (tacons (tvar 2) (tanil))) (snil)) (snil)) (snil))
def f_check_bells : F3 := fun ds => run3 t_check_bells (start3 N_check_bells ds)
theorem b_check_bells {P : Program} {w : World} {K : PySem.W.Frag} {mg : Str → Option Value} {base : Heap} (T : Tx P w K mg base) {cdv : Value} {A : Around} {outer : List Env} {s : Shared} {H : Hp} {E : XK} (B : Bd (cn K) (cx3 P w K mg base N_check_bells "check_bells" s_check_bells (He.fAd K ("check_bells", none)) cdv A outer s H E) (fun c d _ H' => E c d H') 5) :
    PSs (cx3 P w K mg base N_check_bells "check_bells" s_check_bells (He.fAd K ("check_bells", none)) cdv A outer s H E) (defBody s_check_bells) (upS (cn K) (fun c d _ H' => E c d H') t_check_bells) := (pss_cons3 (ps_set3 (i := 2) B.hN rfl (.inl rfl) (pe_ife3 (pt_tru B.hK (c_call (Dok.of rfl (D_is_tuple_of T)) B (by decide) List.mem_cons_self T.m_is_tuple_of rfl (pa_cons3 (v3 1) (pa_cons3 (pe_bf3 (b := .len) (w := false) B rfl rfl T.n_len (pa_cons3 (v3 0) pa_nil3 rfl) rfl rfl) pa_nil3 rfl) rfl) (by decide) rfl rfl) (fun _ => rfl)) (c_call (Dok.of rfl (D_wrong_number T)) B (by decide) List.mem_cons_self T.m_wrong_number rfl (pa_cons3 (v3 1) (pa_cons3 (g_int T.i_MOST_BELL rfl (by decide)) pa_nil3 rfl) rfl) (by decide) rfl rfl) c_non) rfl (.inr rfl)) (pss_cons3 (ps_if3 (L2.PW.pt (pw_or3 (pt_not3 (pt_tru B.hK (c_call (Dok.of rfl (D_is_tuple_of T)) B (by decide) List.mem_cons_self T.m_is_tuple_of rfl (pa_cons3 (v3 1) (pa_cons3 (pe_bf3 (b := .len) (w := false) B rfl rfl T.n_len (pa_cons3 (v3 0) pa_nil3 rfl) rfl rfl) pa_nil3 rfl) rfl) (by decide) rfl rfl) (fun _ => rfl))) (L2.pw_or1 (pt_cmp3 (opC_ok B.hu B.hK) (v3 2) c_non (nomark _))))) (pss_cons3 (ps_raise3 (c := 6) (j := 5) B (by decide) (xc_InvalidBells T) rfl (pa_cons3 (v3 2) pa_nil3 rfl) (by decide) rfl rfl) pss_nil3) pss_nil3) pss_nil3))
theorem D_check_bells {P : Program} {w : World} {K : PySem.W.Frag} {mg : Str → Option Value} {base : Heap} (T : Tx P w K mg base) : Dok P w K mg base (cn K) 6 (He.fAd K ("check_bells", none)) ["rooms", "bells"] 2 f_check_bells [[]] := by
  obtain ⟨fd, F⟩ := T.F_check_bells
  refine ⟨fd, fn3 F rfl sc_check_bells rfl (fun cdv A outer s H E _ B => b_check_bells T B), F.kp, ?_⟩
  · exact ar_nil (F.bindsN (fun _ _ _ _ _ _ us hl => match us, hl with | [_, _], _ => rfl))
/-! ### House.__init__ -/
abbrev s_House___init__ : Stmt := inC (top 46) 0
abbrev N_House___init__ : List Str := ["self", "rooms", "doors", "exits", "people", "bells"]
theorem sc_House___init__ : FnScope N_House___init__ ["self", "rooms", "doors", "exits", "people", "bells"] (defScope s_House___init__) := ⟨rfl, rfl, rfl, by decide +kernel, rfl, by decide +kernel, by decide +kernel⟩
def t_House___init__ : TS3 := sseq (sexp (tcf 1 f_check_rooms [] (tacons (tvar 1) (tanil)))) (sseq (sexp (tcf 2 f_check_doors [] (tacons (tvar 1) (tacons (tvar 2) (tanil))))) (sseq (sexp (tcf 2 f_check_exits [] (tacons (tvar 1) (tacons (tvar 3) (tanil))))) (sseq (sexp (tcf 3 f_check_numbers [] (tacons (tvar 1) (tacons (tvar 4) (tacons (tcon (.int 30)) (tanil)))))) (sseq (sif (tbl (t2 (cmpV .Is) (tvar 5) (tcon .non))) (sseq (sasg (t2 (binV false .Mult) (ttup 1 (tacons (tcon (.int 0)) (tanil))) (tcl (bfV false .len) (tacons (tvar 1) (tanil)))) (gnm 5)) (snil)) (snil)) (sseq (sexp (tcf 2 f_check_bells [] (tacons (tvar 1) (tacons (tvar 5) (tanil))))) (sseq (sfld ow 0 (tvar 0) (tvar 1)) (sseq (sfld ow 1 (tvar 0) (tvar 2)) (sseq (sfld ow 2 (tvar 0) (tvar 3)) (sseq (sfld ow 3 (tvar 0) (tvar 4)) (sseq (sfld ow 4 (tvar 0) (tvar 5)) (snil)))))))))))
def f_House___init__ : F3 := fun ds => run3 t_House___init__ (start3 N_House___init__ ds)
theorem b_House___init__ {P : Program} {w : World} {K : PySem.W.Frag} {mg : Str → Option Value} {base : Heap} (T : Tx P w K mg base) {cdv : Value} {A : Around} {outer : List Env} {s : Shared} {H : Hp} {E : XK} (B : Bd (cn K) (cx3 P w K mg base N_House___init__ "House.__init__" s_House___init__ (He.fAd K ("House", some "__init__")) cdv A outer s H E) (fun c d _ H' => E c d H') 9) :
    PSs (cx3 P w K mg base N_House___init__ "House.__init__" s_House___init__ (He.fAd K ("House", some "__init__")) cdv A outer s H E) (defBody s_House___init__) (upS (cn K) (fun c d _ H' => E c d H') t_House___init__) := (pss_cons3 (ps_exp3 (c_call (Dok.of rfl (D_check_rooms T)) B (by decide) List.mem_cons_self T.m_check_rooms rfl (pa_cons3 (v3 1) pa_nil3 rfl) (by decide) rfl rfl) rfl) (pss_cons3 (ps_exp3 (c_call (Dok.of rfl (D_check_doors T)) B (by decide) List.mem_cons_self T.m_check_doors rfl (pa_cons3 (v3 1) (pa_cons3 (v3 2) pa_nil3 rfl) rfl) (by decide) rfl rfl) rfl) (pss_cons3 (ps_exp3 (c_call (Dok.of rfl (D_check_exits T)) B (by decide) List.mem_cons_self T.m_check_exits rfl (pa_cons3 (v3 1) (pa_cons3 (v3 3) pa_nil3 rfl) rfl) (by decide) rfl rfl) rfl) (pss_cons3 (ps_exp3 (c_call (Dok.of rfl (D_check_numbers T)) B (by decide) List.mem_cons_self T.m_check_numbers rfl (pa_cons3 (v3 1) (pa_cons3 (v3 4) (pa_cons3 (g_int T.i_MOST_PEOPLE rfl (by decide)) pa_nil3 rfl) rfl) rfl) (by decide) rfl rfl) rfl) (pss_cons3 (ps_if3 (pt_cmp3 (opC_ok B.hu B.hK) (v3 5) c_non (nomark _)) (pss_cons3 (ps_set3 (i := 5) B.hN rfl (.inl rfl) (pe_bin3 (opB_ok B.hK) (pe_tup3 (pa_cons3 c_int pa_nil3 rfl)) (pe_bf3 (b := .len) (w := false) B rfl rfl T.n_len (pa_cons3 (v3 1) pa_nil3 rfl) rfl rfl)) rfl (.inr rfl)) pss_nil3) pss_nil3) (pss_cons3 (ps_exp3 (c_call (Dok.of rfl (D_check_bells T)) B (by decide) List.mem_cons_self T.m_check_bells rfl (pa_cons3 (v3 1) (pa_cons3 (v3 5) pa_nil3 rfl) rfl) (by decide) rfl rfl) rfl) (pss_cons3 (ps_fld3 B.hK att_inj at_0 (T.own 0) (v3 0) (v3 1) rfl) (pss_cons3 (ps_fld3 B.hK att_inj at_1 (T.own 1) (v3 0) (v3 2) rfl) (pss_cons3 (ps_fld3 B.hK att_inj at_2 (T.own 2) (v3 0) (v3 3) rfl) (pss_cons3 (ps_fld3 B.hK att_inj at_3 (T.own 3) (v3 0) (v3 4) rfl) (pss_cons3 (ps_fld3 B.hK att_inj at_4 (T.own 4) (v3 0) (v3 5) rfl) pss_nil3)))))))))))
theorem D_House___init__ {P : Program} {w : World} {K : PySem.W.Frag} {mg : Str → Option Value} {base : Heap} (T : Tx P w K mg base) : Dok P w K mg base (cn K) 10 (He.fAd K ("House", some "__init__")) ["self", "rooms", "doors", "exits", "people", "bells"] 6 f_House___init__ [[.non], []] := by
  obtain ⟨fd, F⟩ := T.F_House___init__
  refine ⟨fd, fn3 F rfl sc_House___init__ rfl (fun cdv A outer s H E _ B => b_House___init__ T B), F.kp, ?_⟩
  · intro dd hd
    simp only [List.mem_cons, List.not_mem_nil, or_false] at hd
    rcases hd with rfl | rfl
    · obtain ⟨dus, h1, h2⟩ := F.binds1 (ps := ["self", "rooms", "doors", "exits", "people", "bells"]) 5 0 (by decide) rfl (fun _ _ _ _ _ _ _ us its hl hi => match us, its, hl, hi with | [_, _, _, _, _], [_], _, _ => ⟨_, rfl, rfl⟩)
      exact ⟨_, dus, h1, fun _ => (.cons .non .nil), h2⟩
    · obtain ⟨dus, h1, h2⟩ := F.binds1 (ps := ["self", "rooms", "doors", "exits", "people", "bells"]) 6 1 (by decide) rfl (fun _ _ _ _ _ _ _ us its hl hi => match us, its, hl, hi with | [_, _, _, _, _, _], [_], _, _ => ⟨_, rfl, rfl⟩)
      exact ⟨_, dus, h1, fun _ => .nil, h2⟩
/-! ### _law_caught -/
abbrev s__law_caught : Stmt := top 66
abbrev N__law_caught : List Str := ["act", "e"]
theorem sc__law_caught : FnScope N__law_caught ["act"] (defScope s__law_caught) := ⟨rfl, rfl, rfl, by decide +kernel, rfl, by decide +kernel, by decide +kernel⟩
def tg__law_caught (act : T3) : TS3 := sseq (stryC [⟨tsm_InvalidRooms, some 1, fun ea ex => sseq (sret (tlst false (tacons (tcon (.str "rooms")) (tacons (tcl (bfV false .repr) (tacons (texf ea ex 5 (tvar 1)) (tanil))) (tanil))))) (snil)⟩, ⟨tsm_InvalidDoors, some 1, fun ea ex => sseq (sret (tlst false (tacons (tcon (.str "doors")) (tacons (tcl (bfV false .repr) (tacons (texf ea ex 5 (tvar 1)) (tanil))) (tanil))))) (snil)⟩, ⟨tsm_InvalidExits, some 1, fun ea ex => sseq (sret (tlst false (tacons (tcon (.str "exits")) (tacons (tcl (bfV false .repr) (tacons (texf ea ex 5 (tvar 1)) (tanil))) (tanil))))) (snil)⟩, ⟨tsm_InvalidPeople, some 1, fun ea ex => sseq (sret (tlst false (tacons (tcon (.str "people")) (tacons (tcl (bfV false .repr) (tacons (texf ea ex 5 (tvar 1)) (tanil))) (tanil))))) (snil)⟩, ⟨tsm_InvalidBells, some 1, fun ea ex => sseq (sret (tlst false (tacons (tcon (.str "bells")) (tacons (tcl (bfV false .repr) (tacons (texf ea ex 5 (tvar 1)) (tanil))) (tanil))))) (snil)⟩] (sseq (sexp (act)) (snil))) (sseq (sret (tlst false (tacons (tcon (.str "made")) (tanil)))) (snil))
theorem G__law_caught {P : Program} {w : World} {K : PySem.W.Frag} {mg : Str → Option Value} {base : Heap} (T : Tx P w K mg base) {P1 : Hp} {X : Cx} (hX : X.prog = P ∧ X.w = w ∧ X.K = K ∧ X.mg = mg ∧ X.base = base) {g : Addr} {cdg : Value} {k : Nat} : Gives0 ⟨cb K, P1⟩ X N__law_caught "_law_caught" (defScope s__law_caught) g cdg (defBody s__law_caught) 0 (k + 2) tg__law_caught := by
  obtain ⟨rfl, rfl, rfl, rfl, rfl⟩ := hX
  intro C2 s H E act hC B hact
  obtain ⟨b, P2⟩ := C2
  cases hC
  exact (pss_cons3 (ps_tryC3 B rfl rfl (fun W3 pn xe B3 => (pss_cons3 (ps_exp3 (hact _ _ _ _ _ _ rfl B3) rfl) pss_nil3)) (.named (c := ⟨tsm_InvalidRooms, some 1, fun ea ex => sseq (sret (tlst false (tacons (tcon (.str "rooms")) (tacons (tcl (bfV false .repr) (tacons (texf ea ex 5 (tvar 1)) (tanil))) (tanil))))) (snil)⟩) ⟨rfl, by decide, .inl T.m_InvalidRooms⟩ T.tm_InvalidRooms rfl rfl rfl (by intro ea oe cl dd pn P0 ex hz hf xr ht; change PSs _ _ (upS _ _ (sseq (sret (tlst false (tacons (tcon (.str "rooms")) (tacons (tcl (bfV false .repr) (tacons (texf ea ex 5 (tvar 1)) (tanil))) (tanil))))) (snil))); exact (pss_cons3 (ps_ret3 (pe_lst3 (w := false) (pa_cons3 c_str (pa_cons3 (pe_reprS3 B rfl T.n_repr (pa_cons3 (pe_xf3 (a := ea) (oe := oe) (pn := pn) (P0 := P0) (x := ex) (j := 5) B.hK att_inj at_5 (V3.ExcC.xf (T.xt_InvalidRooms ex.c ht)) (T.xn_InvalidRooms_index ex.c ht) hz hf xr (v3 1) rfl) pa_nil3 rfl) rfl rfl) pa_nil3 rfl) rfl))) pss_nil3)) (.named (c := ⟨tsm_InvalidDoors, some 1, fun ea ex => sseq (sret (tlst false (tacons (tcon (.str "doors")) (tacons (tcl (bfV false .repr) (tacons (texf ea ex 5 (tvar 1)) (tanil))) (tanil))))) (snil)⟩) ⟨rfl, by decide, .inl T.m_InvalidDoors⟩ T.tm_InvalidDoors rfl rfl rfl (by intro ea oe cl dd pn P0 ex hz hf xr ht; change PSs _ _ (upS _ _ (sseq (sret (tlst false (tacons (tcon (.str "doors")) (tacons (tcl (bfV false .repr) (tacons (texf ea ex 5 (tvar 1)) (tanil))) (tanil))))) (snil))); exact (pss_cons3 (ps_ret3 (pe_lst3 (w := false) (pa_cons3 c_str (pa_cons3 (pe_reprS3 B rfl T.n_repr (pa_cons3 (pe_xf3 (a := ea) (oe := oe) (pn := pn) (P0 := P0) (x := ex) (j := 5) B.hK att_inj at_5 (V3.ExcC.xf (T.xt_InvalidDoors ex.c ht)) (T.xn_InvalidDoors_index ex.c ht) hz hf xr (v3 1) rfl) pa_nil3 rfl) rfl rfl) pa_nil3 rfl) rfl))) pss_nil3)) (.named (c := ⟨tsm_InvalidExits, some 1, fun ea ex => sseq (sret (tlst false (tacons (tcon (.str "exits")) (tacons (tcl (bfV false .repr) (tacons (texf ea ex 5 (tvar 1)) (tanil))) (tanil))))) (snil)⟩) ⟨rfl, by decide, .inl T.m_InvalidExits⟩ T.tm_InvalidExits rfl rfl rfl (by intro ea oe cl dd pn P0 ex hz hf xr ht; change PSs _ _ (upS _ _ (sseq (sret (tlst false (tacons (tcon (.str "exits")) (tacons (tcl (bfV false .repr) (tacons (texf ea ex 5 (tvar 1)) (tanil))) (tanil))))) (snil))); exact (pss_cons3 (ps_ret3 (pe_lst3 (w := false) (pa_cons3 c_str (pa_cons3 (pe_reprS3 B rfl T.n_repr (pa_cons3 (pe_xf3 (a := ea) (oe := oe) (pn := pn) (P0 := P0) (x := ex) (j := 5) B.hK att_inj at_5 (V3.ExcC.xf (T.xt_InvalidExits ex.c ht)) (T.xn_InvalidExits_index ex.c ht) hz hf xr (v3 1) rfl) pa_nil3 rfl) rfl rfl) pa_nil3 rfl) rfl))) pss_nil3)) (.named (c := ⟨tsm_InvalidPeople, some 1, fun ea ex => sseq (sret (tlst false (tacons (tcon (.str "people")) (tacons (tcl (bfV false .repr) (tacons (texf ea ex 5 (tvar 1)) (tanil))) (tanil))))) (snil)⟩) ⟨rfl, by decide, .inl T.m_InvalidPeople⟩ T.tm_InvalidPeople rfl rfl rfl (by intro ea oe cl dd pn P0 ex hz hf xr ht; change PSs _ _ (upS _ _ (sseq (sret (tlst false (tacons (tcon (.str "people")) (tacons (tcl (bfV false .repr) (tacons (texf ea ex 5 (tvar 1)) (tanil))) (tanil))))) (snil))); exact (pss_cons3 (ps_ret3 (pe_lst3 (w := false) (pa_cons3 c_str (pa_cons3 (pe_reprS3 B rfl T.n_repr (pa_cons3 (pe_xf3 (a := ea) (oe := oe) (pn := pn) (P0 := P0) (x := ex) (j := 5) B.hK att_inj at_5 (V3.ExcC.xf (T.xt_InvalidPeople ex.c ht)) (T.xn_InvalidPeople_index ex.c ht) hz hf xr (v3 1) rfl) pa_nil3 rfl) rfl rfl) pa_nil3 rfl) rfl))) pss_nil3)) (.named (c := ⟨tsm_InvalidBells, some 1, fun ea ex => sseq (sret (tlst false (tacons (tcon (.str "bells")) (tacons (tcl (bfV false .repr) (tacons (texf ea ex 5 (tvar 1)) (tanil))) (tanil))))) (snil)⟩) ⟨rfl, by decide, .inl T.m_InvalidBells⟩ T.tm_InvalidBells rfl rfl rfl (by intro ea oe cl dd pn P0 ex hz hf xr ht; change PSs _ _ (upS _ _ (sseq (sret (tlst false (tacons (tcon (.str "bells")) (tacons (tcl (bfV false .repr) (tacons (texf ea ex 5 (tvar 1)) (tanil))) (tanil))))) (snil))); exact (pss_cons3 (ps_ret3 (pe_lst3 (w := false) (pa_cons3 c_str (pa_cons3 (pe_reprS3 B rfl T.n_repr (pa_cons3 (pe_xf3 (a := ea) (oe := oe) (pn := pn) (P0 := P0) (x := ex) (j := 5) B.hK att_inj at_5 (V3.ExcC.xf (T.xt_InvalidBells ex.c ht)) (T.xn_InvalidBells_index ex.c ht) hz hf xr (v3 1) rfl) pa_nil3 rfl) rfl rfl) pa_nil3 rfl) rfl))) pss_nil3)) .nil)))))) (pss_cons3 (ps_ret3 (pe_lst3 (w := false) (pa_cons3 c_str pa_nil3 rfl))) pss_nil3))
theorem DG_House___init___1_bells_people_exits_doors_rooms {P : Program} {w : World} {K : PySem.W.Frag} {mg : Str → Option Value} {base : Heap} (T : Tx P w K mg base) : DokG P w K mg base (cn K) 10 (He.fAd K ("House", some "__init__")) ["self", "rooms", "doors", "exits", "people", "bells"] 6 f_House___init__ 1 ["bells", "people", "exits", "doors", "rooms"] [0, 5, 4, 3, 2, 1] [.non] := by
  obtain ⟨fd, F⟩ := T.F_House___init__
  obtain ⟨dvs, dus, e, v, hb⟩ := kwg_ofD (ps := ["self", "rooms", "doors", "exits", "people", "bells"]) F (by simp) 1 ["bells", "people", "exits", "doors", "rooms"] [0, 5, 4, 3, 2, 1] (fun _ _ _ _ _ _ _ us ws its h1 h2 h3 => match us, ws, its, h1, h2, h3 with | [_], [_, _, _, _, _], [_], _, _, _ => ⟨_, rfl, rfl⟩)
  subst e
  exact ⟨fd, fn3 F rfl sc_House___init__ rfl (fun cdv A outer s H E _ B => b_House___init__ T B), F.kp, _, dus, v, fun _ => (.cons .non .nil), hb⟩
/-! ### _law_are_refused -/
abbrev s__law_are_refused : Stmt := top 67
abbrev N__law_are_refused : List Str := ["rooms", "doors", "exits", "people", "bells", "due", "told"]
theorem sc__law_are_refused : FnScope N__law_are_refused ["rooms", "doors", "exits", "people", "bells"] (defScope s__law_are_refused) := ⟨rfl, rfl, rfl, by decide +kernel, rfl, by decide +kernel, by decide +kernel⟩
def t__law_are_refused_3 : TS3 := sseq (sret (t2 (cmpV .Eq) (tvar 6) (tlst false (tacons (tvar 5) (tacons (tvar 5) (tanil)))))) snil
def t__law_are_refused_2 : TS3 := sseq (sexp (tbm .append (tvar 6) (tacons (tlam0 N__law_caught tg__law_caught (tmakeG false 0 0 5 6 f_House___init__ [0, 5, 4, 3, 2, 1] [.non] (tanil) (tacons (tvar 4) (tacons (tvar 3) (tacons (tvar 2) (tacons (tvar 1) (tacons (tvar 0) (tanil)))))))) (tanil)))) t__law_are_refused_3
def t__law_are_refused_1 : TS3 := sseq (sasg (tlst true (tacons (tlam0 N__law_caught tg__law_caught (tmake false 0 6 f_House___init__ [] (tacons (tvar 0) (tacons (tvar 1) (tacons (tvar 2) (tacons (tvar 3) (tacons (tvar 4) (tanil)))))))) (tanil))) (gnm 6)) t__law_are_refused_2
def t__law_are_refused : TS3 := sseq (sasg (tcf 5 f__law_due [] (tacons (tvar 0) (tacons (tvar 1) (tacons (tvar 2) (tacons (tvar 3) (tacons (tvar 4) (tanil))))))) (gnm 5)) t__law_are_refused_1
def f__law_are_refused : F3 := fun ds => run3 t__law_are_refused (start3 N__law_are_refused ds)
theorem b__law_are_refused {P : Program} {w : World} {K : PySem.W.Frag} {mg : Str → Option Value} {base : Heap} (T : Tx P w K mg base) {cdv : Value} {A : Around} {outer : List Env} {s : Shared} {H : Hp} {E : XK} (hcd : cdv = .ref (He.cT K ("_law_are_refused", none)).1) (B : Bd (cn K) (cx3 P w K mg base N__law_are_refused "_law_are_refused" s__law_are_refused (He.fAd K ("_law_are_refused", none)) cdv A outer s H E) (fun c d _ H' => E c d H') 13) :
    PSs (cx3 P w K mg base N__law_are_refused "_law_are_refused" s__law_are_refused (He.fAd K ("_law_are_refused", none)) cdv A outer s H E) (defBody s__law_are_refused) (upS (cn K) (fun c d _ H' => E c d H') t__law_are_refused) := by
  obtain ⟨fw, Fw⟩ := T.F__law_caught
  exact (pss_cons3 (ps_set3 (i := 5) B.hN rfl (.inl rfl) (c_call (Dok.of rfl (D__law_due T)) B (by decide) List.mem_cons_self T.m__law_due rfl (pa_cons3 (v3 0) (pa_cons3 (v3 1) (pa_cons3 (v3 2) (pa_cons3 (v3 3) (pa_cons3 (v3 4) pa_nil3 rfl) rfl) rfl) rfl) rfl) (by decide) rfl rfl) rfl (.inr rfl)) (pss_cons3 (ps_set3 (i := 6) B.hN rfl (.inl rfl) (pe_lst3 (w := true) (pa_cons3 (pe_lam03 B rfl T.m__law_caught Fw (Fw.bindsN (fun _ _ _ _ _ _ us hl => match us, hl with | [_], _ => rfl)) sc__law_caught rfl (fun a ha => by cases ha; exact ⟨.inl rfl, by decide, by decide⟩) (fun cdg => G__law_caught T ⟨rfl, rfl, rfl, rfl, rfl⟩) (T.tb__law_are_refused) hcd (by exact tabs_mem__law_are_refused) T.tu__law_are_refused (lamP_by rfl) rfl (fun _ _ _ _ _ us hl => match us, hl with | [], _ => rfl) (fun C2 A outer s H E f c' hC B2 => by obtain ⟨b, P1⟩ := C2; cases hC; exact (c_make (w := false) (Dok.of rfl (D_House___init__ T)) B2 (by decide) (List.mem_cons_of_mem _ List.mem_cons_self) T.k_House T.m_House rfl (pa_cons3 (v3 0) (pa_cons3 (v3 1) (pa_cons3 (v3 2) (pa_cons3 (v3 3) (pa_cons3 (v3 4) pa_nil3 rfl) rfl) rfl) rfl) rfl) (by decide) rfl rfl)) (by decide) rfl rfl) pa_nil3 rfl)) rfl (.inr rfl)) (pss_cons3 (ps_exp3 (pe_app3 B.hK (v3 6) (pa_cons3 (pe_lam03 B rfl T.m__law_caught Fw (Fw.bindsN (fun _ _ _ _ _ _ us hl => match us, hl with | [_], _ => rfl)) sc__law_caught rfl (fun a ha => by cases ha; exact ⟨.inl rfl, by decide, by decide⟩) (fun cdg => G__law_caught T ⟨rfl, rfl, rfl, rfl, rfl⟩) (T.tb__law_are_refused) hcd (by exact tabs_mem__law_are_refused) T.tu__law_are_refused (lamP_by rfl) rfl (fun _ _ _ _ _ us hl => match us, hl with | [], _ => rfl) (fun C2 A outer s H E f c' hC B2 => by obtain ⟨b, P1⟩ := C2; cases hC; exact (pe_makeG03 (w := false) (DokG.mono (by decide) (DokG.of rfl (DG_House___init___1_bells_people_exits_doors_rooms T))) B2 T.k_House rfl rfl T.m_House (pk_cons3 (v3 4) (pk_cons3 (v3 3) (pk_cons3 (v3 2) (pk_cons3 (v3 1) (pk_cons3 (v3 0) pk_nil3))))) rfl rfl rfl (by decide))) (by decide) rfl rfl) pa_nil3 rfl) rfl rfl rfl rfl rfl) rfl) (pss_cons3 (ps_ret3 (pe_cmp3 (opC_ok B.hu B.hK) (v3 6) (pe_lst3 (w := false) (pa_cons3 (v3 5) (pa_cons3 (v3 5) pa_nil3 rfl) rfl)) (nomark _))) pss_nil3))))
theorem D__law_are_refused {P : Program} {w : World} {K : PySem.W.Frag} {mg : Str → Option Value} {base : Heap} (T : Tx P w K mg base) : Dok P w K mg base (cn K) 14 (He.fAd K ("_law_are_refused", none)) ["rooms", "doors", "exits", "people", "bells"] 5 f__law_are_refused [[]] := by
  obtain ⟨fd, F⟩ := T.F__law_are_refused
  refine ⟨fd, fn3c F rfl sc__law_are_refused rfl (fun cdv A outer s H E h1 h2 B => ?_), F.kp, ?_⟩
  · obtain ⟨c, rfl⟩ := He.codeIn_ref h1
    exact b__law_are_refused T (congrArg Value.ref (h2 c rfl _ rfl).symm) B
  · exact ar_nil (F.bindsN (fun _ _ _ _ _ _ us hl => match us, hl with | [_, _, _, _, _], _ => rfl))
/-! ### _law_by_hand -/
abbrev s__law_by_hand : Stmt := top 68
abbrev N__law_by_hand : List Str := ["good", "rooms", "doors", "exits", "numbers", "bells", "door", "seven", "some", "place", "thing", "each", "room"]
theorem sc__law_by_hand : FnScope N__law_by_hand [] (defScope s__law_by_hand) := ⟨rfl, rfl, rfl, by decide +kernel, rfl, by decide +kernel, by decide +kernel⟩
def t__law_by_hand_9 : TS3 := sseq (sret (t2 (cmpV .Eq) (tlc false (iseq (tvar 8)) (.nm 11) (tnot (ttru (tcf 5 f__law_are_refused [] (tacons (t2 ixV (tvar 11) (tcon (.int 0))) (tacons (t2 ixV (tvar 11) (tcon (.int 1))) (tacons (t2 ixV (tvar 11) (tcon (.int 2))) (tacons (t2 ixV (tvar 11) (tcon (.int 3))) (tacons (t2 ixV (tvar 11) (tcon (.int 4))) (tanil))))))))) (tvar 11) [11]) (tlst false (tanil)))) snil
def t__law_by_hand_8 : TS3 := sseq (sfor (iseq (tlst false (tacons (tcon .non) (tacons (ttup 2 (tacons (tcon (.int 9)) (tacons (tcon (.int 9)) (tanil)))) (tacons (ttup 2 (tacons (tcon (.int 0)) (tacons (tcon (.int 10)) (tanil)))) (tacons (ttup 0 (tanil)) (tacons (tcon (.str "00")) (tanil)))))))) (.nm 5) (sseq (sexp (tbm .append (tvar 8) (tacons (t2 (binV false .Add) (tsl false (tvar 0) (tono) (toso (tcon (.int 4)))) (ttup 1 (tacons (tvar 5) (tanil)))) (tanil)))) (snil))) t__law_by_hand_9
def t__law_by_hand_7 : TS3 := sseq (sfor (iseq (tlst false (tacons (ttup 1 (tacons (tcon (.int 0)) (tanil))) (tacons (ttup 2 (tacons (tcon (.int 0)) (tacons (tcon (.int 31)) (tanil)))) (tacons (ttup 2 (tacons (tcon (.int 31)) (tacons (t1 negV (tcon (.int 1))) (tanil)))) (tacons (ttup 2 (tacons (tcon (.int 0)) (tacons (tcon (.bl true)) (tanil)))) (tacons (tlst false (tacons (tcon (.int 0)) (tacons (tcon (.int 0)) (tanil)))) (tacons (ttup 3 (tacons (tcon (.int 0)) (tacons (tcon (.int 0)) (tacons (tcon (.int 0)) (tanil))))) (tacons (tcon .non) (tacons (ttup 2 (tacons (tcon (.int 0)) (tacons (tcon (.str "1")) (tanil)))) (tacons (ttup 2 (tacons (tcon (.int 30)) (tacons (tcon (.int 30)) (tanil)))) (tanil)))))))))))) (.nm 4) (sseq (sasg (t2 (binV true .Add) (tvar 8) (tlst false (tacons (t2 (binV false .Add) (tsl false (tvar 0) (tono) (toso (tcon (.int 3)))) (ttup 2 (tacons (tvar 4) (tacons (tcon (.int 5)) (tanil))))) (tacons (t2 (binV false .Add) (tsl false (tvar 0) (tono) (toso (tcon (.int 4)))) (ttup 1 (tacons (tvar 4) (tanil)))) (tanil))))) (gnm 8)) (snil))) t__law_by_hand_8
def t__law_by_hand_6 : TS3 := sseq (sfor (iseq (tlst false (tacons (ttup 0 (tanil)) (tacons (ttup 1 (tacons (ttup 2 (tacons (tcon (.str "a")) (tacons (tcon (.int 0)) (tanil)))) (tanil))) (tacons (ttup 1 (tacons (ttup 2 (tacons (tcon (.str "a")) (tacons (tcon (.int 100)) (tanil)))) (tanil))) (tacons (ttup 2 (tacons (ttup 2 (tacons (tcon (.str "b")) (tacons (tcon (.int 1)) (tanil)))) (tacons (ttup 2 (tacons (tcon (.str "a")) (tacons (tcon (.int 1)) (tanil)))) (tanil)))) (tacons (ttup 2 (tacons (ttup 2 (tacons (tcon (.str "a")) (tacons (tcon (.int 1)) (tanil)))) (tacons (ttup 2 (tacons (tcon (.str "a")) (tacons (tcon (.int 2)) (tanil)))) (tanil)))) (tacons (ttup 1 (tacons (ttup 2 (tacons (tcon (.str "c")) (tacons (tcon (.int 1)) (tanil)))) (tanil))) (tacons (tlst false (tacons (ttup 2 (tacons (tcon (.str "a")) (tacons (tcon (.int 1)) (tanil)))) (tanil))) (tanil)))))))))) (.nm 3) (sseq (sexp (tbm .append (tvar 8) (tacons (t2 (binV false .Add) (tsl false (tvar 0) (tono) (toso (tcon (.int 2)))) (ttup 3 (tacons (tvar 3) (tacons (tcon (.int 5)) (tacons (tcon (.int 5)) (tanil)))))) (tanil)))) (snil))) t__law_by_hand_7
def t__law_by_hand_5 : TS3 := sseq (sfor (iseq (tlst false (tacons (ttup 2 (tacons (tcon (.int 0)) (tacons (tcon (.str "b")) (tanil)))) (tacons (ttup 2 (tacons (tcon (.int 0)) (tacons (tcon (.str "c")) (tanil)))) (tacons (ttup 2 (tacons (tcon (.int 1)) (tacons (tcon (.str "a")) (tanil)))) (tacons (ttup 2 (tacons (tcon (.int 2)) (tacons (tcon (.str "two")) (tanil)))) (tacons (ttup 2 (tacons (tcon (.int 3)) (tacons (tcon (.int 0)) (tanil)))) (tacons (ttup 2 (tacons (tcon (.int 3)) (tacons (tcon (.int 10)) (tanil)))) (tacons (ttup 2 (tacons (tcon (.int 3)) (tacons (tcon (.bl true)) (tanil)))) (tacons (ttup 2 (tacons (tcon (.int 4)) (tacons (tcon (.int 0)) (tanil)))) (tacons (ttup 2 (tacons (tcon (.int 4)) (tacons (tcon (.int 4)) (tanil)))) (tacons (ttup 2 (tacons (tcon (.int 5)) (tacons (tcon (.int 31)) (tanil)))) (tanil))))))))))))) (.tp (.cons (.nm 9) (.cons (.nm 10) .nil))) (sseq (sexp (tbm .append (tvar 8) (tacons (t2 (binV false .Add) (t2 (binV false .Add) (tsl false (tvar 0) (tono) (toso (tcon (.int 1)))) (ttup 1 (tacons (ttup 3 (tacons (tvar 6) (tacons (t2 (binV false .Add) (t2 (binV false .Add) (tsl false (tvar 6) (tono) (toso (tvar 9))) (ttup 1 (tacons (tvar 10) (tanil)))) (tsl false (tvar 6) (toso (t2 (binV false .Add) (tvar 9) (tcon (.int 1)))) (tono))) (tacons (tcon (.int 5)) (tanil))))) (tanil)))) (tsl false (tvar 0) (toso (tcon (.int 2))) (tono))) (tanil)))) (snil))) t__law_by_hand_6
def t__law_by_hand_4 : TS3 := sseq (sfor (iseq (tlst false (tacons (ttup 0 (tanil)) (tacons (t2 (binV false .Mult) (ttup 1 (tacons (tvar 6) (tanil))) (tcon (.int 13))) (tacons (tlst false (tacons (tvar 6) (tanil))) (tacons (ttup 2 (tacons (tvar 6) (tacons (tsl false (tvar 6) (tono) (toso (tcon (.int 5)))) (tanil)))) (tacons (ttup 3 (tacons (tvar 6) (tacons (tvar 6) (tacons (tcon .non) (tanil))))) (tacons (tcon .non) (tanil))))))))) (.nm 2) (sseq (sexp (tbm .append (tvar 8) (tacons (t2 (binV false .Add) (tsl false (tvar 0) (tono) (toso (tcon (.int 1)))) (ttup 4 (tacons (tvar 2) (tacons (tcon (.int 5)) (tacons (tcon (.int 5)) (tacons (tcon (.int 5)) (tanil))))))) (tanil)))) (snil))) t__law_by_hand_5
def t__law_by_hand_3 : TS3 := sseq (sexp (tbm .append (tvar 8) (tacons (ttup 5 (tacons (tvar 7) (tacons (t2 (binV false .Mult) (ttup 1 (tacons (tvar 6) (tanil))) (tcon (.int 12))) (tacons (tcl (bfV false .tuple) (tacons (tlc false (iseq (tvar 7)) (.nm 12) (tyes) (ttup 2 (tacons (tvar 12) (tacons (tcon (.int 99)) (tanil)))) [12]) (tanil))) (tacons (t2 (binV false .Mult) (ttup 1 (tacons (tcon (.int 30)) (tanil))) (tcon (.int 7))) (tacons (t2 (binV false .Mult) (ttup 1 (tacons (tcon (.int 9)) (tanil))) (tcon (.int 7))) (tanil))))))) (tanil)))) t__law_by_hand_4
def t__law_by_hand_2 : TS3 := sseq (sfor (iseq (tlst false (tacons (tvar 7) (tacons (t2 (binV false .Add) (tvar 7) (ttup 1 (tacons (tcon (.str "h")) (tanil)))) (tacons (ttup 1 (tacons (tcon (.str "a")) (tanil))) (tacons (ttup 2 (tacons (tcon (.str "b")) (tacons (tcon (.str "a")) (tanil)))) (tacons (ttup 2 (tacons (tcon (.str "a")) (tacons (tcon (.str "a")) (tanil)))) (tacons (ttup 2 (tacons (tcon (.str "a")) (tacons (tcon (.str "B")) (tanil)))) (tacons (tlst false (tacons (tcon (.str "a")) (tacons (tcon (.str "b")) (tanil)))) (tacons (tcon (.str "ab")) (tacons (ttup 2 (tacons (tcon (.str "a")) (tacons (tcon .non) (tanil)))) (tanil)))))))))))) (.nm 1) (sseq (sexp (tbm .append (tvar 8) (tacons (ttup 5 (tacons (tvar 1) (tacons (tcon (.int 5)) (tacons (tcon (.int 5)) (tacons (tcon (.int 5)) (tacons (tcon (.int 5)) (tanil))))))) (tanil)))) (snil))) t__law_by_hand_3
def t__law_by_hand_1 : TS3 := sseq (sasg (ttup 5 (tacons (ttup 2 (tacons (tcon (.str "a")) (tacons (tcon (.str "b")) (tanil)))) (tacons (ttup 1 (tacons (tvar 6) (tanil))) (tacons (ttup 1 (tacons (ttup 2 (tacons (tcon (.str "a")) (tacons (tcon .non) (tanil)))) (tanil))) (tacons (ttup 2 (tacons (tcon (.int 0)) (tacons (tcon (.int 1)) (tanil)))) (tacons (ttup 2 (tacons (tcon (.int 0)) (tacons (tcon (.int 0)) (tanil)))) (tanil))))))) (gnm 0)) t__law_by_hand_2
def t__law_by_hand : TS3 := sseq (spar3 6 7 8 (tacons (ttup 6 (tacons (tcon (.str "a")) (tacons (tcon (.str "b")) (tacons (tcon (.str "one")) (tacons (tcon (.int 1)) (tacons (tcon (.int 1)) (tacons (tcon .non) (tanil)))))))) (tacons (tcl tupSV (tacons (tcon (.str "abcdefg")) (tanil))) (tacons (tlst true (tanil)) (tanil))))) t__law_by_hand_1
def f__law_by_hand : F3 := fun ds => run3 t__law_by_hand (start3 N__law_by_hand ds)
theorem b__law_by_hand {P : Program} {w : World} {K : PySem.W.Frag} {mg : Str → Option Value} {base : Heap} (T : Tx P w K mg base) {cdv : Value} {A : Around} {outer : List Env} {s : Shared} {H : Hp} {E : XK} (B : Bd (cn K) (cx3 P w K mg base N__law_by_hand "_law_by_hand" s__law_by_hand (He.fAd K ("_law_by_hand", none)) cdv A outer s H E) (fun c d _ H' => E c d H') 14) :
    PSs (cx3 P w K mg base N__law_by_hand "_law_by_hand" s__law_by_hand (He.fAd K ("_law_by_hand", none)) cdv A outer s H E) (defBody s__law_by_hand) (upS (cn K) (fun c d _ H' => E c d H') t__law_by_hand) := (pss_cons3 (ps_par3V (i := 6) (j := 7) (l := 8) B.hc B.hN rfl rfl rfl (by decide) (by decide) (by decide) rfl rfl rfl (pa_cons3 (pe_tup3 (pa_cons3 c_str (pa_cons3 c_str (pa_cons3 c_str (pa_cons3 c_int (pa_cons3 c_int (pa_cons3 c_non pa_nil3 rfl) rfl) rfl) rfl) rfl) rfl)) (pa_cons3 (pe_tupS3 B rfl T.n_tuple (pa_cons3 c_str pa_nil3 rfl) rfl rfl) (pa_cons3 (pe_lst3 (w := true) pa_nil3) pa_nil3 rfl) rfl) rfl) rfl rfl) (pss_cons3 (ps_set3 (i := 0) B.hN rfl (.inl rfl) (pe_tup3 (pa_cons3 (pe_tup3 (pa_cons3 c_str (pa_cons3 c_str pa_nil3 rfl) rfl)) (pa_cons3 (pe_tup3 (pa_cons3 (v3 6) pa_nil3 rfl)) (pa_cons3 (pe_tup3 (pa_cons3 (pe_tup3 (pa_cons3 c_str (pa_cons3 c_non pa_nil3 rfl) rfl)) pa_nil3 rfl)) (pa_cons3 (pe_tup3 (pa_cons3 c_int (pa_cons3 c_int pa_nil3 rfl) rfl)) (pa_cons3 (pe_tup3 (pa_cons3 c_int (pa_cons3 c_int pa_nil3 rfl) rfl)) pa_nil3 rfl) rfl) rfl) rfl) rfl)) rfl (.inr rfl)) (pss_cons3 (ps_for3 (g := (.nm 1)) B.hp B.hc (pi_seq3 B.hK (pe_lst3 (w := false) (pa_cons3 (v3 7) (pa_cons3 (pe_bin3 (opB_ok B.hK) (v3 7) (pe_tup3 (pa_cons3 c_str pa_nil3 rfl))) (pa_cons3 (pe_tup3 (pa_cons3 c_str pa_nil3 rfl)) (pa_cons3 (pe_tup3 (pa_cons3 c_str (pa_cons3 c_str pa_nil3 rfl) rfl)) (pa_cons3 (pe_tup3 (pa_cons3 c_str (pa_cons3 c_str pa_nil3 rfl) rfl)) (pa_cons3 (pe_tup3 (pa_cons3 c_str (pa_cons3 c_str pa_nil3 rfl) rfl)) (pa_cons3 (pe_lst3 (w := false) (pa_cons3 c_str (pa_cons3 c_str pa_nil3 rfl) rfl)) (pa_cons3 c_str (pa_cons3 (pe_tup3 (pa_cons3 c_str (pa_cons3 c_non pa_nil3 rfl) rfl)) pa_nil3 rfl) rfl) rfl) rfl) rfl) rfl) rfl) rfl) rfl))) (pg_name B.hN rfl (.inl rfl) (.inr rfl)) (pss_cons3 (ps_exp3 (pe_app3 B.hK (v3 8) (pa_cons3 (pe_tup3 (pa_cons3 (v3 1) (pa_cons3 c_int (pa_cons3 c_int (pa_cons3 c_int (pa_cons3 c_int pa_nil3 rfl) rfl) rfl) rfl) rfl)) pa_nil3 rfl) rfl rfl rfl rfl rfl) rfl) pss_nil3) (fun _ => rfl)) (pss_cons3 (ps_exp3 (pe_app3 B.hK (v3 8) (pa_cons3 (pe_tup3 (pa_cons3 (v3 7) (pa_cons3 (pe_bin3 (opB_ok B.hK) (pe_tup3 (pa_cons3 (v3 6) pa_nil3 rfl)) c_int) (pa_cons3 (pe_bf3 (b := .tuple) (w := false) B rfl rfl T.n_tuple (pa_cons3 (pe_lc3 (w := false) (own := [("room", 12)]) (g := (.nm 12)) (tt := tyes) (te := ttup 2 (tacons (tvar 12) (tacons (tcon (.int 99)) (tanil)))) B.hc B.hN (by decide) (pi_seq3 B.hK (v3 7)) (blkOk_by rfl) (fun s0 H0 cc0 cl0 fp0 => (pg_name (B.blk s0 H0 _ _ fp0).hN rfl (.inl rfl) (.inr rfl))) (fun s0 H0 cc0 cl0 fp0 => pts_nil3) (fun s0 H0 cc0 cl0 fp0 => (pe_tup3 (pa_cons3 (v3 12) (pa_cons3 c_int pa_nil3 rfl) rfl))) (fun _ => rfl)) pa_nil3 rfl) rfl rfl) (pa_cons3 (pe_bin3 (opB_ok B.hK) (pe_tup3 (pa_cons3 c_int pa_nil3 rfl)) c_int) (pa_cons3 (pe_bin3 (opB_ok B.hK) (pe_tup3 (pa_cons3 c_int pa_nil3 rfl)) c_int) pa_nil3 rfl) rfl) rfl) rfl) rfl)) pa_nil3 rfl) rfl rfl rfl rfl rfl) rfl) (pss_cons3 (ps_for3 (g := (.nm 2)) B.hp B.hc (pi_seq3 B.hK (pe_lst3 (w := false) (pa_cons3 (pe_tup3 pa_nil3) (pa_cons3 (pe_bin3 (opB_ok B.hK) (pe_tup3 (pa_cons3 (v3 6) pa_nil3 rfl)) c_int) (pa_cons3 (pe_lst3 (w := false) (pa_cons3 (v3 6) pa_nil3 rfl)) (pa_cons3 (pe_tup3 (pa_cons3 (v3 6) (pa_cons3 (pe_sl3 B.hK (v3 6) po_none3 (po_some3 c_int)) pa_nil3 rfl) rfl)) (pa_cons3 (pe_tup3 (pa_cons3 (v3 6) (pa_cons3 (v3 6) (pa_cons3 c_non pa_nil3 rfl) rfl) rfl)) (pa_cons3 c_non pa_nil3 rfl) rfl) rfl) rfl) rfl) rfl))) (pg_name B.hN rfl (.inl rfl) (.inr rfl)) (pss_cons3 (ps_exp3 (pe_app3 B.hK (v3 8) (pa_cons3 (pe_bin3 (opB_ok B.hK) (pe_sl3 B.hK (v3 0) po_none3 (po_some3 c_int)) (pe_tup3 (pa_cons3 (v3 2) (pa_cons3 c_int (pa_cons3 c_int (pa_cons3 c_int pa_nil3 rfl) rfl) rfl) rfl))) pa_nil3 rfl) rfl rfl rfl rfl rfl) rfl) pss_nil3) (fun _ => rfl)) (pss_cons3 (ps_for3 (g := (.tp (.cons (.nm 9) (.cons (.nm 10) .nil)))) B.hp B.hc (pi_seq3 B.hK (pe_lst3 (w := false) (pa_cons3 (pe_tup3 (pa_cons3 c_int (pa_cons3 c_str pa_nil3 rfl) rfl)) (pa_cons3 (pe_tup3 (pa_cons3 c_int (pa_cons3 c_str pa_nil3 rfl) rfl)) (pa_cons3 (pe_tup3 (pa_cons3 c_int (pa_cons3 c_str pa_nil3 rfl) rfl)) (pa_cons3 (pe_tup3 (pa_cons3 c_int (pa_cons3 c_str pa_nil3 rfl) rfl)) (pa_cons3 (pe_tup3 (pa_cons3 c_int (pa_cons3 c_int pa_nil3 rfl) rfl)) (pa_cons3 (pe_tup3 (pa_cons3 c_int (pa_cons3 c_int pa_nil3 rfl) rfl)) (pa_cons3 (pe_tup3 (pa_cons3 c_int (pa_cons3 c_bl pa_nil3 rfl) rfl)) (pa_cons3 (pe_tup3 (pa_cons3 c_int (pa_cons3 c_int pa_nil3 rfl) rfl)) (pa_cons3 (pe_tup3 (pa_cons3 c_int (pa_cons3 c_int pa_nil3 rfl) rfl)) (pa_cons3 (pe_tup3 (pa_cons3 c_int (pa_cons3 c_int pa_nil3 rfl) rfl)) pa_nil3 rfl) rfl) rfl) rfl) rfl) rfl) rfl) rfl) rfl) rfl))) (pg_tup B.hc (pgs_cons (pg_name B.hN rfl (.inl rfl) (.inr rfl)) (pgs_cons (pg_name B.hN rfl (.inl rfl) (.inr rfl)) pgs_nil rfl) rfl) rfl rfl) (pss_cons3 (ps_exp3 (pe_app3 B.hK (v3 8) (pa_cons3 (pe_bin3 (opB_ok B.hK) (pe_bin3 (opB_ok B.hK) (pe_sl3 B.hK (v3 0) po_none3 (po_some3 c_int)) (pe_tup3 (pa_cons3 (pe_tup3 (pa_cons3 (v3 6) (pa_cons3 (pe_bin3 (opB_ok B.hK) (pe_bin3 (opB_ok B.hK) (pe_sl3 B.hK (v3 6) po_none3 (po_some3 (v3 9))) (pe_tup3 (pa_cons3 (v3 10) pa_nil3 rfl))) (pe_sl3 B.hK (v3 6) (po_some3 (pe_bin3 (opB_ok B.hK) (v3 9) c_int)) po_none3)) (pa_cons3 c_int pa_nil3 rfl) rfl) rfl)) pa_nil3 rfl))) (pe_sl3 B.hK (v3 0) (po_some3 c_int) po_none3)) pa_nil3 rfl) rfl rfl rfl rfl rfl) rfl) pss_nil3) (fun _ => rfl)) (pss_cons3 (ps_for3 (g := (.nm 3)) B.hp B.hc (pi_seq3 B.hK (pe_lst3 (w := false) (pa_cons3 (pe_tup3 pa_nil3) (pa_cons3 (pe_tup3 (pa_cons3 (pe_tup3 (pa_cons3 c_str (pa_cons3 c_int pa_nil3 rfl) rfl)) pa_nil3 rfl)) (pa_cons3 (pe_tup3 (pa_cons3 (pe_tup3 (pa_cons3 c_str (pa_cons3 c_int pa_nil3 rfl) rfl)) pa_nil3 rfl)) (pa_cons3 (pe_tup3 (pa_cons3 (pe_tup3 (pa_cons3 c_str (pa_cons3 c_int pa_nil3 rfl) rfl)) (pa_cons3 (pe_tup3 (pa_cons3 c_str (pa_cons3 c_int pa_nil3 rfl) rfl)) pa_nil3 rfl) rfl)) (pa_cons3 (pe_tup3 (pa_cons3 (pe_tup3 (pa_cons3 c_str (pa_cons3 c_int pa_nil3 rfl) rfl)) (pa_cons3 (pe_tup3 (pa_cons3 c_str (pa_cons3 c_int pa_nil3 rfl) rfl)) pa_nil3 rfl) rfl)) (pa_cons3 (pe_tup3 (pa_cons3 (pe_tup3 (pa_cons3 c_str (pa_cons3 c_int pa_nil3 rfl) rfl)) pa_nil3 rfl)) (pa_cons3 (pe_lst3 (w := false) (pa_cons3 (pe_tup3 (pa_cons3 c_str (pa_cons3 c_int pa_nil3 rfl) rfl)) pa_nil3 rfl)) pa_nil3 rfl) rfl) rfl) rfl) rfl) rfl) rfl))) (pg_name B.hN rfl (.inl rfl) (.inr rfl)) (pss_cons3 (ps_exp3 (pe_app3 B.hK (v3 8) (pa_cons3 (pe_bin3 (opB_ok B.hK) (pe_sl3 B.hK (v3 0) po_none3 (po_some3 c_int)) (pe_tup3 (pa_cons3 (v3 3) (pa_cons3 c_int (pa_cons3 c_int pa_nil3 rfl) rfl) rfl))) pa_nil3 rfl) rfl rfl rfl rfl rfl) rfl) pss_nil3) (fun _ => rfl)) (pss_cons3 (ps_for3 (g := (.nm 4)) B.hp B.hc (pi_seq3 B.hK (pe_lst3 (w := false) (pa_cons3 (pe_tup3 (pa_cons3 c_int pa_nil3 rfl)) (pa_cons3 (pe_tup3 (pa_cons3 c_int (pa_cons3 c_int pa_nil3 rfl) rfl)) (pa_cons3 (pe_tup3 (pa_cons3 c_int (pa_cons3 (pe_un3 opN_ok c_int) pa_nil3 rfl) rfl)) (pa_cons3 (pe_tup3 (pa_cons3 c_int (pa_cons3 c_bl pa_nil3 rfl) rfl)) (pa_cons3 (pe_lst3 (w := false) (pa_cons3 c_int (pa_cons3 c_int pa_nil3 rfl) rfl)) (pa_cons3 (pe_tup3 (pa_cons3 c_int (pa_cons3 c_int (pa_cons3 c_int pa_nil3 rfl) rfl) rfl)) (pa_cons3 c_non (pa_cons3 (pe_tup3 (pa_cons3 c_int (pa_cons3 c_str pa_nil3 rfl) rfl)) (pa_cons3 (pe_tup3 (pa_cons3 c_int (pa_cons3 c_int pa_nil3 rfl) rfl)) pa_nil3 rfl) rfl) rfl) rfl) rfl) rfl) rfl) rfl) rfl))) (pg_name B.hN rfl (.inl rfl) (.inr rfl)) (pss_cons3 (ps_set3 (i := 8) B.hN rfl (.inl rfl) (pe_bin3 (opB_ok B.hK) (v3 8) (pe_lst3 (w := false) (pa_cons3 (pe_bin3 (opB_ok B.hK) (pe_sl3 B.hK (v3 0) po_none3 (po_some3 c_int)) (pe_tup3 (pa_cons3 (v3 4) (pa_cons3 c_int pa_nil3 rfl) rfl))) (pa_cons3 (pe_bin3 (opB_ok B.hK) (pe_sl3 B.hK (v3 0) po_none3 (po_some3 c_int)) (pe_tup3 (pa_cons3 (v3 4) pa_nil3 rfl))) pa_nil3 rfl) rfl))) rfl (.inr rfl)) pss_nil3) (fun _ => rfl)) (pss_cons3 (ps_for3 (g := (.nm 5)) B.hp B.hc (pi_seq3 B.hK (pe_lst3 (w := false) (pa_cons3 c_non (pa_cons3 (pe_tup3 (pa_cons3 c_int (pa_cons3 c_int pa_nil3 rfl) rfl)) (pa_cons3 (pe_tup3 (pa_cons3 c_int (pa_cons3 c_int pa_nil3 rfl) rfl)) (pa_cons3 (pe_tup3 pa_nil3) (pa_cons3 c_str pa_nil3 rfl) rfl) rfl) rfl) rfl))) (pg_name B.hN rfl (.inl rfl) (.inr rfl)) (pss_cons3 (ps_exp3 (pe_app3 B.hK (v3 8) (pa_cons3 (pe_bin3 (opB_ok B.hK) (pe_sl3 B.hK (v3 0) po_none3 (po_some3 c_int)) (pe_tup3 (pa_cons3 (v3 5) pa_nil3 rfl))) pa_nil3 rfl) rfl rfl rfl rfl rfl) rfl) pss_nil3) (fun _ => rfl)) (pss_cons3 (ps_ret3 (pe_cmp3 (opC_ok B.hu B.hK) (pe_lc3 (w := false) (own := [("each", 11)]) (g := (.nm 11)) (tt := tnot (ttru (tcf 5 f__law_are_refused [] (tacons (t2 ixV (tvar 11) (tcon (.int 0))) (tacons (t2 ixV (tvar 11) (tcon (.int 1))) (tacons (t2 ixV (tvar 11) (tcon (.int 2))) (tacons (t2 ixV (tvar 11) (tcon (.int 3))) (tacons (t2 ixV (tvar 11) (tcon (.int 4))) (tanil))))))))) (te := tvar 11) B.hc B.hN (by decide) (pi_seq3 B.hK (v3 8)) (blkOk_by rfl) (fun s0 H0 cc0 cl0 fp0 => (pg_name (B.blk s0 H0 _ _ fp0).hN rfl (.inl rfl) (.inr rfl))) (fun s0 H0 cc0 cl0 fp0 => (pts_one (pt_not3 (pt_tru (B.blk s0 H0 _ _ fp0).hK (c_call (Dok.of rfl (D__law_are_refused T)) (B.blk s0 H0 _ _ fp0) (by decide) List.mem_cons_self T.m__law_are_refused rfl (pa_cons3 (pe_ix3 (B.blk s0 H0 _ _ fp0).hu1 (B.blk s0 H0 _ _ fp0).hK (v3 11) c_int (fun _ _ => rfl)) (pa_cons3 (pe_ix3 (B.blk s0 H0 _ _ fp0).hu1 (B.blk s0 H0 _ _ fp0).hK (v3 11) c_int (fun _ _ => rfl)) (pa_cons3 (pe_ix3 (B.blk s0 H0 _ _ fp0).hu1 (B.blk s0 H0 _ _ fp0).hK (v3 11) c_int (fun _ _ => rfl)) (pa_cons3 (pe_ix3 (B.blk s0 H0 _ _ fp0).hu1 (B.blk s0 H0 _ _ fp0).hK (v3 11) c_int (fun _ _ => rfl)) (pa_cons3 (pe_ix3 (B.blk s0 H0 _ _ fp0).hu1 (B.blk s0 H0 _ _ fp0).hK (v3 11) c_int (fun _ _ => rfl)) pa_nil3 rfl) rfl) rfl) rfl) rfl) (by decide) rfl rfl) (fun _ => rfl))))) (fun s0 H0 cc0 cl0 fp0 => (v3 11)) (fun _ => rfl)) (pe_lst3 (w := false) pa_nil3) (nomark _))) pss_nil3))))))))))
theorem D__law_by_hand {P : Program} {w : World} {K : PySem.W.Frag} {mg : Str → Option Value} {base : Heap} (T : Tx P w K mg base) : Dok P w K mg base (cn K) 15 (He.fAd K ("_law_by_hand", none)) [] 0 f__law_by_hand [[]] := by
  obtain ⟨fd, F⟩ := T.F__law_by_hand
  refine ⟨fd, fn3 F rfl sc__law_by_hand rfl (fun cdv A outer s H E _ B => b__law_by_hand T B), F.kp, ?_⟩
  · exact ar_nil (F.bindsN (fun _ _ _ _ _ _ us hl => match us, hl with | [], _ => rfl))
/-! ### _law_right -/
abbrev s__law_right : Stmt := top 69
abbrev N__law_right : List Str := ["draws", "turn", "way", "rooms", "doors", "exits", "people", "bells"]
theorem sc__law_right : FnScope N__law_right ["draws"] (defScope s__law_right) := ⟨rfl, rfl, rfl, by decide +kernel, rfl, by decide +kernel, by decide +kernel⟩
def t__law_right : TS3 := sseq (sfor (irng1 (tcon (.int 14))) (.nm 1) (sseq (sasg (tcf 3 f__law_house [] (tacons (tvar 0) (tacons (t2 (binV false .Add) (tcon (.int 2)) (tcf 2 f__law_take [] (tacons (tvar 0) (tacons (tcon (.int 6)) (tanil))))) (tacons (t2 (binV false .Add) (tcon (.int 1)) (tcf 2 f__law_take [] (tacons (tvar 0) (tacons (tcon (.int 12)) (tanil))))) (tanil))))) (gtp 5 (gsc (gnm 3) (gsc (gnm 4) (gsc (gnm 5) (gsc (gnm 6) (gsc (gnm 7) (gsn)))))))) (sseq (sasg (tcf 2 f__law_take [] (tacons (tvar 0) (tacons (tcon (.int 7)) (tanil)))) (gnm 2)) (sseq (sif (tbl (t2 (cmpV .Eq) (tvar 2) (tcon (.int 0)))) (sseq (sasg (tcf 2 f__law_bent [] (tacons (tvar 0) (tacons (tvar 3) (tanil)))) (gnm 3)) (snil)) (snil)) (sseq (sif (tbl (t2 (cmpV .In) (tvar 2) (ttup 2 (tacons (tcon (.int 1)) (tacons (tcon (.int 6)) (tanil)))))) (sseq (sasg (tcf 2 f__law_bent [] (tacons (tvar 0) (tacons (tvar 4) (tanil)))) (gnm 4)) (snil)) (snil)) (sseq (sif (tbl (t2 (cmpV .In) (tvar 2) (ttup 3 (tacons (tcon (.int 2)) (tacons (tcon (.int 5)) (tacons (tcon (.int 6)) (tanil))))))) (sseq (sasg (tcf 2 f__law_bent [] (tacons (tvar 0) (tacons (tvar 5) (tanil)))) (gnm 5)) (snil)) (snil)) (sseq (sif (tbl (t2 (cmpV .In) (tvar 2) (ttup 2 (tacons (tcon (.int 3)) (tacons (tcon (.int 5)) (tanil)))))) (sseq (sasg (tcf 2 f__law_bent [] (tacons (tvar 0) (tacons (tvar 6) (tanil)))) (gnm 6)) (snil)) (snil)) (sseq (sif (tbl (t2 (cmpV .In) (tvar 2) (ttup 2 (tacons (tcon (.int 4)) (tacons (tcon (.int 5)) (tanil)))))) (sseq (sasg (tcf 2 f__law_bent [] (tacons (tvar 0) (tacons (tvar 7) (tanil)))) (gnm 7)) (snil)) (snil)) (sseq (sif (tnot (ttru (tcf 5 f__law_are_refused [] (tacons (tvar 3) (tacons (tvar 4) (tacons (tvar 5) (tacons (tvar 6) (tacons (tvar 7) (tanil))))))))) (sseq (sret (tcon (.bl false))) (snil)) (snil)) (snil)))))))))) (sseq (sret (tcf 0 f__law_by_hand [] tanil)) (snil))
def f__law_right : F3 := fun ds => run3 t__law_right (start3 N__law_right ds)
theorem b__law_right {P : Program} {w : World} {K : PySem.W.Frag} {mg : Str → Option Value} {base : Heap} (T : Tx P w K mg base) {cdv : Value} {A : Around} {outer : List Env} {s : Shared} {H : Hp} {E : XK} (B : Bd (cn K) (cx3 P w K mg base N__law_right "_law_right" s__law_right (He.fAd K ("_law_right", none)) cdv A outer s H E) (fun c d _ H' => E c d H') 15) :
    PSs (cx3 P w K mg base N__law_right "_law_right" s__law_right (He.fAd K ("_law_right", none)) cdv A outer s H E) (defBody s__law_right) (upS (cn K) (fun c d _ H' => E c d H') t__law_right) := (pss_cons3 (ps_for3 (g := (.nm 1)) B.hp B.hc (pi_rng1 rfl T.n_range c_int rfl) (pg_name B.hN rfl (.inl rfl) (.inr rfl)) (pss_cons3 (ps_asg3 (c_call (Dok.of rfl (D__law_house T)) B (by decide) List.mem_cons_self T.m__law_house rfl (pa_cons3 (v3 0) (pa_cons3 (pe_bin3 (opB_ok B.hK) c_int (c_call (Dok.of rfl (D__law_take T)) B (by decide) List.mem_cons_self T.m__law_take rfl (pa_cons3 (v3 0) (pa_cons3 c_int pa_nil3 rfl) rfl) (by decide) rfl rfl)) (pa_cons3 (pe_bin3 (opB_ok B.hK) c_int (c_call (Dok.of rfl (D__law_take T)) B (by decide) List.mem_cons_self T.m__law_take rfl (pa_cons3 (v3 0) (pa_cons3 c_int pa_nil3 rfl) rfl) (by decide) rfl rfl)) pa_nil3 rfl) rfl) rfl) (by decide) rfl rfl) (pg_tp3 B.hc (pgs_c3 (pg_nm3 B.hN rfl (.inl rfl) (.inr rfl)) (pgs_c3 (pg_nm3 B.hN rfl (.inl rfl) (.inr rfl)) (pgs_c3 (pg_nm3 B.hN rfl (.inl rfl) (.inr rfl)) (pgs_c3 (pg_nm3 B.hN rfl (.inl rfl) (.inr rfl)) (pgs_c3 (pg_nm3 B.hN rfl (.inl rfl) (.inr rfl)) pgs_n3 rfl) rfl) rfl) rfl) rfl) rfl rfl) rfl rfl rfl) (pss_cons3 (ps_set3 (i := 2) B.hN rfl (.inl rfl) (c_call (Dok.of rfl (D__law_take T)) B (by decide) List.mem_cons_self T.m__law_take rfl (pa_cons3 (v3 0) (pa_cons3 c_int pa_nil3 rfl) rfl) (by decide) rfl rfl) rfl (.inr rfl)) (pss_cons3 (ps_if3 (pt_cmp3 (opC_ok B.hu B.hK) (v3 2) c_int (nomark _)) (pss_cons3 (ps_set3 (i := 3) B.hN rfl (.inl rfl) (c_call (Dok.of rfl (D__law_bent T)) B (by decide) List.mem_cons_self T.m__law_bent rfl (pa_cons3 (v3 0) (pa_cons3 (v3 3) pa_nil3 rfl) rfl) (by decide) rfl rfl) rfl (.inr rfl)) pss_nil3) pss_nil3) (pss_cons3 (ps_if3 (pt_cmp3 (opC_ok B.hu B.hK) (v3 2) (pe_tup3 (pa_cons3 c_int (pa_cons3 c_int pa_nil3 rfl) rfl)) rfl) (pss_cons3 (ps_set3 (i := 4) B.hN rfl (.inl rfl) (c_call (Dok.of rfl (D__law_bent T)) B (by decide) List.mem_cons_self T.m__law_bent rfl (pa_cons3 (v3 0) (pa_cons3 (v3 4) pa_nil3 rfl) rfl) (by decide) rfl rfl) rfl (.inr rfl)) pss_nil3) pss_nil3) (pss_cons3 (ps_if3 (pt_cmp3 (opC_ok B.hu B.hK) (v3 2) (pe_tup3 (pa_cons3 c_int (pa_cons3 c_int (pa_cons3 c_int pa_nil3 rfl) rfl) rfl)) rfl) (pss_cons3 (ps_set3 (i := 5) B.hN rfl (.inl rfl) (c_call (Dok.of rfl (D__law_bent T)) B (by decide) List.mem_cons_self T.m__law_bent rfl (pa_cons3 (v3 0) (pa_cons3 (v3 5) pa_nil3 rfl) rfl) (by decide) rfl rfl) rfl (.inr rfl)) pss_nil3) pss_nil3) (pss_cons3 (ps_if3 (pt_cmp3 (opC_ok B.hu B.hK) (v3 2) (pe_tup3 (pa_cons3 c_int (pa_cons3 c_int pa_nil3 rfl) rfl)) rfl) (pss_cons3 (ps_set3 (i := 6) B.hN rfl (.inl rfl) (c_call (Dok.of rfl (D__law_bent T)) B (by decide) List.mem_cons_self T.m__law_bent rfl (pa_cons3 (v3 0) (pa_cons3 (v3 6) pa_nil3 rfl) rfl) (by decide) rfl rfl) rfl (.inr rfl)) pss_nil3) pss_nil3) (pss_cons3 (ps_if3 (pt_cmp3 (opC_ok B.hu B.hK) (v3 2) (pe_tup3 (pa_cons3 c_int (pa_cons3 c_int pa_nil3 rfl) rfl)) rfl) (pss_cons3 (ps_set3 (i := 7) B.hN rfl (.inl rfl) (c_call (Dok.of rfl (D__law_bent T)) B (by decide) List.mem_cons_self T.m__law_bent rfl (pa_cons3 (v3 0) (pa_cons3 (v3 7) pa_nil3 rfl) rfl) (by decide) rfl rfl) rfl (.inr rfl)) pss_nil3) pss_nil3) (pss_cons3 (ps_if3 (pt_not3 (pt_tru B.hK (c_call (Dok.of rfl (D__law_are_refused T)) B (by decide) List.mem_cons_self T.m__law_are_refused rfl (pa_cons3 (v3 3) (pa_cons3 (v3 4) (pa_cons3 (v3 5) (pa_cons3 (v3 6) (pa_cons3 (v3 7) pa_nil3 rfl) rfl) rfl) rfl) rfl) (by decide) rfl rfl) (fun _ => rfl))) (pss_cons3 (ps_ret3 c_bl) pss_nil3) pss_nil3) pss_nil3)))))))) (fun _ => rfl)) (pss_cons3 (ps_ret3 (c_call0 (Dok.of rfl (D__law_by_hand T)) B (by decide) List.mem_cons_self T.m__law_by_hand rfl (by decide))) pss_nil3))
theorem D__law_right {P : Program} {w : World} {K : PySem.W.Frag} {mg : Str → Option Value} {base : Heap} (T : Tx P w K mg base) : Dok P w K mg base (cn K) 16 (He.fAd K ("_law_right", none)) ["draws"] 1 f__law_right [[]] := by
  obtain ⟨fd, F⟩ := T.F__law_right
  refine ⟨fd, fn3 F rfl sc__law_right rfl (fun cdv A outer s H E _ B => b__law_right T B), F.kp, ?_⟩
  · exact ar_nil (F.bindsN (fun _ _ _ _ _ _ us hl => match us, hl with | [_], _ => rfl))
/-! ### _law_purse -/
abbrev s__law_purse : Stmt := top 49
abbrev N__law_purse : List Str := ["cells", "at", "cell", "seed", "other"]
theorem sc__law_purse : FnScope N__law_purse ["cells", "at"] (defScope s__law_purse) := ⟨rfl, rfl, rfl, by decide +kernel, rfl, by decide +kernel, by decide +kernel⟩
def t__law_purse_3 : TS3 := sseq (sret (tlst true (tacons (tife (tbl (t2 (cmpV .GtE) (tcl (bfV false .abs) (tacons (tvar 2) (tanil))) (t2 (binV false .Pow) (tcon (.int 10)) (tcon (.int 18))))) (tcl (bfV false .abs) (tacons (tvar 2) (tanil))) (tcon (.int 0))) (tacons (tvar 3) (tacons (tcon (.int 0)) (tanil)))))) snil
def t__law_purse_2 : TS3 := sseq (sfor (iseq (tife (tbl (t2 (cmpV .GtE) (tvar 1) (tcl (bfV false .len) (tacons (tvar 0) (tanil))))) (tsl false (tvar 0) (tono) (toso (tcon (.int 4)))) (tlst false (tanil)))) (.nm 4) (sseq (sasg (t2 (binV false .Mod) (tcl (bfV false .int) (tacons (t2 (binV false .Add) (t2 (binV false .Mult) (tvar 3) (tcon (.int 45991))) (tvar 4)) (tanil))) (tcon (.int 2147483549))) (gnm 3)) (snil))) t__law_purse_3
def t__law_purse_1 : TS3 := sseq (sasg (t2 (binV false .Mod) (tcl (bfV false .int) (tacons (t2 (binV false .Add) (t2 (binV false .Add) (t2 (binV false .Mult) (tvar 2) (tcon (.int 40014))) (t2 (binV false .Mult) (tvar 1) (tcon (.int 39373)))) (tcon (.int 70001))) (tanil))) (tcon (.int 2147483549))) (gnm 3)) t__law_purse_2
def t__law_purse : TS3 := sseq (sasg (tife (tbl (t2 (cmpV .Lt) (tvar 1) (tcl (bfV false .len) (tacons (tvar 0) (tanil))))) (t2 ixV (tvar 0) (tvar 1)) (tcon (.int 0))) (gnm 2)) t__law_purse_1
def f__law_purse : F3 := fun ds => run3 t__law_purse (start3 N__law_purse ds)
theorem b__law_purse {P : Program} {w : World} {K : PySem.W.Frag} {mg : Str → Option Value} {base : Heap} (T : Tx P w K mg base) {cdv : Value} {A : Around} {outer : List Env} {s : Shared} {H : Hp} {E : XK} (B : Bd (cn K) (cx3 P w K mg base N__law_purse "_law_purse" s__law_purse (He.fAd K ("_law_purse", none)) cdv A outer s H E) (fun c d _ H' => E c d H') 0) :
    PSs (cx3 P w K mg base N__law_purse "_law_purse" s__law_purse (He.fAd K ("_law_purse", none)) cdv A outer s H E) (defBody s__law_purse) (upS (cn K) (fun c d _ H' => E c d H') t__law_purse) := (pss_cons3 (ps_set3 (i := 2) B.hN rfl (.inl rfl) (pe_ife3 (pt_cmp3 (opC_ok B.hu B.hK) (v3 1) (pe_bf3 (b := .len) (w := false) B rfl rfl T.n_len (pa_cons3 (v3 0) pa_nil3 rfl) rfl rfl) (nomark _)) (pe_ix3 B.hu1 B.hK (v3 0) (v3 1) (fun _ _ => rfl)) c_int) rfl (.inr rfl)) (pss_cons3 (ps_set3 (i := 3) B.hN rfl (.inl rfl) (pe_bin3 (opB_ok B.hK) (pe_bf3 (b := .int) (w := false) B rfl rfl T.n_int (pa_cons3 (pe_bin3 (opB_ok B.hK) (pe_bin3 (opB_ok B.hK) (pe_bin3 (opB_ok B.hK) (v3 2) c_int) (pe_bin3 (opB_ok B.hK) (v3 1) c_int)) c_int) pa_nil3 rfl) rfl rfl) c_int) rfl (.inr rfl)) (pss_cons3 (ps_for3 (g := (.nm 4)) B.hp B.hc (pi_seq3 B.hK (pe_ife3 (pt_cmp3 (opC_ok B.hu B.hK) (v3 1) (pe_bf3 (b := .len) (w := false) B rfl rfl T.n_len (pa_cons3 (v3 0) pa_nil3 rfl) rfl rfl) (nomark _)) (pe_sl3 B.hK (v3 0) po_none3 (po_some3 c_int)) (pe_lst3 (w := false) pa_nil3))) (pg_name B.hN rfl (.inl rfl) (.inr rfl)) (pss_cons3 (ps_set3 (i := 3) B.hN rfl (.inl rfl) (pe_bin3 (opB_ok B.hK) (pe_bf3 (b := .int) (w := false) B rfl rfl T.n_int (pa_cons3 (pe_bin3 (opB_ok B.hK) (pe_bin3 (opB_ok B.hK) (v3 3) c_int) (v3 4)) pa_nil3 rfl) rfl rfl) c_int) rfl (.inr rfl)) pss_nil3) (fun _ => rfl)) (pss_cons3 (ps_ret3 (pe_lst3 (w := true) (pa_cons3 (pe_ife3 (pt_cmp3 (opC_ok B.hu B.hK) (pe_bf3 (b := .abs) (w := false) B rfl rfl T.n_abs (pa_cons3 (v3 2) pa_nil3 rfl) rfl rfl) (pe_bin3 (opB_ok B.hK) c_int c_int) (nomark _)) (pe_bf3 (b := .abs) (w := false) B rfl rfl T.n_abs (pa_cons3 (v3 2) pa_nil3 rfl) rfl rfl) c_int) (pa_cons3 (v3 3) (pa_cons3 c_int pa_nil3 rfl) rfl) rfl))) pss_nil3))))
theorem D__law_purse {P : Program} {w : World} {K : PySem.W.Frag} {mg : Str → Option Value} {base : Heap} (T : Tx P w K mg base) : Dok P w K mg base (cn K) 1 (He.fAd K ("_law_purse", none)) ["cells", "at"] 2 f__law_purse [[]] := by
  obtain ⟨fd, F⟩ := T.F__law_purse
  refine ⟨fd, fn3 F rfl sc__law_purse rfl (fun cdv A outer s H E _ B => b__law_purse T B), F.kp, ?_⟩
  · exact ar_nil (F.bindsN (fun _ _ _ _ _ _ us hl => match us, hl with | [_, _], _ => rfl))
/-! ### law -/
abbrev s_law : Stmt := top 70
abbrev N_law : List Str := ["cells", "at"]
theorem sc_law : FnScope N_law ["cells"] (defScope s_law) := ⟨rfl, rfl, rfl, by decide +kernel, rfl, by decide +kernel, by decide +kernel⟩
def t_law : TS3 := sseq (sret (tcl (bfV false .all) (tacons (tlc false (irng1 (tcl (bfV false .max2) (tacons (tcon (.int 2)) (tacons (tcl (bfV false .min2) (tacons (tcl (bfV false .len) (tacons (tvar 0) (tanil))) (tacons (tcon (.int 3)) (tanil)))) (tanil))))) (.nm 1) (tyes) (tcf 1 f__law_right [] (tacons (tcf 2 f__law_purse [] (tacons (tvar 0) (tacons (tvar 1) (tanil)))) (tanil))) [1]) (tanil)))) (snil)
def f_law : F3 := fun ds => run3 t_law (start3 N_law ds)
theorem b_law {P : Program} {w : World} {K : PySem.W.Frag} {mg : Str → Option Value} {base : Heap} (T : Tx P w K mg base) {cdv : Value} {A : Around} {outer : List Env} {s : Shared} {H : Hp} {E : XK} (B : Bd (cn K) (cx3 P w K mg base N_law "law" s_law (He.fAd K ("law", none)) cdv A outer s H E) (fun c d _ H' => E c d H') 16) :
    PSs (cx3 P w K mg base N_law "law" s_law (He.fAd K ("law", none)) cdv A outer s H E) (defBody s_law) (upS (cn K) (fun c d _ H' => E c d H') t_law) := (pss_cons3 (ps_ret3 (pe_bf3 (b := .all) (w := false) B rfl rfl T.n_all (pa_cons3 (pe_lc3 (w := false) (own := [("at", 1)]) (g := (.nm 1)) (tt := tyes) (te := tcf 1 f__law_right [] (tacons (tcf 2 f__law_purse [] (tacons (tvar 0) (tacons (tvar 1) (tanil)))) (tanil))) B.hc B.hN (by decide) (pi_rng1 rfl T.n_range (pe_bf3 (b := .max2) (w := false) B rfl rfl T.n_max (pa_cons3 c_int (pa_cons3 (pe_bf3 (b := .min2) (w := false) B rfl rfl T.n_min (pa_cons3 (pe_bf3 (b := .len) (w := false) B rfl rfl T.n_len (pa_cons3 (v3 0) pa_nil3 rfl) rfl rfl) (pa_cons3 c_int pa_nil3 rfl) rfl) rfl rfl) pa_nil3 rfl) rfl) rfl rfl) rfl) (blkOk_by rfl) (fun s0 H0 cc0 cl0 fp0 => (pg_name (B.blk s0 H0 _ _ fp0).hN rfl (.inl rfl) (.inr rfl))) (fun s0 H0 cc0 cl0 fp0 => pts_nil3) (fun s0 H0 cc0 cl0 fp0 => (c_call (Dok.of rfl (D__law_right T)) (B.blk s0 H0 _ _ fp0) (by decide) List.mem_cons_self T.m__law_right rfl (pa_cons3 (c_call (Dok.of rfl (D__law_purse T)) (B.blk s0 H0 _ _ fp0) (by decide) List.mem_cons_self T.m__law_purse rfl (pa_cons3 (v3 0) (pa_cons3 (v3 1) pa_nil3 rfl) rfl) (by decide) rfl rfl) pa_nil3 rfl) (by decide) rfl rfl)) (fun _ => rfl)) pa_nil3 rfl) rfl rfl)) pss_nil3)
theorem D_law {P : Program} {w : World} {K : PySem.W.Frag} {mg : Str → Option Value} {base : Heap} (T : Tx P w K mg base) : Dok P w K mg base (cn K) 17 (He.fAd K ("law", none)) ["cells"] 1 f_law [[]] := by
  obtain ⟨fd, F⟩ := T.F_law
  refine ⟨fd, fn3 F rfl sc_law rfl (fun cdv A outer s H E _ B => b_law T B), F.kp, ?_⟩
  · exact ar_nil (F.bindsN (fun _ _ _ _ _ _ us hl => match us, hl with | [_], _ => rfl))
end K03
set_option Elab.async false
set_option linter.all false
set_option maxRecDepth 100000
set_option maxHeartbeats 0
namespace K03
open PySem PySem.Spec L2 V3 PyProof.Rows
def fn_p0 : List He.DefD := [
  ⟨("is_whole", none), "is_whole", "is_whole", defArgs (top 10), defBody (top 10), defScope (top 10), [], []⟩,
  ⟨("is_between", none), "is_between", "is_between", defArgs (top 11), defBody (top 11), defScope (top 11), [], []⟩,
  ⟨("is_string", none), "is_string", "is_string", defArgs (top 12), defBody (top 12), defScope (top 12), [], []⟩,
  ⟨("is_made_of", none), "is_made_of", "is_made_of", defArgs (top 13), defBody (top 13), defScope (top 13), [], []⟩,
  ⟨("is_name", none), "is_name", "is_name", defArgs (top 14), defBody (top 14), defScope (top 14), [], []⟩,
  ⟨("is_tuple_of", none), "is_tuple_of", "is_tuple_of", defArgs (top 15), defBody (top 15), defScope (top 15), [], []⟩,
  ⟨("is_row", none), "is_row", "is_row", defArgs (top 16), defBody (top 16), defScope (top 16), [], []⟩,
  ⟨("first_wrong", none), "first_wrong", "first_wrong", defArgs (top 17), defBody (top 17), defScope (top 17), [], []⟩,
  ⟨("is_room_of", none), "is_room_of", "is_room_of", defArgs (top 31), defBody (top 31), defScope (top 31), [], []⟩,
  ⟨("is_none_or", none), "is_none_or", "is_none_or", defArgs (top 32), defBody (top 32), defScope (top 32), [], []⟩,
  ⟨("is_door", none), "is_door", "is_door", defArgs (top 33), defBody (top 33), defScope (top 33), [], []⟩,
  ⟨("is_exit", none), "is_exit", "is_exit", defArgs (top 34), defBody (top 34), defScope (top 34), [], []⟩,
  ⟨("is_exit_behind", none), "is_exit_behind", "is_exit_behind", defArgs (top 35), defBody (top 35), defScope (top 35), [], []⟩,
  ⟨("wrong_room", none), "wrong_room", "wrong_room", defArgs (top 36), defBody (top 36), defScope (top 36), [], []⟩,
  ⟨("wrong_door", none), "wrong_door", "wrong_door", defArgs (top 37), defBody (top 37), defScope (top 37), [], []⟩,
  ⟨("wrong_exit", none), "wrong_exit", "wrong_exit", defArgs (top 38), defBody (top 38), defScope (top 38), [], []⟩,
  ⟨("wrong_number", none), "wrong_number", "wrong_number", defArgs (top 39), defBody (top 39), defScope (top 39), [], []⟩,
  ⟨("is_some_row", none), "is_some_row", "is_some_row", defArgs (top 40), defBody (top 40), defScope (top 40), [], []⟩,
  ⟨("check_rooms", none), "check_rooms", "check_rooms", defArgs (top 41), defBody (top 41), defScope (top 41), [], []⟩,
  ⟨("check_doors", none), "check_doors", "check_doors", defArgs (top 42), defBody (top 42), defScope (top 42), [], []⟩,
  ⟨("check_exits", none), "check_exits", "check_exits", defArgs (top 43), defBody (top 43), defScope (top 43), [], []⟩,
  ⟨("check_numbers", none), "check_numbers", "check_numbers", defArgs (top 44), defBody (top 44), defScope (top 44), [], []⟩,
  ⟨("check_bells", none), "check_bells", "check_bells", defArgs (top 45), defBody (top 45), defScope (top 45), [], []⟩,
  ⟨("House", some "__init__"), "__init__", "House.__init__", defArgs (inC (top 46) 0), defBody (inC (top 46) 0), defScope (inC (top 46) 0), [.non], []⟩,
  ⟨("_law_purse", none), "_law_purse", "_law_purse", defArgs (top 49), defBody (top 49), defScope (top 49), [], []⟩]
def fn_p1 : List He.DefD := [
  ⟨("_law_take", none), "_law_take", "_law_take", defArgs (top 50), defBody (top 50), defScope (top 50), [], []⟩,
  ⟨("_law_pick", none), "_law_pick", "_law_pick", defArgs (top 51), defBody (top 51), defScope (top 51), [], []⟩,
  ⟨("_law_is_number", none), "_law_is_number", "_law_is_number", defArgs (top 52), defBody (top 52), defScope (top 52), [], []⟩,
  ⟨("_law_is_name", none), "_law_is_name", "_law_is_name", defArgs (top 53), defBody (top 53), defScope (top 53), [], []⟩,
  ⟨("_law_names", none), "_law_names", "_law_names", defArgs (top 54), defBody (top 54), defScope (top 54), [], []⟩,
  ⟨("_law_door", none), "_law_door", "_law_door", defArgs (top 55), defBody (top 55), defScope (top 55), [], []⟩,
  ⟨("_law_house", none), "_law_house", "_law_house", defArgs (top 56), defBody (top 56), defScope (top 56), [], []⟩,
  ⟨("_law_odd", none), "_law_odd", "_law_odd", defArgs (top 58), defBody (top 58), defScope (top 58), [], []⟩,
  ⟨("_law_bent", none), "_law_bent", "_law_bent", defArgs (top 59), defBody (top 59), defScope (top 59), [], []⟩,
  ⟨("_law_wrong_rooms", none), "_law_wrong_rooms", "_law_wrong_rooms", defArgs (top 60), defBody (top 60), defScope (top 60), [], []⟩,
  ⟨("_law_is_door", none), "_law_is_door", "_law_is_door", defArgs (top 61), defBody (top 61), defScope (top 61), [], []⟩,
  ⟨("_law_wrong_doors", none), "_law_wrong_doors", "_law_wrong_doors", defArgs (top 62), defBody (top 62), defScope (top 62), [], []⟩,
  ⟨("_law_wrong_exits", none), "_law_wrong_exits", "_law_wrong_exits", defArgs (top 63), defBody (top 63), defScope (top 63), [], []⟩,
  ⟨("_law_wrong_numbers", none), "_law_wrong_numbers", "_law_wrong_numbers", defArgs (top 64), defBody (top 64), defScope (top 64), [], []⟩,
  ⟨("_law_due", none), "_law_due", "_law_due", defArgs (top 65), defBody (top 65), defScope (top 65), [], []⟩,
  ⟨("_law_caught", none), "_law_caught", "_law_caught", defArgs (top 66), defBody (top 66), defScope (top 66), [], []⟩,
  ⟨("_law_are_refused", none), "_law_are_refused", "_law_are_refused", defArgs (top 67), defBody (top 67), defScope (top 67), [], []⟩,
  ⟨("_law_by_hand", none), "_law_by_hand", "_law_by_hand", defArgs (top 68), defBody (top 68), defScope (top 68), [], []⟩,
  ⟨("_law_right", none), "_law_right", "_law_right", defArgs (top 69), defBody (top 69), defScope (top 69), [], []⟩,
  ⟨("law", none), "law", "law", defArgs (top 70), defBody (top 70), defScope (top 70), [], []⟩,
  ⟨("InvalidBells", some "__init__"), "__init__", "InvalidBells.__init__", defArgs (inC (top 6) 0), defBody (inC (top 6) 0), defScope (inC (top 6) 0), [], []⟩,
  ⟨("InvalidDoors", some "__init__"), "__init__", "InvalidDoors.__init__", defArgs (inC (top 3) 0), defBody (inC (top 3) 0), defScope (inC (top 3) 0), [], []⟩,
  ⟨("InvalidExits", some "__init__"), "__init__", "InvalidExits.__init__", defArgs (inC (top 4) 0), defBody (inC (top 4) 0), defScope (inC (top 4) 0), [], []⟩,
  ⟨("InvalidPeople", some "__init__"), "__init__", "InvalidPeople.__init__", defArgs (inC (top 5) 0), defBody (inC (top 5) 0), defScope (inC (top 5) 0), [], []⟩,
  ⟨("InvalidRooms", some "__init__"), "__init__", "InvalidRooms.__init__", defArgs (inC (top 2) 0), defBody (inC (top 2) 0), defScope (inC (top 2) 0), [], []⟩]
def fn : List He.DefD := fn_p0 ++ fn_p1
def fa_p0 : List He.Fa := [
  .glo "law",
  .glo "House",
  .glo "InvalidBells",
  .glo "InvalidDoors",
  .glo "InvalidExits",
  .glo "InvalidPeople",
  .glo "InvalidRooms",
  .glo "_law_are_refused",
  .glo "_law_bent",
  .glo "_law_by_hand",
  .glo "_law_caught",
  .glo "_law_door",
  .glo "_law_due",
  .glo "_law_house",
  .glo "_law_is_door",
  .glo "_law_is_name",
  .glo "_law_is_number",
  .glo "_law_names",
  .glo "_law_odd",
  .glo "_law_pick",
  .glo "_law_purse",
  .glo "_law_right",
  .glo "_law_take",
  .glo "_law_wrong_doors",
  .glo "_law_wrong_exits",
  .glo "_law_wrong_numbers",
  .glo "_law_wrong_rooms",
  .glo "check_bells",
  .glo "check_doors",
  .glo "check_exits"]
def fa_p1 : List He.Fa := [
  .glo "check_numbers",
  .glo "check_rooms",
  .glo "first_wrong",
  .glo "is_between",
  .glo "is_door",
  .glo "is_exit",
  .glo "is_exit_behind",
  .glo "is_made_of",
  .glo "is_name",
  .glo "is_none_or",
  .glo "is_room_of",
  .glo "is_row",
  .glo "is_some_row",
  .glo "is_string",
  .glo "is_tuple_of",
  .glo "is_whole",
  .glo "wrong_door",
  .glo "wrong_exit",
  .glo "wrong_number",
  .glo "wrong_room",
  .free "abs",
  .free "all",
  .free "bool",
  .free "enumerate",
  .free "int",
  .free "isinstance",
  .free "len",
  .free "list",
  .free "max",
  .free "min"]
def fa_p2 : List He.Fa := [
  .free "range",
  .free "repr",
  .free "sorted",
  .free "str",
  .free "tuple",
  .int "FEWEST_ROOMS" 2,
  .int "LONGEST_NAME" 8,
  .int "MOST_BELL" 9,
  .int "MOST_CLOSES" 30,
  .int "MOST_DOORS" 12,
  .int "MOST_PEOPLE" 30,
  .int "MOST_PLACES" 99,
  .int "MOST_ROOMS" 7,
  .int "MOST_STEPS" 3,
  .int "MOST_WIDTH" 9,
  .int "SIZE_OF_DOOR" 6,
  .str "BOTH" "both",
  .str "ONE" "one",
  .str "SMALL_LETTERS" "abcdefghijklmnopqrstuvwxyz",
  .cls "House",
  .mkr "House",
  .noat "InvalidBells" "index",
  .meth "InvalidBells" "__init__",
  .noat "InvalidDoors" "index",
  .meth "InvalidDoors" "__init__",
  .noat "InvalidExits" "index",
  .meth "InvalidExits" "__init__",
  .noat "InvalidPeople" "index",
  .meth "InvalidPeople" "__init__",
  .noat "InvalidRooms" "index"]
def fa_p3 : List He.Fa := [
  .meth "InvalidRooms" "__init__",
  .exm "InvalidRooms" "InvalidBells" false,
  .exm "InvalidDoors" "InvalidBells" false,
  .exm "InvalidExits" "InvalidBells" false,
  .exm "InvalidPeople" "InvalidBells" false,
  .exm "InvalidBells" "InvalidBells" true,
  .exm "InvalidRooms" "InvalidDoors" false,
  .exm "InvalidDoors" "InvalidDoors" true,
  .exm "InvalidExits" "InvalidDoors" false,
  .exm "InvalidPeople" "InvalidDoors" false,
  .exm "InvalidBells" "InvalidDoors" false,
  .exm "InvalidRooms" "InvalidExits" false,
  .exm "InvalidDoors" "InvalidExits" false,
  .exm "InvalidExits" "InvalidExits" true,
  .exm "InvalidPeople" "InvalidExits" false,
  .exm "InvalidBells" "InvalidExits" false,
  .exm "InvalidRooms" "InvalidPeople" false,
  .exm "InvalidDoors" "InvalidPeople" false,
  .exm "InvalidExits" "InvalidPeople" false,
  .exm "InvalidPeople" "InvalidPeople" true,
  .exm "InvalidBells" "InvalidPeople" false,
  .exm "InvalidRooms" "InvalidRooms" true,
  .exm "InvalidDoors" "InvalidRooms" false,
  .exm "InvalidExits" "InvalidRooms" false,
  .exm "InvalidPeople" "InvalidRooms" false,
  .exm "InvalidBells" "InvalidRooms" false]
def fa : List He.Fa := fa_p0 ++ fa_p1 ++ fa_p2 ++ fa_p3
def loose_p0 : List Str := [
  ("OutError" : Str),
  ("InvalidRooms" : Str),
  ("InvalidDoors" : Str),
  ("InvalidExits" : Str),
  ("InvalidPeople" : Str),
  ("InvalidBells" : Str),
  ("SMALL_LETTERS" : Str),
  ("LONGEST_NAME" : Str),
  ("is_whole" : Str),
  ("is_between" : Str),
  ("is_string" : Str),
  ("is_made_of" : Str),
  ("is_name" : Str),
  ("is_tuple_of" : Str),
  ("is_row" : Str),
  ("first_wrong" : Str),
  ("ONE" : Str),
  ("BOTH" : Str),
  ("FEWEST_ROOMS" : Str),
  ("MOST_ROOMS" : Str),
  ("MOST_DOORS" : Str),
  ("MOST_WIDTH" : Str),
  ("MOST_STEPS" : Str),
  ("MOST_CLOSES" : Str),
  ("MOST_PLACES" : Str),
  ("MOST_PEOPLE" : Str),
  ("MOST_BELL" : Str),
  ("SIZE_OF_DOOR" : Str),
  ("is_room_of" : Str),
  ("is_none_or" : Str)]
def loose_p1 : List Str := [
  ("is_door" : Str),
  ("is_exit" : Str),
  ("is_exit_behind" : Str),
  ("wrong_room" : Str),
  ("wrong_door" : Str),
  ("wrong_exit" : Str),
  ("wrong_number" : Str),
  ("is_some_row" : Str),
  ("check_rooms" : Str),
  ("check_doors" : Str),
  ("check_exits" : Str),
  ("check_numbers" : Str),
  ("check_bells" : Str),
  ("House" : Str),
  ("parts_of" : Str),
  ("_law_purse" : Str),
  ("_law_take" : Str),
  ("_law_pick" : Str),
  ("_law_is_number" : Str),
  ("_law_is_name" : Str),
  ("_law_names" : Str),
  ("_law_door" : Str),
  ("_law_house" : Str),
  ("_law_small" : Str),
  ("_law_odd" : Str),
  ("_law_bent" : Str),
  ("_law_wrong_rooms" : Str),
  ("_law_is_door" : Str),
  ("_law_wrong_doors" : Str),
  ("_law_wrong_exits" : Str)]
def loose_p2 : List Str := [
  ("_law_wrong_numbers" : Str),
  ("_law_due" : Str),
  ("_law_caught" : Str),
  ("_law_are_refused" : Str),
  ("_law_by_hand" : Str),
  ("_law_right" : Str)]
def loose : List Str := loose_p0 ++ loose_p1 ++ loose_p2
def ts : List He.Tab := []
def tf : List He.Defn := [("wrong_room", none), ("wrong_door", none), ("wrong_exit", none), ("wrong_number", none), ("_law_are_refused", none)]
def exL (K : PySem.W.Frag) : List Bool := [
  ownB K (clsA K) (attOf atT) owT,
  isiB K (clsA K) 1 (isB "bool" 1) (.type "bool"),
  isiB K (clsA K) 1 (isB "int" 1) (.type "int"),
  isiB K (clsA K) 1 (isB "str" 1) (.type "str"),
  isiB K (clsA K) 1 (isB "tuple" 1) (.type "tuple"),
  tabsU (tabs K),
  oexB K (He.ga K "InvalidBells"),
  decide (PySem.W.typeIn K (.ref (He.fAd K ("InvalidBells", some "__init__"))) = some (.type "function")),
  oexB K (He.ga K "InvalidDoors"),
  decide (PySem.W.typeIn K (.ref (He.fAd K ("InvalidDoors", some "__init__"))) = some (.type "function")),
  oexB K (He.ga K "InvalidExits"),
  decide (PySem.W.typeIn K (.ref (He.fAd K ("InvalidExits", some "__init__"))) = some (.type "function")),
  oexB K (He.ga K "InvalidPeople"),
  decide (PySem.W.typeIn K (.ref (He.fAd K ("InvalidPeople", some "__init__"))) = some (.type "function")),
  oexB K (He.ga K "InvalidRooms"),
  decide (PySem.W.typeIn K (.ref (He.fAd K ("InvalidRooms", some "__init__"))) = some (.type "function")),
  excB K (He.ga K "InvalidBells"),
  excB K (He.ga K "InvalidDoors"),
  excB K (He.ga K "InvalidExits"),
  excB K (He.ga K "InvalidPeople"),
  excB K (He.ga K "InvalidRooms")]
def exB (K : PySem.W.Frag) : Bool := (exL K).all id
theorem exg {K : PySem.W.Frag} (h : exB K = true) (i : Nat) {b : Bool} (e : (exL K)[i]? = some b) : b = true := List.all_eq_true.mp h b (List.mem_of_getElem? e)
def ads : List Addr := [3, 6, 4, 24, 44, 63, 82, 101, 120, 129, 136, 143, 148, 155, 162, 169, 176, 183, 190, 197, 204, 211, 218, 225, 232, 239, 246, 253, 260, 267, 274, 281, 306, 317, 324, 331, 338, 345, 350, 357, 364, 371, 378, 385, 392, 399, 404, 409, 416, 421, 428, 435, 442, 447, 454, 459, 23, 43, 62, 81, 100, 119, 128, 135, 142, 147, 154, 161, 168, 175, 182, 189, 196, 203, 210, 217, 224, 231, 238, 245, 252, 259, 266, 273, 280, 305, 316, 323, 330, 337, 344, 349, 356, 363, 370, 377, 384, 391, 398, 403, 408, 415, 420, 427, 434, 441, 446, 453, 458, 22, 25, 41, 42, 60, 61, 79, 80, 98, 99, 117, 118, 296, 303, 304, 307, 308, 40, 59, 78, 97, 116, 295, 289, 302]
abbrev R : PySem.W.OpenRow := PySem.W.OpenLaw.row PySem.Challenge.rw_alloutby_k03_houses_refused
abbrev qv : PySem.Program := PySem.W.view R.prog [70]
def P0 : Part := ⟨fa, fn, ts, tf, exB⟩
def pts : List Part := [P0]
theorem lookf (w : World) : LookRun R qv 30000 loose (w.withFollow "special-get-raises" false) := by
  intro os
  kernel_rfl
theorem lookt (w : World) : LookRun R qv 30000 loose (w.withFollow "special-get-raises" true) := by
  intro os
  kernel_rfl
theorem factf (w : World) : PartRun R ads 30000 P0 (w.withFollow "special-get-raises" false) := by
  intro os
  kernel_rfl
theorem factt (w : World) : PartRun R ads 30000 P0 (w.withFollow "special-get-raises" true) := by
  intro os
  kernel_rfl
abbrev hk : PySem.W.Hook := hookL ads pts
theorem run (w : World) : HandSHeadRun.RunEq R qv hk (obL ads pts) 30000 loose w := runL (row2 (P := fun w => LookRun R qv 30000 loose w) lookf lookt w) fun p hp => by
  cases List.mem_singleton.mp hp
  exact row2 (P := fun w => PartRun R ads 30000 P0 w) factf factt w
theorem hcl {w : World} {h : Heap} {K : PySem.W.Frag} (c0 : He.SaysX fa fn ts tf exB w h K) : ∀ k, k < 1 → Cls K (clsA K k)
  | 0, _ => He.cls_ok (c0.t.d.fact 79 (f := .cls "House") rfl)
theorem tx {P : Program} {w : World} {K : PySem.W.Frag} {mg : Str → Option Value} {h base : Heap} (X : K.In h) (G : h.Ns mainGlobals mg) (c0 : He.SaysX fa fn ts tf exB w h K) (hb : ∀ p ∈ tf.map (He.cT K), LamX.TabB base mg p.1 p.2) : Tx P w K mg base where
  own := fun j k h => ownB_ok (D := cb K) (T := owT) (hcl c0) (exg c0.more 0 rfl) h
  m_House := He.glo_ok X G (c0.t.d.fact 1 (f := .glo "House") rfl)
  m_InvalidBells := He.glo_ok X G (c0.t.d.fact 2 (f := .glo "InvalidBells") rfl)
  m_InvalidDoors := He.glo_ok X G (c0.t.d.fact 3 (f := .glo "InvalidDoors") rfl)
  m_InvalidExits := He.glo_ok X G (c0.t.d.fact 4 (f := .glo "InvalidExits") rfl)
  m_InvalidPeople := He.glo_ok X G (c0.t.d.fact 5 (f := .glo "InvalidPeople") rfl)
  m_InvalidRooms := He.glo_ok X G (c0.t.d.fact 6 (f := .glo "InvalidRooms") rfl)
  m__law_are_refused := He.glo_ok X G (c0.t.d.fact 7 (f := .glo "_law_are_refused") rfl)
  m__law_bent := He.glo_ok X G (c0.t.d.fact 8 (f := .glo "_law_bent") rfl)
  m__law_by_hand := He.glo_ok X G (c0.t.d.fact 9 (f := .glo "_law_by_hand") rfl)
  m__law_caught := He.glo_ok X G (c0.t.d.fact 10 (f := .glo "_law_caught") rfl)
  m__law_door := He.glo_ok X G (c0.t.d.fact 11 (f := .glo "_law_door") rfl)
  m__law_due := He.glo_ok X G (c0.t.d.fact 12 (f := .glo "_law_due") rfl)
  m__law_house := He.glo_ok X G (c0.t.d.fact 13 (f := .glo "_law_house") rfl)
  m__law_is_door := He.glo_ok X G (c0.t.d.fact 14 (f := .glo "_law_is_door") rfl)
  m__law_is_name := He.glo_ok X G (c0.t.d.fact 15 (f := .glo "_law_is_name") rfl)
  m__law_is_number := He.glo_ok X G (c0.t.d.fact 16 (f := .glo "_law_is_number") rfl)
  m__law_names := He.glo_ok X G (c0.t.d.fact 17 (f := .glo "_law_names") rfl)
  m__law_odd := He.glo_ok X G (c0.t.d.fact 18 (f := .glo "_law_odd") rfl)
  m__law_pick := He.glo_ok X G (c0.t.d.fact 19 (f := .glo "_law_pick") rfl)
  m__law_purse := He.glo_ok X G (c0.t.d.fact 20 (f := .glo "_law_purse") rfl)
  m__law_right := He.glo_ok X G (c0.t.d.fact 21 (f := .glo "_law_right") rfl)
  m__law_take := He.glo_ok X G (c0.t.d.fact 22 (f := .glo "_law_take") rfl)
  m__law_wrong_doors := He.glo_ok X G (c0.t.d.fact 23 (f := .glo "_law_wrong_doors") rfl)
  m__law_wrong_exits := He.glo_ok X G (c0.t.d.fact 24 (f := .glo "_law_wrong_exits") rfl)
  m__law_wrong_numbers := He.glo_ok X G (c0.t.d.fact 25 (f := .glo "_law_wrong_numbers") rfl)
  m__law_wrong_rooms := He.glo_ok X G (c0.t.d.fact 26 (f := .glo "_law_wrong_rooms") rfl)
  m_check_bells := He.glo_ok X G (c0.t.d.fact 27 (f := .glo "check_bells") rfl)
  m_check_doors := He.glo_ok X G (c0.t.d.fact 28 (f := .glo "check_doors") rfl)
  m_check_exits := He.glo_ok X G (c0.t.d.fact 29 (f := .glo "check_exits") rfl)
  m_check_numbers := He.glo_ok X G (c0.t.d.fact 30 (f := .glo "check_numbers") rfl)
  m_check_rooms := He.glo_ok X G (c0.t.d.fact 31 (f := .glo "check_rooms") rfl)
  m_first_wrong := He.glo_ok X G (c0.t.d.fact 32 (f := .glo "first_wrong") rfl)
  m_is_between := He.glo_ok X G (c0.t.d.fact 33 (f := .glo "is_between") rfl)
  m_is_door := He.glo_ok X G (c0.t.d.fact 34 (f := .glo "is_door") rfl)
  m_is_exit := He.glo_ok X G (c0.t.d.fact 35 (f := .glo "is_exit") rfl)
  m_is_exit_behind := He.glo_ok X G (c0.t.d.fact 36 (f := .glo "is_exit_behind") rfl)
  m_is_made_of := He.glo_ok X G (c0.t.d.fact 37 (f := .glo "is_made_of") rfl)
  m_is_name := He.glo_ok X G (c0.t.d.fact 38 (f := .glo "is_name") rfl)
  m_is_none_or := He.glo_ok X G (c0.t.d.fact 39 (f := .glo "is_none_or") rfl)
  m_is_room_of := He.glo_ok X G (c0.t.d.fact 40 (f := .glo "is_room_of") rfl)
  m_is_row := He.glo_ok X G (c0.t.d.fact 41 (f := .glo "is_row") rfl)
  m_is_some_row := He.glo_ok X G (c0.t.d.fact 42 (f := .glo "is_some_row") rfl)
  m_is_string := He.glo_ok X G (c0.t.d.fact 43 (f := .glo "is_string") rfl)
  m_is_tuple_of := He.glo_ok X G (c0.t.d.fact 44 (f := .glo "is_tuple_of") rfl)
  m_is_whole := He.glo_ok X G (c0.t.d.fact 45 (f := .glo "is_whole") rfl)
  m_wrong_door := He.glo_ok X G (c0.t.d.fact 46 (f := .glo "wrong_door") rfl)
  m_wrong_exit := He.glo_ok X G (c0.t.d.fact 47 (f := .glo "wrong_exit") rfl)
  m_wrong_number := He.glo_ok X G (c0.t.d.fact 48 (f := .glo "wrong_number") rfl)
  m_wrong_room := He.glo_ok X G (c0.t.d.fact 49 (f := .glo "wrong_room") rfl)
  n_abs := He.free_ok X G (c0.t.d.fact 50 (f := .free "abs") rfl)
  n_all := He.free_ok X G (c0.t.d.fact 51 (f := .free "all") rfl)
  n_bool := He.free_ok X G (c0.t.d.fact 52 (f := .free "bool") rfl)
  n_enumerate := He.free_ok X G (c0.t.d.fact 53 (f := .free "enumerate") rfl)
  n_int := He.free_ok X G (c0.t.d.fact 54 (f := .free "int") rfl)
  n_isinstance := He.free_ok X G (c0.t.d.fact 55 (f := .free "isinstance") rfl)
  n_len := He.free_ok X G (c0.t.d.fact 56 (f := .free "len") rfl)
  n_list := He.free_ok X G (c0.t.d.fact 57 (f := .free "list") rfl)
  n_max := He.free_ok X G (c0.t.d.fact 58 (f := .free "max") rfl)
  n_min := He.free_ok X G (c0.t.d.fact 59 (f := .free "min") rfl)
  n_range := He.free_ok X G (c0.t.d.fact 60 (f := .free "range") rfl)
  n_repr := He.free_ok X G (c0.t.d.fact 61 (f := .free "repr") rfl)
  n_sorted := He.free_ok X G (c0.t.d.fact 62 (f := .free "sorted") rfl)
  n_str := He.free_ok X G (c0.t.d.fact 63 (f := .free "str") rfl)
  n_tuple := He.free_ok X G (c0.t.d.fact 64 (f := .free "tuple") rfl)
  i_FEWEST_ROOMS := He.int_ok X G (c0.t.d.fact 65 (f := .int "FEWEST_ROOMS" 2) rfl)
  i_LONGEST_NAME := He.int_ok X G (c0.t.d.fact 66 (f := .int "LONGEST_NAME" 8) rfl)
  i_MOST_BELL := He.int_ok X G (c0.t.d.fact 67 (f := .int "MOST_BELL" 9) rfl)
  i_MOST_CLOSES := He.int_ok X G (c0.t.d.fact 68 (f := .int "MOST_CLOSES" 30) rfl)
  i_MOST_DOORS := He.int_ok X G (c0.t.d.fact 69 (f := .int "MOST_DOORS" 12) rfl)
  i_MOST_PEOPLE := He.int_ok X G (c0.t.d.fact 70 (f := .int "MOST_PEOPLE" 30) rfl)
  i_MOST_PLACES := He.int_ok X G (c0.t.d.fact 71 (f := .int "MOST_PLACES" 99) rfl)
  i_MOST_ROOMS := He.int_ok X G (c0.t.d.fact 72 (f := .int "MOST_ROOMS" 7) rfl)
  i_MOST_STEPS := He.int_ok X G (c0.t.d.fact 73 (f := .int "MOST_STEPS" 3) rfl)
  i_MOST_WIDTH := He.int_ok X G (c0.t.d.fact 74 (f := .int "MOST_WIDTH" 9) rfl)
  i_SIZE_OF_DOOR := He.int_ok X G (c0.t.d.fact 75 (f := .int "SIZE_OF_DOOR" 6) rfl)
  z_BOTH := He.str_ok X G (c0.t.d.fact 76 (f := .str "BOTH" "both") rfl)
  z_ONE := He.str_ok X G (c0.t.d.fact 77 (f := .str "ONE" "one") rfl)
  z_SMALL_LETTERS := He.str_ok X G (c0.t.d.fact 78 (f := .str "SMALL_LETTERS" "abcdefghijklmnopqrstuvwxyz") rfl)
  cls_House := He.cls_ok (c0.t.d.fact 79 (f := .cls "House") rfl)
  k_House := He.mkr_ok (c0.t.d.fact 80 (f := .mkr "House") rfl)
  ist_bool := isiB_ok (D := cn K) isB_b isB_o (hcl c0) (exg c0.more 1 rfl)
  ist_int := isiB_ok (D := cn K) isB_b isB_o (hcl c0) (exg c0.more 2 rfl)
  ist_str := isiB_ok (D := cn K) isB_b isB_o (hcl c0) (exg c0.more 3 rfl)
  ist_tuple := isiB_ok (D := cn K) isB_b isB_o (hcl c0) (exg c0.more 4 rfl)
  tb_wrong_room := hb _ List.mem_cons_self
  tu_wrong_room := tabsU_ok (exg c0.more 5 rfl) tabs_mem_wrong_room
  tb_wrong_door := hb _ (List.mem_cons_of_mem _ List.mem_cons_self)
  tu_wrong_door := tabsU_ok (exg c0.more 5 rfl) tabs_mem_wrong_door
  tb_wrong_exit := hb _ (List.mem_cons_of_mem _ (List.mem_cons_of_mem _ List.mem_cons_self))
  tu_wrong_exit := tabsU_ok (exg c0.more 5 rfl) tabs_mem_wrong_exit
  tb_wrong_number := hb _ (List.mem_cons_of_mem _ (List.mem_cons_of_mem _ (List.mem_cons_of_mem _ List.mem_cons_self)))
  tu_wrong_number := tabsU_ok (exg c0.more 5 rfl) tabs_mem_wrong_number
  tb__law_are_refused := hb _ (List.mem_cons_of_mem _ (List.mem_cons_of_mem _ (List.mem_cons_of_mem _ (List.mem_cons_of_mem _ List.mem_cons_self))))
  tu__law_are_refused := tabsU_ok (exg c0.more 5 rfl) tabs_mem__law_are_refused
  F_is_whole := (c0.t.d.def_ 0 rfl)
  F_is_between := (c0.t.d.def_ 1 rfl)
  F_is_string := (c0.t.d.def_ 2 rfl)
  F_is_made_of := (c0.t.d.def_ 3 rfl)
  F_is_name := (c0.t.d.def_ 4 rfl)
  F_is_tuple_of := (c0.t.d.def_ 5 rfl)
  F_is_row := (c0.t.d.def_ 6 rfl)
  F_first_wrong := (c0.t.d.def_ 7 rfl)
  F_is_room_of := (c0.t.d.def_ 8 rfl)
  F_is_none_or := (c0.t.d.def_ 9 rfl)
  F_is_door := (c0.t.d.def_ 10 rfl)
  F_is_exit := (c0.t.d.def_ 11 rfl)
  F_is_exit_behind := (c0.t.d.def_ 12 rfl)
  F_wrong_room := (c0.t.d.def_ 13 rfl)
  F_wrong_door := (c0.t.d.def_ 14 rfl)
  F_wrong_exit := (c0.t.d.def_ 15 rfl)
  F_wrong_number := (c0.t.d.def_ 16 rfl)
  F_is_some_row := (c0.t.d.def_ 17 rfl)
  F_check_rooms := (c0.t.d.def_ 18 rfl)
  F_check_doors := (c0.t.d.def_ 19 rfl)
  F_check_exits := (c0.t.d.def_ 20 rfl)
  F_check_numbers := (c0.t.d.def_ 21 rfl)
  F_check_bells := (c0.t.d.def_ 22 rfl)
  F_House___init__ := (c0.t.d.def_ 23 rfl)
  F__law_purse := (c0.t.d.def_ 24 rfl)
  F__law_take := (c0.t.d.def_ 25 rfl)
  F__law_pick := (c0.t.d.def_ 26 rfl)
  F__law_is_number := (c0.t.d.def_ 27 rfl)
  F__law_is_name := (c0.t.d.def_ 28 rfl)
  F__law_names := (c0.t.d.def_ 29 rfl)
  F__law_door := (c0.t.d.def_ 30 rfl)
  F__law_house := (c0.t.d.def_ 31 rfl)
  F__law_odd := (c0.t.d.def_ 32 rfl)
  F__law_bent := (c0.t.d.def_ 33 rfl)
  F__law_wrong_rooms := (c0.t.d.def_ 34 rfl)
  F__law_is_door := (c0.t.d.def_ 35 rfl)
  F__law_wrong_doors := (c0.t.d.def_ 36 rfl)
  F__law_wrong_exits := (c0.t.d.def_ 37 rfl)
  F__law_wrong_numbers := (c0.t.d.def_ 38 rfl)
  F__law_due := (c0.t.d.def_ 39 rfl)
  F__law_caught := (c0.t.d.def_ 40 rfl)
  F__law_are_refused := (c0.t.d.def_ 41 rfl)
  F__law_by_hand := (c0.t.d.def_ 42 rfl)
  F__law_right := (c0.t.d.def_ 43 rfl)
  F_law := (c0.t.d.def_ 44 rfl)
  F_InvalidBells___init__ := (c0.t.d.def_ 45 rfl)
  F_InvalidDoors___init__ := (c0.t.d.def_ 46 rfl)
  F_InvalidExits___init__ := (c0.t.d.def_ 47 rfl)
  F_InvalidPeople___init__ := (c0.t.d.def_ 48 rfl)
  F_InvalidRooms___init__ := (c0.t.d.def_ 49 rfl)
  ox_InvalidBells := oexB_ok (exg c0.more 6 rfl)
  mx_InvalidBells := He.glo_ok X G (c0.t.d.fact 2 (f := .glo "InvalidBells") rfl)
  nf_InvalidBells := He.noat_ok (c0.t.d.fact 81 (f := .noat "InvalidBells" "index") rfl)
  in_InvalidBells := ⟨(He.meth_ok (c0.t.d.fact 82 (f := .meth "InvalidBells" "__init__") rfl)).at_, of_decide_eq_true (exg c0.more 7 rfl)⟩
  ox_InvalidDoors := oexB_ok (exg c0.more 8 rfl)
  mx_InvalidDoors := He.glo_ok X G (c0.t.d.fact 3 (f := .glo "InvalidDoors") rfl)
  nf_InvalidDoors := He.noat_ok (c0.t.d.fact 83 (f := .noat "InvalidDoors" "index") rfl)
  in_InvalidDoors := ⟨(He.meth_ok (c0.t.d.fact 84 (f := .meth "InvalidDoors" "__init__") rfl)).at_, of_decide_eq_true (exg c0.more 9 rfl)⟩
  ox_InvalidExits := oexB_ok (exg c0.more 10 rfl)
  mx_InvalidExits := He.glo_ok X G (c0.t.d.fact 4 (f := .glo "InvalidExits") rfl)
  nf_InvalidExits := He.noat_ok (c0.t.d.fact 85 (f := .noat "InvalidExits" "index") rfl)
  in_InvalidExits := ⟨(He.meth_ok (c0.t.d.fact 86 (f := .meth "InvalidExits" "__init__") rfl)).at_, of_decide_eq_true (exg c0.more 11 rfl)⟩
  ox_InvalidPeople := oexB_ok (exg c0.more 12 rfl)
  mx_InvalidPeople := He.glo_ok X G (c0.t.d.fact 5 (f := .glo "InvalidPeople") rfl)
  nf_InvalidPeople := He.noat_ok (c0.t.d.fact 87 (f := .noat "InvalidPeople" "index") rfl)
  in_InvalidPeople := ⟨(He.meth_ok (c0.t.d.fact 88 (f := .meth "InvalidPeople" "__init__") rfl)).at_, of_decide_eq_true (exg c0.more 13 rfl)⟩
  ox_InvalidRooms := oexB_ok (exg c0.more 14 rfl)
  mx_InvalidRooms := He.glo_ok X G (c0.t.d.fact 6 (f := .glo "InvalidRooms") rfl)
  nf_InvalidRooms := He.noat_ok (c0.t.d.fact 89 (f := .noat "InvalidRooms" "index") rfl)
  in_InvalidRooms := ⟨(He.meth_ok (c0.t.d.fact 90 (f := .meth "InvalidRooms" "__init__") rfl)).at_, of_decide_eq_true (exg c0.more 15 rfl)⟩
  tm_InvalidBells := fun k b h => by
    unfold tsm_InvalidBells at h
    split at h
    · rename_i e
      subst e
      cases h; exact He.exm_ok (c0.t.d.fact 91 (f := .exm "InvalidRooms" "InvalidBells" false) rfl)
    · split at h
      · rename_i e
        subst e
        cases h; exact He.exm_ok (c0.t.d.fact 92 (f := .exm "InvalidDoors" "InvalidBells" false) rfl)
      · split at h
        · rename_i e
          subst e
          cases h; exact He.exm_ok (c0.t.d.fact 93 (f := .exm "InvalidExits" "InvalidBells" false) rfl)
        · split at h
          · rename_i e
            subst e
            cases h; exact He.exm_ok (c0.t.d.fact 94 (f := .exm "InvalidPeople" "InvalidBells" false) rfl)
          · split at h
            · rename_i e
              subst e
              cases h; exact He.exm_ok (c0.t.d.fact 95 (f := .exm "InvalidBells" "InvalidBells" true) rfl)
            · cases h
  xt_InvalidBells := fun k h => by
    unfold tsm_InvalidBells at h
    split at h
    · rename_i e
      subst e
      cases h
    · split at h
      · rename_i e
        subst e
        cases h
      · split at h
        · rename_i e
          subst e
          cases h
        · split at h
          · rename_i e
            subst e
            cases h
          · split at h
            · rename_i e
              subst e
              exact excB_ok (exg c0.more 16 rfl)
            · cases h
  tm_InvalidDoors := fun k b h => by
    unfold tsm_InvalidDoors at h
    split at h
    · rename_i e
      subst e
      cases h; exact He.exm_ok (c0.t.d.fact 96 (f := .exm "InvalidRooms" "InvalidDoors" false) rfl)
    · split at h
      · rename_i e
        subst e
        cases h; exact He.exm_ok (c0.t.d.fact 97 (f := .exm "InvalidDoors" "InvalidDoors" true) rfl)
      · split at h
        · rename_i e
          subst e
          cases h; exact He.exm_ok (c0.t.d.fact 98 (f := .exm "InvalidExits" "InvalidDoors" false) rfl)
        · split at h
          · rename_i e
            subst e
            cases h; exact He.exm_ok (c0.t.d.fact 99 (f := .exm "InvalidPeople" "InvalidDoors" false) rfl)
          · split at h
            · rename_i e
              subst e
              cases h; exact He.exm_ok (c0.t.d.fact 100 (f := .exm "InvalidBells" "InvalidDoors" false) rfl)
            · cases h
  xt_InvalidDoors := fun k h => by
    unfold tsm_InvalidDoors at h
    split at h
    · rename_i e
      subst e
      cases h
    · split at h
      · rename_i e
        subst e
        exact excB_ok (exg c0.more 17 rfl)
      · split at h
        · rename_i e
          subst e
          cases h
        · split at h
          · rename_i e
            subst e
            cases h
          · split at h
            · rename_i e
              subst e
              cases h
            · cases h
  tm_InvalidExits := fun k b h => by
    unfold tsm_InvalidExits at h
    split at h
    · rename_i e
      subst e
      cases h; exact He.exm_ok (c0.t.d.fact 101 (f := .exm "InvalidRooms" "InvalidExits" false) rfl)
    · split at h
      · rename_i e
        subst e
        cases h; exact He.exm_ok (c0.t.d.fact 102 (f := .exm "InvalidDoors" "InvalidExits" false) rfl)
      · split at h
        · rename_i e
          subst e
          cases h; exact He.exm_ok (c0.t.d.fact 103 (f := .exm "InvalidExits" "InvalidExits" true) rfl)
        · split at h
          · rename_i e
            subst e
            cases h; exact He.exm_ok (c0.t.d.fact 104 (f := .exm "InvalidPeople" "InvalidExits" false) rfl)
          · split at h
            · rename_i e
              subst e
              cases h; exact He.exm_ok (c0.t.d.fact 105 (f := .exm "InvalidBells" "InvalidExits" false) rfl)
            · cases h
  xt_InvalidExits := fun k h => by
    unfold tsm_InvalidExits at h
    split at h
    · rename_i e
      subst e
      cases h
    · split at h
      · rename_i e
        subst e
        cases h
      · split at h
        · rename_i e
          subst e
          exact excB_ok (exg c0.more 18 rfl)
        · split at h
          · rename_i e
            subst e
            cases h
          · split at h
            · rename_i e
              subst e
              cases h
            · cases h
  tm_InvalidPeople := fun k b h => by
    unfold tsm_InvalidPeople at h
    split at h
    · rename_i e
      subst e
      cases h; exact He.exm_ok (c0.t.d.fact 106 (f := .exm "InvalidRooms" "InvalidPeople" false) rfl)
    · split at h
      · rename_i e
        subst e
        cases h; exact He.exm_ok (c0.t.d.fact 107 (f := .exm "InvalidDoors" "InvalidPeople" false) rfl)
      · split at h
        · rename_i e
          subst e
          cases h; exact He.exm_ok (c0.t.d.fact 108 (f := .exm "InvalidExits" "InvalidPeople" false) rfl)
        · split at h
          · rename_i e
            subst e
            cases h; exact He.exm_ok (c0.t.d.fact 109 (f := .exm "InvalidPeople" "InvalidPeople" true) rfl)
          · split at h
            · rename_i e
              subst e
              cases h; exact He.exm_ok (c0.t.d.fact 110 (f := .exm "InvalidBells" "InvalidPeople" false) rfl)
            · cases h
  xt_InvalidPeople := fun k h => by
    unfold tsm_InvalidPeople at h
    split at h
    · rename_i e
      subst e
      cases h
    · split at h
      · rename_i e
        subst e
        cases h
      · split at h
        · rename_i e
          subst e
          cases h
        · split at h
          · rename_i e
            subst e
            exact excB_ok (exg c0.more 19 rfl)
          · split at h
            · rename_i e
              subst e
              cases h
            · cases h
  tm_InvalidRooms := fun k b h => by
    unfold tsm_InvalidRooms at h
    split at h
    · rename_i e
      subst e
      cases h; exact He.exm_ok (c0.t.d.fact 111 (f := .exm "InvalidRooms" "InvalidRooms" true) rfl)
    · split at h
      · rename_i e
        subst e
        cases h; exact He.exm_ok (c0.t.d.fact 112 (f := .exm "InvalidDoors" "InvalidRooms" false) rfl)
      · split at h
        · rename_i e
          subst e
          cases h; exact He.exm_ok (c0.t.d.fact 113 (f := .exm "InvalidExits" "InvalidRooms" false) rfl)
        · split at h
          · rename_i e
            subst e
            cases h; exact He.exm_ok (c0.t.d.fact 114 (f := .exm "InvalidPeople" "InvalidRooms" false) rfl)
          · split at h
            · rename_i e
              subst e
              cases h; exact He.exm_ok (c0.t.d.fact 115 (f := .exm "InvalidBells" "InvalidRooms" false) rfl)
            · cases h
  xt_InvalidRooms := fun k h => by
    unfold tsm_InvalidRooms at h
    split at h
    · rename_i e
      subst e
      exact excB_ok (exg c0.more 20 rfl)
    · split at h
      · rename_i e
        subst e
        cases h
      · split at h
        · rename_i e
          subst e
          cases h
        · split at h
          · rename_i e
            subst e
            cases h
          · split at h
            · rename_i e
              subst e
              cases h
            · cases h
  xn_InvalidBells_index := fun k h => by
    unfold tsm_InvalidBells at h
    split at h
    · rename_i e
      subst e
      cases h
    · split at h
      · rename_i e
        subst e
        cases h
      · split at h
        · rename_i e
          subst e
          cases h
        · split at h
          · rename_i e
            subst e
            cases h
          · split at h
            · rename_i e
              subst e
              exact He.noat_ok (c0.t.d.fact 81 (f := .noat "InvalidBells" "index") rfl)
            · cases h
  xn_InvalidDoors_index := fun k h => by
    unfold tsm_InvalidDoors at h
    split at h
    · rename_i e
      subst e
      cases h
    · split at h
      · rename_i e
        subst e
        exact He.noat_ok (c0.t.d.fact 83 (f := .noat "InvalidDoors" "index") rfl)
      · split at h
        · rename_i e
          subst e
          cases h
        · split at h
          · rename_i e
            subst e
            cases h
          · split at h
            · rename_i e
              subst e
              cases h
            · cases h
  xn_InvalidExits_index := fun k h => by
    unfold tsm_InvalidExits at h
    split at h
    · rename_i e
      subst e
      cases h
    · split at h
      · rename_i e
        subst e
        cases h
      · split at h
        · rename_i e
          subst e
          exact He.noat_ok (c0.t.d.fact 85 (f := .noat "InvalidExits" "index") rfl)
        · split at h
          · rename_i e
            subst e
            cases h
          · split at h
            · rename_i e
              subst e
              cases h
            · cases h
  xn_InvalidPeople_index := fun k h => by
    unfold tsm_InvalidPeople at h
    split at h
    · rename_i e
      subst e
      cases h
    · split at h
      · rename_i e
        subst e
        cases h
      · split at h
        · rename_i e
          subst e
          cases h
        · split at h
          · rename_i e
            subst e
            exact He.noat_ok (c0.t.d.fact 87 (f := .noat "InvalidPeople" "index") rfl)
          · split at h
            · rename_i e
              subst e
              cases h
            · cases h
  xn_InvalidRooms_index := fun k h => by
    unfold tsm_InvalidRooms at h
    split at h
    · rename_i e
      subst e
      exact He.noat_ok (c0.t.d.fact 89 (f := .noat "InvalidRooms" "index") rfl)
    · split at h
      · rename_i e
        subst e
        cases h
      · split at h
        · rename_i e
          subst e
          cases h
        · split at h
          · rename_i e
            subst e
            cases h
          · split at h
            · rename_i e
              subst e
              cases h
            · cases h
theorem law_facts {P : Program} {w : World} {mg : Str → Option Value} {f : Addr} {h : Heap} (Y : hk.says w h) (G : h.Ns mainGlobals mg) (hmg : mg ("law" : Str) = some (.ref f)) (plain : ∀ ns : List Int, ns.length ≤ 63 → (∀ z ∈ ns, Builtin.Int.intBits z ≤ 1048576) → f_law [.rol (ns.map D.int)] (fun _ => none) (fun d _ => d = .bl true) (fun _ _ => False)) :
    ∃ (K : PySem.W.Frag) (cs : List (Addr × Addr)) (fd : FuncData) (f3 : F3) (C : Cn), K.In h ∧ K = C.K ∧ (∀ p ∈ C.T, ∃ q ∈ cs, q.2 = p.1) ∧ (∀ p ∈ cs, h.get? p.2 = some { cls := .none, data := .fields #[] }) ∧ (∀ p ∈ cs, K.lookup p.2 = none) ∧ (∀ p ∈ cs, PySem.W.CodeHd h p.1 p.2) ∧
      (∀ (s : Shared) (u : Value), BindsTo s fd ⟨[u], []⟩ [("cells", u)]) ∧ (∀ base : Heap, K.In base → base.Ns mainGlobals mg → (∀ p ∈ cs, LamX.TabB base mg p.1 p.2) → FnG P w K mg base 17 f fd ["cells"] (upF C 1 f3)) ∧
      ∀ ns : List Int, ns.length ≤ 63 → (∀ z ∈ ns, Builtin.Int.intBits z ≤ 1048576) → f3 [.rol (ns.map D.int)] (fun _ => none) (fun d _ => d = .bl true) (fun _ _ => False) := by
  obtain ⟨K, KX, c⟩ := Y
  have c0 : He.SaysX fa fn ts tf exB w h K := c _ List.mem_cons_self
  obtain ⟨fd, F⟩ := (c0.t.d.def_ 44 rfl)
  have e := hmg.symm.trans (He.glo_ok KX G (c0.t.d.fact 0 (f := .glo "law") rfl))
  cases e
  refine ⟨K, tf.map (He.cT K), fd, f_law, cn K, KX, rfl, ?_, ?_, ?_, ?_, fun s u => FunD.bindsA (ps := ["cells"]) F (fun _ _ _ _ _ _ us hl => match us, hl with | [_], _ => rfl) s [u] rfl, fun base _ _ hb => fn3 F rfl sc_law rfl (fun cdv A outer s H E _ B => b_law (tx KX G c0 hb) B), plain⟩
  · intro p hp
    simp only [cn, cb, tabs, List.mem_cons, List.not_mem_nil, or_false] at hp
    rcases hp with rfl | rfl | rfl | rfl | rfl
    · exact ⟨_, List.mem_cons_self, rfl⟩
    · exact ⟨_, (List.mem_cons_of_mem _ List.mem_cons_self), rfl⟩
    · exact ⟨_, (List.mem_cons_of_mem _ (List.mem_cons_of_mem _ List.mem_cons_self)), rfl⟩
    · exact ⟨_, (List.mem_cons_of_mem _ (List.mem_cons_of_mem _ (List.mem_cons_of_mem _ List.mem_cons_self))), rfl⟩
    · exact ⟨_, (List.mem_cons_of_mem _ (List.mem_cons_of_mem _ (List.mem_cons_of_mem _ (List.mem_cons_of_mem _ List.mem_cons_self)))), rfl⟩
  · intro p hp
    obtain ⟨q, hq, rfl⟩ := List.mem_map.mp hp
    exact c0.empty q hq
  · intro p hp
    obtain ⟨q, hq, rfl⟩ := List.mem_map.mp hp
    exact c0.out q hq
  · intro p hp
    obtain ⟨q, hq, rfl⟩ := List.mem_map.mp hp
    exact PySem.W.codeHd_of_K KX (c0.hd q hq)
end K03
section
open PySem PySem.W PySem.Calls PyProof.Rows
theorem k03_of (plain : ∀ ns : List Int, ns.length ≤ 63 → (∀ z ∈ ns, Builtin.Int.intBits z ≤ 1048576) → K03.f_law [.rol (ns.map V3.D.int)] (fun _ => none) (fun d _ => d = .bl true) (fun _ _ => False)) : PySem.Challenge.rw_alloutby_k03_houses_refused.Holds := by
  w_on; o_law
  refine HandSHeadRun.head_any (r := OpenLaw.row PySem.Challenge.rw_alloutby_k03_houses_refused) (q := view (OpenLaw.row PySem.Challenge.rw_alloutby_k03_houses_refused).prog [70]) (H := K03.hk) (ob := V3.obL K03.ads K03.pts) (M := 30000) (loose := K03.loose) (d := HandSHeadRun.topDef (OpenLaw.row PySem.Challenge.rw_alloutby_k03_houses_refused).prog 70) (kwd := []) (V3.obL_eq K03.ads K03.pts)
    (by kernel_rfl) (fun s => by kernel_rfl) K03.run (by kernel_rfl) (by kernel_rfl) (by kernel_rfl) (by rfl) (by first | assumption | decide +kernel) (by decide +kernel) ⟨rfl, rfl, rfl, rfl, rfl, by decide +kernel⟩ ?hw ?hc
  case hw => w_witness2
  case hc =>
    refine V3.walk3 (l := PySem.Challenge.rw_alloutby_k03_houses_refused) (n := 63) (k := 17) (x := "cells") rfl (by decide) (by kernel_rfl) ⟨rfl, by decide, by decide⟩ ?F
    intro w mg f h Y G hmg0
    have hmg : mg ("law" : PySem.Str) = some (.ref f) := by
      have e : (HandSHeadRun.topDef (OpenLaw.row PySem.Challenge.rw_alloutby_k03_houses_refused).prog 70).name = ("law" : PySem.Str) := by kernel_rfl
      rw [← e]
      exact hmg0
    exact K03.law_facts Y G hmg plain
end
set_option Elab.async false
set_option linter.all false
set_option maxRecDepth 100000
set_option maxHeartbeats 4000000
/-! plain side of the drills' law -/
namespace K03
open PySem PySem.Spec L2 V3 PyProof.Rows
end K03

set_option Elab.async false
set_option linter.all false
set_option maxRecDepth 100000
set_option maxHeartbeats 4000000
namespace K03
open PySem PySem.Spec L2 V3 PyProof.Rows
/-- the pool's cell -/
def PoolAt (G : Gp) (p : Addr) : Prop := ∃ a b c : Int, G p = some (.lst [.int a, .int b, .int c]) ∧ (0 ≤ a ∧ a < 2147482937) ∧ 0 ≤ b ∧ 0 ≤ c
/-- cells but the one at p stay as they are -/
def Ext (p : Addr) (G G' : Gp) : Prop := ∀ q, q ≠ p → G q ≠ none → G' q = G q
theorem Ext.refl {p : Addr} {G : Gp} : Ext p G G := fun _ _ _ => rfl
theorem Ext.trans {p : Addr} {G G' G2 : Gp} (h : Ext p G G') (k : Ext p G' G2) : Ext p G G2 := fun q h1 h2 => by
  have e := h q h1 h2
  rw [k q h1 (by rw [e]; exact h2), e]
theorem Ext.set {p : Addr} {G : Gp} {o : GO} : Ext p G (gset G p o) := fun q h _ => gset_off h
theorem Ext.new {p q : Addr} {G : Gp} {o : GO} (h : G q = none) : Ext p G (gset G q o) := fun r _ h2 => gset_off fun e => h2 (e ▸ h)
def seq3 : D → Option (List D)
  | .tup xs => some xs
  | .tuf xs => some xs
  | .lst xs => some xs
  | _ => none
end K03

set_option Elab.async false
set_option linter.all false
set_option maxRecDepth 100000
set_option maxHeartbeats 4000000
namespace K03
open PySem PySem.Spec L2 V3 PyProof.Rows
end K03

set_option Elab.async false
set_option linter.all false
set_option maxRecDepth 100000
set_option maxHeartbeats 4000000
/-! the house that the law draws -/
namespace K03
open PySem PySem.Spec L2 V3 PyProof.Rows
def allN : List Str := [("attic" : Str), "cellar", "hall", "kitchen", "lab", "porch", "yard"]
structure DoorD where
  a : Nat
  b : Nat
  both : Bool
  wide : Int
  steps : Int
  closes : Option Int
def optD : Option Int → D
  | none => .non
  | some i => .int i
def DoorD.nm (d : DoorD) (ns : List Str) (k : Nat) : Str := (ns[k]?).getD ""
def DoorD.d (d : DoorD) (ns : List Str) : D := .tup [.str (d.nm ns d.a), .str (d.nm ns d.b), .str (if d.both then "both" else "one"), .int d.wide, .int d.steps, optD d.closes]
structure DoorD.Ok (n : Nat) (d : DoorD) : Prop where
  a : d.a < n
  b : d.b < n
  ne : d.a ≠ d.b
  wide : 1 ≤ d.wide ∧ d.wide ≤ 3
  steps : 1 ≤ d.steps ∧ d.steps ≤ 2
  closes : ∀ c, d.closes = some c → 1 ≤ c ∧ c ≤ 5
structure HouseD where
  ns : List Str
  doors : List DoorD
  exits : List (Str × Option Int)
  people : List Int
  bells : List Int
def HouseD.d (h : HouseD) : D := .tup [.tuf (h.ns.map D.str), .tuf (h.doors.map fun d => d.d h.ns), .tuf (h.exits.map fun e => .tup [.str e.1, optD e.2]), .tup (h.people.map D.int), .tup (h.bells.map D.int)]
structure HouseD.Ok (h : HouseD) : Prop where
  ns : ∃ k, 2 ≤ k ∧ k ≤ 4 ∧ h.ns = allN.take k
  doors : h.doors ≠ [] ∧ h.doors.length ≤ 5 ∧ ∀ d ∈ h.doors, d.Ok h.ns.length
  exits : h.exits ≠ [] ∧ h.exits.length ≤ 2 ∧ (∀ e ∈ h.exits, e.1 ∈ h.ns ∧ ∀ c, e.2 = some c → 1 ≤ c ∧ c ≤ 5) ∧ (h.exits.map (·.1)).Pairwise (fun a b => a.cps.toList < b.cps.toList)
  people : h.people.length = h.ns.length ∧ ∀ i ∈ h.people, 0 ≤ i ∧ i ≤ 4
  bells : h.bells.length = h.ns.length ∧ ∀ i ∈ h.bells, 0 ≤ i ∧ i ≤ 2
end K03

set_option Elab.async false
set_option linter.all false
set_option maxRecDepth 100000
set_option maxHeartbeats 4000000
/-! the program's looks at values -/
namespace K03
open PySem PySem.Spec L2 V3 PyProof.Rows
section
variable {G : Gp} {Q : K3} {E : E3} {d : D} {xs : List D} {i j k : Int} {x : Str}
@[simp ↓] theorem w_isstr : f_is_string [.str x] G Q E = Q (.bl true) G := by
  unfold f_is_string t_is_string
  simp [start3, isB, tyD, kinds7]
@[simp ↓] theorem w_iswhole : f_is_whole [.int i] G Q E = Q (.bl true) G := by
  unfold f_is_whole t_is_whole
  simp [start3, isB, tyD, kinds7]
@[simp ↓] theorem w_isbetween : f_is_between [.int i, .int j, .int k] G Q E = Q (.bl (decide (j ≤ i ∧ i ≤ k))) G := by
  unfold f_is_between t_is_between
  simp [start3]
  by_cases h : j ≤ i <;> simp [h] <;> (intros; omega)
@[simp ↓] theorem w_isrow : f_is_row [.tuf xs, .int j, .int k] G Q E = Q (.bl (decide (j ≤ xs.length ∧ (xs.length : Int) ≤ k))) G := by
  unfold f_is_row t_is_row
  simp [start3, isB, tyD, kinds7]
  by_cases h : j ≤ xs.length <;> simp [h] <;> (intros; omega)
@[simp ↓] theorem w_isrowT : f_is_row [.tup xs, .int j, .int k] G Q E = Q (.bl (decide (j ≤ xs.length ∧ (xs.length : Int) ≤ k))) G := by
  unfold f_is_row t_is_row
  simp [start3, isB, tyD, kinds7]
  by_cases h : j ≤ xs.length <;> simp [h] <;> (intros; omega)
@[simp ↓] theorem w_issomerowT : f_is_some_row [.tup xs] G Q E = Q (.bl (decide (0 < xs.length))) G := by
  unfold f_is_some_row t_is_some_row
  simp [start3, isB, tyD, kinds7]
@[simp ↓] theorem w_istupleof : f_is_tuple_of [.tup xs, .int j] G Q E = Q (.bl (decide ((xs.length : Int) = j))) G := by
  unfold f_is_tuple_of t_is_tuple_of
  simp [start3, isB, tyD, kinds7]
@[simp ↓] theorem w_issomerow : f_is_some_row [.tuf xs] G Q E = Q (.bl (decide (0 < xs.length))) G := by
  unfold f_is_some_row t_is_some_row
  simp [start3, isB, tyD, kinds7]
@[simp ↓] theorem w_isnoneor : f_is_none_or [.int i, .int j, .int k] G Q E = Q (.bl (decide (j ≤ i ∧ i ≤ k))) G := by
  unfold f_is_none_or t_is_none_or
  simp [start3]
@[simp ↓] theorem w_isnoneor0 : f_is_none_or [.non, .int j, .int k] G Q E = Q (.bl true) G := by
  unfold f_is_none_or t_is_none_or
  simp [start3]
end
section
variable {G : Gp} {Q : K3} {E : E3} {xs : List D}
theorem enum_len : (enumD xs).length = xs.length := by simp [enumD]
/-- all are right: None -/
theorem w_first_wrong {σm : S3} {is : List Nat} {tb : T3} {f : Addr} (hi : is.length = 2) (d : D) (hd : d = .tup xs ∨ d = .tuf xs) (h : ∀ k, (hk : k < xs.length) → ∀ (QT : K3) (E : E3), QT (.bl true) G → tb (putL σm is [xs[k], .tup (xs.take k)]) G QT E) (hq : Q .non G) :
    run3 (tg_first_wrong (tact 1 f σm is tb)) (start3 N_first_wrong [d, .ref f]) G Q E := by
  have hs : seqA G d = some xs := by rcases hd with rfl | rfl <;> rfl
  have hl : liveOf G d = fun _ => True := by rcases hd with rfl | rfl <;> rfl
  unfold tg_first_wrong
  simp [start3, hs]
  refine forW_inv (fun ds σ G' => G' = G ∧ ∃ n, ds = (enumD xs).drop n ∧ ∃ a b, σ = [some d, some (.ref f), a, b]) (fun ds σ G' _ => by rw [hl]; trivial) (fun σ G' h => ?_) (fun x ds σ G' K hI k => ?_) _ _ _ ⟨rfl, 0, rfl, none, none, rfl⟩
  · obtain ⟨rfl, n, _, a, b, rfl⟩ := h
    simpa using hq
  · obtain ⟨rfl, n, e, a, b, rfl⟩ := hI
    have hn : n < xs.length := by
      have : ((enumD xs).drop n).length ≠ 0 := by rw [← e]; simp
      rw [List.length_drop, enum_len] at this
      omega
    have hx : (enumD xs).drop n = .tup [.int n, xs[n]] :: (enumD xs).drop (n + 1) := by
      rw [List.drop_eq_getElem_cons (by rw [enum_len]; exact hn)]
      simp [enumD]
    rw [hx] at e
    cases e
    refine ⟨_, rfl, ?_⟩
    simp [tact]
    have hc : ∀ QT : K3, QT (.tup (xs.take n)) G' → slV false d none (some (n : Int)) G' QT := fun QT q => by
      rcases hd with rfl | rfl
      · simp
        rw [cut_to]
        exact q
      · refine .inl ⟨xs, rfl, ?_⟩
        rw [if_neg (by rw [six0]; omega), cut_to]
        exact q
    refine hc _ ⟨by rw [hi], h n hn _ _ ?_⟩
    simp
    exact k _ _ ⟨rfl, n + 1, rfl, _, _, rfl⟩
end
end K03

set_option Elab.async false
set_option linter.all false
set_option maxRecDepth 100000
set_option maxHeartbeats 4000000
/-! a house's parts are let -/
namespace K03
open PySem PySem.Spec L2 V3 PyProof.Rows
def smallL : Str := "abcdefghijklmnopqrstuvwxyz"
/-- a name -/
def nmB (x : Str) : Bool := decide (x ≠ "") && decide (x.length ≤ 8) && x.cps.toList.all (fun c => smallL.cps.toList.contains c)
theorem letters_in : ∀ c ∈ smallL.cps.toList, (!(Builtin.Str.occurrences smallL ⟨#[c]⟩ 0 smallL.length 1).isEmpty) = true := by decide +kernel
theorem blsOf_rep {α : Type} (xs : List α) (b : Bool) : blsOf (xs.map fun _ => D.bl b) = some (xs.map fun _ => b) := by
  induction xs with
  | nil => rfl
  | cons a r ih => simp [blsOf, ih]
section
variable {G : Gp} {Q : K3} {E : E3} {x : Str}
theorem w_ismade (h0 : x ≠ "") (ho : PyData.strOk x = true) (hl : x.length ≤ 8) (h : ∀ c ∈ x.cps.toList, c ∈ smallL.cps.toList) (hq : Q (.bl true) G) : f_is_made_of [.str x, .str smallL] G Q E := by
  unfold f_is_made_of t_is_made_of
  simp [start3, h0, ho]
  refine lc_go (fun _ => .bl true) (fun _ => true) (by simp only [List.length_map, Array.length_toList]; have : x.cps.size ≤ 8 := hl; exact Nat.lt_of_le_of_lt this (by decide)) (fun _ _ _ => trivial) (fun d hd => ?_) ?_
  · obtain ⟨c, hc, rfl⟩ := List.mem_map.mp hd
    refine ⟨_, rfl, fun G' QT _ q => q, fun _ G' Q' _ q => ?_⟩
    simp
    have := letters_in c (h c hc)
    exact .inr ⟨by simpa using this, q⟩
  · refine ⟨_, _, rfl, by rw [List.filter_eq_self.mpr fun _ _ => rfl]; exact blsOf_rep _ true, ?_⟩
    rw [show (List.map (fun _ : D => true) (List.map (fun c : Nat => D.str ⟨#[c]⟩) x.cps.toList)).all id = true from List.all_eq_true.mpr (by simp)]
    exact hq
theorem w_isname (h : nmB x = true) (hq : Q (.bl true) G) : f_is_name [.str x] G Q E := by
  unfold nmB at h
  simp only [Bool.and_eq_true, decide_eq_true_eq, List.all_eq_true, List.contains_iff_mem] at h
  obtain ⟨⟨h0, h1⟩, h2⟩ := h
  have ho : PyData.strOk x = true := by
    unfold PyData.strOk
    rw [← Array.all_toList, List.all_eq_true]
    intro c hc
    have := h2 c hc
    have hh : ∀ c ∈ smallL.cps.toList, (decide (c < 0x110000)) = true := by decide +kernel
    exact hh c this
  unfold f_is_name t_is_name
  have hle : x.length ≤ sizeLine := Nat.le_trans h1 (by decide)
  have hlen : ∀ G, lenD G (.str x) = some x.length := fun G => by
    show (if x.length ≤ sizeLine then some x.length else none) = _
    rw [if_pos hle]
  have h1' : (x.length : Int) ≤ 8 := by omega
  simp [start3, hlen, h1']
  exact w_ismade h0 ho h1 h2 hq
/-- the rooms -/
structure NamesOk (ns : List Str) : Prop where
  len : 2 ≤ ns.length ∧ ns.length ≤ 7
  nm : ∀ x ∈ ns, nmB x = true
  asc : ns.Pairwise (fun a b => a.cps.toList < b.cps.toList)
  rye : ("rye" : Str) ∉ ns
theorem nm_ok (h : nmB x = true) : PyData.strOk x = true := by
  unfold nmB at h
  simp only [Bool.and_eq_true, decide_eq_true_eq, List.all_eq_true, List.contains_iff_mem] at h
  unfold PyData.strOk
  rw [← Array.all_toList, List.all_eq_true]
  intro c hc
  have hh : ∀ c ∈ smallL.cps.toList, (decide (c < 0x110000)) = true := by decide +kernel
  exact hh c (h.2 c hc)
theorem toPys_strs (ns : List Str) : toPys (ns.map D.str) = some (ns.map PyData.str) := by
  induction ns with
  | nil => rfl
  | cons a r ih => simp [toPys, toPy, ih]
theorem canLay_strs (ns : List Str) (h : ∀ x ∈ ns, PyData.strOk x = true) : PyData.canLayAll0 (ns.map PyData.str) = true := by
  induction ns with
  | nil => rfl
  | cons a r ih => simp only [List.map_cons, PyData.canLayAll0, PyData.canLay0, h a List.mem_cons_self, ih fun x hx => h x (List.mem_cons_of_mem _ hx)]; rfl
theorem depth_strs (ns : List Str) : PyData.depthAll (ns.map PyData.str) = 0 := by
  induction ns with
  | nil => rfl
  | cons a r ih => simp [PyData.depthAll, PyData.depth, ih]
theorem shaped_strs (ns : List Str) (h : ∀ x ∈ ns, PyData.strOk x = true) : SeqAt.shaped (.tuple (ns.map PyData.str)) = true := by
  unfold SeqAt.shaped
  simp [PyData.canLay0, PyData.depth, canLay_strs ns h, depth_strs]
theorem at_last {xs : List Str} {x : Str} : atI ((xs ++ [x]).map D.str) (-1) = some (.str x) := by
  unfold atI ixN
  rw [if_neg (by omega), if_pos (by simp; omega)]
  have : (-1 + (((xs ++ [x]).map D.str).length : Int)).toNat = xs.length := by simp; omega
  simp only [Option.bind_some, this]
  simp
theorem w_wrong_room {ns : List Str} (h : NamesOk ns) (hq : Q .non G) : f_wrong_room [.tuf (ns.map D.str)] G Q E := by
  unfold f_wrong_room t_wrong_room
  simp [start3, tlam2]
  intro f _
  refine w_first_wrong rfl _ (.inr rfl) (fun k hk QT E q => ?_) hq
  have hk' : k < ns.length := by simpa using hk
  have hn := h.nm _ (List.getElem_mem hk')
  simp [putL]
  refine w_isname hn ?_
  simp
  have e : List.take k (List.map D.str ns) = (ns.take k).map D.str := by simp
  have ho : ∀ x ∈ ns.take k, PyData.strOk x = true := fun x hx => nm_ok (h.nm x (List.mem_of_mem_take hx))
  rw [e, c_eq (u := .tuple ((ns.take k).map .str)) (v := .tuple []) (by show (toPys _).map _ = _; rw [toPys_strs]; rfl) rfl (shaped_strs _ ho) (by decide)]
  cases k with
  | zero => simpa [PyData.eqv, PyData.eqvAll] using q
  | succ m =>
    have hm : m < ns.length := by omega
    have e2 : ns.take (m + 1) = ns.take m ++ [ns[m]] := by rw [List.take_succ_eq_append_getElem hm]
    have e3 : PyData.eqv (.tuple ((ns.take (m + 1)).map .str)) (.tuple []) = false := by
      rw [e2]
      cases hh : List.map PyData.str (List.take m ns ++ [ns[m]]) with
      | nil =>
        simp at hh
        subst hh
        exact absurd hk' (by simp)
      | cons a r => rfl
    rw [e3]
    have e4 : atI (List.map D.str (List.take (m + 1) ns)) (-1) = some (.str ns[m]) := by
      rw [e2]
      exact at_last
    simp [negV, -List.map_take]
    have e5 := List.pairwise_iff_getElem.mp h.asc m (m + 1) hm hk' (by omega)
    refine ⟨_, e4, ?_⟩
    simpa [e5] using q
theorem w_check_rooms {ns : List Str} (h : NamesOk ns) (hq : Q .non G) : f_check_rooms [.tuf (ns.map D.str)] G Q E := by
  have h1 := h.len
  have e1 : (2 : Int) ≤ ns.length := by omega
  have e2 : (ns.length : Int) ≤ 7 := by omega
  unfold f_check_rooms t_check_rooms
  simp [start3, e1, e2]
  refine w_wrong_room h ?_
  simpa using hq
end
end K03

set_option Elab.async false
set_option linter.all false
set_option maxRecDepth 100000
set_option maxHeartbeats 4000000
/-! a house's parts are let: doors, exits, numbers; the house -/
namespace K03
open PySem PySem.Spec L2 V3 PyProof.Rows
/-- a door's parts -/
structure DoorP where
  a : Str
  b : Str
  both : Bool
  wide : Int
  steps : Int
  closes : Option Int
def DoorP.d (p : DoorP) : D := .tup [.str p.a, .str p.b, .str (if p.both then "both" else "one"), .int p.wide, .int p.steps, optD p.closes]
structure DoorP.Ok (ns : List Str) (p : DoorP) : Prop where
  a : p.a ∈ ns
  b : p.b ∈ ns
  ne : p.a ≠ p.b
  wide : 1 ≤ p.wide ∧ p.wide ≤ 9
  steps : 1 ≤ p.steps ∧ p.steps ≤ 3
  closes : ∀ c, p.closes = some c → 0 ≤ c ∧ c ≤ 30
section
variable {G : Gp} {Q : K3} {E : E3} {x : Str} {ns : List Str}
theorem w_isroomof (hx : x ∈ ns) (hq : Q (.bl true) G) : f_is_room_of [.tuf (ns.map D.str), .str x] G Q E := by
  unfold f_is_room_of t_is_room_of
  have : inD G (.str x) (.tuf (ns.map D.str)) = some true := by
    rw [inD_flat (ys := ns.map D.str) rfl rfl (flat_strs ns), any_strs, decide_eq_true hx]
  simp [start3, this]
  exact hq
theorem w_isnoneorO {o : Option Int} {j k : Int} (h : ∀ c, o = some c → j ≤ c ∧ c ≤ k) (hq : Q (.bl true) G) : f_is_none_or [optD o, .int j, .int k] G Q E := by
  cases o with
  | none => simpa [optD] using hq
  | some c =>
    have := h c rfl
    simpa [optD, this] using hq
theorem w_isdoor {p : DoorP} (hn : NamesOk ns) (h : p.Ok ns) (hq : Q (.bl true) G) : f_is_door [.tuf (ns.map D.str), p.d] G Q E := by
  have oa := nm_ok (hn.nm _ h.a)
  have ob := nm_ok (hn.nm _ h.b)
  unfold f_is_door t_is_door DoorP.d
  simp [start3, atI, ixN]
  refine w_isroomof h.a ?_
  simp
  refine w_isroomof h.b ?_
  have hw : inD G (.str (if p.both then "both" else "one")) (.tup [.str "one", .str "both"]) = some true := by
    rw [inD_flat (ys := [.str "one", .str "both"]) rfl rfl rfl]
    cases p.both <;> rfl
  have k1 := h.wide
  have k2 := h.steps
  have k3 : ¬ 9 < p.wide := by omega
  have k4 : ¬ 3 < p.steps := by omega
  simp [oa, ob, h.ne, hw, k1, k2, k3, k4]
  exact ⟨by decide, w_isnoneorO h.closes hq⟩
theorem w_check_doors {ds : List DoorP} (hn : NamesOk ns) (hl : 1 ≤ ds.length ∧ ds.length ≤ 12) (h : ∀ p ∈ ds, p.Ok ns) (hq : Q .non G) : f_check_doors [.tuf (ns.map D.str), .tup (ds.map DoorP.d)] G Q E := by
  have e1 : (1 : Int) ≤ ds.length := by omega
  have e2 : (ds.length : Int) ≤ 12 := by omega
  unfold f_check_doors t_check_doors
  simp [start3, e1, e2]
  unfold f_wrong_door t_wrong_door
  simp [start3, tlam2]
  intro f _
  refine w_first_wrong rfl _ (by first | exact .inr rfl | exact .inl rfl) (fun k hk QT E q => ?_) ?_
  · simp [putL]
    exact w_isdoor hn (h _ (List.getElem_mem _)) q
  · simpa using hq
/-- exits -/
def exD (e : Str × Option Int) : D := .tup [.str e.1, optD e.2]
structure ExitsOk (ns : List Str) (es : List (Str × Option Int)) : Prop where
  len : es.length ≤ 99
  ne : es ≠ []
  rm : ∀ e ∈ es, e.1 ∈ ns
  pl : ∀ e ∈ es, ∀ c, e.2 = some c → 1 ≤ c ∧ c ≤ 99
  asc : es.Pairwise (fun a b => a.1.cps.toList < b.1.cps.toList)
theorem w_isexit {e : Str × Option Int} (hx : e.1 ∈ ns) (hp : ∀ c, e.2 = some c → 1 ≤ c ∧ c ≤ 99) (hq : Q (.bl true) G) : f_is_exit [.tuf (ns.map D.str), exD e] G Q E := by
  unfold f_is_exit t_is_exit exD
  simp [start3, atI, ixN]
  refine w_isroomof hx ?_
  simp
  exact w_isnoneorO hp hq
theorem toPy_opt (o : Option Int) : ∃ d, toPy (optD o) = some d ∧ SeqAt.shaped d = true ∧ PyData.depth d = 0 ∧ PyData.canLay0 d = true := by
  cases o with
  | none => exact ⟨.none, rfl, by decide, rfl, rfl⟩
  | some c => exact ⟨.int c, rfl, rfl, rfl, rfl⟩
theorem toPys_ex (es : List (Str × Option Int)) (h : ∀ e ∈ es, PyData.strOk e.1 = true) : ∃ ds, toPys (es.map exD) = some ds ∧ ds.length = es.length ∧ PyData.depthAll ds ≤ 1 ∧ PyData.canLayAll0 ds = true := by
  induction es with
  | nil => exact ⟨[], rfl, rfl, by decide, rfl⟩
  | cons e r ih =>
    obtain ⟨ds, e1, e2, e3, e4⟩ := ih fun x hx => h x (List.mem_cons_of_mem _ hx)
    obtain ⟨d, h1, h2, h3, h4⟩ := toPy_opt e.2
    have ho := h e List.mem_cons_self
    refine ⟨.tuple [.str e.1, d] :: ds, ?_, by simp [e2], ?_, ?_⟩
    · simp [toPys, toPy, exD, h1, e1]
    · simp only [PyData.depthAll, PyData.depth, h3]
      omega
    · simp [PyData.canLayAll0, PyData.canLay0, ho, h4, e4]
theorem at_lastD {xs : List D} {x : D} : atI (xs ++ [x]) (-1) = some x := by
  unfold atI ixN
  rw [if_neg (by omega), if_pos (by simp; omega)]
  have : (-1 + ((xs ++ [x]).length : Int)).toNat = xs.length := by simp; omega
  simp only [Option.bind_some, this]
  simp
theorem w_check_exits {es : List (Str × Option Int)} (hn : NamesOk ns) (h : ExitsOk ns es) (hq : Q .non G) : f_check_exits [.tuf (ns.map D.str), .tup (es.map exD)] G Q E := by
  have e1 : 0 < es.length := List.length_pos_iff.mpr h.ne
  have ok : ∀ e ∈ es, PyData.strOk e.1 = true := fun e he => nm_ok (hn.nm _ (h.rm e he))
  unfold f_check_exits t_check_exits
  simp [start3, e1]
  unfold f_wrong_exit t_wrong_exit
  simp [start3, tlam2]
  intro f _
  refine w_first_wrong rfl _ (by first | exact .inr rfl | exact .inl rfl) (fun k hk QT E q => ?_) ?_
  · have hk' : k < es.length := by simpa using hk
    have hm := List.getElem_mem hk'
    simp [putL, -List.map_take]
    unfold f_is_exit_behind t_is_exit_behind
    simp [start3, -List.map_take]
    refine w_isexit (h.rm _ hm) (h.pl _ hm) ?_
    simp [-List.map_take]
    have e : List.take k (List.map exD es) = (es.take k).map exD := by simp
    obtain ⟨ds, d1, d2, d3, d4⟩ := toPys_ex (es.take k) fun x hx => ok x (List.mem_of_mem_take hx)
    rw [e, c_eq (u := .tuple ds) (v := .tuple []) (by show (toPys _).map _ = _; rw [d1]; rfl) rfl (by unfold SeqAt.shaped; simp [PyData.canLay0, PyData.depth, d4]; omega) (by decide)]
    cases k with
    | zero =>
      have : ds = [] := List.length_eq_zero_iff.mp (by rw [d2]; simp)
      subst this
      simpa [PyData.eqv, PyData.eqvAll] using q
    | succ m =>
      have hm : m < es.length := by omega
      have e2 : es.take (m + 1) = es.take m ++ [es[m]] := by rw [List.take_succ_eq_append_getElem hm]
      have e3 : PyData.eqv (.tuple ds) (.tuple []) = false := by
        cases ds with
        | nil => simp at d2; omega
        | cons a r => rfl
      have e6 : atI (List.take (m + 1) (List.map exD es)) (-1) = some (exD es[m]) := by
        rw [e, e2, List.map_append]
        exact at_lastD
      rw [e3]
      simp [negV]
      have e5 := List.pairwise_iff_getElem.mp h.asc m (m + 1) hm hk' (by omega)
      refine ⟨_, e6, ?_⟩
      simp [exD, atI, ixN, e5]
      exact q
  · simpa using hq
theorem w_wrong_number {is : List Int} {m : Int} (h : ∀ i ∈ is, 0 ≤ i ∧ i ≤ m) (hq : Q .non G) : f_wrong_number [.tup (is.map D.int), .int m] G Q E := by
  unfold f_wrong_number t_wrong_number
  simp [start3, tlam2]
  intro f _
  refine w_first_wrong rfl _ (.inl rfl) (fun k hk QT E q => ?_) hq
  have hk' : k < is.length := by simpa using hk
  have := h _ (List.getElem_mem hk')
  simp [putL, this]
  exact q
theorem w_check_numbers {is : List Int} {m : Int} (hl : is.length = ns.length) (h : ∀ i ∈ is, 0 ≤ i ∧ i ≤ m) (hq : Q .non G) : f_check_numbers [.tuf (ns.map D.str), .tup (is.map D.int), .int m] G Q E := by
  unfold f_check_numbers t_check_numbers
  simp [start3, hl]
  refine w_wrong_number h ?_
  simpa using hq
theorem w_check_bells {is : List Int} (hl : is.length = ns.length) (h : ∀ i ∈ is, 0 ≤ i ∧ i ≤ 9) (hq : Q .non G) : f_check_bells [.tuf (ns.map D.str), .tup (is.map D.int)] G Q E := by
  unfold f_check_bells t_check_bells
  simp [start3, hl]
  refine w_wrong_number h ?_
  simpa using hq
/-- a house -/
structure HouseP where
  ns : List Str
  doors : List DoorP
  exits : List (Str × Option Int)
  people : List Int
  bells : List Int
structure HouseP.Ok (h : HouseP) : Prop where
  ns : NamesOk h.ns
  dl : 1 ≤ h.doors.length ∧ h.doors.length ≤ 12
  doors : ∀ d ∈ h.doors, d.Ok h.ns
  exits : ExitsOk h.ns h.exits
  pl : h.people.length = h.ns.length
  people : ∀ i ∈ h.people, 0 ≤ i ∧ i ≤ 30
  bl : h.bells.length = h.ns.length
  bells : ∀ i ∈ h.bells, 0 ≤ i ∧ i ≤ 9
def HouseP.parts (h : HouseP) : List D := [.tuf (h.ns.map D.str), .tup (h.doors.map DoorP.d), .tup (h.exits.map exD), .tup (h.people.map D.int), .tup (h.bells.map D.int)]
def HouseP.d (h : HouseP) : D := .tup h.parts
/-- the package's house -/
def HouseP.obj (h : HouseP) : D := .obj 0 [(0, .tuf (h.ns.map D.str)), (1, .tup (h.doors.map DoorP.d)), (2, .tup (h.exits.map exD)), (3, .tup (h.people.map D.int)), (4, .tup (h.bells.map D.int))]
end
end K03

set_option Elab.async false
set_option linter.all false
set_option maxRecDepth 100000
set_option maxHeartbeats 4000000
/-! dicts of exits; sorted names -/
namespace K03
open PySem PySem.Spec L2 V3 PyProof.Rows
theorem ltCps_iff : ∀ (a b : List Nat), ltCps a b = true ↔ a < b
  | [], [] => by simp [ltCps]
  | [], b :: bs => by simp [ltCps]
  | a :: as, [] => by simp [ltCps]
  | a :: as, b :: bs => by
    simp [ltCps, List.cons_lt_cons_iff, ltCps_iff as bs]
theorem cps_inj {a b : Str} (h : a.cps.toList = b.cps.toList) : a = b := by
  obtain ⟨⟨a⟩⟩ := a
  obtain ⟨⟨b⟩⟩ := b
  simp at h
  rw [h]
theorem sorted_asc : ∀ {ys : List Str}, sortedS ys = true → ys.Nodup → ys.Pairwise (fun a b => a.cps.toList < b.cps.toList)
  | [], _, _ => .nil
  | [x], _, _ => by simp
  | x :: y :: r, h, nd => by
    have h' : (!ltCps y.cps.toList x.cps.toList && risingS y r) = true := h
    obtain ⟨h1, h2⟩ := Bool.and_eq_true_iff.mp h'
    obtain ⟨nx, nd'⟩ := List.nodup_cons.mp nd
    have ih := sorted_asc (ys := y :: r) h2 nd'
    have hxy : x.cps.toList < y.cps.toList := by
      have n1 : ¬ y.cps.toList < x.cps.toList := fun z => by
        rw [← ltCps_iff] at z
        simp [z] at h1
      rcases List.le_iff_lt_or_eq.mp (List.not_lt.mp n1) with z | z
      · exact z
      · exact absurd (cps_inj z) (fun e => nx (e ▸ List.mem_cons_self))
    refine List.pairwise_cons.mpr ⟨fun b hb => ?_, ih⟩
    rcases List.mem_cons.mp hb with rfl | hb
    · exact hxy
    · exact List.lt_trans hxy ((List.pairwise_cons.mp ih).1 b hb)
def exK (es : List (Str × Option Int)) : List (Key × D) := es.map fun e => (.inr e.1, optD e.2)
def putE (es : List (Str × Option Int)) (x : Str) (o : Option Int) : List (Str × Option Int) := if es.any (fun e => decide (e.1 = x)) = true then es.map fun e => if e.1 = x then (e.1, o) else e else es ++ [(x, o)]
theorem put_exK {es : List (Str × Option Int)} {x : Str} {o : Option Int} : putD (exK es) (.inr x) (optD o) = exK (putE es x o) := by
  unfold putD putE exK
  have h : ((es.map fun e => ((Sum.inr e.1 : Key), optD e.2)).any fun p => decide (p.1 = Sum.inr x)) = es.any fun e => decide (e.1 = x) := by
    rw [List.any_map]
    congr 1
    funext e
    simp
  rw [h]
  split
  · simp only [List.map_map]
    apply List.map_congr_left
    intro e _
    simp only [Function.comp]
    by_cases z : e.1 = x
    · simp [z]
    · simp [z]
  · simp
structure ExD (ns : List Str) (es : List (Str × Option Int)) : Prop where
  nd : (es.map (·.1)).Nodup
  rm : ∀ e ∈ es, e.1 ∈ ns
  pl : ∀ e ∈ es, ∀ c, e.2 = some c → 1 ≤ c ∧ c ≤ 99
theorem ExD.nil {ns : List Str} : ExD ns [] := ⟨.nil, by simp, by simp⟩
theorem ExD.put {ns : List Str} {es : List (Str × Option Int)} {x : Str} {o : Option Int} (h : ExD ns es) (hx : x ∈ ns) (ho : ∀ c, o = some c → 1 ≤ c ∧ c ≤ 99) : ExD ns (putE es x o) ∧ putE es x o ≠ [] := by
  unfold putE
  split
  · rename_i ha
    refine ⟨⟨?_, fun e he => ?_, fun e he => ?_⟩, ?_⟩
    · have : (es.map fun e => if e.1 = x then (e.1, o) else e).map (·.1) = es.map (·.1) := by
        rw [List.map_map]
        apply List.map_congr_left
        intro e _
        simp only [Function.comp]
        split <;> rfl
      rw [this]
      exact h.nd
    · obtain ⟨e0, h0, rfl⟩ := List.mem_map.mp he
      split
      · exact h.rm e0 h0
      · exact h.rm e0 h0
    · obtain ⟨e0, h0, rfl⟩ := List.mem_map.mp he
      split
      · exact ho
      · exact h.pl e0 h0
    · intro z
      have := List.map_eq_nil_iff.mp z
      subst this
      simp at ha
  · rename_i ha
    refine ⟨⟨?_, fun e he => ?_, fun e he => ?_⟩, by simp⟩
    · rw [List.map_append, List.nodup_append]
      refine ⟨h.nd, by simp, fun a ha1 b hb e => ?_⟩
      simp at hb
      subst hb
      subst e
      obtain ⟨e0, h0, e1⟩ := List.mem_map.mp ha1
      exact ha (List.any_eq_true.mpr ⟨e0, h0, by simpa using e1⟩)
    · rcases List.mem_append.mp he with z | z
      · exact h.rm e z
      · cases List.mem_singleton.mp z
        exact hx
    · rcases List.mem_append.mp he with z | z
      · exact h.pl e z
      · cases List.mem_singleton.mp z
        exact ho
theorem exK_keys (es : List (Str × Option Int)) : (exK es).map (fun kv => match kv.1 with | .inl i => D.int i | .inr s => D.str s) = (es.map (·.1)).map D.str := by
  unfold exK
  rw [List.map_map, List.map_map]
  rfl
theorem strsOf_strs (ns : List Str) : strsOf (ns.map D.str) = some ns := by
  induction ns with
  | nil => rfl
  | cons a r ih => simp [strsOf, ih]
theorem getK_exK {es : List (Str × Option Int)} {x : Str} {o : Option Int} (nd : (es.map (·.1)).Nodup) (h : (x, o) ∈ es) : getK (exK es) (.inr x) = some (optD o) := by
  induction es with
  | nil => cases h
  | cons e r ih =>
    simp only [List.map_cons, List.nodup_cons] at nd
    rcases List.mem_cons.mp h with z | z
    · subst z
      exact getK_pos
    · have : ¬ (Sum.inr e.1 : Key) = .inr x := fun q => by
        have q' : e.1 = x := by simpa using q
        exact nd.1 (q' ▸ List.mem_map.mpr ⟨_, z, rfl⟩)
      show getK ((Sum.inr e.1, optD e.2) :: exK r) _ = _
      rw [getK_neg this]
      exact ih nd.2 z
/-- the value at a name -/
def atE (es : List (Str × Option Int)) (x : Str) : Option Int := ((es.find? fun e => decide (e.1 = x)).map (·.2)).getD none
theorem atE_mem {es : List (Str × Option Int)} {x : Str} (h : x ∈ es.map (·.1)) : (x, atE es x) ∈ es := by
  unfold atE
  cases e : es.find? fun e => decide (e.1 = x) with
  | none =>
    obtain ⟨e0, h0, e1⟩ := List.mem_map.mp h
    have := List.find?_eq_none.mp e e0 h0
    simp [e1] at this
  | some e0 =>
    have h1 := List.mem_of_find?_eq_some e
    have h2 := List.find?_some e
    simp at h2
    simp
    rw [← h2]
    exact h1
theorem ExD.sorted {ns ys : List Str} {es : List (Str × Option Int)} (h : ExD ns es) (hl : es.length ≤ 99) (hne : es ≠ []) (hp : ys.Perm (es.map (·.1))) (hs : sortedS ys = true) : ExitsOk ns (ys.map fun y => (y, atE es y)) := by
  refine ⟨by have := hp.length_eq; simp at this ⊢; omega, fun z => ?_, fun e he => ?_, fun e he => ?_, ?_⟩
  · have := List.map_eq_nil_iff.mp z
    subst this
    have := hp.symm.eq_nil
    simp at this
    exact hne this
  · obtain ⟨y, hy, rfl⟩ := List.mem_map.mp he
    exact h.rm _ (atE_mem (hp.mem_iff.mp hy))
  · obtain ⟨y, hy, rfl⟩ := List.mem_map.mp he
    exact h.pl _ (atE_mem (hp.mem_iff.mp hy))
  · rw [List.pairwise_map]
    exact sorted_asc hs (hp.nodup_iff.mpr h.nd)
end K03

set_option Elab.async false
set_option linter.all false
set_option maxRecDepth 100000
set_option maxHeartbeats 4000000
/-! the house that the law draws -/
namespace K03
open PySem PySem.Spec L2 V3 PyProof.Rows
theorem allN_ok : NamesOk allN := ⟨by decide, by decide +kernel, by decide +kernel, by decide +kernel⟩
theorem names_take {k : Nat} (h : 2 ≤ k ∧ k ≤ 7) : NamesOk (allN.take k) := by
  refine ⟨by simp [allN]; omega, fun x hx => allN_ok.nm x (List.mem_of_mem_take hx), allN_ok.asc.sublist (List.take_sublist _ _), fun hx => allN_ok.rye (List.mem_of_mem_take hx)⟩
theorem Ext.at {p q : Addr} {G G' : Gp} {o : GO} (s : Ext p G G') (hne : q ≠ p) (h : G q = some o) : G' q = some o := by rw [s q hne (by rw [h]; simp), h]
theorem Ext.free {p q : Addr} {G G' : Gp} {o : GO} (s : Ext p G G') (h : G q = none) : Ext p G (gset G' q o) := fun r h1 h2 => by
  have : r ≠ q := fun e => h2 (e ▸ h)
  rw [gset_off this]
  exact s r h1 h2
theorem PoolAt.ne {p q : Addr} {G : Gp} (h : PoolAt G p) (hq : G q = none) : q ≠ p := fun e => by
  obtain ⟨a, b, c, h, _⟩ := h
  rw [← e, hq] at h
  cases h
theorem PoolAt.off {p q : Addr} {G : Gp} {o : GO} (h : PoolAt G p) (hq : q ≠ p) : PoolAt (gset G q o) p := by
  obtain ⟨a, b, c, h, r⟩ := h
  exact ⟨a, b, c, by rw [gset_off (fun e => hq e.symm)]; exact h, r⟩
theorem NamesOk.inj {ns : List Str} (h : NamesOk ns) {i j : Nat} (hi : i < ns.length) (hj : j < ns.length) (hne : i ≠ j) : ns[i] ≠ ns[j] := by
  intro e
  have irr : ∀ a : List Nat, ¬ a < a := fun a => List.lt_irrefl a
  rcases Nat.lt_or_gt_of_ne hne with z | z
  · have := List.pairwise_iff_getElem.mp h.asc i j hi hj z
    rw [e] at this
    exact irr _ this
  · have := List.pairwise_iff_getElem.mp h.asc j i hj hi z
    rw [e] at this
    exact irr _ this
/-- what is known while a house is drawn -/
structure Drw (p : Addr) (G0 : Gp) (pr pe : Addr) (ns : List Str) (rows : List DoorP) (ex : List (Key × D)) (G : Gp) : Prop where
  pool : PoolAt G p
  ext : Ext p G0 G
  rows : G pr = some (.lst (rows.map DoorP.d))
  ex : G pe = some (.dk ex)
theorem Drw.go {p : Addr} {G0 : Gp} {pr pe : Addr} {ns : List Str} {rows : List DoorP} {ex : List (Key × D)} {G G' : Gp} (h : Drw p G0 pr pe ns rows ex G) (n1 : pr ≠ p) (n2 : pe ≠ p) (hp : PoolAt G' p) (s : Ext p G G') : Drw p G0 pr pe ns rows ex G' :=
  ⟨hp, h.ext.trans s, s.at n1 h.rows, s.at n2 h.ex⟩
section
variable {G : Gp} {Q : K3} {E : E3} {p : Addr}
theorem ix_strs {ns : List Str} {i : Nat} (h : i < ns.length) : atI (ns.map D.str) (i : Int) = some (.str ns[i]) := by
  rw [V3.atI_nat]
  simp [h]
theorem fl_sorted {xs : List Str} {Q : K3} {G : Gp} (hl : xs.length < 64) (h : ∀ ys : List Str, ys.Perm xs → sortedS ys = true → Q (.lst (ys.map D.str)) G) : bfV false .sorted [.lst (xs.map D.str)] G Q :=
  ⟨_, xs, rfl, strsOf_strs xs, hl, h⟩
theorem fl_listd {es : List (Str × Option Int)} {Q : K3} {G : Gp} {p : Addr} (hp : G p = some (.dk (exK es))) (h : Q (.lst ((es.map (·.1)).map D.str)) G) : bfV false .list [.ref p] G Q :=
  .inr ⟨exK es, dicK_ref hp, (congrArg (fun l => Q (.lst l) G) (exK_keys es)).mpr h⟩
theorem fl_tupL {xs : List D} {Q : K3} {G : Gp} (h : Q (.tuf xs) G) : bfV false .tuple [.lst xs] G Q := .inr ⟨xs, rfl, h⟩
theorem fl_tupR {xs : List D} {Q : K3} {G : Gp} {p : Addr} (hp : G p = some (.lst xs)) (h : Q (.tuf xs) G) : bfV false .tuple [.ref p] G Q := .inr ⟨xs, seqL_ref hp, h⟩
end
end K03
set_option Elab.async false
set_option linter.all false
set_option maxRecDepth 100000
set_option maxHeartbeats 1000000
/-! the draws of these laws -/
namespace K03
open PySem PySem.Spec L2 V3 PyProof.Rows
/-- the cell of the draws -/
def PurAt (G : Gp) (p : Addr) : Prop := ∃ a b c : Int, G p = some (.lst [.int a, .int b, .int c]) ∧ 0 ≤ a ∧ (0 ≤ b ∧ b < 2147483549) ∧ 0 ≤ c
theorem PurAt.ne {p q : Addr} {G : Gp} (h : PurAt G p) (hq : G q = none) : q ≠ p := fun e => by
  obtain ⟨a, b, c, h, _⟩ := h
  rw [← e, hq] at h
  cases h
theorem PurAt.off {p q : Addr} {G : Gp} {o : GO} (h : PurAt G p) (hq : q ≠ p) : PurAt (gset G q o) p := by
  obtain ⟨a, b, c, h, r⟩ := h
  exact ⟨a, b, c, by rw [gset_off (fun e => hq e.symm)]; exact h, r⟩
theorem PurAt.sub {p : Addr} {G G' : Gp} (h : PurAt G p) (b : V3.Sub G G') : PurAt G' p := by
  obtain ⟨x, y, z, h, r⟩ := h
  exact ⟨x, y, z, b.at h, r⟩
section
variable {G : Gp} {Q : K3} {E : E3} {p : Addr}
theorem a_take {m : Int} (hP : PurAt G p) (hm : 0 < m) (hm2 : m < 1000) (h : ∀ (r : Int) G', 0 ≤ r → r < m → PurAt G' p → Ext p G G' → Q (.int r) G') : f__law_take [.ref p, .int m] G Q E := by
  obtain ⟨a, b, c, hG, ha, ⟨hb1, hb2⟩, hc⟩ := hP
  unfold f__law_take t__law_take
  simp [start3, seqL_ref hG]
  unfold t__law_take_1
  simp [w_ref hG, ixN]
  refine ⟨.inl ⟨by decide, by decide⟩, .inl ⟨by omega, by omega⟩, .inl ⟨by decide, by decide⟩, ?_⟩
  unfold t__law_take_2
  simp [w_ref gset_at, ixN]
  unfold t__law_take_3
  simp
  have s0 : 0 ≤ (b * (48017 + 6 * c) + 11489 * c + 7919) % 2147483549 := Int.emod_nonneg _ (by decide)
  have s1 : (b * (48017 + 6 * c) + 11489 * c + 7919) % 2147483549 < 2147483549 := Int.emod_lt_of_pos _ (by decide)
  generalize hs : (b * (48017 + 6 * c) + 11489 * c + 7919) % 2147483549 = s at s0 s1 ⊢
  by_cases ha0 : 0 < a
  · refine .inr ⟨ha0, ?_⟩
    simp [w_ref gset_at, ixN]
    exact ⟨⟨hm, by omega⟩, hm, h _ _ (Int.emod_nonneg _ (by omega)) (Int.emod_lt_of_pos _ hm) ⟨_, _, _, gset_at, Int.ediv_nonneg ha (by omega), ⟨s0, s1⟩, by omega⟩ Ext.set⟩
  · refine .inl ⟨by omega, ?_⟩
    unfold t__law_take_4
    simp [x_ref gset_at, atI, ixN]
    exact ⟨⟨by decide, by decide⟩, hm, h _ _ (Int.emod_nonneg _ (by omega)) (Int.emod_lt_of_pos _ hm) ⟨_, _, _, gset_at, ha, ⟨s0, s1⟩, by omega⟩ Ext.set⟩
theorem a_pick {s : D} {xs : List D} (hP : PurAt G p) (hs : seq3 s = some xs) (hx : xs ≠ []) (hl : xs.length < 1000) (h : ∀ d G', d ∈ xs → PurAt G' p → Ext p G G' → Q d G') : f__law_pick [.ref p, s] G Q E := by
  have hlen : ∀ G, lenD G s = some xs.length := fun G => by
    cases s <;> first | (cases hs; rfl) | cases hs
  have hpos : 0 < xs.length := List.length_pos_iff.mpr hx
  unfold f__law_pick t__law_pick
  simp [start3, hlen]
  refine a_take hP (by omega) (by omega) fun r G' h1 h2 h3 h4 => ?_
  have hr : atI xs r = some (xs[r.toNat]'(by omega)) := by
    have := atI_nat xs r.toNat
    rw [show ((r.toNat : Nat) : Int) = r by omega] at this
    rw [this]
    exact List.getElem?_eq_getElem (by omega)
  have hix : ixV s (.int r) G' Q = ∃ d, atI xs r = some d ∧ Q d G' := by
    cases s <;> first | (cases hs; rfl) | cases hs
  rw [hix]
  exact ⟨_, hr, h _ _ (List.getElem_mem _) h3 h4⟩
end
end K03

set_option Elab.async false
set_option linter.all false
set_option maxRecDepth 100000
set_option maxHeartbeats 1000000
/-! the drawn house -/
namespace K03
open PySem PySem.Spec L2 V3 PyProof.Rows
def menuN : List Str := [("a" : Str), "b", "bells", "both", "door", "exit", "hall", "lab", "one", "people", "rooms", "yard"]
theorem menu_ok : ∀ x ∈ menuN, nmB x = true ∧ x ≠ "rye" := by decide +kernel
theorem menu_nd : menuN.Nodup := by decide +kernel
theorem perm_erase {α : Type} : ∀ (l : List α) (i : Nat) (h : i < l.length), (l[i] :: l.eraseIdx i).Perm l
  | a :: r, 0, _ => List.Perm.refl _
  | a :: r, i + 1, h => by
    simp only [List.getElem_cons_succ, List.eraseIdx_cons_succ]
    exact (List.Perm.swap a _ _).trans (List.Perm.cons a (perm_erase r i (by simpa using h)))
theorem map_erase {α β : Type} (f : α → β) : ∀ (l : List α) (i : Nat), (l.map f).eraseIdx i = (l.eraseIdx i).map f
  | [], _ => rfl
  | a :: r, 0 => rfl
  | a :: r, i + 1 => by simp [map_erase f r i]
section
variable {G : Gp} {Q : K3} {E : E3} {p : Addr}
theorem fl_sortedR {xs : List Str} {q : Addr} (hp : G q = some (.lst (xs.map D.str))) (hl : xs.length < 64) (h : ∀ ys : List Str, ys.Perm xs → sortedS ys = true → Q (.lst (ys.map D.str)) G) : bfV false .sorted [.ref q] G Q :=
  ⟨_, xs, seqL_ref hp, strsOf_strs xs, hl, h⟩
theorem lpop_ref {xs : List D} {q : Addr} {i : Int} {k : Nat} (hp : G q = some (.lst xs)) (hk : k < xs.length) (hi : i = k) (hl : xs.length < 1000) (h : Q xs[k] (gset G q (.lst (xs.eraseIdx k)))) : lpopV (.ref q) [.int i] G Q := by
  subst hi
  refine ⟨xs, k, xs[k], hp, by omega, by omega, ?_, by simp [hk], h⟩
  unfold seqIndex?
  simp
  omega
theorem a_names {n : Nat} (hP : PurAt G p) (hn : 2 ≤ n ∧ n ≤ 7) (h : ∀ (ns : List Str) G', NamesOk ns → ns.length = n → PurAt G' p → Ext p G G' → Q (.tuf (ns.map D.str)) G') : f__law_names [.ref p, .int n] G Q E := by
  unfold f__law_names t__law_names
  simp [start3, and_assoc]
  refine fun pf ff => ⟨by decide, fun ps fs => ?_⟩
  unfold t__law_names_1
  simp [and_assoc]
  have npf : pf ≠ p := hP.ne ff
  have hne : ps ≠ pf := fun e => by
    rw [e] at fs
    simp at fs
  have fs' : G ps = none := by rw [gset_off hne] at fs; exact fs
  have nps : ps ≠ p := hP.ne fs'
  refine ⟨by omega, ?_⟩
  refine forW_inv (fun ds σ G' => ds.length ≤ n ∧ ∃ (xs ys : List Str) (b2 : Option D), (xs ++ ys).Perm menuN ∧ xs.length = n - ds.length ∧ G' pf = some (.lst (xs.map D.str)) ∧ G' ps = some (.lst (ys.map D.str)) ∧ PurAt G' p ∧ Ext p G G' ∧ σ = [some (.ref p), some (.int n), b2, some (.ref pf), some (.ref ps)])
    (fun _ _ _ _ => trivial) (fun σ G' hI => ?_) (fun x ds σ G' K hI kk => ?_) _ _ _ ?_
  · obtain ⟨_, xs, ys, b2, pm, hl, h1, h2, P1, S1, rfl⟩ := hI
    simp at hl
    unfold t__law_names_2
    simp [and_assoc]
    have hnd : xs.Nodup := (List.nodup_append.mp (pm.nodup_iff.mpr menu_nd)).1
    refine fl_sortedR h1 (by omega) fun zs pz sz => ?_
    refine fl_tupL ?_
    have hm : ∀ x ∈ zs, x ∈ menuN := fun x hx => pm.mem_iff.mp (List.mem_append_left _ (pz.mem_iff.mp hx))
    refine h zs G' ⟨by rw [pz.length_eq]; omega, fun x hx => (menu_ok x (hm x hx)).1, sorted_asc sz (pz.nodup_iff.mpr hnd), fun z => (menu_ok _ (hm _ z)).2 rfl⟩ (by rw [pz.length_eq]; omega) P1 S1
  · obtain ⟨hd, xs, ys, b2, pm, hl, h1, h2, P1, S1, rfl⟩ := hI
    simp only [List.length_cons] at hd hl
    have hyl : ys.length = 12 - xs.length := by
      have := pm.length_eq
      simp [menuN] at this
      omega
    refine ⟨_, rfl, ?_⟩
    simp [and_assoc, seqL_ref h1, seqL_ref h2, len_ref h2]
    refine a_take P1 (by omega) (by omega) fun r G2 r0 r1 P2 S2 => ?_
    have g1 := S2.at npf h1
    have g2 := S2.at nps h2
    have hk : r.toNat < (ys.map D.str).length := by simp; omega
    refine lpop_ref g2 hk (by omega) (by simp; omega) ?_
    have g1' : gset G2 ps (.lst ((ys.map D.str).eraseIdx r.toNat)) pf = some (.lst (xs.map D.str)) := by rw [gset_off hne.symm]; exact g1
    rw [app_ref g1']
    refine ⟨by simp [sizeLine]; omega, ?_⟩
    have hk' : r.toNat < ys.length := by simpa using hk
    refine kk _ _ ⟨by omega, xs ++ [ys[r.toNat]], ys.eraseIdx r.toNat, _, ?_, by simp; omega, ?_, ?_, ?_, ?_, rfl⟩
    · have e1 : (ys[r.toNat] :: ys.eraseIdx r.toNat).Perm ys := perm_erase ys _ hk'
      rw [List.append_assoc]
      exact (List.Perm.append_left xs e1).trans pm
    · rw [gset_at]
      simp
    · rw [gset_off hne, gset_at]
      rw [map_erase]
    · exact (P2.off nps).off npf
    · intro q q1 q2
      have n1 : q ≠ pf := fun e => q2 (e ▸ ff)
      have n2 : q ≠ ps := fun e => q2 (e ▸ fs')
      rw [gset_off n1, gset_off n2]
      exact (S1.trans S2) q q1 q2
  · refine ⟨by simp [rngD], [], menuN, _, List.Perm.refl _, by simp [rngD], ?_, ?_, (hP.off npf).off nps, (Ext.new ff).trans (Ext.new fs), rfl⟩
    · rw [gset_off hne.symm, gset_at]
      rfl
    · rw [gset_at]
      rfl
end
end K03

set_option Elab.async false
set_option linter.all false
set_option maxRecDepth 100000
set_option maxHeartbeats 1000000
namespace K03
open PySem PySem.Spec L2 V3 PyProof.Rows
section
variable {G : Gp} {Q : K3} {E : E3} {p : Addr} {ns : List Str}
theorem ix_tufI {i : Int} (h0 : 0 ≤ i) (h1 : i < ns.length) : atI (ns.map D.str) i = some (.str (ns[i.toNat]'(by omega))) := by
  have := ix_strs (ns := ns) (i := i.toNat) (by omega)
  rw [show ((i.toNat : Nat) : Int) = i by omega] at this
  exact this
theorem nth_mem {i : Int} (h0 : 0 ≤ i) (h1 : i < ns.length) : ns[i.toNat]'(by omega) ∈ ns := List.getElem_mem _
theorem a_door (hP : PurAt G p) (hns : NamesOk ns) (h : ∀ (d : DoorP) G', d.Ok ns → PurAt G' p → Ext p G G' → Q d.d G') : f__law_door [.ref p, .tuf (ns.map D.str)] G Q E := by
  have hl := hns.len
  unfold f__law_door t__law_door
  simp [start3, and_assoc]
  refine a_take hP (by omega) (by omega) fun one G1 o0 o1 P1 S1 => ?_
  unfold t__law_door_1
  simp [and_assoc]
  refine a_take P1 (by omega) (by omega) fun r G2 r0 r1 P2 S2 => ?_
  have hm0 : 0 ≤ (one + 1 + r) % (ns.length : Int) := Int.emod_nonneg _ (by omega)
  have hm1 : (one + 1 + r) % (ns.length : Int) < ns.length := Int.emod_lt_of_pos _ (by omega)
  have hne : (one + 1 + r) % (ns.length : Int) ≠ one := fun e => by
    by_cases z : one + 1 + r < ns.length
    · rw [Int.emod_eq_of_lt (by omega) z] at e
      omega
    · have : (one + 1 + r) % (ns.length : Int) = one + 1 + r - ns.length := by
        rw [← Int.sub_emod_right]
        exact Int.emod_eq_of_lt (by omega) (by omega)
      omega
  refine ⟨by omega, _, ix_tufI hm0 hm1, ?_⟩
  generalize (one + 1 + r) % (ns.length : Int) = two at hm0 hm1 hne ⊢
  unfold t__law_door_2
  simp [and_assoc]
  refine ⟨by decide, a_pick P2 rfl (by simp) (by simp) fun closes G3 hc P3 S3 => ?_⟩
  unfold t__law_door_3
  simp [and_assoc]
  refine ⟨by decide, a_pick P3 rfl (by simp) (by simp) fun w0 G4 hw P4 S4 => ?_⟩
  have hw' : ∃ i : Int, w0 = .int i ∧ 1 ≤ i ∧ i ≤ 9 := by
    simp at hw
    rcases hw with rfl | rfl | rfl | rfl <;> exact ⟨_, rfl, by decide, by decide⟩
  obtain ⟨wi, rfl, w1, w2⟩ := hw'
  refine a_take P4 (by omega) (by omega) fun wd G5 d0 d1 P5 S5 => ?_
  try simp
  unfold t__law_door_4
  simp [and_assoc]
  refine ⟨by decide, a_pick P5 rfl (by simp) (by simp) fun s0 G6 hs P6 S6 => ?_⟩
  have hs' : ∃ i : Int, s0 = .int i ∧ 1 ≤ i ∧ i ≤ 3 := by
    simp at hs
    rcases hs with rfl | rfl | rfl <;> exact ⟨_, rfl, by decide, by decide⟩
  obtain ⟨si, rfl, s1, s2⟩ := hs'
  refine a_take P6 (by omega) (by omega) fun st G7 t0 t1 P7 S7 => ?_
  try simp
  unfold t__law_door_5
  simp [and_assoc]
  refine ⟨_, ix_tufI o0 o1, by decide, a_pick P7 rfl (by simp) (by simp) fun ways G8 hy P8 S8 => ?_⟩
  refine ⟨by decide, ?_⟩
  have hcl : ∃ o : Option Int, closes = optD o ∧ ∀ c, o = some c → 0 ≤ c ∧ c ≤ 30 := by
    simp at hc
    rcases hc with rfl | rfl | rfl | rfl | rfl | rfl | rfl | rfl
    · exact ⟨none, rfl, fun c e => by cases e⟩
    all_goals exact ⟨some _, rfl, fun c e => by cases e; decide⟩
  obtain ⟨o, rfl, ho⟩ := hcl
  have hyy : ∃ b : Bool, ways = .str (if b then "both" else "one") := by
    simp at hy
    rcases hy with rfl | rfl
    · exact ⟨false, rfl⟩
    · exact ⟨true, rfl⟩
  obtain ⟨b, rfl⟩ := hyy
  refine h ⟨ns[one.toNat]'(by omega), ns[two.toNat]'(by omega), b, 1 + wd, 1 + st, o⟩ G8 ⟨nth_mem o0 o1, nth_mem hm0 hm1, ?_, by simp; omega, by simp; omega, ho⟩ P8 (S1.trans (S2.trans (S3.trans (S4.trans (S5.trans (S6.trans (S7.trans S8)))))))
  exact hns.inj _ _ (by omega)
end
end K03

set_option Elab.async false
set_option linter.all false
set_option maxRecDepth 100000
set_option maxHeartbeats 1000000
namespace K03
open PySem PySem.Spec L2 V3 PyProof.Rows
theorem toPys_len : ∀ {xs : List D} {ps : List PyData}, toPys xs = some ps → ps.length = xs.length
  | [], ps, e => by cases e; rfl
  | x :: xs, ps, e => by
    simp only [toPys] at e
    split at e
    · rename_i d ds h1 h2
      cases e
      simp [toPys_len h2]
    · cases e
theorem eqP_nil {n : Nat} {xs : List D} (h : Plain n (.tup xs)) : eqP (.tup xs) (.tup []) = xs.isEmpty := by
  obtain ⟨q, e, _, _⟩ := h
  simp only [toPy] at e
  obtain ⟨ps, e1, rfl⟩ := Option.map_eq_some_iff.mp e
  unfold eqP
  simp only [toPy, e1, toPys, Option.map_some]
  have hl := toPys_len e1
  rw [PyData.eqv]
  cases ps with
  | nil =>
    cases xs with
    | nil => rfl
    | cons _ _ => simp at hl
  | cons a r =>
    cases xs with
    | nil => simp at hl
    | cons _ _ => rfl
section
variable {G : Gp} {Q : K3} {E : E3} {p : Addr} {ns : List Str}
theorem optD_plain {o : Option Int} : Plain 0 (optD o) := by cases o <;> first | exact .non | exact .int
theorem exs_plain {es : List (Str × Option Int)} (h : ∀ e ∈ es, e.1 ∈ ns) (hn : NamesOk ns) : Plain 2 (.tup (es.map exD)) := by
  refine .tup fun x hx => ?_
  obtain ⟨e, he, rfl⟩ := List.mem_map.mp hx
  refine .tup fun y hy => ?_
  simp at hy
  rcases hy with rfl | rfl
  · exact .str (nm_ok (hn.nm _ (h _ he)))
  · exact optD_plain
theorem a_house {n d : Nat} (hP : PurAt G p) (hn : 2 ≤ n ∧ n ≤ 7) (hd : 1 ≤ d ∧ d ≤ 12) (h : ∀ (H : HouseP) G', H.Ok → H.ns.length = n → H.doors.length = d → PurAt G' p → Ext p G G' → Q H.d G') : f__law_house [.ref p, .int n, .int d] G Q E := by
  unfold f__law_house t__law_house
  simp [start3, and_assoc]
  refine a_names hP hn fun ns G1 hns hnl P1 S1 => ?_
  try simp [and_assoc]
  unfold t__law_house_1
  simp [and_assoc]
  unfold t__law_house_2
  simp [and_assoc]
  refine ⟨by omega, ?_⟩
  refine forW_inv (fun ds σ G' => ds.length ≤ d ∧ ∃ (rows : List DoorP) (b4 : Option D), rows.length = d - ds.length ∧ (∀ r ∈ rows, r.Ok ns) ∧ PurAt G' p ∧ Ext p G G' ∧ σ = [some (.ref p), some (.int n), some (.int d), some (.tup (rows.map DoorP.d)), b4, none, some (.tup []), none, some (.tuf (ns.map D.str)), none, none, none])
    (fun _ _ _ _ => trivial) (fun σ G2 hI => ?_) (fun x ds σ G' K hI kk => ?_) _ _ _ ?_
  rotate_left
  · obtain ⟨hdl, rows, b4, hl, hr, P2, S2, rfl⟩ := hI
    simp only [List.length_cons] at hdl hl
    refine ⟨_, rfl, ?_⟩
    simp [and_assoc]
    refine a_door P2 hns fun dr G3 o3 P3 S3 => ?_
    try simp [and_assoc]
    refine ⟨by decide, by simp [sizeLine]; omega, ?_⟩
    exact kk _ _ ⟨by omega, rows ++ [dr], some x, by simp; omega, fun r hr' => by
      rcases List.mem_append.mp hr' with z | z
      · exact hr r z
      · rw [List.mem_singleton.mp z]
        exact o3, P3, S2.trans S3, by simp⟩
  · exact ⟨by simp [rngD], [], none, by simp [rngD], by simp, P1, S1, rfl⟩
  obtain ⟨_, rows, b4, hrl, hrows, P2, S2, rfl⟩ := hI
  simp at hrl
  unfold t__law_house_3
  simp [and_assoc]
  refine forW_inv (fun ds σ G' => ∃ (k : Nat) (es : List (Str × Option Int)) (b5 : Option D), k ≤ ns.length ∧ ds = (ns.drop k).map D.str ∧ es.length ≤ k ∧ (∀ e ∈ es, e.1 ∈ ns.take k) ∧ (∀ e ∈ es, ∀ c, e.2 = some c → 1 ≤ c ∧ c ≤ 99) ∧ es.Pairwise (fun a b => a.1.cps.toList < b.1.cps.toList) ∧ PurAt G' p ∧ Ext p G G' ∧ σ = [some (.ref p), some (.int n), some (.int d), some (.tup (rows.map DoorP.d)), b4, b5, some (.tup (es.map exD)), none, some (.tuf (ns.map D.str)), none, none, none])
    (fun _ _ _ _ => trivial) (fun σ G3 hI => ?_) (fun x ds σ G' K hI kk => ?_) _ _ _ ?_
  rotate_left
  · obtain ⟨k, es, b5, hk, hds, hel, hem, hep, hea, P3, S3, rfl⟩ := hI
    have hk' : k < ns.length := by
      rcases Nat.lt_or_ge k ns.length with z | z
      · exact z
      · rw [List.drop_eq_nil_of_le z] at hds
        cases hds
    rw [List.drop_eq_getElem_cons hk', List.map_cons] at hds
    cases hds
    refine ⟨_, rfl, ?_⟩
    simp [and_assoc]
    refine a_take P3 (by omega) (by omega) fun r G4 r0 r1 P4 S4 => ?_
    try simp [and_assoc]
    have tk : ns.take (k + 1) = ns.take k ++ [ns[k]] := by rw [List.take_succ_eq_append_getElem hk']
    by_cases hr : r = 0
    · refine .inr ⟨hr, ?_⟩
      refine ⟨by decide, a_pick P4 rfl (by simp) (by simp) fun pl G5 hpl P5 S5 => ?_⟩
      refine ⟨by decide, by decide, by simp [sizeLine]; omega, ?_⟩
      have hpo : ∃ o : Option Int, pl = optD o ∧ ∀ c, o = some c → 1 ≤ c ∧ c ≤ 99 := by
        simp at hpl
        rcases hpl with rfl | rfl | rfl | rfl | rfl
        · exact ⟨none, rfl, fun c e => by cases e⟩
        all_goals exact ⟨some _, rfl, fun c e => by cases e; decide⟩
      obtain ⟨o, rfl, ho⟩ := hpo
      refine kk _ _ ⟨k + 1, es ++ [(ns[k], o)], some (.str ns[k]), hk', rfl, by simp; omega, fun e he => ?_, fun e he => ?_, ?_, P5, S3.trans (S4.trans S5), by simp [exD]⟩
      · rw [tk]
        rcases List.mem_append.mp he with z | z
        · exact List.mem_append_left _ (hem e z)
        · rw [List.mem_singleton.mp z]
          exact List.mem_append_right _ (List.mem_singleton.mpr rfl)
      · rcases List.mem_append.mp he with z | z
        · exact hep e z
        · rw [List.mem_singleton.mp z]
          exact ho
      · refine List.pairwise_append.mpr ⟨hea, by simp, fun a ha b hb => ?_⟩
        rw [List.mem_singleton.mp hb]
        obtain ⟨j, hj, ej⟩ := List.getElem_of_mem (hem a ha)
        rw [List.getElem_take] at ej
        have hjk : j < k := by simp at hj; omega
        have := List.pairwise_iff_getElem.mp hns.asc j k (by omega) hk' hjk
        rw [ej] at this
        exact this
    · refine .inl ⟨hr, ?_⟩
      exact kk _ _ ⟨k + 1, es, _, hk', rfl, by omega, fun e he => by rw [tk]; exact List.mem_append_left _ (hem e he), hep, hea, P4, S3.trans S4, rfl⟩
  · exact ⟨0, [], none, by omega, by simp, by simp, by simp, by simp, by simp, P2, S2, rfl⟩
  obtain ⟨k, es, b5, hk, hds, hel, hem, hep, hea, P3, S3, rfl⟩ := hI
  have hem' : ∀ e ∈ es, e.1 ∈ ns := fun e he => List.mem_of_mem_take (hem e he)
  have fin : ∀ (es : List (Str × Option Int)) (G3 : Gp), es.length ≤ 99 → es ≠ [] → (∀ e ∈ es, e.1 ∈ ns) → (∀ e ∈ es, ∀ c, e.2 = some c → 1 ≤ c ∧ c ≤ 99) → es.Pairwise (fun a b => a.1.cps.toList < b.1.cps.toList) → PurAt G3 p → Ext p G G3 →
      t__law_house_5 { nx := fun _ G1 => Q .non G1, rt := Q, bk := fun _ _ => False, ct := fun _ _ => False } (fun x _ G1 => E x G1) [some (.ref p), some (.int n), some (.int d), some (.tup (rows.map DoorP.d)), b4, b5, some (.tup (es.map exD)), none, some (.tuf (ns.map D.str)), none, none, none] G3 := fun es G3 hel hne hem hep hea P3 S3 => by
    unfold t__law_house_5
    simp [and_assoc]
    refine ⟨by decide, a_pick P3 rfl (by simp) (by simp) fun most G4 hmo P4 S4 => ?_⟩
    have hmo' : ∃ i : Int, most = .int i ∧ 2 ≤ i ∧ i ≤ 30 := by
      simp at hmo
      rcases hmo with rfl | rfl | rfl | rfl <;> exact ⟨_, rfl, by decide, by decide⟩
    obtain ⟨mo, rfl, mo1, mo2⟩ := hmo'
    unfold t__law_house_6
    simp [and_assoc]
    refine ⟨by decide, a_pick P4 rfl (by simp) (by simp) fun late G5 hla P5 S5 => ?_⟩
    have hla' : ∃ i : Int, late = .int i ∧ 1 ≤ i ∧ i ≤ 10 := by
      simp at hla
      rcases hla with rfl | rfl | rfl <;> exact ⟨_, rfl, by decide, by decide⟩
    obtain ⟨la, rfl, la1, la2⟩ := hla'
    unfold t__law_house_7
    simp [and_assoc]
    refine forW_inv (fun ds σ G' => ∃ (k : Nat) (pe be : List Int) (b5 : Option D), k ≤ ns.length ∧ ds = (ns.drop k).map D.str ∧ pe.length = k ∧ be.length = k ∧ (∀ i ∈ pe, 0 ≤ i ∧ i ≤ 30) ∧ (∀ i ∈ be, 0 ≤ i ∧ i ≤ 9) ∧ PurAt G' p ∧ Ext p G G' ∧ σ = [some (.ref p), some (.int n), some (.int d), some (.tup (rows.map DoorP.d)), b4, b5, some (.tup (es.map exD)), some (.int mo), some (.tuf (ns.map D.str)), some (.tup (pe.map D.int)), some (.tup (be.map D.int)), some (.int la)])
      (fun _ _ _ _ => trivial) (fun σ G3 hI => ?_) (fun x ds σ G' K hI kk => ?_) _ _ _ ?_
    rotate_left
    · obtain ⟨k, pe, be, b5, hk, hds, hpl, hbl, hpe, hbe, P6, S6, rfl⟩ := hI
      have hk' : k < ns.length := by
        rcases Nat.lt_or_ge k ns.length with z | z
        · exact z
        · rw [List.drop_eq_nil_of_le z] at hds
          cases hds
      rw [List.drop_eq_getElem_cons hk', List.map_cons] at hds
      cases hds
      refine ⟨_, rfl, ?_⟩
      simp [and_assoc]
      refine a_take P6 (by omega) (by omega) fun r G7 r0 r1 P7 S7 => ?_
      try simp [and_assoc]
      refine ⟨by decide, by simp [sizeLine]; omega, ?_⟩
      refine a_take P7 (by omega) (by omega) fun q G8 q0 q1 P8 S8 => ?_
      try simp [and_assoc]
      refine ⟨by decide, by simp [sizeLine]; omega, ?_⟩
      refine kk _ _ ⟨k + 1, pe ++ [r], be ++ [q], some (.str ns[k]), hk', rfl, by simp; omega, by simp; omega, fun i hi => ?_, fun i hi => ?_, P8, S6.trans (S7.trans S8), by simp⟩
      · rcases List.mem_append.mp hi with z | z
        · exact hpe i z
        · rw [List.mem_singleton.mp z]
          omega
      · rcases List.mem_append.mp hi with z | z
        · exact hbe i z
        · rw [List.mem_singleton.mp z]
          omega
    · exact ⟨0, [], [], b5, by omega, by simp, rfl, rfl, by simp, by simp, P5, S3.trans (S4.trans S5), rfl⟩
    obtain ⟨k, pe, be, b5', hk, hds, hpl, hbl, hpe, hbe, P6, S6, rfl⟩ := hI
    have hkn : k = ns.length := by
      have := congrArg List.length hds
      simp at this
      omega
    unfold t__law_house_8
    simp [and_assoc]
    refine ⟨by decide, ?_⟩
    exact h ⟨ns, rows, es, pe, be⟩ _ ⟨hns, (by show 1 ≤ rows.length ∧ rows.length ≤ 12; omega), hrows, ⟨hel, hne, hem, hep, hea⟩, (by show pe.length = ns.length; omega), hpe, (by show be.length = ns.length; omega), hbe⟩ hnl hrl P6 S6
  unfold t__law_house_4
  simp [and_assoc]
  have pl := exs_plain hem' hns
  refine c_neA pl (.tup (n := 0) fun x hx => by simp at hx) (by decide) (by decide) ?_
  rw [eqP_nil pl]
  have hnl7 := hns.len
  cases es with
  | nil =>
    refine .inl ⟨rfl, ?_⟩
    refine a_pick P3 rfl (by intro e; simp at e; rw [e] at hnl7; simp at hnl7) (by simp; omega) fun x G4 hx P4 S4 => ?_
    obtain ⟨y, hy, rfl⟩ := List.mem_map.mp hx
    refine ⟨by decide, by decide, ?_⟩
    exact fin [(y, none)] G4 (by simp) (by simp) (by simpa using hy) (by simp) (by simp) P4 (S3.trans S4)
  | cons e0 er =>
    refine .inr ⟨rfl, ?_⟩
    exact fin _ _ (by omega) (by simp) hem' hep hea P3 S3
end
end K03
set_option Elab.async false
set_option linter.all false
set_option maxRecDepth 100000
set_option maxHeartbeats 2000000
/-! values of any kind, drawn -/
namespace K03
open PySem PySem.Spec L2 V3 PyProof.Rows
/-- an element of a value -/
def elB : D → Bool
  | .non => true
  | .bl _ => true
  | .int i => decide (i.natAbs ≤ 10 ^ 26)
  | .str s => PyData.strOk s
  | .tup _ => true
  | .lst _ => true
  | .dk _ => true
  | _ => false
/-- what may stand in a row of rooms -/
def rmB : D → Bool
  | .str s => PyData.strOk s && (nmB s || decide (s = "") || decide (s = "B"))
  | x => elB x
/-- rooms of any kind -/
def roomsV : D → Bool
  | .tup xs => xs.all rmB
  | x => elB x
/-- numbers, rows of any kind -/
def rowV : D → Bool
  | .tup xs => xs.all elB
  | x => elB x
/-- doors, exits of any kind -/
def rowsV : D → Bool
  | .tup xs => xs.all rowV
  | x => elB x
/-- rows are short -/
def shB : D → Bool
  | .tup xs => decide (xs.length ≤ 40)
  | .tuf xs => decide (xs.length ≤ 40)
  | _ => true
section
variable {G G' : Gp} {Q : K3} {E : E3} {p : Addr}
def odds : List D := [.non, .bl true, .bl false, .tup [], .str "", .int 0, .int 1, .int 4, .int (-1), .int (10 ^ 20), .str "a", .str "one", .tup [.str "a"], .lst [.str "a"], .dk [], .tup [.int 0, .int 0], .tup [.tup [.int 0, .str "a"]], .str "rooms", .tup [.str "a", .str "b", .str "one", .int 1, .int 1, .non], .tup [.int 0, .int 0, .str "a", .int 1], .int 12, .int 31]
theorem odds_ok : ∀ v ∈ odds, roomsV v = true ∧ rmB v = true ∧ rowV v = true ∧ rowsV v = true ∧ shB v = true := by decide +kernel
theorem a_odd (hP : PurAt G p) (hq : ∀ v G', (roomsV v = true ∧ rmB v = true ∧ rowV v = true ∧ rowsV v = true ∧ shB v = true) → PurAt G' p → Ext p G G' → Q v G') : f__law_odd [.ref p] G Q E := by
  unfold f__law_odd t__law_odd
  have nv : ∀ (G : Gp) (Q : K3), negV (.int 1) G Q = Q (.int (-1)) G := fun _ _ => rfl
  have pw : ∀ (G : Gp) (Q : K3), binV false .Pow (.int 10) (.int 20) G Q = (CPow 10 20 ∧ Q (.int (10 ^ 20)) G) := fun _ _ => rfl
  simp [start3, nv, pw, newD]
  refine ⟨⟨by decide, by decide, by decide⟩, by decide, by decide, by decide, by decide, by decide, by decide, by decide, by decide, ?_⟩
  exact a_pick hP (xs := odds) rfl (by simp [odds]) (by simp [odds]) fun d G' hd P1 S1 => hq d G' (odds_ok d hd) P1 S1
theorem eq_t0 {xs : List D} : eqT0V (.tup xs) (.tup []) G Q = Q (.bl xs.isEmpty) G := by
  refine propext ⟨fun ⟨ys, e, _, q⟩ => ?_, fun q => ⟨xs, rfl, rfl, q⟩⟩
  cases e
  exact q
/-- no atom -/
def isT : D → Bool
  | .int _ => false
  | .str _ => false
  | .non => false
  | _ => true
theorem a_bentA__1 {e : D} (he : isT e = false) (hP : PurAt G p) (hq : ∀ v G', (roomsV v = true ∧ rmB v = true ∧ rowV v = true ∧ rowsV v = true ∧ shB v = true) → PurAt G' p → Ext p G G' → Q v G') : f__law_bent__1 [.ref p, e] G Q E := by
  unfold f__law_bent__1 t__law_bent__1
  simp [start3]
  refine a_take hP (by omega) (by omega) fun r G1 h1 h2 P1 S1 => ?_
  unfold t__law_bent__1_1
  have go : f__law_odd [.ref p] G1 Q (fun x G1 => E x G1) := a_odd P1 fun v G' hv P2 S2 => hq v G' hv P2 (S1.trans S2)
  cases e with
  | int i => simp [isB, tyD, kinds7]; exact go
  | str s => simp [isB, tyD, kinds7]; exact go
  | non => simp [isB, tyD, kinds7]; exact go
  | _ => simp [isT] at he
theorem a_bentA__2 {e : D} (he : isT e = false) (hP : PurAt G p) (hq : ∀ v G', (roomsV v = true ∧ rmB v = true ∧ rowV v = true ∧ rowsV v = true ∧ shB v = true) → PurAt G' p → Ext p G G' → Q v G') : f__law_bent__2 [.ref p, e] G Q E := by
  unfold f__law_bent__2 t__law_bent__2
  simp [start3]
  refine a_take hP (by omega) (by omega) fun r G1 h1 h2 P1 S1 => ?_
  unfold t__law_bent__2_1
  have go : f__law_odd [.ref p] G1 Q (fun x G1 => E x G1) := a_odd P1 fun v G' hv P2 S2 => hq v G' hv P2 (S1.trans S2)
  cases e with
  | int i => simp [isB, tyD, kinds7]; exact go
  | str s => simp [isB, tyD, kinds7]; exact go
  | non => simp [isB, tyD, kinds7]; exact go
  | _ => simp [isT] at he
theorem a_bentK__2 {El Cl : D → Bool} {xs : List D} (hx : ∀ x ∈ xs, El x = true) (hl : 1 ≤ xs.length ∧ xs.length ≤ 12) (hc : ∀ ys : List D, ys.length ≤ 40 → (∀ y ∈ ys, El y = true) → Cl (.tup ys) = true) (hls : Cl (.lst xs) = true)
    (ho : ∀ v, (roomsV v = true ∧ rmB v = true ∧ rowV v = true ∧ rowsV v = true ∧ shB v = true) → Cl v = true)
    (hin : ∀ x ∈ xs, ∀ (G : Gp) (Q : K3) (E : E3), PurAt G p → (∀ v G', El v = true → PurAt G' p → Ext p G G' → Q v G') → f__law_bent__1 [.ref p, x] G Q E)
    (hP : PurAt G p) (hq : ∀ v G', Cl v = true → PurAt G' p → Ext p G G' → Q v G') : f__law_bent__2 [.ref p, .tup xs] G Q E := by
  unfold f__law_bent__2 t__law_bent__2
  simp [start3]
  refine a_take hP (by omega) (by omega) fun r G1 h1 h2 P1 S1 => ?_
  unfold t__law_bent__2_1
  have t1 : ∀ G, tyD G (.tup xs) = some (.b "tuple") := fun _ => rfl
  have t2 : isB "tuple" 1 (.b "tuple") = some true := by simp [isB, kinds7]
  have xe : xs.isEmpty = false := by cases xs with
    | nil => simp at hl
    | cons a r => rfl
  simp [t1, t2, eq_t0, xe]
  by_cases r0 : r = 0
  · exact .inr ⟨r0, a_odd P1 fun v G' hv P2 S2 => hq v G' (ho v hv) P2 (S1.trans S2)⟩
  refine .inl ⟨r0, ?_⟩
  unfold t__law_bent__2_2
  have ln : ∀ G, lenD G (.tup xs) = some xs.length := fun _ => rfl
  simp [ln]
  refine a_take P1 (by omega) (by omega) fun k G2 k1 k2 P2 S2 => ?_
  obtain ⟨j, rfl⟩ : ∃ j : Nat, k = j := ⟨k.toNat, by omega⟩
  have hj : j < xs.length := by omega
  have S12 := S1.trans S2
  have aj : atI xs (j : Int) = some xs[j] := by
    rw [V3.atI_nat]
    exact List.getElem?_eq_getElem hj
  have el := hx
  have cut : ∀ lo hi, ∀ x ∈ V3.cutD xs lo hi, El x = true := fun lo hi x h => by
    unfold V3.cutD at h
    exact el x (List.mem_of_mem_drop (List.mem_of_mem_take h))
  have cl : ∀ lo hi, (V3.cutD xs lo hi).length ≤ 12 := fun lo hi => by
    unfold V3.cutD
    rw [List.length_take, List.length_drop]
    omega
  have out := hc
  have sz : ∀ n : Nat, n ≤ 100 → n ≤ sizeLine := fun n h => by simp [sizeLine]; omega
  unfold t__law_bent__2_3
  simp
  by_cases r1 : r = 1
  · refine .inr ⟨r1, ?_⟩
    have c1 := cl none (some (j : Int))
    have c2 := cl (some ((j : Int) + 1)) none
    refine ⟨sz _ (by omega), hq _ G2 (out _ (by simp <;> omega) fun y hy => ?_) P2 S12⟩
    rcases List.mem_append.mp hy with h | h
    · exact cut _ _ y h
    · exact cut _ _ y h
  refine .inl ⟨r1, ?_⟩
  unfold t__law_bent__2_4
  simp
  by_cases r2 : r = 2
  · refine .inr ⟨r2, ?_⟩
    have c1 := cl none (some (j : Int))
    have c2 := cl (some (j : Int)) none
    refine ⟨_, aj, by decide, sz _ (by omega), sz _ (by omega), hq _ G2 (out _ (by simp <;> omega) fun y hy => ?_) P2 S12⟩
    rcases List.mem_append.mp hy with h | h
    · exact cut _ _ y h
    · rcases List.mem_cons.mp h with rfl | h
      · exact el _ (List.getElem_mem hj)
      · exact cut _ _ y h
  refine .inl ⟨r2, ?_⟩
  unfold t__law_bent__2_5
  simp
  by_cases r3 : r = 3
  · refine .inr ⟨r3, ?_⟩
    refine a_take P2 (by omega) (by omega) fun z G3 z1 z2 P3 S3 => ?_
    simp
    by_cases z0 : z = 0
    · refine .inr ⟨z0, hq _ G3 (out _ (by simp <;> omega) fun y hy => el y (List.mem_reverse.mp hy)) P3 (S12.trans S3)⟩
    · refine .inl ⟨z0, ?_⟩
      exact .inl ⟨xs, rfl, hq _ G3 hls P3 (S12.trans S3)⟩
  refine .inl ⟨r3, ?_⟩
  unfold t__law_bent__2_6
  simp
  have c1 := cl none (some (j : Int))
  have c2 := cl (some ((j : Int) + 1)) none
  refine ⟨_, aj, hin _ (List.getElem_mem hj) _ _ _ P2 fun v G3 hv P3 S3 => ?_⟩
  refine ⟨by decide, sz _ (by omega), sz _ (by omega), hq _ G3 (out _ (by simp <;> omega) fun y hy => ?_) P3 (S12.trans S3)⟩
  rcases List.mem_append.mp hy with h | h
  · exact cut _ _ y h
  · rcases List.mem_cons.mp h with rfl | h
    · exact hv
    · exact cut _ _ y h
theorem a_bentK {El Cl : D → Bool} {xs : List D} (hx : ∀ x ∈ xs, El x = true) (hl : 1 ≤ xs.length ∧ xs.length ≤ 12) (hc : ∀ ys : List D, ys.length ≤ 40 → (∀ y ∈ ys, El y = true) → Cl (.tup ys) = true) (hls : Cl (.lst xs) = true)
    (ho : ∀ v, (roomsV v = true ∧ rmB v = true ∧ rowV v = true ∧ rowsV v = true ∧ shB v = true) → Cl v = true)
    (hin : ∀ x ∈ xs, ∀ (G : Gp) (Q : K3) (E : E3), PurAt G p → (∀ v G', El v = true → PurAt G' p → Ext p G G' → Q v G') → f__law_bent__2 [.ref p, x] G Q E)
    (hP : PurAt G p) (hq : ∀ v G', Cl v = true → PurAt G' p → Ext p G G' → Q v G') : f__law_bent [.ref p, .tup xs] G Q E := by
  unfold f__law_bent t__law_bent
  simp [start3]
  refine a_take hP (by omega) (by omega) fun r G1 h1 h2 P1 S1 => ?_
  unfold t__law_bent_1
  have t1 : ∀ G, tyD G (.tup xs) = some (.b "tuple") := fun _ => rfl
  have t2 : isB "tuple" 1 (.b "tuple") = some true := by simp [isB, kinds7]
  have xe : xs.isEmpty = false := by cases xs with
    | nil => simp at hl
    | cons a r => rfl
  simp [t1, t2, eq_t0, xe]
  by_cases r0 : r = 0
  · exact .inr ⟨r0, a_odd P1 fun v G' hv P2 S2 => hq v G' (ho v hv) P2 (S1.trans S2)⟩
  refine .inl ⟨r0, ?_⟩
  unfold t__law_bent_2
  have ln : ∀ G, lenD G (.tup xs) = some xs.length := fun _ => rfl
  simp [ln]
  refine a_take P1 (by omega) (by omega) fun k G2 k1 k2 P2 S2 => ?_
  obtain ⟨j, rfl⟩ : ∃ j : Nat, k = j := ⟨k.toNat, by omega⟩
  have hj : j < xs.length := by omega
  have S12 := S1.trans S2
  have aj : atI xs (j : Int) = some xs[j] := by
    rw [V3.atI_nat]
    exact List.getElem?_eq_getElem hj
  have el := hx
  have cut : ∀ lo hi, ∀ x ∈ V3.cutD xs lo hi, El x = true := fun lo hi x h => by
    unfold V3.cutD at h
    exact el x (List.mem_of_mem_drop (List.mem_of_mem_take h))
  have cl : ∀ lo hi, (V3.cutD xs lo hi).length ≤ 12 := fun lo hi => by
    unfold V3.cutD
    rw [List.length_take, List.length_drop]
    omega
  have out := hc
  have sz : ∀ n : Nat, n ≤ 100 → n ≤ sizeLine := fun n h => by simp [sizeLine]; omega
  unfold t__law_bent_3
  simp
  by_cases r1 : r = 1
  · refine .inr ⟨r1, ?_⟩
    have c1 := cl none (some (j : Int))
    have c2 := cl (some ((j : Int) + 1)) none
    refine ⟨sz _ (by omega), hq _ G2 (out _ (by simp <;> omega) fun y hy => ?_) P2 S12⟩
    rcases List.mem_append.mp hy with h | h
    · exact cut _ _ y h
    · exact cut _ _ y h
  refine .inl ⟨r1, ?_⟩
  unfold t__law_bent_4
  simp
  by_cases r2 : r = 2
  · refine .inr ⟨r2, ?_⟩
    have c1 := cl none (some (j : Int))
    have c2 := cl (some (j : Int)) none
    refine ⟨_, aj, by decide, sz _ (by omega), sz _ (by omega), hq _ G2 (out _ (by simp <;> omega) fun y hy => ?_) P2 S12⟩
    rcases List.mem_append.mp hy with h | h
    · exact cut _ _ y h
    · rcases List.mem_cons.mp h with rfl | h
      · exact el _ (List.getElem_mem hj)
      · exact cut _ _ y h
  refine .inl ⟨r2, ?_⟩
  unfold t__law_bent_5
  simp
  by_cases r3 : r = 3
  · refine .inr ⟨r3, ?_⟩
    refine a_take P2 (by omega) (by omega) fun z G3 z1 z2 P3 S3 => ?_
    simp
    by_cases z0 : z = 0
    · refine .inr ⟨z0, hq _ G3 (out _ (by simp <;> omega) fun y hy => el y (List.mem_reverse.mp hy)) P3 (S12.trans S3)⟩
    · refine .inl ⟨z0, ?_⟩
      exact .inl ⟨xs, rfl, hq _ G3 hls P3 (S12.trans S3)⟩
  refine .inl ⟨r3, ?_⟩
  unfold t__law_bent_6
  simp
  have c1 := cl none (some (j : Int))
  have c2 := cl (some ((j : Int) + 1)) none
  refine ⟨_, aj, hin _ (List.getElem_mem hj) _ _ _ P2 fun v G3 hv P3 S3 => ?_⟩
  refine ⟨by decide, sz _ (by omega), sz _ (by omega), hq _ G3 (out _ (by simp <;> omega) fun y hy => ?_) P3 (S12.trans S3)⟩
  rcases List.mem_append.mp hy with h | h
  · exact cut _ _ y h
  · rcases List.mem_cons.mp h with rfl | h
    · exact hv
    · exact cut _ _ y h
end
end K03
set_option Elab.async false
set_option linter.all false
set_option maxRecDepth 100000
set_option maxHeartbeats 2000000
/-! rooms bent -/
namespace K03
open PySem PySem.Spec L2 V3 PyProof.Rows
section
variable {G G' : Gp} {Q : K3} {E : E3} {p : Addr}
theorem six_to {n j : Nat} (h : j < n) : HT.sIx n n (some (j : Int)) = j := by
  rw [HT.sIx_nat]
  omega
theorem six_fr {n j : Nat} (h : j < n) : HT.sIx n 0 (some (j : Int)) = j := by
  rw [HT.sIx_nat]
  omega
theorem sl_to {xs : List D} {j : Nat} (hj : j < xs.length) (hq : Q (.tup (V3.cutD xs none (some (j : Int)))) G) : slV false (.tuf xs) none (some (j : Int)) G Q := by
  refine .inl ⟨xs, rfl, ?_⟩
  rw [if_neg (by rw [six_to hj]; omega)]
  exact hq
theorem sl_nx {xs : List D} {j : Nat} (hj : j < xs.length) (hq : Q (.tup (V3.cutD xs (some ((j : Int) + 1)) none)) G) : slV false (.tuf xs) (some ((j : Int) + 1)) none G Q := by
  refine .inl ⟨xs, rfl, ?_⟩
  have e : ((j : Int) + 1) = ((j + 1 : Nat) : Int) := by omega
  have : HT.sIx xs.length 0 (some ((j : Int) + 1)) ≠ 0 := by
    rw [e, HT.sIx_nat]
    omega
  rw [if_neg (fun z => this z.1)]
  exact hq
theorem sl_at {xs : List D} {j : Nat} (hj : j < xs.length) (h0 : j = 0 → Q (.tuf xs) G) (h1 : Q (.tup (V3.cutD xs (some (j : Int)) none)) G) : slV false (.tuf xs) (some (j : Int)) none G Q := by
  refine .inl ⟨xs, rfl, ?_⟩
  by_cases z : j = 0
  · rw [if_pos ⟨by rw [six_fr hj]; exact z, rfl⟩]
    exact h0 z
  · rw [if_neg (fun y => z (by rw [← six_fr hj]; exact y.1))]
    exact h1
theorem add_tf {as bs : List D} (ha : as ≠ []) (hb : bs ≠ []) (hz : as.length + bs.length ≤ sizeLine) (hq : Q (.tup (as ++ bs)) G) : binV false .Add (.tup as) (.tuf bs) G Q :=
  .inl ⟨as, bs, rfl, rfl, hz, by rw [if_neg ha, if_neg hb]; exact hq⟩
theorem eq_f0 {xs : List D} : eqT0V (.tuf xs) (.tup []) G Q = Q (.bl xs.isEmpty) G := by
  refine propext ⟨fun ⟨ys, e, _, q⟩ => ?_, fun q => ⟨xs, rfl, rfl, q⟩⟩
  cases e
  exact q
theorem a_bentF {El Cl : D → Bool} {xs : List D} (hx : ∀ x ∈ xs, El x = true) (hl : 1 ≤ xs.length ∧ xs.length ≤ 12) (hc : ∀ ys : List D, ys.length ≤ 40 → (∀ y ∈ ys, El y = true) → Cl (.tup ys) = true) (hls : Cl (.lst xs) = true)
    (ho : ∀ v, (roomsV v = true ∧ rmB v = true ∧ rowV v = true ∧ rowsV v = true ∧ shB v = true) → Cl v = true)
    (hin : ∀ x ∈ xs, ∀ (G : Gp) (Q : K3) (E : E3), PurAt G p → (∀ v G', El v = true → PurAt G' p → Ext p G G' → Q v G') → f__law_bent__2 [.ref p, x] G Q E)
    (hP : PurAt G p) (hq : ∀ v G', Cl v = true → PurAt G' p → Ext p G G' → Q v G') : f__law_bent [.ref p, .tuf xs] G Q E := by
  unfold f__law_bent t__law_bent
  simp [start3]
  refine a_take hP (by omega) (by omega) fun r G1 h1 h2 P1 S1 => ?_
  unfold t__law_bent_1
  have t1 : ∀ G, tyD G (.tuf xs) = some (.b "tuple") := fun _ => rfl
  have t2 : isB "tuple" 1 (.b "tuple") = some true := by simp [isB, kinds7]
  have xe : xs.isEmpty = false := by cases xs with
    | nil => simp at hl
    | cons a r => rfl
  simp [t1, t2, eq_f0, xe]
  by_cases r0 : r = 0
  · exact .inr ⟨r0, a_odd P1 fun v G' hv P2 S2 => hq v G' (ho v hv) P2 (S1.trans S2)⟩
  refine .inl ⟨r0, ?_⟩
  unfold t__law_bent_2
  have ln : ∀ G, lenD G (.tuf xs) = some xs.length := fun _ => rfl
  simp [ln]
  refine a_take P1 (by omega) (by omega) fun k G2 k1 k2 P2 S2 => ?_
  obtain ⟨j, rfl⟩ : ∃ j : Nat, k = j := ⟨k.toNat, by omega⟩
  have hj : j < xs.length := by omega
  have S12 := S1.trans S2
  have aj : atI xs (j : Int) = some xs[j] := by
    rw [V3.atI_nat]
    exact List.getElem?_eq_getElem hj
  have el := hx
  have cut : ∀ lo hi, ∀ x ∈ V3.cutD xs lo hi, El x = true := fun lo hi x h => by
    unfold V3.cutD at h
    exact el x (List.mem_of_mem_drop (List.mem_of_mem_take h))
  have cl : ∀ lo hi, (V3.cutD xs lo hi).length ≤ 12 := fun lo hi => by
    unfold V3.cutD
    rw [List.length_take, List.length_drop]
    omega
  have out := hc
  have sz : ∀ n : Nat, n ≤ 100 → n ≤ sizeLine := fun n h => by simp [sizeLine]; omega
  unfold t__law_bent_3
  simp
  by_cases r1 : r = 1
  · refine .inr ⟨r1, ?_⟩
    have c1 := cl none (some (j : Int))
    have c2 := cl (some ((j : Int) + 1)) none
    refine sl_to hj (sl_nx hj ?_)
    rw [b_addT]
    refine ⟨sz _ (by omega), hq _ G2 (out _ (by simp <;> omega) fun y hy => ?_) P2 S12⟩
    rcases List.mem_append.mp hy with h | h
    · exact cut _ _ y h
    · exact cut _ _ y h
  refine .inl ⟨r1, ?_⟩
  unfold t__law_bent_4
  simp
  by_cases r2 : r = 2
  · refine .inr ⟨r2, ?_⟩
    have c1 := cl none (some (j : Int))
    have c2 := cl (some (j : Int)) none
    refine sl_to hj ⟨_, aj, by decide, ?_⟩
    rw [b_addT]
    refine ⟨by simp; exact sz _ (by omega), ?_⟩
    have one : ∀ y ∈ V3.cutD xs none (some (j : Int)) ++ [xs[j]], El y = true := fun y hy => by
      rcases List.mem_append.mp hy with h | h
      · exact cut _ _ y h
      · rw [List.mem_singleton.mp h]
        exact el _ (List.getElem_mem hj)
    refine sl_at hj (fun z => ?_) ?_
    · refine add_tf (by simp) (fun e => by simp [e] at hj) (by simp; exact sz _ (by omega)) (hq _ G2 (out _ (by simp <;> omega) fun y hy => ?_) P2 S12)
      rcases List.mem_append.mp hy with h | h
      · exact one y h
      · exact el y h
    · rw [b_addT]
      refine ⟨by simp; exact sz _ (by omega), hq _ G2 (out _ (by simp <;> omega) fun y hy => ?_) P2 S12⟩
      rcases List.mem_append.mp hy with h | h
      · exact one y h
      · exact cut _ _ y h
  refine .inl ⟨r2, ?_⟩
  unfold t__law_bent_5
  simp
  by_cases r3 : r = 3
  · refine .inr ⟨r3, ?_⟩
    refine a_take P2 (by omega) (by omega) fun z G3 z1 z2 P3 S3 => ?_
    simp
    by_cases z0 : z = 0
    · refine .inr ⟨z0, xs, rfl, hq _ G3 (out _ (by simp <;> omega) fun y hy => el y (List.mem_reverse.mp hy)) P3 (S12.trans S3)⟩
    · refine .inl ⟨z0, ?_⟩
      exact .inl ⟨xs, rfl, hq _ G3 hls P3 (S12.trans S3)⟩
  refine .inl ⟨r3, ?_⟩
  unfold t__law_bent_6
  simp
  have c1 := cl none (some (j : Int))
  have c2 := cl (some ((j : Int) + 1)) none
  refine sl_to hj ⟨_, aj, hin _ (List.getElem_mem hj) _ _ _ P2 fun v G3 hv P3 S3 => ?_⟩
  refine ⟨by decide, ?_⟩
  rw [b_addT]
  refine ⟨by simp; exact sz _ (by omega), sl_nx hj ?_⟩
  rw [b_addT]
  refine ⟨by simp; exact sz _ (by omega), hq _ G3 (out _ (by simp <;> omega) fun y hy => ?_) P3 (S12.trans S3)⟩
  rw [List.append_assoc] at hy
  rcases List.mem_append.mp hy with h | h
  · exact cut _ _ y h
  · rcases List.mem_cons.mp h with rfl | h
    · exact hv
    · exact cut _ _ y h
end
end K03
set_option Elab.async false
set_option linter.all false
set_option maxRecDepth 100000
set_option maxHeartbeats 2000000
/-! the program's looks at any value -/
namespace K03
open PySem PySem.Spec L2 V3 PyProof.Rows
/-- the first place at which P fails -/
def firstAt (P : Nat → Bool) (n : Nat) : Option Nat := (List.range n).find? fun k => !P k
theorem firstAt_some {P : Nat → Bool} {n k : Nat} (hk : k < n) (h : P k = false) (hb : ∀ m, m < k → P m = true) : firstAt P n = some k := by
  unfold firstAt
  rw [List.find?_range_eq_some]
  refine ⟨by simp [h], by simpa using hk, fun j hj => by simp [hb j hj]⟩
theorem firstAt_none {P : Nat → Bool} {n : Nat} (hb : ∀ m, m < n → P m = true) : firstAt P n = none := by
  unfold firstAt
  rw [List.find?_eq_none]
  intro x hx
  simp [hb x (List.mem_range.mp hx)]
def optI : Option Nat → D
  | none => .non
  | some k => .int k
def strB : D → Bool
  | .str _ => true
  | _ => false
def btwB (lo hi : Int) : D → Bool
  | .int i => decide (lo ≤ i) && decide (i ≤ hi)
  | _ => false
def nameB : D → Bool
  | .str s => nmB s
  | _ => false
section
variable {G G' : Gp} {Q : K3} {E : E3} {p : Addr} {xs : List D} {e : D}
theorem d_first {P : Nat → Bool} {σm : S3} {is : List Nat} {tb : T3} {f : Addr} (hi : is.length = 2) (d : D) (hd : d = .tup xs ∨ d = .tuf xs)
    (h : ∀ k, (hk : k < xs.length) → (∀ m, m < k → P m = true) → ∀ (QT : K3) (E : E3), QT (.bl (P k)) G → tb (putL σm is [xs[k], .tup (xs.take k)]) G QT E) (hq : Q (optI (firstAt P xs.length)) G) :
    run3 (tg_first_wrong (tact 1 f σm is tb)) (start3 N_first_wrong [d, .ref f]) G Q E := by
  have hs : seqA G d = some xs := by rcases hd with rfl | rfl <;> rfl
  have hl : liveOf G d = fun _ => True := by rcases hd with rfl | rfl <;> rfl
  unfold tg_first_wrong
  simp [start3, hs]
  refine forW_inv (fun ds σ G' => G' = G ∧ ∃ n, n ≤ xs.length ∧ (∀ m, m < n → P m = true) ∧ ds = (enumD xs).drop n ∧ ∃ a b, σ = [some d, some (.ref f), a, b]) (fun ds σ G' _ => by rw [hl]; trivial) (fun σ G' h => ?_) (fun x ds σ G' K hI k => ?_) _ _ _ ⟨rfl, 0, by omega, fun m hm => by omega, rfl, none, none, rfl⟩
  · obtain ⟨rfl, n, hn, hb, e, a, b, rfl⟩ := h
    have : n = xs.length := by
      have := congrArg List.length e
      rw [List.length_drop, enum_len] at this
      simp at this
      omega
    subst this
    rw [firstAt_none hb] at hq
    simp
    exact hq
  · obtain ⟨rfl, n, hn0, hb, e, a, b, rfl⟩ := hI
    have hn : n < xs.length := by
      have : ((enumD xs).drop n).length ≠ 0 := by rw [← e]; simp
      rw [List.length_drop, enum_len] at this
      omega
    have hx : (enumD xs).drop n = .tup [.int n, xs[n]] :: (enumD xs).drop (n + 1) := by
      rw [List.drop_eq_getElem_cons (by rw [enum_len]; exact hn)]
      simp [enumD]
    rw [hx] at e
    cases e
    refine ⟨_, rfl, ?_⟩
    simp [tact]
    have hc : ∀ QT : K3, QT (.tup (xs.take n)) G' → slV false d none (some (n : Int)) G' QT := fun QT q => by
      rcases hd with rfl | rfl
      · simp
        rw [cut_to]
        exact q
      · refine .inl ⟨xs, rfl, ?_⟩
        rw [if_neg (by rw [six0]; omega), cut_to]
        exact q
    refine hc _ ⟨by rw [hi], h n hn hb _ _ ?_⟩
    cases ep : P n with
    | true =>
      refine .inr ⟨rfl, ?_⟩
      refine k _ _ ⟨rfl, n + 1, by omega, fun m hm => ?_, rfl, _, _, rfl⟩
      by_cases z : m = n
      · rw [z, ep]
      · exact hb m (by omega)
    | false =>
      refine .inl ⟨rfl, ?_⟩
      rw [firstAt_some hn ep hb] at hq
      exact hq
theorem d_str (he : elB e = true) : f_is_string [e] G Q E = Q (.bl (strB e)) G := by
  unfold f_is_string t_is_string
  cases e <;> first | (simp [elB] at he; done) | simp [start3, isB, tyD, kinds7, strB]
theorem d_btw {lo hi : Int} (he : elB e = true) (hq : Q (.bl (btwB lo hi e)) G) : f_is_between [e, .int lo, .int hi] G Q E := by
  unfold f_is_between t_is_between
  simp [start3]
  unfold f_is_whole t_is_whole
  cases e with
  | int i => by_cases z : lo ≤ i <;> simp [start3, isB, tyD, kinds7, btwB, z] at hq ⊢ <;> exact hq
  | bl b => simp [start3, isB, tyD, kinds7]; exact hq
  | non => simp [start3, isB, tyD, kinds7]; exact hq
  | str s => simp [start3, isB, tyD, kinds7]; exact hq
  | tup s => simp [start3, isB, tyD, kinds7]; exact hq
  | lst s => simp [start3, isB, tyD, kinds7]; exact hq
  | dk s => simp [start3, isB, tyD, kinds7]; exact hq
  | _ => simp [elB] at he
theorem rm_el (h : rmB e = true) : elB e = true := by
  cases e with
  | str s => simp only [rmB, Bool.and_eq_true] at h; exact h.1
  | _ => exact h
theorem d_name (he : rmB e = true) (hq : Q (.bl (nameB e)) G) : f_is_name [e] G Q E := by
  cases e with
  | str s =>
    cases z : nmB s with
    | true =>
      refine w_isname z ?_
      have : nameB (.str s) = true := z
      rw [this] at hq
      exact hq
    | false =>
      have hf : nameB (.str s) = false := z
      rw [hf] at hq
      simp only [rmB, z, Bool.false_or, Bool.and_eq_true, Bool.or_eq_true, decide_eq_true_eq] at he
      rcases he.2 with rfl | rfl
      · unfold f_is_name t_is_name
        simp [start3, d_str (rm_el (e := .str "") (by decide +kernel)), strB, lenD]
        refine ⟨_, ⟨by decide +kernel, rfl⟩, ?_⟩
        rw [if_pos (by decide +kernel)]
        unfold f_is_made_of t_is_made_of
        simp [start3]
        exact hq
      · unfold f_is_name t_is_name
        simp [start3, d_str (rm_el (e := .str "B") (by decide +kernel)), strB, lenD]
        refine ⟨_, ⟨by decide +kernel, rfl⟩, ?_⟩
        rw [if_pos (by decide +kernel)]
        unfold f_is_made_of t_is_made_of
        simp [start3]
        have hc : (Str.ofString "B").cps.toList = [66] := by decide +kernel
        have hn : (!(Builtin.Str.occurrences (Str.ofString "abcdefghijklmnopqrstuvwxyz") ⟨#[66]⟩ 0 (Str.ofString "abcdefghijklmnopqrstuvwxyz").length 1).isEmpty) = false := by decide +kernel
        rw [hc]
        refine lc_go (fun _ => .bl false) (fun _ => true) (by decide) (fun _ _ _ => trivial) (fun d hd => ?_) ?_
        · simp only [List.map_cons, List.map_nil, List.mem_singleton] at hd
          subst hd
          refine ⟨_, rfl, fun G' QT _ q => q, fun _ G' Q' _ q => ?_⟩
          simp
          exact .inl ⟨by simpa using hn, q⟩
        · exact ⟨_, _, rfl, rfl, hq⟩
  | non => unfold f_is_name t_is_name; simp [start3, d_str (rm_el he), strB]; exact hq
  | bl b => unfold f_is_name t_is_name; simp [start3, d_str (rm_el he), strB]; exact hq
  | int i => unfold f_is_name t_is_name; simp [start3, d_str (rm_el he), strB]; exact hq
  | tup b => unfold f_is_name t_is_name; simp [start3, d_str (rm_el he), strB]; exact hq
  | lst b => unfold f_is_name t_is_name; simp [start3, d_str (rm_el he), strB]; exact hq
  | dk b => unfold f_is_name t_is_name; simp [start3, d_str (rm_el he), strB]; exact hq
  | _ => simp [rmB, elB] at he
end
end K03
set_option Elab.async false
set_option linter.all false
set_option maxRecDepth 100000
set_option maxHeartbeats 2000000
/-! rooms of any kind: the program -/
namespace K03
open PySem PySem.Spec L2 V3 PyProof.Rows
/-- xs[k] is a name, behind the one ahead -/
def ltB : D → D → Bool
  | .str r, .str s => decide (r.cps.toList < s.cps.toList)
  | _, _ => false
def roomP (xs : List D) (k : Nat) : Bool := nameB (xs.getD k .non) && (decide (k = 0) || ltB (xs.getD (k - 1) .non) (xs.getD k .non))
/-- a tuple, made or written -/
def seqT : D → Option (List D)
  | .tup xs => some xs
  | .tuf xs => some xs
  | _ => none
/-- what is wrong: nothing, or the index that is kept -/
def rowW (P : List D → Nat → Bool) (lo hi : Nat) (v : D) : Option D := match seqT v with
  | none => some .non
  | some xs => if lo ≤ xs.length ∧ xs.length ≤ hi then (firstAt (P xs) xs.length).map (fun (k : Nat) => D.int (k : Int)) else some .non
def roomsW (v : D) : Option D := rowW roomP 2 7 v
section
variable {G G' : Gp} {Q : K3} {E : E3} {p : Addr} {xs : List D} {e v : D}
theorem nameB_str (h : nameB e = true) : ∃ s, e = .str s ∧ nmB s = true := by
  cases e <;> first | (simp [nameB] at h; done) | exact ⟨_, rfl, h⟩
theorem strs_of : ∀ ys : List D, (∀ y ∈ ys, nameB y = true) → ∃ ss : List Str, ys = ss.map D.str ∧ ∀ s ∈ ss, nmB s = true
  | [], _ => ⟨[], rfl, by simp⟩
  | y :: ys, h => by
    obtain ⟨s, rfl, hs⟩ := nameB_str (h y List.mem_cons_self)
    obtain ⟨ss, rfl, h2⟩ := strs_of ys fun z hz => h z (List.mem_cons_of_mem _ hz)
    refine ⟨s :: ss, rfl, fun x hx => ?_⟩
    rcases List.mem_cons.mp hx with rfl | hx
    · exact hs
    · exact h2 x hx
theorem roomP_name {m : Nat} (h : roomP xs m = true) (hm : m < xs.length) : nameB xs[m] = true := by
  unfold roomP at h
  simp only [Bool.and_eq_true] at h
  simpa [List.getD, hm] using h.1
theorem take_strs {k : Nat} (hk : k ≤ xs.length) (hb : ∀ m, m < k → roomP xs m = true) : ∃ ss : List Str, xs.take k = ss.map D.str ∧ ∀ s ∈ ss, nmB s = true := by
  refine strs_of _ fun y hy => ?_
  obtain ⟨m, hm, rfl⟩ := List.getElem_of_mem hy
  rw [List.length_take] at hm
  rw [List.getElem_take]
  exact roomP_name (hb m (by omega)) (by omega)
theorem d_wrong_room {d : D} (hd : d = .tup xs ∨ d = .tuf xs) (hx : ∀ x ∈ xs, rmB x = true) (hq : Q (optI (firstAt (roomP xs) xs.length)) G) : f_wrong_room [d] G Q E := by
  unfold f_wrong_room t_wrong_room
  simp [start3, tlam2]
  intro f _
  refine d_first rfl d hd (fun k hk hb QT E q => ?_) hq
  have gk : xs.getD k .non = xs[k] := by simp [List.getD, hk]
  simp [putL]
  refine d_name (hx _ (List.getElem_mem hk)) ?_
  have er : roomP xs k = (nameB xs[k] && (decide (k = 0) || ltB (xs.getD (k - 1) .non) xs[k])) := by unfold roomP; rw [gk]
  rw [er] at q
  cases e1 : nameB xs[k] with
  | false =>
    rw [e1] at q
    simp
    exact q
  | true =>
    rw [e1] at q
    obtain ⟨s, es, hs⟩ := nameB_str e1
    rw [es] at q ⊢
    simp
    obtain ⟨ss, et, hs2⟩ := take_strs (by omega) hb
    have lss : ss.length = k := by
      have := congrArg List.length et
      rw [List.length_take, List.length_map] at this
      omega
    rw [et, c_eq (u := .tuple (ss.map .str)) (v := .tuple []) (by show (toPys _).map _ = _; rw [toPys_strs]; rfl) rfl (shaped_strs _ fun x hx => nm_ok (hs2 x hx)) (by decide)]
    cases k with
    | zero =>
      have : ss = [] := List.eq_nil_of_length_eq_zero lss
      subst this
      refine .inr ⟨rfl, ?_⟩
      simpa [PyData.eqv, PyData.eqvAll] using q
    | succ m =>
      have e3 : PyData.eqv (.tuple (ss.map .str)) (.tuple []) = false := by
        cases ss with
        | nil => simp at lss
        | cons a r => rfl
      rw [e3]
      refine .inl ⟨rfl, ?_⟩
      have hl : m < ss.length := by omega
      have e2 : ss = ss.take m ++ [ss[m]] := by
        rw [← List.take_succ_eq_append_getElem hl, List.take_of_length_le (by omega)]
      have nv : ∀ (G : Gp) (Q : K3), negV (.int 1) G Q = Q (.int (-1)) G := fun _ _ => rfl
      have em : xs.getD m .non = .str ss[m] := by
        have h1 : (xs.take (m + 1))[m]? = (ss.map D.str)[m]? := by rw [et]
        rw [List.getElem?_take_of_lt (by omega)] at h1
        simp [hl] at h1
        simp [List.getD, h1]
      rw [nv]
      have la : atI (ss.map D.str) (-1) = some (.str ss[m]) := by
        generalize ss[m] = z at e2
        rw [e2]
        exact at_last
      simp only [x_tup]
      refine ⟨_, la, ?_⟩
      simp only [c_ltS]
      have q2 : QT (.bl (true && (decide (m + 1 = 0) || ltB (xs.getD (m + 1 - 1) .non) (.str s)))) G := q
      rw [show m + 1 - 1 = m by omega, em] at q2
      simpa [ltB] using q2
/-- is_row of any value -/
theorem d_row {lo hi : Int} (hv : rowsV v = true ∨ (∃ xs, v = .tup xs) ∨ ∃ xs, v = .tuf xs) (hq : Q (.bl (match seqT v with | some xs => decide (lo ≤ xs.length) && decide ((xs.length : Int) ≤ hi) | none => false)) G) : f_is_row [v, .int lo, .int hi] G Q E := by
  unfold f_is_row t_is_row
  cases v with
  | tup xs => by_cases z : lo ≤ xs.length <;> simp [start3, isB, tyD, kinds7, seqT, lenD, seqA, z] at hq ⊢ <;> exact hq
  | tuf xs => by_cases z : lo ≤ xs.length <;> simp [start3, isB, tyD, kinds7, seqT, lenD, seqA, z] at hq ⊢ <;> exact hq
  | non => simp [start3, isB, tyD, kinds7]; exact hq
  | bl b => simp [start3, isB, tyD, kinds7]; exact hq
  | int i => simp [start3, isB, tyD, kinds7]; exact hq
  | str s => simp [start3, isB, tyD, kinds7]; exact hq
  | lst s => simp [start3, isB, tyD, kinds7]; exact hq
  | dk s => simp [start3, isB, tyD, kinds7]; exact hq
  | _ =>
    rcases hv with hv | ⟨xs, hv⟩ | ⟨xs, hv⟩
    · simp [rowsV, elB] at hv
    · cases hv
    · cases hv
end
end K03
set_option Elab.async false
set_option linter.all false
set_option maxRecDepth 100000
set_option maxHeartbeats 2000000
/-! the program's checks -/
namespace K03
open PySem PySem.Spec L2 V3 PyProof.Rows
/-- the error of class c that keeps d -/
abbrev badX (c : Nat) (d : D) : X3 := ⟨c, [(5, d)]⟩
/-- a tuple with such elements, or an element -/
def allK (El : D → Bool) (v : D) : Bool := match seqT v with
  | some xs => xs.all El
  | none => elB v
section
variable {G G' : Gp} {Q : K3} {E : E3} {p : Addr} {xs : List D} {e v : D}
theorem allK_cases {El : D → Bool} (h : allK El v = true) : (∃ xs, (v = .tup xs ∨ v = .tuf xs) ∧ seqT v = some xs ∧ ∀ x ∈ xs, El x = true) ∨ (seqT v = none ∧ elB v = true) := by
  cases v with
  | tup xs => exact .inl ⟨xs, .inl rfl, rfl, by simpa [allK, seqT] using h⟩
  | tuf xs => exact .inl ⟨xs, .inr rfl, rfl, by simpa [allK, seqT] using h⟩
  | _ => exact .inr ⟨rfl, h⟩
theorem el_rows (h : elB v = true) (hs : seqT v = none) : rowsV v = true := by
  cases v <;> first | exact h | (simp [seqT] at hs)
theorem d_rowK {El : D → Bool} {lo hi : Int} (hv : allK El v = true) (hq : Q (.bl (match seqT v with | some xs => decide (lo ≤ xs.length) && decide ((xs.length : Int) ≤ hi) | none => false)) G) : f_is_row [v, .int lo, .int hi] G Q E := by
  refine d_row ?_ hq
  rcases allK_cases hv with ⟨xs, z | z, _⟩ | ⟨h1, h2⟩
  · exact .inr (.inl ⟨xs, z⟩)
  · exact .inr (.inr ⟨xs, z⟩)
  · exact .inl (el_rows h2 h1)
theorem d_check_rooms (hv : allK rmB v = true) (hq : match roomsW v with | none => Q .non G | some d => E (badX 2 d) G) : f_check_rooms [v] G Q E := by
  unfold f_check_rooms t_check_rooms
  simp [start3]
  refine d_rowK hv ?_
  rcases allK_cases hv with ⟨xs, hd, hs, hx⟩ | ⟨hs, he⟩
  · have ew : roomsW v = if 2 ≤ xs.length ∧ xs.length ≤ 7 then (firstAt (roomP xs) xs.length).map (fun (k : Nat) => D.int (k : Int)) else some .non := by unfold roomsW rowW; rw [hs]
    have eb : (match seqT v with | some xs => decide ((2 : Int) ≤ xs.length) && decide ((xs.length : Int) ≤ 7) | none => false) = decide (2 ≤ xs.length ∧ xs.length ≤ 7) := by
      rw [hs]
      show (decide ((2 : Int) ≤ xs.length) && decide ((xs.length : Int) ≤ 7)) = _
      rw [← Bool.decide_and]
      exact decide_eq_decide.mpr ⟨fun h => by omega, fun h => by omega⟩
    rw [eb]
    rw [ew] at hq
    by_cases z : 2 ≤ xs.length ∧ xs.length ≤ 7
    · rw [if_pos z] at hq
      rw [decide_eq_true z]
      refine .inr ⟨rfl, d_wrong_room hd hx ?_⟩
      try simp
      refine d_rowK hv ?_
      rw [eb, decide_eq_true z]
      cases ef : firstAt (roomP xs) xs.length with
      | none =>
        rw [ef] at hq
        exact .inr ⟨rfl, .inl ⟨rfl, hq⟩⟩
      | some k =>
        rw [ef] at hq
        exact .inr ⟨rfl, .inr ⟨rfl, hq⟩⟩
    · rw [if_neg z] at hq
      rw [decide_eq_false z]
      refine .inl ⟨rfl, ?_⟩
      try simp
      refine d_rowK hv ?_
      rw [eb, decide_eq_false z]
      exact .inl ⟨rfl, hq⟩
  · have ew : roomsW v = some .non := by unfold roomsW rowW; rw [hs]
    rw [ew] at hq
    rw [hs]
    refine .inl ⟨rfl, ?_⟩
    try simp
    refine d_rowK hv ?_
    rw [hs]
    exact .inl ⟨rfl, hq⟩
end
end K03
set_option Elab.async false
set_option linter.all false
set_option maxRecDepth 100000
set_option maxHeartbeats 2000000
/-! doors and exits of any kind: the program -/
namespace K03
open PySem PySem.Spec L2 V3 PyProof.Rows
def inNs (ns : List Str) : D → Bool
  | .str x => decide (x ∈ ns)
  | _ => false
def isS (s : Str) : D → Bool
  | .str x => decide (x = s)
  | _ => false
def sameS : D → D → Bool
  | .str x, .str y => decide (x = y)
  | _, _ => false
def noneOr (lo hi : Int) (d : D) : Bool := V3.isNon d || btwB lo hi d
def doorB (ns : List Str) : D → Bool
  | .tup [a, b, c, w, s, cl] => inNs ns a && inNs ns b && !sameS a b && (isS "one" c || isS "both" c) && btwB 1 9 w && btwB 1 3 s && noneOr 0 30 cl
  | _ => false
def exitB (ns : List Str) : D → Bool
  | .tup [a, c] => inNs ns a && noneOr 1 99 c
  | _ => false
def lenB (n : Int) (v : D) : Bool := match seqT v with
  | some xs => decide ((xs.length : Int) = n)
  | none => false
section
variable {G G' : Gp} {Q : K3} {E : E3} {p : Addr} {xs : List D} {e v d : D} {ns : List Str}
theorem d_roomof (hd : d = .tup (ns.map D.str) ∨ d = .tuf (ns.map D.str)) (he : elB e = true) (hq : Q (.bl (inNs ns e)) G) : f_is_room_of [d, e] G Q E := by
  unfold f_is_room_of t_is_room_of
  cases e with
  | str x =>
    have : inD G (.str x) d = some (decide (x ∈ ns)) := by
      rcases hd with rfl | rfl <;> rw [inD_flat (ys := ns.map D.str) rfl rfl (flat_strs ns), any_strs]
    by_cases z : x ∈ ns <;> simp [start3, d_str he, strB, this, inNs, z] at hq ⊢ <;> exact hq
  | non => simp [start3, d_str he, strB]; exact hq
  | bl b => simp [start3, d_str he, strB]; exact hq
  | int b => simp [start3, d_str he, strB]; exact hq
  | tup b => simp [start3, d_str he, strB]; exact hq
  | lst b => simp [start3, d_str he, strB]; exact hq
  | dk b => simp [start3, d_str he, strB]; exact hq
  | _ => simp [elB] at he
theorem d_tupof {n : Int} (hv : rowsV v = true ∨ (∃ xs, v = .tup xs) ∨ ∃ xs, v = .tuf xs) (hq : Q (.bl (lenB n v)) G) : f_is_tuple_of [v, .int n] G Q E := by
  unfold f_is_tuple_of t_is_tuple_of
  cases v with
  | tup xs => simp [start3, isB, tyD, kinds7, seqT, lenB, lenD, seqA] at hq ⊢; exact hq
  | tuf xs => simp [start3, isB, tyD, kinds7, seqT, lenB, lenD, seqA] at hq ⊢; exact hq
  | non => simp [start3, isB, tyD, kinds7]; exact hq
  | bl b => simp [start3, isB, tyD, kinds7]; exact hq
  | int i => simp [start3, isB, tyD, kinds7]; exact hq
  | str s => simp [start3, isB, tyD, kinds7]; exact hq
  | lst s => simp [start3, isB, tyD, kinds7]; exact hq
  | dk s => simp [start3, isB, tyD, kinds7]; exact hq
  | _ =>
    rcases hv with hv | ⟨xs, hv⟩ | ⟨xs, hv⟩
    · simp [rowsV, elB] at hv
    · cases hv
    · cases hv
theorem d_noneor {lo hi : Int} (he : elB e = true) (hq : Q (.bl (noneOr lo hi e)) G) : f_is_none_or [e, .int lo, .int hi] G Q E := by
  unfold f_is_none_or t_is_none_or
  cases z : V3.isNon e with
  | true =>
    have : noneOr lo hi e = true := by unfold noneOr; rw [z]; rfl
    rw [this] at hq
    simp [start3, z]
    exact hq
  | false =>
    have : noneOr lo hi e = btwB lo hi e := by unfold noneOr; rw [z]; rfl
    rw [this] at hq
    simp [start3, z]
    exact d_btw he hq
theorem row_or (h : rowV v = true) : rowsV v = true ∨ (∃ xs, v = .tup xs) ∨ ∃ xs, v = .tuf xs := by
  cases v <;> first | exact .inr (.inl ⟨_, rfl⟩) | exact .inl h
theorem d_isdoor (hd : d = .tup (ns.map D.str) ∨ d = .tuf (ns.map D.str)) (hn : ∀ s ∈ ns, nmB s = true) (hv : rowV v = true) (hq : Q (.bl (doorB ns v)) G) : f_is_door [d, v] G Q E := by
  unfold f_is_door t_is_door
  simp [start3]
  refine d_tupof (row_or hv) ?_
  have bad : doorB ns v = false → Q (.bl false) G := fun z => by rw [z] at hq; exact hq
  by_cases six : ∃ a b c w s cl, v = .tup [a, b, c, w, s, cl]
  · obtain ⟨a, b, c, w, s, cl, rfl⟩ := six
    simp only [rowV, List.all_cons, Bool.and_eq_true] at hv
    obtain ⟨ha, hb, hc, hw, hs, hcl, _⟩ := hv
    refine .inr ⟨rfl, ?_⟩
    have i0 : ∀ (G : Gp) (Q : K3), Q a G → ixV (.tup [a, b, c, w, s, cl]) (.int 0) G Q := fun G Q q => ⟨_, rfl, q⟩
    have i1 : ∀ (G : Gp) (Q : K3), Q b G → ixV (.tup [a, b, c, w, s, cl]) (.int 1) G Q := fun G Q q => ⟨_, rfl, q⟩
    have i2 : ∀ (G : Gp) (Q : K3), Q c G → ixV (.tup [a, b, c, w, s, cl]) (.int 2) G Q := fun G Q q => ⟨_, rfl, q⟩
    have i3 : ∀ (G : Gp) (Q : K3), Q w G → ixV (.tup [a, b, c, w, s, cl]) (.int 3) G Q := fun G Q q => ⟨_, rfl, q⟩
    have i4 : ∀ (G : Gp) (Q : K3), Q s G → ixV (.tup [a, b, c, w, s, cl]) (.int 4) G Q := fun G Q q => ⟨_, rfl, q⟩
    have i5 : ∀ (G : Gp) (Q : K3), Q cl G → ixV (.tup [a, b, c, w, s, cl]) (.int 5) G Q := fun G Q q => ⟨_, rfl, q⟩
    refine i0 _ _ (d_roomof hd ha ?_)
    cases e1 : inNs ns a with
    | false => exact .inl ⟨rfl, bad (by simp [doorB, e1])⟩
    | true =>
    refine .inr ⟨rfl, i1 _ _ (d_roomof hd hb ?_)⟩
    cases e2 : inNs ns b with
    | false => exact .inl ⟨rfl, bad (by simp [doorB, e2])⟩
    | true =>
    refine .inr ⟨rfl, i0 _ _ (i1 _ _ ?_)⟩
    obtain ⟨x, rfl, hx⟩ : ∃ x, a = .str x ∧ x ∈ ns := by cases a <;> first | (simp [inNs] at e1; done) | exact ⟨_, rfl, by simpa [inNs] using e1⟩
    obtain ⟨y, rfl, hy⟩ : ∃ x, b = .str x ∧ x ∈ ns := by cases b <;> first | (simp [inNs] at e2; done) | exact ⟨_, rfl, by simpa [inNs] using e2⟩
    rw [c_eqS]
    refine ⟨nm_ok (hn x hx), nm_ok (hn y hy), ?_⟩
    by_cases exy : x = y
    · rw [decide_eq_true exy]
      exact .inr ⟨rfl, bad (by simp [doorB, sameS, exy])⟩
    · rw [decide_eq_false exy]
      refine .inl ⟨rfl, i2 _ _ ?_⟩
      rw [d_str hc]
      cases e3 : strB c with
      | false => exact .inl ⟨rfl, bad (by cases c <;> first | (simp [strB] at e3; done) | simp [doorB, isS])⟩
      | true =>
      obtain ⟨z, rfl⟩ : ∃ z, c = .str z := by cases c <;> first | (simp [strB] at e3; done) | exact ⟨_, rfl⟩
      refine .inr ⟨rfl, i2 _ _ ⟨by decide, ?_⟩⟩
      have hin : inD G (.str z) (.tup [.str "one", .str "both"]) = some (decide (z ∈ [("one" : Str), "both"])) := by
        rw [inD_flat (ys := [("one" : Str), "both"].map D.str) rfl rfl (flat_strs _), any_strs]
      rw [hin]
      have ez : (isS "one" (.str z) || isS "both" (.str z)) = decide (z ∈ [("one" : Str), "both"]) := by simp [isS]
      cases e4 : decide (z ∈ [("one" : Str), "both"]) with
      | false => exact .inl ⟨rfl, bad (by simp only [doorB, ez, e4, Bool.and_false, Bool.false_and])⟩
      | true =>
      refine .inr ⟨rfl, i3 _ _ (d_btw hw ?_)⟩
      cases e5 : btwB 1 9 w with
      | false => exact .inl ⟨rfl, bad (by simp only [doorB, e5, Bool.and_false, Bool.false_and])⟩
      | true =>
      refine .inr ⟨rfl, i4 _ _ (d_btw hs ?_)⟩
      cases e6 : btwB 1 3 s with
      | false => exact .inl ⟨rfl, bad (by simp only [doorB, e6, Bool.and_false, Bool.false_and])⟩
      | true =>
      refine .inr ⟨rfl, i5 _ _ (d_noneor hcl ?_)⟩
      have : doorB ns (.tup [.str x, .str y, .str z, w, s, cl]) = noneOr 0 30 cl := by
        simp only [doorB, e1, e2, ez, e4, e5, e6, sameS, decide_eq_false exy, Bool.true_and, Bool.not_false]
      rw [this] at hq
      exact hq
  · have nd : doorB ns v = false := by
      unfold doorB
      split
      · rename_i a b c w s cl
        exact absurd ⟨a, b, c, w, s, cl, rfl⟩ six
      · rfl
    refine .inl ⟨?_, bad nd⟩
    cases v with
    | tup xs =>
      have : ¬ xs.length = 6 := fun z => by
        rcases xs with _ | ⟨a, _ | ⟨b, _ | ⟨c, _ | ⟨w, _ | ⟨s, _ | ⟨cl, _ | ⟨q, r⟩⟩⟩⟩⟩⟩⟩ <;> first | (simp at z; done) | skip
        exact six ⟨_, _, _, _, _, _, rfl⟩
      have h2 : ¬ ((xs.length : Int) = 6) := by omega
      simp [lenB, seqT, h2, truD]
    | tuf xs => simp [rowV, elB] at hv
    | _ => rfl
end
end K03
set_option Elab.async false
set_option linter.all false
set_option maxRecDepth 100000
set_option maxHeartbeats 2000000
/-! exits and numbers of any kind: the program -/
namespace K03
open PySem PySem.Spec L2 V3 PyProof.Rows
def fstD : D → D
  | .tup (a :: _) => a
  | _ => .non
def exitP (ns : List Str) (xs : List D) (k : Nat) : Bool := exitB ns (xs.getD k .non) && (decide (k = 0) || ltB (fstD (xs.getD (k - 1) .non)) (fstD (xs.getD k .non)))
section
variable {G G' : Gp} {Q : K3} {E : E3} {p : Addr} {xs : List D} {e v d : D} {ns : List Str}
theorem exitB_shape (h : exitB ns v = true) : ∃ x c, v = .tup [.str x, c] ∧ x ∈ ns ∧ noneOr 1 99 c = true := by
  unfold exitB at h
  split at h
  · rename_i a c
    simp only [Bool.and_eq_true] at h
    cases a <;> first | (simp [inNs] at h; done) | exact ⟨_, _, rfl, by simpa [inNs] using h.1, h.2⟩
  · cases h
theorem d_isexit (hd : d = .tup (ns.map D.str) ∨ d = .tuf (ns.map D.str)) (hv : rowV v = true) (hq : Q (.bl (exitB ns v)) G) : f_is_exit [d, v] G Q E := by
  unfold f_is_exit t_is_exit
  simp [start3]
  refine d_tupof (row_or hv) ?_
  have bad : exitB ns v = false → Q (.bl false) G := fun z => by rw [z] at hq; exact hq
  by_cases two : ∃ a c, v = .tup [a, c]
  · obtain ⟨a, c, rfl⟩ := two
    simp only [rowV, List.all_cons, Bool.and_eq_true] at hv
    obtain ⟨ha, hc, _⟩ := hv
    refine .inr ⟨rfl, _, rfl, d_roomof hd ha ?_⟩
    cases e1 : inNs ns a with
    | false => exact .inl ⟨rfl, bad (by simp [exitB, e1])⟩
    | true =>
    refine .inr ⟨rfl, _, rfl, d_noneor hc ?_⟩
    have : exitB ns (.tup [a, c]) = noneOr 1 99 c := by simp only [exitB, e1, Bool.true_and]
    rw [this] at hq
    exact hq
  · have nd : exitB ns v = false := by
      unfold exitB
      split
      · rename_i a c
        exact absurd ⟨a, c, rfl⟩ two
      · rfl
    have nl : lenB 2 v = false := by
      cases v with
      | tup xs =>
        have : ¬ xs.length = 2 := fun z => by
          rcases xs with _ | ⟨a, _ | ⟨b, _ | ⟨c, r⟩⟩⟩ <;> first | (simp at z; done) | skip
          exact two ⟨_, _, rfl⟩
        have h2 : ¬ ((xs.length : Int) = 2) := by omega
        simp [lenB, seqT, h2]
      | tuf xs => simp [rowV, elB] at hv
      | _ => rfl
    rw [nl]
    exact .inl ⟨rfl, bad nd⟩
theorem exit_plain (h : exitB ns v = true) (hn : ∀ s ∈ ns, nmB s = true) : Plain 1 v := by
  obtain ⟨x, c, rfl, hx, hc⟩ := exitB_shape h
  refine Plain.tup (n := 0) fun y hy => ?_
  simp only [List.mem_cons, List.not_mem_nil, or_false] at hy
  rcases hy with rfl | rfl
  · exact .str (nm_ok (hn x hx))
  · unfold noneOr at hc
    cases y <;> first | exact .non | exact .int | (simp [btwB, V3.isNon] at hc)
theorem d_wrong_exit (hd : d = .tup (ns.map D.str) ∨ d = .tuf (ns.map D.str)) (hn : ∀ s ∈ ns, nmB s = true) {w : D} (hw : w = .tup xs ∨ w = .tuf xs) (hx : ∀ x ∈ xs, rowV x = true) (hq : Q (optI (firstAt (exitP ns xs) xs.length)) G) : f_wrong_exit [d, w] G Q E := by
  unfold f_wrong_exit t_wrong_exit
  simp [start3, tlam2]
  intro f _
  refine d_first rfl w hw (fun k hk hb QT E q => ?_) hq
  have gk : xs.getD k .non = xs[k] := by simp [List.getD, hk]
  simp [putL]
  unfold f_is_exit_behind t_is_exit_behind
  simp [start3]
  refine d_isexit hd (hx _ (List.getElem_mem hk)) ?_
  have er : exitP ns xs k = (exitB ns xs[k] && (decide (k = 0) || ltB (fstD (xs.getD (k - 1) .non)) (fstD xs[k]))) := by unfold exitP; rw [gk]
  rw [er] at q
  cases e1 : exitB ns xs[k] with
  | false => rw [e1] at q; exact .inl ⟨rfl, q⟩
  | true =>
    rw [e1] at q
    refine .inr ⟨rfl, ?_⟩
    obtain ⟨s, c, es, hs, _⟩ := exitB_shape e1
    have one : ∀ m, (hm : m < k) → exitB ns (xs[m]'(by omega)) = true := fun m hm => by
      have := hb m hm
      unfold exitP at this
      simp only [Bool.and_eq_true] at this
      have g : xs.getD m .non = xs[m] := by simp [List.getD, show m < xs.length by omega]
      rw [g] at this
      exact this.1
    have pl : Plain 2 (.tup (xs.take k)) := Plain.tup fun y hy => by
      obtain ⟨m, hm, rfl⟩ := List.getElem_of_mem hy
      rw [List.length_take] at hm
      rw [List.getElem_take]
      exact exit_plain (one m (by omega)) hn
    refine c_eqA pl (Plain.tup (n := 0) (by simp)) (by decide) (by decide) ?_
    rw [eqP_nil pl]
    cases k with
    | zero =>
      refine .inr ⟨rfl, ?_⟩
      simpa using q
    | succ m =>
      have ne : (xs.take (m + 1)).isEmpty = false := by
        have : (xs.take (m + 1)).length ≠ 0 := by rw [List.length_take]; omega
        cases h : xs.take (m + 1) with
        | nil => rw [h] at this; simp at this
        | cons a r => rfl
      rw [ne]
      refine .inl ⟨rfl, ?_⟩
      have nv : ∀ (G : Gp) (Q : K3), negV (.int 1) G Q = Q (.int (-1)) G := fun _ _ => rfl
      have hm : m < xs.length := by omega
      have la : atI (xs.take (m + 1)) (-1) = some xs[m] := by
        have e2 : xs.take (m + 1) = xs.take m ++ [xs[m]] := List.take_succ_eq_append_getElem hm
        rw [e2]
        exact at_lastD
      obtain ⟨r, c2, er2, hr, _⟩ := exitB_shape (one m (by omega))
      rw [nv]
      simp only [x_tup]
      refine ⟨_, la, ?_⟩
      rw [er2, es]
      refine ⟨_, rfl, _, rfl, ?_⟩
      have em : xs.getD m .non = xs[m] := by simp [List.getD, hm]
      have q2 : QT (.bl (true && (decide (m + 1 = 0) || ltB (fstD (xs.getD (m + 1 - 1) .non)) (fstD xs[m + 1])))) G := q
      rw [show m + 1 - 1 = m by omega, em, er2, es] at q2
      simp only [c_ltS]
      simpa [ltB, fstD] using q2
theorem d_number {most : Int} (hx : ∀ x ∈ xs, elB x = true) (hd : d = .tup xs ∨ d = .tuf xs) (hq : Q (optI (firstAt (fun k => btwB 0 most (xs.getD k .non)) xs.length)) G) : f_wrong_number [d, .int most] G Q E := by
  unfold f_wrong_number t_wrong_number
  simp [start3, tlam2]
  intro f _
  refine d_first rfl d hd (fun k hk hb QT E q => ?_) hq
  have gk : xs.getD k .non = xs[k] := by simp [List.getD, hk]
  simp [putL]
  refine d_btw (hx _ (List.getElem_mem hk)) ?_
  rw [gk] at q
  exact q
theorem d_wrong_door (hd : d = .tup (ns.map D.str) ∨ d = .tuf (ns.map D.str)) (hn : ∀ s ∈ ns, nmB s = true) {w : D} (hw : w = .tup xs ∨ w = .tuf xs) (hx : ∀ x ∈ xs, rowV x = true) (hq : Q (optI (firstAt (fun k => doorB ns (xs.getD k .non)) xs.length)) G) : f_wrong_door [d, w] G Q E := by
  unfold f_wrong_door t_wrong_door
  simp [start3, tlam2]
  intro f _
  refine d_first rfl w hw (fun k hk hb QT E q => ?_) hq
  have gk : xs.getD k .non = xs[k] := by simp [List.getD, hk]
  simp [putL]
  refine d_isdoor hd hn (hx _ (List.getElem_mem hk)) ?_
  rw [gk] at q
  exact q
end
end K03
set_option Elab.async false
set_option linter.all false
set_option maxRecDepth 100000
set_option maxHeartbeats 2000000
/-! the other checks: the program -/
namespace K03
open PySem PySem.Spec L2 V3 PyProof.Rows
/-- what is wrong of a row: nothing, or the index that is kept -/
def rowG (P : List D → Nat → Bool) (ok : Nat → Bool) (v : D) : Option D := match seqT v with
  | none => some .non
  | some xs => if ok xs.length then (firstAt (P xs) xs.length).map (fun (k : Nat) => D.int (k : Int)) else some .non
def okD (n : Nat) : Bool := decide (1 ≤ n ∧ n ≤ 12)
def okE (n : Nat) : Bool := decide (0 < n)
def okN (m n : Nat) : Bool := decide (n = m)
def doorsW (ns : List Str) (v : D) : Option D := rowG (fun xs k => doorB ns (xs.getD k .non)) okD v
def exitsW (ns : List Str) (v : D) : Option D := rowG (exitP ns) okE v
def numsW (m : Nat) (most : Int) (v : D) : Option D := rowG (fun xs k => btwB 0 most (xs.getD k .non)) (okN m) v
def rowLen (lo hi : Int) (v : D) : Bool := match seqT v with
  | some xs => decide (lo ≤ xs.length) && decide ((xs.length : Int) ≤ hi)
  | none => false
def someLen (v : D) : Bool := match seqT v with
  | some xs => okE xs.length
  | none => false
section
variable {G G' : Gp} {Q : K3} {E : E3} {p : Addr} {xs : List D} {e v d : D} {ns : List Str}
theorem d_rowL {El : D → Bool} {lo hi : Int} (hv : allK El v = true) (hq : Q (.bl (rowLen lo hi v)) G) : f_is_row [v, .int lo, .int hi] G Q E := d_rowK hv (by cases v <;> exact hq)
theorem rowG_some {P : List D → Nat → Bool} {ok : Nat → Bool} (hs : seqT v = some xs) : rowG P ok v = if ok xs.length then (firstAt (P xs) xs.length).map (fun (k : Nat) => D.int (k : Int)) else some .non := by
  unfold rowG
  rw [hs]
theorem rowG_none {P : List D → Nat → Bool} {ok : Nat → Bool} (hs : seqT v = none) : rowG P ok v = some .non := by
  unfold rowG
  rw [hs]
theorem d_check_doors (hd : d = .tup (ns.map D.str) ∨ d = .tuf (ns.map D.str)) (hn : ∀ s ∈ ns, nmB s = true) (hv : allK rowV v = true) (hq : match doorsW ns v with | none => Q .non G | some i => E (badX 3 i) G) : f_check_doors [d, v] G Q E := by
  unfold f_check_doors t_check_doors
  simp [start3]
  refine d_rowL hv ?_
  unfold doorsW at hq
  rcases allK_cases hv with ⟨xs, hw, hs, hx⟩ | ⟨hs, he⟩
  · rw [rowG_some hs] at hq
    have eb : rowLen 1 12 v = okD xs.length := by
      unfold rowLen
      rw [hs]
      show (decide ((1 : Int) ≤ xs.length) && decide ((xs.length : Int) ≤ 12)) = _
      rw [← Bool.decide_and]
      exact decide_eq_decide.mpr ⟨fun h => by omega, fun h => by omega⟩
    rw [eb]
    cases z : okD xs.length with
    | true =>
      rw [z, if_pos rfl] at hq
      refine .inr ⟨rfl, d_wrong_door hd hn hw hx ?_⟩
      generalize firstAt (fun k => doorB ns (xs.getD k .non)) xs.length = F at hq ⊢
      try simp
      refine d_rowL hv ?_
      rw [eb, z]
      cases F with
      | none => exact .inr ⟨rfl, .inl ⟨rfl, hq⟩⟩
      | some k => exact .inr ⟨rfl, .inr ⟨rfl, hq⟩⟩
    | false =>
      rw [z, if_neg Bool.false_ne_true] at hq
      refine .inl ⟨rfl, ?_⟩
      try simp
      refine d_rowL hv ?_
      rw [eb, z]
      exact .inl ⟨rfl, hq⟩
  · rw [rowG_none hs] at hq
    have eb : rowLen 1 12 v = false := by unfold rowLen; rw [hs]
    rw [eb]
    refine .inl ⟨rfl, ?_⟩
    try simp
    refine d_rowL hv ?_
    rw [eb]
    exact .inl ⟨rfl, hq⟩
theorem d_some (hv : rowsV v = true ∨ (∃ xs, v = .tup xs) ∨ ∃ xs, v = .tuf xs) (hq : Q (.bl (someLen v)) G) : f_is_some_row [v] G Q E := by
  unfold f_is_some_row t_is_some_row
  have c : ∀ xs : List D, decide ((0 : Int) < xs.length) = okE xs.length := fun xs => decide_eq_decide.mpr ⟨fun h => by omega, fun h => by omega⟩
  cases v with
  | tup xs => simp [start3, isB, tyD, kinds7, lenD, seqA]; have := c xs; simp only [someLen, seqT] at hq; rw [← this] at hq; simpa using hq
  | tuf xs => simp [start3, isB, tyD, kinds7, lenD, seqA]; have := c xs; simp only [someLen, seqT] at hq; rw [← this] at hq; simpa using hq
  | non => simp [start3, isB, tyD, kinds7]; exact hq
  | bl b => simp [start3, isB, tyD, kinds7]; exact hq
  | int i => simp [start3, isB, tyD, kinds7]; exact hq
  | str s => simp [start3, isB, tyD, kinds7]; exact hq
  | lst s => simp [start3, isB, tyD, kinds7]; exact hq
  | dk s => simp [start3, isB, tyD, kinds7]; exact hq
  | _ =>
    rcases hv with hv | ⟨xs, hv⟩ | ⟨xs, hv⟩
    · simp [rowsV, elB] at hv
    · cases hv
    · cases hv
theorem allK_or {El : D → Bool} (hv : allK El v = true) : rowsV v = true ∨ (∃ xs, v = .tup xs) ∨ ∃ xs, v = .tuf xs := by
  rcases allK_cases hv with ⟨xs, z | z, _⟩ | ⟨h1, h2⟩
  · exact .inr (.inl ⟨xs, z⟩)
  · exact .inr (.inr ⟨xs, z⟩)
  · exact .inl (el_rows h2 h1)
theorem d_check_exits (hd : d = .tup (ns.map D.str) ∨ d = .tuf (ns.map D.str)) (hn : ∀ s ∈ ns, nmB s = true) (hv : allK rowV v = true) (hq : match exitsW ns v with | none => Q .non G | some i => E (badX 4 i) G) : f_check_exits [d, v] G Q E := by
  unfold f_check_exits t_check_exits
  simp [start3]
  refine d_some (allK_or hv) ?_
  unfold exitsW at hq
  rcases allK_cases hv with ⟨xs, hw, hs, hx⟩ | ⟨hs, he⟩
  · rw [rowG_some hs] at hq
    have eb : someLen v = okE xs.length := by unfold someLen; rw [hs]
    rw [eb]
    cases z : okE xs.length with
    | true =>
      rw [z, if_pos rfl] at hq
      refine .inr ⟨by simp [z], d_wrong_exit hd hn hw hx ?_⟩
      try simp
      refine d_some (allK_or hv) ?_
      rw [eb]
      cases ef : firstAt (exitP ns xs) xs.length with
      | none => rw [ef] at hq; exact .inr ⟨by simp [z], .inl ⟨rfl, hq⟩⟩
      | some k => rw [ef] at hq; exact .inr ⟨by simp [z], .inr ⟨rfl, hq⟩⟩
    | false =>
      rw [z, if_neg Bool.false_ne_true] at hq
      refine .inl ⟨by simp [z], ?_⟩
      try simp
      refine d_some (allK_or hv) ?_
      rw [eb]
      exact .inl ⟨by simp [z], hq⟩
  · rw [rowG_none hs] at hq
    have eb : someLen v = false := by unfold someLen; rw [hs]
    rw [eb]
    refine .inl ⟨rfl, ?_⟩
    try simp
    refine d_some (allK_or hv) ?_
    rw [eb]
    exact .inl ⟨rfl, hq⟩
theorem d_check_numbers {rs : List D} (hd : d = .tup rs ∨ d = .tuf rs) (hv : allK elB v = true) (hq : match numsW rs.length 30 v with | none => Q .non G | some i => E (badX 5 i) G) : f_check_numbers [d, v, .int 30] G Q E := by
  have ld : ∀ G, lenD G d = some rs.length := fun G => by rcases hd with rfl | rfl <;> rfl
  unfold f_check_numbers t_check_numbers
  simp [start3, ld]
  refine d_tupof (allK_or hv) ?_
  unfold numsW at hq
  rcases allK_cases hv with ⟨xs, hw, hs, hx⟩ | ⟨hs, he⟩
  · rw [rowG_some hs] at hq
    have eb : lenB rs.length v = okN rs.length xs.length := by
      unfold lenB
      rw [hs]
      exact decide_eq_decide.mpr ⟨fun h => by omega, fun h => by omega⟩
    rw [eb]
    cases z : okN rs.length xs.length with
    | true =>
      rw [z, if_pos rfl] at hq
      refine .inr ⟨rfl, d_number hx hw ?_⟩
      generalize firstAt (fun k => btwB 0 30 (xs.getD k .non)) xs.length = F at hq ⊢
      try simp
      refine d_tupof (allK_or hv) ?_
      rw [eb, z]
      cases F with
      | none => exact .inr ⟨rfl, .inl ⟨rfl, hq⟩⟩
      | some k => exact .inr ⟨rfl, .inr ⟨rfl, hq⟩⟩
    | false =>
      rw [z, if_neg Bool.false_ne_true] at hq
      refine .inl ⟨rfl, ?_⟩
      try simp
      refine d_tupof (allK_or hv) ?_
      rw [eb, z]
      exact .inl ⟨rfl, hq⟩
  · rw [rowG_none hs] at hq
    have eb : lenB rs.length v = false := by unfold lenB; rw [hs]
    rw [eb]
    refine .inl ⟨rfl, ?_⟩
    try simp
    refine d_tupof (allK_or hv) ?_
    rw [eb]
    exact .inl ⟨rfl, hq⟩
theorem d_check_bells {rs : List D} (hd : d = .tup rs ∨ d = .tuf rs) (hv : allK elB v = true) (hq : match numsW rs.length 9 v with | none => Q .non G | some i => E (badX 6 i) G) : f_check_bells [d, v] G Q E := by
  have ld : ∀ G, lenD G d = some rs.length := fun G => by rcases hd with rfl | rfl <;> rfl
  unfold f_check_bells t_check_bells
  simp [start3, ld]
  refine d_tupof (allK_or hv) ?_
  unfold numsW at hq
  rcases allK_cases hv with ⟨xs, hw, hs, hx⟩ | ⟨hs, he⟩
  · rw [rowG_some hs] at hq
    have eb : lenB rs.length v = okN rs.length xs.length := by
      unfold lenB
      rw [hs]
      exact decide_eq_decide.mpr ⟨fun h => by omega, fun h => by omega⟩
    rw [eb]
    cases z : okN rs.length xs.length with
    | true =>
      rw [z, if_pos rfl] at hq
      refine .inr ⟨rfl, d_number hx hw ?_⟩
      generalize firstAt (fun k => btwB 0 9 (xs.getD k .non)) xs.length = F at hq ⊢
      try simp
      refine d_tupof (allK_or hv) ?_
      rw [eb, z]
      cases F with
      | none => exact .inr ⟨rfl, .inl ⟨rfl, hq⟩⟩
      | some k => exact .inr ⟨rfl, .inr ⟨rfl, hq⟩⟩
    | false =>
      rw [z, if_neg Bool.false_ne_true] at hq
      refine .inl ⟨rfl, ?_⟩
      try simp
      refine d_tupof (allK_or hv) ?_
      rw [eb, z]
      exact .inl ⟨rfl, hq⟩
  · rw [rowG_none hs] at hq
    have eb : lenB rs.length v = false := by unfold lenB; rw [hs]
    rw [eb]
    refine .inl ⟨rfl, ?_⟩
    try simp
    refine d_tupof (allK_or hv) ?_
    rw [eb]
    exact .inl ⟨rfl, hq⟩
end
end K03
set_option Elab.async false
set_option linter.all false
set_option maxRecDepth 100000
set_option maxHeartbeats 2000000
/-! a house made of anything: the program -/
namespace K03
open PySem PySem.Spec L2 V3 PyProof.Rows
def strsD : List D → List Str
  | .str s :: r => s :: strsD r
  | _ :: r => strsD r
  | [] => []
/-- the names of rooms -/
def namesD (v : D) : List Str := match seqT v with
  | some xs => strsD xs
  | none => []
def bellsW (m : Nat) (v : D) : Option D := if V3.isNon v then none else numsW m 9 v
/-- the class of the error and what it keeps -/
def houseW (r d e q b : D) : Option (Nat × D) := match roomsW r with
  | some i => some (2, i)
  | none => match doorsW (namesD r) d with
    | some i => some (3, i)
    | none => match exitsW (namesD r) e with
      | some i => some (4, i)
      | none => match numsW (namesD r).length 30 q with
        | some i => some (5, i)
        | none => (bellsW (namesD r).length b).map fun i => (6, i)
theorem strsD_map : ∀ ns : List Str, strsD (ns.map D.str) = ns
  | [] => rfl
  | n :: ns => by simp [strsD, strsD_map ns]
theorem firstAt_all {P : Nat → Bool} {n : Nat} (h : firstAt P n = none) : ∀ m, m < n → P m = true := fun m hm => by
  unfold firstAt at h
  rw [List.find?_eq_none] at h
  have := h m (List.mem_range.mpr hm)
  simpa using this
section
variable {G G' : Gp} {Q : K3} {E : E3} {p : Addr} {xs : List D} {r d e q b v : D} {ns : List Str}
theorem rooms_right (hv : allK rmB r = true) (h : roomsW r = none) : ∃ ns, (r = .tup (ns.map D.str) ∨ r = .tuf (ns.map D.str)) ∧ namesD r = ns ∧ (∀ s ∈ ns, nmB s = true) ∧ 2 ≤ ns.length ∧ ns.length ≤ 7 := by
  unfold roomsW rowW at h
  rcases allK_cases hv with ⟨xs, hw, hs, hx⟩ | ⟨hs, he⟩
  · rw [hs] at h
    have h' : (if 2 ≤ xs.length ∧ xs.length ≤ 7 then (firstAt (roomP xs) xs.length).map (fun (k : Nat) => D.int (k : Int)) else some .non) = none := h
    by_cases z : 2 ≤ xs.length ∧ xs.length ≤ 7
    · rw [if_pos z] at h'
      have hf := firstAt_all (Option.map_eq_none_iff.mp h')
      obtain ⟨ns, e1, hn⟩ := take_strs (xs := xs) (k := xs.length) (by omega) hf
      rw [List.take_length] at e1
      subst e1
      simp only [List.length_map] at z
      refine ⟨ns, hw, ?_, hn, z⟩
      unfold namesD
      rw [hs]
      exact strsD_map ns
    · rw [if_neg z] at h'
      cases h'
  · rw [hs] at h
    cases h
theorem d_init (hr : allK rmB r = true) (hd : allK rowV d = true) (he : allK rowV e = true) (hQ : allK elB q = true) (hb : allK elB b = true) {k : Gp → Prop} (hp : G p = some (.ins 0 []))
    (hq : match houseW r d e q b with | none => ∀ fs, Q .non (gset G p (.ins 0 fs)) | some (c, i) => E (badX c i) G) : f_House___init__ [.ref p, r, d, e, q, b] G Q E := by
  unfold f_House___init__ t_House___init__
  simp [start3]
  unfold houseW at hq
  refine d_check_rooms hr ?_
  cases e1 : roomsW r with
  | some i => rw [e1] at hq; exact hq
  | none =>
  rw [e1] at hq
  obtain ⟨ns, hw, en, hn, l2, l7⟩ := rooms_right hr e1
  rw [en] at hq
  refine d_check_doors hw hn hd ?_
  cases e2 : doorsW ns d with
  | some i => rw [e2] at hq; exact hq
  | none =>
  rw [e2] at hq
  refine d_check_exits hw hn he ?_
  cases e3 : exitsW ns e with
  | some i => rw [e3] at hq; exact hq
  | none =>
  rw [e3] at hq
  have lr : (ns.map D.str).length = ns.length := by simp
  refine d_check_numbers (rs := ns.map D.str) hw hQ ?_
  rw [lr]
  cases e4 : numsW ns.length 30 q with
  | some i => rw [e4] at hq; exact hq
  | none =>
  rw [e4] at hq
  cases zb : V3.isNon b with
  | true =>
    have eb : bellsW ns.length b = none := by unfold bellsW; rw [zb]; rfl
    rw [eb] at hq
    have ld : lenD G r = some ns.length := by rcases hw with rfl | rfl <;> simp [lenD, seqA]
    refine ⟨by decide, _, ld, ?_⟩
    have rep : (List.replicate ((ns.length : Nat) : Int).toNat [D.int 0]).flatten = List.replicate ns.length (.int 0) := by simp [List.flatten_replicate_singleton]
    refine ⟨by simp, by omega, by omega, by simp, ?_⟩
    rw [rep]
    have ok : numsW ns.length 9 (.tup (List.replicate ns.length (.int 0))) = none := by
      unfold numsW
      rw [rowG_some (xs := List.replicate ns.length (.int 0)) rfl, if_pos (by simp [okN]), firstAt_none, Option.map_none]
      intro m hm
      simp only [List.length_replicate] at hm
      simp [List.getD, hm, btwB]
    refine d_check_bells (rs := ns.map D.str) hw (by simp [allK, seqT, elB]) ?_
    rw [lr, ok]
    simp [hp, ow, owT, putA, and_assoc]
    exact hq _
  | false =>
    have eb : bellsW ns.length b = numsW ns.length 9 b := by unfold bellsW; rw [zb]; rfl
    rw [eb] at hq
    refine d_check_bells (rs := ns.map D.str) hw hb ?_
    rw [lr]
    cases e5 : numsW ns.length 9 b with
    | some i => rw [e5] at hq; exact hq
    | none =>
      rw [e5] at hq
      simp [hp, ow, owT, putA, and_assoc]
      exact hq _
end
end K03
set_option Elab.async false
set_option linter.all false
set_option maxRecDepth 100000
set_option maxHeartbeats 2000000
/-! what the law catches -/
namespace K03
open PySem PySem.Spec L2 V3 PyProof.Rows
def wordC (c : Nat) : Str := if c = 2 then "rooms" else if c = 3 then "doors" else if c = 4 then "exits" else if c = 5 then "people" else "bells"
/-- what is told of an index -/
def shD : D → Str
  | .non => PyData.none.shown
  | .int k => (PyData.int k).shown
  | _ => ""
def IdxOk (i : D) : Prop := i = .non ∨ ∃ k : Nat, i = .int k ∧ k ≤ 1000
section
variable {G G' : Gp} {Q : K3} {E : E3} {p : Addr} {xs : List D} {r d e q b v i : D} {ns : List Str}
theorem r_idx (h : IdxOk i) (hq : Q (.str (shD i)) G) : bfV false .repr [i] G Q := by
  rcases h with rfl | ⟨k, rfl, hk⟩
  · exact b_repr (n := 0) (B := 31) (p := .none) rfl ⟨rfl, rfl, by simp [PyData.depth], by rw [PyData.shown]; exact ofS_ok, by rw [PyData.shown]; decide +kernel⟩ (by decide) (by decide) hq
  · exact b_repr (n := 0) (B := 31) (p := .int k) rfl (Small.int (by omega)) (by decide) (by decide) hq
theorem d_caught {f : Addr} {σ : V3.S3} {tb : T3} {o : Option (Nat × D)} (ho : ∀ c i, o = some (c, i) → (2 ≤ c ∧ c ≤ 6) ∧ IdxOk i)
    (hh : ∀ (Q : K3) (E : E3), (match o with | none => ∀ fs, Q (.obj 0 fs) G | some (c, i) => E (badX c i) G) → tb σ G Q E)
    (hq : match o with | none => Q (.lst [.str "made"]) G | some (c, i) => Q (.lst [.str (wordC c), .str (shD i)]) G) : run3 (tg__law_caught (tact0 0 f σ tb)) (start3 N__law_caught [.ref f]) G Q E := by
  unfold tg__law_caught
  cases o with
  | none =>
    simp [start3]
    refine ⟨rfl, hh _ _ fun fs => ?_⟩
    exact ⟨by decide, hq⟩
  | some ci =>
    obtain ⟨c, i⟩ := ci
    obtain ⟨⟨c2, c6⟩, hi⟩ := ho c i rfl
    simp [start3]
    refine ⟨rfl, hh _ _ ?_⟩
    have cs : c = 2 ∨ c = 3 ∨ c = 4 ∨ c = 5 ∨ c = 6 := by omega
    rcases cs with rfl | rfl | rfl | rfl | rfl
    · exact .inr ⟨rfl, fun a _ => ⟨_, rfl, rfl, _, rfl, r_idx hi ⟨by decide, hq⟩⟩⟩
    · exact .inl ⟨rfl, .inr ⟨rfl, fun a _ => ⟨_, rfl, rfl, _, rfl, r_idx hi ⟨by decide, hq⟩⟩⟩⟩
    · exact .inl ⟨rfl, .inl ⟨rfl, .inr ⟨rfl, fun a _ => ⟨_, rfl, rfl, _, rfl, r_idx hi ⟨by decide, hq⟩⟩⟩⟩⟩
    · exact .inl ⟨rfl, .inl ⟨rfl, .inl ⟨rfl, .inr ⟨rfl, fun a _ => ⟨_, rfl, rfl, _, rfl, r_idx hi ⟨by decide, hq⟩⟩⟩⟩⟩⟩
    · exact .inl ⟨rfl, .inl ⟨rfl, .inl ⟨rfl, .inl ⟨rfl, .inr ⟨rfl, fun a _ => ⟨_, rfl, rfl, _, rfl, r_idx hi ⟨by decide, hq⟩⟩⟩⟩⟩⟩⟩
/-- the index that is kept -/
theorem rowG_idx {P : List D → Nat → Bool} {ok : Nat → Bool} (hl : ∀ xs, seqT v = some xs → xs.length ≤ 1000) (h : rowG P ok v = some i) : IdxOk i := by
  cases hs : seqT v with
  | none =>
    rw [rowG_none hs] at h
    cases h
    exact .inl rfl
  | some xs =>
    rw [rowG_some hs] at h
    split at h
    · obtain ⟨k, hk, rfl⟩ := Option.map_eq_some_iff.mp h
      unfold firstAt at hk
      have := List.mem_range.mp (List.mem_of_find?_eq_some hk)
      exact .inr ⟨k, rfl, by have := hl xs hs; omega⟩
    · cases h
      exact .inl rfl
def short (v : D) : Prop := ∀ xs, seqT v = some xs → xs.length ≤ 1000
theorem houseW_idx (h1 : short r) (h2 : short d) (h3 : short e) (h4 : short q) (h5 : short b) : ∀ c i, houseW r d e q b = some (c, i) → (2 ≤ c ∧ c ≤ 6) ∧ IdxOk i := by
  intro c i h
  unfold houseW at h
  cases e1 : roomsW r with
  | some j =>
    rw [e1] at h
    cases h
    refine ⟨by omega, ?_⟩
    unfold roomsW rowW at e1
    cases hs : seqT r with
    | none =>
      rw [hs] at e1
      cases e1
      exact .inl rfl
    | some xs =>
      rw [hs] at e1
      have e1' : (if 2 ≤ xs.length ∧ xs.length ≤ 7 then (firstAt (roomP xs) xs.length).map (fun (k : Nat) => D.int (k : Int)) else some .non) = some i := e1
      split at e1'
      · obtain ⟨k, hk, rfl⟩ := Option.map_eq_some_iff.mp e1'
        unfold firstAt at hk
        have := List.mem_range.mp (List.mem_of_find?_eq_some hk)
        exact .inr ⟨k, rfl, by have := h1 xs hs; omega⟩
      · cases e1'
        exact .inl rfl
  | none =>
  rw [e1] at h
  cases e2 : doorsW (namesD r) d with
  | some j => rw [e2] at h; cases h; exact ⟨by omega, rowG_idx h2 e2⟩
  | none =>
  rw [e2] at h
  cases e3 : exitsW (namesD r) e with
  | some j => rw [e3] at h; cases h; exact ⟨by omega, rowG_idx h3 e3⟩
  | none =>
  rw [e3] at h
  cases e4 : numsW (namesD r).length 30 q with
  | some j => rw [e4] at h; cases h; exact ⟨by omega, rowG_idx h4 e4⟩
  | none =>
  rw [e4] at h
  obtain ⟨j, e5, ej⟩ := Option.map_eq_some_iff.mp h
  cases ej
  unfold bellsW at e5
  split at e5
  · cases e5
  · exact ⟨by omega, rowG_idx h5 e5⟩
end
end K03
set_option Elab.async false
set_option linter.all false
set_option maxRecDepth 100000
set_option maxHeartbeats 2000000
/-! the house is made, and the law's own looks -/
namespace K03
open PySem PySem.Spec L2 V3 PyProof.Rows
def listW : Option D → D
  | none => .lst []
  | some i => .lst [i]
section
variable {G G' : Gp} {Q : K3} {E : E3} {p : Addr} {xs : List D} {r d e q b v i : D} {ns : List Str}
theorem d_make (hr : allK rmB r = true) (hd : allK rowV d = true) (he : allK rowV e = true) (hQ : allK elB q = true) (hb : allK elB b = true) (hp : G p = none)
    (hq : match houseW r d e q b with | none => ∀ fs, Q (.obj 0 fs) G | some (c, i) => E (badX c i) G) :
    f_House___init__ [.ref p, r, d, e, q, b] (gset G p (.ins 0 [])) (keepI false 0 p Q) (fun x G2 => E x (gdel G2 p)) := by
  refine d_init (k := fun _ => True) hr hd he hQ hb gset_at ?_
  cases h : houseW r d e q b with
  | none =>
    rw [h] at hq
    intro fs
    simp [keepI]
    rw [gdel_gset hp]
    exact hq fs
  | some ci =>
    obtain ⟨c, i⟩ := ci
    rw [h] at hq
    show E (badX c i) (gdel (gset G p (.ins 0 [])) p)
    rw [gdel_gset hp]
    exact hq
theorem l_num {lo hi : Int} (he : elB e = true) (hq : Q (.bl (btwB lo hi e)) G) : f__law_is_number [e, .int lo, .int hi] G Q E := by
  unfold f__law_is_number t__law_is_number
  cases e with
  | int i => by_cases z : lo ≤ i <;> simp [start3, isB, tyD, kinds7, btwB, z] at hq ⊢ <;> exact hq
  | bl b => simp [start3, isB, tyD, kinds7]; exact hq
  | non => simp [start3, isB, tyD, kinds7]; exact hq
  | str s => simp [start3, isB, tyD, kinds7]; exact hq
  | tup s => simp [start3, isB, tyD, kinds7]; exact hq
  | lst s => simp [start3, isB, tyD, kinds7]; exact hq
  | dk s => simp [start3, isB, tyD, kinds7]; exact hq
  | _ => simp [elB] at he
theorem rng_nat {n : Nat} : rngD 0 n = (List.range n).map fun i => D.int (i : Nat) := by
  unfold rngD
  apply List.map_congr_left
  intro i _
  simp
def badAt (P : Nat → Bool) : D → Bool
  | .int i => !P i.toNat
  | _ => false
/-- [k for k in range(n) if not P(k)][:1] -/
theorem first_cut {P : Nat → Bool} (n : Nat) : D.lst (V3.cutD (List.map (fun d => d) ((rngD 0 n).filter (badAt P))) none (some 1)) = listW ((firstAt P n).map fun (k : Nat) => D.int (k : Int)) := by
  have e1 : (rngD 0 n).filter (badAt P) = ((List.range n).filter fun k => !P k).map fun (k : Nat) => D.int (k : Int) := by
    rw [rng_nat, List.filter_map]
    rfl
  have e2 : ∀ l : List Nat, V3.cutD (l.map fun (k : Nat) => D.int (k : Int)) none (some 1) = (l.head?.map fun (k : Nat) => D.int (k : Int)).toList := fun l => by
    cases l with
    | nil => rfl
    | cons a r =>
      unfold V3.cutD
      have : HT.sIx (List.map (fun (k : Nat) => D.int (k : Int)) (a :: r)).length (List.map (fun (k : Nat) => D.int (k : Int)) (a :: r)).length (some 1) = 1 := by
        rw [show (1 : Int) = ((1 : Nat) : Int) by rfl, HT.sIx_nat]
        simp
      rw [this]
      simp [HT.sIx]
  rw [List.map_id', e1, e2, List.head?_filter]
  unfold firstAt
  cases List.find? (fun k => !P k) (List.range n) <;> rfl
theorem l_nums (hd : d = .tup (ns.map D.str) ∨ d = .tuf (ns.map D.str)) {most : Int} (hv : allK elB v = true) (hl : short v) (hq : Q (listW (numsW ns.length most v)) G) : f__law_wrong_numbers [v, d, .int most] G Q E := by
  have ld : ∀ G, lenD G d = some ns.length := fun G => by rcases hd with rfl | rfl <;> simp [lenD, seqA]
  unfold f__law_wrong_numbers t__law_wrong_numbers
  simp [start3, ld]
  unfold numsW at hq
  rcases allK_cases hv with ⟨xs, hw, hs, hx⟩ | ⟨hs, he⟩
  · have ty : tyD G v = some (.b "tuple") := by rcases hw with rfl | rfl <;> rfl
    have lv : lenD G v = some xs.length := by rcases hw with rfl | rfl <;> rfl
    refine ⟨_, ty, .inr ⟨by simp [isB, kinds7], _, lv, ?_⟩⟩
    rw [rowG_some hs] at hq
    by_cases z : xs.length = ns.length
    · rw [if_pos (by simp [okN, z])] at hq
      refine .inl ⟨by omega, _, lv, by have := hl xs hs; omega, ?_⟩
      refine lc_go (fun d => d) (badAt fun k => btwB 0 most (xs.getD k .non)) (by have := hl xs hs; simp [sizeLine, rngD]; omega) (fun _ _ _ => trivial) (fun d hd => ?_) ?_
      · rw [rng_nat] at hd
        obtain ⟨k, hk, rfl⟩ := List.mem_map.mp hd
        have hk2 := List.mem_range.mp hk
        refine ⟨_, rfl, fun G' QT b qq => ?_, fun _ G' Q' _ q => by simp; exact q⟩
        have ix : ∀ (G : Gp) (Q : K3), Q xs[k] G → ixV v (.int (k : Int)) G Q := fun G Q q => by
          rcases hw with rfl | rfl
          · exact ⟨_, by rw [V3.atI_nat]; exact List.getElem?_eq_getElem hk2, q⟩
          · exact ⟨_, by rw [V3.atI_nat]; exact List.getElem?_eq_getElem hk2, q⟩
        have gk : xs.getD k .non = xs[k] := by simp [List.getD, hk2]
        have q2 : QT (!(btwB 0 most (xs.getD k .non))) G' := qq
        rw [gk] at q2
        simp
        refine ix _ _ (l_num (hx _ (List.getElem_mem hk2)) ?_)
        cases e : btwB 0 most xs[k] with
        | false => rw [e] at q2; exact .inl ⟨rfl, q2⟩
        | true => rw [e] at q2; exact .inr ⟨rfl, q2⟩
      · simp only [sl_lst]
        rw [first_cut]
        exact hq
    · rw [if_neg (by simp [okN, z])] at hq
      exact .inr ⟨by omega, by decide, hq⟩
  · rw [rowG_none hs] at hq
    have hf : ∃ y, tyD G v = some y ∧ isB "tuple" 1 y = some false := by
      cases v <;> first | (simp [seqT] at hs; done) | (simp [elB] at he; done) | exact ⟨_, rfl, by simp [isB, kinds7]⟩
    obtain ⟨y, y1, y2⟩ := hf
    exact ⟨y, y1, .inl ⟨y2, by decide, hq⟩⟩
end
end K03
set_option Elab.async false
set_option linter.all false
set_option maxRecDepth 100000
set_option maxHeartbeats 2000000
/-! the law's look at doors -/
namespace K03
open PySem PySem.Spec L2 V3 PyProof.Rows
section
variable {G G' : Gp} {Q : K3} {E : E3} {p : Addr} {xs : List D} {r d e q b v i : D} {ns : List Str}
theorem ty_str {x : D} (hx : elB x = true) : ∃ y, tyD G x = some y ∧ isB "str" 1 y = some (strB x) := by
  cases x <;> first | (simp [elB] at hx; done) | exact ⟨_, rfl, by simp [isB, kinds7, strB]⟩
theorem in_rm (hd : d = .tup (ns.map D.str) ∨ d = .tuf (ns.map D.str)) {x : Str} : inD G (.str x) d = some (decide (x ∈ ns)) := by
  rcases hd with rfl | rfl <;> rw [inD_flat (ys := ns.map D.str) rfl rfl (flat_strs ns), any_strs]
theorem l_isdoor (hd : d = .tup (ns.map D.str) ∨ d = .tuf (ns.map D.str)) (hn : ∀ s ∈ ns, nmB s = true) (hv : rowV v = true) (hq : Q (.bl (doorB ns v)) G) : f__law_is_door [v, d] G Q E := by
  unfold f__law_is_door t__law_is_door
  simp [start3]
  have bad : doorB ns v = false → Q (.bl false) G := fun z => by rw [z] at hq; exact hq
  by_cases six : ∃ a b c w s cl, v = .tup [a, b, c, w, s, cl]
  · obtain ⟨a, b, c, w, s, cl, rfl⟩ := six
    simp only [rowV, List.all_cons, Bool.and_eq_true] at hv
    obtain ⟨ha, hb, hc, hw, hs, hcl, _⟩ := hv
    refine ⟨_, rfl, .inr ⟨by simp [isB, kinds7], ?_⟩⟩
    refine ⟨6, rfl, .inl ⟨rfl, ?_⟩⟩
    have c3 : V3.cutD [a, b, c, w, s, cl] none (some 3) = [a, b, c] := cut_to (xs := [a, b, c, w, s, cl]) (n := 3)
    simp only [V3.sl_tup, c3]
    refine ⟨_, rfl, ?_⟩
    refine lc_go (fun x => .bl (strB x)) (fun _ => true) (by simp [sizeLine]) (fun _ _ _ => trivial) (fun x hx => ?_) ?_
    · have ex : elB x = true := by
        simp only [List.mem_cons, List.not_mem_nil, or_false] at hx
        rcases hx with rfl | rfl | rfl <;> assumption
      refine ⟨_, rfl, fun G' QT b qq => qq, fun _ G' Q' _ q => ?_⟩
      obtain ⟨y, y1, y2⟩ := ty_str (G := G') ex
      simp
      refine ⟨y, y1, ?_⟩
      rw [y2]
      cases z : strB x with
      | false => rw [z] at q; exact .inl ⟨rfl, q⟩
      | true => rw [z] at q; exact .inr ⟨rfl, q⟩
    · refine ⟨_, [strB a, strB b, strB c], rfl, rfl, ?_⟩
      have i0 : ∀ (G : Gp) (Q : K3), Q a G → ixV (.tup [a, b, c, w, s, cl]) (.int 0) G Q := fun G Q q => ⟨_, rfl, q⟩
      have i1 : ∀ (G : Gp) (Q : K3), Q b G → ixV (.tup [a, b, c, w, s, cl]) (.int 1) G Q := fun G Q q => ⟨_, rfl, q⟩
      have i2 : ∀ (G : Gp) (Q : K3), Q c G → ixV (.tup [a, b, c, w, s, cl]) (.int 2) G Q := fun G Q q => ⟨_, rfl, q⟩
      have i3 : ∀ (G : Gp) (Q : K3), Q w G → ixV (.tup [a, b, c, w, s, cl]) (.int 3) G Q := fun G Q q => ⟨_, rfl, q⟩
      have i4 : ∀ (G : Gp) (Q : K3), Q s G → ixV (.tup [a, b, c, w, s, cl]) (.int 4) G Q := fun G Q q => ⟨_, rfl, q⟩
      have i5 : ∀ (G : Gp) (Q : K3), Q cl G → ixV (.tup [a, b, c, w, s, cl]) (.int 5) G Q := fun G Q q => ⟨_, rfl, q⟩
      have ns_ : ∀ x : D, strB x = false → inNs ns x = false := fun x h => by cases x <;> first | rfl | (simp [strB] at h)
      have nc_ : strB c = false → (isS "one" c || isS "both" c) = false := fun h => by cases c <;> first | rfl | (simp [strB] at h)
      cases s1 : strB a with
      | false => exact .inl ⟨rfl, bad (by simp only [doorB, ns_ a s1, Bool.false_and])⟩
      | true =>
      cases s2 : strB b with
      | false => exact .inl ⟨rfl, bad (by simp only [doorB, ns_ b s2, Bool.false_and, Bool.and_false])⟩
      | true =>
      cases s3 : strB c with
      | false => exact .inl ⟨rfl, bad (by simp only [doorB, nc_ s3, Bool.false_and, Bool.and_false])⟩
      | true =>
      refine .inr ⟨rfl, ?_⟩
      obtain ⟨x, rfl⟩ : ∃ x, a = .str x := by cases a <;> first | (simp [strB] at s1; done) | exact ⟨_, rfl⟩
      obtain ⟨y, rfl⟩ : ∃ x, b = .str x := by cases b <;> first | (simp [strB] at s2; done) | exact ⟨_, rfl⟩
      obtain ⟨z, rfl⟩ : ∃ z, c = .str z := by cases c <;> first | (simp [strB] at s3; done) | exact ⟨_, rfl⟩
      unfold t__law_is_door_1
      simp
      refine ⟨_, rfl, ?_⟩
      rw [in_rm hd]
      cases e1 : decide (x ∈ ns) with
      | false => exact .inl ⟨rfl, bad (by simp only [doorB, inNs, e1, Bool.false_and])⟩
      | true =>
      refine .inr ⟨rfl, _, rfl, ?_⟩
      rw [in_rm hd]
      cases e2 : decide (y ∈ ns) with
      | false => exact .inl ⟨rfl, bad (by simp only [doorB, inNs, e2, Bool.false_and, Bool.and_false])⟩
      | true =>
      refine .inr ⟨rfl, _, rfl, _, rfl, ?_⟩
      rw [c_eqS]
      refine ⟨nm_ok (hn x (of_decide_eq_true e1)), nm_ok (hn y (of_decide_eq_true e2)), ?_⟩
      by_cases exy : x = y
      · rw [decide_eq_true exy]
        exact .inr ⟨rfl, bad (by simp [doorB, sameS, exy])⟩
      · rw [decide_eq_false exy]
        refine .inl ⟨rfl, _, rfl, by decide, ?_⟩
        have hin : inD G (.str z) (.tup [.str "one", .str "both"]) = some (decide (z ∈ [("one" : Str), "both"])) := by
          rw [inD_flat (ys := [("one" : Str), "both"].map D.str) rfl rfl (flat_strs _), any_strs]
        rw [hin]
        have ez : (isS "one" (.str z) || isS "both" (.str z)) = decide (z ∈ [("one" : Str), "both"]) := by simp [isS]
        cases e4 : decide (z ∈ [("one" : Str), "both"]) with
        | false => exact .inl ⟨rfl, bad (by simp only [doorB, ez, e4, Bool.and_false, Bool.false_and])⟩
        | true =>
        refine .inr ⟨rfl, ?_⟩
        unfold t__law_is_door_2
        simp
        refine ⟨_, rfl, l_num hw ?_⟩
        cases e5 : btwB 1 9 w with
        | false => exact .inl ⟨rfl, bad (by simp only [doorB, e5, Bool.and_false, Bool.false_and])⟩
        | true =>
        refine .inr ⟨rfl, _, rfl, l_num hs ?_⟩
        cases e6 : btwB 1 3 s with
        | false => exact .inl ⟨rfl, bad (by simp only [doorB, e6, Bool.and_false, Bool.false_and])⟩
        | true =>
        refine .inr ⟨rfl, ?_⟩
        unfold t__law_is_door_3
        simp
        have fin : doorB ns (.tup [.str x, .str y, .str z, w, s, cl]) = noneOr 0 30 cl := by
          simp only [doorB, inNs, e1, e2, ez, e4, e5, e6, sameS, decide_eq_false exy, Bool.true_and, Bool.not_false]
        rw [fin] at hq
        refine ⟨_, rfl, ?_⟩
        cases zn : V3.isNon cl with
        | true =>
          have : noneOr 0 30 cl = true := by unfold noneOr; rw [zn]; rfl
          rw [this] at hq
          exact hq
        | false =>
          have : noneOr 0 30 cl = btwB 0 30 cl := by unfold noneOr; rw [zn]; rfl
          rw [this] at hq
          exact ⟨_, rfl, l_num hcl hq⟩
  · have nd : doorB ns v = false := by
      unfold doorB
      split
      · rename_i a b c w s cl
        exact absurd ⟨a, b, c, w, s, cl, rfl⟩ six
      · rfl
    have no : ∀ {P : Prop}, (∀ xs, v = .tup xs → xs.length = 6 → P) := fun {P} xs e h => by
      subst e
      rcases xs with _ | ⟨a, _ | ⟨b, _ | ⟨c, _ | ⟨w, _ | ⟨s, _ | ⟨cl, _ | ⟨q, r⟩⟩⟩⟩⟩⟩⟩ <;> first | (simp at h; done) | skip
      exact absurd ⟨_, _, _, _, _, _, rfl⟩ six
    cases v with
    | tup xs => exact ⟨_, rfl, .inr ⟨by simp [isB, kinds7], _, rfl, .inr ⟨fun h => no xs rfl (by omega), bad nd⟩⟩⟩
    | tuf xs => simp [rowV, elB] at hv
    | non => exact ⟨_, rfl, .inl ⟨by simp [isB, kinds7], bad nd⟩⟩
    | bl b => exact ⟨_, rfl, .inl ⟨by simp [isB, kinds7], bad nd⟩⟩
    | int b => exact ⟨_, rfl, .inl ⟨by simp [isB, kinds7], bad nd⟩⟩
    | str b => exact ⟨_, rfl, .inl ⟨by simp [isB, kinds7], bad nd⟩⟩
    | lst b => exact ⟨_, rfl, .inl ⟨by simp [isB, kinds7], bad nd⟩⟩
    | dk b => exact ⟨_, rfl, .inl ⟨by simp [isB, kinds7], bad nd⟩⟩
    | _ => simp [rowV, elB] at hv
theorem l_doors (hd : d = .tup (ns.map D.str) ∨ d = .tuf (ns.map D.str)) (hn : ∀ s ∈ ns, nmB s = true) (hv : allK rowV v = true) (hl : short v) (hq : Q (listW (doorsW ns v)) G) : f__law_wrong_doors [v, d] G Q E := by
  unfold f__law_wrong_doors t__law_wrong_doors
  simp [start3]
  unfold doorsW at hq
  rcases allK_cases hv with ⟨xs, hw, hs, hx⟩ | ⟨hs, he⟩
  · have ty : tyD G v = some (.b "tuple") := by rcases hw with rfl | rfl <;> rfl
    have lv : lenD G v = some xs.length := by rcases hw with rfl | rfl <;> rfl
    refine ⟨_, ty, .inr ⟨by simp [isB, kinds7], _, lv, ?_⟩⟩
    rw [rowG_some hs] at hq
    by_cases z : 1 ≤ xs.length ∧ xs.length ≤ 12
    · rw [if_pos (by simp [okD, z])] at hq
      rw [if_pos (by omega), if_pos (by omega)]
      refine ⟨_, lv, by omega, ?_⟩
      refine lc_go (fun d => d) (badAt fun k => doorB ns (xs.getD k .non)) (by simp [sizeLine, rngD]; omega) (fun _ _ _ => trivial) (fun d2 hd2 => ?_) ?_
      · rw [rng_nat] at hd2
        obtain ⟨k, hk, rfl⟩ := List.mem_map.mp hd2
        have hk2 := List.mem_range.mp hk
        refine ⟨_, rfl, fun G' QT b qq => ?_, fun _ G' Q' _ q => by simp; exact q⟩
        have ix : ∀ (G : Gp) (Q : K3), Q xs[k] G → ixV v (.int (k : Int)) G Q := fun G Q q => by
          rcases hw with rfl | rfl
          · exact ⟨_, by rw [V3.atI_nat]; exact List.getElem?_eq_getElem hk2, q⟩
          · exact ⟨_, by rw [V3.atI_nat]; exact List.getElem?_eq_getElem hk2, q⟩
        have gk : xs.getD k .non = xs[k] := by simp [List.getD, hk2]
        have q2 : QT (!(doorB ns (xs.getD k .non))) G' := qq
        rw [gk] at q2
        simp
        refine ix _ _ (l_isdoor hd hn (hx _ (List.getElem_mem hk2)) ?_)
        cases e : doorB ns xs[k] with
        | false => rw [e] at q2; exact .inl ⟨rfl, q2⟩
        | true => rw [e] at q2; exact .inr ⟨rfl, q2⟩
      · simp only [V3.sl_lst]
        rw [first_cut]
        exact hq
    · rw [if_neg (by simp only [okD, decide_eq_true_eq]; exact z)] at hq
      by_cases z1 : 1 ≤ (xs.length : Int)
      · rw [if_pos z1, if_neg (by omega)]
        exact ⟨by decide, hq⟩
      · rw [if_neg z1]
        exact ⟨by decide, hq⟩
  · rw [rowG_none hs] at hq
    have hf : ∃ y, tyD G v = some y ∧ isB "tuple" 1 y = some false := by
      cases v <;> first | (simp [seqT] at hs; done) | (simp [elB] at he; done) | exact ⟨_, rfl, by simp [isB, kinds7]⟩
    obtain ⟨y, y1, y2⟩ := hf
    exact ⟨y, y1, .inl ⟨y2, by decide, hq⟩⟩
end
end K03
set_option Elab.async false
set_option linter.all false
set_option maxRecDepth 100000
set_option maxHeartbeats 2000000
/-! the law's look at rooms -/
namespace K03
open PySem PySem.Spec L2 V3 PyProof.Rows
section
variable {G G' : Gp} {Q : K3} {E : E3} {p : Addr} {xs : List D} {r d e q b v i : D} {ns : List Str}
theorem l_name (he : rmB e = true) (hq : Q (.bl (nameB e)) G) : f__law_is_name [e] G Q E := by
  unfold f__law_is_name t__law_is_name
  cases e with
  | str s =>
    have lq : ∀ (b : Bool), nameB (.str s) = b → Q (.bl b) G := fun b z => by rw [z] at hq; exact hq
    simp [start3, isB, tyD, kinds7]
    cases z : nmB s with
    | true =>
      have h := z
      unfold nmB at h
      simp only [Bool.and_eq_true, decide_eq_true_eq, List.all_eq_true, List.contains_iff_mem] at h
      obtain ⟨⟨h0, h1⟩, h2⟩ := h
      have hle : s.length ≤ sizeLine := Nat.le_trans h1 (by decide)
      have h3 : 0 < s.length := by
        cases e : s.length with
        | zero =>
          exfalso
          apply h0
          obtain ⟨cps⟩ := s
          have : cps.size = 0 := e
          have : cps = #[] := Array.eq_empty_of_size_eq_zero this
          subst this
          rfl
        | succ n => omega
      refine ⟨s.length, by show (if s.length ≤ sizeLine then some s.length else none) = _; rw [if_pos hle], ?_⟩
      rw [if_pos h3, if_pos (by omega)]
      refine lc_go (fun _ => .bl true) (fun _ => true) (by simp only [List.length_map, Array.length_toList]; have : s.cps.size ≤ 8 := h1; exact Nat.lt_of_le_of_lt this (by decide)) (fun _ _ _ => trivial) (fun d hd => ?_) ?_
      · obtain ⟨c, hc, rfl⟩ := List.mem_map.mp hd
        refine ⟨_, rfl, fun G' QT _ q => q, fun _ G' Q' _ q => ?_⟩
        simp
        have := letters_in c (h2 c hc)
        exact .inr ⟨by simpa [smallL] using this, q⟩
      · refine ⟨_, _, rfl, by rw [List.filter_eq_self.mpr fun _ _ => rfl]; exact blsOf_rep _ true, ?_⟩
        rw [show (List.map (fun _ : D => true) (List.map (fun c : Nat => D.str ⟨#[c]⟩) s.cps.toList)).all id = true from List.all_eq_true.mpr (by simp)]
        exact lq _ z
    | false =>
      simp only [rmB, z, Bool.false_or, Bool.and_eq_true, Bool.or_eq_true, decide_eq_true_eq] at he
      rcases he.2 with rfl | rfl
      · exact ⟨0, by show (if (Str.ofString "").length ≤ sizeLine then some (Str.ofString "").length else none) = some 0; decide +kernel, lq _ z⟩
      · refine ⟨1, by show (if (Str.ofString "B").length ≤ sizeLine then some (Str.ofString "B").length else none) = some 1; decide +kernel, ?_⟩
        rw [if_pos (by decide), if_pos (by decide)]
        have hc : (Str.ofString "B").cps.toList = [66] := by decide +kernel
        have hn : (!(Builtin.Str.occurrences (Str.ofString "abcdefghijklmnopqrstuvwxyz") ⟨#[66]⟩ 0 (Str.ofString "abcdefghijklmnopqrstuvwxyz").length 1).isEmpty) = false := by decide +kernel
        rw [hc]
        refine lc_go (fun _ => .bl false) (fun _ => true) (by decide) (fun _ _ _ => trivial) (fun d hd => ?_) ?_
        · simp only [List.map_cons, List.map_nil, List.mem_singleton] at hd
          subst hd
          refine ⟨_, rfl, fun G' QT _ q => q, fun _ G' Q' _ q => ?_⟩
          simp
          exact .inl ⟨by simpa using hn, q⟩
        · exact ⟨_, _, rfl, rfl, lq _ z⟩
  | non => simp [start3, isB, tyD, kinds7]; exact hq
  | bl b => simp [start3, isB, tyD, kinds7]; exact hq
  | int i => simp [start3, isB, tyD, kinds7]; exact hq
  | tup b => simp [start3, isB, tyD, kinds7]; exact hq
  | lst b => simp [start3, isB, tyD, kinds7]; exact hq
  | dk b => simp [start3, isB, tyD, kinds7]; exact hq
  | _ => simp [rmB, elB] at he
theorem l_rooms (hv : allK rmB v = true) (hq : Q (listW (roomsW v)) G) : f__law_wrong_rooms [v] G Q E := by
  unfold f__law_wrong_rooms t__law_wrong_rooms
  simp [start3]
  unfold roomsW rowW at hq
  rcases allK_cases hv with ⟨xs, hw, hs, hx⟩ | ⟨hs, he⟩
  · have ty : tyD G v = some (.b "tuple") := by rcases hw with rfl | rfl <;> rfl
    have lv : ∀ G, lenD G v = some xs.length := fun G => by rcases hw with rfl | rfl <;> rfl
    rw [hs] at hq
    have hq' : Q (listW (if 2 ≤ xs.length ∧ xs.length ≤ 7 then (firstAt (roomP xs) xs.length).map (fun (k : Nat) => D.int (k : Int)) else some .non)) G := hq
    refine ⟨_, ty, .inr ⟨by simp [isB, kinds7], _, lv G, ?_⟩⟩
    unfold t__law_wrong_rooms_1
    simp [lv]
    by_cases z : 2 ≤ xs.length ∧ xs.length ≤ 7
    · rw [if_pos z] at hq'
      rw [if_pos (by omega), if_pos (by omega)]
      refine ⟨by omega, ?_⟩
      have ix : ∀ (k : Nat) (hk : k < xs.length) (G : Gp) (Q : K3), Q xs[k] G → ixV v (.int (k : Int)) G Q := fun k hk G Q q => by
        rcases hw with rfl | rfl
        · exact ⟨_, by rw [V3.atI_nat]; exact List.getElem?_eq_getElem hk, q⟩
        · exact ⟨_, by rw [V3.atI_nat]; exact List.getElem?_eq_getElem hk, q⟩
      refine forW_inv (fun ds σ G' => G' = G ∧ ∃ n, n ≤ xs.length ∧ (∀ m, m < n → roomP xs m = true) ∧ ds = (rngD 0 xs.length).drop n ∧ ∃ a, σ = [some v, a]) (fun _ _ _ _ => trivial) (fun σ G' h => ?_) (fun x ds σ G' K hI kk => ?_) _ _ _ ⟨rfl, 0, by omega, fun m hm => by omega, rfl, _, rfl⟩
      · obtain ⟨rfl, n, hn, hb, e, a, rfl⟩ := h
        have : n = xs.length := by
          have := congrArg List.length e
          simp [rngD] at this
          omega
        subst this
        rw [firstAt_none hb] at hq'
        unfold t__law_wrong_rooms_2
        simp
        exact hq'
      · obtain ⟨rfl, n, hn0, hb, e, a, rfl⟩ := hI
        have hn : n < xs.length := by
          have : ((rngD 0 xs.length).drop n).length ≠ 0 := by rw [← e]; simp
          simp [rngD] at this
          omega
        have hx0 : (rngD 0 xs.length).drop n = .int (n : Nat) :: (rngD 0 xs.length).drop (n + 1) := by
          rw [List.drop_eq_getElem_cons (by simp [rngD]; exact hn)]
          simp [rngD]
        rw [hx0] at e
        cases e
        refine ⟨_, rfl, ?_⟩
        have gn : xs.getD n .non = xs[n] := by simp [List.getD, hn]
        have er : roomP xs n = (nameB xs[n] && (decide (n = 0) || ltB (xs.getD (n - 1) .non) xs[n])) := by unfold roomP; rw [gn]
        have stop : roomP xs n = false → Q (.lst [.int (n : Nat)]) G' := fun z => by
          rw [firstAt_some hn z hb] at hq'
          exact hq'
        have go : roomP xs n = true → K [some v, some (.int (n : Nat))] G' := fun z => kk _ _ ⟨rfl, n + 1, by omega, fun m hm => by
          by_cases y : m = n
          · rw [y, z]
          · exact hb m (by omega), rfl, _, rfl⟩
        simp
        refine ix n hn _ _ (l_name (hx _ (List.getElem_mem hn)) ?_)
        cases e1 : nameB xs[n] with
        | false =>
          exact .inl ⟨rfl, by decide, stop (by rw [er, e1, Bool.false_and])⟩
        | true =>
          refine .inr ⟨rfl, ?_⟩
          by_cases n0 : n = 0
          · exact .inl ⟨n0, go (by rw [er, e1, decide_eq_true n0]; rfl)⟩
          · refine .inr ⟨by omega, ?_⟩
            obtain ⟨s, es, _⟩ := nameB_str e1
            have hm : n - 1 < xs.length := by omega
            obtain ⟨t, et, _⟩ := nameB_str (roomP_name (hb (n - 1) (by omega)) hm)
            have cm : ((n : Int) - 1) = ((n - 1 : Nat) : Int) := by omega
            refine ix n hn _ _ ?_
            rw [cm]
            refine ix (n - 1) hm _ _ ?_
            rw [es, et, leS_str]
            have gm : xs.getD (n - 1) .non = .str t := by
              rw [← et]
              simp [List.getD, hm]
            have el : roomP xs n = decide (t.cps.toList < s.cps.toList) := by
              rw [er, e1, decide_eq_false n0, gm, es]
              rfl
            cases y : decide (t.cps.toList < s.cps.toList) with
            | true => exact .inl ⟨rfl, go (by rw [el, y])⟩
            | false => exact .inr ⟨rfl, by decide, stop (by rw [el, y])⟩
    · rw [if_neg z] at hq'
      by_cases z1 : 2 ≤ (xs.length : Int)
      · rw [if_pos z1, if_neg (by omega)]
        exact ⟨by decide, hq'⟩
      · rw [if_neg z1]
        exact ⟨by decide, hq'⟩
  · rw [hs] at hq
    have hf : ∃ y, tyD G v = some y ∧ isB "tuple" 1 y = some false := by
      cases v <;> first | (simp [seqT] at hs; done) | (simp [elB] at he; done) | exact ⟨_, rfl, by simp [isB, kinds7]⟩
    obtain ⟨y, y1, y2⟩ := hf
    exact ⟨y, y1, .inl ⟨y2, by decide, hq⟩⟩
end
end K03
set_option Elab.async false
set_option linter.all false
set_option maxRecDepth 100000
set_option maxHeartbeats 2000000
/-! the law's look at exits -/
namespace K03
open PySem PySem.Spec L2 V3 PyProof.Rows
section
variable {G G' : Gp} {Q : K3} {E : E3} {p : Addr} {xs : List D} {r d e q b v i : D} {ns : List Str}
theorem l_exits (hd : d = .tup (ns.map D.str) ∨ d = .tuf (ns.map D.str)) (hn : ∀ s ∈ ns, nmB s = true) (hv : allK rowV v = true) (hl : short v) (hq : Q (listW (exitsW ns v)) G) : f__law_wrong_exits [v, d] G Q E := by
  unfold f__law_wrong_exits t__law_wrong_exits
  simp [start3]
  unfold exitsW at hq
  rcases allK_cases hv with ⟨xs, hw, hs, hx⟩ | ⟨hs, he⟩
  · have ty : tyD G v = some (.b "tuple") := by rcases hw with rfl | rfl <;> rfl
    have lv : ∀ G, lenD G v = some xs.length := fun G => by rcases hw with rfl | rfl <;> rfl
    rw [rowG_some hs] at hq
    refine ⟨_, ty, .inr ⟨by simp [isB, kinds7], ?_⟩⟩
    have e0 : ∀ (G : Gp) (Q : K3), Q (.bl xs.isEmpty) G → eqT0V v (.tup []) G Q := fun G Q q => ⟨xs, by rcases hw with rfl | rfl <;> rfl, rfl, q⟩
    refine e0 _ _ ?_
    cases z : xs.isEmpty with
    | true =>
      have : okE xs.length = false := by
        cases xs with
        | nil => rfl
        | cons a r => simp at z
      rw [this, if_neg Bool.false_ne_true] at hq
      exact .inr ⟨rfl, by decide, hq⟩
    | false =>
      have : okE xs.length = true := by
        cases xs with
        | nil => simp at z
        | cons a r => simp [okE]
      rw [this, if_pos rfl] at hq
      refine .inl ⟨rfl, ?_⟩
      unfold t__law_wrong_exits_1
      simp [lv]
      have hl2 := hl xs hs
      refine ⟨by omega, ?_⟩
      have ix : ∀ (k : Nat) (hk : k < xs.length) (G : Gp) (Q : K3), Q xs[k] G → ixV v (.int (k : Int)) G Q := fun k hk G Q q => by
        rcases hw with rfl | rfl
        · exact ⟨_, by rw [V3.atI_nat]; exact List.getElem?_eq_getElem hk, q⟩
        · exact ⟨_, by rw [V3.atI_nat]; exact List.getElem?_eq_getElem hk, q⟩
      refine forW_inv (fun ds σ G' => G' = G ∧ ∃ n, n ≤ xs.length ∧ (∀ m, m < n → exitP ns xs m = true) ∧ ds = (rngD 0 xs.length).drop n ∧ ∃ a b, σ = [some v, some d, a, b]) (fun _ _ _ _ => trivial) (fun σ G' h => ?_) (fun x ds σ G' K hI kk => ?_) _ _ _ ⟨rfl, 0, by omega, fun m hm => by omega, rfl, _, _, rfl⟩
      · obtain ⟨rfl, n, hn0, hb, e, a, b, rfl⟩ := h
        have : n = xs.length := by
          have := congrArg List.length e
          simp [rngD] at this
          omega
        subst this
        rw [firstAt_none hb] at hq
        unfold t__law_wrong_exits_2
        simp
        exact hq
      · obtain ⟨rfl, n, hn0, hb, e, a, b, rfl⟩ := hI
        have hk : n < xs.length := by
          have : ((rngD 0 xs.length).drop n).length ≠ 0 := by rw [← e]; simp
          simp [rngD] at this
          omega
        have hx0 : (rngD 0 xs.length).drop n = .int (n : Nat) :: (rngD 0 xs.length).drop (n + 1) := by
          rw [List.drop_eq_getElem_cons (by simp [rngD]; exact hk)]
          simp [rngD]
        rw [hx0] at e
        cases e
        refine ⟨_, rfl, ?_⟩
        have gn : xs.getD n .non = xs[n] := by simp [List.getD, hk]
        have er : exitP ns xs n = (exitB ns xs[n] && (decide (n = 0) || ltB (fstD (xs.getD (n - 1) .non)) (fstD xs[n]))) := by unfold exitP; rw [gn]
        have stop : exitP ns xs n = false → Q (.lst [.int (n : Nat)]) G' := fun z => by
          rw [firstAt_some hk z hb] at hq
          exact hq
        have go : exitP ns xs n = true → ∀ b, K [some v, some d, some (.int (n : Nat)), b] G' := fun z b => kk _ _ ⟨rfl, n + 1, by omega, fun m hm => by
          by_cases y : m = n
          · rw [y, z]
          · exact hb m (by omega), rfl, _, _, rfl⟩
        simp
        refine ix n hk _ _ ?_
        have hR := hx _ (List.getElem_mem hk)
        have bad : exitB ns xs[n] = false → Q (.lst [.int (n : Nat)]) G' := fun z => stop (by rw [er, z, Bool.false_and])
        have tl : exitB ns xs[n] = true → (n = 0 ∧ K [some v, some d, some (D.int ↑n), some xs[n]] G') ∨ (0 < n ∧ ixV xs[n] (D.int 0) G' fun x G1 => ixV v (D.int (↑n - 1)) G1 fun x_1 G1 => ixV x_1 (D.int 0) G1 fun y G2 => leSV x y G2 fun x G1 => (x = D.bl false ∧ K [some v, some d, some (D.int ↑n), some xs[n]] G1) ∨ (x = D.bl true ∧ 1 ≤ sizeLine ∧ Q (D.lst [D.int ↑n]) G1)) := fun e1 => by
          by_cases n0 : n = 0
          · exact .inl ⟨n0, go (by rw [er, e1, decide_eq_true n0]; rfl) _⟩
          · refine .inr ⟨by omega, ?_⟩
            obtain ⟨s, c, es, _, _⟩ := exitB_shape e1
            have hm : n - 1 < xs.length := by omega
            have em1 : exitB ns xs[n - 1] = true := by
              have := hb (n - 1) (by omega)
              unfold exitP at this
              simp only [Bool.and_eq_true] at this
              have g : xs.getD (n - 1) .non = xs[n - 1] := by simp [List.getD, hm]
              rw [g] at this
              exact this.1
            obtain ⟨t, c2, et, _, _⟩ := exitB_shape em1
            have cm : ((n : Int) - 1) = ((n - 1 : Nat) : Int) := by omega
            have gm : xs.getD (n - 1) .non = .tup [.str t, c2] := by
              rw [← et]
              simp [List.getD, hm]
            have el : exitP ns xs n = decide (t.cps.toList < s.cps.toList) := by
              rw [er, e1, decide_eq_false n0, gm, es]
              rfl
            rw [cm]
            have step : ∀ R : D, R = .tup [.str s, c] → ixV R (D.int 0) G' fun x G1 => ixV v (D.int ((n - 1 : Nat) : Int)) G1 fun x_1 G1 => ixV x_1 (D.int 0) G1 fun y G2 => leSV x y G2 fun x G1 => (x = D.bl false ∧ K [some v, some d, some (D.int ↑n), some xs[n]] G1) ∨ (x = D.bl true ∧ 1 ≤ sizeLine ∧ Q (D.lst [D.int ↑n]) G1) := fun R eR => by
              subst eR
              refine ⟨_, rfl, ix (n - 1) hm _ _ ?_⟩
              rw [et]
              refine ⟨_, rfl, ?_⟩
              dsimp only
              rw [leS_str]
              cases y : decide (t.cps.toList < s.cps.toList) with
              | true => exact .inl ⟨rfl, go (by rw [el, y]) _⟩
              | false => exact .inr ⟨rfl, by decide, stop (by rw [el, y])⟩
            exact step _ es
        generalize xs[n] = R at hR bad tl ⊢
        by_cases two : ∃ a c, R = .tup [a, c]
        · obtain ⟨a, c, rfl⟩ := two
          simp only [rowV, List.all_cons, Bool.and_eq_true] at hR
          obtain ⟨ha, hc, _⟩ := hR
          refine ⟨_, rfl, .inr ⟨by simp [isB, kinds7], 2, rfl, .inl ⟨rfl, _, rfl, ?_⟩⟩⟩
          obtain ⟨y, y1, y2⟩ := ty_str (G := G') ha
          refine ⟨y, y1, ?_⟩
          rw [y2]
          cases s1 : strB a with
          | false => exact .inl ⟨rfl, by decide, bad (by cases a <;> first | rfl | (simp [strB] at s1))⟩
          | true =>
          obtain ⟨x, rfl⟩ : ∃ x, a = .str x := by cases a <;> first | (simp [strB] at s1; done) | exact ⟨_, rfl⟩
          refine .inr ⟨rfl, _, rfl, ?_⟩
          dsimp only
          rw [in_rm hd]
          cases e1 : decide (x ∈ ns) with
          | false => exact .inl ⟨rfl, by decide, bad (by simp only [exitB, inNs, e1, Bool.false_and])⟩
          | true =>
          have eb : exitB ns (.tup [.str x, c]) = noneOr 1 99 c := by simp only [exitB, inNs, e1, Bool.true_and]
          refine .inr ⟨rfl, _, rfl, ?_⟩
          cases zn : V3.isNon c with
          | true =>
            have : noneOr 1 99 c = true := by unfold noneOr; rw [zn]; rfl
            exact .inl ⟨zn, tl (by rw [eb, this])⟩
          | false =>
            have : noneOr 1 99 c = btwB 1 99 c := by unfold noneOr; rw [zn]; rfl
            refine .inr ⟨zn, _, rfl, l_num hc ?_⟩
            cases e2 : btwB 1 99 c with
            | false => exact .inl ⟨rfl, by decide, bad (by rw [eb, this, e2])⟩
            | true => exact .inr ⟨rfl, tl (by rw [eb, this, e2])⟩
        · have nd : exitB ns R = false := by
            unfold exitB
            split
            · rename_i a c
              exact absurd ⟨a, c, rfl⟩ two
            · rfl
          have no : ∀ {P : Prop}, (∀ ys, R = .tup ys → ys.length = 2 → P) := fun {P} ys e h => by
            subst e
            rcases ys with _ | ⟨a, _ | ⟨b, _ | ⟨c, r⟩⟩⟩ <;> first | (simp at h; done) | skip
            exact absurd ⟨_, _, rfl⟩ two
          cases R with
          | tup ys => exact ⟨_, rfl, .inr ⟨by simp [isB, kinds7], _, rfl, .inr ⟨fun h => no ys rfl (by omega), by decide, bad nd⟩⟩⟩
          | tuf ys => simp [rowV, elB] at hR
          | non => exact ⟨_, rfl, .inl ⟨by simp [isB, kinds7], by decide, bad nd⟩⟩
          | bl b => exact ⟨_, rfl, .inl ⟨by simp [isB, kinds7], by decide, bad nd⟩⟩
          | int b => exact ⟨_, rfl, .inl ⟨by simp [isB, kinds7], by decide, bad nd⟩⟩
          | str b => exact ⟨_, rfl, .inl ⟨by simp [isB, kinds7], by decide, bad nd⟩⟩
          | lst b => exact ⟨_, rfl, .inl ⟨by simp [isB, kinds7], by decide, bad nd⟩⟩
          | dk b => exact ⟨_, rfl, .inl ⟨by simp [isB, kinds7], by decide, bad nd⟩⟩
          | _ => simp [rowV, elB] at hR
  · rw [rowG_none hs] at hq
    have hf : ∃ y, tyD G v = some y ∧ isB "tuple" 1 y = some false := by
      cases v <;> first | (simp [seqT] at hs; done) | (simp [elB] at he; done) | exact ⟨_, rfl, by simp [isB, kinds7]⟩
    obtain ⟨y, y1, y2⟩ := hf
    exact ⟨y, y1, .inl ⟨y2, by decide, hq⟩⟩
end
end K03
set_option Elab.async false
set_option linter.all false
set_option maxRecDepth 100000
set_option maxHeartbeats 2000000
/-! what the law says is due -/
namespace K03
open PySem PySem.Spec L2 V3 PyProof.Rows
/-- what is told of a house that may be refused -/
def dueD : Option (Nat × D) → D
  | none => .lst [.str "made"]
  | some (c, i) => .lst [.str (wordC c), .str (shD i)]
section
variable {G G' : Gp} {Q : K3} {E : E3} {p : Addr} {xs : List D} {r d e q b v i : D} {ns : List Str}
theorem ne_listW {o : Option D} (ho : ∀ i, o = some i → IdxOk i) : cmpV .NotEq (listW o) (.lst []) G Q = Q (.bl o.isSome) G := by
  cases o with
  | none =>
    show cmpV .NotEq (.lst []) (.lst []) G Q = _
    rw [c_ne (u := .list []) (v := .list []) rfl rfl (by rfl) (by rfl), PyData.eqv]
    rfl
  | some i =>
    show cmpV .NotEq (.lst [i]) (.lst []) G Q = _
    have pi : Plain 0 i := by
      rcases ho i rfl with rfl | ⟨k, rfl, _⟩
      · exact .non
      · exact .int
    obtain ⟨u, h1, h2, h3⟩ : Plain 1 (.lst [i]) := Plain.lst (n := 0) (by simpa using pi)
    have hu : ∃ w, u = .list [w] := by
      rcases ho i rfl with rfl | ⟨k, rfl, _⟩ <;> (cases h1; exact ⟨_, rfl⟩)
    obtain ⟨w, rfl⟩ := hu
    rw [c_ne (u := .list [w]) (v := .list []) (toPyG_of h1) rfl (shaped_of h2 h3 (by decide)) (by rfl), PyData.eqv]
    rfl
end
end K03
set_option Elab.async false
set_option linter.all false
set_option maxRecDepth 100000
set_option maxHeartbeats 2000000
/-! the loop over what is wrong -/
namespace K03
open PySem PySem.Spec L2 V3 PyProof.Rows
def firstW : List (Nat × Option D) → Option (Nat × D)
  | [] => none
  | (c, some i) :: _ => some (c, i)
  | (_, none) :: r => firstW r
def pairW (w : Nat × Option D) : D := .lst [.str (wordC w.1), listW w.2]
section
variable {G G' : Gp} {Q : K3} {E : E3} {p : Addr} {xs : List D} {r d e q b v i : D} {ns : List Str}
theorem l_loop {x0 x1 x2 x3 x4 x5 : Option D} : ∀ (ws : List (Nat × Option D)) (x6 x7 : Option D), (∀ w ∈ ws, ∀ i, w.2 = some i → IdxOk i) → Q (dueD (firstW ws)) G →
    forW (Tg.tl (Tgs.cons (Tg.nm 6) (Tgs.cons (Tg.nm 7) Tgs.nil)))
      (sseq (sif (tbl (t2 (cmpV CmpOp.NotEq) (tvar 7) (tlst false tanil))) (sseq (sret (tlst false (tacons (tvar 6) (tacons (tcl (bfV false Bf.repr) (tacons (t2 ixV (tvar 7) (tcon (D.int 0))) tanil)) tanil)))) snil) snil) snil)
      { nx := fun σ1 G1 => t__law_due_4 { nx := fun _ G1 => Q D.non G1, rt := Q, bk := fun _ _ => False, ct := fun _ _ => False } (fun x _ G1 => E x G1) σ1 G1, rt := Q, bk := fun _ _ => False, ct := fun _ _ => False }
      (fun x _ G1 => E x G1) (fun _ => True) (ws.map pairW) [x0, x1, x2, x3, x4, x5, x6, x7] G := by
  intro ws
  induction ws with
  | nil =>
    intro x6 x7 hi hq
    refine ⟨trivial, ?_⟩
    show t__law_due_4 _ _ [x0, x1, x2, x3, x4, x5, x6, x7] G
    unfold t__law_due_4
    simp
    exact ⟨by decide, hq⟩
  | cons w ws ih =>
    intro x6 x7 hi hq
    obtain ⟨c, o⟩ := w
    refine ⟨trivial, _, rfl, ?_⟩
    simp
    rw [ne_listW (hi _ List.mem_cons_self)]
    cases o with
    | none =>
      refine .inl ⟨rfl, ?_⟩
      exact ih _ _ (fun w hw => hi w (List.mem_cons_of_mem _ hw)) hq
    | some i =>
      refine .inr ⟨rfl, _, rfl, r_idx (hi _ List.mem_cons_self i rfl) ⟨by decide, ?_⟩⟩
      exact hq
end
end K03
set_option Elab.async false
set_option linter.all false
set_option maxRecDepth 100000
set_option maxHeartbeats 2000000
/-! what the law says is due -/
namespace K03
open PySem PySem.Spec L2 V3 PyProof.Rows
section
variable {G G' : Gp} {Q : K3} {E : E3} {p : Addr} {xs : List D} {r d e q b v i : D} {ns : List Str}
theorem l_due (hr : allK rmB r = true) (hd : allK rowV d = true) (he : allK rowV e = true) (hQ : allK elB q = true) (hb : allK elB b = true) (s1 : short r) (s2 : short d) (s3 : short e) (s4 : short q) (s5 : short b)
    (hq : ∀ G', V3.Sub G G' → Q (dueD (houseW r d e q b)) G') : f__law_due [r, d, e, q, b] G Q E := by
  unfold f__law_due t__law_due
  simp [start3]
  have hi := houseW_idx s1 s2 s3 s4 s5
  have one : ∀ i, roomsW r = some i → houseW r d e q b = some (2, i) := fun i h => by unfold houseW; rw [h]
  refine l_rooms hr ?_
  rw [ne_listW fun i h => (hi 2 i (one i h)).2]
  cases e1 : roomsW r with
  | some i =>
    refine .inr ⟨rfl, l_rooms hr ?_⟩
    rw [e1]
    refine ⟨_, rfl, r_idx (hi 2 i (one i e1)).2 ⟨by decide, ?_⟩⟩
    have := hq G V3.Sub.refl
    rw [one i e1] at this
    exact this
  | none =>
    refine .inl ⟨rfl, ?_⟩
    obtain ⟨ns, hw, en, hn, l2, l7⟩ := rooms_right hr e1
    unfold t__law_due_1
    simp
    refine l_doors hw hn hd s2 ?_
    refine ⟨by decide, l_exits hw hn he s3 ?_⟩
    refine ⟨by decide, ?_⟩
    intro p hp
    unfold t__law_due_2
    simp
    refine ⟨⟨_, seqL_ref gset_at⟩, l_nums hw hQ s4 ?_⟩
    refine ⟨by decide, ?_⟩
    rw [app_ref gset_at]
    refine ⟨by simp [sizeLine], ?_⟩
    unfold t__law_due_3
    simp
    have hs := houseW_idx s1 s2 s3 s4 s5
    have tot : ∀ o : Option D, (∀ i, o = some i → IdxOk i) → o = bellsW ns.length b → ∀ G', V3.Sub G G' → ∀ x6 x7, forW (Tg.tl (Tgs.cons (Tg.nm 6) (Tgs.cons (Tg.nm 7) Tgs.nil)))
      (sseq (sif (tbl (t2 (cmpV CmpOp.NotEq) (tvar 7) (tlst false tanil))) (sseq (sret (tlst false (tacons (tvar 6) (tacons (tcl (bfV false Bf.repr) (tacons (t2 ixV (tvar 7) (tcon (D.int 0))) tanil)) tanil)))) snil) snil) snil)
      { nx := fun σ1 G1 => t__law_due_4 { nx := fun _ G1 => Q D.non G1, rt := Q, bk := fun _ _ => False, ct := fun _ _ => False } (fun x _ G1 => E x G1) σ1 G1, rt := Q, bk := fun _ _ => False, ct := fun _ _ => False }
      (fun x _ G1 => E x G1) (fun _ => True) ([(3, doorsW ns d), (4, exitsW ns e), (5, numsW ns.length 30 q), (6, o)].map pairW) [some r, some d, some e, some q, some b, some (.ref p), x6, x7] G' := fun o io eo G' b' x6 x7 => by
      refine l_loop _ x6 x7 (fun w hw i hwi => ?_) ?_
      · simp only [List.mem_cons, List.not_mem_nil, or_false] at hw
        rcases hw with rfl | rfl | rfl | rfl
        · exact rowG_idx s2 hwi
        · exact rowG_idx s3 hwi
        · exact rowG_idx s4 hwi
        · exact io i hwi
      · have := hq G' b'
        have eh : houseW r d e q b = firstW [(3, doorsW ns d), (4, exitsW ns e), (5, numsW ns.length 30 q), (6, o)] := by
          unfold houseW
          rw [e1, en, ← eo]
          cases doorsW ns d <;> cases exitsW ns e <;> cases numsW ns.length 30 q <;> cases o <;> rfl
        rw [eh] at this
        exact this
    have sub : V3.Sub G (gset G p (GO.lst [D.lst [D.str (Str.ofString "doors"), listW (doorsW ns d)], D.lst [D.str (Str.ofString "exits"), listW (exitsW ns e)], D.lst [D.str (Str.ofString "people"), listW (numsW ns.length 30 q)]])) := V3.Sub.new hp
    have cat : ∀ (G1 : Gp) (xs ys : List D) (Q : K3), G1 p = some (.lst xs) → xs.length + ys.length ≤ 1000 → Q (.lst (xs ++ ys)) G1 → binV false .Add (.ref p) (.lst ys) G1 Q := fun G1 xs ys Q h1 h2 q => by
      refine .inr ⟨xs, ys, ?_, rfl, by simp [sizeLine]; omega, q⟩
      simp [lstT, seqL, h1]
    cases zb : V3.isNon b with
    | true =>
      have eb : none = bellsW ns.length b := by unfold bellsW; rw [zb]; rfl
      refine ⟨by decide, by decide, cat _ _ _ _ gset_at (by simp) ⟨_, rfl, ?_⟩⟩
      exact tot none (fun i h => by cases h) eb _ sub _ _
    | false =>
      have eb : numsW ns.length 9 b = bellsW ns.length b := by unfold bellsW; rw [zb]; rfl
      refine l_nums hw hb s5 ⟨by decide, by decide, cat _ _ _ _ gset_at (by simp) ⟨_, rfl, ?_⟩⟩
      exact tot _ (fun i h => rowG_idx s5 h) eb _ sub _ _
end
end K03
set_option Elab.async false
set_option linter.all false
set_option maxRecDepth 100000
set_option maxHeartbeats 2000000
/-! a house refused as is due -/
namespace K03
open PySem PySem.Spec L2 V3 PyProof.Rows
section
variable {G G' : Gp} {Q : K3} {E : E3} {p : Addr} {xs : List D} {r d e q b v i : D} {ns : List Str}
theorem eq_cell {xs : List D} {n : Nat} (hp : G p = some (.lst xs)) (hx : Plain n (.lst xs)) (hn : n ≤ 64) (hq : Q (.bl true) G) : cmpV .Eq (.ref p) (.lst xs) G Q := by
  obtain ⟨u, h1, h2, h3⟩ := hx
  have e : toPyG G (.ref p) = some u := by
    simp only [toPyG, hp]
    exact h1
  refine ⟨u, u, e, toPyG_of h1, shaped_of h2 h3 hn, shaped_of h2 h3 hn, ?_⟩
  rw [PySem.SeqAt.eqv_refl u h2]
  exact hq
theorem sh_plain {i : D} (h : IdxOk i) : Plain 0 (.str (shD i)) := by
  rcases h with rfl | ⟨k, rfl, hk⟩
  · exact .str (by unfold shD; rw [PyData.shown]; exact ofS_ok)
  · exact .str (Small.int (n := 0) (i := (k : Int)) (by omega)).ok
theorem due_plain {o : Option (Nat × D)} (h : ∀ c i, o = some (c, i) → (2 ≤ c ∧ c ≤ 6) ∧ IdxOk i) : Plain 1 (dueD o) := by
  cases o with
  | none => exact .lst (n := 0) (by simpa using Plain.lit)
  | some ci =>
    refine .lst (n := 0) fun x hx => ?_
    simp only [List.mem_cons, List.not_mem_nil, or_false] at hx
    rcases hx with rfl | rfl
    · unfold wordC
      repeat (split; exact .lit)
      exact .lit
    · exact sh_plain (h _ _ rfl).2
theorem c_refused (hr : allK rmB r = true) (hd : allK rowV d = true) (he : allK rowV e = true) (hQ : allK elB q = true) (hb : allK elB b = true) (s1 : short r) (s2 : short d) (s3 : short e) (s4 : short q) (s5 : short b)
    (hq : ∀ G', V3.Sub G G' → Q (.bl true) G') : f__law_are_refused [r, d, e, q, b] G Q E := by
  have hi := houseW_idx s1 s2 s3 s4 s5
  unfold f__law_are_refused t__law_are_refused
  simp [start3]
  refine l_due hr hd he hQ hb s1 s2 s3 s4 s5 fun G1 b1 => ?_
  unfold t__law_are_refused_1
  simp
  have mk : ∀ (G : Gp) (p : Addr) (Q : K3) (E : E3), G p = none → (match houseW r d e q b with | none => ∀ fs, Q (.obj 0 fs) G | some (c, i) => E (badX c i) G) → f_House___init__ [.ref p, r, d, e, q, b] (gset G p (.ins 0 [])) (keepI false 0 p Q) (fun x G2 => E x (gdel G2 p)) := fun G p Q E hp h => d_make hr hd he hQ hb hp h
  generalize houseW r d e q b = o at hi mk ⊢
  cases o with
  | none =>
    refine fun f hf => d_caught (o := none) hi (fun Q E h => ?_) ?_
    · simp
      intro p hp
      exact mk _ p Q E hp h
    · refine ⟨by decide, fun p hp => ?_⟩
      unfold t__law_are_refused_2
      simp
      refine ⟨⟨_, seqL_ref gset_at⟩, fun f hf => d_caught (o := none) hi (fun Q E h => ?_) ?_⟩
      · simp [pickL]
        intro p2 hp2
        exact mk _ p2 Q E hp2 h
      · rw [app_ref gset_at]
        refine ⟨by simp [sizeLine], ?_⟩
        unfold t__law_are_refused_3
        simp
        refine ⟨by decide, eq_cell gset_at (n := 2) (.lst (n := 1) fun x hx => ?_) (by decide) (hq _ (b1.trans (V3.Sub.new hp)))⟩
        simp at hx
        subst hx
        exact due_plain hi
  | some ci =>
    obtain ⟨c, i⟩ := ci
    refine fun f hf => d_caught (o := some (c, i)) hi (fun Q E h => ?_) ?_
    · simp
      intro p hp
      exact mk _ p Q E hp h
    · refine ⟨by decide, fun p hp => ?_⟩
      unfold t__law_are_refused_2
      simp
      refine ⟨⟨_, seqL_ref gset_at⟩, fun f hf => d_caught (o := some (c, i)) hi (fun Q E h => ?_) ?_⟩
      · simp [pickL]
        intro p2 hp2
        exact mk _ p2 Q E hp2 h
      · show mtV Mt.append (D.ref p) [D.lst [D.str (wordC c), D.str (shD i)]] _ _
        rw [app_ref gset_at]
        refine ⟨by simp [sizeLine], ?_⟩
        unfold t__law_are_refused_3
        simp
        refine ⟨by decide, eq_cell gset_at (n := 2) (.lst (n := 1) fun x hx => ?_) (by decide) (hq _ (b1.trans (V3.Sub.new hp)))⟩
        simp at hx
        rw [hx]
        exact due_plain hi
end
end K03
set_option Elab.async false
set_option linter.all false
set_option maxRecDepth 100000
set_option maxHeartbeats 2000000
/-! drawn houses with bent parts -/
namespace K03
open PySem PySem.Spec L2 V3 PyProof.Rows
section
variable {G G' : Gp} {Q : K3} {E : E3} {p : Addr} {ns : List Str} {v : D}
theorem short_of (h : shB v = true) : short v := fun xs hs => by
  cases v with
  | tup ys => cases hs; have : decide (xs.length ≤ 40) = true := h; have := of_decide_eq_true this; omega
  | tuf ys => cases hs; have : decide (xs.length ≤ 40) = true := h; have := of_decide_eq_true this; omega
  | _ => simp [seqT] at hs
theorem el_of (h : roomsV v = true) : elB v = true ∨ ∃ xs, v = .tuf xs := by
  cases v <;> first | exact .inl h | exact .inl rfl
theorem el_of' (h : roomsV v = true) : elB v = true := by
  cases v <;> first | exact h | rfl
def clV (El : D → Bool) (v : D) : Bool := allK El v && shB v
theorem clV_rooms (h : roomsV v = true ∧ rmB v = true ∧ rowV v = true ∧ rowsV v = true ∧ shB v = true) : clV rmB v = true := by
  obtain ⟨h1, _, _, _, h5⟩ := h
  unfold clV
  rw [h5, Bool.and_true]
  cases v <;> first | exact h1 | (simp [roomsV, elB] at h1)
theorem clV_rows (h : roomsV v = true ∧ rmB v = true ∧ rowV v = true ∧ rowsV v = true ∧ shB v = true) : clV rowV v = true := by
  obtain ⟨h1, _, _, h4, h5⟩ := h
  unfold clV
  rw [h5, Bool.and_true]
  cases v <;> first | exact h4 | (simp [roomsV, elB] at h1)
theorem clV_nums (h : roomsV v = true ∧ rmB v = true ∧ rowV v = true ∧ rowsV v = true ∧ shB v = true) : clV elB v = true := by
  obtain ⟨h1, _, h3, _, h5⟩ := h
  unfold clV
  rw [h5, Bool.and_true]
  cases v <;> first | exact h3 | (simp [roomsV, elB] at h1)
theorem clV_tup {El : D → Bool} (ys : List D) (hl : ys.length ≤ 40) (h : ∀ y ∈ ys, El y = true) : clV El (.tup ys) = true := by
  have : allK El (.tup ys) = ys.all El := rfl
  unfold clV
  rw [this, List.all_eq_true.mpr h]
  exact decide_eq_true hl
theorem clV_lst {El : D → Bool} {xs : List D} : clV El (.lst xs) = true := rfl
theorem row_of {ys : List D} (h : ∀ y ∈ ys, elB y = true) : rowV (.tup ys) = true := List.all_eq_true.mpr h
theorem clV_and {El : D → Bool} (h : clV El v = true) : allK El v = true ∧ short v := by
  unfold clV at h
  simp only [Bool.and_eq_true] at h
  exact ⟨h.1, short_of h.2⟩
theorem nm_rm {s : Str} (h : nmB s = true) : rmB (.str s) = true := by
  simp [rmB, h, nm_ok h]
theorem b_rooms (hn : NamesOk ns) (hP : PurAt G p) (hq : ∀ v G', clV rmB v = true → PurAt G' p → Ext p G G' → Q v G') : f__law_bent [.ref p, .tuf (ns.map D.str)] G Q E := by
  have hl := hn.len
  refine a_bentF (El := rmB) (Cl := clV rmB) (fun x hx => ?_) (by simp; omega) clV_tup clV_lst (fun v h => clV_rooms h) (fun x hx G Q E P h => ?_) hP hq
  · obtain ⟨s, hs, rfl⟩ := List.mem_map.mp hx
    exact nm_rm (hn.nm s hs)
  · obtain ⟨s, hs, rfl⟩ := List.mem_map.mp hx
    exact a_bentA__2 rfl P fun v G' hv => h v G' hv.2.1
theorem b_row {xs : List D} (hx : ∀ x ∈ xs, elB x = true ∧ isT x = false) (hl : 1 ≤ xs.length ∧ xs.length ≤ 12) (hP : PurAt G p) (hq : ∀ v G', rowV v = true → PurAt G' p → Ext p G G' → Q v G') : f__law_bent__2 [.ref p, .tup xs] G Q E :=
  a_bentK__2 (El := elB) (Cl := rowV) (fun x h => (hx x h).1) hl (fun ys _ h => row_of h) rfl (fun v h => h.2.2.1) (fun x h G Q E P k => a_bentA__1 (hx x h).2 P fun v G' hv => k v G' (el_of' hv.1)) hP hq
theorem b_rows {xs : List D} (hx : ∀ x ∈ xs, ∃ ys, x = .tup ys ∧ (∀ y ∈ ys, elB y = true ∧ isT y = false) ∧ 1 ≤ ys.length ∧ ys.length ≤ 12) (hl : 1 ≤ xs.length ∧ xs.length ≤ 12) (hP : PurAt G p) (hq : ∀ v G', clV rowV v = true → PurAt G' p → Ext p G G' → Q v G') : f__law_bent [.ref p, .tup xs] G Q E := by
  refine a_bentK (El := rowV) (Cl := clV rowV) (fun x h => ?_) hl clV_tup clV_lst (fun v h => clV_rows h) (fun x h G Q E P k => ?_) hP hq
  · obtain ⟨ys, rfl, hy, _⟩ := hx x h
    exact row_of fun y hy' => (hy y hy').1
  · obtain ⟨ys, rfl, hy, hl⟩ := hx x h
    exact b_row hy hl P k
theorem b_nums {xs : List D} (hx : ∀ x ∈ xs, elB x = true ∧ isT x = false) (hl : 1 ≤ xs.length ∧ xs.length ≤ 12) (hP : PurAt G p) (hq : ∀ v G', clV elB v = true → PurAt G' p → Ext p G G' → Q v G') : f__law_bent [.ref p, .tup xs] G Q E :=
  a_bentK (El := elB) (Cl := clV elB) (fun x h => (hx x h).1) hl clV_tup clV_lst (fun v h => clV_nums h) (fun x h G Q E P k => a_bentA__2 (hx x h).2 P fun v G' hv => k v G' (el_of' hv.1)) hP hq
theorem el_str {s : Str} (h : PyData.strOk s = true) : elB (.str s) = true ∧ isT (.str s) = false := ⟨h, rfl⟩
theorem el_int {i : Int} (h : 0 ≤ i ∧ i ≤ 1000) : elB (.int i) = true ∧ isT (.int i) = false := ⟨decide_eq_true (by omega), rfl⟩
theorem el_opt {o : Option Int} (h : ∀ i, o = some i → 0 ≤ i ∧ i ≤ 1000) : elB (optD o) = true ∧ isT (optD o) = false := by
  cases o with
  | none => exact ⟨rfl, rfl⟩
  | some i => exact el_int (h i rfl)
end
theorem nodup_len {α : Type} [DecidableEq α] : ∀ (l m : List α), l.Nodup → (∀ x ∈ l, x ∈ m) → l.length ≤ m.length
  | [], _, _, _ => by simp
  | a :: l, m, h, k => by
    have ha := k a List.mem_cons_self
    have := nodup_len l (m.erase a) (List.nodup_cons.mp h).2 fun x hx => (List.mem_erase_of_ne fun e => (List.nodup_cons.mp h).1 (by rw [← e]; exact hx)).mpr (k x (List.mem_cons_of_mem _ hx))
    rw [List.length_erase_of_mem ha] at this
    have := List.length_pos_of_mem ha
    simp only [List.length_cons]
    omega
section
variable {G G' : Gp} {Q : K3} {E : E3} {p : Addr} {H : HouseP}
theorem exits_len (ok : H.Ok) : 1 ≤ H.exits.length ∧ H.exits.length ≤ 7 := by
  have h1 := List.length_pos_iff.mpr ok.exits.ne
  have nd : (H.exits.map (·.1)).Nodup := by
    rw [List.nodup_iff_pairwise_ne, List.pairwise_map]
    exact ok.exits.asc.imp fun h e => by
      rw [e] at h
      exact List.lt_irrefl _ h
  have h2 := nodup_len _ H.ns nd fun x hx => by
    obtain ⟨e, he, rfl⟩ := List.mem_map.mp hx
    exact ok.exits.rm e he
  have h3 := ok.ns.len
  simp at h2
  omega
theorem door_els (hn : NamesOk H.ns) (ok : H.Ok) : ∀ x ∈ H.doors.map DoorP.d, ∃ ys, x = .tup ys ∧ (∀ y ∈ ys, elB y = true ∧ isT y = false) ∧ 1 ≤ ys.length ∧ ys.length ≤ 12 := fun x hx => by
  obtain ⟨d, hd, rfl⟩ := List.mem_map.mp hx
  have k := ok.doors d hd
  have k1 := k.wide
  have k2 := k.steps
  refine ⟨_, rfl, fun y hy => ?_, by simp⟩
  simp only [List.mem_cons, List.not_mem_nil, or_false] at hy
  rcases hy with rfl | rfl | rfl | rfl | rfl | rfl
  · exact el_str (nm_ok (hn.nm _ k.a))
  · exact el_str (nm_ok (hn.nm _ k.b))
  · cases d.both
    · exact ⟨by decide +kernel, rfl⟩
    · exact ⟨by decide +kernel, rfl⟩
  · exact el_int (by omega)
  · exact el_int (by omega)
  · exact el_opt fun i hi => by have := k.closes i hi; omega
theorem exit_els (hn : NamesOk H.ns) (ok : H.Ok) : ∀ x ∈ H.exits.map exD, ∃ ys, x = .tup ys ∧ (∀ y ∈ ys, elB y = true ∧ isT y = false) ∧ 1 ≤ ys.length ∧ ys.length ≤ 12 := fun x hx => by
  obtain ⟨d, hd, rfl⟩ := List.mem_map.mp hx
  refine ⟨_, rfl, fun y hy => ?_, by simp⟩
  simp only [List.mem_cons, List.not_mem_nil, or_false] at hy
  rcases hy with rfl | rfl
  · exact el_str (nm_ok (hn.nm _ (ok.exits.rm d hd)))
  · exact el_opt fun i hi => by have := ok.exits.pl d hd i hi; omega
theorem num_els {is : List Int} {m : Int} (h : ∀ i ∈ is, 0 ≤ i ∧ i ≤ m) (hm : m ≤ 1000) : ∀ x ∈ is.map D.int, elB x = true ∧ isT x = false := fun x hx => by
  obtain ⟨i, hi, rfl⟩ := List.mem_map.mp hx
  have := h i hi
  exact el_int (by omega)
theorem a_rightH (hand : ∀ (G : Gp) (Q : K3) (E : E3), (∀ G', V3.Sub G G' → Q (.bl true) G') → f__law_by_hand [] G Q E) (hP : PurAt G p) (hq : ∀ G', Ext p G G' → Q (.bl true) G') : f__law_right [.ref p] G Q E := by
  unfold f__law_right t__law_right
  simp [start3, and_assoc]
  refine forW_inv (fun xs σ G' => PurAt G' p ∧ Ext p G G' ∧ ∃ b1 b2 b3 b4 b5 b6 b7, σ = [some (.ref p), b1, b2, b3, b4, b5, b6, b7])
    (fun _ _ _ _ => trivial) (fun σ G3 hI => ?_) (fun x xs σ G3 K hI kk => ?_) _ _ _ ⟨hP, Ext.refl, _, _, _, _, _, _, _, rfl⟩
  · obtain ⟨P1, S1, b1, b2, b3, b4, b5, b6, b7, rfl⟩ := hI
    exact hand _ _ _ fun G4 b4 => hq _ (S1.trans fun q _ h => b4 q h)
  · obtain ⟨P1, S1, b1, b2, b3, b4, b5, b6, b7, rfl⟩ := hI
    refine ⟨_, rfl, ?_⟩
    simp [and_assoc]
    refine a_take P1 (by omega) (by omega) fun n G4 n0 n1 P2 S2 => ?_
    try simp
    refine a_take P2 (by omega) (by omega) fun d G5 d0 d1 P3 S3 => ?_
    try simp
    have en : (2 + n : Int) = ((2 + n).toNat : Nat) := by omega
    have ed : (1 + d : Int) = ((1 + d).toNat : Nat) := by omega
    rw [en, ed]
    refine a_house P3 (by omega) (by omega) fun H G6 ok hnl hdl P4 S4 => ?_
    have S14 := S1.trans (S2.trans (S3.trans S4))
    have hn := ok.ns
    have hnl7 := hn.len
    have hdl := ok.dl
    have xl := exits_len ok
    have cr : clV rmB (.tuf (H.ns.map D.str)) = true := by
      have : clV rmB (.tuf (H.ns.map D.str)) = clV rmB (.tup (H.ns.map D.str)) := rfl
      rw [this]
      refine clV_tup _ (by simp; omega) fun x hx => ?_
      obtain ⟨s, hs, rfl⟩ := List.mem_map.mp hx
      exact nm_rm (hn.nm s hs)
    have cd : clV rowV (.tup (H.doors.map DoorP.d)) = true := clV_tup _ (by simp; omega) fun x hx => by
      obtain ⟨ys, rfl, h, _⟩ := door_els hn ok x hx
      exact row_of fun y hy => (h y hy).1
    have ce : clV rowV (.tup (H.exits.map exD)) = true := clV_tup _ (by simp; omega) fun x hx => by
      obtain ⟨ys, rfl, h, _⟩ := exit_els hn ok x hx
      exact row_of fun y hy => (h y hy).1
    have cq : clV elB (.tup (H.people.map D.int)) = true := clV_tup _ (by have := ok.pl; simp; omega) fun x hx => (num_els ok.people (by decide) x hx).1
    have cb : clV elB (.tup (H.bells.map D.int)) = true := clV_tup _ (by have := ok.bl; simp; omega) fun x hx => (num_els ok.bells (by decide) x hx).1
    unfold HouseP.d HouseP.parts
    simp [and_assoc]
    refine a_take P4 (by omega) (by omega) fun w G7 w0 w1 P5 S5 => ?_
    have fin : ∀ {r d e q b : D} {w : Option D} {G8 : Gp}, clV rmB r = true → clV rowV d = true → clV rowV e = true → clV elB q = true → clV elB b = true → PurAt G8 p → Ext p G G8 → f__law_are_refused [r, d, e, q, b] G8 (fun x_2 G1 => truD G1 x_2 = some false ∧ Q (D.bl false) G1 ∨ truD G1 x_2 = some true ∧ K [some (D.ref p), some x, w, some r, some d, some e, some q, some b] G1) (fun x G1 => E x G1) := fun {r d e q b w G8} h1 h2 h3 h4 h5 P8 S8 => by
      refine c_refused (clV_and h1).1 (clV_and h2).1 (clV_and h3).1 (clV_and h4).1 (clV_and h5).1 (clV_and h1).2 (clV_and h2).2 (clV_and h3).2 (clV_and h4).2 (clV_and h5).2 fun G9 b9 => .inr ⟨rfl, kk _ _ ⟨P8.sub b9, S8.trans (fun q _ h => b9 q h), _, _, _, _, _, _, _, rfl⟩⟩
    have be : ∀ a w : Int, (a == w) = decide (w = a) := fun a w => by
      rw [Bool.eq_iff_iff]
      simp
      exact eq_comm
    have i2 : ∀ (G : Gp) (w a b : Int), inD G (D.int w) (D.tup [D.int a, D.int b]) = some (decide (w = a) || decide (w = b)) := fun G w a b => by
      rw [inD_flat (ys := [.int a, .int b]) rfl rfl rfl]
      simp only [List.any_cons, List.any_nil, eqF, Bool.or_false]
      simp only [be]
    have i3 : ∀ (G : Gp) (w a b c : Int), inD G (D.int w) (D.tup [D.int a, D.int b, D.int c]) = some (decide (w = a) || (decide (w = b) || decide (w = c))) := fun G w a b c => by
      rw [inD_flat (ys := [.int a, .int b, .int c]) rfl rfl rfl]
      simp only [List.any_cons, List.any_nil, eqF, Bool.or_false]
      simp only [be]
    have S15 := S1.trans (S2.trans (S3.trans (S4.trans S5)))
    have bR : ∀ {G : Gp} {Q : K3} {E : E3}, PurAt G p → (∀ v G', clV rmB v = true → PurAt G' p → Ext p G G' → Q v G') → f__law_bent [.ref p, .tuf (H.ns.map D.str)] G Q E := fun P h => b_rooms hn P h
    have bD : ∀ {G : Gp} {Q : K3} {E : E3}, PurAt G p → (∀ v G', clV rowV v = true → PurAt G' p → Ext p G G' → Q v G') → f__law_bent [.ref p, .tup (H.doors.map DoorP.d)] G Q E := fun P h => b_rows (door_els hn ok) (by simp; omega) P h
    have bE : ∀ {G : Gp} {Q : K3} {E : E3}, PurAt G p → (∀ v G', clV rowV v = true → PurAt G' p → Ext p G G' → Q v G') → f__law_bent [.ref p, .tup (H.exits.map exD)] G Q E := fun P h => b_rows (exit_els hn ok) (by simp; omega) P h
    have bQ : ∀ {G : Gp} {Q : K3} {E : E3}, PurAt G p → (∀ v G', clV elB v = true → PurAt G' p → Ext p G G' → Q v G') → f__law_bent [.ref p, .tup (H.people.map D.int)] G Q E := fun P h => b_nums (num_els ok.people (by decide)) (by have := ok.pl; simp; omega) P h
    have bB : ∀ {G : Gp} {Q : K3} {E : E3}, PurAt G p → (∀ v G', clV elB v = true → PurAt G' p → Ext p G G' → Q v G') → f__law_bent [.ref p, .tup (H.bells.map D.int)] G Q E := fun P h => b_nums (num_els ok.bells (by decide)) (by have := ok.bl; simp; omega) P h
    have ws : w = 0 ∨ w = 1 ∨ w = 2 ∨ w = 3 ∨ w = 4 ∨ w = 5 ∨ w = 6 := by omega
    rcases ws with rfl | rfl | rfl | rfl | rfl | rfl | rfl
    · simp [i2, i3]
      refine bR P5 fun v G8 hv P8 S8 => ⟨by decide, by decide, by decide, ?_⟩
      exact fin hv cd ce cq cb P8 (S15.trans S8)
    · simp [i2, i3]
      refine ⟨by decide, bD P5 fun v G8 hv P8 S8 => ⟨by decide, by decide, ?_⟩⟩
      exact fin cr hv ce cq cb P8 (S15.trans S8)
    · simp [i2, i3]
      refine ⟨by decide, by decide, bE P5 fun v G8 hv P8 S8 => ⟨by decide, ?_⟩⟩
      exact fin cr cd hv cq cb P8 (S15.trans S8)
    · simp [i2, i3]
      refine ⟨by decide, by decide, by decide, bQ P5 fun v G8 hv P8 S8 => ⟨by decide, ?_⟩⟩
      exact fin cr cd ce hv cb P8 (S15.trans S8)
    · simp [i2, i3]
      refine ⟨by decide, by decide, by decide, bB P5 fun v G8 hv P8 S8 => ?_⟩
      exact fin cr cd ce cq hv P8 (S15.trans S8)
    · simp [i2, i3]
      refine ⟨by decide, by decide, bE P5 fun v G8 hv P8 S8 => ⟨by decide, bQ P8 fun v2 G9 hv2 P9 S9 => ⟨by decide, bB P9 fun v3 G10 hv3 P10 S10 => ?_⟩⟩⟩
      exact fin cr cd hv hv2 hv3 P10 (S15.trans (S8.trans (S9.trans S10)))
    · simp [i2, i3]
      refine ⟨by decide, bD P5 fun v G8 hv P8 S8 => ⟨by decide, bE P8 fun v2 G9 hv2 P9 S9 => ⟨by decide, ?_⟩⟩⟩
      exact fin cr hv hv2 cq cb P9 (S15.trans (S8.trans S9))
end
end K03
set_option Elab.async false
set_option linter.all false
set_option maxRecDepth 100000
set_option maxHeartbeats 4000000
/-! parts by hand -/
namespace K03
open PySem PySem.Spec L2 V3 PyProof.Rows
section
variable {G G' : Gp} {Q : K3} {E : E3} {p : Addr}
/-- parts of which all are of the kinds that are drawn -/
def okB : D → Bool
  | .tup [r, d, e, q, b] => clV rmB r && clV rowV d && clV rowV e && clV elB q && clV elB b
  | _ => false
def doorH : D := .tup [.str "a", .str "b", .str "one", .int 1, .int 1, .non]
def sevenH : D := .tup (V3.signs (Str.ofString "abcdefg"))
def goodH : D := .tup [.tup [.str "a", .str "b"], .tup [doorH], .tup [.tup [.str "a", .non]], .tup [.int 0, .int 1], .tup [.int 0, .int 0]]
def RowH (G G' : Gp) (p : Addr) (n : Nat) : Prop := ∃ xs : List D, G' p = some (.lst xs) ∧ xs.length ≤ n ∧ (∀ x ∈ xs, okB x = true) ∧ V3.Sub G G'
theorem RowH.app {n : Nat} {x : D} (h : RowH G G' p n) (hn : n < 500) (hG : G p = none) (hx : okB x = true) (hq : ∀ G2, RowH G G2 p (n + 1) → Q .non G2) : mtV Mt.append (D.ref p) [x] G' Q := by
  obtain ⟨xs, h1, h2, h3, h4⟩ := h
  rw [app_ref h1]
  refine ⟨by simp [sizeLine]; omega, hq _ ⟨_, gset_at, by simp; omega, fun y hy => ?_, fun r hr => ?_⟩⟩
  · rcases List.mem_append.mp hy with z | z
    · exact h3 y z
    · rw [List.mem_singleton.mp z]
      exact hx
  · rw [gset_off fun e => hr (by rw [e]; exact hG)]
    exact h4 r hr
theorem RowH.seq {n : Nat} (h : RowH G G' p n) : ∃ xs, seqL G' (.ref p) = some xs := by
  obtain ⟨xs, h1, _⟩ := h
  exact ⟨_, seqL_ref h1⟩
theorem sl_tupA {xs : List D} {k : Int} : slV false (.tup xs) none (some k) G Q = Q (.tup (V3.cutD xs none (some k))) G := by simp
theorem sl_tupB {xs : List D} {k : Int} : slV false (.tup xs) (some k) none G Q = Q (.tup (V3.cutD xs (some k) none)) G := by simp
theorem sig7 : V3.signs (Str.ofString "abcdefg") = [.str "a", .str "b", .str "c", .str "d", .str "e", .str "f", .str "g"] := by
  have h : (Str.ofString "abcdefg").cps.toList.map (fun c => (⟨#[c]⟩ : Str)) = [("a" : Str), ("b" : Str), ("c" : Str), ("d" : Str), ("e" : Str), ("f" : Str), ("g" : Str)] := by decide +kernel
  have := congrArg (List.map D.str) h
  rw [List.map_map] at this
  exact this
def InvH (G : Gp) (M : Nat) (ds : List D) (σ : V3.S3) (G' : Gp) : Prop := ∃ (p : Addr) (m : Nat) (b1 b2 b3 b4 b5 b9 b10 b11 b12 : Option D), G p = none ∧ m + 2 * ds.length ≤ M ∧ RowH G G' p m ∧ σ = [some goodH, b1, b2, b3, b4, b5, some doorH, some sevenH, some (.ref p), b9, b10, b11, b12]
def h1 : List D := [sevenH, .tup (V3.signs (Str.ofString "abcdefg") ++ [.str "h"]), .tup [.str "a"], .tup [.str "b", .str "a"], .tup [.str "a", .str "a"], .tup [.str "a", .str "B"], .lst [.str "a", .str "b"], .str "ab", .tup [.str "a", .non]]
theorem h1_ok : ∀ x ∈ h1, okB (.tup [x, .int 5, .int 5, .int 5, .int 5]) = true := by
  unfold h1 sevenH
  rw [sig7]
  decide +kernel
def goodL : List D := [.tup [.str "a", .str "b"], .tup [doorH], .tup [.tup [.str "a", .non]], .tup [.int 0, .int 1], .tup [.int 0, .int 0]]
theorem sg {k : Int} : slV false goodH none (some k) G Q = Q (.tup (V3.cutD goodL none (some k))) G := sl_tupA
theorem sgb {k : Int} : slV false goodH (some k) none G Q = Q (.tup (V3.cutD goodL (some k) none)) G := sl_tupB
def h2 : List D := [.tup [], .tup (List.replicate (Int.toNat 13) [doorH]).flatten, .lst [doorH], .tup [doorH, .tup (V3.cutD [.str "a", .str "b", .str "one", .int 1, .int 1, .non] none (some 5))], .tup [doorH, doorH, .non], .non]
theorem h2_ok : ∀ x ∈ h2, okB (.tup (V3.cutD goodL none (some 1) ++ [x, .int 5, .int 5, .int 5])) = true := by decide +kernel
def doorL : List D := [.str "a", .str "b", .str "one", .int 1, .int 1, .non]
theorem sd {k : Int} : slV false doorH none (some k) G Q = Q (.tup (V3.cutD doorL none (some k))) G := sl_tupA
theorem sdb {k : Int} : slV false doorH (some k) none G Q = Q (.tup (V3.cutD doorL (some k) none)) G := sl_tupB
theorem cutle (xs : List D) (lo hi : Option Int) : (V3.cutD xs lo hi).length ≤ xs.length := by
  unfold V3.cutD
  rw [List.length_take, List.length_drop]
  omega
def h3 : List D := [.tup [.int 0, .str "b"], .tup [.int 0, .str "c"], .tup [.int 1, .str "a"], .tup [.int 2, .str "two"], .tup [.int 3, .int 0], .tup [.int 3, .int 10], .tup [.int 3, .bl true], .tup [.int 4, .int 0], .tup [.int 4, .int 4], .tup [.int 5, .int 31]]
theorem h3_ok : ∀ x ∈ h3, ∃ i t, x = .tup [.int i, t] ∧ (0 ≤ i ∧ i ≤ 5) ∧ okB (.tup (V3.cutD goodL none (some 1) ++ [.tup [doorH, .tup (V3.cutD doorL none (some i) ++ (t :: V3.cutD doorL (some (i + 1)) none)), .int 5]] ++ V3.cutD goodL (some 2) none)) = true := fun x hx => by
  simp only [h3, List.mem_cons, List.not_mem_nil, or_false] at hx
  rcases hx with rfl | rfl | rfl | rfl | rfl | rfl | rfl | rfl | rfl | rfl <;> exact ⟨_, _, rfl, by decide, by decide +kernel⟩
def h4 : List D := [.tup [], .tup [.tup [.str "a", .int 0]], .tup [.tup [.str "a", .int 100]], .tup [.tup [.str "b", .int 1], .tup [.str "a", .int 1]], .tup [.tup [.str "a", .int 1], .tup [.str "a", .int 2]], .tup [.tup [.str "c", .int 1]], .lst [.tup [.str "a", .int 1]]]
theorem h4_ok : ∀ x ∈ h4, okB (.tup (V3.cutD goodL none (some 2) ++ [x, .int 5, .int 5])) = true := by decide +kernel
def h5 : List D := [.tup [.int 0], .tup [.int 0, .int 31], .tup [.int 31, .int (-1)], .tup [.int 0, .bl true], .lst [.int 0, .int 0], .tup [.int 0, .int 0, .int 0], .non, .tup [.int 0, .str "1"], .tup [.int 30, .int 30]]
theorem h5_ok : ∀ x ∈ h5, okB (.tup (V3.cutD goodL none (some 3) ++ [x, .int 5])) = true ∧ okB (.tup (V3.cutD goodL none (some 4) ++ [x])) = true := by decide +kernel
def h6 : List D := [.non, .tup [.int 9, .int 9], .tup [.int 0, .int 10], .tup [], .str "00"]
theorem h6_ok : ∀ x ∈ h6, okB (.tup (V3.cutD goodL none (some 4) ++ [x])) = true := by decide +kernel
theorem RowH.add {n : Nat} {xs : List D} (h : RowH G G' p n) (hn : n + xs.length < 500) (hp : G p = none) (hx : ∀ x ∈ xs, okB x = true) (hq : ∀ q G2, G q = none → RowH G G2 q (n + xs.length) → Q (.ref q) G2) : binV true .Add (D.ref p) (.lst xs) G' Q := by
  obtain ⟨ys, h1, h2, h3, h4⟩ := h
  refine .inr ⟨ys, xs, by simp [lstT, seqL, h1], rfl, by simp [sizeLine]; omega, fun q hq' => ?_⟩
  have hqG : G q = none := by
    cases e : G q with
    | none => rfl
    | some o =>
      have := h4 q (by rw [e]; simp)
      rw [hq', e] at this
      cases this
  exact hq q _ hqG ⟨ys ++ xs, gset_at, by simp; omega, fun y hy => (List.mem_append.mp hy).elim (h3 y) (hx y), fun r hr => by
    rw [gset_off fun e => hr (by rw [e]; exact hqG)]
    exact h4 r hr⟩
theorem lcW_none {B : Gp} {g : Tg} {tt : TT3} {te : T3} {σw : V3.S3} {live K : Gp → Prop} (hl : ∀ G, V3.Sub B G → live G) (hp : B p = none) (hK : ∀ G, V3.Sub B G → G p = some (.lst []) → K G) : ∀ (xs : List D) (G : Gp), V3.Sub B G → G p = some (.lst []) →
    (∀ d ∈ xs, ∃ σ2, g.run d σw = some σ2 ∧ ∀ (G1 : Gp) (QT : Bool → Gp → Prop), V3.Sub B G1 → (∀ G2, V3.Sub G1 G2 → QT false G2) → tt σ2 G1 QT eF) → lcW g tt te σw p live K xs G
  | [], G, b, e, _ => ⟨hl G b, hK G b e⟩
  | d :: xs, G, b, e, he => by
    obtain ⟨σ2, e2, h2⟩ := he d List.mem_cons_self
    refine ⟨hl G b, σ2, e2, h2 G _ b fun G2 b2 => ?_⟩
    rw [if_neg Bool.false_ne_true]
    exact lcW_none hl hp hK xs G2 (b.trans b2) (b2.at e) fun d hd => he d (List.mem_cons_of_mem _ hd)
theorem lc_none {g : Tg} {tt : TT3} {te : T3} {σw : V3.S3} {live : Gp → Prop} {xs : List D} (hl : ∀ G', V3.Sub G G' → live G') (he : ∀ d ∈ xs, ∃ σ2, g.run d σw = some σ2 ∧ ∀ (G1 : Gp) (QT : Bool → Gp → Prop), V3.Sub G G1 → (∀ G2, V3.Sub G1 G2 → QT false G2) → tt σ2 G1 QT eF)
    (hQ : ∀ G', V3.Sub G G' → Q (.lst []) G') : ∀ p, G p = none → lcW g tt te σw p live (keepL false p Q) xs (gset G p (.lst [])) := fun p hp =>
  lcW_none hl hp (fun G1 b e => ⟨[], e, hQ _ fun r hr => by
    have : r ≠ p := fun z => hr (by rw [z]; exact hp)
    rw [← b r hr]
    unfold gdel
    simp [this]⟩) xs _ (V3.Sub.new hp) gset_at he
theorem ok5 {x : D} (h : okB x = true) : ∃ r d e q b, x = .tup [r, d, e, q, b] ∧ clV rmB r = true ∧ clV rowV d = true ∧ clV rowV e = true ∧ clV elB q = true ∧ clV elB b = true := by
  unfold okB at h
  split at h
  · simp only [Bool.and_eq_true] at h
    exact ⟨_, _, _, _, _, rfl, h.1.1.1.1, h.1.1.1.2, h.1.1.2, h.1.2, h.2⟩
  · cases h
theorem a_hand (hq : ∀ G', V3.Sub G G' → Q (.bl true) G') : f__law_by_hand [] G Q E := by
  unfold f__law_by_hand t__law_by_hand
  simp [start3, and_assoc]
  refine ⟨by decide, by decide +kernel, fun p hp => ?_⟩
  have R0 : RowH G (gset G p (.lst [])) p 0 := ⟨[], gset_at, by simp, by simp, V3.Sub.new hp⟩
  generalize gset G p (.lst []) = G0 at R0 ⊢
  unfold t__law_by_hand_1
  simp [and_assoc]
  refine ⟨by decide, by decide, by decide, by decide, by decide, by decide, ?_⟩
  change t__law_by_hand_2 _ _ [some goodH, none, none, none, none, none, some doorH, some sevenH, some (.ref p), none, none, none, none] G0
  unfold t__law_by_hand_2
  simp [and_assoc]
  refine ⟨by decide, ?_⟩
  unfold sevenH
  rw [b_addT]
  refine ⟨by rw [sig7]; decide, by decide, by decide, by decide, ?_⟩
  refine forW_inv (fun ds σ G' => (∀ d ∈ ds, d ∈ h1) ∧ InvH G 18 ds σ G') (fun _ _ _ _ => trivial) (fun σ G3 hI => ?_) (fun x xs σ G3 K hI kk => ?_) _ _ _ ?_
  rotate_left
  · obtain ⟨hm, p, m, b1, b2, b3, b4, b5, b9, b10, b11, b12, hp, hl, R, rfl⟩ := hI
    simp at hl
    have hx := hm x List.mem_cons_self
    have nx : ∀ d ∈ xs, d ∈ h1 := fun d hd => hm d (List.mem_cons_of_mem _ hd)
    refine ⟨_, rfl, ?_⟩
    simp
    refine ⟨R.seq, by decide, R.app (by omega) hp (h1_ok x hx) fun G4 R4 => kk _ _ ⟨nx, p, m + 1, _, _, _, _, _, _, _, _, _, hp, by omega, R4, rfl⟩⟩
  · exact ⟨fun d hd => hd, p, 0, _, _, _, _, _, _, _, _, _, hp, by simp, R0, rfl⟩
  obtain ⟨_, p, m, b1, b2, b3, b4, b5, b9, b10, b11, b12, hp, hl, R, rfl⟩ := hI
  simp at hl
  clear R0
  unfold t__law_by_hand_3
  simp [and_assoc]
  refine ⟨R.seq, by decide, ⟨by simp, by decide, by decide, by simp, ?_⟩⟩
  refine ⟨_, rfl, lc_go (fun d => .tup [d, .int 99]) (fun _ => true) (by rw [sig7]; decide) (fun _ _ _ => trivial) (fun d _ => ⟨_, rfl, fun G' QT b q => q, fun _ G' Q b q => by simp; exact ⟨by decide, q⟩⟩) ?_⟩
  refine .inr ⟨_, rfl, by decide, ⟨by simp, by decide, by decide, by simp, ?_⟩⟩
  refine ⟨by decide, ⟨by simp, by decide, by decide, by simp, ?_⟩⟩
  refine ⟨by decide, ?_⟩
  refine R.app (by omega) hp (by unfold sevenH; rw [sig7]; decide +kernel) fun G4 R4 => ?_
  clear R
  unfold t__law_by_hand_4
  simp [and_assoc]
  refine ⟨by decide, ⟨by simp, by decide, by decide, by simp, by decide, ?_⟩⟩
  unfold doorH
  rw [sl_tupA]
  refine ⟨by decide, by decide, by decide, ?_⟩
  refine forW_inv (fun ds σ G' => (∀ d ∈ ds, d ∈ h2) ∧ InvH G 31 ds σ G') (fun _ _ _ _ => trivial) (fun σ G3 hI => ?_) (fun x xs σ G3 K hI kk => ?_) _ _ _ ?_
  rotate_left
  · obtain ⟨hm, p, m, b1, b2, b3, b4, b5, b9, b10, b11, b12, hp, hl, R, rfl⟩ := hI
    simp at hl
    have hx := hm x List.mem_cons_self
    have nx : ∀ d ∈ xs, d ∈ h2 := fun d hd => hm d (List.mem_cons_of_mem _ hd)
    refine ⟨_, rfl, ?_⟩
    simp [sg]
    refine ⟨R.seq, by decide, by decide, R.app (by omega) hp (h2_ok x hx) fun G4 R4 => kk _ _ ⟨nx, p, m + 1, _, _, _, _, _, _, _, _, _, hp, by omega, R4, rfl⟩⟩
  · exact ⟨fun d hd => hd, p, m + 1, _, _, _, _, _, _, _, _, _, hp, by simp; omega, R4, rfl⟩
  clear R4 hl
  obtain ⟨_, p, m, b1, b2, b3, b4, b5, b9, b10, b11, b12, hp, hl, R4, rfl⟩ := hI
  simp at hl
  unfold t__law_by_hand_5
  simp [and_assoc, sg, sgb]
  refine ⟨by decide, by decide, ?_⟩
  refine forW_inv (fun ds σ G' => (∀ d ∈ ds, d ∈ h3) ∧ InvH G 51 ds σ G') (fun _ _ _ _ => trivial) (fun σ G3 hI => ?_) (fun x xs σ G3 K hI kk => ?_) _ _ _ ?_
  rotate_left
  · obtain ⟨hm, p, m, b1, b2, b3, b4, b5, b9, b10, b11, b12, hp, hl, R, rfl⟩ := hI
    simp at hl
    have hx := hm x List.mem_cons_self
    have nx : ∀ d ∈ xs, d ∈ h3 := fun d hd => hm d (List.mem_cons_of_mem _ hd)
    obtain ⟨i, t, rfl, hi, ho⟩ := h3_ok x hx
    refine ⟨_, rfl, ?_⟩
    simp [sg, sgb, sd, sdb]
    have c1 := cutle doorL none (some i)
    have c2 := cutle doorL (some (i + 1)) none
    simp [doorL] at c1 c2
    simp only [List.append_assoc, List.cons_append, List.nil_append] at ho
    refine ⟨R.seq, by decide, by simp [sizeLine, doorL]; omega, by simp [sizeLine, doorL]; omega, by decide, by decide, by decide, by decide, R.app (by omega) hp ho fun G4 R4 => kk _ _ ⟨nx, p, m + 1, _, _, _, _, _, _, _, _, _, hp, by omega, R4, rfl⟩⟩

  · exact ⟨fun d hd => hd, p, m, _, _, _, _, _, _, _, _, _, hp, by simp; omega, R4, rfl⟩
  clear R4 hl
  obtain ⟨_, p, m, b1, b2, b3, b4, b5, b9, b10, b11, b12, hp, hl, R4, rfl⟩ := hI
  simp at hl
  unfold t__law_by_hand_6
  simp [and_assoc, sg, sgb]
  refine ⟨by decide, by decide, by decide, by decide, by decide, by decide, by decide, by decide, by decide, ?_⟩
  refine forW_inv (fun ds σ G' => (∀ d ∈ ds, d ∈ h4) ∧ InvH G 65 ds σ G') (fun _ _ _ _ => trivial) (fun σ G3 hI => ?_) (fun x xs σ G3 K hI kk => ?_) _ _ _ ?_
  rotate_left
  · obtain ⟨hm, p, m, b1, b2, b3, b4, b5, b9, b10, b11, b12, hp, hl, R, rfl⟩ := hI
    simp at hl
    have hx := hm x List.mem_cons_self
    have nx : ∀ d ∈ xs, d ∈ h4 := fun d hd => hm d (List.mem_cons_of_mem _ hd)
    refine ⟨_, rfl, ?_⟩
    simp [sg, sgb]
    refine ⟨R.seq, by decide, by decide, R.app (by omega) hp (h4_ok x hx) fun G4 R4 => kk _ _ ⟨nx, p, m + 1, _, _, _, _, _, _, _, _, _, hp, by omega, R4, rfl⟩⟩

  · exact ⟨fun d hd => hd, p, m, _, _, _, _, _, _, _, _, _, hp, by simp; omega, R4, rfl⟩
  clear R4 hl
  obtain ⟨_, p, m, b1, b2, b3, b4, b5, b9, b10, b11, b12, hp, hl, R4, rfl⟩ := hI
  simp at hl
  unfold t__law_by_hand_7
  simp [and_assoc, sg, sgb]
  refine ⟨by decide, by decide, ?_⟩
  change 2 ≤ sizeLine ∧ _
  refine ⟨by decide, by decide, by decide, by decide, ?_⟩
  refine forW_inv (fun ds σ G' => (∀ d ∈ ds, d ∈ h5) ∧ InvH G 83 ds σ G') (fun _ _ _ _ => trivial) (fun σ G3 hI => ?_) (fun x xs σ G3 K hI kk => ?_) _ _ _ ?_
  rotate_left
  · obtain ⟨hm, p, m, b1, b2, b3, b4, b5, b9, b10, b11, b12, hp, hl, R, rfl⟩ := hI
    simp at hl
    have hx := hm x List.mem_cons_self
    have nx : ∀ d ∈ xs, d ∈ h5 := fun d hd => hm d (List.mem_cons_of_mem _ hd)
    refine ⟨_, rfl, ?_⟩
    simp [sg, sgb]
    obtain ⟨o1, o2⟩ := h5_ok x hx
    refine ⟨by decide, by decide, by decide, by decide, by decide, R.add (by simp; omega) hp (fun y hy => ?_) fun q G4 hq' R4 => kk _ _ ⟨nx, q, _, _, _, _, _, _, _, _, _, _, hq', by simp; omega, R4, rfl⟩⟩
    simp at hy
    rcases hy with rfl | rfl
    · exact o1
    · exact o2

  · exact ⟨fun d hd => hd, p, m, _, _, _, _, _, _, _, _, _, hp, by simp; omega, R4, rfl⟩
  clear R4 hl
  obtain ⟨_, p, m, b1, b2, b3, b4, b5, b9, b10, b11, b12, hp, hl, R4, rfl⟩ := hI
  simp at hl
  unfold t__law_by_hand_8
  simp [and_assoc, sg, sgb]
  refine ⟨by decide, by decide, ?_⟩
  refine forW_inv (fun ds σ G' => (∀ d ∈ ds, d ∈ h6) ∧ InvH G 93 ds σ G') (fun _ _ _ _ => trivial) (fun σ G3 hI => ?_) (fun x xs σ G3 K hI kk => ?_) _ _ _ ?_
  rotate_left
  · obtain ⟨hm, p, m, b1, b2, b3, b4, b5, b9, b10, b11, b12, hp, hl, R, rfl⟩ := hI
    simp at hl
    have hx := hm x List.mem_cons_self
    have nx : ∀ d ∈ xs, d ∈ h6 := fun d hd => hm d (List.mem_cons_of_mem _ hd)
    refine ⟨_, rfl, ?_⟩
    simp [sg, sgb]
    refine ⟨R.seq, by decide, by decide, R.app (by omega) hp (h6_ok x hx) fun G4 R4 => kk _ _ ⟨nx, p, m + 1, _, _, _, _, _, _, _, _, _, hp, by omega, R4, rfl⟩⟩

  · exact ⟨fun d hd => hd, p, m, _, _, _, _, _, _, _, _, _, hp, by simp; omega, R4, rfl⟩
  clear R4 hl
  obtain ⟨_, p, m, b1, b2, b3, b4, b5, b9, b10, b11, b12, hp, hl, R4, rfl⟩ := hI
  simp at hl
  unfold t__law_by_hand_9
  simp [and_assoc, sg, sgb]
  obtain ⟨xs, e1, e2, e3, e4⟩ := R4
  refine ⟨xs, by simp [walkD, seqA, seqL, e1], lc_none (fun G' b => ?_) (fun d hd => ?_) fun G' b => ?_⟩
  · exact b p (by rw [e1]; simp)
  · obtain ⟨r, dd, e, q, bb, rfl, c1, c2, c3, c4, c5⟩ := ok5 (e3 d hd)
    refine ⟨_, rfl, fun G1 QT b1 h1 => ?_⟩
    simp [atI, ixN]
    refine c_refused (clV_and c1).1 (clV_and c2).1 (clV_and c3).1 (clV_and c4).1 (clV_and c5).1 (clV_and c1).2 (clV_and c2).2 (clV_and c3).2 (clV_and c4).2 (clV_and c5).2 fun G9 b9 => ?_
    exact .inr ⟨rfl, h1 _ b9⟩
  · refine c_eqP (n := 1) (m := 1) (.lst (n := 0) (by simp)) (.lst (n := 0) (by simp)) (by decide) (by decide) fun k hk => ?_
    rw [hk rfl]
    exact hq _ (e4.trans b)
theorem a_right (hP : PurAt G p) (hq : ∀ G', Ext p G G' → Q (.bl true) G') : f__law_right [.ref p] G Q E := a_rightH (fun _ _ _ h => a_hand h) hP hq
end
end K03
set_option Elab.async false
set_option linter.all false
set_option maxRecDepth 100000
set_option maxHeartbeats 4000000
/-! the law -/
namespace K03
open PySem PySem.Spec L2 V3 PyProof.Rows
theorem a_purse {ns : List Int} {t : Nat} {G : Gp} {Q : K3} {E : E3} (hl : ns.length ≤ 63) (h : ∀ p G', G p = none → PurAt G' p → (∀ q, G q ≠ none → G' q = G q) → Q (.ref p) G') : f__law_purse [.rol (ns.map D.int), .int t] G Q E := by
  have hlen : lenD G (.rol (ns.map D.int)) = some ns.length := by simp [lenD, seqA, seqL]
  have fin : ∀ (own st : Int), 0 ≤ own → (0 ≤ st ∧ st < 2147483549) → ∀ p, G p = none → Q (.ref p) (gset G p (.lst [.int own, .int st, .int 0])) := fun own st ho hs p hp =>
    h p _ hp ⟨_, _, _, gset_at, ho, hs, by decide⟩ fun q hq => gset_off fun e => hq (e ▸ hp)
  have md : ∀ i : Int, 0 ≤ i % 2147483549 ∧ i % 2147483549 < 2147483549 := fun i => ⟨Int.emod_nonneg _ (by decide), Int.emod_lt_of_pos _ (by decide)⟩
  have sl : ∀ (G : Gp) (Q : K3), slV false (.rol (ns.map D.int)) none (some 4) G Q = Q (.lst (V3.cutD (ns.map D.int) none (some 4))) G := fun G Q => by
    simp [slV, tupA, seqL]
  have wk : ∀ (G : Gp) (xs : List D), walkD G (.lst xs) = some xs := fun _ _ => rfl
  have hat : ∀ h : t < ns.length, atI (ns.map D.int) (t : Int) = some (.int ns[t]) := fun h => by
    rw [V3.atI_nat]
    simp [h]
  have pw : ∀ (G : Gp) (Q : K3), binV false .Pow (.int 10) (.int 18) G Q = (CPow 10 18 ∧ Q (.int (10 ^ 18)) G) := fun _ _ => rfl
  have ab : ∀ (i : Int) (G : Gp) (Q : K3), bfV false .abs [.int i] G Q = Q (.int (if i < 0 then -i else i)) G := fun _ _ _ => rfl
  have tail : ∀ (cell st : Int), (0 ≤ st ∧ st < 2147483549) → CPow 10 18 ∧
    (((if cell < 0 then -cell else cell) < 1000000000000000000 ∧
        3 ≤ sizeLine ∧
          ∀ (p : Addr), G p = none → Q (D.ref p) (gset G p (GO.lst [D.int 0, D.int st, D.int 0]))) ∨
      (1000000000000000000 ≤ if cell < 0 then -cell else cell) ∧
        3 ≤ sizeLine ∧
          ∀ (p : Addr),
            G p = none →
              Q (D.ref p) (gset G p (GO.lst [D.int (if cell < 0 then -cell else cell), D.int st, D.int 0]))) := fun cell st hs => by
    refine ⟨⟨by decide, by decide, by decide⟩, ?_⟩
    generalize hc : (if cell < 0 then -cell else cell) = c
    have c0 : 0 ≤ c := by
      rw [← hc]
      split <;> omega
    by_cases h1 : c < 1000000000000000000
    · exact .inl ⟨h1, by decide, fin _ _ (by decide) hs⟩
    · exact .inr ⟨by omega, by decide, fin _ _ c0 hs⟩
  have body : ∀ (N : S3 → Gp → Prop) (EE : ES3) (RT : K3) (BK : S3 → Gp → Prop) (cell st : Int) (xs : List D) (lv : Gp → Prop) (c : Option D) (_ : ∀ d ∈ xs, ∃ i : Int, d = .int i), (0 ≤ st ∧ st < 2147483549) → (∀ st' c', (0 ≤ st' ∧ st' < 2147483549) → N [some (.rol (ns.map D.int)), some (.int t), some (.int cell), some (.int st'), c'] G) →
      forW (.nm 4) (sseq (sasg (t2 (binV false .Mod) (tcl (bfV false .int) (tacons (t2 (binV false .Add) (t2 (binV false .Mult) (tvar 3) (tcon (.int 45991))) (tvar 4)) (tanil))) (tcon (.int 2147483549))) (gnm 3)) (snil))
        { nx := N, rt := RT, bk := BK, ct := BK } EE (liveOf G (.lst xs)) xs [some (.rol (ns.map D.int)), some (.int t), some (.int cell), some (.int st), c] G := fun N EE RT BK cell st xs lv c hxs hst hN => by
    refine forW_inv (fun ds σ G' => G' = G ∧ (∀ d ∈ ds, ∃ i : Int, d = .int i) ∧ ∃ st c, (0 ≤ st ∧ st < 2147483549) ∧ σ = [some (.rol (ns.map D.int)), some (.int t), some (.int cell), some (.int st), c]) (fun ds σ G' _ => trivial) (fun σ G' h => ?_) (fun d ds σ G' K h k => ?_) _ _ _ ⟨rfl, hxs, st, c, hst, rfl⟩
    · obtain ⟨rfl, _, st', c', hs, rfl⟩ := h
      exact hN _ _ hs
    · obtain ⟨rfl, hi, st', c', hs, rfl⟩ := h
      obtain ⟨i, rfl⟩ := hi d List.mem_cons_self
      refine ⟨_, rfl, ?_⟩
      simp
      exact ⟨.inr ⟨by decide, by decide⟩, k _ _ ⟨rfl, fun d hd => hi d (List.mem_cons_of_mem _ hd), _, _, md _, rfl⟩⟩
  have cutI : ∀ d ∈ V3.cutD (ns.map D.int) none (some 4), ∃ i : Int, d = .int i := fun d hd => by
    unfold V3.cutD at hd
    obtain ⟨i, _, e⟩ := List.mem_map.mp (List.mem_of_mem_drop (List.mem_of_mem_take hd))
    exact ⟨i, e.symm⟩
  unfold f__law_purse t__law_purse
  by_cases ht : t < ns.length
  · simp [start3, hlen, tife, ht, hat ht]
    unfold t__law_purse_1
    simp
    unfold t__law_purse_2
    simp [start3, hlen, tife, sfor, iseq, tsl, tono, toso, ht, sl, wk]
    refine ⟨.inr ⟨by decide, by decide⟩, .inr ⟨by decide, by decide⟩, .inl (body _ _ _ _ _ _ _ (fun _ => True) _ (by simp) (md _) fun st' c' hs => ?_)⟩
    unfold t__law_purse_3
    simp [pw, ab]
    exact tail _ _ hs
  · simp [start3, hlen, tife, ht]
    unfold t__law_purse_1
    simp
    unfold t__law_purse_2
    simp [start3, hlen, tife, sfor, iseq, tsl, tono, toso, ht, sl, wk]
    refine ⟨.inr ⟨by decide, by decide⟩, .inr ⟨by decide, by decide⟩, by omega, body _ _ _ _ _ _ _ (fun _ => True) _ cutI (md _) fun st' c' hs => ?_⟩
    unfold t__law_purse_3
    simp [pw, ab]
    exact ⟨⟨by decide, by decide, by decide⟩, by decide, fin _ _ (by decide) hs⟩
section
theorem lcW_true {g : Tg} {te : T3} {σw : S3} {p : Addr} {K : Gp → Prop} : ∀ (xs : List D) (acc : List D) (G : Gp), acc.length + xs.length < 1000 → G p = some (.lst acc) → (∀ d ∈ acc, d = .bl true) →
    (∀ d ∈ xs, ∀ (G : Gp) (Q : K3), G p ≠ none → (∀ G', G' p = G p → Q (.bl true) G') → ∃ σ2, g.run d σw = some σ2 ∧ te σ2 G Q eF) →
    (∀ G' acc', G' p = some (.lst acc') → (∀ d ∈ acc', d = .bl true) → K G') → lcW g tyes te σw p (fun _ => True) K xs G
  | [], acc, G, _, hp, ha, _, hK => ⟨trivial, hK G acc hp ha⟩
  | d :: xs, acc, G, hl, hp, ha, he, hK => by
    simp only [List.length_cons] at hl
    obtain ⟨σ2, e, q⟩ := he d List.mem_cons_self G (fun y G4 => ∃ acc, G4 p = some (.lst acc) ∧ acc.length < sizeLine ∧ lcW g tyes te σw p (fun _ => True) K xs (gset G4 p (.lst (acc ++ [y])))) (by rw [hp]; simp) (fun G' hG => ⟨acc, by rw [hG, hp], by simp [sizeLine]; omega, lcW_true xs (acc ++ [.bl true]) _ (by simp; omega) gset_at (fun x hx => by
        rcases List.mem_append.mp hx with z | z
        · exact ha x z
        · exact List.mem_singleton.mp z) (fun d hd => he d (List.mem_cons_of_mem _ hd)) hK⟩)
    exact ⟨trivial, σ2, e, q⟩
theorem q_law {ns : List Int} (hl : ns.length ≤ 63) : f_law [.rol (ns.map D.int)] (fun _ => none) (fun d _ => d = .bl true) (fun _ _ => False) := by
  have hlen : ∀ G, lenD G (.rol (ns.map D.int)) = some ns.length := fun G => by simp [lenD, seqA, seqL]
  unfold f_law t_law
  simp [start3, and_assoc, hlen]
  refine ⟨by split <;> (try split) <;> omega, by split <;> (try split) <;> omega, fun p => ?_⟩
  generalize hm : (if 2 < (if 3 < (ns.length : Int) then 3 else (ns.length : Int)) then (if 3 < (ns.length : Int) then 3 else (ns.length : Int)) else 2 : Int).toNat = m
  have hm3 : m ≤ 3 := by
    rw [← hm]
    split <;> (try split) <;> omega
  refine lcW_true (rngD 0 m) [] _ (by simp [rngD]; omega) gset_at (by simp) (fun d hd G Q hp hQ => ?_) (fun G' acc' h1 h2 => ?_)
  · rw [rng_nat] at hd
    obtain ⟨i, hi, rfl⟩ := List.mem_map.mp hd
    refine ⟨_, rfl, ?_⟩
    simp
    refine a_purse hl fun q G1 fq P1 k1 => ?_
    try simp
    refine a_right P1 fun G2 k2 => hQ G2 ?_
    have hqp : p ≠ q := fun e => hp (by rw [e]; exact fq)
    rw [k2 p hqp (by rw [k1 p hp]; exact hp), k1 p hp]
  · refine ⟨acc', h1, ?_⟩
    have : blsOf acc' = some (acc'.map fun _ => true) := by
      clear h1
      induction acc' with
      | nil => rfl
      | cons a r ih =>
        have e := h2 a List.mem_cons_self
        subst e
        simp [blsOf, ih fun d hd => h2 d (List.mem_cons_of_mem _ hd)]
    exact ⟨acc', _, rfl, this, by simp⟩
end
end K03
set_option maxRecDepth 100000 in
theorem PySem.Challenge.cw_alloutby_k03_houses_refused_holds : PySem.Challenge.rw_alloutby_k03_houses_refused.Holds :=
  k03_of fun ns hl _ => K03.q_law hl
