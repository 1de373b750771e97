import PyProof.Rows.All
import HandS.ForMost
import HandS.IsInst
import HandS.SortKw
import HandS.Conv
import HandS.Wide
import HandS.Flow
import KE.DatumOrd
import HandS.Steps
import HandS.WrittenGet
import HandS.Strs
import HandS.Zip
import PyProof.Rows.SetFrom
import HandS.Head0
import HandS.Head1
import HandS.Head2
import HandS.HeadEnd
import HandS.HeadHook3
import PySem.Challenge.RW_decidebook_k58_whole_entered_in_either_b
section
set_option Elab.async false
set_option linter.all false
set_option maxRecDepth 100000
set_option maxHeartbeats 4000000
/-! SE: symbolic execution of readings over plain data. -/
namespace SE
open PySem PySem.Spec PyProof.Rows L2

abbrev PD := PySem.PyData
abbrev Frag := PySem.W.Frag

/-! ### heaps that grow -/
def Sub (H H' : Hp) : Prop := ∀ a o, H a = some o → H' a = some o
theorem Sub.rfl {H : Hp} : Sub H H := fun _ _ h => h
theorem Sub.tr {A B C : Hp} (x : Sub A B) (y : Sub B C) : Sub A C := fun a o h => y a o (x a o h)
theorem Sub.put {H : Hp} {p : Addr} {o : HO} (h : H p = none) : Sub H (L2.upd H p o) := fun a u e => by
  rw [upd_ne (ne_of_none e h)]; exact e
theorem Sub.none {H H' : Hp} (s : Sub H H') {p : Addr} (h : H' p = Option.none) : H p = Option.none := by
  cases e : H p with
  | none => rfl
  | some o => have := s p o e; rw [h] at this; cases this
theorem rd_sub {H H' : Hp} (s : Sub H H') {a : Addr} {u : HO} (h : Rd H a u) : Rd H' a u := by
  rcases h with h | ⟨o, h⟩
  · exact .inl (s _ _ h)
  · exact .inr ⟨o, s _ _ h⟩
theorem sqL_sub {K : Frag} {H H' : Hp} (s : Sub H H') {a : Addr} {xs : List V} (h : SqL K H a xs) : SqL K H' a xs := by
  rcases h with h | h
  · exact .inl (rd_sub s h)
  · exact .inr h
theorem sqT_sub {K : Frag} {H H' : Hp} (s : Sub H H') {a : Addr} {xs : List V} (h : SqT K H a xs) : SqT K H' a xs := by
  rcases h with h | h
  · exact .inl (rd_sub s h)
  · exact .inr h
mutual
/-- the value is the datum, its lists and tuples tracked -/
inductive Rp (H : Hp) : V → PD → Prop
  | non : Rp H .non .none
  | bl (b : Bool) : Rp H (.bl b) (.bool b)
  | int (i : Int) : Rp H (.int i) (.int i)
  | str (x : Str) : Rp H (.str x) (.str x)
  | lst {a : Addr} {xs : List V} {ds : List PD} : H a = some (.lst xs) → RpA H xs ds → Rp H (.ref a) (.list ds)
  | tup {a : Addr} {xs : List V} {ds : List PD} : H a = some (.tup xs) → RpA H xs ds → Rp H (.ref a) (.tuple ds)
inductive RpA (H : Hp) : List V → List PD → Prop
  | nil : RpA H [] []
  | cons {v : V} {vs : List V} {d : PD} {ds : List PD} : Rp H v d → RpA H vs ds → RpA H (v :: vs) (d :: ds)
end
mutual
theorem rp_sub {H H' : Hp} (s : Sub H H') : ∀ (d : PD) (v : V), Rp H v d → Rp H' v d
  | .none, _, h => by cases h; exact .non
  | .bool _, _, h => by cases h; exact .bl _
  | .int _, _, h => by cases h; exact .int _
  | .str _, _, h => by cases h; exact .str _
  | .list ds, _, h => by
    cases h with
    | lst hs ha => exact .lst (s _ _ hs) (rpA_sub s ds _ ha)
  | .tuple ds, _, h => by
    cases h with
    | tup hs ha => exact .tup (s _ _ hs) (rpA_sub s ds _ ha)
  | .dict _, _, h => by cases h
theorem rpA_sub {H H' : Hp} (s : Sub H H') : ∀ (ds : List PD) (vs : List V), RpA H vs ds → RpA H' vs ds
  | [], _, h => by cases h; exact .nil
  | d :: ds, _, h => by
    cases h with
    | cons h1 h2 => exact .cons (rp_sub s d _ h1) (rpA_sub s ds _ h2)
end
mutual
theorem rp_dp {K : Frag} {H : Hp} : ∀ (d : PD) (v : V), Rp H v d → Dp K H v d
  | .none, _, h => by cases h; exact .non
  | .bool _, _, h => by cases h; exact .bl _
  | .int _, _, h => by cases h; exact .int _
  | .str _, _, h => by cases h; exact .str _
  | .list ds, _, h => by
    cases h with
    | lst hs ha => exact .lst (SqL.of hs) (rpA_dp ds _ ha)
  | .tuple ds, _, h => by
    cases h with
    | tup hs ha => exact .tup (SqT.of hs) (rpA_dp ds _ ha)
  | .dict _, _, h => by cases h
theorem rpA_dp {K : Frag} {H : Hp} : ∀ (ds : List PD) (vs : List V), RpA H vs ds → DpAll K H vs ds
  | [], _, h => by cases h; exact .nil
  | d :: ds, _, h => by
    cases h with
    | cons h1 h2 => exact .cons (rp_dp d _ h1) (rpA_dp ds _ h2)
end
theorem RpA.len {H : Hp} : ∀ {vs : List V} {ds : List PD}, RpA H vs ds → vs.length = ds.length
  | _, _, .nil => rfl
  | _, _, .cons _ t => by simp [RpA.len t]
theorem RpA.get {H : Hp} : ∀ {vs : List V} {ds : List PD} {i : Nat} {d : PD}, RpA H vs ds → ds[i]? = some d → ∃ v, vs[i]? = some v ∧ Rp H v d
  | _, _, _, _, .nil, e => by simp at e
  | _, _, 0, _, .cons h _, e => by simp at e; subst e; exact ⟨_, rfl, h⟩
  | _, _, i + 1, _, .cons _ t, e => by
    obtain ⟨v, h1, h2⟩ := RpA.get (i := i) t (by simpa using e)
    exact ⟨v, by simpa using h1, h2⟩
theorem RpA.get' {H : Hp} : ∀ {vs : List V} {ds : List PD} {i : Nat} {v : V}, RpA H vs ds → vs[i]? = some v → ∃ d, ds[i]? = some d ∧ Rp H v d
  | _, _, _, _, .nil, e => by simp at e
  | _, _, 0, _, .cons h _, e => by simp at e; subst e; exact ⟨_, rfl, h⟩
  | _, _, i + 1, _, .cons _ t, e => by
    obtain ⟨v, h1, h2⟩ := RpA.get' (i := i) t (by simpa using e)
    exact ⟨v, by simpa using h1, h2⟩
theorem RpA.app {H : Hp} : ∀ {vs ws : List V} {ds es : List PD}, RpA H vs ds → RpA H ws es → RpA H (vs ++ ws) (ds ++ es)
  | _, _, _, _, .nil, h => h
  | _, _, _, _, .cons a t, h => .cons a (RpA.app t h)
theorem RpA.take {H : Hp} : ∀ {vs : List V} {ds : List PD} (n : Nat), RpA H vs ds → RpA H (vs.take n) (ds.take n)
  | _, _, 0, _ => .nil
  | _, _, _ + 1, .nil => .nil
  | _, _, n + 1, .cons a t => .cons a (RpA.take n t)
theorem RpA.drop {H : Hp} : ∀ {vs : List V} {ds : List PD} (n : Nat), RpA H vs ds → RpA H (vs.drop n) (ds.drop n)
  | _, _, 0, h => h
  | _, _, _ + 1, .nil => .nil
  | _, _, n + 1, .cons _ t => RpA.drop n t
theorem RpA.set {H : Hp} {v : V} {d : PD} (h : Rp H v d) : ∀ {vs : List V} {ds : List PD} (i : Nat), RpA H vs ds → RpA H (vs.set i v) (ds.set i d)
  | _, _, _, .nil => .nil
  | _, _, 0, .cons _ t => .cons h t
  | _, _, i + 1, .cons a t => .cons a (RpA.set h i t)

/-! ### entries, resources -/
/-- what a slot holds: data that never change, a bare value, a tuple of two entries -/
inductive Ent where
  | d (x : PD)
  | v (w : V)
  | pair (a b : Ent)
def EntOk (F : Hp) : V → Ent → Prop
  | w, .d x => Rp F w x
  | w, .v u => w = u
  | w, .pair a b => ∃ p x y, w = .ref p ∧ F p = some (.tup [x, y]) ∧ EntOk F x a ∧ EntOk F y b
theorem EntOk.sub {F F' : Hp} (s : Sub F F') : ∀ {e : Ent} {w : V}, EntOk F w e → EntOk F' w e
  | .d x, w, h => rp_sub s x w h
  | .v u, w, h => h
  | .pair a b, w, h => by
    obtain ⟨p, x, y, e, hp, ha, hb⟩ := h
    exact ⟨p, x, y, e, s _ _ hp, EntOk.sub s ha, EntOk.sub s hb⟩
abbrev Ents (F : Hp) : List V → List Ent → Prop := Paired (EntOk F)
theorem Ents.sub {F F' : Hp} (s : Sub F F') {vs : List V} {es : List Ent} (h : Ents F vs es) : Ents F' vs es :=
  Paired.mono (fun _ _ x => EntOk.sub s x) h

/-- a thing that changes: its own places, what is true of it -/
structure Res where
  fp : List Addr
  ok : Frag → Hp → Hp → Prop
  mono : ∀ {K : Frag} {F F' H H' : Hp}, ok K F H → Sub F F' → (∀ a ∈ fp, ∀ o, H a = some o → H' a = some o) → ok K F' H'
structure ROk (K : Frag) (F H : Hp) (R : List Res) : Prop where
  sub : Sub F H
  ok : ∀ {i : Nat} {r : Res}, R[i]? = some r → r.ok K F H
  fn : ∀ {i : Nat} {r : Res}, R[i]? = some r → ∀ a ∈ r.fp, F a = none
  hn : ∀ {i : Nat} {r : Res}, R[i]? = some r → ∀ a ∈ r.fp, ∃ o, H a = some o
  dj : ∀ {i j : Nat} {r s : Res}, R[i]? = some r → R[j]? = some s → i ≠ j → ∀ a ∈ r.fp, ¬ a ∈ s.fp
def dead : Res := ⟨[], fun _ _ _ => True, fun _ _ _ => trivial⟩

/-- nothing is changed, new things may have come -/
theorem ROk.grow {K : Frag} {F F' H H' : Hp} {R : List Res} (x : ROk K F H R) (s : Sub F F') (s' : Sub F' H') (t : Sub H H')
    (n : ∀ a o, F a = none → H a = some o → F' a = none) : ROk K F' H' R where
  sub := s'
  ok {i r} h := r.mono (x.ok h) s fun a _ o e => t a o e
  fn {i r} h a ha := by
    obtain ⟨o, e⟩ := x.hn h a ha
    exact n a o (x.fn h a ha) e
  hn {i r} h a ha := by
    obtain ⟨o, e⟩ := x.hn h a ha
    exact ⟨o, t a o e⟩
  dj := x.dj
/-- the thing at i is changed -/
theorem ROk.chg {K : Frag} {F F' H H' : Hp} {R : List Res} {i : Nat} {r r' : Res} (x : ROk K F H R) (hi : R[i]? = some r) (s : Sub F F') (s' : Sub F' H')
    (fp : ∀ a ∈ r'.fp, a ∈ r.fp) (ok : r'.ok K F' H') (hn : ∀ a ∈ r'.fp, ∃ o, H' a = some o)
    (out : ∀ a o, ¬ a ∈ r.fp → H a = some o → H' a = some o) (n : ∀ a o, F a = none → H a = some o → a ∈ r'.fp ∨ ¬ a ∈ r.fp → F' a = none) : ROk K F' H' (R.set i r') := by
  have hl : i < R.length := (List.getElem?_eq_some_iff.mp hi).1
  have at_ : ∀ {j q}, (R.set i r')[j]? = some q → (j = i ∧ q = r') ∨ (j ≠ i ∧ R[j]? = some q) := fun {j q} h => by
    by_cases e : j = i
    · subst e
      rw [List.getElem?_set_self hl] at h
      exact .inl ⟨rfl, (Option.some.inj h).symm⟩
    · rw [List.getElem?_set_ne (Ne.symm e)] at h
      exact .inr ⟨e, h⟩
  refine ⟨s', fun {j q} h => ?_, fun {j q} h a ha => ?_, fun {j q} h a ha => ?_, fun {j k q u} h1 h2 ne a ha => ?_⟩
  · rcases at_ h with ⟨_, rfl⟩ | ⟨e, h⟩
    · exact ok
    · exact q.mono (x.ok h) s fun a ha o ho => out a o (x.dj h hi e a ha) ho
  · rcases at_ h with ⟨_, rfl⟩ | ⟨e, h⟩
    · obtain ⟨o, e⟩ := x.hn hi a (fp a ha)
      exact n a o (x.fn hi a (fp a ha)) e (.inl ha)
    · obtain ⟨o, e2⟩ := x.hn h a ha
      exact n a o (x.fn h a ha) e2 (.inr (x.dj h hi e a ha))
  · rcases at_ h with ⟨_, rfl⟩ | ⟨e, h⟩
    · exact hn a ha
    · obtain ⟨o, e2⟩ := x.hn h a ha
      exact ⟨o, out a o (x.dj h hi e a ha) e2⟩
  · rcases at_ h1 with ⟨e1, g1⟩ | ⟨e1, g1⟩
    · rcases at_ h2 with ⟨e2, g2⟩ | ⟨e2, g2⟩
      · exact absurd (e1.trans e2.symm) ne
      · exact x.dj hi g2 (Ne.symm e2) a (fp a (g1 ▸ ha))
    · rcases at_ h2 with ⟨e2, g2⟩ | ⟨e2, g2⟩
      · exact fun z => x.dj g1 hi e1 a ha (fp a (g2 ▸ z))
      · exact x.dj g1 g2 ne a ha
/-- a new thing -/
theorem ROk.push {K : Frag} {F H H' : Hp} {R : List Res} {r : Res} (x : ROk K F H R) (t : Sub H H') (ok : r.ok K F H') (new : ∀ a ∈ r.fp, H a = none) (hn : ∀ a ∈ r.fp, ∃ o, H' a = some o) : ROk K F H' (R ++ [r]) := by
  have y := x.grow Sub.rfl (x.sub.tr t) t fun _ _ h _ => h
  have at_ : ∀ {j q}, (R ++ [r])[j]? = some q → (j = R.length ∧ q = r) ∨ (j < R.length ∧ R[j]? = some q) := fun {j q} h => by
    by_cases e : j < R.length
    · rw [List.getElem?_append_left e] at h
      exact .inr ⟨e, h⟩
    · have hl := (List.getElem?_eq_some_iff.mp h).1
      rw [List.length_append] at hl
      have e2 : j = R.length := by simp at hl; omega
      subst e2
      rw [List.getElem?_append_right (Nat.le_refl _)] at h
      simp at h
      exact .inl ⟨rfl, h.symm⟩
  refine ⟨y.sub, fun {j q} h => ?_, fun {j q} h a ha => ?_, fun {j q} h a ha => ?_, fun {j k q u} h1 h2 ne a ha => ?_⟩
  · rcases at_ h with ⟨_, rfl⟩ | ⟨_, h⟩
    · exact ok
    · exact y.ok h
  · rcases at_ h with ⟨_, rfl⟩ | ⟨_, h⟩
    · exact x.sub.none (new a ha)
    · exact y.fn h a ha
  · rcases at_ h with ⟨_, rfl⟩ | ⟨_, h⟩
    · exact hn a ha
    · exact y.hn h a ha
  · rcases at_ h1 with ⟨e1, g1⟩ | ⟨_, g1⟩
    · rcases at_ h2 with ⟨e2, g2⟩ | ⟨_, g2⟩
      · exact absurd (e1.trans e2.symm) ne
      · intro z
        obtain ⟨o, e⟩ := x.hn g2 a z
        rw [new a (g1 ▸ ha)] at e; cases e
    · rcases at_ h2 with ⟨_, g2⟩ | ⟨_, g2⟩
      · intro z
        obtain ⟨o, e⟩ := x.hn g1 a ha
        rw [new a (g2 ▸ z)] at e; cases e
      · exact y.dj g1 g2 ne a ha
/-- a new thing that never changes -/
theorem ROk.imm {K : Frag} {F H : Hp} {R : List Res} {p : Addr} {o : HO} (x : ROk K F H R) (hp : H p = none) : ROk K (L2.upd F p o) (L2.upd H p o) R := by
  have hf := x.sub.none hp
  refine x.grow (.put hf) (fun a u e => ?_) (.put hp) fun a u h e => ?_
  · by_cases q : a = p
    · subst q; rw [upd_same] at e ⊢; exact e
    · rw [upd_ne q] at e ⊢; exact x.sub a u e
  · rw [upd_ne (ne_of_none e hp)]; exact h
/-- a part of the things -/
theorem ROk.left {K : Frag} {F H : Hp} {R R' : List Res} (x : ROk K F H (R ++ R')) : ROk K F H R := by
  have up : ∀ {i r}, R[i]? = some r → (R ++ R')[i]? = some r := fun {i r} h => by
    rw [List.getElem?_append_left (List.getElem?_eq_some_iff.mp h).1]; exact h
  exact ⟨x.sub, fun h => x.ok (up h), fun h => x.fn (up h), fun h => x.hn (up h), fun h1 h2 => x.dj (up h1) (up h2)⟩

/-! ### steps: what lies off the things stays -/
def Off (R : List Res) (a : Addr) : Prop := ∀ {i : Nat} {r : Res}, R[i]? = some r → ¬ a ∈ r.fp
structure Stp (F H : Hp) (R : List Res) (F' H' : Hp) (R' : List Res) : Prop where
  sub : Sub F F'
  out : ∀ {a o}, H a = some o → Off R a → H' a = some o ∧ Off R' a
  new : ∀ {a o}, F a = none → H a = some o → Off R a → F' a = none
theorem Stp.rfl {F H : Hp} {R : List Res} : Stp F H R F H R := ⟨Sub.rfl, fun h n => ⟨h, n⟩, fun h _ _ => h⟩
theorem Stp.tr {F H F1 H1 F2 H2 : Hp} {R R1 R2 : List Res} (x : Stp F H R F1 H1 R1) (y : Stp F1 H1 R1 F2 H2 R2) : Stp F H R F2 H2 R2 :=
  ⟨x.sub.tr y.sub, fun h n => let ⟨h1, n1⟩ := x.out h n; y.out h1 n1, fun hf h n => let ⟨h1, n1⟩ := x.out h n; y.new (x.new hf h n) h1 n1⟩
theorem Stp.imm {F H : Hp} {R : List Res} {p : Addr} {o : HO} (hf : F p = none) (hp : H p = none) : Stp F H R (upd F p o) (upd H p o) R :=
  ⟨.put hf, fun {a u} h n => ⟨Sub.put hp a u h, n⟩, fun {a u} f h n => by rw [upd_ne (ne_of_none h hp)]; exact f⟩
theorem Stp.push {F H H' : Hp} {R : List Res} {r : Res} (t : Sub H H') (new : ∀ a ∈ r.fp, H a = none) : Stp F H R F H' (R ++ [r]) :=
  ⟨Sub.rfl, fun {a u} h n => ⟨t a u h, fun {i q} hq => by
    by_cases e : i < R.length
    · rw [List.getElem?_append_left e] at hq
      exact n hq
    · have hl := (List.getElem?_eq_some_iff.mp hq).1
      rw [List.length_append] at hl
      have e2 : i = R.length := by simp at hl; omega
      subst e2
      rw [List.getElem?_append_right (Nat.le_refl _)] at hq
      simp at hq
      subst hq
      intro ha
      rw [new a ha] at h
      cases h⟩, fun f _ _ => f⟩
theorem off_set {R : List Res} {i : Nat} {r r' : Res} {a : Addr} (hi : R[i]? = some r) (fp : ∀ a ∈ r'.fp, a ∈ r.fp) (n : Off R a) : Off (R.set i r') a := fun {j q} h => by
  have hl : i < R.length := (List.getElem?_eq_some_iff.mp hi).1
  by_cases e : j = i
  · subst e
    rw [List.getElem?_set_self hl] at h
    cases h
    exact fun z => n hi (fp a z)
  · rw [List.getElem?_set_ne (Ne.symm e)] at h
    exact n h
theorem Stp.chg {F H F' H' : Hp} {R : List Res} {i : Nat} {r r' : Res} (hi : R[i]? = some r) (s : Sub F F') (fp : ∀ a ∈ r'.fp, a ∈ r.fp) (out : ∀ a o, ¬ a ∈ r.fp → H a = some o → H' a = some o)
    (n : ∀ a o, F a = none → H a = some o → ¬ a ∈ r.fp → F' a = none) : Stp F H R F' H' (R.set i r') :=
  ⟨s, fun {a o} h no => ⟨out a o (no hi) h, off_set hi fp no⟩, fun {a o} f h no => n a o f h (no hi)⟩

/-! ### states and judgements -/
abbrev Rho := List (Option Ent)
structure Sta (K : Frag) (F H : Hp) (σ : L2.St) (ρ : Rho) (R : List Res) : Prop where
  len : σ.length = ρ.length
  env : ∀ {i : Nat} {e : Ent}, ρ[i]? = some (some e) → ∃ v, σ[i]? = some (some v) ∧ EntOk F v e
  res : ROk K F H R
structure Ctx where
  K : Frag
  E : XK
  X : Addr → List Res → Prop
def EOk (c : Ctx) (F H : Hp) (R : List Res) : Prop := ∀ C F' H' R', Stp F H R F' H' R' → ROk c.K F' H' R' → c.X C R' → c.E (.ref C) none H'
theorem EOk.sub {c : Ctx} {F H F' H' : Hp} {R R' : List Res} (h : EOk c F H R) (s : Stp F H R F' H' R') : EOk c F' H' R' := fun C F2 H2 R2 a b x => h C F2 H2 R2 (s.tr a) b x
abbrev We := Ent → List Res → Prop
def Ev (c : Ctx) (te : TE) (ρ : Rho) (R : List Res) (W : We) : Prop :=
  ∀ F H σ Q, Sta c.K F H σ ρ R → EOk c F H R → (∀ v e F' H' R', Stp F H R F' H' R' → Sta c.K F' H' σ ρ R' → EntOk F' v e → W e R' → Q v H') → te σ H Q
def EvT (c : Ctx) (tt : TT) (ρ : Rho) (R : List Res) (W : Bool → List Res → Prop) : Prop :=
  ∀ F H σ Q, Sta c.K F H σ ρ R → EOk c F H R → (∀ b F' H' R', Stp F H R F' H' R' → Sta c.K F' H' σ ρ R' → W b R' → Q b H') → tt σ H Q
def EvA (c : Ctx) (ta : TA) (ρ : Rho) (R : List Res) (W : List Ent → List Res → Prop) : Prop :=
  ∀ F H σ Q, Sta c.K F H σ ρ R → EOk c F H R → (∀ vs es F' H' R', Stp F H R F' H' R' → Sta c.K F' H' σ ρ R' → Ents F' vs es → W es R' → Q vs H') → ta σ H Q
/-- an operation by values -/
def Op1 (c : Ctx) (r : V → Hp → VK → Prop) (x : Ent) (R : List Res) (W : We) : Prop :=
  ∀ F H v Q, ROk c.K F H R → EOk c F H R → EntOk F v x → (∀ u e F' H' R', Stp F H R F' H' R' → ROk c.K F' H' R' → EntOk F' u e → W e R' → Q u H') → r v H Q
def Op2 (c : Ctx) (r : R2) (x y : Ent) (R : List Res) (W : We) : Prop :=
  ∀ F H v w Q, ROk c.K F H R → EOk c F H R → EntOk F v x → EntOk F w y → (∀ u e F' H' R', Stp F H R F' H' R' → ROk c.K F' H' R' → EntOk F' u e → W e R' → Q u H') → r v w H Q
def OpL (c : Ctx) (r : List V → Hp → VK → Prop) (xs : List Ent) (R : List Res) (W : We) : Prop :=
  ∀ F H vs Q, ROk c.K F H R → EOk c F H R → Ents F vs xs → (∀ u e F' H' R', Stp F H R F' H' R' → ROk c.K F' H' R' → EntOk F' u e → W e R' → Q u H') → r vs H Q
structure Post where
  nx : Rho → List Res → Prop
  rt : We
  bk : Rho → List Res → Prop := fun _ _ => False
  ct : Rho → List Res → Prop := fun _ _ => False
structure DOk (c : Ctx) (F H : Hp) (R : List Res) (D : Ends) (P : Post) : Prop where
  nx : ∀ {F' H' σ' ρ' R'}, Stp F H R F' H' R' → Sta c.K F' H' σ' ρ' R' → P.nx ρ' R' → D.nx σ' H'
  rt : ∀ {v e F' H' R'}, Stp F H R F' H' R' → ROk c.K F' H' R' → EntOk F' v e → P.rt e R' → D.rt v H'
  bk : ∀ {F' H' σ' ρ' R'}, Stp F H R F' H' R' → Sta c.K F' H' σ' ρ' R' → P.bk ρ' R' → D.bk σ' H'
  ct : ∀ {F' H' σ' ρ' R'}, Stp F H R F' H' R' → Sta c.K F' H' σ' ρ' R' → P.ct ρ' R' → D.ct σ' H'
theorem DOk.sub {c : Ctx} {F H F' H' : Hp} {R R' : List Res} {D : Ends} {P : Post} (d : DOk c F H R D P) (s : Stp F H R F' H' R') : DOk c F' H' R' D P :=
  ⟨fun a => d.nx (s.tr a), fun a => d.rt (s.tr a), fun a => d.bk (s.tr a), fun a => d.ct (s.tr a)⟩
def Sv (c : Ctx) (t : TS) (ρ : Rho) (R : List Res) (P : Post) : Prop :=
  ∀ F H σ D, Sta c.K F H σ ρ R → EOk c F H R → DOk c F H R D P → t D σ H
theorem Sta.step {K : Frag} {F F' H H' : Hp} {σ : L2.St} {ρ : Rho} {R R' : List Res} (x : Sta K F H σ ρ R) (s : Sub F F') (r : ROk K F' H' R') : Sta K F' H' σ ρ R' :=
  ⟨x.len, fun h => by
    obtain ⟨v, h1, h2⟩ := x.env h
    exact ⟨v, h1, h2.sub s⟩, r⟩

/-! ### a promise over data -/
abbrev TF := List Ent → List Res → We → (Addr → List Res → Prop) → Prop
def spT (K : Frag) (T : TF) : Sp := fun vs H Q E => ∃ F es R W X, ROk K F H R ∧ Ents F vs es ∧ T es R W X ∧
  (∀ v e F' H' R', Stp F H R F' H' R' → ROk K F' H' R' → EntOk F' v e → W e R' → Q v H') ∧ EOk ⟨K, E, X⟩ F H R
def ρ0 (N : List Str) (es : List Ent) : Rho := es.map some ++ List.replicate (N.length - es.length) none
theorem sta0 {K : Frag} {F H : Hp} {N : List Str} {vs : List V} {es : List Ent} {R : List Res} (r : ROk K F H R) (h : Ents F vs es) : Sta K F H (L2.start N vs) (ρ0 N es) R := by
  have hl := Paired.length h
  refine ⟨by simp [L2.start, ρ0, hl], fun {i e} hi => ?_, r⟩
  have key : ∀ {vs : List V} {es : List Ent} {n : Nat} {i : Nat}, Ents F vs es → (es.map some ++ List.replicate n none)[i]? = some (some e) → ∃ v, (vs.map some ++ List.replicate n none)[i]? = some (some v) ∧ EntOk F v e := by
    intro vs es n i h
    induction h generalizing i with
    | nil => intro hi; simp [List.getElem?_replicate] at hi
    | @cons v w vs es h0 t ih =>
      intro hi
      cases i with
      | zero => simp at hi; subst hi; exact ⟨v, by simp, h0⟩
      | succ i =>
        obtain ⟨u, h1, h2⟩ := ih (i := i) (by simpa using hi)
        exact ⟨u, by simpa using h1, h2⟩
  unfold ρ0 at hi
  unfold L2.start
  rw [hl]
  exact key h hi
/-- a def's body keeps its promise -/
theorem body_ok {K : Frag} {T : TF} {N : List Str} {t : TS} {E : XK} (h : ∀ es R W X, T es R W X → Sv ⟨K, E, X⟩ t (ρ0 N es) R ⟨fun _ R' => W (.d .none) R', W, fun _ _ => False, fun _ _ => False⟩)
    {vs : List V} {H : Hp} {Q : VK} (q : spT K T vs H Q E) : t { nx := fun _ H' => Q .non H', rt := Q } (L2.start N vs) H := by
  obtain ⟨F, es, R, W, X, hR, hE, hT, k, x⟩ := q
  refine h es R W X hT F H _ _ (sta0 hR hE) x ⟨fun s st w => ?_, fun s r e w => k _ _ _ _ _ s r e w, fun _ _ w => w.elim, fun _ _ w => w.elim⟩
  exact k V.non (.d .none) _ _ _ s st.res Rp.non w
theorem spT_len {K : Frag} {T : TF} {n : Nat} (h : ∀ es R W X, T es R W X → es.length = n) {vs : List V} {H : Hp} {Q : VK} {E : XK} (q : spT K T vs H Q E) : vs.length = n := by
  obtain ⟨F, es, R, W, X, _, hE, hT, _⟩ := q
  rw [Paired.length hE]
  exact h es R W X hT
end SE
end
section
set_option Elab.async false
set_option linter.all false
set_option maxRecDepth 100000
set_option maxHeartbeats 4000000
namespace SE
open PySem PySem.Spec PyProof.Rows L2

theorem eD {F : Hp} {v : V} {x : PD} (h : Rp F v x) : EntOk F v (.d x) := h
theorem eV {F : Hp} {v : V} : EntOk F v (.v v) := rfl
section
variable {c : Ctx} {ρ : Rho} {R : List Res} {W : We}
/-! ### expressions -/
theorem ev_var {i : Nat} {e : Ent} (h : ρ[i]? = some (some e)) (k : W e R) : Ev c (tVar i) ρ R W := fun F H σ Q st x q => by
  obtain ⟨v, h1, h2⟩ := st.env h
  exact ⟨v, h1, q v e F H R Stp.rfl st h2 k⟩
theorem ev_c {v : V} (k : W (.v v) R) : Ev c (tC v) ρ R W := fun F H σ Q st x q => q v _ F H R Stp.rfl st eV k
theorem ev_int {i : Int} (k : W (.d (.int i)) R) : Ev c (tC (.int i)) ρ R W := fun F H σ Q st x q => q _ _ F H R Stp.rfl st (eD (Rp.int i)) k
theorem ev_str {i : Str} (k : W (.d (.str i)) R) : Ev c (tC (.str i)) ρ R W := fun F H σ Q st x q => q _ _ F H R Stp.rfl st (eD (Rp.str i)) k
theorem ev_bl {i : Bool} (k : W (.d (.bool i)) R) : Ev c (tC (.bl i)) ρ R W := fun F H σ Q st x q => q _ _ F H R Stp.rfl st (eD (Rp.bl i)) k
theorem ev_non (k : W (.d .none) R) : Ev c (tC .non) ρ R W := fun F H σ Q st x q => q _ _ F H R Stp.rfl st (eD Rp.non) k
theorem ev_op {r : R2} {ta tb : TE} (h : Ev c ta ρ R fun x R1 => Ev c tb ρ R1 fun y R2 => Op2 c r x y R2 W) : Ev c (tOp r ta tb) ρ R W :=
  fun F H σ Q st x q => h F H σ _ st x fun v e F1 H1 R1 s1 st1 he w1 => w1 F1 H1 σ _ st1 (x.sub s1) fun u e2 F2 H2 R2 s2 st2 he2 w2 =>
    w2 F2 H2 v u Q st2.res ((x.sub s1).sub s2) (he.sub s2.sub) he2 fun z e3 F3 H3 R3 s3 r3 he3 w3 => q z e3 F3 H3 R3 ((s1.tr s2).tr s3) (st2.step s3.sub r3) he3 w3
theorem ev_un {r : V → Hp → VK → Prop} {ta : TE} (h : Ev c ta ρ R fun x R1 => Op1 c r x R1 W) : Ev c (tUn r ta) ρ R W :=
  fun F H σ Q st x q => h F H σ _ st x fun v e F1 H1 R1 s1 st1 he w1 => w1 F1 H1 v Q st1.res (x.sub s1) he fun z e3 F3 H3 R3 s3 r3 he3 w3 => q z e3 F3 H3 R3 (s1.tr s3) (st1.step s3.sub r3) he3 w3
theorem ea_nil {W : List Ent → List Res → Prop} (k : W [] R) : EvA c tNil ρ R W := fun F H σ Q st x q => q [] [] F H R Stp.rfl st .nil k
theorem ea_cons {te : TE} {tr : TA} {W : List Ent → List Res → Prop} (h : Ev c te ρ R fun e R1 => EvA c tr ρ R1 fun es R2 => W (e :: es) R2) : EvA c (tCons te tr) ρ R W :=
  fun F H σ Q st x q => h F H σ _ st x fun v e F1 H1 R1 s1 st1 he w1 => w1 F1 H1 σ _ st1 (x.sub s1) fun vs es F2 H2 R2 s2 st2 hes w2 =>
    q (v :: vs) (e :: es) F2 H2 R2 (s1.tr s2) st2 (.cons (he.sub s2.sub) hes) w2
theorem ev_cb {r : List V → Hp → VK → Prop} {t : TA} (h : EvA c t ρ R fun xs R1 => OpL c r xs R1 W) : Ev c (tCB r t) ρ R W :=
  fun F H σ Q st x q => h F H σ _ st x fun vs es F1 H1 R1 s1 st1 he w1 => w1 F1 H1 vs Q st1.res (x.sub s1) he fun z e3 F3 H3 R3 s3 r3 he3 w3 => q z e3 F3 H3 R3 (s1.tr s3) (st1.step s3.sub r3) he3 w3
/-- f(..) of a def whose errors are not wanted -/
theorem ev_call {T : TF} {t : TA} (h : EvA c t ρ R fun es R1 => T es R1 W fun _ _ => False) : Ev c (tCall (spT c.K T) [] E0 t) ρ R W :=
  fun F H σ Q st x q => h F H σ _ st x fun vs es F1 H1 R1 s1 st1 he w1 => by
    rw [List.append_nil]
    exact ⟨F1, es, R1, W, _, st1.res, he, w1, fun z e3 F3 H3 R3 s3 r3 he3 w3 => q z e3 F3 H3 R3 (s1.tr s3) (st1.step s3.sub r3) he3 w3, fun _ _ _ _ _ _ z => z.elim⟩
/-- .. whose errors leave this def too -/
theorem ev_callX {T : TF} {t : TA} (h : EvA c t ρ R fun es R1 => T es R1 W c.X) : Ev c (tCall (spT c.K T) [] c.E t) ρ R W :=
  fun F H σ Q st x q => h F H σ _ st x fun vs es F1 H1 R1 s1 st1 he w1 => by
    rw [List.append_nil]
    exact ⟨F1, es, R1, W, _, st1.res, he, w1, fun z e3 F3 H3 R3 s3 r3 he3 w3 => q z e3 F3 H3 R3 (s1.tr s3) (st1.step s3.sub r3) he3 w3, x.sub s1⟩
def InsR (K : Frag) (R : List Res) (a C : Addr) (m : Str) : Prop := ∀ F H, ROk K F H R → ∃ dx fs, H a = some (.ins C dx fs) ∧ fs.lookup m = none
theorem ev_meth {C : Addr} {m : Str} {T : TF} {ta : TE} {t : TA} (h : Ev c ta ρ R fun o R1 => ∃ a, o = .v (.ref a) ∧ InsR c.K R1 a C m ∧ EvA c t ρ R1 fun es R2 => T (o :: es) R2 W fun _ _ => False) : Ev c (tMeth C m (spT c.K T) [] E0 ta t) ρ R W :=
  fun F H σ Q st x q => h F H σ _ st x fun v e F1 H1 R1 s1 st1 he ⟨a, ea, hi, w1⟩ => by
    subst ea
    obtain ⟨dx, fs, h1, h2⟩ := hi F1 H1 st1.res
    refine ⟨a, dx, fs, he, h1, h2, ?_⟩
    refine w1 F1 H1 σ _ st1 (x.sub s1) fun vs es F2 H2 R2 s2 st2 he2 w2 => ?_
    rw [List.append_nil]
    exact ⟨F2, _, R2, W, _, st2.res, .cons (he.sub s2.sub) he2, w2, fun z e3 F3 H3 R3 s3 r3 he3 w3 => q z e3 F3 H3 R3 ((s1.tr s2).tr s3) (st2.step s3.sub r3) he3 w3, fun _ _ _ _ _ _ z => z.elim⟩
theorem ev_methX {C : Addr} {m : Str} {T : TF} {ta : TE} {t : TA} (h : Ev c ta ρ R fun o R1 => ∃ a, o = .v (.ref a) ∧ InsR c.K R1 a C m ∧ EvA c t ρ R1 fun es R2 => T (o :: es) R2 W c.X) : Ev c (tMeth C m (spT c.K T) [] c.E ta t) ρ R W :=
  fun F H σ Q st x q => h F H σ _ st x fun v e F1 H1 R1 s1 st1 he ⟨a, ea, hi, w1⟩ => by
    subst ea
    obtain ⟨dx, fs, h1, h2⟩ := hi F1 H1 st1.res
    refine ⟨a, dx, fs, he, h1, h2, ?_⟩
    refine w1 F1 H1 σ _ st1 (x.sub s1) fun vs es F2 H2 R2 s2 st2 he2 w2 => ?_
    rw [List.append_nil]
    exact ⟨F2, _, R2, W, _, st2.res, .cons (he.sub s2.sub) he2, w2, fun z e3 F3 H3 R3 s3 r3 he3 w3 => q z e3 F3 H3 R3 ((s1.tr s2).tr s3) (st2.step s3.sub r3) he3 w3, x.sub (s1.tr s2)⟩
/-- a new instance -/
def rInst (x C dx : Addr) (fs : List (Str × V)) : Res := ⟨[x], fun _ _ H => H x = some (.ins C dx fs), fun h _ t => t x (by simp) _ h⟩
theorem ev_make {C : Addr} {T : TF} {t : TA} (h : EvA c t ρ R fun es R1 => ∀ x dx, T (.v (.ref x) :: es) (R1 ++ [rInst x C dx []]) (fun e R2 => e = .d .none ∧ W (.v (.ref x)) R2) fun _ _ => False) : Ev c (tMake C (spT c.K T) [] E0 t) ρ R W :=
  fun F H σ Q st x q => h F H σ _ st x fun vs es F1 H1 R1 s1 st1 he w1 => fun a dx ha hdx ne => by
    rw [List.append_nil]
    have n1 : (upd H1 dx (.own a)) a = none := by rw [upd_ne (Ne.symm ne)]; exact ha
    have t1 : Sub H1 (upd (upd H1 dx (.own a)) a (.ins C dx [])) := (Sub.put hdx).tr (Sub.put n1)
    have sp : Stp F1 H1 R1 F1 (upd (upd H1 dx (.own a)) a (.ins C dx [])) (R1 ++ [rInst a C dx []]) := .push t1 fun b hb => by simp [rInst] at hb; rw [hb]; exact ha
    refine ⟨F1, _, R1 ++ [rInst a C dx []], _, _, st1.res.push t1 upd_same (fun b hb => by simp [rInst] at hb; rw [hb]; exact ha) (fun b hb => by simp [rInst] at hb; rw [hb]; exact ⟨_, upd_same⟩), .cons eV he, w1 a dx, fun z e3 F3 H3 R3 s3 r3 he3 ⟨e4, w3⟩ => ?_, fun _ _ _ _ _ _ z => z.elim⟩
    subst e4
    cases he3
    exact ⟨rfl, q _ _ F3 H3 R3 (s1.tr (sp.tr s3)) (st1.step s3.sub r3) eV w3⟩
def FldR (K : Frag) (R : List Res) (a : Addr) (f : Str) (e : Ent) : Prop := ∀ F H, ROk K F H R → ∃ C dx fs v, H a = some (.ins C dx fs) ∧ Cls K C ∧ NoAttr K C f ∧ fs.lookup f = some v ∧ EntOk F v e
theorem ev_fld {f : Str} {ta : TE} (h : Ev c ta ρ R fun o R1 => ∃ a e, o = .v (.ref a) ∧ FldR c.K R1 a f e ∧ W e R1) : Ev c (tFld c.K ta f) ρ R W :=
  fun F H σ Q st x q => h F H σ _ st x fun v e F1 H1 R1 s1 st1 he ⟨a, e2, ea, hf, w1⟩ => by
    subst ea
    obtain ⟨C, dx, fs, u, h1, h2, h3, h4, h5⟩ := hf F1 H1 st1.res
    exact ⟨a, C, dx, fs, u, he, h1, h2, h3, h4, q u e2 F1 H1 R1 s1 st1 h5 w1⟩
/-! tests -/
theorem et_test {te : TE} {W : Bool → List Res → Prop} (h : Ev c te ρ R fun e R1 => ∃ b, e = .d (.bool b) ∧ W b R1) : EvT c (tTest te) ρ R W :=
  fun F H σ Q st x q => h F H σ _ st x fun v e F1 H1 R1 s1 st1 he ⟨b, eb, w1⟩ => by
    subst eb
    cases he
    exact ⟨b, rfl, q b F1 H1 R1 s1 st1 w1⟩
theorem et_B {te : TE} {W : Bool → List Res → Prop} (h : Ev c te ρ R fun e R1 => ∃ b, e = .d (.bool b) ∧ W b R1) : EvT c (tB te) ρ R W :=
  fun F H σ Q st x q => h F H σ _ st x fun v e F1 H1 R1 s1 st1 he ⟨b, eb, w1⟩ => by
    subst eb
    cases he
    exact ⟨b, rfl, q b F1 H1 R1 s1 st1 w1⟩
theorem et_and {t u : TT} {W : Bool → List Res → Prop} (h : EvT c t ρ R fun a R1 => if a = true then EvT c u ρ R1 W else W false R1) : EvT c (tAnd t u) ρ R W :=
  fun F H σ Q st x q => h F H σ _ st x fun b F1 H1 R1 s1 st1 w1 => by
    cases b with
    | true =>
      show u σ H1 Q
      rw [if_pos rfl] at w1
      exact w1 F1 H1 σ Q st1 (x.sub s1) fun b2 F2 H2 R2 s2 st2 w2 => q b2 F2 H2 R2 (s1.tr s2) st2 w2
    | false =>
      show Q false H1
      exact q false F1 H1 R1 s1 st1 (by simpa using w1)
theorem et_or {t u : TT} {W : Bool → List Res → Prop} (h : EvT c t ρ R fun a R1 => if a = true then W true R1 else EvT c u ρ R1 W) : EvT c (tOr t u) ρ R W :=
  fun F H σ Q st x q => h F H σ _ st x fun b F1 H1 R1 s1 st1 w1 => by
    cases b with
    | false =>
      show u σ H1 Q
      rw [if_neg Bool.false_ne_true] at w1
      exact w1 F1 H1 σ Q st1 (x.sub s1) fun b2 F2 H2 R2 s2 st2 w2 => q b2 F2 H2 R2 (s1.tr s2) st2 w2
    | true =>
      show Q true H1
      exact q true F1 H1 R1 s1 st1 (by simpa using w1)
theorem et_not {t : TT} {W : Bool → List Res → Prop} (h : EvT c t ρ R fun a R1 => W (!a) R1) : EvT c (tNot t) ρ R W :=
  fun F H σ Q st x q => h F H σ _ st x fun b F1 H1 R1 s1 st1 w1 => q (!b) F1 H1 R1 s1 st1 w1
/-- a test that is known, then the rest once -/
theorem et_is {t : TT} {W : Bool → List Res → Prop} (b : Bool) (h : EvT c t ρ R fun a R1 => a = b ∧ R1 = R) (k : W b R) : EvT c t ρ R W :=
  fun F H σ Q st x q => h F H σ _ st x fun b' F1 H1 R1 s1 st1 ⟨e1, e2⟩ => q b' F1 H1 R1 s1 st1 (by rw [e1, e2]; exact k)
theorem ev_is {te : TE} (e : Ent) (h : Ev c te ρ R fun a R1 => a = e ∧ R1 = R) (k : W e R) : Ev c te ρ R W :=
  fun F H σ Q st x q => h F H σ _ st x fun v e' F1 H1 R1 s1 st1 he ⟨e1, e2⟩ => q v e' F1 H1 R1 s1 st1 he (by rw [e1, e2]; exact k)
theorem ev_mono {te : TE} {W' : We} (h : Ev c te ρ R W') (k : ∀ e R', W' e R' → W e R') : Ev c te ρ R W :=
  fun F H σ Q st x q => h F H σ _ st x fun v e' F1 H1 R1 s1 st1 he w => q v e' F1 H1 R1 s1 st1 he (k _ _ w)
theorem et_mono {t : TT} {W W' : Bool → List Res → Prop} (h : EvT c t ρ R W') (k : ∀ e R', W' e R' → W e R') : EvT c t ρ R W :=
  fun F H σ Q st x q => h F H σ _ st x fun b F1 H1 R1 s1 st1 w => q b F1 H1 R1 s1 st1 (k _ _ w)
theorem ev_andV {ta tb : TE} (h : Ev c ta ρ R fun e R1 => ∃ b, e = .d (.bool b) ∧ if b = true then Ev c tb ρ R1 W else W (.d (.bool false)) R1) : Ev c (tAndV ta tb) ρ R W :=
  fun F H σ Q st x q => h F H σ _ st x fun v e F1 H1 R1 s1 st1 he ⟨b, eb, w1⟩ => by
    subst eb
    cases he
    refine ⟨b, rfl, ?_⟩
    cases b with
    | true =>
      show tb σ H1 Q
      rw [if_pos rfl] at w1
      exact w1 F1 H1 σ Q st1 (x.sub s1) fun v2 b2 F2 H2 R2 s2 st2 h2 w2 => q v2 b2 F2 H2 R2 (s1.tr s2) st2 h2 w2
    | false =>
      show Q (.bl false) H1
      exact q _ _ F1 H1 R1 s1 st1 (eD (Rp.bl false)) (by simpa using w1)
theorem ev_orV {ta tb : TE} (h : Ev c ta ρ R fun e R1 => ∃ b, e = .d (.bool b) ∧ if b = true then W (.d (.bool true)) R1 else Ev c tb ρ R1 W) : Ev c (tOrV ta tb) ρ R W :=
  fun F H σ Q st x q => h F H σ _ st x fun v e F1 H1 R1 s1 st1 he ⟨b, eb, w1⟩ => by
    subst eb
    cases he
    refine ⟨b, rfl, ?_⟩
    cases b with
    | false =>
      show tb σ H1 Q
      rw [if_neg Bool.false_ne_true] at w1
      exact w1 F1 H1 σ Q st1 (x.sub s1) fun v2 b2 F2 H2 R2 s2 st2 h2 w2 => q v2 b2 F2 H2 R2 (s1.tr s2) st2 h2 w2
    | true =>
      show Q (.bl true) H1
      exact q _ _ F1 H1 R1 s1 st1 (eD (Rp.bl true)) (by simpa using w1)
theorem ev_notV {ta : TE} (h : Ev c ta ρ R fun e R1 => ∃ b, e = .d (.bool b) ∧ W (.d (.bool (!b))) R1) : Ev c (tNotV ta) ρ R W :=
  fun F H σ Q st x q => h F H σ _ st x fun v e F1 H1 R1 s1 st1 he ⟨b, eb, w1⟩ => by
    subst eb
    cases he
    exact ⟨b, rfl, q _ _ F1 H1 R1 s1 st1 (eD (Rp.bl _)) w1⟩
theorem ev_if {t : TT} {ta tb : TE} (h : EvT c t ρ R fun b R1 => if b = true then Ev c ta ρ R1 W else Ev c tb ρ R1 W) : Ev c (tIf t ta tb) ρ R W :=
  fun F H σ Q st x q => h F H σ _ st x fun b F1 H1 R1 s1 st1 w1 => by
    cases b with
    | true =>
      show ta σ H1 Q
      rw [if_pos rfl] at w1
      exact w1 F1 H1 σ Q st1 (x.sub s1) fun v2 b2 F2 H2 R2 s2 st2 h2 w2 => q v2 b2 F2 H2 R2 (s1.tr s2) st2 h2 w2
    | false =>
      show tb σ H1 Q
      rw [if_neg Bool.false_ne_true] at w1
      exact w1 F1 H1 σ Q st1 (x.sub s1) fun v2 b2 F2 H2 R2 s2 st2 h2 w2 => q v2 b2 F2 H2 R2 (s1.tr s2) st2 h2 w2

/-! displays -/
def dsOf : List Ent → Option (List PD)
  | [] => some []
  | .d x :: r => match dsOf r with
    | some ds => some (x :: ds)
    | none => none
  | _ => none
theorem ents_ds {F : Hp} : ∀ {vs : List V} {es : List Ent} {ds : List PD}, Ents F vs es → dsOf es = some ds → RpA F vs ds
  | _, _, _, .nil, h => by cases h; exact .nil
  | _, e :: r, ds, .cons h t, q => by
    cases e with
    | d x =>
      unfold dsOf at q
      cases e2 : dsOf r with
      | none => rw [e2] at q; cases q
      | some ds2 =>
        rw [e2] at q
        cases q
        exact .cons h (ents_ds t e2)
    | v w => cases q
    | pair a b => cases q
theorem small1 {n : Nat} (h : n ≤ 1000) : n ≤ sizeLine := Nat.le_trans h (by decide)
theorem ev_tup {t : TA} (h : EvA c t ρ R fun es R1 => ∃ ds, dsOf es = some ds ∧ es.length ≤ 1000 ∧ W (.d (.tuple ds)) R1) : Ev c (tTup t) ρ R W :=
  fun F H σ Q st x q => h F H σ _ st x fun vs es F1 H1 R1 s1 st1 he ⟨ds, e1, hl, w1⟩ => ⟨by rw [Paired.length he]; exact small1 hl, fun p hp =>
    have hf := st1.res.sub.none hp
    q _ _ (upd F1 p (.tup vs)) (upd H1 p (.tup vs)) R1 (s1.tr (.imm hf hp)) (st1.step (.put hf) (st1.res.imm hp)) (eD (Rp.tup upd_same (rpA_sub (.put hf) _ _ (ents_ds he e1)))) w1⟩
theorem ev_tupP {t : TA} (h : EvA c t ρ R fun es R1 => ∃ a b, es = [a, b] ∧ W (.pair a b) R1) : Ev c (tTup t) ρ R W :=
  fun F H σ Q st x q => h F H σ _ st x fun vs es F1 H1 R1 s1 st1 he ⟨a, b, e1, w1⟩ => by
    subst e1
    cases he with
    | cons h1 t1 =>
    cases t1 with
    | cons h2 t2 =>
    cases t2
    refine ⟨small1 (by simp), fun p hp => ?_⟩
    have hf := st1.res.sub.none hp
    refine q _ (.pair a b) (upd F1 p _) (upd H1 p _) R1 (s1.tr (.imm hf hp)) (st1.step (.put hf) (st1.res.imm hp)) ?_ w1
    exact ⟨p, _, _, rfl, upd_same, h1.sub (.put hf), h2.sub (.put hf)⟩
/-- a list that never changes -/
theorem ev_lst {t : TA} (h : EvA c t ρ R fun es R1 => ∃ ds, dsOf es = some ds ∧ es.length ≤ 1000 ∧ W (.d (.list ds)) R1) : Ev c (tLst t) ρ R W :=
  fun F H σ Q st x q => h F H σ _ st x fun vs es F1 H1 R1 s1 st1 he ⟨ds, e1, hl, w1⟩ => ⟨by rw [Paired.length he]; exact small1 hl, fun p hp =>
    have hf := st1.res.sub.none hp
    q _ _ (upd F1 p (.lst vs)) (upd H1 p (.lst vs)) R1 (s1.tr (.imm hf hp)) (st1.step (.put hf) (st1.res.imm hp)) (eD (Rp.lst upd_same (rpA_sub (.put hf) _ _ (ents_ds he e1)))) w1⟩
/-- a list that will change -/
def rLst (p : Addr) (ds : List PD) : Res := ⟨[p], fun _ F H => ∃ vs, H p = some (.lst vs) ∧ RpA F vs ds, fun ⟨vs, h1, h2⟩ s t => ⟨vs, t p (by simp) _ h1, rpA_sub s _ _ h2⟩⟩
theorem Sta.push {K : Frag} {F H H' : Hp} {σ : L2.St} {r : Res} (x : Sta K F H σ ρ R) (t : Sub H H') (ok : r.ok K F H') (new : ∀ a ∈ r.fp, H a = none) (hn : ∀ a ∈ r.fp, ∃ o, H' a = some o) : Sta K F H' σ ρ (R ++ [r]) :=
  ⟨x.len, x.env, x.res.push t ok new hn⟩
theorem ev_lstR {t : TA} (h : EvA c t ρ R fun es R1 => ∃ ds, dsOf es = some ds ∧ es.length ≤ 1000 ∧ ∀ p, W (.v (.ref p)) (R1 ++ [rLst p ds])) : Ev c (tLst t) ρ R W :=
  fun F H σ Q st x q => h F H σ _ st x fun vs es F1 H1 R1 s1 st1 he ⟨ds, e1, hl, w1⟩ => ⟨by rw [Paired.length he]; exact small1 hl, fun p hp =>
    q _ _ F1 (upd H1 p (.lst vs)) _ (s1.tr (.push (r := rLst p ds) (.put hp) fun a ha => by simp [rLst] at ha; rw [ha]; exact hp)) (st1.push (r := rLst p ds) (.put hp) ⟨vs, upd_same, ents_ds he e1⟩ (fun a ha => by simp [rLst] at ha; rw [ha]; exact hp) (fun a ha => by simp [rLst] at ha; rw [ha]; exact ⟨_, upd_same⟩)) eV (w1 p)⟩
end

/-! ### statements -/
section
variable {c : Ctx} {ρ : Rho} {R : List Res} {P : Post} {te : TE} {t u : TS}
theorem Sta.set {K : Frag} {F H : Hp} {σ : L2.St} {i : Nat} {v : V} {e : Ent} (x : Sta K F H σ ρ R) (h : EntOk F v e) : Sta K F H (σ.set i (some v)) (ρ.set i (some e)) R := by
  refine ⟨by rw [List.length_set, List.length_set]; exact x.len, fun {j e2} hj => ?_, x.res⟩
  by_cases q : i = j
  · subst q
    have hl := (List.getElem?_eq_some_iff.mp hj).1
    rw [List.length_set] at hl
    rw [List.getElem?_set_self hl] at hj
    cases hj
    exact ⟨v, by rw [List.getElem?_set_self (by rw [x.len]; exact hl)], h⟩
  · rw [List.getElem?_set_ne q] at hj
    rw [List.getElem?_set_ne q]
    exact x.env hj
theorem sv_seq (h : Sv c t ρ R { P with nx := fun ρ' R' => Sv c u ρ' R' P }) : Sv c (tSeq t u) ρ R P := fun F H σ D st x d =>
  h F H σ _ st x ⟨fun s st' w => w _ _ _ _ st' (x.sub s) (d.sub s), d.rt, d.bk, d.ct⟩
theorem sv_next (k : P.nx ρ R) : Sv c tNext ρ R P := fun F H σ D st x d => d.nx Stp.rfl st k
theorem sv_brk (k : P.bk ρ R) : Sv c tBreak ρ R P := fun F H σ D st x d => d.bk Stp.rfl st k
theorem sv_cont (k : P.ct ρ R) : Sv c tCont ρ R P := fun F H σ D st x d => d.ct Stp.rfl st k
theorem sv_asg {i : Nat} (h : Ev c te ρ R fun e R1 => P.nx (ρ.set i (some e)) R1) : Sv c (tAsg te (gName i)) ρ R P := fun F H σ D st x d =>
  h F H σ _ st x fun v e F1 H1 R1 s1 st1 he w => d.nx s1 (st1.set he) w
theorem sv_drop (h : Ev c te ρ R fun e R1 => P.nx ρ R1) : Sv c (tDrop te) ρ R P := fun F H σ D st x d =>
  h F H σ _ st x fun v e F1 H1 R1 s1 st1 he w => d.nx s1 st1 w
theorem sv_ret (h : Ev c te ρ R P.rt) : Sv c (tRet te) ρ R P := fun F H σ D st x d =>
  h F H σ _ st x fun v e F1 H1 R1 s1 st1 he w => d.rt s1 st1.res he w
theorem sv_retN (k : P.rt (.d .none) R) : Sv c tRetN ρ R P := fun F H σ D st x d => d.rt Stp.rfl st.res (eD Rp.non) k
theorem sv_if {tc : TT} (h : EvT c tc ρ R fun b R1 => if b = true then Sv c t ρ R1 P else Sv c u ρ R1 P) : Sv c (tIfS tc t u) ρ R P := fun F H σ D st x d =>
  h F H σ _ st x fun b F1 H1 R1 s1 st1 w => by
    cases b with
    | true => exact w F1 H1 σ D st1 (x.sub s1) (d.sub s1)
    | false => exact w F1 H1 σ D st1 (x.sub s1) (d.sub s1)
theorem sv_mono {P' : Post} (h : Sv c t ρ R P') (h1 : ∀ ρ' R', P'.nx ρ' R' → P.nx ρ' R') (h2 : ∀ e R', P'.rt e R' → P.rt e R') (h3 : ∀ ρ' R', P'.bk ρ' R' → P.bk ρ' R') (h4 : ∀ ρ' R', P'.ct ρ' R' → P.ct ρ' R') : Sv c t ρ R P :=
  fun F H σ D st x d => h F H σ D st x ⟨fun s st' w => d.nx s st' (h1 _ _ w), fun s r e w => d.rt s r e (h2 _ _ w), fun s st' w => d.bk s st' (h3 _ _ w), fun s st' w => d.ct s st' (h4 _ _ w)⟩
/-- a mutable list is looked at as data from here on -/
theorem sv_freeze {i k : Nat} {p : Addr} {ds : List PD} (hi : R[i]? = some (rLst p ds)) (hk : ρ[k]? = some (some (.v (.ref p)))) (h : Sv c t (ρ.set k (some (.d (.list ds)))) (R.set i dead) P) : Sv c t ρ R P := fun F H σ D st x d => by
  obtain ⟨vs, h1, h2⟩ := st.res.ok hi
  have hf : F p = none := st.res.fn hi p (by simp [rLst])
  have s : Sub F (upd F p (.lst vs)) := .put hf
  have s' : Sub (upd F p (.lst vs)) H := fun a o e => by
    by_cases q : a = p
    · subst q; rw [upd_same] at e; rw [h1]; exact e
    · rw [upd_ne q] at e; exact st.res.sub a o e
  have r : ROk c.K (upd F p (.lst vs)) H (R.set i dead) := st.res.chg (r' := dead) hi s s' (fun a ha => by simp [dead] at ha) trivial (fun a ha => by simp [dead] at ha) (fun a o _ e => e) fun a o hn e hh => by
    rcases hh with hh | hh
    · simp [dead] at hh
    · rw [upd_ne (fun q => hh (by rw [q]; simp [rLst]))]; exact hn
  have sp : Stp F H R (upd F p (.lst vs)) H (R.set i dead) := .chg hi s (fun a ha => by simp [dead] at ha) (fun a o _ e => e) fun a o hn e hh => by
    rw [upd_ne (fun q => hh (by rw [q]; simp [rLst]))]; exact hn
  refine h _ H σ D ⟨by rw [List.length_set]; exact st.len, fun {j e} hj => ?_, r⟩ (x.sub sp) (d.sub sp)
  by_cases q : k = j
  · subst q
    have hl := (List.getElem?_eq_some_iff.mp hj).1
    rw [List.length_set] at hl
    rw [List.getElem?_set_self hl] at hj
    cases hj
    obtain ⟨v, e1, e2⟩ := st.env hk
    cases e2
    exact ⟨_, e1, Rp.lst upd_same (rpA_sub s _ _ h2)⟩
  · rw [List.getElem?_set_ne q] at hj
    obtain ⟨v, e1, e2⟩ := st.env hj
    exact ⟨v, e1, e2.sub s⟩
end
end SE
end
section
set_option Elab.async false
set_option linter.all false
set_option maxRecDepth 100000
set_option maxHeartbeats 4000000
namespace SE
open PySem PySem.Spec PyProof.Rows L2

/-! ### targets -/
def wipeR (ρ : Rho) : List Nat → Rho
  | [] => ρ
  | v :: vs => (wipeR ρ vs).set v none
theorem Sta.wipe {K : Frag} {F H : Hp} {σ : L2.St} {ρ : Rho} {R : List Res} (x : Sta K F H σ ρ R) : ∀ vs : List Nat, Sta K F H (L2.wipe σ vs) (wipeR ρ vs) R
  | [] => x
  | v :: vs => by
    have y := x.wipe vs
    refine ⟨?_, fun {j e} hj => ?_, x.res⟩
    · show ((L2.wipe σ vs).set v none).length = ((wipeR ρ vs).set v none).length
      rw [List.length_set, List.length_set]; exact y.len
    · have hj : ((wipeR ρ vs).set v none)[j]? = some (some e) := hj
      show ∃ u, ((L2.wipe σ vs).set v none)[j]? = some (some u) ∧ _
      by_cases q : v = j
      · subst q
        have hl := (List.getElem?_eq_some_iff.mp hj).1
        rw [List.length_set] at hl
        rw [List.getElem?_set_self hl] at hj
        cases hj
      · rw [List.getElem?_set_ne q] at hj
        rw [List.getElem?_set_ne q]
        exact y.env hj
theorem wipe_set {σ : L2.St} {j : Nat} {x : Option V} : ∀ {vs : List Nat}, j ∈ vs → L2.wipe (σ.set j x) vs = L2.wipe σ vs
  | v :: vs, h => by
    show (L2.wipe (σ.set j x) vs).set v none = (L2.wipe σ vs).set v none
    by_cases q : j ∈ vs
    · rw [wipe_set q]
    · have e : j = v := by
        rcases List.mem_cons.mp h with h | h
        · exact h
        · exact absurd h q
      subst e
      have key : ∀ vs : List Nat, ¬ j ∈ vs → L2.wipe (σ.set j x) vs = (L2.wipe σ vs).set j x := by
        intro vs
        induction vs with
        | nil => intro _; rfl
        | cons u us ih =>
          intro hn
          show (L2.wipe (σ.set j x) us).set u none = ((L2.wipe σ us).set u none).set j x
          rw [ih fun z => hn (List.mem_cons_of_mem _ z), List.set_comm]
          intro z; exact hn (by rw [z]; exact List.mem_cons_self)
      rw [key vs q, List.set_set]
theorem wipe_wipe {σ : L2.St} : ∀ vs : List Nat, L2.wipe (L2.wipe σ vs) vs = L2.wipe σ vs := by
  have key : ∀ us vs : List Nat, (∀ u ∈ us, u ∈ vs) → L2.wipe (L2.wipe σ us) vs = L2.wipe σ vs := by
    intro us
    induction us with
    | nil => intro vs _; rfl
    | cons u us ih =>
      intro vs h
      show L2.wipe ((L2.wipe σ us).set u none) vs = _
      rw [wipe_set (h u List.mem_cons_self), ih vs fun z hz => h z (List.mem_cons_of_mem _ hz)]
  exact fun vs => key vs vs fun _ h => h
/-- the datum x is given to the target g, whose slots are js -/
def Tg (c : Ctx) (js : List Nat) (g : TG) (x : PD) (ρ : Rho) (R : List Res) (W : Rho → Prop) : Prop :=
  ∀ F H σ v Q, Sta c.K F H σ ρ R → Rp F v x → (∀ σ' ρ', Sta c.K F H σ' ρ' R → (∀ vs, (∀ j ∈ js, j ∈ vs) → L2.wipe σ' vs = L2.wipe σ vs) → W ρ' → Q σ' H) → g v σ H Q
section
variable {c : Ctx} {ρ : Rho} {R : List Res} {P : Post} {te : TE} {t u : TS}
theorem tg_name {j : Nat} {x : PD} {W : Rho → Prop} (k : W (ρ.set j (some (.d x)))) : Tg c [j] (gName j) x ρ R W := fun F H σ v Q st h q =>
  q _ _ (st.set (eD h)) (fun vs hv => wipe_set (hv j (by simp))) k
theorem tg_tup2 {i j : Nat} {x y : PD} {W : Rho → Prop} (k : W ((ρ.set i (some (.d x))).set j (some (.d y)))) : Tg c [i, j] (gTup c.K 2 (gCons (gName i) (gCons (gName j) gNil))) (.tuple [x, y]) ρ R W := fun F H σ v Q st h q => by
  cases h with
  | tup ha hr =>
  cases hr with
  | cons h1 t1 =>
  cases t1 with
  | cons h2 t2 =>
  cases t2
  refine ⟨_, _, rfl, SqT.of (st.res.sub _ _ ha), rfl, _, _, rfl, _, _, rfl, rfl, ?_⟩
  exact q _ _ ((st.set (eD h1)).set (eD h2)) (fun vs hv => by rw [wipe_set (hv j (by simp)), wipe_set (hv i (by simp))]) k
theorem tg_tup3 {i j l : Nat} {x y z : PD} {W : Rho → Prop} (k : W (((ρ.set i (some (.d x))).set j (some (.d y))).set l (some (.d z)))) : Tg c [i, j, l] (gTup c.K 3 (gCons (gName i) (gCons (gName j) (gCons (gName l) gNil)))) (.tuple [x, y, z]) ρ R W := fun F H σ v Q st h q => by
  cases h with
  | tup ha hr =>
  cases hr with
  | cons h1 t1 =>
  cases t1 with
  | cons h2 t2 =>
  cases t2 with
  | cons h3 t3 =>
  cases t3
  refine ⟨_, _, rfl, SqT.of (st.res.sub _ _ ha), rfl, _, _, rfl, _, _, rfl, _, _, rfl, rfl, ?_⟩
  exact q _ _ (((st.set (eD h1)).set (eD h2)).set (eD h3)) (fun vs hv => by rw [wipe_set (hv l (by simp)), wipe_set (hv j (by simp)), wipe_set (hv i (by simp))]) k
/-- a, b = e -/
theorem sv_asgT {js : List Nat} {g : TG} (h : Ev c te ρ R fun e R1 => ∃ x, e = .d x ∧ Tg c js g x ρ R1 fun ρ' => P.nx ρ' R1) : Sv c (tAsg te g) ρ R P := fun F H σ D st x d =>
  h F H σ _ st x fun v e F1 H1 R1 s1 st1 he ⟨y, ey, w⟩ => by
    subst ey
    exact w F1 H1 σ v _ st1 he fun σ' ρ' st2 _ w2 => d.nx s1 st2 w2
/-- a, b = e, e a pair of entries -/
theorem sv_asgP {i j : Nat} (h : Ev c te ρ R fun e R1 => ∃ a b, e = .pair a b ∧ P.nx ((ρ.set i (some a)).set j (some b)) R1) : Sv c (tAsg te (gTup c.K 2 (gCons (gName i) (gCons (gName j) gNil)))) ρ R P := fun F H σ D st x d =>
  h F H σ _ st x fun v e F1 H1 R1 s1 st1 he ⟨a, b, ey, w⟩ => by
    subst ey
    obtain ⟨p, y, z, rfl, hp, h1, h2⟩ := he
    refine ⟨_, _, rfl, SqT.of (st1.res.sub _ _ hp), rfl, _, _, rfl, _, _, rfl, rfl, ?_⟩
    exact d.nx s1 ((st1.set h1).set h2) w

/-! ### loops -/
theorem getPD {F : Hp} {xs : List V} {ds : List PD} {i : Nat} {v : V} (r : RpA F xs ds) (h : xs[i]? = some v) : ∃ d, ds[i]? = some d ∧ Rp F v d := r.get' h
theorem sv_forL {tl : TE} {g : TG} {js : List Nat} (ds : List PD) (Inv : Nat → Rho → List Res → Prop) (h : Ev c tl ρ R fun e R1 => e = .d (.list ds) ∧ Inv 0 ρ R1)
    (hs : ∀ i x ρ' R', ds[i]? = some x → Inv i ρ' R' → Tg c js g x ρ' R' fun ρ2 => Sv c t ρ2 R' { P with nx := Inv (i + 1), ct := Inv (i + 1), bk := P.nx })
    (hd : ∀ ρ' R', Inv ds.length ρ' R' → P.nx ρ' R') : Sv c (tFor (iList c.K tl) g t) ρ R P := fun F H σ D st x d =>
  h F H σ _ st x fun v e F1 H1 R1 s1 st1 he ⟨ee, i0⟩ => by
    subst ee
    cases he with
    | @lst a xs _ ha hr =>
    have hlen := hr.len
    refine ⟨a, rfl, ⟨xs, SqL.of (st1.res.sub _ _ ha)⟩, for_list (K := c.K) (a := a) (xs := xs) (fun i σ' H' => ∃ F' ρ' R', Stp F1 H1 R1 F' H' R' ∧ Sta c.K F' H' σ' ρ' R' ∧ Inv i ρ' R') ⟨F1, ρ, R1, .rfl, st1, i0⟩ ?_ ?_ ?_⟩
    · rintro i σ' H' _ ⟨F', ρ', R', s', st', _⟩
      exact SqL.of (st'.res.sub _ _ (s'.sub _ _ ha))
    · rintro i v σ' H' hv ⟨F', ρ', R', s', st', iv⟩
      obtain ⟨dd, hd1, hd2⟩ := getPD hr hv
      refine hs i dd ρ' R' hd1 iv F' H' σ' v _ st' (rp_sub s'.sub _ _ hd2) fun σ2 ρ2 st2 _ w2 => ?_
      exact w2 F' H' σ2 _ st2 ((x.sub s1).sub s') ⟨fun s3 st3 w => ⟨_, _, _, s'.tr s3, st3, w⟩, fun s3 => d.rt (s1.tr (s'.tr s3)), fun s3 st3 w => d.nx (s1.tr (s'.tr s3)) st3 w, fun s3 st3 w => ⟨_, _, _, s'.tr s3, st3, w⟩⟩
    · rintro σ' H' ⟨F', ρ', R', s', st', iv⟩
      rw [hlen] at iv
      exact d.nx (s1.tr s') st' (hd _ _ iv)
theorem sv_forT {tl : TE} {g : TG} {js : List Nat} (ds : List PD) (Inv : Nat → Rho → List Res → Prop) (h : Ev c tl ρ R fun e R1 => e = .d (.tuple ds) ∧ Inv 0 ρ R1)
    (hs : ∀ i x ρ' R', ds[i]? = some x → Inv i ρ' R' → Tg c js g x ρ' R' fun ρ2 => Sv c t ρ2 R' { P with nx := Inv (i + 1), ct := Inv (i + 1), bk := P.nx })
    (hd : ∀ ρ' R', Inv ds.length ρ' R' → P.nx ρ' R') : Sv c (tFor (iTup c.K tl) g t) ρ R P := fun F H σ D st x d =>
  h F H σ _ st x fun v e F1 H1 R1 s1 st1 he ⟨ee, i0⟩ => by
    subst ee
    cases he with
    | @tup a xs _ ha hr =>
    have hlen := hr.len
    refine ⟨a, rfl, ⟨xs, SqT.of (st1.res.sub _ _ ha)⟩, for_tup (K := c.K) (a := a) (xs := xs) (fun i σ' H' => ∃ F' ρ' R', Stp F1 H1 R1 F' H' R' ∧ Sta c.K F' H' σ' ρ' R' ∧ Inv i ρ' R') ⟨F1, ρ, R1, .rfl, st1, i0⟩ ?_ ?_ ?_⟩
    · rintro i σ' H' _ ⟨F', ρ', R', s', st', _⟩
      exact SqT.of (st'.res.sub _ _ (s'.sub _ _ ha))
    · rintro i v σ' H' hv ⟨F', ρ', R', s', st', iv⟩
      obtain ⟨dd, hd1, hd2⟩ := getPD hr hv
      refine hs i dd ρ' R' hd1 iv F' H' σ' v _ st' (rp_sub s'.sub _ _ hd2) fun σ2 ρ2 st2 _ w2 => ?_
      exact w2 F' H' σ2 _ st2 ((x.sub s1).sub s') ⟨fun s3 st3 w => ⟨_, _, _, s'.tr s3, st3, w⟩, fun s3 => d.rt (s1.tr (s'.tr s3)), fun s3 st3 w => d.nx (s1.tr (s'.tr s3)) st3 w, fun s3 st3 w => ⟨_, _, _, s'.tr s3, st3, w⟩⟩
    · rintro σ' H' ⟨F', ρ', R', s', st', iv⟩
      rw [hlen] at iv
      exact d.nx (s1.tr s') st' (hd _ _ iv)
/-- range(n) -/
theorem sv_forR1 {ta : TA} {j : Nat} (n : Int) (Inv : Nat → Rho → List Res → Prop) (h : EvA c ta ρ R fun es R1 => es = [.d (.int n)] ∧ Inv 0 ρ R1) (hn : -(2 ^ 62) ≤ n ∧ n < 2 ^ 62)
    (hs : ∀ (i : Nat) ρ' R', (i : Int) < n → Inv i ρ' R' → Sv c t (ρ'.set j (some (.d (.int (i : Int))))) R' { P with nx := Inv (i + 1), ct := Inv (i + 1), bk := P.nx })
    (hd : ∀ ρ' R', Inv n.toNat ρ' R' → P.nx ρ' R') : Sv c (tFor (iRng1 ta) (gName j) t) ρ R P := fun F H σ D st x d =>
  h F H σ _ st x fun vs es F1 H1 R1 s1 st1 he ⟨ee, i0⟩ => by
    subst ee
    cases he with
    | cons h1 t1 =>
    cases t1
    cases h1
    refine ⟨n, rfl, hn.1, hn.2, for_range (lo := 0) (n := n.toNat) (fun i σ' H' => ∃ F' ρ' R', Stp F1 H1 R1 F' H' R' ∧ Sta c.K F' H' σ' ρ' R' ∧ Inv i ρ' R') ⟨F1, ρ, R1, .rfl, st1, i0⟩ ?_ ?_⟩
    · rintro i σ' H' hi ⟨F', ρ', R', s', st', iv⟩
      have e0 : (0 : Int) + (i : Int) = (i : Int) := by omega
      rw [e0]
      exact hs i ρ' R' (by omega) iv F' H' _ _ (st'.set (eD (Rp.int _))) ((x.sub s1).sub s') ⟨fun s3 st3 w => ⟨_, _, _, s'.tr s3, st3, w⟩, fun s3 => d.rt (s1.tr (s'.tr s3)), fun s3 st3 w => d.nx (s1.tr (s'.tr s3)) st3 w, fun s3 st3 w => ⟨_, _, _, s'.tr s3, st3, w⟩⟩
    · rintro σ' H' ⟨F', ρ', R', s', st', iv⟩
      exact d.nx (s1.tr s') st' (hd _ _ iv)
/-- range(lo, hi) -/
theorem sv_forR2 {ta : TA} {j : Nat} (lo n : Int) (Inv : Nat → Rho → List Res → Prop) (h : EvA c ta ρ R fun es R1 => es = [.d (.int lo), .d (.int n)] ∧ Inv 0 ρ R1) (hn : -(2 ^ 62) ≤ lo ∧ lo < 2 ^ 62 ∧ -(2 ^ 62) ≤ n ∧ n < 2 ^ 62)
    (hs : ∀ (i : Nat) ρ' R', lo + (i : Int) < n → Inv i ρ' R' → Sv c t (ρ'.set j (some (.d (.int (lo + (i : Int)))))) R' { P with nx := Inv (i + 1), ct := Inv (i + 1), bk := P.nx })
    (hd : ∀ ρ' R', Inv (n - lo).toNat ρ' R' → P.nx ρ' R') : Sv c (tFor (iRng2 ta) (gName j) t) ρ R P := fun F H σ D st x d =>
  h F H σ _ st x fun vs es F1 H1 R1 s1 st1 he ⟨ee, i0⟩ => by
    subst ee
    cases he with
    | cons h1 t1 =>
    cases t1 with
    | cons h2 t2 =>
    cases t2
    cases h1
    cases h2
    refine ⟨lo, n, rfl, hn, for_range (lo := lo) (n := (n - lo).toNat) (fun i σ' H' => ∃ F' ρ' R', Stp F1 H1 R1 F' H' R' ∧ Sta c.K F' H' σ' ρ' R' ∧ Inv i ρ' R') ⟨F1, ρ, R1, .rfl, st1, i0⟩ ?_ ?_⟩
    · rintro i σ' H' hi ⟨F', ρ', R', s', st', iv⟩
      exact hs i ρ' R' (by omega) iv F' H' _ _ (st'.set (eD (Rp.int _))) ((x.sub s1).sub s') ⟨fun s3 st3 w => ⟨_, _, _, s'.tr s3, st3, w⟩, fun s3 => d.rt (s1.tr (s'.tr s3)), fun s3 st3 w => d.nx (s1.tr (s'.tr s3)) st3 w, fun s3 st3 w => ⟨_, _, _, s'.tr s3, st3, w⟩⟩
    · rintro σ' H' ⟨F', ρ', R', s', st', iv⟩
      exact d.nx (s1.tr s') st' (hd _ _ iv)
theorem sv_while {tc : TT} (Inv : Nat → Rho → List Res → Prop) (m : Nat) (h0 : Inv m ρ R)
    (hs : ∀ m ρ' R', Inv m ρ' R' → EvT c tc ρ' R' fun b R2 => if b = true then Sv c t ρ' R2 { P with nx := fun ρ3 R3 => ∃ k, k < m ∧ Inv k ρ3 R3, ct := fun ρ3 R3 => ∃ k, k < m ∧ Inv k ρ3 R3, bk := P.nx } else P.nx ρ' R2) : Sv c (tWhile tc t) ρ R P := fun F H σ D st x d => by
  refine ⟨fun m σ' H' => ∃ F' ρ' R', Stp F H R F' H' R' ∧ Sta c.K F' H' σ' ρ' R' ∧ Inv m ρ' R', ⟨m, F, ρ, R, .rfl, st, h0⟩, ?_⟩
  rintro m σ' H' ⟨F', ρ', R', s', st', iv⟩
  refine hs m ρ' R' iv F' H' σ' _ st' (x.sub s') fun b F2 H2 R2 s2 st2 w => ?_
  cases b with
  | true =>
    rw [if_pos rfl] at w ⊢
    refine ⟨fun σ3 H3 => ∃ k, k < m ∧ ∃ F3 ρ3 R3, Stp F H R F3 H3 R3 ∧ Sta c.K F3 H3 σ3 ρ3 R3 ∧ Inv k ρ3 R3, fun _ _ z => z, ?_⟩
    exact w F2 H2 σ' _ st2 ((x.sub s').sub s2) ⟨fun s3 st3 ⟨k, hk, w⟩ => ⟨k, hk, _, _, _, s'.tr (s2.tr s3), st3, w⟩, fun s3 => d.rt (s'.tr (s2.tr s3)), fun s3 st3 w => d.nx (s'.tr (s2.tr s3)) st3 w, fun s3 st3 ⟨k, hk, w⟩ => ⟨k, hk, _, _, _, s'.tr (s2.tr s3), st3, w⟩⟩
  | false =>
    rw [if_neg Bool.false_ne_true] at w ⊢
    exact d.nx (s'.tr s2) st2 w

end
/-! ### comprehensions -/
theorem ROk.offput {K : Frag} {F H : Hp} {R : List Res} {p : Addr} {o : HO} (x : ROk K F H R) (n : Off R p) (hf : F p = none) : ROk K F (upd H p o) R where
  sub a u e := by
    rw [upd_ne (ne_of_none e hf)]; exact x.sub a u e
  ok {i r} h := r.mono (x.ok h) Sub.rfl fun a ha u e => by
    rw [upd_ne (fun q => n h (by rw [← q]; exact ha))]; exact e
  fn h a ha := x.fn h a ha
  hn {i r} h a ha := by
    obtain ⟨u, e⟩ := x.hn h a ha
    exact ⟨u, by rw [upd_ne (fun q => n h (by rw [← q]; exact ha))]; exact e⟩
  dj := x.dj
theorem Stp.offput {F H F' H' : Hp} {R R' : List Res} {p : Addr} {o : HO} (s : Stp F H R F' H' R') (hp : H p = none) : Stp F H R F' (upd H' p o) R' :=
  ⟨s.sub, fun {a u} h n => let ⟨h1, n1⟩ := s.out h n; ⟨by rw [upd_ne (ne_of_none h hp)]; exact h1, n1⟩, fun f h n => s.new f h n⟩
/-- behind i turns of a comprehension: the list so far stands at D -/
def LcI (c : Ctx) (F1 H1 : Hp) (σ : L2.St) (ρ : Rho) (R1 : List Res) (D : Addr) (Inv : Nat → List PD → List Res → Prop) (i : Nat) (H' : Hp) : Prop :=
  ∃ F' R' acc vs', Stp F1 H1 R1 F' H' R' ∧ Sta c.K F' H' σ ρ R' ∧ Inv i acc R' ∧ acc.length ≤ i ∧ H' D = some (.lst vs') ∧ F' D = none ∧ RpA F' vs' acc ∧ Off R' D
theorem ROk.off {K : Frag} {F H : Hp} {R : List Res} {p : Addr} (x : ROk K F H R) (hp : H p = none) : Off R p := fun {i r} hr' hm => by
  obtain ⟨o, e⟩ := x.hn hr' p hm
  rw [hp] at e; cases e
section
variable {c : Ctx} {ρ : Rho} {R : List Res} {te : TE} {F1 H1 : Hp} {σ : L2.St} {R1 : List Res} {D : Addr} {Inv : Nat → List PD → List Res → Prop}
theorem lc0 (st : Sta c.K F1 H1 σ ρ R1) (hD : H1 D = none) (i0 : Inv 0 [] R1) : LcI c F1 H1 σ ρ R1 D Inv 0 (upd H1 D (.lst [])) :=
  ⟨F1, R1, [], [], Stp.rfl.offput hD, ⟨st.len, st.env, st.res.offput (st.res.off hD) (st.res.sub.none hD)⟩, i0, Nat.le_refl _, upd_same, st.res.sub.none hD, .nil, st.res.off hD⟩
theorem lc_turn {tt : TT} {ρ2 : Rho} {σ2 : L2.St} {i : Nat} {F' H' : Hp} {R' : List Res} {acc : List PD} {vs' : List V} (x : EOk c F1 H1 R1) (hD : H1 D = none) (_hh : LcI c F1 H1 σ ρ R1 D Inv i H') (s' : Stp F1 H1 R1 F' H' R') (st' : Sta c.K F' H' σ ρ R')
    (hai : acc.length ≤ i) (hD' : H' D = some (.lst vs')) (hF' : F' D = none) (hr' : RpA F' vs' acc) (off : Off R' D) (st2 : Sta c.K F' H' σ2 ρ2 R') (hi : i < 10000000)
    (w2 : EvT c tt ρ2 R' fun b R3 => if b = true then Ev c te ρ2 R3 fun e R4 => ∃ y, e = .d y ∧ Inv (i + 1) (acc ++ [y]) R4 else Inv (i + 1) acc R3) :
    tt σ2 H' fun b H3 => if b = true then te σ2 H3 fun y H4 => ∃ a, H4 D = some (.lst a) ∧ a.length < sizeLine ∧ LcI c F1 H1 σ ρ R1 D Inv (i + 1) (upd H4 D (.lst (a ++ [y]))) else LcI c F1 H1 σ ρ R1 D Inv (i + 1) H3 := by
  refine w2 F' H' σ2 _ st2 (x.sub s') fun b F3 H3 R3 s3 st3 w3 => ?_
  obtain ⟨hD3, off3⟩ := s3.out hD' off
  have hF3 := s3.new hF' hD' off
  cases b with
  | true =>
    rw [if_pos rfl] at w3 ⊢
    refine w3 F3 H3 σ2 _ st3 ((x.sub s').sub s3) fun y e F4 H4 R4 s4 st4 he4 ⟨z, ez, w4⟩ => ?_
    subst ez
    obtain ⟨hD4, off4⟩ := s4.out hD3 off3
    have hF4 := s4.new hF3 hD3 off3
    have hl4 : vs'.length = acc.length := hr'.len
    have s6 := s'.tr (s3.tr s4)
    refine ⟨vs', hD4, Nat.lt_of_lt_of_le (by omega : vs'.length < 10000001) (by decide), F4, R4, acc ++ [z], vs' ++ [y], s6.offput hD, ?_, w4, by simp; omega, upd_same, hF4, (rpA_sub (s3.sub.tr s4.sub) _ _ hr').app (.cons he4 .nil), off4⟩
    have st5 := st'.step (s3.tr s4).sub st4.res
    exact ⟨st5.len, st5.env, st4.res.offput off4 hF4⟩
  | false =>
    rw [if_neg Bool.false_ne_true] at w3 ⊢
    exact ⟨F3, R3, acc, vs', s'.tr s3, st'.step s3.sub st3.res, w3, by omega, hD3, hF3, rpA_sub s3.sub _ _ hr', off3⟩
theorem lc_end {W : We} {F H F' H' : Hp} {R' : List Res} {acc : List PD} {vs' : List V} {Q : VK} (s1 : Stp F H R F1 H1 R1) (hD : H1 D = none) (s' : Stp F1 H1 R1 F' H' R') (st' : Sta c.K F' H' σ ρ R') (hD' : H' D = some (.lst vs')) (hF' : F' D = none) (hr' : RpA F' vs' acc) (off : Off R' D)
    (q : ∀ v e F' H' R', Stp F H R F' H' R' → Sta c.K F' H' σ ρ R' → EntOk F' v e → W e R' → Q v H') (w : W (.d (.list acc)) R') : Q (.ref D) H' := by
  have hs : Sub F' (upd F' D (.lst vs')) := .put hF'
  have s2 : Sub (upd F' D (.lst vs')) H' := fun a o e => by
    by_cases g : a = D
    · subst g; rw [upd_same] at e; rw [hD']; exact e
    · rw [upd_ne g] at e; exact st'.res.sub a o e
  have n : ∀ {r : Res} {i : Nat}, R'[i]? = some r → ∀ a ∈ r.fp, a ≠ D := fun {r i} hr a ha e => off hr (by rw [← e]; exact ha)
  have r : ROk c.K (upd F' D (.lst vs')) H' R' := ⟨s2, fun {i r} h => r.mono (st'.res.ok h) hs fun _ _ _ e => e, fun {i r} h a ha => by rw [upd_ne (n h a ha)]; exact st'.res.fn h a ha, fun h a ha => st'.res.hn h a ha, st'.res.dj⟩
  refine q _ _ _ H' R' (s1.tr ⟨s'.sub.tr hs, s'.out, fun {a o} f h no => ?_⟩) (st'.step hs r) (eD (Rp.lst upd_same (rpA_sub hs _ _ hr'))) w
  rw [upd_ne (ne_of_none h hD)]
  exact s'.new f h no
end
section
variable {c : Ctx} {ρ : Rho} {R : List Res} {te : TE}
theorem ev_lcL {tl : TE} {tt : TT} {vs : List Nat} {g : TG} {js : List Nat} {W : We} (ds : List PD) (Inv : Nat → List PD → List Res → Prop) (h : Ev c tl ρ R fun e R1 => e = .d (.list ds) ∧ Inv 0 [] R1) (hl : ds.length ≤ 10000000) (hj : ∀ j ∈ js, j ∈ vs)
    (hs : ∀ i x acc R', ds[i]? = some x → Inv i acc R' → acc.length ≤ i → Tg c js g x (wipeR ρ vs) R' fun ρ2 => EvT c tt ρ2 R' fun b R3 => if b = true then Ev c te ρ2 R3 fun e R4 => ∃ y, e = .d y ∧ Inv (i + 1) (acc ++ [y]) R4 else Inv (i + 1) acc R3)
    (hd : ∀ acc R', Inv ds.length acc R' → acc.length ≤ ds.length → W (.d (.list acc)) R') : Ev c (tLc (iList c.K tl) g tt te vs) ρ R W := fun F H σ Q st x q =>
  h F H σ _ st x fun v e F1 H1 R1 s1 st1 he ⟨ee, i0⟩ => by
    subst ee
    cases he with
    | @lst a xs _ ha hr =>
    have hlen := hr.len
    refine ⟨a, rfl, ⟨xs, SqL.of (st1.res.sub _ _ ha)⟩, fun D hD => ?_⟩
    refine lc_list (K := c.K) (a := a) (xs := xs) (LcI c F1 H1 σ ρ R1 D Inv) (lc0 st1 hD i0) ?_ ?_ ?_
    · rintro i H' _ ⟨F', R', acc, vs', s', st', _⟩
      exact SqL.of (st'.res.sub _ _ (s'.sub _ _ ha))
    · rintro i v H' hv ⟨F', R', acc, vs', s', st', iv, hai, hD', hF', hr', off⟩
      obtain ⟨dd, hd1, hd2⟩ := getPD hr hv
      have hil := (List.getElem?_eq_some_iff.mp hv).1
      refine hs i dd acc R' hd1 iv hai F' H' _ v _ (st'.wipe vs) (rp_sub s'.sub _ _ hd2) fun σ2 ρ2 st2 hw w2 => ⟨by rw [hw vs hj, wipe_wipe], ?_⟩
      exact lc_turn (x.sub s1) hD ⟨F', R', acc, vs', s', st', iv, hai, hD', hF', hr', off⟩ s' st' hai hD' hF' hr' off st2 (by omega) w2
    · rintro H' ⟨F', R', acc, vs', s', st', iv, hai, hD', hF', hr', off⟩
      rw [hlen] at iv hai
      exact lc_end s1 hD s' st' hD' hF' hr' off (fun z e F2 H2 R2 s2 st2 he2 w => q z e F2 H2 R2 s2 st2 he2 w) (hd acc R' iv hai)
theorem ev_lcT {tl : TE} {tt : TT} {vs : List Nat} {g : TG} {js : List Nat} {W : We} (ds : List PD) (Inv : Nat → List PD → List Res → Prop) (h : Ev c tl ρ R fun e R1 => e = .d (.tuple ds) ∧ Inv 0 [] R1) (hl : ds.length ≤ 10000000) (hj : ∀ j ∈ js, j ∈ vs)
    (hs : ∀ i x acc R', ds[i]? = some x → Inv i acc R' → acc.length ≤ i → Tg c js g x (wipeR ρ vs) R' fun ρ2 => EvT c tt ρ2 R' fun b R3 => if b = true then Ev c te ρ2 R3 fun e R4 => ∃ y, e = .d y ∧ Inv (i + 1) (acc ++ [y]) R4 else Inv (i + 1) acc R3)
    (hd : ∀ acc R', Inv ds.length acc R' → acc.length ≤ ds.length → W (.d (.list acc)) R') : Ev c (tLc (iTup c.K tl) g tt te vs) ρ R W := fun F H σ Q st x q =>
  h F H σ _ st x fun v e F1 H1 R1 s1 st1 he ⟨ee, i0⟩ => by
    subst ee
    cases he with
    | @tup a xs _ ha hr =>
    have hlen := hr.len
    refine ⟨a, rfl, ⟨xs, SqT.of (st1.res.sub _ _ ha)⟩, fun D hD => ?_⟩
    refine lc_tup (K := c.K) (a := a) (xs := xs) (LcI c F1 H1 σ ρ R1 D Inv) (lc0 st1 hD i0) ?_ ?_ ?_
    · rintro i H' _ ⟨F', R', acc, vs', s', st', _⟩
      exact SqT.of (st'.res.sub _ _ (s'.sub _ _ ha))
    · rintro i v H' hv ⟨F', R', acc, vs', s', st', iv, hai, hD', hF', hr', off⟩
      obtain ⟨dd, hd1, hd2⟩ := getPD hr hv
      have hil := (List.getElem?_eq_some_iff.mp hv).1
      refine hs i dd acc R' hd1 iv hai F' H' _ v _ (st'.wipe vs) (rp_sub s'.sub _ _ hd2) fun σ2 ρ2 st2 hw w2 => ⟨by rw [hw vs hj, wipe_wipe], ?_⟩
      exact lc_turn (x.sub s1) hD ⟨F', R', acc, vs', s', st', iv, hai, hD', hF', hr', off⟩ s' st' hai hD' hF' hr' off st2 (by omega) w2
    · rintro H' ⟨F', R', acc, vs', s', st', iv, hai, hD', hF', hr', off⟩
      rw [hlen] at iv hai
      exact lc_end s1 hD s' st' hD' hF' hr' off (fun z e F2 H2 R2 s2 st2 he2 w => q z e F2 H2 R2 s2 st2 he2 w) (hd acc R' iv hai)
/-- over range(n) -/
theorem ev_lcR1 {ta : TA} {tt : TT} {vs : List Nat} {j : Nat} {W : We} (n : Int) (Inv : Nat → List PD → List Res → Prop) (h : EvA c ta ρ R fun es R1 => es = [.d (.int n)] ∧ Inv 0 [] R1) (hn : -(2 ^ 62) ≤ n ∧ n ≤ 10000000) (hj : j ∈ vs)
    (hs : ∀ (i : Nat) acc R', (i : Int) < n → Inv i acc R' → acc.length ≤ i → EvT c tt ((wipeR ρ vs).set j (some (.d (.int (i : Int))))) R' fun b R3 => if b = true then Ev c te ((wipeR ρ vs).set j (some (.d (.int (i : Int))))) R3 fun e R4 => ∃ y, e = .d y ∧ Inv (i + 1) (acc ++ [y]) R4 else Inv (i + 1) acc R3)
    (hd : ∀ acc R', Inv n.toNat acc R' → acc.length ≤ n.toNat → W (.d (.list acc)) R') : Ev c (tLc (iRng1 ta) (gName j) tt te vs) ρ R W := fun F H σ Q st x q =>
  h F H σ _ st x fun v e F1 H1 R1 s1 st1 he ⟨ee, i0⟩ => by
    subst ee
    cases he with
    | cons h1 t1 =>
    cases t1
    cases h1
    refine ⟨n, rfl, hn.1, by omega, fun D hD => ?_⟩
    refine lc_range (lo := 0) (n := n.toNat) (LcI c F1 H1 σ ρ R1 D Inv) (lc0 st1 hD i0) ?_ ?_
    · rintro i H' hi ⟨F', R', acc, vs', s', st', iv, hai, hD', hF', hr', off⟩
      have e0 : (0 : Int) + (i : Int) = (i : Int) := by omega
      rw [e0]
      refine ⟨by rw [wipe_set hj, wipe_wipe], ?_⟩
      exact lc_turn (x.sub s1) hD ⟨F', R', acc, vs', s', st', iv, hai, hD', hF', hr', off⟩ s' st' hai hD' hF' hr' off ((st'.wipe vs).set (eD (Rp.int _))) (by omega) (hs i acc R' (by omega) iv hai)
    · rintro H' ⟨F', R', acc, vs', s', st', iv, hai, hD', hF', hr', off⟩
      exact lc_end s1 hD s' st' hD' hF' hr' off (fun z e F2 H2 R2 s2 st2 he2 w => q z e F2 H2 R2 s2 st2 he2 w) (hd acc R' iv hai)
/-- over range(lo, n) -/
theorem ev_lcR2 {ta : TA} {tt : TT} {vs : List Nat} {j : Nat} {W : We} (lo n : Int) (Inv : Nat → List PD → List Res → Prop) (h : EvA c ta ρ R fun es R1 => es = [.d (.int lo), .d (.int n)] ∧ Inv 0 [] R1) (hn : 0 ≤ lo ∧ lo ≤ 10000000 ∧ 0 ≤ n ∧ n ≤ 10000000) (hj : j ∈ vs)
    (hs : ∀ (i : Nat) acc R', lo + (i : Int) < n → Inv i acc R' → acc.length ≤ i → EvT c tt ((wipeR ρ vs).set j (some (.d (.int (lo + (i : Int)))))) R' fun b R3 => if b = true then Ev c te ((wipeR ρ vs).set j (some (.d (.int (lo + (i : Int)))))) R3 fun e R4 => ∃ y, e = .d y ∧ Inv (i + 1) (acc ++ [y]) R4 else Inv (i + 1) acc R3)
    (hd : ∀ acc R', Inv (n - lo).toNat acc R' → acc.length ≤ (n - lo).toNat → W (.d (.list acc)) R') : Ev c (tLc (iRng2 ta) (gName j) tt te vs) ρ R W := fun F H σ Q st x q =>
  h F H σ _ st x fun v e F1 H1 R1 s1 st1 he ⟨ee, i0⟩ => by
    subst ee
    cases he with
    | cons h1 t1 =>
    cases t1 with
    | cons h2 t2 =>
    cases t2
    cases h1
    cases h2
    refine ⟨lo, n, rfl, ⟨by omega, by omega, by omega, by omega⟩, fun D hD => ?_⟩
    refine lc_range (lo := lo) (n := (n - lo).toNat) (LcI c F1 H1 σ ρ R1 D Inv) (lc0 st1 hD i0) ?_ ?_
    · rintro i H' hi ⟨F', R', acc, vs', s', st', iv, hai, hD', hF', hr', off⟩
      refine ⟨by rw [wipe_set hj, wipe_wipe], ?_⟩
      exact lc_turn (x.sub s1) hD ⟨F', R', acc, vs', s', st', iv, hai, hD', hF', hr', off⟩ s' st' hai hD' hF' hr' off ((st'.wipe vs).set (eD (Rp.int _))) (by omega) (hs i acc R' (by omega) iv hai)
    · rintro H' ⟨F', R', acc, vs', s', st', iv, hai, hD', hF', hr', off⟩
      exact lc_end s1 hD s' st' hD' hF' hr' off (fun z e F2 H2 R2 s2 st2 he2 w => q z e F2 H2 R2 s2 st2 he2 w) (hd acc R' iv hai)
theorem et_yes {W : Bool → List Res → Prop} (k : W true R) : EvT c tYes ρ R W := fun F H σ Q st x q => q true F H R .rfl st k
end
end SE
end
section
set_option Elab.async false
set_option linter.all false
set_option maxRecDepth 100000
set_option maxHeartbeats 4000000
namespace SE
open PySem PySem.Spec PyProof.Rows L2

/-! ### names for readings, and the rules behind them -/
def rIi (f : Int → Int → Int) : R2 := rI0 fun i j => .int (f i j)
def rIb (f : Int → Int → Bool) : R2 := rI0 fun i j => .bl (f i j)
def rIc (C : Int → Int → Prop) (f : Int → Int → Int) : R2 := rI C fun i j => .int (f i j)
section
variable {X : Cx}
theorem x_add : OpR X (binaryOp .Add) (rIi fun i j => i + j) := op_add
theorem x_sub : OpR X (binaryOp .Sub) (rIi fun i j => i - j) := op_sub
theorem x_mul : OpR X (binaryOp .Mult) (rIc CMulW fun i j => i * j) := op_mulW
theorem x_fdiv : OpR X (binaryOp .FloorDiv) (rIc CDivW fun i j => i / j) := op_fdivW
theorem x_mod : OpR X (binaryOp .Mod) (rIc (fun _ j => 0 < j) fun i j => i % j) := op_mod
theorem x_pow : OpR X (binaryOp .Pow) (rIc CPow fun i j => i ^ j.toNat) := op_pow
theorem x_lt : OpR X (compareOp .Lt) (rIb fun i j => decide (i < j)) := op_lt
theorem x_le : OpR X (compareOp .LtE) (rIb fun i j => decide (i ≤ j)) := op_le
theorem x_gt : OpR X (compareOp .Gt) (rIb fun i j => decide (j < i)) := op_gt
theorem x_ge : OpR X (compareOp .GtE) (rIb fun i j => decide (j ≤ i)) := op_ge
def rNegI : V → Hp → VK → Prop := rU fun i => .int (-i)
theorem x_neg : UnR X (unaryOp .USub) rNegI := un_neg
def rSAdd2 : R2 := fun x y H Q => ∃ i j, x = .str i ∧ y = .str j ∧ i.length + j.length ≤ sizeLine ∧ Q (.str (i ++ j)) H
theorem x_addS : OpR X (binaryOp .Add) rSAdd2 := op_add_str
def rLenX (K : Frag) : List V → Hp → VK → Prop := fun xs H Q => ∃ x n, xs = [x] ∧ LenV K x H n ∧ Q (.int (n : Nat)) H
theorem x_len : CallR X (.builtin "len") (rLenX X.K) := call_len
def rInt1 : List V → Hp → VK → Prop := fun xs H Q => (∃ i, xs = [.int i] ∧ Q (.int i) H) ∨ ∃ k, xs = [.bl k] ∧ Q (.int (if k then 1 else 0)) H
theorem x_int : CallR X (.type "int") rInt1 := call_int1
def rIntS : List V → Hp → VK → Prop := fun xs H Q => ∃ a n, xs = [.str a] ∧ PySem.intText? a = some n ∧ a.length ≤ 640 ∧ Q (.int n) H
theorem x_intS : CallR X (.type "int") rIntS := call_int_str
def rMax2I : List V → Hp → VK → Prop := fun xs H Q => ∃ i j, xs = [.int i, .int j] ∧ Q (.int (if j > i then j else i)) H
def rMin2I : List V → Hp → VK → Prop := fun xs H Q => ∃ i j, xs = [.int i, .int j] ∧ Q (.int (if j < i then j else i)) H
theorem x_max2 (hc : X.calm = true) : CallR X (.builtin "max") rMax2I := call_max2 hc
theorem x_min2 (hc : X.calm = true) : CallR X (.builtin "min") rMin2I := call_min2 hc
def rListOf (K : Frag) : List V → Hp → VK → Prop := fun xs H Q => ∃ p ys, xs = [.ref p] ∧ (SqL K H p ys ∨ SqT K H p ys) ∧ ∀ l, H l = none → Q (.ref l) (upd H l (.lst ys))
theorem x_list : CallR X (.type "list") (rListOf X.K) := call_list_of
def rInsertX : V → List V → Hp → VK → Prop := fun x vs H Q => ∃ (l : Addr) (xs : List V) (i : Int) (y : V), x = .ref l ∧ vs = [.int i, y] ∧ H l = some (.lst xs) ∧ xs.length < sizeLine ∧ 0 ≤ i ∧ i < 2 ^ 63 ∧
    Q .non (upd H l (.lst (xs.take i.toNat ++ [y] ++ xs.drop i.toNat)))
theorem x_insert : MtR X "list.insert" rInsertX := mt_insert
end

section
variable {c : Ctx} {R : List Res} {W : We}
/-- an operation that changes nothing and makes nothing -/
theorem o2_pure {r : R2} {x y e : Ent} (h : ∀ F H v w, ROk c.K F H R → EntOk F v x → EntOk F w y → ∃ u, EntOk F u e ∧ ∀ Q : VK, Q u H → r v w H Q) (k : W e R) : Op2 c r x y R W := fun F H v w Q ro eo hx hy q => by
  obtain ⟨u, hu, f⟩ := h F H v w ro hx hy
  exact f Q (q u e F H R .rfl ro hu k)
theorem oL_pure {r : List V → Hp → VK → Prop} {xs : List Ent} {e : Ent} (h : ∀ F H vs, ROk c.K F H R → Ents F vs xs → ∃ u, EntOk F u e ∧ ∀ Q : VK, Q u H → r vs H Q) (k : W e R) : OpL c r xs R W := fun F H vs Q ro eo hx q => by
  obtain ⟨u, hu, f⟩ := h F H vs ro hx
  exact f Q (q u e F H R .rfl ro hu k)
theorem o_ii {f : Int → Int → Int} {i j : Int} (k : W (.d (.int (f i j))) R) : Op2 c (rIi f) (.d (.int i)) (.d (.int j)) R W :=
  o2_pure (fun F H v w ro hx hy => by cases hx; cases hy; exact ⟨_, eD (Rp.int _), fun Q q => ⟨i, j, rfl, rfl, q⟩⟩) k
theorem o_ib {f : Int → Int → Bool} {i j : Int} (k : W (.d (.bool (f i j))) R) : Op2 c (rIb f) (.d (.int i)) (.d (.int j)) R W :=
  o2_pure (fun F H v w ro hx hy => by cases hx; cases hy; exact ⟨_, eD (Rp.bl _), fun Q q => ⟨i, j, rfl, rfl, q⟩⟩) k
theorem o_ic {C : Int → Int → Prop} {f : Int → Int → Int} {i j : Int} (hc : C i j) (k : W (.d (.int (f i j))) R) : Op2 c (rIc C f) (.d (.int i)) (.d (.int j)) R W :=
  o2_pure (fun F H v w ro hx hy => by cases hx; cases hy; exact ⟨_, eD (Rp.int _), fun Q q => ⟨i, j, rfl, rfl, hc, q⟩⟩) k
theorem o_neg {i : Int} (k : W (.d (.int (-i))) R) : Op1 c rNegI (.d (.int i)) R W := fun F H v Q ro eo hx q => by
  cases hx
  exact ⟨i, rfl, q _ _ F H R .rfl ro (eD (Rp.int _)) k⟩
theorem o_addS {i j : Str} (h : i.length + j.length ≤ 10000000) (k : W (.d (.str (i ++ j))) R) : Op2 c rSAdd2 (.d (.str i)) (.d (.str j)) R W :=
  o2_pure (fun F H v w ro hx hy => by cases hx; cases hy; exact ⟨_, eD (Rp.str _), fun Q q => ⟨i, j, rfl, rfl, Nat.le_trans h (by decide), q⟩⟩) k
/-- == of scalars -/
def sc : PD → Option V
  | .none => some .non
  | .bool b => some (.bl b)
  | .int i => some (.int i)
  | .str x => some (.str x)
  | _ => none
theorem sc_v {F : Hp} {v w : V} : ∀ {x : PD}, Rp F v x → sc x = some w → v = w
  | .none, h, e => by cases h; cases e; rfl
  | .bool _, h, e => by cases h; cases e; rfl
  | .int _, h, e => by cases h; cases e; rfl
  | .str _, h, e => by cases h; cases e; rfl
theorem o_eq {x y : PD} {v w : V} (hx : sc x = some v) (hy : sc y = some w) (hs : scal v w = true) (k : W (.d (.bool (decide (v = w)))) R) : Op2 c rEq (.d x) (.d y) R W :=
  o2_pure (fun F H a b ro ha hb => ⟨_, eD (Rp.bl _), fun Q q => by rw [sc_v ha hx, sc_v hb hy]; exact ⟨hs, q⟩⟩) k
theorem o_ne {x y : PD} {v w : V} (hx : sc x = some v) (hy : sc y = some w) (hs : scal v w = true) (k : W (.d (.bool (!decide (v = w)))) R) : Op2 c rNe (.d x) (.d y) R W :=
  o2_pure (fun F H a b ro ha hb => ⟨_, eD (Rp.bl _), fun Q q => by rw [sc_v ha hx, sc_v hb hy]; exact ⟨hs, q⟩⟩) k
theorem dI (i j : Int) : decide (V.int i = V.int j) = decide (i = j) := by by_cases h : i = j <;> simp [h]
theorem dS (i j : Str) : decide (V.str i = V.str j) = decide (i = j) := by by_cases h : i = j <;> simp [h]
theorem o_eqI {i j : Int} (k : W (.d (.bool (decide (i = j)))) R) : Op2 c rEq (.d (.int i)) (.d (.int j)) R W := o_eq rfl rfl rfl (by rw [dI]; exact k)
theorem o_neI {i j : Int} (k : W (.d (.bool (!decide (i = j)))) R) : Op2 c rNe (.d (.int i)) (.d (.int j)) R W := o_ne rfl rfl rfl (by rw [dI]; exact k)
theorem o_eqS {i j : Str} (k : W (.d (.bool (decide (i = j)))) R) : Op2 c rEq (.d (.str i)) (.d (.str j)) R W := o_eq rfl rfl rfl (by rw [dS]; exact k)
theorem o_neS {i j : Str} (k : W (.d (.bool (!decide (i = j)))) R) : Op2 c rNe (.d (.str i)) (.d (.str j)) R W := o_ne rfl rfl rfl (by rw [dS]; exact k)
/-- == of data -/
theorem o_eqD {x y : PD} (hx : SeqAt.shaped x = true) (hy : SeqAt.shaped y = true) (k : W (.d (.bool (PyData.eqv x y))) R) : Op2 c (rEqD c.K) (.d x) (.d y) R W :=
  o2_pure (fun F H a b ro ha hb => ⟨_, eD (Rp.bl _), fun Q q => ⟨x, y, rp_dp _ _ (rp_sub ro.sub _ _ ha), rp_dp _ _ (rp_sub ro.sub _ _ hb), hx, hy, q⟩⟩) k
theorem o_neD {x y : PD} (hx : SeqAt.shaped x = true) (hy : SeqAt.shaped y = true) (k : W (.d (.bool (!PyData.eqv x y))) R) : Op2 c (rNeD c.K) (.d x) (.d y) R W :=
  o2_pure (fun F H a b ro ha hb => ⟨_, eD (Rp.bl _), fun Q q => ⟨x, y, rp_dp _ _ (rp_sub ro.sub _ _ ha), rp_dp _ _ (rp_sub ro.sub _ _ hb), hx, hy, q⟩⟩) k
def isNone : PD → Bool
  | .none => true
  | _ => false
theorem non_v {F : Hp} {v : V} {x : PD} (h : Rp F v x) : decide (v = .non) = isNone x := by cases h <;> rfl
theorem o_isN {x : PD} (k : W (.d (.bool (isNone x))) R) : Op2 c rIsN (.d x) (.d .none) R W :=
  o2_pure (fun F H a b ro ha hb => ⟨_, eD (Rp.bl _), fun Q q => by cases hb; exact ⟨rfl, by rw [non_v ha]; exact q⟩⟩) k
theorem o_notN {x : PD} (k : W (.d (.bool (!isNone x))) R) : Op2 c rNotN (.d x) (.d .none) R W :=
  o2_pure (fun F H a b ro ha hb => ⟨_, eD (Rp.bl _), fun Q q => by cases hb; exact ⟨rfl, by rw [non_v ha]; exact q⟩⟩) k
theorem o_isNP {a b : Ent} (k : W (.d (.bool false)) R) : Op2 c rIsN (.pair a b) (.d .none) R W :=
  o2_pure (fun F H v w ro ha hb => ⟨_, eD (Rp.bl false), fun Q q => by cases hb; obtain ⟨p, x, y, rfl, _⟩ := ha; exact ⟨rfl, q⟩⟩) k
/-! membership in lists and tuples of texts or ints -/
theorem rpA_strs {F : Hp} : ∀ {vs : List V} {ss : List Str}, RpA F vs (ss.map PyData.str) → vs = ss.map V.str
  | [], [], _ => rfl
  | _ :: _, _ :: _, .cons h t => by cases h; simp [rpA_strs t]
theorem rpA_ints {F : Hp} : ∀ {vs : List V} {ss : List Int}, RpA F vs (ss.map PyData.int) → vs = ss.map V.int
  | [], [], _ => rfl
  | _ :: _, _ :: _, .cons h t => by cases h; simp [rpA_ints t]
theorem rpA_bools {F : Hp} : ∀ {vs : List V} {ss : List Bool}, RpA F vs (ss.map PyData.bool) → vs = ss.map V.bl
  | [], [], _ => rfl
  | _ :: _, _ :: _, .cons h t => by cases h; simp [rpA_bools t]
theorem inS (x : Str) : ∀ ss : List Str, inV (.str x) (ss.map V.str) = decide (x ∈ ss)
  | [] => rfl
  | s :: ss => by
    have ih := inS x ss
    unfold inV at ih ⊢
    rw [List.map_cons, List.any_cons, ih]
    by_cases h : s = x
    · subst h; simp [eqV]
    · have h2 : ¬ x = s := fun e => h e.symm
      simp [eqV, h, h2]
theorem inI (x : Int) : ∀ ss : List Int, inV (.int x) (ss.map V.int) = decide (x ∈ ss)
  | [] => rfl
  | s :: ss => by
    have ih := inI x ss
    unfold inV at ih ⊢
    rw [List.map_cons, List.any_cons, ih]
    by_cases h : s = x
    · subst h; simp [eqV]
    · have h2 : ¬ x = s := fun e => h e.symm
      simp [eqV, h, h2]
theorem flatS (ss : List Str) : (ss.map V.str).all flatV = true := by simp [List.all_map, List.all_eq_true, flatV]
theorem flatI (ss : List Int) : (ss.map V.int).all flatV = true := by simp [List.all_map, List.all_eq_true, flatV]
theorem o_inSL {neg : Bool} {x : Str} (ss : List Str) (k : W (.d (.bool (if neg then !decide (x ∈ ss) else decide (x ∈ ss)))) R) : Op2 c (rIn c.K neg) (.d (.str x)) (.d (.list (ss.map .str))) R W :=
  o2_pure (fun F H a b ro ha hb => ⟨_, eD (Rp.bl _), fun Q q => by
    cases ha
    cases hb with
    | lst hs hr =>
      have e := rpA_strs hr
      subst e
      exact ⟨_, _, rfl, .inl (SqL.of (ro.sub _ _ hs)), rfl, flatS ss, by rw [inS]; exact q⟩⟩) k
theorem o_inST {neg : Bool} {x : Str} (ss : List Str) (k : W (.d (.bool (if neg then !decide (x ∈ ss) else decide (x ∈ ss)))) R) : Op2 c (rIn c.K neg) (.d (.str x)) (.d (.tuple (ss.map .str))) R W :=
  o2_pure (fun F H a b ro ha hb => ⟨_, eD (Rp.bl _), fun Q q => by
    cases ha
    cases hb with
    | tup hs hr =>
      have e := rpA_strs hr
      subst e
      exact ⟨_, _, rfl, .inr (SqT.of (ro.sub _ _ hs)), rfl, flatS ss, by rw [inS]; exact q⟩⟩) k
theorem o_inIL {neg : Bool} {x : Int} (ss : List Int) (k : W (.d (.bool (if neg then !decide (x ∈ ss) else decide (x ∈ ss)))) R) : Op2 c (rIn c.K neg) (.d (.int x)) (.d (.list (ss.map .int))) R W :=
  o2_pure (fun F H a b ro ha hb => ⟨_, eD (Rp.bl _), fun Q q => by
    cases ha
    cases hb with
    | lst hs hr =>
      have e := rpA_ints hr
      subst e
      exact ⟨_, _, rfl, .inl (SqL.of (ro.sub _ _ hs)), rfl, flatI ss, by rw [inI]; exact q⟩⟩) k
theorem o_inIT {neg : Bool} {x : Int} (ss : List Int) (k : W (.d (.bool (if neg then !decide (x ∈ ss) else decide (x ∈ ss)))) R) : Op2 c (rIn c.K neg) (.d (.int x)) (.d (.tuple (ss.map .int))) R W :=
  o2_pure (fun F H a b ro ha hb => ⟨_, eD (Rp.bl _), fun Q q => by
    cases ha
    cases hb with
    | tup hs hr =>
      have e := rpA_ints hr
      subst e
      exact ⟨_, _, rfl, .inr (SqT.of (ro.sub _ _ hs)), rfl, flatI ss, by rw [inI]; exact q⟩⟩) k
theorem o_inIR {neg : Bool} {x : Int} {p : Addr} {i : Nat} (ss : List Int) (hi : R[i]? = some (rLst p (ss.map .int))) (k : W (.d (.bool (if neg then !decide (x ∈ ss) else decide (x ∈ ss)))) R) : Op2 c (rIn c.K neg) (.d (.int x)) (.v (.ref p)) R W :=
  o2_pure (fun F H a b ro ha hb => ⟨_, eD (Rp.bl _), fun Q q => by
    cases ha
    cases hb
    obtain ⟨vs, h1, h2⟩ := ro.ok hi
    have e := rpA_ints h2
    subst e
    exact ⟨_, _, rfl, .inl (SqL.of h1), rfl, flatI ss, by rw [inI]; exact q⟩⟩) k
/-- one sign in a text -/
theorem o_inTx {n : Nat} {z : Str} (k : W (.d (.bool (decide (n ∈ z.cps.toList)))) R) : Op2 c rInS (.d (.str ⟨#[n]⟩)) (.d (.str z)) R W :=
  o2_pure (fun F H a b ro ha hb => ⟨_, eD (Rp.bl _), fun Q q => by cases ha; cases hb; exact ⟨n, z, rfl, rfl, q⟩⟩) k
theorem o_niTx {n : Nat} {z : Str} (k : W (.d (.bool (!decide (n ∈ z.cps.toList)))) R) : Op2 c rNotInS (.d (.str ⟨#[n]⟩)) (.d (.str z)) R W :=
  o2_pure (fun F H a b ro ha hb => ⟨_, eD (Rp.bl _), fun Q q => by cases ha; cases hb; exact ⟨n, z, rfl, rfl, q⟩⟩) k
/-! subscripts -/
theorem atI_map {α β : Type} {xs : List α} {ys : List β} (hl : xs.length = ys.length) {i : Int} {y : β} (h : atI ys i = some y) : ∃ j : Nat, ys[j]? = some y ∧ ∀ x, xs[j]? = some x → atI xs i = some x := by
  unfold atI at h ⊢
  rw [hl]
  cases e : ixN ys.length i with
  | none => rw [e] at h; cases h
  | some j =>
    rw [e] at h
    exact ⟨j, h, fun x hx => hx⟩
theorem o_ixL {ds : List PD} {i : Int} {d : PD} (h : atI ds i = some d) (k : W (.d d) R) : Op2 c (rIx c.K) (.d (.list ds)) (.d (.int i)) R W := fun F H v w Q ro eo hx hy q => by
  cases hy
  cases hx with
  | @lst a xs _ hs hr =>
    obtain ⟨j, h1, h2⟩ := atI_map hr.len h
    obtain ⟨u, h3, h4⟩ := hr.get h1
    exact .inl ⟨a, xs, i, u, rfl, rfl, SqL.of (ro.sub _ _ hs), h2 u h3, q u _ F H R .rfl ro (eD h4) k⟩
theorem o_ixT {ds : List PD} {i : Int} {d : PD} (h : atI ds i = some d) (k : W (.d d) R) : Op2 c (rIx c.K) (.d (.tuple ds)) (.d (.int i)) R W := fun F H v w Q ro eo hx hy q => by
  cases hy
  cases hx with
  | @tup a xs _ hs hr =>
    obtain ⟨j, h1, h2⟩ := atI_map hr.len h
    obtain ⟨u, h3, h4⟩ := hr.get h1
    exact .inr (.inl ⟨a, xs, i, u, rfl, rfl, SqT.of (ro.sub _ _ hs), h2 u h3, q u _ F H R .rfl ro (eD h4) k⟩)
theorem o_ixS {z : Str} {i : Int} {n : Nat} (hl : z.length ≤ 10000000) (h : atI z.cps.toList i = some n) (k : W (.d (.str ⟨#[n]⟩)) R) : Op2 c (rIx c.K) (.d (.str z)) (.d (.int i)) R W := fun F H v w Q ro eo hx hy q => by
  cases hy
  cases hx
  exact .inr (.inr ⟨z, i, n, rfl, rfl, Nat.le_trans hl (by decide), h, q _ _ F H R .rfl ro (eD (Rp.str _)) k⟩)
theorem o_ixR {p : Addr} {j : Nat} {ds : List PD} {i : Int} {d : PD} (hj : R[j]? = some (rLst p ds)) (h : atI ds i = some d) (k : W (.d d) R) : Op2 c (rIx c.K) (.v (.ref p)) (.d (.int i)) R W := fun F H v w Q ro eo hx hy q => by
  cases hy
  cases hx
  obtain ⟨xs, g1, g2⟩ := ro.ok hj
  obtain ⟨j, h1, h2⟩ := atI_map g2.len h
  obtain ⟨u, h3, h4⟩ := g2.get h1
  exact .inl ⟨p, xs, i, u, rfl, rfl, SqL.of g1, h2 u h3, q u _ F H R .rfl ro (eD h4) k⟩
/-- the items of a pair of entries -/
theorem o_ixP0 {a b : Ent} (k : W a R) : Op2 c (rIx c.K) (.pair a b) (.d (.int 0)) R W := fun F H v w Q ro eo hx hy q => by
  cases hy
  obtain ⟨p, x, y, rfl, hp, ha, hb⟩ := hx
  exact .inr (.inl ⟨p, _, 0, x, rfl, rfl, SqT.of (ro.sub _ _ hp), rfl, q x _ F H R .rfl ro ha k⟩)
theorem o_ixP1 {a b : Ent} (k : W b R) : Op2 c (rIx c.K) (.pair a b) (.d (.int 1)) R W := fun F H v w Q ro eo hx hy q => by
  cases hy
  obtain ⟨p, x, y, rfl, hp, ha, hb⟩ := hx
  exact .inr (.inl ⟨p, _, 1, y, rfl, rfl, SqT.of (ro.sub _ _ hp), rfl, q y _ F H R .rfl ro hb k⟩)
/-! calls -/
theorem o_lenL {ds : List PD} (k : W (.d (.int (ds.length : Nat))) R) : OpL c (rLenX c.K) [.d (.list ds)] R W :=
  oL_pure (fun F H vs ro h => by
    cases h with
    | cons h1 t =>
    cases t
    cases h1 with
    | lst hs hr => exact ⟨_, eD (Rp.int _), fun Q q => ⟨_, _, rfl, .inl ⟨_, SqL.of (ro.sub _ _ hs), hr.len.symm⟩, q⟩⟩) k
theorem o_lenT {ds : List PD} (k : W (.d (.int (ds.length : Nat))) R) : OpL c (rLenX c.K) [.d (.tuple ds)] R W :=
  oL_pure (fun F H vs ro h => by
    cases h with
    | cons h1 t =>
    cases t
    cases h1 with
    | tup hs hr => exact ⟨_, eD (Rp.int _), fun Q q => ⟨_, _, rfl, .inr ⟨_, SqT.of (ro.sub _ _ hs), hr.len.symm⟩, q⟩⟩) k
theorem o_lenS {z : Str} (hl : z.length ≤ 10000000) (k : W (.d (.int (z.length : Nat))) R) : OpL c (rLenX c.K) [.d (.str z)] R W :=
  oL_pure (fun F H vs ro h => by
    cases h with
    | cons h1 t =>
    cases t
    cases h1
    exact ⟨_, eD (Rp.int _), fun Q q => ⟨_, _, rfl, ⟨Nat.le_trans hl (by decide), rfl⟩, q⟩⟩) k
theorem o_lenR {p : Addr} {j : Nat} {ds : List PD} (hj : R[j]? = some (rLst p ds)) (k : W (.d (.int (ds.length : Nat))) R) : OpL c (rLenX c.K) [.v (.ref p)] R W :=
  oL_pure (fun F H vs ro h => by
    cases h with
    | cons h1 t =>
    cases t
    cases h1
    obtain ⟨xs, g1, g2⟩ := ro.ok hj
    exact ⟨_, eD (Rp.int _), fun Q q => ⟨_, _, rfl, .inl ⟨_, SqL.of g1, g2.len.symm⟩, q⟩⟩) k
/-- the script: ints, known -/
def rScr (a : Addr) (ns : List Int) : Res := ⟨[], fun K F _ => SqL K F a (ns.map V.int), fun h s _ => sqL_sub s h⟩
theorem o_lenScr {p : Addr} {j : Nat} {ns : List Int} (hj : R[j]? = some (rScr p ns)) (k : W (.d (.int (ns.length : Nat))) R) : OpL c (rLenX c.K) [.v (.ref p)] R W :=
  oL_pure (fun F H vs ro h => by
    cases h with
    | cons h1 t =>
    cases t
    cases h1
    have g := ro.ok hj
    exact ⟨_, eD (Rp.int _), fun Q q => ⟨_, _, rfl, .inl ⟨_, sqL_sub ro.sub g, by rw [List.length_map]⟩, q⟩⟩) k
theorem o_ixScr {p : Addr} {j : Nat} {ns : List Int} {i n : Int} (hj : R[j]? = some (rScr p ns)) (h : atI ns i = some n) (k : W (.d (.int n)) R) : Op2 c (rIx c.K) (.v (.ref p)) (.d (.int i)) R W := fun F H v w Q ro eo hx hy q => by
  cases hy
  cases hx
  have g := ro.ok hj
  obtain ⟨j, h1, h2⟩ := atI_map (xs := ns.map V.int) (ys := ns) (by rw [List.length_map]) h
  exact .inl ⟨p, _, i, .int n, rfl, rfl, sqL_sub ro.sub g, h2 _ (by rw [List.getElem?_map, h1]; rfl), q _ _ F H R .rfl ro (eD (Rp.int n)) k⟩
theorem o_intI {i : Int} (k : W (.d (.int i)) R) : OpL c rInt1 [.d (.int i)] R W :=
  oL_pure (fun F H vs ro h => by
    cases h with
    | cons h1 t =>
    cases t
    cases h1
    exact ⟨_, eD (Rp.int _), fun Q q => .inl ⟨_, rfl, q⟩⟩) k
theorem o_intB {b : Bool} (k : W (.d (.int (if b then 1 else 0))) R) : OpL c rInt1 [.d (.bool b)] R W :=
  oL_pure (fun F H vs ro h => by
    cases h with
    | cons h1 t =>
    cases t
    cases h1
    exact ⟨_, eD (Rp.int _), fun Q q => .inr ⟨_, rfl, q⟩⟩) k
theorem o_intS {s : Str} {n : Int} (h0 : PySem.intText? s = some n) (hl : s.length ≤ 640) (k : W (.d (.int n)) R) : OpL c rIntS [.d (.str s)] R W :=
  oL_pure (fun F H vs ro h => by
    cases h with
    | cons h1 t =>
    cases t
    cases h1
    exact ⟨_, eD (Rp.int _), fun Q q => ⟨_, _, rfl, h0, hl, q⟩⟩) k
theorem o_max2 {i j : Int} (k : W (.d (.int (if j > i then j else i))) R) : OpL c rMax2I [.d (.int i), .d (.int j)] R W :=
  oL_pure (fun F H vs ro h => by
    cases h with
    | cons h1 t =>
    cases t with
    | cons h2 t =>
    cases t
    cases h1
    cases h2
    exact ⟨_, eD (Rp.int _), fun Q q => ⟨_, _, rfl, q⟩⟩) k
theorem o_min2 {i j : Int} (k : W (.d (.int (if j < i then j else i))) R) : OpL c rMin2I [.d (.int i), .d (.int j)] R W :=
  oL_pure (fun F H vs ro h => by
    cases h with
    | cons h1 t =>
    cases t with
    | cons h2 t =>
    cases t
    cases h1
    cases h2
    exact ⟨_, eD (Rp.int _), fun Q q => ⟨_, _, rfl, q⟩⟩) k
theorem o_all {bs : List Bool} (k : W (.d (.bool (bs.all id))) R) : OpL c (rAll c.K) [.d (.list (bs.map .bool))] R W :=
  oL_pure (fun F H vs ro h => by
    cases h with
    | cons h1 t =>
    cases t
    cases h1 with
    | lst hs hr =>
      have e := rpA_bools hr
      subst e
      exact ⟨_, eD (Rp.bl _), fun Q q => ⟨_, _, rfl, SqL.of (ro.sub _ _ hs), q⟩⟩) k
theorem o_any {bs : List Bool} (k : W (.d (.bool (bs.any id))) R) : OpL c (rAny c.K) [.d (.list (bs.map .bool))] R W :=
  oL_pure (fun F H vs ro h => by
    cases h with
    | cons h1 t =>
    cases t
    cases h1 with
    | lst hs hr =>
      have e := rpA_bools hr
      subst e
      exact ⟨_, eD (Rp.bl _), fun Q q => ⟨_, _, rfl, SqL.of (ro.sub _ _ hs), q⟩⟩) k
theorem o_sum {ns : List Int} (k : W (.d (.int ns.sum)) R) : OpL c (rSum c.K) [.d (.list (ns.map .int))] R W :=
  oL_pure (fun F H vs ro h => by
    cases h with
    | cons h1 t =>
    cases t
    cases h1 with
    | lst hs hr =>
      have e := rpA_ints hr
      subst e
      exact ⟨_, eD (Rp.int _), fun Q q => ⟨_, _, rfl, SqL.of (ro.sub _ _ hs), q⟩⟩) k
/-- list(x): a copy that never changes; one that will -/
theorem o_list {ds : List PD} (k : W (.d (.list ds)) R) : OpL c (rListOf c.K) [.d (.list ds)] R W := fun F H vs Q ro eo h q => by
  cases h with
  | cons h1 t =>
  cases t
  cases h1 with
  | lst hs hr =>
    exact ⟨_, _, rfl, .inl (SqL.of (ro.sub _ _ hs)), fun l hl => q _ _ _ _ R (.imm (ro.sub.none hl) hl) (ro.imm hl) (eD (Rp.lst upd_same (rpA_sub (.put (ro.sub.none hl)) _ _ hr))) k⟩
theorem o_listT {ds : List PD} (k : W (.d (.list ds)) R) : OpL c (rListOf c.K) [.d (.tuple ds)] R W := fun F H vs Q ro eo h q => by
  cases h with
  | cons h1 t =>
  cases t
  cases h1 with
  | tup hs hr =>
    exact ⟨_, _, rfl, .inr (SqT.of (ro.sub _ _ hs)), fun l hl => q _ _ _ _ R (.imm (ro.sub.none hl) hl) (ro.imm hl) (eD (Rp.lst upd_same (rpA_sub (.put (ro.sub.none hl)) _ _ hr))) k⟩
theorem fp_lst {p : Addr} {ds : List PD} {a : Addr} (h : a ∈ (rLst p ds).fp) : a = p := by simpa [rLst] using h
theorem o_listR {ds : List PD} (k : ∀ l, W (.v (.ref l)) (R ++ [rLst l ds])) : OpL c (rListOf c.K) [.d (.list ds)] R W := fun F H vs Q ro eo h q => by
  cases h with
  | cons h1 t =>
  cases t
  cases h1 with
  | lst hs hr =>
    exact ⟨_, _, rfl, .inl (SqL.of (ro.sub _ _ hs)), fun l hl => q _ _ F _ _ (.push (r := rLst l ds) (.put hl) fun a ha => by rw [fp_lst ha]; exact hl)
      (ro.push (r := rLst l ds) (.put hl) ⟨_, upd_same, hr⟩ (fun a ha => by rw [fp_lst ha]; exact hl) fun a ha => by rw [fp_lst ha]; exact ⟨_, upd_same⟩) eV (k l)⟩
/-! isinstance of data, built-in types -/
def tyD : PD → String
  | .none => "NoneType"
  | .bool _ => "bool"
  | .int _ => "int"
  | .str _ => "str"
  | .list _ => "list"
  | .tuple _ => "tuple"
  | .dict _ => "dict"
theorem tyx {K : Frag} {F H : Hp} (s : Sub F H) {v : V} {x : PD} (h : Rp F v x) : TyX K H v (.type (tyD x)) := by
  cases h with
  | non => exact .base .non
  | bl => exact .base (.bl _)
  | int => exact .base (.int _)
  | str => exact .base (.str _)
  | lst hs _ => exact .base (.lst (s _ _ hs))
  | tup hs _ => exact .base (.tup (s _ _ hs))
theorem o_isi {x : PD} {T : String} {b : Bool} (hb : kitB (tyD x) T = some b) (k : W (.d (.bool b)) R) : OpL c (rIsi c.K) [.d x, .v (.ty T)] R W :=
  oL_pure (fun F H vs ro h => by
    cases h with
    | cons h1 t =>
    cases t with
    | cons h2 t =>
    cases t
    cases h2
    exact ⟨_, eD (Rp.bl b), fun Q q => ⟨_, _, _, _, b, rfl, .ty T, tyx ro.sub h1, kit_ty hb, q⟩⟩) k
/-! methods -/
def TyOk (c : Ctx) (T : String) (o : Ent) (R : List Res) : Prop := ∀ F H v, ROk c.K F H R → EntOk F v o → tyV c.K T v H
def OpM (c : Ctx) (r : V → List V → Hp → VK → Prop) (x : Ent) (xs : List Ent) (R : List Res) (W : We) : Prop :=
  ∀ F H v vs Q, ROk c.K F H R → EOk c F H R → EntOk F v x → Ents F vs xs → (∀ u e F' H' R', Stp F H R F' H' R' → ROk c.K F' H' R' → EntOk F' u e → W e R' → Q u H') → r v vs H Q
variable {ρ : Rho}
theorem ev_bm {T : String} {r : V → List V → Hp → VK → Prop} {to : TE} {t : TA} (h : Ev c to ρ R fun o R1 => TyOk c T o R1 ∧ EvA c t ρ R1 fun xs R2 => OpM c r o xs R2 W) : Ev c (tBM c.K T r to t) ρ R W :=
  fun F H σ Q st x q => h F H σ _ st x fun v e F1 H1 R1 s1 st1 he ⟨ty, w1⟩ => ⟨ty F1 H1 v st1.res he, w1 F1 H1 σ _ st1 (x.sub s1) fun vs es F2 H2 R2 s2 st2 he2 w2 =>
    w2 F2 H2 v vs Q st2.res ((x.sub s1).sub s2) (he.sub s2.sub) he2 fun z e3 F3 H3 R3 s3 r3 he3 w3 => q z e3 F3 H3 R3 ((s1.tr s2).tr s3) (st2.step s3.sub r3) he3 w3⟩
theorem ev_bm0 {T : String} {r : V → List V → Hp → VK → Prop} {to : TE} (h : Ev c to ρ R fun o R1 => TyOk c T o R1 ∧ OpM c r o [] R1 W) : Ev c (tBM0 c.K T r to) ρ R W :=
  fun F H σ Q st x q => h F H σ _ st x fun v e F1 H1 R1 s1 st1 he ⟨ty, w1⟩ => ⟨ty F1 H1 v st1.res he,
    w1 F1 H1 v [] Q st1.res (x.sub s1) he .nil fun z e3 F3 H3 R3 s3 r3 he3 w3 => q z e3 F3 H3 R3 (s1.tr s3) (st1.step s3.sub r3) he3 w3⟩
theorem ty_res {p : Addr} {j : Nat} {ds : List PD} (hj : R[j]? = some (rLst p ds)) : TyOk c "list" (.v (.ref p)) R := fun F H v ro e => by
  cases e
  obtain ⟨xs, g1, _⟩ := ro.ok hj
  exact .inl ⟨rfl, _, SqL.of g1⟩
theorem ty_list {ds : List PD} : TyOk c "list" (.d (.list ds)) R := fun F H v ro e => by
  cases e with
  | lst hs hr => exact .inl ⟨rfl, _, SqL.of (ro.sub _ _ hs)⟩
theorem ty_str {s : Str} : TyOk c "str" (.d (.str s)) R := fun F H v ro e => by cases e; rfl
/-- the mutable list at j becomes ds' -/
theorem ro_lst {K : Frag} {F H : Hp} {p : Addr} {j : Nat} {ds ds' : List PD} {ys : List V} (ro : ROk K F H R) (hj : R[j]? = some (rLst p ds)) (h : RpA F ys ds') :
    ROk K F (upd H p (.lst ys)) (R.set j (rLst p ds')) ∧ Stp F H R F (upd H p (.lst ys)) (R.set j (rLst p ds')) := by
  have hf := ro.fn hj p (by simp [rLst])
  have n : ∀ a o, ¬ a ∈ (rLst p ds).fp → H a = some o → upd H p (.lst ys) a = some o := fun a o ha e => by rw [upd_ne fun q => ha (by rw [q]; simp [rLst])]; exact e
  refine ⟨ro.chg hj Sub.rfl (fun a o e => ?_) (fun a ha => ha) ⟨ys, upd_same, h⟩ (fun a ha => by rw [fp_lst ha]; exact ⟨_, upd_same⟩) n fun a o hn _ _ => hn, .chg hj Sub.rfl (fun a ha => ha) n fun a o hn _ _ => hn⟩
  rw [upd_ne (ne_of_none e hf)]
  exact ro.sub a o e
theorem o_append {p : Addr} {j : Nat} {ds : List PD} {x : PD} (hj : R[j]? = some (rLst p ds)) (hl : ds.length < 10000000) (k : W (.d .none) (R.set j (rLst p (ds ++ [x])))) : OpM c rAppend (.v (.ref p)) [.d x] R W := fun F H v vs Q ro eo hx hxs q => by
  cases hx
  cases hxs with
  | cons h1 t =>
  cases t
  obtain ⟨xs, g1, g2⟩ := ro.ok hj
  have hl2 := g2.len
  obtain ⟨r1, r2⟩ := ro_lst ro hj (g2.app (.cons h1 .nil))
  exact ⟨p, xs, _, rfl, rfl, g1, Nat.lt_of_lt_of_le (by omega : xs.length < 10000000) (by decide), q _ _ _ _ _ r2 r1 (eD Rp.non) k⟩
theorem o_insert {p : Addr} {j : Nat} {ds : List PD} {x : PD} {i : Int} (hj : R[j]? = some (rLst p ds)) (hl : ds.length < 10000000) (hi : 0 ≤ i ∧ i < 2 ^ 63) (k : W (.d .none) (R.set j (rLst p (ds.take i.toNat ++ [x] ++ ds.drop i.toNat)))) : OpM c rInsertX (.v (.ref p)) [.d (.int i), .d x] R W := fun F H v vs Q ro eo hx hxs q => by
  cases hx
  cases hxs with
  | cons h0 t =>
  cases t with
  | cons h1 t =>
  cases t
  cases h0
  obtain ⟨xs, g1, g2⟩ := ro.ok hj
  have hl2 := g2.len
  obtain ⟨r1, r2⟩ := ro_lst ro hj (((g2.take i.toNat).app (.cons h1 .nil)).app (g2.drop i.toNat))
  exact ⟨p, xs, i, _, rfl, rfl, g1, Nat.lt_of_lt_of_le (by omega : xs.length < 10000000) (by decide), hi.1, hi.2, q _ _ _ _ _ r2 r1 (eD Rp.non) k⟩
theorem o_extend {p : Addr} {j : Nat} {ds es : List PD} (hj : R[j]? = some (rLst p ds)) (hl : ds.length + es.length ≤ 10000000) (k : W (.d .none) (R.set j (rLst p (ds ++ es)))) : OpM c rExtend (.v (.ref p)) [.d (.list es)] R W := fun F H v vs Q ro eo hx hxs q => by
  cases hx
  cases hxs with
  | cons h0 t =>
  cases t
  cases h0 with
  | lst hs hr =>
  obtain ⟨xs, g1, g2⟩ := ro.ok hj
  have hl2 := g2.len
  have hl3 := hr.len
  obtain ⟨r1, r2⟩ := ro_lst ro hj (g2.app hr)
  exact ⟨p, _, xs, _, rfl, rfl, g1, ro.sub _ _ hs, Nat.le_trans (by omega : xs.length + _ ≤ 10000000) (by decide), q _ _ _ _ _ r2 r1 (eD Rp.non) k⟩
/-- xs + ys of lists -/
theorem o_cat {ds es : List PD} (hl : ds.length + es.length ≤ 10000000) (k : W (.d (.list (ds ++ es))) R) : Op2 c rCat (.d (.list ds)) (.d (.list es)) R W := fun F H v w Q ro eo hx hy q => by
  cases hx with
  | lst hs hr =>
  cases hy with
  | lst hs2 hr2 =>
  have l1 := hr.len
  have l2 := hr2.len
  exact ⟨_, _, _, _, rfl, rfl, ro.sub _ _ hs, ro.sub _ _ hs2, Nat.le_trans (by omega : _ + _ ≤ 10000000) (by decide), fun p hp =>
    q _ _ _ _ R (.imm (ro.sub.none hp) hp) (ro.imm hp) (eD (Rp.lst upd_same (rpA_sub (.put (ro.sub.none hp)) _ _ (hr.app hr2)))) k⟩
/-- xs.index(y) of texts: the first place -/
theorem o_indexS {ss : List Str} {x : Str} {j : Nat} (hj : ss[j]? = some x) (hn : ∀ m, m < j → ss[m]? ≠ some x) (k : W (.d (.int (j : Nat))) R) : OpM c (rIndex c.K) (.d (.list (ss.map .str))) [.d (.str x)] R W := fun F H v vs Q ro eo hx hxs q => by
  cases hxs with
  | cons h0 t =>
  cases t
  cases h0
  cases hx with
  | lst hs hr =>
  have e := rpA_strs hr
  subst e
  refine ⟨_, _, _, j, .str x, rfl, rfl, SqL.of (ro.sub _ _ hs), rfl, flatS ss, by rw [List.getElem?_map, hj]; rfl, by simp [eqV], fun m z' hm hz => ?_, q _ _ F H R .rfl ro (eD (Rp.int _)) k⟩
  rw [List.getElem?_map] at hz
  cases e : ss[m]? with
  | none => rw [e] at hz; cases hz
  | some y =>
    rw [e] at hz
    cases hz
    have : y ≠ x := fun h => hn m hm (by rw [e, h])
    simp [eqV, this]
end
end SE
end
section
set_option Elab.async false
set_option linter.all false
set_option maxRecDepth 100000
set_option maxHeartbeats 8000000
namespace SE
open PySem PySem.Spec PyProof.Rows L2

/-! ### max(xs, default=d) of ints -/
def mx (y : Int) (ys : List Int) : Int := ys.foldl (fun a z => if a < z then z else a) y
def mxD (d : V) : List Int → V
  | [] => d
  | y :: ys => .int (mx y ys)
def rMaxD (K : Frag) : List V → List V → Hp → VK → Prop := fun vs zs H Q => ∃ (a : Addr) (ns : List Int) (d : V), vs = [.ref a] ∧ zs = [d] ∧ SqL K H a (ns.map V.int) ∧ Q (mxD d ns) H
theorem readsInts {h : Heap} : ∀ {ns : List Int} {us : List Value}, Vals (ns.map V.int) us → PySem.W.HoldAll h us ns
  | [], _, .nil => .nil
  | n :: ns, _, .cons r t => by
    obtain ⟨k, rfl⟩ := r
    exact .cons ⟨_, .int n k⟩ (readsInts t)
theorem mx_of (y : Int) (ys : List Int) : PySem.W.maxOf y ys = mx y ys := by
  unfold PySem.W.maxOf mx
  congr 1
  funext a z
  show (if decide (a < z) = true then z else a) = _
  by_cases h : a < z <;> simp [h]
theorem x_maxD {X : Cx} (hr : X.A.units + 64 < cLine) (hc : X.calm = true) : CallRK X (.builtin "max") [Str.ofString "default"] (rMaxD X.K) := by
  intro pins s σ H vs zs us ws Q I r rz h
  obtain ⟨a, ns, d, rfl, rfl, hs, q⟩ := h
  obtain ⟨its, rv, hl, hz⟩ := I.list hs
  have e1 := Vals.ref1 r
  subst e1
  obtain ⟨w1, e2, rd⟩ := vals1 rz
  subst e2
  show wpAny _ _ (call (.builtin "max") [.ref a] [(Str.ofString "default", w1)]) _ _ _
  refine PySem.W.max_list_datum_default (α := Int) (xs := ns) (I.ok.hd hc) hl.isList (readsInts (by simpa using rv)) (by show X.A.units + 1 + 0 < cLine; omega) (fun e h' tk hk => ?_) fun y ys i v h' tk e hv hh hk => ?_
  · subst e
    exact ⟨d, H, I.kept (t' := tk) hk, rd, q⟩
  · subst e
    obtain ⟨as, hh⟩ := hh
    have hh : Reads h' v (.int (PySem.W.maxOf y ys)) as := hh
    cases hh with
    | int n t => exact ⟨V.int (mx y ys), H, I.kept (t' := tk) hk, ⟨t, by rw [mx_of]⟩, q⟩
theorem mx_ge : ∀ (ys : List Int) (y : Int), y ≤ mx y ys ∧ ∀ z ∈ ys, z ≤ mx y ys
  | [], y => ⟨Int.le_refl _, fun _ h => by simp at h⟩
  | z :: ys, y => by
    obtain ⟨h1, h2⟩ := mx_ge ys (if y < z then z else y)
    show y ≤ mx (if y < z then z else y) ys ∧ ∀ w ∈ z :: ys, w ≤ mx (if y < z then z else y) ys
    refine ⟨?_, fun w hw => ?_⟩
    · refine Int.le_trans ?_ h1
      split <;> omega
    · rcases List.mem_cons.mp hw with e | e
      · subst e
        refine Int.le_trans ?_ h1
        split <;> omega
      · exact h2 w e
section
variable {c : Ctx} {R : List Res} {W : We} {ρ : Rho}
theorem ev_ckw {r : List V → List V → Hp → VK → Prop} {t tk : TA} (h : EvA c t ρ R fun xs R1 => EvA c tk ρ R1 fun ks R2 => ∀ F H vs zs Q, ROk c.K F H R2 → EOk c F H R2 → Ents F vs xs → Ents F zs ks → (∀ u e F' H' R', Stp F H R2 F' H' R' → ROk c.K F' H' R' → EntOk F' u e → W e R' → Q u H') → r vs zs H Q) : Ev c (tCKw r t tk) ρ R W :=
  fun F H σ Q st x q => h F H σ _ st x fun vs es F1 H1 R1 s1 st1 he w1 => w1 F1 H1 σ _ st1 (x.sub s1) fun zs ks F2 H2 R2 s2 st2 hk w2 =>
    w2 F2 H2 vs zs Q st2.res ((x.sub s1).sub s2) (Ents.sub s2.sub he) hk fun z e3 F3 H3 R3 s3 r3 he3 w3 => q z e3 F3 H3 R3 ((s1.tr s2).tr s3) (st2.step s3.sub r3) he3 w3
def mxI (d : Int) : List Int → Int
  | [] => d
  | y :: ys => mx y ys
theorem ev_maxD {t : TA} {d : Int} (h : EvA c t ρ R fun xs R1 => ∃ ns : List Int, xs = [.d (.list (ns.map .int))] ∧ W (.d (.int (mxI d ns))) R1) : Ev c (tCKw (rMaxD c.K) t (tCons (tC (.int d)) tNil)) ρ R W := by
  refine ev_ckw fun F H σ Q st x q => h F H σ Q st x fun vs es F' H' R' s st' he w => q vs es F' H' R' s st' he ?_
  obtain ⟨ns, rfl, w⟩ := w
  refine ea_cons (ev_int (ea_nil ?_))
  intro F2 H2 vs zs Q2 ro eo hv hz q2
  cases hv with
  | cons h1 t1 =>
  cases t1
  cases hz with
  | cons h2 t2 =>
  cases t2
  cases h1 with
  | lst hs hr =>
  cases h2
  have e := rpA_ints hr
  subst e
  refine ⟨_, ns, _, rfl, rfl, SqL.of (ro.sub _ _ hs), ?_⟩
  have e2 : mxD (V.int d) ns = V.int (mxI d ns) := by cases ns <;> rfl
  rw [e2]
  exact q2 _ _ F2 H2 R' .rfl ro (eD (Rp.int _)) w
end

/-! ### len(set(xs)) of texts -/
/-- the texts met, each once, in their first places' order -/
def met (val : Nat → Str) : Nat → List Str
  | 0 => []
  | i + 1 => if val i ∈ met val i then met val i else met val i ++ [val i]
theorem met_len (val : Nat → Str) : ∀ i, (met val i).length ≤ i
  | 0 => Nat.le_refl _
  | i + 1 => by
    have := met_len val i
    show (if val i ∈ met val i then met val i else met val i ++ [val i]).length ≤ i + 1
    split
    · omega
    · rw [List.length_append]; simp; omega
theorem any_mem (k : Str) : ∀ l : List Str, l.any (· == k) = decide (k ∈ l)
  | [] => rfl
  | a :: l => by
    rw [List.any_cons, any_mem k l]
    by_cases h : a = k
    · subst h; simp
    · have h2 : ¬ k = a := fun e => h e.symm
      simp [h, h2]
section
variable {prog : Program} {w : World} {A : Around} {U : Result → Shared → Prop} {I : Addr} {fp wr : List Addr} {G : Array GenState → Array GenState → Prop} {n : Nat} {P : Nat → Value → Prop} {Z : Nat → Shared → Prop}
theorem upd_loopT (W : WalksS prog w A.in1 I fp wr G n P Z) (S : Addr) (hSf : ¬ S ∈ fp) (val : Nat → Str) (hval : ∀ i v, P i v → ∃ t, v = .str (val i) t) (hb : n + 1 < scanBound) :
    ∀ (k i : Nat) (s : Shared), n - i = k → i ≤ n → Z i s → s.heap.SetOf (PySem.strKind prog w) S (fun z => decide (z ∈ met val i)) (met val i).length →
      (∀ s', Moved (S :: wr) G s s' → s'.heap.SetOf (PySem.strKind prog w) S (fun z => decide (z ∈ met val n)) (met val n).length → U (.ok (.ret .none)) s') →
      codeAny (model prog w) A (.builtin "set.update.loop" ⟨[.ref S, .ref I], []⟩) U s := by
  have nw : ¬ S ∈ wr := fun h => hSf (W.sub _ h)
  have up : ∀ b ∈ wr, b ∈ S :: wr := fun b hb => List.mem_cons_of_mem _ hb
  have keep : ∀ {s s' : Shared} {T : Str → Bool} {m : Nat}, Moved wr G s s' → s.heap.SetOf (PySem.strKind prog w) S T m → s'.heap.SetOf (PySem.strKind prog w) S T m := fun hm hT => by
    obtain ⟨o, es, ep, t, ho, rest⟩ := hT
    exact ⟨o, es, ep, t, hm.heap S _ nw ho, rest⟩
  intro k
  induction k with
  | zero =>
    intro i s hk hi hz hT hR
    obtain rfl : i = n := by omega
    refine codeAny_builtin PyProof.Rows.F.entry_set_update_loop ?_
    rw [Around.under_plainId PyProof.Rows.F.plain_set_update_loop _]
    show wpAny _ A.in1 (pyNext (.ref I) >>= _) _ _ s
    refine wpAny_bind (W.done s _ _ hz fun s' hm => ?_)
    show wpAny _ A.in1 (ret Value.none) _ _ s'
    exact wpAny_pure (hR s' (hm.mono up) (keep hm hT))
  | succ k ih =>
    intro i s hk hi hz hT hR
    have lt : i < n := by omega
    refine codeAny_builtin PyProof.Rows.F.entry_set_update_loop ?_
    rw [Around.under_plainId PyProof.Rows.F.plain_set_update_loop _]
    show wpAny _ A.in1 (pyNext (.ref I) >>= _) _ _ s
    refine wpAny_bind (W.item i s _ _ lt hz fun v s' hP hz' hm => ?_)
    obtain ⟨t, rfl⟩ := hval i v hP
    have hT' := keep hm hT
    show wpAny _ A.in1 (holding [Value.str (val i) t] (setAdd S (.str (val i) t)) >>= _) _ _ s'
    refine wpAny_bind (wpAny_holding ?_)
    unfold setAdd
    refine wpAny_holding ?_
    refine wpAny_bind ((PySem.strKind prog w).pyHash (k := val i) (strKind_is _ _ _ _) ?_)
    have room : (met val i).length + 1 < scanBound := by have := met_len val i; omega
    refine wpAny_setAddHashed_of (knd := PySem.strKind prog w) (s := { s' with toks := s'.toks + 1 }) (strKind_is _ _ _ _) rfl hT' room fun h' sb hT2 => ?_
    have hT3 : h'.SetOf (PySem.strKind prog w) S (fun z => decide (z ∈ met val (i + 1))) (met val (i + 1)).length := by
      refine PyProof.Rows.SetOf_congr hT2 (fun z => ?_) ?_
      · show (decide (z ∈ met val i) || decide (z = val i)) = decide (z ∈ (if val i ∈ met val i then met val i else met val i ++ [val i]))
        by_cases h : val i ∈ met val i
        · rw [if_pos h]
          by_cases e : z = val i
          · subst e; simp [h]
          · simp [e]
        · rw [if_neg h]
          simp
      · show (if decide (val i ∈ met val i) = true then (met val i).length else (met val i).length + 1) = (if val i ∈ met val i then met val i else met val i ++ [val i]).length
        by_cases h : val i ∈ met val i
        · simp [h]
        · simp [h]
    refine wpAny_pure ⟨plainId_quiet PyProof.Rows.F.plain_set_update_loop _, ih (i + 1) _ (by omega) lt (W.frame _ s' _ _ hz' (Nat.le_succ _) fun b hb o e => ?_) hT3 fun s2 hm2 hT4 => ?_⟩
    · rw [sb.2 b (fun h : b = S => hSf (by rw [← h]; exact hb))]
      exact e
    · refine hR s2 (Moved.trans W.gtrans ((hm.mono up).then_heap (Nat.le_succ _) fun b o hb e => ?_) hm2) hT4
      rw [sb.2 b (fun h : b = S => hb (by rw [h]; exact List.mem_cons_self))]
      exact e
end
abbrev ob0 (led : Bool) : Obj := { cls := .type "set", dict := none, data := .set #[] 0 (.fresh 0 0 led) }
section
variable {prog : Program} {w : World} {A : Around} {E : Value → Shared → Prop} {s : Shared}
theorem set_listT {l : Addr} {items : Array Value} {xs : List Str} {Q : Value → Shared → Prop} (hh : A.handled = none) (hl : s.heap.IsList l items) (hi : PyProof.Rows.StrsAre items.toList xs) (hb : items.size + 1 < scanBound)
    (h : ∀ (h' : Heap) (tk : Nat), h'.SetOf (PySem.strKind prog w) s.heap.objs.size (fun z => decide (z ∈ met (fun i => xs.getD i Str.empty) items.size)) (met (fun i => xs.getD i Str.empty) items.size).length →
      (∀ b o, b < s.heap.objs.size → s.heap.get? b = some o → h'.get? b = some o) → Q (.ref s.heap.objs.size) { s with heap := h', toks := tk }) :
    wpAny (model prog w) A (call (.type "set") [.ref l]) Q E s := by
  obtain ⟨c, tl, hmro⟩ := PySem.F.called_set.mro
  have hmade := PySem.F.called_set.made
  have hsub := PySem.F.called_set.sub
  refine wpAny_call (codeAny_of_tree ?_)
  show wpAny _ _ (callAny (.type "set") _) _ _ _
  refine wpAny_pure ⟨Code.quiet_builtin _ (by decide +kernel), codeAny_builtin PySem.F.entry_type_call ?_⟩
  rw [Around.under_plain (weight_type_call_type "set" [.ref l] []) rfl]
  have h1 := PySem.F.called_set.notType
  have h2 := PySem.F.called_set.canCreate
  have hct := PySem.F.typeCall_set_1 (.ref l)
  repeat (any_goals (first | assumption | wp_step))
  refine codeAny_mono (code_set_new_1 (.ref l) (E := E)
    (Q₁ := fun obj s₁ => ∃ led : Bool, obj = .ref s.heap.objs.size ∧ s₁ = { s with heap := s.heap.push (ob0 led) }) fun led => ⟨led, rfl, rfl⟩) fun r s₁ hr => ?_
  cases r with
  | error e => exact hr
  | ok fl =>
    cases fl with
    | ret obj =>
      obtain ⟨led, rfl, rfl⟩ := hr
      have hS : (s.heap.push (ob0 led)).get? s.heap.objs.size = some (ob0 led) := Heap.get?_push_size _ rfl
      have hT : Shared.TypeIs { s with heap := s.heap.push (ob0 led) } (.ref s.heap.objs.size) "set" := ⟨_, hS, rfl⟩
      have hli := PySem.F.called_set.init.lookup
      have hbi := PySem.F.called_set.init.bind (.ref s.heap.objs.size)
      repeat (any_goals (first | assumption | wp_step))
      refine codeAny_mono (codeAny_call_builtin (R := wants (fun r s₂ => r = .none ∧ ∃ h' tk, s₂ = { s with heap := h', toks := tk } ∧
          h'.SetOf (PySem.strKind prog w) s.heap.objs.size (fun z => decide (z ∈ met (fun i => xs.getD i Str.empty) items.size)) (met (fun i => xs.getD i Str.empty) items.size).length ∧
          (∀ b o, b < s.heap.objs.size → s.heap.get? b = some o → h'.get? b = some o)) E) PySem.F.called_set.init.plain PySem.F.entry_set_init (check_set_init_1 hT ?_)) fun r₂ s₂ hr₂ => ?_
      · obtain ⟨ol, hol, hcl, nl, hdl⟩ := hl
        obtain ⟨ocls, odict, odata, oslots⟩ := ol
        simp only at hcl hdl
        subst hcl
        subst hdl
        have hol' : (s.heap.push (ob0 led)).get? l = some { cls := .type "list", dict := odict, data := .seq items nl, slots := oslots } := Heap.get?_push_of_some _ hol
        have hsls := PySem.F.sub_list_set
        have hslf := PySem.F.sub_list_frozenset
        have hne : (Value.type "list" == Value.type "dict") = false := by decide
        have hl1 : (s.heap.push (ob0 led)).IsList l items := ⟨_, hol', rfl, nl, rfl⟩
        unfold Builtin.«set.__init__» noKeywords Builtin.Frozenset.updateFrom
        generalize hPI : pyIter = PI
        wp_walk
        subst hPI
        refine wpAny_pyIter_list hl1 ?_
        refine wpAny_bind (wpAny_runValue ?_)
        have hlS : l < s.heap.objs.size := Heap.lt_size hol
        have hh3 : A.in1.in1.in1.handled = none := by simp [hh]
        have hneI : l ≠ (s.heap.push (ob0 led)).objs.size := by
          rw [Heap.size_push]
          exact Nat.ne_of_lt (Nat.lt_succ_of_lt hlS)
        have hSf : ¬ s.heap.objs.size ∈ [(s.heap.push (ob0 led)).objs.size, l] := by
          rw [Heap.size_push]
          simp only [List.mem_cons, List.mem_singleton, List.not_mem_nil, or_false, not_or]
          exact ⟨Nat.ne_of_lt (Nat.lt_succ_self _), Nat.ne_of_gt hlS⟩
        have hval : ∀ (i : Nat) (v : Value), items[i]? = some v → ∃ t, v = .str ((fun i => xs.getD i Str.empty) i) t := fun i v hv => SS.strs_at hi i v (by rw [Array.getElem?_toList]; exact hv)
        refine upd_loopT ((Walks.list hh3 _ l hneI items).toS) s.heap.objs.size hSf (fun i => xs.getD i Str.empty) hval hb (items.size - 0) 0 _ (by omega) (Nat.zero_le _) ⟨⟨_, Heap.get?_push_size _ rfl, rfl, rfl⟩, (hl1.push _)⟩ ?hS0 ?hR
        case hS0 =>
          have hget : ((s.heap.push (ob0 led)).push { cls := .type "list_iterator", data := .fields #[.ref l, .int 0 0] }).get? s.heap.objs.size = some (ob0 led) := Heap.get?_push_of_some _ hS
          exact PyProof.Rows.SetOf_congr ((PyProof.Rows.setObjOf_fresh (knd := PySem.strKind prog w) led).setOf hget (by unfold scanBound; omega)) (fun _ => by simp [met]) rfl
        case hR =>
          intro s' hm hS'
          obtain ⟨h', g', d', tk', os'⟩ := s'
          have eg : g' = s.gens := hm.gens
          have ed : d' = s.drawn := hm.drawn
          have eo : os' = s.os := hm.os
          subst eg
          subst ed
          subst eo
          show wpAny _ _ _ _ _ _
          refine wpAny_pure ?_
          show wpAny _ _ (ret Value.none) _ _ _
          refine wpAny_pure ⟨rfl, h', tk', rfl, hS', fun b o hb e => ?_⟩
          have hb1 : b ≠ s.heap.objs.size := Nat.ne_of_lt hb
          have hb2 : b ≠ (s.heap.push (ob0 led)).objs.size := by
            rw [Heap.size_push]
            exact Nat.ne_of_lt (Nat.lt_succ_of_lt hb)
          refine hm.heap b o ?_ (Heap.get?_push_of_some _ (Heap.get?_push_of_some _ e))
          simp only [List.mem_cons, List.mem_singleton, List.not_mem_nil, or_false, not_or]
          exact ⟨hb1, hb2⟩
      · cases r₂ with
        | error e => exact hr₂
        | ok fl₂ =>
          cases fl₂ with
          | ret r =>
            obtain ⟨rfl, h', tk, rfl, hS', hk'⟩ := hr₂
            repeat (any_goals (first | assumption | wp_step))
            exact h _ _ hS' hk'
          | _ => exact hr₂.elim
    | _ => exact hr.elim
end
def distinct (xs : List Str) : Nat := (met (fun i => xs.getD i Str.empty) xs.length).length
def tLenSetS (K : Frag) (ta : TE) : TE := fun σ H Q => ta σ H fun x H1 => ∃ (l : Addr) (xs : List Str), x = .ref l ∧ SqL K H1 l (xs.map V.str) ∧ xs.length ≤ 4000 ∧ Q (.int (distinct xs : Nat)) H1
theorem pe_lenSetS {X : Cx} {a : Expr} {ta : TE} {p p2 q pos : Pos} (hg : Gl X "len") (hm : X.mg "len" = none) (hg2 : Gl X "set") (hm2 : X.mg "set" = none) (ha : PE X a ta) (hc : X.calm = true)
    (na : starEach [a] X.env = (false, eval a X.env) :: starEach [] X.env := by rfl) : PE X (.Call (.Name "len" p) [.Call (.Name "set" p2) [a] [] q] [] pos) (tLenSetS X.K ta) := by
  refine ⟨fun pins s σ H Q I h => ?_⟩
  refine Call_ (ld_blt I hg hm boot_len ?_)
  refine PyProof.Rows.callWith_builtin1 (PyProof.Rows.args_cons ?_ rfl) rfl rfl
  refine Call_ (ld_blt I hg2 hm2 boot_set ?_)
  refine PyProof.Rows.callWith_type1 (PyProof.Rows.args_cons (thn (ha.run pins s σ H _ I h) fun v s1 ⟨x, H1, I1, r1, q1⟩ => PyProof.Rows.args_nil ?_) na) na rfl
  obtain ⟨l, xs, rfl, hq, hl, q1⟩ := q1
  cases r1
  obtain ⟨its, r, pl, hz⟩ := I1.list hq
  have hlen : its.toArray.size = xs.length := by rw [List.size_toArray, ← r.length, List.length_map]
  refine set_listT (I1.ok.hd hc) pl.isList (by simpa using strsAre_of r) (by rw [hlen]; unfold scanBound; omega) fun h' tk hS hk => ?_
  refine PyProof.Rows.args_nil ?_
  rw [hlen] at hS
  obtain ⟨o, es, ep, t, ho, hex, hd, _, _, _, hf, hn⟩ := hS
  have I2 : Inv X pins σ H1 { s1 with heap := h', toks := tk } := I1.kept fun b o e => hk b o (Heap.lt_size e) e
  have hm := met_len (fun i => xs.getD i Str.empty) xs.length
  exact call_len_set ho hex hd hf (by rw [hn]; omega) ⟨.int (distinct xs : Nat), H1, I2.tok _, ⟨_, by rw [hn]; rfl⟩, q1⟩
theorem ev_lenSetS {c : Ctx} {R : List Res} {W : We} {ρ : Rho} {ta : TE} (h : Ev c ta ρ R fun x R1 => ∃ xs : List Str, x = .d (.list (xs.map .str)) ∧ xs.length ≤ 4000 ∧ W (.d (.int (distinct xs : Nat))) R1) : Ev c (tLenSetS c.K ta) ρ R W :=
  fun F H σ Q st x q => h F H σ _ st x fun v e F1 H1 R1 s1 st1 he ⟨xs, e1, hl, w⟩ => by
    subst e1
    cases he with
    | lst hs hr =>
      have e := rpA_strs hr
      subst e
      exact ⟨_, xs, rfl, SqL.of (st1.res.sub _ _ hs), hl, q _ _ F1 H1 R1 s1 st1 (eD (Rp.int _)) w⟩
end SE
end
section
set_option Elab.async false
set_option linter.all false
set_option maxRecDepth 100000
set_option maxHeartbeats 8000000
namespace SE
open PySem PySem.Spec PyProof.Rows L2

section
variable {c : Ctx} {R : List Res} {W : We} {ρ : Rho} {P : Post}
/-- x < y < z -/
theorem ev_chain {r r' : R2} {ta tb tc : TE} (h : Ev c ta ρ R fun x R1 => Ev c tb ρ R1 fun y R2 => Op2 c r x y R2 fun z R3 => ∃ b, z = .d (.bool b) ∧ if b = true then Ev c tc ρ R3 fun u R4 => Op2 c r' y u R4 W else W (.d (.bool false)) R3) : Ev c (tChain r r' ta tb tc) ρ R W :=
  fun F H σ Q st x q => h F H σ _ st x fun v e F1 H1 R1 s1 st1 he w1 => w1 F1 H1 σ _ st1 (x.sub s1) fun u e2 F2 H2 R2 s2 st2 he2 w2 =>
    w2 F2 H2 v u _ st2.res ((x.sub s1).sub s2) (he.sub s2.sub) he2 fun z e3 F3 H3 R3 s3 r3 he3 ⟨b, eb, w3⟩ => by
      subst eb
      cases he3
      refine ⟨b, rfl, ?_⟩
      cases b with
      | true =>
        show tc σ H3 _
        rw [if_pos rfl] at w3
        exact w3 F3 H3 σ _ (st2.step s3.sub r3) (((x.sub s1).sub s2).sub s3) fun y4 e4 F4 H4 R4 s4 st4 he4 w4 =>
          w4 F4 H4 u y4 Q st4.res ((((x.sub s1).sub s2).sub s3).sub s4) (he2.sub (s3.tr s4).sub) he4 fun z5 e5 F5 H5 R5 s5 r5 he5 w5 => q z5 e5 F5 H5 R5 (s1.tr (s2.tr (s3.tr (s4.tr s5)))) (st4.step s5.sub r5) he5 w5
      | false =>
        show Q (.bl false) H3
        rw [if_neg Bool.false_ne_true] at w3
        exact q _ _ F3 H3 R3 (s1.tr (s2.tr s3)) (st2.step s3.sub r3) (eD (Rp.bl false)) w3

/-! ### dicts that change: keys by value, values data -/
def KVs (F : Hp) {κ : Type} : List (κ × V) → List (κ × PD) → Prop := Paired fun q e => q.1 = e.1 ∧ Rp F q.2 e.2
theorem KVs.sub {F F' : Hp} {κ : Type} (s : Sub F F') {xs : List (κ × V)} {ys : List (κ × PD)} (h : KVs F xs ys) : KVs F' xs ys := Paired.mono (fun _ _ z => ⟨z.1, rp_sub s _ _ z.2⟩) h
section
variable {κ : Type} [DecidableEq κ]
def lk (kvs : List (κ × PD)) (k : κ) : Option PD := (kvs.find? fun kv => decide (kv.1 = k)).map (·.2)
def pk (kvs : List (κ × PD)) (k : κ) (v : PD) : List (κ × PD) := if (lk kvs k).isSome then kvs.map (fun kv => if kv.1 = k then (kv.1, v) else kv) else kvs ++ [(k, v)]
theorem lk_nil (k : κ) : lk ([] : List (κ × PD)) k = none := rfl
theorem lk_cons (p : κ × PD) (r : List (κ × PD)) (k : κ) : lk (p :: r) k = if p.1 = k then some p.2 else lk r k := by
  unfold lk
  by_cases h : p.1 = k
  · simp [h]
  · simp [h]
theorem lk_append (a b : List (κ × PD)) (k : κ) : lk (a ++ b) k = match lk a k with
    | some v => some v
    | none => lk b k := by
  induction a with
  | nil => rfl
  | cons p r ih =>
    rw [List.cons_append, lk_cons, lk_cons, ih]
    by_cases h : p.1 = k <;> simp [h]
theorem kvs_lk {F : Hp} {xs : List (κ × V)} {ys : List (κ × PD)} (h : KVs F xs ys) (k : κ) : (lk ys k = none ∧ valV xs k = none) ∨ ∃ v d, lk ys k = some d ∧ valV xs k = some v ∧ Rp F v d := by
  induction h with
  | nil => exact .inl ⟨rfl, rfl⟩
  | @cons p q ps qs h0 t ih =>
    obtain ⟨e1, e2⟩ := h0
    rw [lk_cons]
    by_cases hk : q.1 = k
    · rw [if_pos hk]
      exact .inr ⟨p.2, q.2, rfl, valV_pos (e1.trans hk), e2⟩
    · rw [if_neg hk, valV_neg (fun z => hk (e1.symm.trans z))]
      exact ih
theorem kvs_len {F : Hp} {xs : List (κ × V)} {ys : List (κ × PD)} (h : KVs F xs ys) : xs.length = ys.length := Paired.length h
theorem kvs_snoc {F : Hp} {xs : List (κ × V)} {ys : List (κ × PD)} (h : KVs F xs ys) {k : κ} {v : V} {d : PD} (r : Rp F v d) : KVs F (xs ++ [(k, v)]) (ys ++ [(k, d)]) := Paired.snoc h ⟨rfl, r⟩
theorem kvs_put {F : Hp} {xs : List (κ × V)} {ys : List (κ × PD)} (h : KVs F xs ys) (k : κ) {v : V} {d : PD} (r : Rp F v d) : KVs F (putK xs k v) (pk ys k d) := by
  rcases kvs_lk h k with ⟨e1, e2⟩ | ⟨v0, d0, e1, e2, _⟩
  · rw [putK_new v e2]
    unfold pk
    rw [e1]
    exact kvs_snoc h r
  · unfold pk putK
    rw [e1, valV_any, e2, Option.isSome_some, Option.isSome_some, if_pos (Eq.refl true), if_pos (Eq.refl true)]
    clear e1 e2
    induction h with
    | nil => exact .nil
    | @cons p q ps qs h0 t ih =>
      obtain ⟨g1, g2⟩ := h0
      refine .cons ?_ ih
      show (if p.1 = k then (p.1, v) else p).1 = (if q.1 = k then (q.1, d) else q).1 ∧ Rp F (if p.1 = k then (p.1, v) else p).2 (if q.1 = k then (q.1, d) else q).2
      by_cases hk : q.1 = k
      · rw [if_pos hk, if_pos (g1.trans hk)]
        exact ⟨g1, r⟩
      · rw [if_neg hk, if_neg fun z => hk (g1.symm.trans z)]
        exact ⟨g1, g2⟩
theorem lk_map (k j : κ) (v : PD) : ∀ kvs : List (κ × PD), lk (kvs.map fun kv => if kv.1 = k then (kv.1, v) else kv) j = (lk kvs j).map fun x => if j = k then v else x
  | [] => rfl
  | p :: r => by
    rw [List.map_cons, lk_cons, lk_cons, lk_map k j v r]
    by_cases hk : p.1 = k
    · rw [if_pos hk]
      by_cases hj : p.1 = j
      · have e : j = k := hj.symm.trans hk
        subst e
        simp [hj]
      · simp [hj]
    · rw [if_neg hk]
      by_cases hj : p.1 = j
      · have e : ¬ j = k := fun z => hk (hj.trans z)
        simp [hj, e]
      · simp [hj]
theorem lk_pk (kvs : List (κ × PD)) (k j : κ) (v : PD) : lk (pk kvs k v) j = if j = k then some v else lk kvs j := by
  unfold pk
  cases e : lk kvs k with
  | none =>
    rw [if_neg (by simp), lk_append]
    by_cases h : j = k
    · subst h; rw [e]; simp [lk_cons]
    · have h2 : ¬ k = j := fun z => h z.symm
      rw [if_neg h]
      cases lk kvs j with
      | none => simp [lk_cons, lk_nil, h2]
      | some u => rfl
  | some u =>
    rw [if_pos (by simp), lk_map]
    by_cases h : j = k
    · subst h; rw [e]; simp
    · simp [h]
theorem pk_len (kvs : List (κ × PD)) (k : κ) (v : PD) : (pk kvs k v).length ≤ kvs.length + 1 := by
  unfold pk
  split
  · rw [List.length_map]; omega
  · rw [List.length_append]; simp
theorem pk_new {kvs : List (κ × PD)} {k : κ} {v : PD} (h : lk kvs k = none) : pk kvs k v = kvs ++ [(k, v)] := by
  unfold pk
  rw [h]
  rfl
end
def kD : Key → PD
  | .inl i => .int i
  | .inr s => .str s
theorem rpA_keys {F : Hp} : ∀ {k : List Key} {vs : List V}, RpA F vs (k.map kD) → vs = k.map kV
  | [], [], _ => rfl
  | .inl i :: k, _ :: _, .cons h t => by cases h; simp [rpA_keys t, kV]
  | .inr s :: k, _ :: _, .cons h t => by cases h; simp [rpA_keys t, kV]
def rDT (p : Addr) (kvs : List (List Key × PD)) : Res := ⟨[p], fun _ F H => ∃ xs, H p = some (.dT xs) ∧ KVs F xs kvs, fun ⟨xs, h1, h2⟩ s t => ⟨xs, t p (by simp) _ h1, h2.sub s⟩⟩
def rDK (p : Addr) (kvs : List (Key × PD)) : Res := ⟨[p], fun _ F H => ∃ xs, H p = some (.dK xs) ∧ KVs F xs kvs, fun ⟨xs, h1, h2⟩ s t => ⟨xs, t p (by simp) _ h1, h2.sub s⟩⟩
theorem ev_newT (k : ∀ p, W (.v (.ref p)) (R ++ [rDT p []])) : Ev c tDNewT ρ R W := fun F H σ Q st x q => fun p hp =>
  q _ _ F _ _ (.push (r := rDT p []) (.put hp) fun a ha => by simp [rDT] at ha; rw [ha]; exact hp) (st.push (r := rDT p []) (.put hp) ⟨[], upd_same, .nil⟩ (fun a ha => by simp [rDT] at ha; rw [ha]; exact hp) fun a ha => by simp [rDT] at ha; rw [ha]; exact ⟨_, upd_same⟩) eV (k p)
theorem ev_newK (k : ∀ p, W (.v (.ref p)) (R ++ [rDK p []])) : Ev c tDNewK ρ R W := fun F H σ Q st x q => fun p hp =>
  q _ _ F _ _ (.push (r := rDK p []) (.put hp) fun a ha => by simp [rDK] at ha; rw [ha]; exact hp) (st.push (r := rDK p []) (.put hp) ⟨[], upd_same, .nil⟩ (fun a ha => by simp [rDK] at ha; rw [ha]; exact hp) fun a ha => by simp [rDK] at ha; rw [ha]; exact ⟨_, upd_same⟩) eV (k p)
/-- what a dict entry (of any kind) holds at a key entry -/
def DAt (c : Ctx) (R : List Res) (o y : Ent) (r : Option PD) : Prop := ∀ F H v w, ROk c.K F H R → EntOk F v o → EntOk F w y → ∃ a z, v = .ref a ∧ DGet H a w z ∧ ((r = none ∧ z = none) ∨ ∃ d u, r = some d ∧ z = some u ∧ Rp F u d)
theorem dat_T {p : Addr} {j : Nat} {kvs : List (List Key × PD)} {k : List Key} (hj : R[j]? = some (rDT p kvs)) : DAt c R (.v (.ref p)) (.d (.tuple (k.map kD))) (lk kvs k) := fun F H v w ro hv hw => by
  cases hv
  obtain ⟨xs, h1, h2⟩ := ro.ok hj
  cases hw with
  | tup hs hr =>
  have e := rpA_keys hr
  subst e
  refine ⟨p, _, rfl, DGet.t h1 (ro.sub _ _ hs), ?_⟩
  rcases kvs_lk h2 k with ⟨e1, e2⟩ | ⟨v, d, e1, e2, e3⟩
  · exact .inl ⟨e1, e2⟩
  · exact .inr ⟨d, v, e1, e2, e3⟩
theorem dat_Ki {p : Addr} {j : Nat} {kvs : List (Key × PD)} {i : Int} (hj : R[j]? = some (rDK p kvs)) : DAt c R (.v (.ref p)) (.d (.int i)) (lk kvs (.inl i)) := fun F H v w ro hv hw => by
  cases hv
  obtain ⟨xs, h1, h2⟩ := ro.ok hj
  cases hw
  refine ⟨p, _, rfl, DGet.k (k := .inl i) h1, ?_⟩
  rcases kvs_lk h2 (.inl i) with ⟨e1, e2⟩ | ⟨v, d, e1, e2, e3⟩
  · exact .inl ⟨e1, e2⟩
  · exact .inr ⟨d, v, e1, e2, e3⟩
theorem ev_dget {td ty : TE} (h : Ev c td ρ R fun o R1 => Ev c ty ρ R1 fun y R2 => ∃ d, DAt c R2 o y (some d) ∧ W (.d d) R2) : Ev c (tDGet td ty) ρ R W :=
  fun F H σ Q st x q => h F H σ _ st x fun v e F1 H1 R1 s1 st1 he w1 => w1 F1 H1 σ _ st1 (x.sub s1) fun u e2 F2 H2 R2 s2 st2 he2 ⟨d, hd, w⟩ => by
    obtain ⟨a, z, e3, g, hz⟩ := hd F2 H2 v u st2.res (he.sub s2.sub) he2
    rcases hz with ⟨z1, _⟩ | ⟨d', u', z1, z2, z3⟩
    · cases z1
    · cases z1
      subst z2
      exact ⟨a, u', e3, g, q u' _ F2 H2 R2 (s1.tr s2) st2 (eD z3) w⟩
theorem ev_din {ty td : TE} (h : Ev c ty ρ R fun y R1 => Ev c td ρ R1 fun o R2 => ∃ r, DAt c R2 o y r ∧ W (.d (.bool r.isSome)) R2) : Ev c (tDIn ty td) ρ R W :=
  fun F H σ Q st x q => h F H σ _ st x fun v e F1 H1 R1 s1 st1 he w1 => w1 F1 H1 σ _ st1 (x.sub s1) fun u e2 F2 H2 R2 s2 st2 he2 ⟨r, hd, w⟩ => by
    obtain ⟨a, z, e3, g, hz⟩ := hd F2 H2 u v st2.res he2 (he.sub s2.sub)
    have ez : z.isSome = r.isSome := by
      rcases hz with ⟨z1, z2⟩ | ⟨_, _, z1, z2, _⟩ <;> rw [z1, z2] <;> rfl
    exact ⟨a, z, e3, g, q _ _ F2 H2 R2 (s1.tr s2) st2 (eD (Rp.bl _)) (by rw [ez]; exact w)⟩
theorem ev_dnotin {ty td : TE} (h : Ev c ty ρ R fun y R1 => Ev c td ρ R1 fun o R2 => ∃ r, DAt c R2 o y r ∧ W (.d (.bool (!r.isSome))) R2) : Ev c (tDNotIn ty td) ρ R W :=
  fun F H σ Q st x q => h F H σ _ st x fun v e F1 H1 R1 s1 st1 he w1 => w1 F1 H1 σ _ st1 (x.sub s1) fun u e2 F2 H2 R2 s2 st2 he2 ⟨r, hd, w⟩ => by
    obtain ⟨a, z, e3, g, hz⟩ := hd F2 H2 u v st2.res he2 (he.sub s2.sub)
    have ez : z.isSome = r.isSome := by
      rcases hz with ⟨z1, z2⟩ | ⟨_, _, z1, z2, _⟩ <;> rw [z1, z2] <;> rfl
    exact ⟨a, z, e3, g, q _ _ F2 H2 R2 (s1.tr s2) st2 (eD (Rp.bl _)) (by rw [ez]; exact w)⟩
/-- a store into a dict: what the things are behind it -/
def DSet (c : Ctx) (R : List Res) (o y x : Ent) (R' : List Res) : Prop := ∀ F H v w u, ROk c.K F H R → EntOk F v o → EntOk F w y → EntOk F u x → ∃ a H', v = .ref a ∧ DPut H a w u H' ∧ ROk c.K F H' R' ∧ Stp F H R F H' R'
theorem ro_one {K : Frag} {F H : Hp} {p : Addr} {j : Nat} {r r' : Res} {o : HO} (ro : ROk K F H R) (hj : R[j]? = some r) (hp : p ∈ r.fp) (hfp : ∀ a ∈ r'.fp, a ∈ r.fp) (ok : r'.ok K F (upd H p o)) : ROk K F (upd H p o) (R.set j r') ∧ Stp F H R F (upd H p o) (R.set j r') := by
  have hf := ro.fn hj p hp
  have n : ∀ a u, ¬ a ∈ r.fp → H a = some u → upd H p o a = some u := fun a u ha e => by rw [upd_ne fun q => ha (by rw [q]; exact hp)]; exact e
  refine ⟨ro.chg hj Sub.rfl (fun a u e => ?_) hfp ok (fun a ha => ?_) n fun a u hn _ _ => hn, .chg hj Sub.rfl hfp n fun a u hn _ _ => hn⟩
  · rw [upd_ne (ne_of_none e hf)]
    exact ro.sub a u e
  · by_cases q : a = p
    · rw [q]; exact ⟨_, upd_same⟩
    · obtain ⟨u, e⟩ := ro.hn hj a (hfp a ha)
      exact ⟨u, by rw [upd_ne q]; exact e⟩
theorem dset_T {p : Addr} {j : Nat} {kvs : List (List Key × PD)} {k : List Key} {d : PD} (hj : R[j]? = some (rDT p kvs)) (hl : kvs.length < 10000000) : DSet c R (.v (.ref p)) (.d (.tuple (k.map kD))) (.d d) (R.set j (rDT p (pk kvs k d))) := fun F H v w u ro hv hw hu => by
  cases hv
  obtain ⟨xs, h1, h2⟩ := ro.ok hj
  cases hw with
  | tup hs hr =>
  have e := rpA_keys hr
  subst e
  have l := kvs_len h2
  obtain ⟨r1, r2⟩ := ro_one (r' := rDT p (pk kvs k d)) (o := .dT (putK xs k u)) ro hj (by simp [rDT]) (fun a ha => ha) ⟨_, upd_same, kvs_put h2 k hu⟩
  exact ⟨p, _, rfl, DPut.t h1 (ro.sub _ _ hs) (Nat.lt_of_lt_of_le (by omega : xs.length < 10000000) (by decide)), r1, r2⟩
theorem dset_Ki {p : Addr} {j : Nat} {kvs : List (Key × PD)} {i : Int} {d : PD} (hj : R[j]? = some (rDK p kvs)) (hl : kvs.length < 10000000) : DSet c R (.v (.ref p)) (.d (.int i)) (.d d) (R.set j (rDK p (pk kvs (.inl i) d))) := fun F H v w u ro hv hw hu => by
  cases hv
  obtain ⟨xs, h1, h2⟩ := ro.ok hj
  cases hw
  have l := kvs_len h2
  obtain ⟨r1, r2⟩ := ro_one (r' := rDK p (pk kvs (.inl i) d)) (o := .dK (putK xs (.inl i) u)) ro hj (by simp [rDK]) (fun a ha => ha) ⟨_, upd_same, kvs_put h2 (.inl i) hu⟩
  exact ⟨p, _, rfl, DPut.k (k := .inl i) h1 (Nat.lt_of_lt_of_le (by omega : xs.length < 10000000) (by decide)), r1, r2⟩
theorem sv_dput {td ty tv : TE} (h : Ev c tv ρ R fun x R1 => Ev c td ρ R1 fun o R2 => Ev c ty ρ R2 fun y R3 => ∃ R', DSet c R3 o y x R' ∧ P.nx ρ R') : Sv c (sDPut td ty tv) ρ R P := fun F H σ D st x d =>
  h F H σ _ st x fun v e F1 H1 R1 s1 st1 he w1 => w1 F1 H1 σ _ st1 (x.sub s1) fun u e2 F2 H2 R2 s2 st2 he2 w2 => w2 F2 H2 σ _ st2 ((x.sub s1).sub s2) fun z e3 F3 H3 R3 s3 st3 he3 ⟨R', hd, w⟩ => by
    obtain ⟨a, H4, e4, g, r4, s4⟩ := hd F3 H3 u z v st3.res (he2.sub s3.sub) he3 (he.sub (s2.tr s3).sub)
    exact ⟨a, H4, e4, g, d.nx (s1.tr (s2.tr (s3.tr s4))) (st3.step s4.sub r4) w⟩
/-! ### slices, sums of tuples -/
def OpS (c : Ctx) (r : V → Option Int → Option Int → Hp → VK → Prop) (x : Ent) (lo hi : Option Int) (R : List Res) (W : We) : Prop :=
  ∀ F H v Q, ROk c.K F H R → EOk c F H R → EntOk F v x → (∀ u e F' H' R', Stp F H R F' H' R' → ROk c.K F' H' R' → EntOk F' u e → W e R' → Q u H') → r v lo hi H Q
def EvO (c : Ctx) (to : TO) (ρ : Rho) (R : List Res) (W : Option Int → List Res → Prop) : Prop :=
  ∀ F H σ Q, Sta c.K F H σ ρ R → EOk c F H R → (∀ o F' H' R', Stp F H R F' H' R' → Sta c.K F' H' σ ρ R' → W o R' → Q o H') → to σ H Q
theorem eo_no {W : Option Int → List Res → Prop} (k : W none R) : EvO c tNoPart ρ R W := fun F H σ Q st x q => q none F H R .rfl st k
theorem eo_some {te : TE} {W : Option Int → List Res → Prop} (h : Ev c te ρ R fun e R1 => ∃ i, e = .d (.int i) ∧ W (some i) R1) : EvO c (tPart te) ρ R W :=
  fun F H σ Q st x q => h F H σ _ st x fun v e F1 H1 R1 s1 st1 he ⟨i, ei, w⟩ => by
    subst ei
    cases he
    exact ⟨i, rfl, q _ F1 H1 R1 s1 st1 w⟩
theorem ev_sl {r : V → Option Int → Option Int → Hp → VK → Prop} {te : TE} {tl th : TO} (h : Ev c te ρ R fun x R1 => EvO c tl ρ R1 fun lo R2 => EvO c th ρ R2 fun hi R3 => OpS c r x lo hi R3 W) : Ev c (tSl r te tl th) ρ R W :=
  fun F H σ Q st x q => h F H σ _ st x fun v e F1 H1 R1 s1 st1 he w1 => w1 F1 H1 σ _ st1 (x.sub s1) fun lo F2 H2 R2 s2 st2 w2 => w2 F2 H2 σ _ st2 ((x.sub s1).sub s2) fun hi F3 H3 R3 s3 st3 w3 =>
    w3 F3 H3 v Q st3.res (((x.sub s1).sub s2).sub s3) (he.sub (s2.tr s3).sub) fun z e5 F5 H5 R5 s5 r5 he5 w5 => q z e5 F5 H5 R5 (s1.tr (s2.tr (s3.tr s5))) (st3.step s5.sub r5) he5 w5
def cutD (ds : List PD) (lo hi : Option Int) : List PD := (ds.drop (HT.sIx ds.length 0 lo)).take (HT.sIx ds.length ds.length hi - HT.sIx ds.length 0 lo)
theorem rpA_cut {F : Hp} {vs : List V} {ds : List PD} (h : RpA F vs ds) (lo hi : Option Int) : RpA F (cutV vs lo hi) (cutD ds lo hi) := by
  unfold cutV cutD
  rw [h.len]
  exact (h.drop _).take _
theorem o_slL {ds : List PD} {lo hi : Option Int} (k : W (.d (.list (cutD ds lo hi))) R) : OpS c (rSlL c.K) (.d (.list ds)) lo hi R W := fun F H v Q ro eo hx q => by
  cases hx with
  | lst hs hr =>
  exact ⟨_, _, rfl, SqL.of (ro.sub _ _ hs), fun p hp => q _ _ _ _ R (.imm (ro.sub.none hp) hp) (ro.imm hp) (eD (Rp.lst upd_same (rpA_sub (.put (ro.sub.none hp)) _ _ (rpA_cut hr lo hi)))) k⟩
theorem o_slT {ds : List PD} {lo hi : Option Int} (hw : ¬ (HT.sIx ds.length 0 lo = 0 ∧ HT.sIx ds.length ds.length hi = ds.length)) (k : W (.d (.tuple (cutD ds lo hi))) R) : OpS c (rSlT c.K) (.d (.tuple ds)) lo hi R W := fun F H v Q ro eo hx q => by
  cases hx with
  | tup hs hr =>
  exact ⟨_, _, rfl, SqT.of (ro.sub _ _ hs), by rw [hr.len]; exact hw, fun p hp => q _ _ _ _ R (.imm (ro.sub.none hp) hp) (ro.imm hp) (eD (Rp.tup upd_same (rpA_sub (.put (ro.sub.none hp)) _ _ (rpA_cut hr lo hi)))) k⟩
theorem o_slS {z : Str} {lo hi : Option Int} (hl : z.length ≤ 100000) (k : W (.d (.str (cutS z lo hi))) R) : OpS c rSlS (.d (.str z)) lo hi R W := fun F H v Q ro eo hx q => by
  cases hx
  exact ⟨z, rfl, Nat.le_trans hl (by decide), q _ _ F H R .rfl ro (eD (Rp.str _)) k⟩
theorem cutD_from (ds : List PD) (n : Nat) (h : n ≤ ds.length) : cutD ds (some (n : Int)) none = ds.drop n := by
  have e : HT.sIx ds.length 0 (some (n : Int)) = n := by
    simp only [HT.sIx]
    first | omega | (split <;> first | omega | (split <;> omega))
  have e2 : HT.sIx ds.length ds.length none = ds.length := rfl
  unfold cutD
  rw [e, e2, List.take_of_length_le]
  rw [List.length_drop]
  omega
theorem o_catT {ds es : List PD} (h0 : ds ≠ []) (hl : ds.length + es.length ≤ 100000) (k : W (.d (.tuple (ds ++ es))) R) : Op2 c (rCatT c.K) (.d (.tuple ds)) (.d (.tuple es)) R W := fun F H v w Q ro eo hx hy q => by
  cases hx with
  | @tup a xs _ hs hr =>
  cases hy with
  | @tup b ys _ hs2 hr2 =>
  have l1 := hr.len
  have l2 := hr2.len
  refine ⟨_, _, xs, ys, rfl, rfl, SqT.of (ro.sub _ _ hs), SqT.of (ro.sub _ _ hs2), fun e => h0 (by cases hr with | nil => rfl | cons => cases e), Nat.le_trans (by omega : _ + _ ≤ 100000) (by decide), fun e => ?_, fun _ p hp => ?_⟩
  · subst e
    cases hr2
    rw [List.append_nil] at k
    exact q _ _ F H R .rfl ro (eD (Rp.tup hs hr)) k
  · exact q _ _ _ _ R (.imm (ro.sub.none hp) hp) (ro.imm hp) (eD (Rp.tup upd_same (rpA_sub (.put (ro.sub.none hp)) _ _ (hr.app hr2)))) k
end
end SE
end
section
set_option Elab.async false
set_option linter.all false
set_option maxRecDepth 100000
set_option maxHeartbeats 8000000
namespace SE
open PySem PySem.Spec PyProof.Rows L2

/-- where the classes and the written dicts stand -/
structure Adr where
  c_Book : Addr
  c_BookError : Addr
  c_NoOrder : Addr
  c_NoSentence : Addr
  c_NoMark : Addr
  c_NoRoom : Addr
  c_NoWord : Addr
  c_NoRow : Addr
  c_NoNumber : Addr
  c_NoWeights : Addr
  c_NoShares : Addr
  c_NoCover : Addr
  c_TooGreat : Addr
  c_NoNote : Addr
  g_PIECES : Addr
  g_TABLES : Addr

/-! ### written dicts -/
def KTab (K : Frag) (w : World) (d : Addr) (tab : List (Str × V)) : Prop :=
  (∃ es n, KDict K w d es n) ∧ ∀ z, ∃ r, PySem.W.nsIn K d z = some r ∧ RelO (tab.lookup z) r
def rInKd (tab : List (Str × V)) (d : Addr) (neg : Bool) : R2 := fun x y H Q => ∃ z, x = .str z ∧ y = .ref d ∧ Q (.bl (if neg then !(tab.lookup z).isSome else (tab.lookup z).isSome)) H
def rIxKd (tab : List (Str × V)) (d : Addr) : R2 := fun x y H Q => ∃ z v, x = .ref d ∧ y = .str z ∧ tab.lookup z = some v ∧ Q v H
section
variable {X : Cx} {d : Addr} {tab : List (Str × V)}
theorem x_inKd (T : KTab X.K X.w d tab) : OpR X (compareOp .In) (rInKd tab d false) := by
  obtain ⟨⟨es, n, D⟩, T⟩ := T
  intro pins s σ H x y v u Q I rx ry h
  obtain ⟨z, rfl, rfl, q⟩ := h
  obtain ⟨r, h1, h2⟩ := T z
  refine op_in_kd D pins s σ H _ _ v u Q I rx ry ⟨z, r, rfl, rfl, h1, ?_⟩
  rw [← h2.isSome_eq]
  exact q
theorem x_niKd (T : KTab X.K X.w d tab) : OpR X (compareOp .NotIn) (rInKd tab d true) := by
  obtain ⟨⟨es, n, D⟩, T⟩ := T
  intro pins s σ H x y v u Q I rx ry h
  obtain ⟨z, rfl, rfl, q⟩ := h
  obtain ⟨r, h1, h2⟩ := T z
  refine op_notIn_kd D pins s σ H _ _ v u Q I rx ry ⟨z, r, rfl, rfl, h1, ?_⟩
  rw [← h2.isSome_eq]
  exact q
theorem x_ixKd (T : KTab X.K X.w d tab) : IxR X (rIxKd tab d) := by
  obtain ⟨⟨es, n, D⟩, T⟩ := T
  intro value slice pins s σ H x y v u Q I rx ry h hs
  obtain ⟨z, v0, rfl, rfl, hv, q⟩ := h
  obtain ⟨r, h1, h2⟩ := T z
  rw [hv] at h2
  cases r with
  | none => exact False.elim h2
  | some u0 => exact ix_kdict value slice pins s σ H _ _ v u Q I rx ry ⟨d, z, v0, rfl, rfl, ⟨es, n, u0, D.at_, D.lit, h1, h2⟩, q⟩ hs
end
section
variable {c : Ctx} {R : List Res} {W : We} {ρ : Rho} {P : Post} {d : Addr} {tab : List (Str × V)}
theorem o_inKd {neg : Bool} {z : Str} (k : W (.d (.bool (if neg then !(tab.lookup z).isSome else (tab.lookup z).isSome))) R) : Op2 c (rInKd tab d neg) (.d (.str z)) (.v (.ref d)) R W :=
  o2_pure (fun F H a b ro ha hb => ⟨_, eD (Rp.bl _), fun Q q => by cases ha; cases hb; exact ⟨z, rfl, rfl, q⟩⟩) k
theorem o_ixKd {z : Str} {v : V} {x : PD} (h : tab.lookup z = some v) (hx : sc x = some v) (k : W (.d x) R) : Op2 c (rIxKd tab d) (.v (.ref d)) (.d (.str z)) R W := fun F H a b Q ro eo ha hb q => by
  cases hb
  cases ha
  refine ⟨z, v, rfl, rfl, h, q v (.d x) F H R .rfl ro ?_ k⟩
  show Rp F v x
  cases x with
  | none => cases hx; exact .non
  | bool b => cases hx; exact .bl b
  | int b => cases hx; exact .int b
  | str b => cases hx; exact .str b
  | list _ => cases hx
  | tuple _ => cases hx
  | dict _ => cases hx

/-! ### the book -/
structure BkA where
  b : Addr
  dx : Addr
  m : Addr
  r : Addr
  p : Addr
structure Bk where
  marks : List Str
  rows : List (Str × Nat × Nat)
  pl : List (List Key × PD)
def bfs (k : BkA) : List (Str × V) := [("marks", .ref k.m), ("rows", .ref k.r), ("places", .ref k.p)]
theorem bl_rows (k : BkA) : (bfs k).lookup ("rows" : Str) = some (.ref k.r) := by
  have h : (("rows" : Str) == "marks") = false := by decide +kernel
  simp [bfs, List.lookup, h]
theorem bl_places (k : BkA) : (bfs k).lookup ("places" : Str) = some (.ref k.p) := by
  have h : (("places" : Str) == "marks") = false := by decide +kernel
  have h2 : (("places" : Str) == "rows") = false := by decide +kernel
  simp [bfs, List.lookup, h, h2]
def rowD (x : Str × Nat × Nat) : PD := .tuple [.str x.1, .int x.2.1, .int x.2.2]
def rowsD (B : Bk) : List PD := .none :: .none :: B.rows.map rowD
def marksD (B : Bk) : List PD := B.marks.map .str
structure BCls (K : Frag) (C : Addr) : Prop where
  cl : Cls K C
  nm : NoAttr K C "marks"
  nr : NoAttr K C "rows"
  np : NoAttr K C "places"
def bookOk (C : Addr) (k : BkA) (B : Bk) (K : Frag) (F H : Hp) : Prop :=
  F k.b = some (.ins C k.dx (bfs k)) ∧ BCls K C ∧ (∃ vs, F k.m = some (.lst vs) ∧ RpA F vs (marksD B)) ∧ (∃ vs, H k.r = some (.lst vs) ∧ RpA F vs (rowsD B)) ∧ ∃ xs, H k.p = some (.dT xs) ∧ KVs F xs B.pl
def rBook (C : Addr) (k : BkA) (B : Bk) : Res := ⟨[k.r, k.p], bookOk C k B, fun ⟨h1, h2, ⟨ms, h3, h3'⟩, ⟨vs, h4, h5⟩, xs, h6, h7⟩ s t =>
  ⟨s _ _ h1, h2, ⟨ms, s _ _ h3, rpA_sub s _ _ h3'⟩, ⟨vs, t k.r (by simp) _ h4, rpA_sub s _ _ h5⟩, xs, t k.p (by simp) _ h6, h7.sub s⟩⟩
variable {C : Addr} {k : BkA} {B : Bk} {j : Nat}
theorem bk_ins {K : Frag} (hj : R[j]? = some (rBook C k B)) {m : Str} (hm : (bfs k).lookup m = none) : InsR K R k.b C m := fun F H ro => by
  obtain ⟨h1, _⟩ := ro.ok hj
  exact ⟨k.dx, bfs k, ro.sub _ _ h1, hm⟩
theorem bk_marks {K : Frag} (hj : R[j]? = some (rBook C k B)) : FldR K R k.b "marks" (.d (.list (marksD B))) := fun F H ro => by
  obtain ⟨h1, h2, ⟨ms, h3, h4⟩, _⟩ := ro.ok hj
  exact ⟨C, k.dx, bfs k, .ref k.m, ro.sub _ _ h1, h2.cl, h2.nm, rfl, Rp.lst h3 h4⟩
theorem bk_rows {K : Frag} (hj : R[j]? = some (rBook C k B)) : FldR K R k.b "rows" (.v (.ref k.r)) := fun F H ro => by
  obtain ⟨h1, h2, _⟩ := ro.ok hj
  exact ⟨C, k.dx, bfs k, .ref k.r, ro.sub _ _ h1, h2.cl, h2.nr, bl_rows k, rfl⟩
theorem bk_places {K : Frag} (hj : R[j]? = some (rBook C k B)) : FldR K R k.b "places" (.v (.ref k.p)) := fun F H ro => by
  obtain ⟨h1, h2, _⟩ := ro.ok hj
  exact ⟨C, k.dx, bfs k, .ref k.p, ro.sub _ _ h1, h2.cl, h2.np, bl_places k, rfl⟩
/-- book.rows[i], len(book.rows) -/
theorem o_ixRows {i : Int} {x : PD} (hj : R[j]? = some (rBook C k B)) (h : atI (rowsD B) i = some x) (w : W (.d x) R) : Op2 c (rIx c.K) (.v (.ref k.r)) (.d (.int i)) R W := fun F H v u Q ro eo hx hy q => by
  cases hy
  cases hx
  obtain ⟨_, _, _, ⟨xs, g1, g2⟩, _⟩ := ro.ok hj
  obtain ⟨l, h1, h2⟩ := atI_map g2.len h
  obtain ⟨u, h3, h4⟩ := g2.get h1
  exact .inl ⟨k.r, xs, i, u, rfl, rfl, SqL.of g1, h2 u h3, q u _ F H R .rfl ro (eD h4) w⟩
theorem o_lenRows (hj : R[j]? = some (rBook C k B)) (w : W (.d (.int (B.rows.length + 2 : Nat))) R) : OpL c (rLenX c.K) [.v (.ref k.r)] R W :=
  oL_pure (fun F H vs ro h => by
    cases h with
    | cons h1 t =>
    cases t
    cases h1
    obtain ⟨_, _, _, ⟨xs, g1, g2⟩, _⟩ := ro.ok hj
    have l := g2.len
    exact ⟨_, eD (Rp.int _), fun Q q => ⟨_, _, rfl, .inl ⟨_, SqL.of g1, by rw [l]; simp [rowsD]⟩, q⟩⟩) w
theorem ty_rows (hj : R[j]? = some (rBook C k B)) : TyOk c "list" (.v (.ref k.r)) R := fun F H v ro e => by
  cases e
  obtain ⟨_, _, _, ⟨xs, g1, g2⟩, _⟩ := ro.ok hj
  exact .inl ⟨rfl, _, SqL.of g1⟩
theorem o_slRows {lo hi : Option Int} (hj : R[j]? = some (rBook C k B)) (w : W (.d (.list (cutD (rowsD B) lo hi))) R) : OpS c (rSlL c.K) (.v (.ref k.r)) lo hi R W := fun F H v Q ro eo hx q => by
  cases hx
  obtain ⟨_, _, _, ⟨xs, g1, g2⟩, _⟩ := ro.ok hj
  exact ⟨_, _, rfl, SqL.of g1, fun p hp => q _ _ _ _ R (.imm (ro.sub.none hp) hp) (ro.imm hp) (eD (Rp.lst upd_same (rpA_sub (.put (ro.sub.none hp)) _ _ (rpA_cut g2 lo hi)))) w⟩
/-- book.rows.append(row) -/
theorem o_appRows {x : Str × Nat × Nat} (hj : R[j]? = some (rBook C k B)) (hl : B.rows.length < 10000000) (w : W (.d .none) (R.set j (rBook C k { B with rows := B.rows ++ [x] }))) : OpM c rAppend (.v (.ref k.r)) [.d (rowD x)] R W := fun F H v vs Q ro eo hx hxs q => by
  cases hx
  cases hxs with
  | cons h1 t =>
  cases t
  obtain ⟨b1, b2, b3, ⟨xs, g1, g2⟩, ps, b4, b5⟩ := ro.ok hj
  have hl2 := g2.len
  have ne : k.p ≠ k.r := ne_of b4 g1 (by intro z; cases z)
  have g3 := g2.app (.cons h1 .nil)
  obtain ⟨r1, r2⟩ := ro_one (r' := rBook C k { B with rows := B.rows ++ [x] }) (o := .lst (xs ++ [_])) ro hj (p := k.r) (by simp [rBook]) (fun a ha => ha)
    ⟨b1, b2, b3, ⟨_, upd_same, by simpa [rowsD] using g3⟩, ps, by rw [upd_ne ne]; exact b4, b5⟩
  exact ⟨k.r, xs, _, rfl, rfl, g1, Nat.lt_of_lt_of_le (by rw [hl2]; simp [rowsD]; omega : xs.length < 10000003) (by decide), q _ _ _ _ _ r2 r1 (eD Rp.non) w⟩
theorem dat_P {ks : List Key} (hj : R[j]? = some (rBook C k B)) : DAt c R (.v (.ref k.p)) (.d (.tuple (ks.map kD))) (lk B.pl ks) := fun F H v w ro hv hw => by
  cases hv
  obtain ⟨_, _, _, _, xs, h1, h2⟩ := ro.ok hj
  cases hw with
  | tup hs hr =>
  have e := rpA_keys hr
  subst e
  refine ⟨k.p, _, rfl, DGet.t h1 (ro.sub _ _ hs), ?_⟩
  rcases kvs_lk h2 ks with ⟨e1, e2⟩ | ⟨v, d, e1, e2, e3⟩
  · exact .inl ⟨e1, e2⟩
  · exact .inr ⟨d, v, e1, e2, e3⟩
theorem dset_P {ks : List Key} {x : PD} (hj : R[j]? = some (rBook C k B)) (hl : B.pl.length < 10000000) : DSet c R (.v (.ref k.p)) (.d (.tuple (ks.map kD))) (.d x) (R.set j (rBook C k { B with pl := pk B.pl ks x })) := fun F H v w u ro hv hw hu => by
  cases hv
  obtain ⟨b1, b2, b3, ⟨vs, g1, g2⟩, xs, h1, h2⟩ := ro.ok hj
  cases hw with
  | tup hs hr =>
  have e := rpA_keys hr
  subst e
  have l := kvs_len h2
  have ne : k.r ≠ k.p := ne_of g1 h1 (by intro z; cases z)
  obtain ⟨r1, r2⟩ := ro_one (r' := rBook C k { B with pl := pk B.pl ks x }) (o := .dT (putK xs ks u)) ro hj (p := k.p) (by simp [rBook]) (fun a ha => ha)
    ⟨b1, b2, b3, ⟨vs, by rw [upd_ne ne]; exact g1, g2⟩, _, upd_same, kvs_put h2 ks hu⟩
  exact ⟨k.p, _, rfl, DPut.t h1 (ro.sub _ _ hs) (Nat.lt_of_lt_of_le (by omega : xs.length < 10000000) (by decide)), r1, r2⟩

/-! ### a book is made -/
theorem sv_fld {f : Str} {ta tv : TE} (h : Ev c tv ρ R fun e R1 => Ev c ta ρ R1 fun o R2 => ∃ u x j C dx fs, e = .v u ∧ o = .v (.ref x) ∧ R2[j]? = some (rInst x C dx fs) ∧ Cls c.K C ∧ NoAttr c.K C f ∧ fs.length < 1000 ∧ P.nx ρ (R2.set j (rInst x C dx (putF f u fs)))) : Sv c (sFld c.K ta tv f) ρ R P := fun F H σ D st x d =>
  h F H σ _ st x fun v e F1 H1 R1 s1 st1 he w1 => w1 F1 H1 σ _ st1 (x.sub s1) fun o e2 F2 H2 R2 s2 st2 he2 ⟨u, a, j, C, dx, fs, e3, e4, hj, h1, h2, h3, w⟩ => by
    subst e3
    subst e4
    cases he
    cases he2
    have g : H2 a = some (.ins C dx fs) := st2.res.ok hj
    obtain ⟨r1, r2⟩ := ro_one (r' := rInst a C dx (putF f v fs)) (o := .ins C dx (putF f v fs)) st2.res hj (p := a) (by simp [rInst]) (fun b hb => hb) (upd_same)
    exact ⟨a, C, dx, fs, rfl, g, h1, h2, h3, d.nx (s1.tr (s2.tr r2)) (st2.step r2.sub r1) w⟩
/-- the things may be seen otherwise -/
theorem sv_conv {t : TS} {R' : List Res} (h0 : ∀ F H, ROk c.K F H R → ∃ F', Stp F H R F' H R' ∧ ROk c.K F' H R') (h : Sv c t ρ R' P) : Sv c t ρ R P := fun F H σ D st x d => by
  obtain ⟨F', s, r⟩ := h0 F H st.res
  exact h F' H σ D (st.step s.sub r) (x.sub s) (d.sub s)
theorem mk_book {K : Frag} {C x dx m r p : Addr} {ss : List Str} (bc : BCls K C) {F H : Hp} (ro : ROk K F H (R ++ [rInst x C dx (bfs ⟨x, dx, m, r, p⟩), rLst m (ss.map .str), rLst r [.none, .none], rDT p []])) :
    ∃ F', Stp F H (R ++ [rInst x C dx (bfs ⟨x, dx, m, r, p⟩), rLst m (ss.map .str), rLst r [.none, .none], rDT p []]) F' H (R ++ [rBook C ⟨x, dx, m, r, p⟩ ⟨ss, [], []⟩]) ∧ ROk K F' H (R ++ [rBook C ⟨x, dx, m, r, p⟩ ⟨ss, [], []⟩]) := by
  have i0 : (R ++ [rInst x C dx (bfs ⟨x, dx, m, r, p⟩), rLst m (ss.map .str), rLst r [.none, .none], rDT p []])[R.length]? = some (rInst x C dx (bfs ⟨x, dx, m, r, p⟩)) := by simp
  have i1 : (R ++ [rInst x C dx (bfs ⟨x, dx, m, r, p⟩), rLst m (ss.map .str), rLst r [.none, .none], rDT p []])[R.length + 1]? = some (rLst m (ss.map .str)) := by rw [List.getElem?_append_right (by omega)]; simp
  have i2 : (R ++ [rInst x C dx (bfs ⟨x, dx, m, r, p⟩), rLst m (ss.map .str), rLst r [.none, .none], rDT p []])[R.length + 2]? = some (rLst r [.none, .none]) := by rw [List.getElem?_append_right (by omega)]; simp
  have i3 : (R ++ [rInst x C dx (bfs ⟨x, dx, m, r, p⟩), rLst m (ss.map .str), rLst r [.none, .none], rDT p []])[R.length + 3]? = some (rDT p []) := by rw [List.getElem?_append_right (by omega)]; simp
  generalize hRR : (R ++ [rInst x C dx (bfs ⟨x, dx, m, r, p⟩), rLst m (ss.map .str), rLst r [.none, .none], rDT p []]) = RR at ro i0 i1 i2 i3 ⊢
  have up : ∀ {i : Nat} {q : Res}, R[i]? = some q → RR[i]? = some q ∧ i < R.length := fun {i q} h => by
    have hl := (List.getElem?_eq_some_iff.mp h).1
    rw [← hRR, List.getElem?_append_left hl]
    exact ⟨h, hl⟩
  have hx : H x = some (.ins C dx (bfs ⟨x, dx, m, r, p⟩)) := ro.ok i0
  obtain ⟨ms, hm, hm2⟩ := ro.ok i1
  obtain ⟨rs, hr, hr2⟩ := ro.ok i2
  obtain ⟨ps, hp, hp2⟩ := ro.ok i3
  have fx : F x = none := ro.fn i0 x (by simp [rInst])
  have fm : F m = none := ro.fn i1 m (by simp [rLst])
  have fr : F r = none := ro.fn i2 r (by simp [rLst])
  have fp : F p = none := ro.fn i3 p (by simp [rDT])
  have xm : x ≠ m := ne_of hx hm (by intro z; cases z)
  have rm : r ≠ m := fun e => ro.dj i2 i1 (by omega) r (by simp [rLst]) (by simp [rLst, e])
  have rx : r ≠ x := ne_of hr hx (by intro z; cases z)
  have px : p ≠ x := ne_of hp hx (by intro z; cases z)
  have pm : p ≠ m := ne_of hp hm (by intro z; cases z)
  have pr : p ≠ r := ne_of hp hr (by intro z; cases z)
  have fm2 : (upd F x (.ins C dx (bfs ⟨x, dx, m, r, p⟩))) m = none := by rw [upd_ne xm.symm]; exact fm
  refine ⟨upd (upd F x (.ins C dx (bfs ⟨x, dx, m, r, p⟩))) m (.lst ms), ?_⟩
  have s : Sub F (upd (upd F x (.ins C dx (bfs ⟨x, dx, m, r, p⟩))) m (.lst ms)) := (Sub.put fx).tr (.put fm2)
  have s2 : Sub (upd (upd F x (.ins C dx (bfs ⟨x, dx, m, r, p⟩))) m (.lst ms)) H := fun a o e => by
    by_cases q : a = m
    · subst q; rw [upd_same] at e; rw [hm]; exact e
    · rw [upd_ne q] at e
      by_cases q2 : a = x
      · subst q2; rw [upd_same] at e; rw [hx]; exact e
      · rw [upd_ne q2] at e; exact ro.sub a o e
  have off : ∀ {a}, a ≠ x → a ≠ m → (upd (upd F x (.ins C dx (bfs ⟨x, dx, m, r, p⟩))) m (.lst ms)) a = F a := fun h1 h2 => by rw [upd_ne h2, upd_ne h1]
  have ok : (rBook C ⟨x, dx, m, r, p⟩ ⟨ss, [], []⟩).ok K (upd (upd F x (.ins C dx (bfs ⟨x, dx, m, r, p⟩))) m (.lst ms)) H :=
    ⟨by rw [upd_ne xm]; exact upd_same, bc, ⟨ms, upd_same, rpA_sub s _ _ hm2⟩, ⟨rs, hr, rpA_sub s _ _ hr2⟩, ps, hp, hp2.sub s⟩
  have at_ : ∀ {i : Nat} {q : Res}, (R ++ [rBook C ⟨x, dx, m, r, p⟩ ⟨ss, [], []⟩])[i]? = some q → (i = R.length ∧ q = rBook C ⟨x, dx, m, r, p⟩ ⟨ss, [], []⟩) ∨ (R[i]? = some q) := fun {i q} h => by
    by_cases e : i < R.length
    · rw [List.getElem?_append_left e] at h
      exact .inr h
    · have hl := (List.getElem?_eq_some_iff.mp h).1
      rw [List.length_append] at hl
      have e2 : i = R.length := by simp at hl; omega
      subst e2
      rw [List.getElem?_append_right (Nat.le_refl _)] at h
      simp at h
      exact .inl ⟨rfl, h.symm⟩
  have nx : ∀ {i : Nat} {q : Res}, R[i]? = some q → ∀ a ∈ q.fp, a ≠ x ∧ a ≠ m ∧ a ≠ r ∧ a ≠ p := fun {i q} h a ha => by
    obtain ⟨h1, h2⟩ := up h
    refine ⟨fun e => ro.dj h1 i0 (by omega) a ha (by simp [rInst, e]), fun e => ro.dj h1 i1 (by omega) a ha (by simp [rLst, e]), fun e => ro.dj h1 i2 (by omega) a ha (by simp [rLst, e]), fun e => ro.dj h1 i3 (by omega) a ha (by simp [rDT, e])⟩
  have bfp : ∀ {a}, a ∈ (rBook C ⟨x, dx, m, r, p⟩ ⟨ss, [], []⟩).fp → a = r ∨ a = p := fun h => by simpa [rBook] using h
  refine ⟨⟨s, fun {a o} h n => ⟨h, fun {i q} hq ha => ?_⟩, fun {a o} f h n => ?_⟩, ⟨s2, fun {i q} h => ?_, fun {i q} h a ha => ?_, fun {i q} h a ha => ?_, fun {i j q u} h1 h2 ne a ha => ?_⟩⟩
  · rcases at_ hq with ⟨_, rfl⟩ | hq
    · rcases bfp ha with rfl | rfl
      · exact n i2 (by simp [rLst])
      · exact n i3 (by simp [rDT])
    · exact n (up hq).1 ha
  · rw [off (fun e => n i0 (by simp [rInst, e])) (fun e => n i1 (by simp [rLst, e]))]
    exact f
  · rcases at_ h with ⟨_, rfl⟩ | h
    · exact ok
    · exact q.mono (ro.ok (up h).1) s fun _ _ _ e => e
  · rcases at_ h with ⟨_, rfl⟩ | h
    · rcases bfp ha with rfl | rfl
      · rw [off rx rm]; exact fr
      · rw [off px pm]; exact fp
    · obtain ⟨n1, n2, _⟩ := nx h a ha
      rw [off n1 n2]
      exact ro.fn (up h).1 a ha
  · rcases at_ h with ⟨_, rfl⟩ | h
    · rcases bfp ha with rfl | rfl
      · exact ⟨_, hr⟩
      · exact ⟨_, hp⟩
    · exact ro.hn (up h).1 a ha
  · rcases at_ h1 with ⟨e1, g1⟩ | g1
    · rcases at_ h2 with ⟨e2, g2⟩ | g2
      · exact absurd (e1.trans e2.symm) ne
      · subst g1
        intro z
        obtain ⟨_, _, n3, n4⟩ := nx g2 a z
        rcases bfp ha with e | e
        · exact n3 e
        · exact n4 e
    · rcases at_ h2 with ⟨_, g2⟩ | g2
      · subst g2
        intro z
        obtain ⟨_, _, n3, n4⟩ := nx g1 a ha
        rcases bfp z with e | e
        · exact n3 e
        · exact n4 e
      · exact ro.dj (up g1).1 (up g2).1 ne a ha
end
end SE
end
section
set_option Elab.async false
set_option linter.all false
set_option maxRecDepth 100000
set_option maxHeartbeats 8000000
namespace SE
open PySem PySem.Spec PyProof.Rows L2

/-! ### words for the law's text -/
theorem pe_globS {X : Cx} {x : Str} {s : Str} {pos : Pos} (hg : Gl X x) (h : ∃ t, X.mg x = some (.str s t)) (hd : (x == ("__debug__" : Str)) = false := by decide) : PE X (.Name x pos) (tC (.str s)) := by
  obtain ⟨t, h⟩ := h
  exact pe_glob hg h ⟨t, rfl⟩ hd
theorem pe_globI {X : Cx} {x : Str} {s : Int} {pos : Pos} (hg : Gl X x) (h : ∃ t, X.mg x = some (.int s t)) (hd : (x == ("__debug__" : Str)) = false := by decide) : PE X (.Name x pos) (tC (.int s)) := by
  obtain ⟨t, h⟩ := h
  exact pe_glob hg h ⟨t, rfl⟩ hd
theorem fn_no {P : Program} {w : World} {K : Frag} {mg : Str → Option Value} {base : Heap} {CX : CXT} {k : Nat} {f : Addr} {fd : FuncData} {ps : List Str} {sp : Sp} (h : ∀ vs H Q E, ¬ sp vs H Q E) : FnOk P w K mg base CX k f fd ps sp :=
  ⟨fun vs H Q E x => absurd x (h _ _ _ _), fun A outer s H args us vs Q E _ _ _ _ x => absurd x (h _ _ _ _)⟩
theorem no_spT {K : Frag} {T : TF} (h : ∀ es R W X, ¬ T es R W X) {vs : List V} {H : Hp} {Q : VK} {E : XK} : ¬ spT K T vs H Q E := by
  rintro ⟨F, es, R, W, X, _, _, hT, _⟩
  exact h _ _ _ _ hT
theorem fun_of {K : Frag} {x qual : Str} {st : Stmt} {f : Addr} {fd : FuncData} (F : FunD K x qual (defArgs st) (defBody st) (defScope st) [] [] f fd) : Fun K x qual st f fd := by
  obtain ⟨oc, od, dV, kV, doc, pm, an, cdv, ct, osl, e, lk, hcd, hD, hK⟩ := F.ex
  rcases hD with ⟨_, rfl⟩ | ⟨z, _⟩
  · exact ⟨⟨oc, od, kV, doc, pm, an, cdv, ct, osl, e, lk, hcd⟩, F.kp⟩
  · exact absurd rfl z

/-! ### the head's facts, written dicts with their values -/
inductive Sc where
  | i (n : Int)
  | s (x : Str)
def Sc.v : Sc → V
  | .i n => .int n
  | .s x => .str x
def scV : Value → Option Sc
  | .int n _ => some (.i n)
  | .str x _ => some (.s x)
  | _ => none
theorem scV_ok {u : Value} {c : Sc} (h : scV u = some c) : RelV c.v u := by
  unfold scV at h
  split at h
  · cases h; exact ⟨_, rfl⟩
  · cases h; exact ⟨_, rfl⟩
  · cases h
abbrev EntO : Type := Option (Str × Int) × Option Sc
def entO (e : DictEntry) : EntO := (He.keyOf e, scV e.val)
def dicV (K : Frag) (a : Addr) : Option (List EntO) := match K.lookup a with
  | some ⟨.type c, none, .dict es _, sl⟩ => (match decide (c = "dict") && (sl.isEmpty && !(a == sysModules)) with
    | true => some (es.toList.map entO)
    | false => none)
  | _ => none
abbrev TabV : Type := (Frag → Addr) × List (Str × Sc)
def tabOf (t : List (Str × Sc)) : List (Str × V) := t.map fun q => (q.1, q.2.v)
def entsOf (P : Params) (t : List (Str × Sc)) : List EntO := t.map fun q => (some (q.1, PyData.keyHash P q.1), some q.2)
theorem ents_keys {P : Params} : ∀ {l : List DictEntry} {t : List (Str × Sc)}, l.map entO = entsOf P t → l.map He.keyOf = He.keysIn P (t.map (·.1))
  | [], [], _ => rfl
  | [], _ :: _, h => by cases h
  | _ :: _, [], h => by cases h
  | e :: l, q :: t, h => by
    have h : entO e :: l.map entO = (some (q.1, PyData.keyHash P q.1), some q.2) :: entsOf P t := h
    injection h with h1 h2
    have h3 := congrArg Prod.fst h1
    show He.keyOf e :: l.map He.keyOf = some (q.1, PyData.keyHash P q.1) :: He.keysIn P (t.map (·.1))
    rw [ents_keys h2]
    congr 1
theorem key_str {e : DictEntry} {x : Str} {n : Int} (h : He.keyOf e = some (x, n)) : ∃ t, e.key = .str x t := by
  unfold He.keyOf at h
  split at h
  · rename_i y t q
    cases h
    exact ⟨t, q⟩
  · cases h
theorem ents_ref {P : Params} : ∀ {l : List DictEntry} {t : List (Str × Sc)}, l.map entO = entsOf P t → l.any (·.refKey) = false
  | [], _, _ => rfl
  | _ :: _, [], h => by cases h
  | e :: l, q :: t, h => by
    have h : entO e :: l.map entO = (some (q.1, PyData.keyHash P q.1), some q.2) :: entsOf P t := h
    injection h with h1 h2
    obtain ⟨k, hk⟩ := key_str (congrArg Prod.fst h1)
    rw [List.any_cons, ents_ref h2]
    unfold DictEntry.refKey
    rw [hk]
    rfl
theorem ents_find {P : Params} (z : Str) : ∀ {l : List DictEntry} {t : List (Str × Sc)}, l.map entO = entsOf P t → (l.find? (·.key.isStr z) = none ∧ (tabOf t).lookup z = none) ∨ ∃ e v, l.find? (·.key.isStr z) = some e ∧ (tabOf t).lookup z = some v ∧ RelV v e.val
  | [], [], _ => .inl ⟨rfl, rfl⟩
  | [], _ :: _, h => by cases h
  | _ :: _, [], h => by cases h
  | e :: l, q :: t, h => by
    have h : entO e :: l.map entO = (some (q.1, PyData.keyHash P q.1), some q.2) :: entsOf P t := h
    injection h with h1 h2
    obtain ⟨k, hk⟩ := key_str (congrArg Prod.fst h1)
    have hv : scV e.val = some q.2 := congrArg Prod.snd h1
    have e1 : e.key.isStr z = (q.1 == z) := by rw [hk]; rfl
    have e2 : (tabOf (q :: t)).lookup z = if q.1 = z then some q.2.v else (tabOf t).lookup z := by
      show List.lookup z ((q.1, q.2.v) :: tabOf t) = _
      rw [List.lookup_cons]
      by_cases c : q.1 = z
      · rw [if_pos c, c]; simp
      · rw [if_neg c]
        have : (z == q.1) = false := by simpa using fun w => c w.symm
        rw [this]
    by_cases c : q.1 = z
    · refine .inr ⟨e, q.2.v, ?_, by rw [e2, if_pos c], scV_ok hv⟩
      rw [List.find?_cons, e1]
      simp [c]
    · rw [e2, if_neg c, List.find?_cons, e1]
      have : (q.1 == z) = false := by simpa using c
      rw [this]
      exact ents_find z h2
theorem dicV_ok {K : Frag} {w : World} {a : Addr} {t : List (Str × Sc)} (h : dicV K a = some (entsOf w.params t)) : KTab K w a (tabOf t) := by
  have h0 := h
  unfold dicV at h
  split at h
  · rename_i c es n sl q
    split at h
    · rename_i z
      cases h1 : decide (c = "dict") && (sl.isEmpty && !(a == sysModules)) with
      | false => rw [h1] at z; cases z
      | true =>
        obtain ⟨z1, z2⟩ := Bool.and_eq_true_iff.mp h1
        obtain ⟨z3, z4⟩ := Bool.and_eq_true_iff.mp z2
        have e1 : c = "dict" := of_decide_eq_true z1
        have e2 : sl = #[] := Array.isEmpty_iff.mp z3
        have e3 : (a == sysModules) = false := by simpa using z4
        subst e1 e2
        have h := Option.some.inj h
        refine ⟨⟨es, n, q, He.keysLit_of (ents_keys h), e3⟩, fun x => ?_⟩
        unfold PySem.W.nsIn
        rw [q]
        dsimp only
        rcases ents_find x h with ⟨f1, f2⟩ | ⟨e, v, f1, f2, f3⟩
        · refine ⟨none, ?_, by rw [f2]; trivial⟩
          rw [f1]
          dsimp only
          rw [ents_ref h]
          rfl
        · refine ⟨some e.val, ?_, by rw [f2]; exact f3⟩
          rw [f1]
    · cases h
  · cases h
abbrev AlX : Type := He.AlD × List (Option (List EntO))
def obsX (fa : List He.Fa) (fn : List He.DefD) (ts : List TabV) (K : Frag) : AlX := (He.obsD fa fn K, ts.map fun t => dicV K (t.1 K))
def valX (fn : List He.DefD) (ts : List TabV) (w : World) : AlX := (He.valD fn, ts.map fun t => some (entsOf w.params t.2))
def obsXG (n : Nat) (fa : List He.Fa) (fn : List He.DefD) (ts : List TabV) (g : Addr → Option Obj) : AlX := obsX fa fn ts (He.frG g (He.asD g n))
def SaysX (fa : List He.Fa) (fn : List He.DefD) (ts : List TabV) (w : World) (K : Frag) : Prop := obsX fa fn ts K = valX fn ts w
def hookX (n : Nat) (fa : List He.Fa) (fn : List He.DefD) (ts : List TabV) : PySem.W.Hook where
  α := AlX
  obs := fun s => obsXG n fa fn ts s.heap.get?
  val := fun w => valX fn ts w
  says := fun w h => ∃ K : Frag, K.In h ∧ SaysX fa fn ts w K
  of := fun _ _ e => ⟨_, He.frG_in, e⟩
  keeps := fun _ _ _ ⟨K, hK, c⟩ k => ⟨K, PySem.W.Frag.In.keeps hK k, c⟩
theorem obsXG_eq {n : Nat} {fa : List He.Fa} {fn : List He.DefD} {ts : List TabV} {g : Addr → Option Obj} {s : Shared} (h : ∀ a, g a = s.heap.get? a) : obsXG n fa fn ts g = (hookX n fa fn ts).obs s := by
  have e : g = s.heap.get? := funext h
  rw [e] <;> rfl
section
variable {fa : List He.Fa} {fn : List He.DefD} {ts : List TabV} {w : World} {K : Frag}
theorem SaysX.d (c : SaysX fa fn ts w K) : He.SaysD fa fn K := congrArg (fun z : AlX => z.1) c
theorem SaysX.tab (c : SaysX fa fn ts w K) (i : Nat) {t : TabV} (h : ts[i]? = some t := by rfl) : KTab K w (t.1 K) (tabOf t.2) := by
  have e : ts.map (fun t => dicV K (t.1 K)) = ts.map fun t => some (entsOf w.params t.2) := congrArg (fun z : AlX => z.2) c
  have e2 : (ts.map fun t => dicV K (t.1 K))[i]? = (ts.map fun t => some (entsOf w.params t.2))[i]? := by rw [e]
  rw [List.getElem?_map, List.getElem?_map, h] at e2
  exact dicV_ok (Option.some.inj e2)
end
end SE
end
section
set_option linter.all false
set_option autoImplicit false
/-! PB: books of decisions, plainly: rows, what they mean, why two rooms of one meaning are one. -/
namespace PB
abbrev Mk8 := Fin 8
abbrev Env := Mk8 → Bool
abbrev Row := Mk8 × Nat × Nat
abbrev Fn := Env → Bool
def putE (e : Env) (m : Mk8) (b : Bool) : Env := fun x => if x = m then b else e x
/-- what the rooms mean, from 0 on -/
def tab (rows : List Row) : List Fn := rows.foldl (fun T r => T ++ [fun e => if e r.1 then (T.getD r.2.2 fun _ => false) e else (T.getD r.2.1 fun _ => false) e]) [fun _ => false, fun _ => true]
def den (rows : List Row) (n : Nat) : Fn := (tab rows).getD n fun _ => false
theorem tab_snoc (rows : List Row) (r : Row) : tab (rows ++ [r]) = tab rows ++ [fun e => if e r.1 then den rows r.2.2 e else den rows r.2.1 e] := by
  unfold tab den
  rw [List.foldl_append]
  rfl
theorem tab_len (rows : List Row) : (tab rows).length = rows.length + 2 := by
  have key : ∀ (rows : List Row) (T : List Fn), (rows.foldl (fun T r => T ++ [fun e => if e r.1 then (T.getD r.2.2 fun _ => false) e else (T.getD r.2.1 fun _ => false) e]) T).length = rows.length + T.length := by
    intro rows
    induction rows with
    | nil => intro T; simp
    | cons r rs ih => intro T; rw [List.foldl_cons, ih]; simp; omega
  exact key rows _
theorem tab_pre (rows more : List Row) : ∃ T, tab (rows ++ more) = tab rows ++ T := by
  induction more generalizing rows with
  | nil => exact ⟨[], by simp⟩
  | cons r rs ih =>
    obtain ⟨T, h⟩ := ih (rows ++ [r])
    rw [tab_snoc] at h
    exact ⟨_, by rw [List.append_cons, h, List.append_assoc]⟩
theorem den_app (rows more : List Row) {n : Nat} (h : n < rows.length + 2) : den (rows ++ more) n = den rows n := by
  obtain ⟨T, e⟩ := tab_pre rows more
  unfold den
  rw [e, List.getD_eq_getElem?_getD, List.getD_eq_getElem?_getD, List.getElem?_append_left (by rw [tab_len]; exact h)]
theorem den0 (rows : List Row) (e : Env) : den rows 0 e = false := by
  have h := den_app [] rows (n := 0) (by simp)
  rw [List.nil_append] at h
  rw [h]; rfl
theorem den1 (rows : List Row) (e : Env) : den rows 1 e = true := by
  have h := den_app [] rows (n := 1) (by simp)
  rw [List.nil_append] at h
  rw [h]; rfl
/-- the goings are made ahead -/
def Back (rows : List Row) : Prop := ∀ {i : Nat} {m : Mk8} {l h : Nat}, rows[i]? = some (m, l, h) → l < i + 2 ∧ h < i + 2
theorem den_row {rows : List Row} (b : Back rows) {i : Nat} {m : Mk8} {l h : Nat} (hi : rows[i]? = some (m, l, h)) (e : Env) : den rows (i + 2) e = if e m then den rows h e else den rows l e := by
  have hl := (List.getElem?_eq_some_iff.mp hi).1
  have e0 : rows = (rows.take i ++ [(m, l, h)]) ++ rows.drop (i + 1) := by
    have e1 := List.getElem?_eq_some_iff.mp hi
    conv => lhs; rw [← List.take_append_drop i rows, List.drop_eq_getElem_cons hl, e1.2]
    simp
  obtain ⟨b1, b2⟩ := b hi
  have lt : (rows.take i).length = i := by rw [List.length_take]; omega
  have t1 : ∀ {n}, n < i + 2 → den rows n = den (rows.take i) n := fun {n} hn => by
    have := den_app (rows.take i) (rows.drop i) (n := n) (by omega)
    rw [List.take_append_drop] at this
    exact this
  rw [t1 b1, t1 b2]
  conv => lhs; rw [e0]
  rw [den_app _ _ (by simp; omega)]
  unfold den
  rw [tab_snoc, List.getD_eq_getElem?_getD, List.getElem?_append_right (by rw [tab_len]; omega), tab_len, lt]
  simp
  rfl
/-- the place of a room's mark -/
def lev (ord : List Mk8) (rows : List Row) (n : Nat) : Nat := if n < 2 then ord.length else match rows[n - 2]? with
  | some r => ord.idxOf r.1
  | none => ord.length
structure Wf (ord : List Mk8) (rows : List Row) : Prop where
  ond : ord.Nodup
  nd : rows.Nodup
  back : Back rows
  ne : ∀ {i : Nat} {m : Mk8} {l h : Nat}, rows[i]? = some (m, l, h) → l ≠ h
  mem : ∀ {i : Nat} {m : Mk8} {l h : Nat}, rows[i]? = some (m, l, h) → m ∈ ord
  inc : ∀ {i : Nat} {m : Mk8} {l h : Nat}, rows[i]? = some (m, l, h) → ord.idxOf m < lev ord rows l ∧ ord.idxOf m < lev ord rows h
def Rm (rows : List Row) (n : Nat) : Prop := n < rows.length + 2
theorem lev_app (ord : List Mk8) (rows more : List Row) {n : Nat} (h : Rm rows n) : lev ord (rows ++ more) n = lev ord rows n := by
  unfold lev Rm at *
  split
  · rfl
  · rw [List.getElem?_append_left (by omega)]
theorem lev_row {ord : List Mk8} {rows : List Row} {i : Nat} {r : Row} (h : rows[i]? = some r) : lev ord rows (i + 2) = ord.idxOf r.1 := by
  unfold lev
  rw [if_neg (by omega)]
  have e : i + 2 - 2 = i := by omega
  rw [e, h]
theorem lev_le (ord : List Mk8) {rows : List Row} (w : Wf ord rows) (n : Nat) : lev ord rows n ≤ ord.length := by
  unfold lev
  split
  · exact Nat.le_refl _
  · split
    · exact List.idxOf_le_length
    · exact Nat.le_refl _
theorem lev_lt {ord : List Mk8} {rows : List Row} (w : Wf ord rows) {n : Nat} (h2 : ¬ n < 2) (hr : Rm rows n) : lev ord rows n < ord.length := by
  unfold Rm at hr
  have hl : n - 2 < rows.length := by omega
  obtain ⟨⟨m, l, h⟩, e⟩ : ∃ r, rows[n - 2]? = some r := ⟨_, List.getElem?_eq_getElem hl⟩
  unfold lev
  rw [if_neg h2, e]
  exact List.idxOf_lt_length_of_mem (w.mem e)
theorem Wf.get {ord : List Mk8} {rows : List Row} (w : Wf ord rows) {n : Nat} (h2 : ¬ n < 2) (hr : Rm rows n) : ∃ m l h, rows[n - 2]? = some (m, l, h) ∧ lev ord rows n = ord.idxOf m ∧ m ∈ ord ∧ l < n ∧ h < n ∧ l ≠ h ∧ lev ord rows n < lev ord rows l ∧ lev ord rows n < lev ord rows h ∧ ∀ e, den rows n e = if e m then den rows h e else den rows l e := by
  unfold Rm at hr
  have hl : n - 2 < rows.length := by omega
  obtain ⟨⟨m, l, h⟩, hx⟩ : ∃ r, rows[n - 2]? = some r := ⟨_, List.getElem?_eq_getElem hl⟩
  have en : n - 2 + 2 = n := by omega
  have h1 := lev_row (ord := ord) hx
  rw [en] at h1
  have h3 := w.back hx
  have h4 := w.inc hx
  have h5 := fun e => den_row w.back hx e
  rw [en] at h5
  exact ⟨m, l, h, hx, h1, w.mem hx, by omega, by omega, w.ne hx, by rw [h1]; exact h4.1, by rw [h1]; exact h4.2, h5⟩
/-- a room's meaning hangs on marks from its own on -/
theorem den_dep {ord : List Mk8} {rows : List Row} (w : Wf ord rows) : ∀ (n : Nat), Rm rows n → ∀ e e' : Env, (∀ m ∈ ord, lev ord rows n ≤ ord.idxOf m → e m = e' m) → den rows n e = den rows n e' := by
  intro n
  induction n using Nat.strongRecOn with
  | _ n ih =>
    intro hr e e' he
    by_cases h2 : n < 2
    · have : n = 0 ∨ n = 1 := by omega
      rcases this with rfl | rfl
      · rw [den0, den0]
      · rw [den1, den1]
    · obtain ⟨m, l, h, hx, hl, hm, l1, l2, ne, g1, g2, hd⟩ := w.get h2 hr
      rw [hd, hd]
      have em : e m = e' m := he m hm (by rw [hl]; exact Nat.le_refl _)
      rw [em]
      unfold Rm at *
      rw [ih l l1 (by omega) e e' fun x hx hlx => he x hx (by omega), ih h l2 (by omega) e e' fun x hx hlx => he x hx (by omega)]
theorem idx_inj {ord : List Mk8} {a b : Mk8} (ha : a ∈ ord) (hb : b ∈ ord) (h : ord.idxOf a = ord.idxOf b) : a = b := by
  have h1 := List.getElem_idxOf (List.idxOf_lt_length_of_mem ha)
  have h2 := List.getElem_idxOf (List.idxOf_lt_length_of_mem hb)
  rw [← h1, ← h2]
  congr 1
theorem den_put {ord : List Mk8} {rows : List Row} (w : Wf ord rows) {n : Nat} (hr : Rm rows n) {m : Mk8} (hm : m ∈ ord) (h : ord.idxOf m < lev ord rows n) (e : Env) (b : Bool) : den rows n (putE e m b) = den rows n e := by
  refine den_dep w n hr _ _ fun x hx hl => ?_
  unfold putE
  rw [if_neg]
  rintro rfl
  omega
theorem putE_same (e : Env) (m : Mk8) (b : Bool) : putE e m b m = b := by unfold putE; rw [if_pos rfl]
/-- two rooms of one meaning are one -/
theorem canon {ord : List Mk8} {rows : List Row} (w : Wf ord rows) : ∀ (k r s : Nat), r < k → s < k → Rm rows r → Rm rows s → (∀ e, den rows r e = den rows s e) → r = s := by
  intro k
  induction k with
  | zero => intro r s h; omega
  | succ k ih =>
    intro r s hk hk2 hr hs hd
    have half : ∀ {r s : Nat}, r < k + 1 → Rm rows r → Rm rows s → (∀ e, den rows r e = den rows s e) → lev ord rows r < lev ord rows s → False := by
      intro r s hk hr hs hd hlt
      have r2 : ¬ r < 2 := by
        intro h
        have e1 : lev ord rows r = ord.length := by unfold lev; rw [if_pos h]
        have := lev_le ord w s
        omega
      obtain ⟨m, l, h, hx, hl, hm, l1, l2, ne, g1, g2, hde⟩ := w.get r2 hr
      have hR : ∀ {n}, n < r → Rm rows n := fun hn => by unfold Rm at *; omega
      refine ne (ih l h (by omega) (by omega) (hR l1) (hR l2) fun e => ?_)
      have p1 := hd (putE e m true)
      have p2 := hd (putE e m false)
      rw [den_put w hs hm (by omega)] at p1 p2
      rw [hde, putE_same, if_pos rfl, den_put w (hR l2) hm (by omega)] at p1
      rw [hde, putE_same, if_neg (by simp), den_put w (hR l1) hm (by omega)] at p2
      rw [p1, p2]
    rcases Nat.lt_trichotomy (lev ord rows r) (lev ord rows s) with h | h | h
    · exact (half hk hr hs hd h).elim
    · by_cases r2 : r < 2
      · have s2 : s < 2 := by
          by_cases s2 : s < 2
          · exact s2
          · have h1 := lev_lt w s2 hs
            have h2 : lev ord rows r = ord.length := by unfold lev; rw [if_pos r2]
            omega
        have d := hd fun _ => false
        have c1 : r = 0 ∨ r = 1 := by omega
        have c2 : s = 0 ∨ s = 1 := by omega
        rcases c1 with rfl | rfl <;> rcases c2 with rfl | rfl <;> first | rfl | (rw [den0, den1] at d; cases d) | (rw [den1, den0] at d; cases d)
      · have s2 : ¬ s < 2 := by
          intro s2
          have h1 := lev_lt w r2 hr
          have h2 : lev ord rows s = ord.length := by unfold lev; rw [if_pos s2]
          omega
        obtain ⟨m, l, hh, hx, hl, hm, l1, l2, ne, g1, g2, hde⟩ := w.get r2 hr
        obtain ⟨m', l', hh', hx', hl', hm', l1', l2', ne', g1', g2', hde'⟩ := w.get s2 hs
        have em : m = m' := idx_inj hm hm' (by omega)
        subst em
        have hR : ∀ {n}, n < r → Rm rows n := fun hn => by unfold Rm at *; omega
        have hS : ∀ {n}, n < s → Rm rows n := fun hn => by unfold Rm at *; omega
        have el : l = l' := ih l l' (by omega) (by omega) (hR l1) (hS l1') fun e => by
          have p := hd (putE e m false)
          rw [hde, hde', putE_same, if_neg (by simp), if_neg (by simp), den_put w (hR l1) hm (by omega), den_put w (hS l1') hm (by omega)] at p
          exact p
        have eh : hh = hh' := ih hh hh' (by omega) (by omega) (hR l2) (hS l2') fun e => by
          have p := hd (putE e m true)
          rw [hde, hde', putE_same, if_pos rfl, if_pos rfl, den_put w (hR l2) hm (by omega), den_put w (hS l2') hm (by omega)] at p
          exact p
        subst el
        subst eh
        rw [← hx'] at hx
        unfold Rm at hr hs
        have i1 : r - 2 < rows.length := by omega
        have i2 : s - 2 < rows.length := by omega
        rw [List.getElem?_eq_getElem i1, List.getElem?_eq_getElem i2] at hx
        have := (List.getElem_inj w.nd).mp (Option.some.inj hx)
        omega
    · exact (half hk2 hs hr (fun e => (hd e).symm) h).elim
theorem one_of {ord : List Mk8} {rows : List Row} (w : Wf ord rows) {r s : Nat} (hr : Rm rows r) (hs : Rm rows s) (h : ∀ e, den rows r e = den rows s e) : r = s := canon w (r + s + 1) r s (by omega) (by omega) hr hs h

/-! ### a room is made, if it isn't there -/
def Ext (rows rows' : List Row) : Prop := ∃ more, rows' = rows ++ more
theorem Ext.rfl {rows : List Row} : Ext rows rows := ⟨[], by simp⟩
theorem Ext.tr {a b c : List Row} (x : Ext a b) (y : Ext b c) : Ext a c := by
  obtain ⟨m, rfl⟩ := x
  obtain ⟨n, rfl⟩ := y
  exact ⟨m ++ n, by simp⟩
theorem Ext.rm {a b : List Row} (x : Ext a b) {n : Nat} (h : Rm a n) : Rm b n := by
  obtain ⟨m, rfl⟩ := x
  unfold Rm at *
  rw [List.length_append]; omega
theorem Ext.den {a b : List Row} (x : Ext a b) {n : Nat} (h : Rm a n) : den b n = den a n := by
  obtain ⟨m, rfl⟩ := x
  exact den_app a m h
theorem Ext.lev {a b : List Row} (x : Ext a b) (ord : List Mk8) {n : Nat} (h : Rm a n) : lev ord b n = lev ord a n := by
  obtain ⟨m, rfl⟩ := x
  exact lev_app ord a m h
theorem Ext.len {a b : List Row} (x : Ext a b) : a.length ≤ b.length := by
  obtain ⟨m, rfl⟩ := x
  rw [List.length_append]; omega
theorem Wf.snoc {ord : List Mk8} {rows : List Row} (w : Wf ord rows) {m : Mk8} {l h : Nat} (hm : m ∈ ord) (hl : Rm rows l) (hh : Rm rows h) (ne : l ≠ h) (g1 : ord.idxOf m < lev ord rows l) (g2 : ord.idxOf m < lev ord rows h) (hn : ¬ (m, l, h) ∈ rows) : Wf ord (rows ++ [(m, l, h)]) := by
  have x : Ext rows (rows ++ [(m, l, h)]) := ⟨_, Eq.refl _⟩
  have at_ : ∀ {i : Nat} {r : Row}, (rows ++ [(m, l, h)])[i]? = some r → (i = rows.length ∧ r = (m, l, h)) ∨ rows[i]? = some r := fun {i r} hi => by
    by_cases e : i < rows.length
    · rw [List.getElem?_append_left e] at hi
      exact .inr hi
    · have hl := (List.getElem?_eq_some_iff.mp hi).1
      rw [List.length_append] at hl
      have e2 : i = rows.length := by simp at hl; omega
      subst e2
      rw [List.getElem?_append_right (Nat.le_refl _)] at hi
      simp at hi
      exact .inl ⟨Eq.refl _, hi.symm⟩
  have low : ∀ {i : Nat} {r : Row}, rows[i]? = some r → i < rows.length := fun h => (List.getElem?_eq_some_iff.mp h).1
  unfold Rm at hl hh
  refine ⟨w.ond, ?_, fun hi => ?_, fun hi => ?_, fun hi => ?_, fun hi => ?_⟩
  · rw [List.nodup_append]
    refine ⟨w.nd, by simp, fun a ha b hb => ?_⟩
    simp at hb
    subst hb
    rintro rfl
    exact hn ha
  · rcases at_ hi with ⟨e1, e2⟩ | hi
    · cases e2; omega
    · exact w.back hi
  · rcases at_ hi with ⟨e1, e2⟩ | hi
    · cases e2; exact ne
    · exact w.ne hi
  · rcases at_ hi with ⟨e1, e2⟩ | hi
    · cases e2; exact hm
    · exact w.mem hi
  · rcases at_ hi with ⟨e1, e2⟩ | hi
    · cases e2
      rw [x.lev ord (n := l) (by unfold Rm; omega), x.lev ord (n := h) (by unfold Rm; omega)]
      exact ⟨g1, g2⟩
    · have b := w.back hi
      have l0 := low hi
      rw [x.lev ord (by unfold Rm; omega), x.lev ord (by unfold Rm; omega)]
      exact w.inc hi
theorem wf_nil {ord : List Mk8} (h : ord.Nodup) : Wf ord [] := ⟨h, List.nodup_nil, fun hi => by simp at hi, fun hi => by simp at hi, fun hi => by simp at hi, fun hi => by simp at hi⟩
/-- the room with the mark at a place and two goings -/
theorem made {ord : List Mk8} {rows : List Row} (w : Wf ord rows) {m : Mk8} {l h i : Nat} (hi : rows[i]? = some (m, l, h)) : Rm rows (i + 2) ∧ lev ord rows (i + 2) = ord.idxOf m ∧ ∀ e, den rows (i + 2) e = if e m then den rows h e else den rows l e := by
  have hl := (List.getElem?_eq_some_iff.mp hi).1
  exact ⟨by unfold Rm; omega, lev_row hi, den_row w.back hi⟩
theorem made_new (rows : List Row) (x : Row) : (rows ++ [x])[rows.length]? = some x := by simp
end PB
end
section
set_option linter.all false
set_option autoImplicit false
namespace PB
/-! ### restrictions, and how many rooms a book can have -/
abbrev Part := List (Option Bool)
def over (p : Part) (e : Env) : Env := fun m => match p.getD m.val none with
  | some b => b
  | none => e m
def allP : Nat → List Part
  | 0 => [[]]
  | k + 1 => (allP k).flatMap fun l => [none :: l, some false :: l, some true :: l]
theorem allP_len : ∀ k, (allP k).length = 3 ^ k
  | 0 => rfl
  | k + 1 => by
    show ((allP k).flatMap fun l => [none :: l, some false :: l, some true :: l]).length = 3 ^ (k + 1)
    have key : ∀ L : List Part, (L.flatMap fun l => [none :: l, some false :: l, some true :: l]).length = 3 * L.length := by
      intro L
      induction L with
      | nil => rfl
      | cons a L ih => rw [List.flatMap_cons, List.length_append, ih, List.length_cons]; simp; omega
    rw [key, allP_len k, Nat.pow_succ]; omega
theorem allP_mem : ∀ (p : Part), p ∈ allP p.length
  | [] => by simp [allP]
  | x :: p => by
    show x :: p ∈ (allP p.length).flatMap fun l => [none :: l, some false :: l, some true :: l]
    rw [List.mem_flatMap]
    refine ⟨p, allP_mem p, ?_⟩
    cases x with
    | none => simp
    | some b => cases b <;> simp
/-- f is a restriction of one of 𝓕 -/
def Gd (L : List Fn) (f : Fn) : Prop := ∃ g ∈ L, ∃ p : Part, p.length = 8 ∧ ∀ e, f e = g (over p e)
theorem Gd.self {L : List Fn} {f : Fn} (h : f ∈ L) : Gd L f := ⟨f, h, List.replicate 8 none, by simp, fun e => by
  congr 1
  funext m
  unfold over
  rw [List.getD_eq_getElem?_getD, List.getElem?_replicate]
  split <;> simp_all⟩
theorem Gd.congr {L : List Fn} {f f' : Fn} (h : Gd L f) (e : ∀ x, f' x = f x) : Gd L f' := by
  obtain ⟨g, hg, p, hp, hh⟩ := h
  exact ⟨g, hg, p, hp, fun x => (e x).trans (hh x)⟩
theorem Gd.put {L : List Fn} {f : Fn} (h : Gd L f) (m : Mk8) (b : Bool) : Gd L fun e => f (putE e m b) := by
  obtain ⟨g, hg, p, hp, hh⟩ := h
  cases e : p.getD m.val none with
  | some c =>
    refine ⟨g, hg, p, hp, fun x => ?_⟩
    show f (putE x m b) = _
    rw [hh]
    congr 1
    funext y
    unfold over putE
    by_cases q : y = m
    · subst q; rw [e]
    · rw [if_neg q]
  | none =>
    refine ⟨g, hg, p.set m.val (some b), by rw [List.length_set]; exact hp, fun x => ?_⟩
    show f (putE x m b) = _
    rw [hh]
    congr 1
    funext y
    unfold over putE
    by_cases q : y = m
    · subst q
      rw [e, if_pos rfl, List.getD_eq_getElem?_getD, List.getElem?_set_self (by rw [hp]; exact y.isLt)]
      rfl
    · rw [if_neg q, List.getD_eq_getElem?_getD, List.getD_eq_getElem?_getD, List.getElem?_set_ne (fun z => q (Fin.ext z.symm))]
theorem Gd.mono {L L' : List Fn} {f : Fn} (h : Gd L f) (s : ∀ g ∈ L, g ∈ L') : Gd L' f := by
  obtain ⟨g, hg, r⟩ := h
  exact ⟨g, s g hg, r⟩
/-- restrictions of restrictions -/
theorem Gd.trans {L L' : List Fn} {f : Fn} (h : Gd L f) (s : ∀ g ∈ L, Gd L' g) : Gd L' f := by
  obtain ⟨g, hg, p, hp, hh⟩ := h
  obtain ⟨g', hg', p', hp', hh'⟩ := s g hg
  refine ⟨g', hg', (List.range 8).map (fun i => match p'.getD i none with
    | some b => some b
    | none => p.getD i none), by simp, fun x => ?_⟩
  rw [hh, hh']
  congr 1
  funext y
  have key : ((List.range 8).map (fun i => match p'.getD i none with
    | some b => some b
    | none => p.getD i none)).getD y.val none = (match p'.getD y.val none with
    | some b => some b
    | none => p.getD y.val none) := by
    rw [List.getD_eq_getElem?_getD, List.getElem?_map, List.getElem?_range y.isLt]
    rfl
  unfold over
  rw [key]
  cases hq : p'.getD y.val none with
  | some b => rfl
  | none => rfl
theorem pigeon : ∀ (n m : Nat) (f : Nat → Nat), (∀ i, i < n → f i < m) → (∀ i j, i < n → j < n → f i = f j → i = j) → n ≤ m
  | 0, _, _, _, _ => Nat.zero_le _
  | n + 1, m, f, h1, h2 => by
    cases m with
    | zero => exact absurd (h1 0 (by omega)) (by omega)
    | succ m =>
      have ih := pigeon n m (fun i => if f i < f n then f i else f i - 1) (fun i hi => by
        have a := h1 i (by omega)
        have b := h1 n (by omega)
        have c : f i ≠ f n := fun e => by have := h2 i n (by omega) (by omega) e; omega
        show (if f i < f n then f i else f i - 1) < m
        split <;> omega) (fun i j hi hj e => by
        have a : f i ≠ f n := fun e => by have := h2 i n (by omega) (by omega) e; omega
        have b : f j ≠ f n := fun e => by have := h2 j n (by omega) (by omega) e; omega
        have e : (if f i < f n then f i else f i - 1) = if f j < f n then f j else f j - 1 := e
        refine h2 i j (by omega) (by omega) ?_
        split at e <;> split at e <;> omega)
      omega
def InF (L : List Fn) (rows : List Row) : Prop := ∀ {n : Nat}, Rm rows n → Gd L (den rows n)
structure Good (ord : List Mk8) (L : List Fn) (rows : List Row) : Prop where
  wf : Wf ord rows
  inF : InF L rows
  fl : L.length ≤ 1000
theorem Good.len {ord : List Mk8} {L : List Fn} {rows : List Row} (h : Good ord L rows) : rows.length < 6561000 := by
  have key : ∀ n, n < rows.length + 2 → ∃ i j, i < L.length ∧ j < 3 ^ 8 ∧ ∀ e, den rows n e = (L.getD i fun _ => false) (over ((allP 8).getD j []) e) := by
    intro n hn
    obtain ⟨g, hg, p, hp, hh⟩ := h.inF (n := n) hn
    obtain ⟨i, hi, e1⟩ := List.getElem_of_mem hg
    have hm := allP_mem p
    rw [hp] at hm
    obtain ⟨j, hj, e2⟩ := List.getElem_of_mem hm
    refine ⟨i, j, hi, by rw [← allP_len]; exact hj, fun e => ?_⟩
    rw [hh, List.getD_eq_getElem?_getD, List.getElem?_eq_getElem hi, List.getD_eq_getElem?_getD, List.getElem?_eq_getElem hj, e1, e2]
    rfl
  have key2 : ∀ n, ∃ c : Nat × Nat, n < rows.length + 2 → c.1 < L.length ∧ c.2 < 3 ^ 8 ∧ ∀ e, den rows n e = (L.getD c.1 fun _ => false) (over ((allP 8).getD c.2 []) e) := by
    intro n
    by_cases hn : n < rows.length + 2
    · obtain ⟨i, j, h1, h2, h3⟩ := key n hn
      exact ⟨(i, j), fun _ => ⟨h1, h2, h3⟩⟩
    · exact ⟨(0, 0), fun z => absurd z hn⟩
  obtain ⟨c, hc⟩ := Classical.axiomOfChoice key2
  have := pigeon (rows.length + 2) (L.length * 3 ^ 8) (fun n => (c n).1 * 3 ^ 8 + (c n).2) (fun n hn => by
    obtain ⟨h1, h2, _⟩ := hc n hn
    have : ((c n).1 + 1) * 3 ^ 8 ≤ L.length * 3 ^ 8 := Nat.mul_le_mul_right _ h1
    rw [Nat.add_mul] at this
    show (c n).1 * 3 ^ 8 + (c n).2 < L.length * 3 ^ 8
    omega) (fun i j hi hj e => by
    obtain ⟨a1, a2, a3⟩ := hc i hi
    obtain ⟨b1, b2, b3⟩ := hc j hj
    have e : (c i).1 * 3 ^ 8 + (c i).2 = (c j).1 * 3 ^ 8 + (c j).2 := e
    have e1 : (c i).1 = (c j).1 := by
      rcases Nat.lt_trichotomy (c i).1 (c j).1 with h | h | h
      · have : ((c i).1 + 1) * 3 ^ 8 ≤ (c j).1 * 3 ^ 8 := Nat.mul_le_mul_right _ h
        rw [Nat.add_mul] at this
        omega
      · exact h
      · have : ((c j).1 + 1) * 3 ^ 8 ≤ (c i).1 * 3 ^ 8 := Nat.mul_le_mul_right _ h
        rw [Nat.add_mul] at this
        omega
    have e2 : (c i).2 = (c j).2 := by rw [e1] at e; omega
    exact one_of h.wf hi hj fun e => by rw [a3, b3, e1, e2])
  have f := h.fl
  have : L.length * 3 ^ 8 ≤ 1000 * 3 ^ 8 := Nat.mul_le_mul_right _ f
  omega
/-! ### where a room goes at a place -/
def goL (ord : List Mk8) (rows : List Row) (n at_ : Nat) : Nat := if lev ord rows n = at_ then (rows.getD (n - 2) (0, 0, 0)).2.1 else n
def goH (ord : List Mk8) (rows : List Row) (n at_ : Nat) : Nat := if lev ord rows n = at_ then (rows.getD (n - 2) (0, 0, 0)).2.2 else n
theorem go_ok {ord : List Mk8} {rows : List Row} (w : Wf ord rows) {n a : Nat} {m : Mk8} (hr : Rm rows n) (ha : ord[a]? = some m) (hl : a ≤ lev ord rows n) :
    Rm rows (goL ord rows n a) ∧ Rm rows (goH ord rows n a) ∧ a < lev ord rows (goL ord rows n a) ∧ a < lev ord rows (goH ord rows n a) ∧
    (∀ e, den rows (goL ord rows n a) e = den rows n (putE e m false)) ∧ (∀ e, den rows (goH ord rows n a) e = den rows n (putE e m true)) := by
  have hlt := (List.getElem?_eq_some_iff.mp ha).1
  have hm : m ∈ ord := List.mem_of_getElem? ha
  have hidx : ord.idxOf m = a := by
    have h1 := List.idxOf_lt_length_of_mem hm
    have h2 := List.getElem_idxOf h1
    have h3 := (List.getElem?_eq_some_iff.mp ha).2
    exact (List.getElem_inj w.ond).mp (h2.trans h3.symm)
  unfold goL goH
  by_cases h : lev ord rows n = a
  · rw [if_pos h, if_pos h]
    have n2 : ¬ n < 2 := by
      intro n2
      have : lev ord rows n = ord.length := by unfold lev; rw [if_pos n2]
      omega
    obtain ⟨m', l, hh, hx, hlv, hm', l1, l2, ne, g1, g2, hd⟩ := w.get n2 hr
    have em : m' = m := idx_inj hm' hm (by omega)
    subst em
    have eg : rows.getD (n - 2) (0, 0, 0) = (m', l, hh) := by rw [List.getD_eq_getElem?_getD, hx]; rfl
    rw [eg]
    have rl : Rm rows l := by unfold Rm at *; omega
    have rh : Rm rows hh := by unfold Rm at *; omega
    refine ⟨rl, rh, by show a < lev ord rows l; omega, by show a < lev ord rows hh; omega, fun e => ?_, fun e => ?_⟩
    · rw [hd, putE_same, if_neg (by simp), den_put w rl hm' (by omega)]
    · rw [hd, putE_same, if_pos rfl, den_put w rh hm' (by omega)]
  · rw [if_neg h, if_neg h]
    exact ⟨hr, hr, by omega, by omega, fun e => by rw [den_put w hr hm (by omega)], fun e => by rw [den_put w hr hm (by omega)]⟩
theorem putE_put (e : Env) (m : Mk8) : putE e m (e m) = e := by
  funext x
  unfold putE
  split
  · rename_i h; rw [h]
  · rfl
end PB
end
section
set_option Elab.async false
set_option linter.all false
set_option maxRecDepth 100000
set_option maxHeartbeats 8000000
namespace SE
open PySem PySem.Spec PyProof.Rows L2 PB

/-! ### letters, sentences -/
def letter (m : Mk8) : Str := ([ "a", "b", "c", "d", "e", "f", "g", "h"] : List Str).getD m.val "a"
def lcode (m : Mk8) : Nat := 97 + m.val
theorem letter_eq (m : Mk8) : letter m = ⟨#[lcode m]⟩ := by
  revert m
  decide +kernel
theorem letter_inj {a b : Mk8} (h : letter a = letter b) : a = b := by
  rw [letter_eq, letter_eq] at h
  have h2 : lcode a = lcode b := by
    have := congrArg (fun s : Str => s.cps.toList) h
    simpa using this
  unfold lcode at h2
  exact Fin.ext (by omega)
inductive Bop where | and | or | xor | imp
inductive Qn where | some | each
def Bop.nm : Bop → Str
  | .and => "and"
  | .or => "or"
  | .xor => "either"
  | .imp => "if"
def Qn.nm : Qn → Str
  | .some => "some"
  | .each => "each"
inductive Sen where
  | yes | no
  | mark (m : Mk8)
  | not (s : Sen)
  | bin (o : Bop) (s t : Sen)
  | qu (q : Qn) (m : Mk8) (s : Sen)
def enc : Sen → PD
  | .yes => .tuple [.str "yes"]
  | .no => .tuple [.str "no"]
  | .mark m => .tuple [.str "mark", .str (letter m)]
  | .not s => .tuple [.str "not", enc s]
  | .bin o s t => .tuple [.str o.nm, enc s, enc t]
  | .qu q m s => .tuple [.str q.nm, .str (letter m), enc s]
def Sen.cnt : Sen → Nat
  | .yes | .no | .mark _ => 1
  | .not s => 1 + s.cnt
  | .bin _ s t => 1 + (s.cnt + t.cnt)
  | .qu _ _ s => 1 + s.cnt
def Sen.dep : Sen → Nat
  | .yes | .no | .mark _ => 1
  | .not s => 1 + s.dep
  | .bin _ s t => 1 + max s.dep t.dep
  | .qu _ _ s => 1 + s.dep
def Sen.ms : Sen → List Mk8
  | .yes | .no => []
  | .mark m => [m]
  | .not s => s.ms
  | .bin _ s t => s.ms ++ t.ms
  | .qu _ m s => m :: s.ms
def Bop.fn : Bop → Bool → Bool → Bool
  | .and, a, b => a && b
  | .or, a, b => a || b
  | .xor, a, b => a != b
  | .imp, a, b => !a || b
def Sen.val : Sen → Fn
  | .yes, _ => true
  | .no, _ => false
  | .mark m, e => e m
  | .not s, e => !s.val e
  | .bin o s t, e => o.fn (s.val e) (t.val e)
  | .qu .some m s, e => s.val (putE e m false) || s.val (putE e m true)
  | .qu .each m s, e => s.val (putE e m false) && s.val (putE e m true)
def Sen.parts : Sen → List Sen
  | .yes | .no | .mark _ => []
  | .not s => [s]
  | .bin _ s t => [s, t]
  | .qu _ _ s => [s]
def Sen.head : Sen → Str
  | .yes => "yes"
  | .no => "no"
  | .mark _ => "mark"
  | .not _ => "not"
  | .bin o _ _ => o.nm
  | .qu q _ _ => q.nm
theorem cnt_parts (s : Sen) : (s.cnt : Int) = 1 + (s.parts.map fun t => (t.cnt : Int)).sum := by
  cases s <;> simp [Sen.cnt, Sen.parts] <;> omega
theorem dep_pos (s : Sen) : 1 ≤ s.dep := by cases s <;> simp [Sen.dep] <;> omega
theorem cnt_pos (s : Sen) : 1 ≤ s.cnt := by cases s <;> simp [Sen.cnt] <;> omega
theorem dep_parts (s : Sen) : (s.dep : Int) = 1 + mxI 0 (s.parts.map fun t => (t.dep : Int)) := by
  cases s with
  | bin o s t =>
    simp only [Sen.dep, Sen.parts, List.map, mxI, mx, List.foldl]
    have h : (max s.dep t.dep : Nat) = if (s.dep : Int) < t.dep then t.dep else s.dep := by split <;> omega
    rw [h]
    split <;> simp
  | _ => simp [Sen.dep, Sen.parts, mxI, mx]
theorem part_dep {s t : Sen} (h : t ∈ s.parts) : t.dep < s.dep := by
  cases s <;> simp [Sen.parts] at h <;> (try (rcases h with rfl | rfl)) <;> simp_all [Sen.dep] <;> omega

/-! ### what the laws draw -/
def lawCell (ns : List Int) (k : Nat) : Int := ns.getD k 0
def divs (x b : Int) : Nat → Int
  | 0 => x
  | k + 1 => divs x b k / b
def draw (cell : Int) (k : Nat) (b : Int) : Int :=
  if 10 ^ 18 ≤ cell then divs cell b k % b
  else
    let s1 := (cell % 1000000007 + 1009 * k + 17) * 69621 % 2147483647
    let s2 := (s1 * s1 + 40503 * k + 5) % 2147483629
    s2 * 48271 % 2147483647 / 32 % b
theorem draw_lt (cell : Int) (k : Nat) {b : Int} (h : 0 < b) : 0 ≤ draw cell k b ∧ draw cell k b < b := by
  unfold draw
  split
  · exact ⟨Int.emod_nonneg _ (by omega), Int.emod_lt_of_pos _ h⟩
  · exact ⟨Int.emod_nonneg _ (by omega), Int.emod_lt_of_pos _ h⟩

local macro_rules | `(tactic| walk_at "go1") => `(tactic| first
  | with_reducible refine sv_seq ?_ | with_reducible refine sv_ret ?_ | with_reducible refine sv_if ?_ | with_reducible refine sv_asg ?_ | with_reducible refine sv_drop ?_ | with_reducible refine sv_next ?_
  | with_reducible refine ev_var rfl ?_ | with_reducible refine ev_int ?_ | with_reducible refine ev_str ?_ | with_reducible refine ev_bl ?_ | with_reducible refine ev_non ?_ | with_reducible refine ev_c ?_
  | with_reducible refine ev_op ?_ | with_reducible refine ev_cb ?_ | with_reducible refine ea_cons ?_ | with_reducible refine ea_nil ?_ | with_reducible refine ev_call ?_
  | with_reducible refine ev_andV ?_ | with_reducible refine ev_orV ?_ | with_reducible refine ev_notV ?_ | with_reducible refine ev_if ?_ | with_reducible refine ev_tup ?_ | with_reducible refine ev_fld ?_ | with_reducible refine ev_meth ?_
  | with_reducible refine et_test ?_ | with_reducible refine et_B ?_ | with_reducible refine et_and ?_ | with_reducible refine et_or ?_ | with_reducible refine et_not ?_ | with_reducible refine et_yes ?_
  | with_reducible refine o_ii ?_ | with_reducible refine o_ib ?_ | with_reducible refine o_eqI ?_ | with_reducible refine o_neI ?_ | with_reducible refine o_eqS ?_ | with_reducible refine o_neS ?_
  | with_reducible refine ⟨_, rfl, ?_⟩)
local macro_rules | `(tactic| walk_at "go") => `(tactic| repeat walk_at "go1")

/-- the promise is kept by the reading -/
abbrev Keeps (K : Frag) (T : TF) (N : List Str) (t : XK → TS) : Prop := ∀ (E : XK) es R W X, T es R W X → Sv ⟨K, E, X⟩ (t E) (ρ0 N es) R ⟨fun _ R' => W (.d .none) R', W, fun _ _ => False, fun _ _ => False⟩
theorem atI_get {α : Type} {xs : List α} {i : Int} {x : α} (h0 : 0 ≤ i) (h : xs[i.toNat]? = some x) : atI xs i = some x := by
  have hl := (List.getElem?_eq_some_iff.mp h).1
  unfold atI ixN
  rw [if_pos h0, if_pos (by omega)]
  exact h
theorem atI_neg {α : Type} {xs : List α} {i : Int} {x : α} (h0 : i < 0) (h1 : -(xs.length : Int) ≤ i) (h : xs[(i + xs.length).toNat]? = some x) : atI xs i = some x := by
  unfold atI ixN
  rw [if_neg (by omega), if_pos h1]
  exact h

def T_law_cell_at : TF := fun es R W _ => ∃ (a : Addr) (j : Nat) (ns : List Int) (k : Int), es = [.v (.ref a), .d (.int k)] ∧ R[j]? = some (rScr a ns) ∧ 0 ≤ k ∧ W (.d (.int (lawCell ns k.toNat))) R
def t_law_cell_at (K : Frag) : TS :=
  (tSeq (tIfS (tTest (tOp (rIb fun i j => decide (i < j)) (tVar 1) (tCB (rLenX K) (tCons (tVar 0) tNil)))) (tRet (tOp (rIx K) (tVar 0) (tVar 1))) tNext)
    (tRet (tC (.int 0))))
theorem rd_law_cell_at {K : Frag} : Keeps K T_law_cell_at ["script", "k"] fun _ => t_law_cell_at K := by
  rintro E es R W X ⟨a, j, ns, k, rfl, hj, h0, w⟩
  unfold t_law_cell_at
  walk_at "go"
  refine o_lenScr hj ?_
  walk_at "go"
  by_cases h : k < (ns.length : Int)
  · rw [if_pos (decide_eq_true h)]
    walk_at "go"
    refine o_ixScr hj (atI_get h0 (List.getElem?_eq_getElem (by omega))) ?_
    have e : lawCell ns k.toNat = ns[k.toNat]'(by omega) := by unfold lawCell; rw [List.getD_eq_getElem?_getD, List.getElem?_eq_getElem (by omega)]; rfl
    rw [← e]
    exact w
  · rw [if_neg (by simpa using h)]
    walk_at "go"
    have e : lawCell ns k.toNat = 0 := by unfold lawCell; rw [List.getD_eq_getElem?_getD, List.getElem?_eq_none (by omega)]; rfl
    rw [← e]
    exact w

def T_law_draw : TF := fun es R W _ => ∃ (cell : Int) (k : Nat) (b : Int), es = [.d (.int cell), .d (.int k), .d (.int b)] ∧ k ≤ 1000 ∧ 0 < b ∧ b ≤ 1000000 ∧ W (.d (.int (draw cell k b))) R
def t_law_draw (K : Frag) : TS :=
  (tSeq (tIfS (tTest (tOp (rIb fun i j => decide (j ≤ i)) (tVar 0) (tOp (rIc CPow fun i j => i ^ j.toNat) (tC (.int 10)) (tC (.int 18))))) (tSeq (tAsg (tVar 0) (gName 3))
    (tSeq (tFor (iRng1 (tCons (tVar 1) tNil)) (gName 4) (tAsg (tOp (rIc CDivW fun i j => i / j) (tVar 3) (tVar 2)) (gName 3)))
    (tRet (tOp (rIc (fun _ j => 0 < j) fun i j => i % j) (tVar 3) (tVar 2))))) tNext)
    (tSeq (tAsg (tOp (rIc (fun _ j => 0 < j) fun i j => i % j) (tOp (rIc CMulW fun i j => i * j) (tOp (rIi fun i j => i + j) (tOp (rIi fun i j => i + j) (tOp (rIc (fun _ j => 0 < j) fun i j => i % j) (tVar 0) (tC (.int 1000000007))) (tOp (rIc CMulW fun i j => i * j) (tC (.int 1009)) (tVar 1))) (tC (.int 17))) (tC (.int 69621))) (tC (.int 2147483647))) (gName 5))
    (tSeq (tAsg (tOp (rIc (fun _ j => 0 < j) fun i j => i % j) (tOp (rIi fun i j => i + j) (tOp (rIi fun i j => i + j) (tOp (rIc CMulW fun i j => i * j) (tVar 5) (tVar 5)) (tOp (rIc CMulW fun i j => i * j) (tC (.int 40503)) (tVar 1))) (tC (.int 5))) (tC (.int 2147483629))) (gName 5))
    (tRet (tOp (rIc (fun _ j => 0 < j) fun i j => i % j) (tOp (rIc CDivW fun i j => i / j) (tOp (rIc (fun _ j => 0 < j) fun i j => i % j) (tOp (rIc CMulW fun i j => i * j) (tVar 5) (tC (.int 48271))) (tC (.int 2147483647))) (tC (.int 32))) (tVar 2))))))
theorem log_le {i : Int} (n : Nat) (h : i.natAbs < 2 ^ n) : i.natAbs.log2 ≤ n := by
  by_cases h0 : i.natAbs = 0
  · rw [h0]; simp
  · exact Nat.le_of_lt ((Nat.log2_lt h0).mpr h)
theorem mulW {i j : Int} (h1 : i.natAbs < 2 ^ 200) (h2 : j.natAbs < 2 ^ 200) : CMulW i j := by
  have a := log_le 200 h1
  have b := log_le 200 h2
  show i.natAbs.log2 + j.natAbs.log2 < 1000000
  omega
theorem divW {i j : Int} (h1 : 0 < j) (h2 : j.natAbs < 2 ^ 200) : CDivW i j := ⟨h1, by have := log_le 200 h2; omega⟩
theorem rd_law_draw {K : Frag} : Keeps K T_law_draw ["cell", "k", "bound", "left", "j", "stir"] fun _ => t_law_draw K := by
  rintro E es R W X ⟨cell, k, b, rfl, hk, hb, hb2, w⟩
  unfold t_law_draw
  walk_at "go"
  refine o_ic ⟨by decide, by decide, by decide⟩ ?_
  walk_at "go"
  have nb : b.natAbs < 2 ^ 200 := Nat.lt_of_le_of_lt (by omega : b.natAbs ≤ 1000000) (by decide)
  by_cases h : (10 : Int) ^ 18 ≤ cell
  · rw [show decide ((10 : Int) ^ (18 : Int).toNat ≤ cell) = true from decide_eq_true h, if_pos rfl]
    walk_at "go"
    refine sv_forR1 (k : Int) (fun i ρ' R' => R' = R ∧ ∃ x, ρ' = [some (.d (.int cell)), some (.d (.int k)), some (.d (.int b)), some (.d (.int (divs cell b i))), x, none]) ?_ ⟨by omega, by omega⟩ ?_ ?_
    · walk_at "go"
      exact ⟨rfl, rfl, none, rfl⟩
    · rintro i ρ' R' hi ⟨rfl, x, rfl⟩
      walk_at "go"
      refine o_ic (divW hb nb) ?_
      exact ⟨rfl, _, rfl⟩
    · rintro ρ' R' ⟨rfl, x, rfl⟩
      walk_at "go"
      refine o_ic hb ?_
      have e : draw cell k b = divs cell b (k : Int).toNat % b := by unfold draw; rw [if_pos h]; rfl
      rw [← e]
      exact w
  · rw [show decide ((10 : Int) ^ (18 : Int).toNat ≤ cell) = false from decide_eq_false h, if_neg Bool.false_ne_true]
    have m1 := Int.emod_nonneg cell (show (1000000007 : Int) ≠ 0 by decide)
    have m2 := Int.emod_lt_of_pos cell (show (0 : Int) < 1000000007 by decide)
    walk_at "go"
    refine o_ic (by decide) ?_
    walk_at "go"
    refine o_ic (mulW (by decide) (Nat.lt_of_le_of_lt (by omega : (k : Int).natAbs ≤ 1000) (by decide))) ?_
    walk_at "go"
    generalize hs0 : cell % 1000000007 + 1009 * (k : Int) + 17 = s0
    have b0 : s0.natAbs ≤ 2000000000 := by omega
    refine o_ic (mulW (Nat.lt_of_le_of_lt b0 (by decide)) (by decide)) ?_
    walk_at "go"
    refine o_ic (by decide) ?_
    walk_at "go"
    generalize hs1 : s0 * 69621 % 2147483647 = s1
    have b1 : 0 ≤ s1 ∧ s1 < 2147483647 := by rw [← hs1]; exact ⟨Int.emod_nonneg _ (by decide), Int.emod_lt_of_pos _ (by decide)⟩
    refine o_ic (mulW (Nat.lt_of_le_of_lt (by omega : s1.natAbs ≤ 2147483647) (by decide)) (Nat.lt_of_le_of_lt (by omega : s1.natAbs ≤ 2147483647) (by decide))) ?_
    walk_at "go"
    refine o_ic (mulW (by decide) (Nat.lt_of_le_of_lt (by omega : (k : Int).natAbs ≤ 1000) (by decide))) ?_
    walk_at "go"
    refine o_ic (by decide) ?_
    walk_at "go"
    generalize hs2 : (s1 * s1 + 40503 * (k : Int) + 5) % 2147483629 = s2
    have b2 : 0 ≤ s2 ∧ s2 < 2147483629 := by rw [← hs2]; exact ⟨Int.emod_nonneg _ (by decide), Int.emod_lt_of_pos _ (by decide)⟩
    refine o_ic (mulW (Nat.lt_of_le_of_lt (by omega : s2.natAbs ≤ 2147483647) (by decide)) (by decide)) ?_
    walk_at "go"
    refine o_ic (by decide) ?_
    walk_at "go"
    refine o_ic (divW (by decide) (by decide)) ?_
    walk_at "go"
    refine o_ic hb ?_
    have e : draw cell k b = s2 * 48271 % 2147483647 / 32 % b := by unfold draw; rw [if_neg h, hs0, hs1]; dsimp only; rw [hs2]
    rw [← e]
    exact w
end SE
end
section
set_option Elab.async false
set_option linter.all false
set_option maxRecDepth 100000
set_option maxHeartbeats 8000000
namespace SE
open PySem PySem.Spec PyProof.Rows L2 PB

/-! ### resources: those behind are let go -/
section
variable {c : Ctx} {R R2 : List Res} {ρ : Rho} {t : TS} {P : Post} {te : TE} {W : We}
theorem Stp.cut {F H : Hp} : Stp F H (R ++ R2) F H R :=
  ⟨Sub.rfl, fun h n => ⟨h, fun {i r} hi => n (i := i) (by rw [List.getElem?_append_left (List.getElem?_eq_some_iff.mp hi).1]; exact hi)⟩, fun h _ _ => h⟩
theorem sv_cut (h : Sv c t ρ R P) : Sv c t ρ (R ++ R2) P := sv_conv (fun F H ro => ⟨F, .cut, ro.left⟩) h
theorem ev_cut (h : Ev c te ρ R fun e R1 => ∃ R0 R3, R1 = R0 ++ R3 ∧ W e R0) : Ev c te ρ R W := fun F H σ Q st x q =>
  h F H σ _ st x fun v e F1 H1 R1 s1 st1 he ⟨R0, R3, e1, w⟩ => by
    subst e1
    exact q v e F1 H1 R0 (s1.tr .cut) ⟨st1.len, st1.env, st1.res.left⟩ he w
theorem push_at {R : List Res} {r : Res} : (R ++ [r])[R.length]? = some r := by simp
theorem push_set {R : List Res} {r r' : Res} : (R ++ [r]).set R.length r' = R ++ [r'] := by simp
theorem app_at {R S : List Res} {r : Res} {j : Nat} (h : R[j]? = some r) : (R ++ S)[j]? = some r := by
  rw [List.getElem?_append_left (List.getElem?_eq_some_iff.mp h).1]; exact h
theorem app_set {R S : List Res} {r r' : Res} {j : Nat} (h : R[j]? = some r) : (R ++ S).set j r' = R.set j r' ++ S := by
  rw [List.set_append_left _ _ (List.getElem?_eq_some_iff.mp h).1]
theorem set_at {R : List Res} {r r' : Res} {j : Nat} (h : R[j]? = some r) : (R.set j r')[j]? = some r' := List.getElem?_set_self (List.getElem?_eq_some_iff.mp h).1
theorem set_ne {R : List Res} {r r' : Res} {i j : Nat} (n : j ≠ i) (h : R[i]? = some r) : (R.set j r')[i]? = some r := by rw [List.getElem?_set_ne n]; exact h
theorem set_same {R : List Res} {r : Res} {j : Nat} (h : R[j]? = some r) : R.set j r = R := by
  obtain ⟨hl, e⟩ := List.getElem?_eq_some_iff.mp h
  rw [← e]; simp
theorem set_set {R : List Res} {r r' : Res} {j : Nat} : (R.set j r).set j r' = R.set j r' := by simp
theorem at_lt {R : List Res} {r : Res} {j : Nat} (h : R[j]? = some r) : j < R.length := (List.getElem?_eq_some_iff.mp h).1
end

/-! ### what the sentences name -/
def Sen.own : Sen → List Mk8
  | .mark m => [m]
  | .qu _ m _ => [m]
  | _ => []
theorem ms_parts (s : Sen) : s.ms = s.own ++ s.parts.flatMap Sen.ms := by
  cases s <;> simp [Sen.ms, Sen.own, Sen.parts]
theorem ms_cnt (s : Sen) : s.ms.length ≤ s.cnt := by
  induction s with
  | yes | no | mark => simp [Sen.ms, Sen.cnt]
  | not s ih => simpa [Sen.ms, Sen.cnt] using by omega
  | bin o s t h1 h2 => simp [Sen.ms, Sen.cnt]; omega
  | qu q m s ih => simp [Sen.ms, Sen.cnt]; omega
theorem part_cnt {s t : Sen} (h : t ∈ s.parts) : t.cnt ≤ s.cnt := by
  cases s <;> simp [Sen.parts] at h <;> (try (rcases h with rfl | rfl)) <;> simp_all [Sen.cnt] <;> omega

/-! ### sorted texts -/
theorem ltCps_irr (a : List Nat) : ltCps a a = false := by rw [ltCps_eq]; simp
theorem risingS_iff : ∀ (p : Str) (l : List Str), risingS p l = true → (p :: l).Pairwise fun a b => ltCps b.cps.toList a.cps.toList = false
  | p, [], _ => by simp
  | p, x :: r, h => by
    have h : (!ltCps x.cps.toList p.cps.toList && risingS x r) = true := h
    rw [Bool.and_eq_true] at h
    have h1 : ltCps x.cps.toList p.cps.toList = false := by simpa using h.1
    have ih := risingS_iff x r h.2
    refine List.pairwise_cons.mpr ⟨fun y hy => ?_, ih⟩
    rcases List.mem_cons.mp hy with rfl | hy
    · exact h1
    · have h2 := List.rel_of_pairwise_cons ih hy
      rw [ltCps_eq] at h1 h2 ⊢
      simp only [decide_eq_false_iff_not, Std.not_lt] at h1 h2 ⊢
      exact Std.le_trans h1 h2
theorem sortedS_iff {l : List Str} (h : sortedS l = true) : l.Pairwise fun a b => ltCps b.cps.toList a.cps.toList = false := by
  cases l with
  | nil => exact .nil
  | cons x r => exact risingS_iff x r h
theorem cps_inj {a b : Str} (h : a.cps.toList = b.cps.toList) : a = b := by
  cases a; cases b
  congr 1
  exact Array.ext' h
/-- one list alone is rising -/
theorem sorted_one {l m : List Str} (hp : l.Perm m) (h1 : sortedS l = true) (h2 : sortedS m = true) : l = m := by
  refine List.Perm.eq_of_pairwise (le := fun a b => ltCps b.cps.toList a.cps.toList = false) (fun a b _ _ x y => ?_) (sortedS_iff h1) (sortedS_iff h2) hp
  rw [ltCps_eq] at x y
  simp only [decide_eq_false_iff_not, Std.not_lt] at x y
  exact cps_inj (Std.le_antisymm x y)
def sortM (l : List Mk8) : List Mk8 := (List.finRange 8).filter fun m => decide (m ∈ l)
theorem sortM_mem {l : List Mk8} {m : Mk8} : m ∈ sortM l ↔ m ∈ l := by simp [sortM]
theorem sortM_nd (l : List Mk8) : (sortM l).Nodup := (List.nodup_finRange 8).filter _
theorem sortM_len (l : List Mk8) : (sortM l).length ≤ 8 := Nat.le_trans (List.length_filter_le _ _) (by simp)
theorem sortM_sorted (l : List Mk8) : sortedS ((sortM l).map letter) = true := by
  refine sortedS_of_pairwise _ ?_
  rw [List.pairwise_map]
  refine List.Pairwise.imp ?_ ((List.pairwise_lt_finRange 8).filter _)
  intro a b h
  rw [letter_eq, letter_eq, ltCps_eq]
  simp only [decide_eq_false_iff_not]
  have : lcode a < lcode b := by unfold lcode; omega
  intro z
  have z : [lcode b] < [lcode a] := z
  rw [List.cons_lt_cons_iff] at z
  rcases z with z | ⟨z, _⟩ <;> omega
theorem sortM_perm {l : List Mk8} (h : l.Nodup) : (sortM l).Perm l := (List.perm_ext_iff_of_nodup (sortM_nd l) h).mpr fun a => sortM_mem
theorem letters_sorted {l : List Mk8} (h : l.Nodup) {ys : List Str} (hp : ys.Perm (l.map letter)) (hs : sortedS ys = true) : ys = (sortM l).map letter :=
  sorted_one (hp.trans ((sortM_perm h).map letter).symm) hs (sortM_sorted l)
theorem once_letters (l : List Mk8) {ss : List Str} (hn : ss.Nodup) (hm : ∀ x, x ∈ ss ↔ x ∈ l.map letter) : ∃ l' : List Mk8, l'.Nodup ∧ ss = l'.map letter ∧ ∀ m, m ∈ l' ↔ m ∈ l := by
  have key : ∀ ss : List Str, ss.Nodup → (∀ x ∈ ss, ∃ m, x = letter m) → ∃ l' : List Mk8, l'.Nodup ∧ ss = l'.map letter := by
    intro ss
    induction ss with
    | nil => intro _ _; exact ⟨[], .nil, rfl⟩
    | cons a ss ih =>
      intro hn h
      obtain ⟨l', h1, h2⟩ := ih (List.nodup_cons.mp hn).2 fun x hx => h x (List.mem_cons_of_mem _ hx)
      obtain ⟨m, e⟩ := h a (List.mem_cons_self ..)
      refine ⟨m :: l', List.nodup_cons.mpr ⟨fun z => ?_, h1⟩, by rw [e, h2]; rfl⟩
      refine (List.nodup_cons.mp hn).1 ?_
      rw [e, h2]
      exact List.mem_map_of_mem z
  obtain ⟨l', h1, h2⟩ := key ss hn fun x hx => by
    obtain ⟨m, _, e⟩ := List.mem_map.mp ((hm x).mp hx)
    exact ⟨m, e.symm⟩
  refine ⟨l', h1, h2, fun m => ?_⟩
  have h3 := hm (letter m)
  rw [h2] at h3
  constructor
  · intro z
    obtain ⟨m', h4, h5⟩ := List.mem_map.mp (h3.mp (List.mem_map_of_mem z))
    rw [← letter_inj h5]; exact h4
  · intro z
    obtain ⟨m', h4, h5⟩ := List.mem_map.mp (h3.mpr (List.mem_map_of_mem z))
    rw [← letter_inj h5]; exact h4
end SE
end
section
set_option Elab.async false
set_option linter.all false
set_option maxRecDepth 100000
set_option maxHeartbeats 8000000
namespace SE
open PySem PySem.Spec PyProof.Rows L2 PB

/-! ### the signs of a text, one after the other -/
theorem signs_lc {z : Str} {gg : TG} {tq : TT} {tv : TE} {us : List Nat} {s0 : L2.St} {Hz : Hp} {B : Addr} {Fin : Hp → Prop} (P : Nat → Hp → Prop) (p0 : P 0 (upd Hz B (.lst [])))
    (step : ∀ i n H, z.cps[i]? = some n → P i H → gg (.str ⟨#[n]⟩) (wipe s0 us) H fun s2 H2 => wipe s2 us = wipe s0 us ∧ tq s2 H2 fun w H3 =>
      if w = true then tv s2 H3 fun y H4 => ∃ ys, H4 B = some (.lst ys) ∧ ys.length < sizeLine ∧ P (i + 1) (upd H4 B (.lst (ys ++ [y]))) else P (i + 1) H3) (fin : ∀ H, P z.cps.size H → Fin H) :
    ∃ Z : Nat → Nat → Hp → Prop, (∃ m, Z 0 m (upd Hz B (.lst []))) ∧ ∀ i m H, Z i m H →
      ((Its z).stop i H ∧ Fin H) ∨ ((Its z).go i H ∧ ∃ N : Hp → Prop, (∀ Hn, N Hn → ∃ k, k < m ∧ Z (i + 1) k Hn) ∧ ∀ u Hn, (Its z).yld i H u Hn → gg u (wipe s0 us) Hn fun s2 H2 => wipe s2 us = wipe s0 us ∧ tq s2 H2 fun w H3 =>
        if w = true then tv s2 H3 fun y H4 => ∃ ys, H4 B = some (.lst ys) ∧ ys.length < sizeLine ∧ N (upd H4 B (.lst (ys ++ [y]))) else N H3) := by
  refine ⟨fun i m H => m = z.cps.size - i ∧ i ≤ z.cps.size ∧ P i H, ⟨z.cps.size, by simp, Nat.zero_le _, p0⟩, ?_⟩
  rintro i m H ⟨rfl, hi, p⟩
  by_cases lt : i < z.cps.size
  · refine .inr ⟨lt, P (i + 1), fun Hn q => ⟨z.cps.size - (i + 1), by omega, rfl, lt, q⟩, fun u Hn y => ?_⟩
    obtain ⟨e, n, hn, e2⟩ := y
    subst e e2
    exact step i n _ hn p
  · have e : i = z.cps.size := by omega
    subst e
    exact .inl ⟨Nat.le_refl _, fin H p⟩
theorem signs_for {z : Str} {gg : TG} {body : TS} {D : Ends} {s0 : L2.St} {H0 : Hp} (P : Nat → L2.St → Hp → Prop) (p0 : P 0 s0 H0)
    (step : ∀ i n s H, z.cps[i]? = some n → P i s H → gg (.str ⟨#[n]⟩) s H fun s2 H2 => body { D with nx := P (i + 1), ct := P (i + 1), bk := D.nx } s2 H2) (fin : ∀ s H, P z.cps.size s H → D.nx s H) :
    ∃ Z : Nat → Nat → L2.St → Hp → Prop, (∃ m, Z 0 m s0 H0) ∧ ∀ i m s H, Z i m s H →
      ((Its z).stop i H ∧ D.nx s H) ∨ ((Its z).go i H ∧ ∃ N : L2.St → Hp → Prop, (∀ sn Hn, N sn Hn → ∃ k, k < m ∧ Z (i + 1) k sn Hn) ∧ ∀ u Hn, (Its z).yld i H u Hn → gg u s Hn fun s2 H2 => body { D with nx := N, ct := N, bk := D.nx } s2 H2) := by
  refine ⟨fun i m s H => m = z.cps.size - i ∧ i ≤ z.cps.size ∧ P i s H, ⟨z.cps.size, by simp, Nat.zero_le _, p0⟩, ?_⟩
  rintro i m s H ⟨rfl, hi, p⟩
  by_cases lt : i < z.cps.size
  · refine .inr ⟨lt, P (i + 1), fun sn Hn q => ⟨z.cps.size - (i + 1), by omega, rfl, lt, q⟩, fun u Hn y => ?_⟩
    obtain ⟨e, n, hn, e2⟩ := y
    subst e e2
    exact step i n s _ hn p
  · have e : i = z.cps.size := by omega
    subst e
    exact .inl ⟨Nat.le_refl _, fin s H p⟩
section
variable {c : Ctx} {R R2 : List Res} {ρ : Rho} {t : TS} {P : Post} {te : TE} {W : We}
theorem ev_lcS {tl : TE} {tt : TT} {vs : List Nat} {j : Nat} (z : Str) (Inv : Nat → List PD → List Res → Prop) (h : Ev c tl ρ R fun e R1 => e = .d (.str z) ∧ Inv 0 [] R1) (hl : z.length ≤ 100000) (hj : j ∈ vs)
    (hs : ∀ i n acc R', z.cps[i]? = some n → Inv i acc R' → acc.length ≤ i → EvT c tt ((wipeR ρ vs).set j (some (.d (.str ⟨#[n]⟩)))) R' fun b R3 => if b = true then Ev c te ((wipeR ρ vs).set j (some (.d (.str ⟨#[n]⟩)))) R3 fun e R4 => ∃ y, e = .d y ∧ Inv (i + 1) (acc ++ [y]) R4 else Inv (i + 1) acc R3)
    (hd : ∀ acc R', Inv z.cps.size acc R' → acc.length ≤ z.cps.size → W (.d (.list acc)) R') : Ev c (tLc (iStr tl) (gName j) tt te vs) ρ R W := fun F H σ Q st x q =>
  h F H σ _ st x fun v e F1 H1 R1 s1 st1 he ⟨ee, i0⟩ => by
    subst ee
    cases he
    have hl : z.cps.size ≤ 100000 := hl
    refine ⟨z, rfl, fun D hD => ?_⟩
    refine signs_lc (z := z) (LcI c F1 H1 σ ρ R1 D Inv) (lc0 st1 hD i0) ?_ ?_
    · rintro i n H' hn ⟨F', R', acc, vs', s', st', iv, hai, hD', hF', hr', off⟩
      have hil := (Array.getElem?_eq_some_iff.mp hn).1
      refine ⟨by rw [wipe_set hj, wipe_wipe], ?_⟩
      exact lc_turn (x.sub s1) hD ⟨F', R', acc, vs', s', st', iv, hai, hD', hF', hr', off⟩ s' st' hai hD' hF' hr' off ((st'.wipe vs).set (eD (Rp.str _))) (by omega) (hs i n acc R' hn iv hai)
    · rintro H' ⟨F', R', acc, vs', s', st', iv, hai, hD', hF', hr', off⟩
      exact lc_end s1 hD s' st' hD' hF' hr' off (fun z e F2 H2 R2 s2 st2 he2 w => q z e F2 H2 R2 s2 st2 he2 w) (hd acc R' iv hai)
theorem sv_forS {tl : TE} {j : Nat} (z : Str) (Inv : Nat → Rho → List Res → Prop) (h : Ev c tl ρ R fun e R1 => e = .d (.str z) ∧ Inv 0 ρ R1)
    (hs : ∀ i n ρ' R', z.cps[i]? = some n → Inv i ρ' R' → Sv c t (ρ'.set j (some (.d (.str ⟨#[n]⟩)))) R' { P with nx := Inv (i + 1), ct := Inv (i + 1), bk := P.nx })
    (hd : ∀ ρ' R', Inv z.cps.size ρ' R' → P.nx ρ' R') : Sv c (tFor (iStr tl) (gName j) t) ρ R P := fun F H σ D st x d =>
  h F H σ _ st x fun v e F1 H1 R1 s1 st1 he ⟨ee, i0⟩ => by
    subst ee
    cases he
    refine ⟨z, rfl, signs_for (z := z) (fun i σ' H' => ∃ F' ρ' R', Stp F1 H1 R1 F' H' R' ∧ Sta c.K F' H' σ' ρ' R' ∧ Inv i ρ' R') ⟨F1, ρ, R1, .rfl, st1, i0⟩ ?_ ?_⟩
    · rintro i n σ' H' hn ⟨F', ρ', R', s', st', iv⟩
      exact hs i n ρ' R' hn iv F' H' _ _ (st'.set (eD (Rp.str _))) ((x.sub s1).sub s') ⟨fun s3 st3 w => ⟨_, _, _, s'.tr s3, st3, w⟩, fun s3 => d.rt (s1.tr (s'.tr s3)), fun s3 st3 w => d.nx (s1.tr (s'.tr s3)) st3 w, fun s3 st3 w => ⟨_, _, _, s'.tr s3, st3, w⟩⟩
    · rintro σ' H' ⟨F', ρ', R', s', st', iv⟩
      exact d.nx (s1.tr s') st' (hd _ _ iv)
/-- [g x for x in range(n)], the things may change -/
theorem ev_lcRm {ta : TA} {te : TE} {vs : List Nat} {j : Nat} (n : Nat) (g : Nat → PD) (hj : j ∈ vs) (hl : n ≤ 100000) (h : EvA c ta ρ R fun es R1 => es = [.d (.int n)] ∧ R1 = R)
    (hs : ∀ i, i < n → Ev c te ((wipeR ρ vs).set j (some (.d (.int i)))) R fun e R' => e = .d (g i) ∧ R' = R) (k : W (.d (.list ((List.range n).map g))) R) : Ev c (tLc (iRng1 ta) (gName j) tYes te vs) ρ R W := by
  refine ev_lcR1 (n : Int) (fun i acc R' => R' = R ∧ acc = (List.range i).map g) ?_ ⟨by omega, by omega⟩ hj ?_ ?_
  · intro F H σ Q st x q
    exact h F H σ Q st x fun vs es F' H' R' s1 st1 he ⟨e1, e2⟩ => q vs es F' H' R' s1 st1 he ⟨e1, e2, rfl⟩
  · rintro i acc R' hi ⟨rfl, rfl⟩ _
    refine et_yes ?_
    rw [if_pos rfl]
    refine ev_mono (hs i (by omega)) fun e R' ⟨h1, h2⟩ => ⟨_, h1, h2, ?_⟩
    rw [List.range_succ, List.map_append]
    rfl
  · rintro acc R' ⟨rfl, rfl⟩ _
    rw [Int.toNat_natCast]
    exact k
end
end SE
end
section
set_option Elab.async false
set_option linter.all false
set_option maxRecDepth 100000
set_option maxHeartbeats 8000000
namespace SE
open PySem PySem.Spec PyProof.Rows L2 PB
local macro_rules | `(tactic| walk_at "go1") => `(tactic| first
  | with_reducible refine sv_seq ?_ | with_reducible refine sv_ret ?_ | with_reducible refine sv_if ?_ | with_reducible refine sv_asg ?_ | with_reducible refine sv_drop ?_ | with_reducible refine sv_next ?_ | with_reducible refine sv_dput ?_
  | with_reducible refine ev_var rfl ?_ | with_reducible refine ev_int ?_ | with_reducible refine ev_str ?_ | with_reducible refine ev_bl ?_ | with_reducible refine ev_non ?_ | with_reducible refine ev_c ?_
  | with_reducible refine ev_op ?_ | with_reducible refine ev_un ?_ | with_reducible refine ev_cb ?_ | with_reducible refine ea_cons ?_ | with_reducible refine ea_nil ?_ | with_reducible refine ev_call ?_ | with_reducible refine ev_sl ?_ | with_reducible refine eo_no ?_ | with_reducible refine eo_some ?_
  | with_reducible refine ev_andV ?_ | with_reducible refine ev_orV ?_ | with_reducible refine ev_notV ?_ | with_reducible refine ev_if ?_ | with_reducible refine ev_tup ?_ | with_reducible refine ev_fld ?_ | with_reducible refine ev_meth ?_ | with_reducible refine ev_bm ?_ | with_reducible refine ev_chain ?_
  | with_reducible refine ev_dget ?_ | with_reducible refine ev_din ?_ | with_reducible refine ev_dnotin ?_ | with_reducible refine ev_maxD ?_ | with_reducible refine ev_lenSetS ?_
  | with_reducible refine et_test ?_ | with_reducible refine et_B ?_ | with_reducible refine et_and ?_ | with_reducible refine et_or ?_ | with_reducible refine et_not ?_ | with_reducible refine et_yes ?_
  | with_reducible refine o_ii ?_ | with_reducible refine o_ib ?_ | with_reducible refine o_eqI ?_ | with_reducible refine o_neI ?_ | with_reducible refine o_eqS ?_ | with_reducible refine o_neS ?_ | with_reducible refine o_neg ?_
  | with_reducible refine o_lenL ?_ | with_reducible refine o_lenT ?_
  | with_reducible refine ⟨_, rfl, ?_⟩)
local macro_rules | `(tactic| walk_at "go") => `(tactic| repeat walk_at "go1")
local macro_rules | `(tactic| walk_at "br") => `(tactic| first
  | (with_reducible refine brT ?_ ?_; focus (decide +kernel; done)) | (with_reducible refine brF ?_ ?_; focus (decide +kernel; done)) | (with_reducible refine brT ?_ ?_; focus (simp; done)) | (with_reducible refine brF ?_ ?_; focus (simp; done)))
local macro_rules | `(tactic| walk_at "run") => `(tactic| repeat (first | walk_at "go1" | with_reducible refine o_ixT (atI_get (by decide) rfl) ?_ | with_reducible refine o_inTc rfl ?_ | refine ⟨Nat.le_of_ble_eq_true rfl, ?_⟩ | walk_at "br"))
def tabPIECES : List (Str × V) := [("yes", .int 0), ("no", .int 0), ("not", .int 1), ("and", .int 2), ("or", .int 2), ("either", .int 2), ("if", .int 2)]
def tabTABLES : List (Str × V) := [("and", .str "0001"), ("or", .str "0111"), ("either", .str "0110"), ("if", .str "1101")]
theorem brT {c : Bool} {A B : Prop} (h : c = true) (k : A) : if c = true then A else B := by rw [if_pos h]; exact k
theorem brF {c : Bool} {A B : Prop} (h : c = false) (k : B) : if c = true then A else B := by rw [if_neg (by rw [h]; exact Bool.false_ne_true)]; exact k
/-! ### marks and orders -/
theorem letter_len (m : Mk8) : (letter m).length = 1 := by rw [letter_eq]; rfl
def isMk (t : Str) : Bool := (t.length == 1) && decide (t.cps.toList.getD 0 0 ∈ ("abcdefgh" : Str).cps.toList)
theorem isMk_letter (m : Mk8) : isMk (letter m) = true := by
  revert m
  decide +kernel
theorem one_sign {t : Str} (h : t.length = 1) : t = ⟨#[t.cps.toList.getD 0 0]⟩ := by
  obtain ⟨cps⟩ := t
  have h : cps.size = 1 := h
  congr 1
  apply Array.ext
  · simpa using h
  · intro i h1 h2
    have : i = 0 := by omega
    subst this
    have g : cps[0]? = some cps[0] := Array.getElem?_eq_getElem (by omega)
    simp [g]
def T_is_mark : TF := fun es R W _ => ∃ t : Str, es = [.d (.str t)] ∧ t.length ≤ 100000 ∧ W (.d (.bool (isMk t))) R
def t_is_mark (K : Frag) : TS :=
  (tRet (tAndV (tOp rEq (tCB (rLenX K) (tCons (tVar 0) tNil)) (tC (.int 1))) (tOp rInS (tVar 0) (tC (.str "abcdefgh")))))

theorem rd_is_mark {K : Frag} : Keeps K T_is_mark ["text"] fun _ => t_is_mark K := by
  rintro E es R W X ⟨t, rfl, hl, w⟩
  unfold t_is_mark
  walk_at "go"
  refine o_lenS (by omega) ?_
  walk_at "go"
  by_cases h : t.length = 1
  · rw [if_pos (decide_eq_true (by omega))]
    generalize hn : t.cps.toList.getD 0 0 = n at *
    have e := one_sign h
    rw [hn] at e
    have e2 : isMk t = decide (n ∈ ("abcdefgh" : Str).cps.toList) := by unfold isMk; rw [hn, h]; simp
    rw [e2, ] at w
    subst e
    walk_at "go"
    exact o_inTx w
  · rw [if_neg (by simp; omega)]
    have e2 : isMk t = false := by unfold isMk; simp [h]
    rw [e2] at w
    exact w
def T_is_order : TF := fun es R W _ => ∃ ss : List Str, es = [.d (.list (ss.map .str))] ∧ ss.length ≤ 4000 ∧ (∀ s ∈ ss, s.length ≤ 100000) ∧ W (.d (.bool (if ss = [] ∨ ss.all isMk = false then false else decide ((distinct ss : Int) = ss.length)))) R
def t_is_order (K : Frag) : TS :=
  (tSeq (tIfS (tOr (tTest (tOp rEq (tCB (rLenX K) (tCons (tVar 0) tNil)) (tC (.int 0)))) (tNot (tB (tCB (rAll K) (tCons (tLc (iList K (tVar 0)) (gName 1) tYes (tCall (spT K T_is_mark) [] E0 (tCons (tVar 1) tNil)) [1]) tNil))))) (tRet (tC (.bl false))) tNext)
    (tRet (tOp rEq (tLenSetS K (tVar 0)) (tCB (rLenX K) (tCons (tVar 0) tNil)))))

theorem rd_is_order {K : Frag} : Keeps K T_is_order ["order", "mark"] fun _ => t_is_order K := by
  rintro E es R W X ⟨ss, rfl, hl, hs, w⟩
  unfold t_is_order
  walk_at "go"
  rw [List.length_map]
  by_cases h : ss = []
  · subst h
    rw [if_pos (by rfl), if_pos (by rfl)]
    walk_at "go"
    simpa using w
  · have h1 : ¬ (ss.length : Int) = 0 := by cases ss with | nil => exact absurd rfl h | cons a b => simp; omega
    rw [decide_eq_false h1, if_neg Bool.false_ne_true]
    walk_at "go"
    refine ev_lcL (js := [1]) (ss.map .str) (fun i acc R' => R' = R ∧ acc = (ss.take i).map fun s => .bool (isMk s)) ?_ (by simp; omega) (by simp) ?_ ?_
    · walk_at "go"
      exact ⟨rfl, rfl, rfl⟩
    · rintro i x acc R' hx ⟨rfl, rfl⟩ _
      rw [List.getElem?_map] at hx
      cases hi : ss[i]? with
      | none => rw [hi] at hx; cases hx
      | some s =>
        rw [hi] at hx
        cases hx
        refine tg_name ?_
        walk_at "go"
        rw [if_pos rfl]
        walk_at "go"
        refine ⟨s, rfl, hs s (List.mem_of_getElem? hi), _, rfl, rfl, ?_⟩
        rw [List.take_add_one, hi]
        simp
    · rintro acc R' ⟨rfl, rfl⟩ _
      walk_at "go"
      rw [List.length_map, List.take_length]
      rw [show (ss.map fun s => PyData.bool (isMk s)) = (ss.map isMk).map PyData.bool by simp]
      refine o_all ?_
      walk_at "go"
      have e1 : (ss.map isMk).all id = ss.all isMk := by simp [List.all_map]
      rw [e1]
      cases ha : ss.all isMk with
      | false =>
        rw [if_pos (by decide)]
        walk_at "go"
        rw [ha] at w
        simpa using w
      | true =>
        rw [if_neg (by decide)]
        rw [ha] at w
        walk_at "go"
        refine ⟨hl, ?_⟩
        walk_at "go"
        rw [List.length_map]
        simpa [h] using w
end SE
end
section
set_option Elab.async false
set_option linter.all false
set_option maxRecDepth 100000
set_option maxHeartbeats 8000000
namespace SE
open PySem PySem.Spec PyProof.Rows L2 PB
def strsOf : List PD → Option (List Str)
  | [] => some []
  | .str x :: r => match strsOf r with
    | some ss => some (x :: ss)
    | none => none
  | _ => none
theorem strsOf_map : ∀ {ds : List PD} {ss : List Str}, strsOf ds = some ss → ds = ss.map .str
  | [], _, h => by cases h; rfl
  | d :: r, ss, h => by
    cases d with
    | str x =>
      unfold strsOf at h
      cases e : strsOf r with
      | none => rw [e] at h; cases h
      | some s2 =>
        rw [e] at h
        cases h
        rw [strsOf_map e]
        rfl
    | _ => cases h
section
variable {c : Ctx} {R : List Res} {W : We}
theorem o_inTc {neg : Bool} {x : Str} {ds : List PD} {ss : List Str} (h : strsOf ds = some ss) (k : W (.d (.bool (if neg then !decide (x ∈ ss) else decide (x ∈ ss)))) R) : Op2 c (rIn c.K neg) (.d (.str x)) (.d (.tuple ds)) R W := by
  rw [strsOf_map h]
  exact o_inST ss k
theorem o_slTf {ds : List PD} (n : Nat) (h1 : 1 ≤ n) (h2 : n ≤ ds.length) (k : W (.d (.tuple (ds.drop n))) R) : OpS c (rSlT c.K) (.d (.tuple ds)) (some (n : Int)) none R W := by
  have e : HT.sIx ds.length 0 (some (n : Int)) = n := by
    simp only [HT.sIx]
    first | omega | (split <;> first | omega | (split <;> omega))
  refine o_slT (fun h => ?_) (by rw [cutD_from ds n h2]; exact k)
  rw [e] at h
  omega
/-- dict(pairs), list(d), sorted(texts) -/
def rDictP (K : Frag) : List V → Hp → VK → Prop := fun xs H Q => ∃ (a : Addr) (ps : List Addr) (kvs : List (Key × V)), xs = [.ref a] ∧ SqL K H a (ps.map V.ref) ∧ Paired (fun p kv => SqT K H p [kV kv.1, kv.2]) ps kvs ∧
    ∀ p, H p = none → Q (.ref p) (upd H p (.dK (mergeK [] kvs)))
theorem x_dictP {X : Cx} (hc : X.calm = true) : CallR X (.type "dict") (rDictP X.K) := call_dictP hc
def pairD (s : Str) : PD := .tuple [.str s, .bool true]
/-- each text once, in its first place's order -/
def once (ss : List Str) : List Str := ss.foldl (fun acc s => if s ∈ acc then acc else acc ++ [s]) []
theorem pairs_at {F : Hp} : ∀ {ss : List Str} {vs : List V}, RpA F vs (ss.map pairD) → ∃ ps : List Addr, vs = ps.map V.ref ∧ Paired (fun p (kv : Key × V) => F p = some (.tup [kV kv.1, kv.2])) ps (ss.map fun s => (Sum.inr s, V.bl true))
  | [], [], _ => ⟨[], rfl, .nil⟩
  | s :: ss, v :: vs, .cons h t => by
    obtain ⟨ps, e, hp⟩ := pairs_at t
    cases h with
    | @tup a xs _ ha hr =>
    cases hr with
    | cons h1 t1 =>
    cases t1 with
    | cons h2 t2 =>
    cases t2
    cases h1
    cases h2
    exact ⟨a :: ps, by rw [e]; rfl, .cons ha hp⟩
theorem merge_once (ss : List Str) : mergeK [] (ss.map fun s => ((Sum.inr s : Key), V.bl true)) = (once ss).map fun s => (Sum.inr s, V.bl true) := by
  have key : ∀ (ss acc : List Str), mergeK (acc.map fun s => ((Sum.inr s : Key), V.bl true)) (ss.map fun s => ((Sum.inr s : Key), V.bl true)) = (ss.foldl (fun acc s => if s ∈ acc then acc else acc ++ [s]) acc).map fun s => (Sum.inr s, V.bl true) := by
    intro ss
    induction ss with
    | nil => intro acc; rfl
    | cons s ss ih =>
      intro acc
      have step : putK (acc.map fun s => ((Sum.inr s : Key), V.bl true)) (Sum.inr s) (V.bl true) = (if s ∈ acc then acc else acc ++ [s]).map fun s => ((Sum.inr s : Key), V.bl true) := by
        unfold putK
        have ha : ((acc.map fun s => ((Sum.inr s : Key), V.bl true)).any fun kv => decide (kv.1 = Sum.inr s)) = decide (s ∈ acc) := by
          rw [List.any_map]
          rw [Bool.eq_iff_iff, List.any_eq_true, decide_eq_true_eq]
          constructor
          · rintro ⟨x, hx, e⟩
            simp at e
            rw [← e]
            exact hx
          · intro h
            exact ⟨s, h, by simp⟩
        rw [ha]
        by_cases h : s ∈ acc
        · rw [if_pos (by simp [h]), if_pos h, List.map_map]
          apply List.map_congr_left
          intro x _
          show (if (Sum.inr x : Key) = Sum.inr s then ((Sum.inr x : Key), V.bl true) else (Sum.inr x, V.bl true)) = _
          split <;> rfl
        · rw [if_neg (by simp [h]), if_neg h, List.map_append]
          rfl
      rw [List.map_cons, List.foldl_cons, ← ih, ← step]
      rfl
  exact key ss []
theorem once_mem (ss : List Str) (x : Str) : x ∈ once ss ↔ x ∈ ss := by
  have key : ∀ (ss acc : List Str), x ∈ ss.foldl (fun acc s => if s ∈ acc then acc else acc ++ [s]) acc ↔ x ∈ acc ∨ x ∈ ss := by
    intro ss
    induction ss with
    | nil => intro acc; simp
    | cons s ss ih =>
      intro acc
      rw [List.foldl_cons, ih]
      by_cases h : s ∈ acc
      · rw [if_pos h]
        constructor
        · rintro (h1 | h1)
          · exact .inl h1
          · exact .inr (List.mem_cons_of_mem _ h1)
        · rintro (h1 | h1)
          · exact .inl h1
          · rcases List.mem_cons.mp h1 with e | h1
            · rw [e]; exact .inl h
            · exact .inr h1
      · rw [if_neg h]
        simp [or_assoc]
  have h := key ss []
  unfold once
  rw [h]
  simp
theorem once_nd (ss : List Str) : (once ss).Nodup := by
  have key : ∀ (ss acc : List Str), acc.Nodup → (ss.foldl (fun acc s => if s ∈ acc then acc else acc ++ [s]) acc).Nodup := by
    intro ss
    induction ss with
    | nil => intro acc h; exact h
    | cons s ss ih =>
      intro acc h
      rw [List.foldl_cons]
      refine ih _ ?_
      by_cases hs : s ∈ acc
      · rw [if_pos hs]; exact h
      · rw [if_neg hs, List.nodup_append]
        refine ⟨h, by simp, fun a ha b hb => ?_⟩
        simp at hb
        subst hb
        rintro rfl
        exact hs ha
  exact key ss [] List.nodup_nil
theorem o_dictP {ss : List Str} (k : ∀ p, W (.v (.ref p)) (R ++ [rDK p ((once ss).map fun s => (Sum.inr s, .bool true))])) : OpL c (rDictP c.K) [.d (.list (ss.map pairD))] R W := fun F H vs Q ro eo h q => by
  cases h with
  | cons h1 t =>
  cases t
  cases h1 with
  | lst hs hr =>
  obtain ⟨ps, e, hp⟩ := pairs_at hr
  subst e
  refine ⟨_, ps, _, rfl, SqL.of (ro.sub _ _ hs), Paired.mono (fun a b z => SqT.of (ro.sub _ _ z)) hp, fun p hn => ?_⟩
  rw [merge_once]
  have kv : KVs F ((once ss).map fun s => ((Sum.inr s : Key), V.bl true)) ((once ss).map fun s => (Sum.inr s, .bool true)) := by
    generalize once ss = l
    induction l with
    | nil => exact .nil
    | cons a l ih => exact .cons ⟨rfl, .bl true⟩ ih
  have fp : ∀ a ∈ (rDK p ((once ss).map fun s => ((Sum.inr s : Key), PyData.bool true))).fp, a = p := fun a ha => by simpa [rDK] using ha
  exact q _ _ F _ _ (.push (r := rDK p _) (.put hn) fun a ha => by rw [fp a ha]; exact hn) (ro.push (r := rDK p ((once ss).map fun s => (Sum.inr s, .bool true))) (.put hn) ⟨_, upd_same, kv⟩ (fun a ha => by rw [fp a ha]; exact hn) fun a ha => by rw [fp a ha]; exact ⟨_, upd_same⟩) eV (k p)
theorem dk_keys {F : Hp} : ∀ {ss : List Str} {xs : List (Key × V)}, KVs F xs (ss.map fun s => ((Sum.inr s : Key), PyData.bool true)) → xs.map (fun kv => kV kv.1) = ss.map V.str
  | [], _, .nil => rfl
  | s :: ss, a :: xs, .cons h t => by
    have e1 : a.1 = Sum.inr s := h.1
    rw [List.map_cons, List.map_cons, dk_keys t, e1]
    rfl
/-- list(d) of text keys -/
theorem o_listDK {p : Addr} {j : Nat} {ss : List Str} (hj : R[j]? = some (rDK p (ss.map fun s => (Sum.inr s, .bool true)))) (k : W (.d (.list (ss.map .str))) R) : OpL c rListD [.v (.ref p)] R W := fun F H vs Q ro eo h q => by
  cases h with
  | cons h1 t =>
  cases t
  cases h1
  obtain ⟨xs, h2, h3⟩ := ro.ok hj
  have e := dk_keys h3
  have rp : ∀ (F : Hp) (ss : List Str), RpA F (ss.map V.str) (ss.map .str) := fun F ss => by
    induction ss with
    | nil => exact .nil
    | cons a l ih => exact .cons (.str a) ih
  refine ⟨p, xs, rfl, h2, fun l hl => ?_⟩
  rw [e]
  exact q _ _ _ _ R (.imm (ro.sub.none hl) hl) (ro.imm hl) (eD (Rp.lst upd_same (rp _ ss))) k
theorem o_sortedS {ss : List Str} (hl : ss.length < 64) (k : ∀ ys : List Str, ys.Perm ss → sortedS ys = true → W (.d (.list (ys.map .str))) R) : OpL c (rSortedS c.K) [.d (.list (ss.map .str))] R W := fun F H vs Q ro eo h q => by
  cases h with
  | cons h1 t =>
  cases t
  cases h1 with
  | lst hs hr =>
  have e := rpA_strs hr
  subst e
  have rp : ∀ (F : Hp) (ss : List Str), RpA F (ss.map V.str) (ss.map .str) := fun F ss => by
    induction ss with
    | nil => exact .nil
    | cons a l ih => exact .cons (.str a) ih
  exact ⟨_, ss, rfl, SqL.of (ro.sub _ _ hs), hl, fun ys p hp ho hn => q _ _ _ _ R (.imm (ro.sub.none hn) hn) (ro.imm hn) (eD (Rp.lst upd_same (rp _ ys))) (k ys hp ho)⟩
end
local macro_rules | `(tactic| walk_at "go1") => `(tactic| first
  | with_reducible refine sv_seq ?_ | with_reducible refine sv_ret ?_ | with_reducible refine sv_if ?_ | with_reducible refine sv_asg ?_ | with_reducible refine sv_drop ?_ | with_reducible refine sv_next ?_ | with_reducible refine sv_dput ?_
  | with_reducible refine ev_var rfl ?_ | with_reducible refine ev_int ?_ | with_reducible refine ev_str ?_ | with_reducible refine ev_bl ?_ | with_reducible refine ev_non ?_ | with_reducible refine ev_c ?_
  | with_reducible refine ev_op ?_ | with_reducible refine ev_un ?_ | with_reducible refine ev_cb ?_ | with_reducible refine ea_cons ?_ | with_reducible refine ea_nil ?_ | with_reducible refine ev_call ?_ | with_reducible refine ev_sl ?_ | with_reducible refine eo_no ?_ | with_reducible refine eo_some ?_
  | with_reducible refine ev_andV ?_ | with_reducible refine ev_orV ?_ | with_reducible refine ev_notV ?_ | with_reducible refine ev_if ?_ | with_reducible refine ev_tup ?_ | with_reducible refine ev_fld ?_ | with_reducible refine ev_meth ?_ | with_reducible refine ev_bm ?_ | with_reducible refine ev_chain ?_
  | with_reducible refine ev_dget ?_ | with_reducible refine ev_din ?_ | with_reducible refine ev_dnotin ?_ | with_reducible refine ev_maxD ?_ | with_reducible refine ev_lenSetS ?_
  | with_reducible refine et_test ?_ | with_reducible refine et_B ?_ | with_reducible refine et_and ?_ | with_reducible refine et_or ?_ | with_reducible refine et_not ?_ | with_reducible refine et_yes ?_
  | with_reducible refine o_ii ?_ | with_reducible refine o_ib ?_ | with_reducible refine o_eqI ?_ | with_reducible refine o_neI ?_ | with_reducible refine o_eqS ?_ | with_reducible refine o_neS ?_ | with_reducible refine o_neg ?_
  | with_reducible refine o_lenL ?_ | with_reducible refine o_lenT ?_
  | with_reducible refine ⟨_, rfl, ?_⟩)
local macro_rules | `(tactic| walk_at "go") => `(tactic| repeat walk_at "go1")
local macro_rules | `(tactic| walk_at "br") => `(tactic| first
  | (with_reducible refine brT ?_ ?_; focus (decide +kernel; done)) | (with_reducible refine brF ?_ ?_; focus (decide +kernel; done)) | (with_reducible refine brT ?_ ?_; focus (simp; done)) | (with_reducible refine brF ?_ ?_; focus (simp; done)))
local macro_rules | `(tactic| walk_at "run") => `(tactic| repeat (first | walk_at "go1" | with_reducible refine o_ixT (atI_get (by decide) rfl) ?_ | with_reducible refine o_inTc rfl ?_ | refine ⟨Nat.le_of_ble_eq_true rfl, ?_⟩ | walk_at "br"))
/-! ### sentences -/
def T_pieces_of : TF := fun es R W _ => ∃ s : Sen, es = [.d (enc s)] ∧ W (.d (.list (s.parts.map enc))) R
def t_pieces_of (K : Frag) : TS :=
  (tSeq (tIfS (tTest (tOp rEq (tOp (rIx K) (tVar 0) (tC (.int 0))) (tC (.str "mark")))) (tRet (tLst tNil)) tNext)
    (tSeq (tIfS (tTest (tOp (rIn K false) (tOp (rIx K) (tVar 0) (tC (.int 0))) (tTup (tCons (tC (.str "some")) (tCons (tC (.str "each")) tNil))))) (tRet (tLst (tCons (tOp (rIx K) (tVar 0) (tC (.int 2))) tNil))) tNext)
    (tRet (tCB (rListOf K) (tCons (tSl (rSlT K) (tVar 0) (tPart (tC (.int 1))) tNoPart) tNil)))))

theorem rd_pieces_of {K : Frag} : Keeps K T_pieces_of ["sentence"] fun _ => t_pieces_of K := by
  rintro E es R W X ⟨s, rfl, w⟩
  unfold t_pieces_of
  rcases s with _ | _ | m | s | ⟨o, a, b⟩ | ⟨q, m, s⟩
  case bin =>
    cases o <;>
    · simp only [enc, Sen.parts, List.map, Bop.nm, Qn.nm] at w ⊢
      walk_at "run"
      refine o_slTf 1 (by decide) (by exact Nat.le_of_ble_eq_true rfl) ?_
      walk_at "run"
      exact o_listT w
  case qu =>
    cases q <;>
    · simp only [enc, Sen.parts, List.map, Bop.nm, Qn.nm] at w ⊢
      walk_at "run"
      refine ev_lst ?_
      walk_at "run"
      exact w
  case mark =>
    simp only [enc, Sen.parts, List.map, Bop.nm, Qn.nm] at w ⊢
    walk_at "run"
    refine ev_lst ?_
    walk_at "run"
    exact w
  all_goals
    simp only [enc, Sen.parts, List.map, Bop.nm, Qn.nm] at w ⊢
    walk_at "run"
    refine o_slTf 1 (by decide) (by exact Nat.le_of_ble_eq_true rfl) ?_
    walk_at "run"
    exact o_listT w
end SE
end
section
set_option Elab.async false
set_option linter.all false
set_option maxRecDepth 100000
set_option maxHeartbeats 8000000
namespace SE
open PySem PySem.Spec PyProof.Rows L2 PB
section
variable {c : Ctx} {R : List Res} {W : We} {ρ : Rho}
/-- [g x for x in xs], nothing changed -/
theorem ev_lcLm {α : Type} {tl te : TE} {vs : List Nat} {j : Nat} (xs : List α) (f g : α → PD) (hj : j ∈ vs) (hl : xs.length ≤ 10000000) (h : Ev c tl ρ R fun e R1 => e = .d (.list (xs.map f)) ∧ R1 = R)
    (hs : ∀ x ∈ xs, Ev c te ((wipeR ρ vs).set j (some (.d (f x)))) R fun e R' => e = .d (g x) ∧ R' = R) (k : W (.d (.list (xs.map g))) R) : Ev c (tLc (iList c.K tl) (gName j) tYes te vs) ρ R W := by
  refine ev_lcL (js := [j]) (xs.map f) (fun i acc R' => R' = R ∧ acc = (xs.take i).map g) (ev_mono h fun e R' ⟨h1, h2⟩ => ⟨h1, h2, rfl⟩) (by rw [List.length_map]; exact hl) (by simpa using hj) ?_ ?_
  · rintro i x acc R' hx ⟨rfl, rfl⟩ _
    rw [List.getElem?_map] at hx
    cases hi : xs[i]? with
    | none => rw [hi] at hx; cases hx
    | some y =>
      rw [hi] at hx
      cases hx
      refine tg_name (et_yes ?_)
      rw [if_pos rfl]
      refine ev_mono (hs y (List.mem_of_getElem? hi)) fun e R' ⟨h1, h2⟩ => ⟨_, h1, h2, ?_⟩
      rw [List.take_add_one, hi]
      simp
  · rintro acc R' ⟨rfl, rfl⟩ _
    rw [List.length_map, List.take_length]
    exact k
theorem ev_lcTm {α : Type} {tl te : TE} {vs : List Nat} {j : Nat} (xs : List α) (f g : α → PD) (hj : j ∈ vs) (hl : xs.length ≤ 10000000) (h : Ev c tl ρ R fun e R1 => e = .d (.tuple (xs.map f)) ∧ R1 = R)
    (hs : ∀ x ∈ xs, Ev c te ((wipeR ρ vs).set j (some (.d (f x)))) R fun e R' => e = .d (g x) ∧ R' = R) (k : W (.d (.list (xs.map g))) R) : Ev c (tLc (iTup c.K tl) (gName j) tYes te vs) ρ R W := by
  refine ev_lcT (js := [j]) (xs.map f) (fun i acc R' => R' = R ∧ acc = (xs.take i).map g) (ev_mono h fun e R' ⟨h1, h2⟩ => ⟨h1, h2, rfl⟩) (by rw [List.length_map]; exact hl) (by simpa using hj) ?_ ?_
  · rintro i x acc R' hx ⟨rfl, rfl⟩ _
    rw [List.getElem?_map] at hx
    cases hi : xs[i]? with
    | none => rw [hi] at hx; cases hx
    | some y =>
      rw [hi] at hx
      cases hx
      refine tg_name (et_yes ?_)
      rw [if_pos rfl]
      refine ev_mono (hs y (List.mem_of_getElem? hi)) fun e R' ⟨h1, h2⟩ => ⟨_, h1, h2, ?_⟩
      rw [List.take_add_one, hi]
      simp
  · rintro acc R' ⟨rfl, rfl⟩ _
    rw [List.length_map, List.take_length]
    exact k
end
theorem enc_ty (s : Sen) : tyD (enc s) = "tuple" := by cases s <;> rfl
theorem kit_tt : kitB "tuple" "tuple" = some true := by decide +kernel
theorem kit_ss : kitB "str" "str" = some true := by decide +kernel
theorem all_true {α : Type} (xs : List α) : (xs.map fun _ => true).all id = true := by simp [List.all_map]
local macro_rules | `(tactic| walk_at "go1") => `(tactic| first
  | with_reducible refine sv_seq ?_ | with_reducible refine sv_ret ?_ | with_reducible refine sv_if ?_ | with_reducible refine sv_asg ?_ | with_reducible refine sv_drop ?_ | with_reducible refine sv_next ?_ | with_reducible refine sv_dput ?_
  | with_reducible refine ev_var rfl ?_ | with_reducible refine ev_int ?_ | with_reducible refine ev_str ?_ | with_reducible refine ev_bl ?_ | with_reducible refine ev_non ?_ | with_reducible refine ev_c ?_
  | with_reducible refine ev_op ?_ | with_reducible refine ev_un ?_ | with_reducible refine ev_cb ?_ | with_reducible refine ea_cons ?_ | with_reducible refine ea_nil ?_ | with_reducible refine ev_call ?_ | with_reducible refine ev_sl ?_ | with_reducible refine eo_no ?_ | with_reducible refine eo_some ?_
  | with_reducible refine ev_andV ?_ | with_reducible refine ev_orV ?_ | with_reducible refine ev_notV ?_ | with_reducible refine ev_if ?_ | with_reducible refine ev_tup ?_ | with_reducible refine ev_fld ?_ | with_reducible refine ev_meth ?_ | with_reducible refine ev_bm ?_ | with_reducible refine ev_chain ?_
  | with_reducible refine ev_dget ?_ | with_reducible refine ev_din ?_ | with_reducible refine ev_dnotin ?_ | with_reducible refine ev_maxD ?_ | with_reducible refine ev_lenSetS ?_
  | with_reducible refine et_test ?_ | with_reducible refine et_B ?_ | with_reducible refine et_and ?_ | with_reducible refine et_or ?_ | with_reducible refine et_not ?_ | with_reducible refine et_yes ?_
  | with_reducible refine o_ii ?_ | with_reducible refine o_ib ?_ | with_reducible refine o_eqI ?_ | with_reducible refine o_neI ?_ | with_reducible refine o_eqS ?_ | with_reducible refine o_neS ?_ | with_reducible refine o_neg ?_
  | with_reducible refine o_lenL ?_ | with_reducible refine o_lenT ?_
  | with_reducible refine ⟨_, rfl, ?_⟩)
local macro_rules | `(tactic| walk_at "go") => `(tactic| repeat walk_at "go1")
local macro_rules | `(tactic| walk_at "br") => `(tactic| first
  | (with_reducible refine brT ?_ ?_; focus (decide +kernel; done)) | (with_reducible refine brF ?_ ?_; focus (decide +kernel; done)) | (with_reducible refine brT ?_ ?_; focus (simp; done)) | (with_reducible refine brF ?_ ?_; focus (simp; done)))
local macro_rules | `(tactic| walk_at "run") => `(tactic| repeat (first | walk_at "go1" | with_reducible refine o_ixT (atI_get (by decide) rfl) ?_ | with_reducible refine o_inTc rfl ?_ | refine ⟨Nat.le_of_ble_eq_true rfl, ?_⟩ | walk_at "br"))
def T_well_made (d : Nat) : TF := fun es R W _ => ∃ s : Sen, es = [.d (enc s)] ∧ s.dep ≤ d ∧ W (.d (.bool true)) R
def t_well_made (K : Frag) (A : Adr) (d : Nat) : TS :=
  (tSeq (tIfS (tOr (tTest (tOp rEq (tCB (rLenX K) (tCons (tVar 0) tNil)) (tC (.int 0)))) (tNot (tB (tCB (rIsi K) (tCons (tOp (rIx K) (tVar 0) (tC (.int 0))) (tCons (tC (.ty "str")) tNil)))))) (tRet (tC (.bl false))) tNext)
    (tSeq (tIfS (tTest (tOp rEq (tOp (rIx K) (tVar 0) (tC (.int 0))) (tC (.str "mark")))) (tRet (tAndV (tOp rEq (tCB (rLenX K) (tCons (tVar 0) tNil)) (tC (.int 2))) (tAndV (tCB (rIsi K) (tCons (tOp (rIx K) (tVar 0) (tC (.int 1))) (tCons (tC (.ty "str")) tNil))) (tCall (spT K T_is_mark) [] E0 (tCons (tOp (rIx K) (tVar 0) (tC (.int 1))) tNil))))) tNext)
    (tSeq (tIfS (tTest (tOp (rIn K false) (tOp (rIx K) (tVar 0) (tC (.int 0))) (tTup (tCons (tC (.str "some")) (tCons (tC (.str "each")) tNil))))) (tSeq (tIfS (tOr (tTest (tOp rNe (tCB (rLenX K) (tCons (tVar 0) tNil)) (tC (.int 3)))) (tOr (tNot (tB (tCB (rIsi K) (tCons (tOp (rIx K) (tVar 0) (tC (.int 1))) (tCons (tC (.ty "str")) tNil))))) (tNot (tB (tCall (spT K T_is_mark) [] E0 (tCons (tOp (rIx K) (tVar 0) (tC (.int 1))) tNil)))))) (tRet (tC (.bl false))) tNext)
    (tRet (tAndV (tCB (rIsi K) (tCons (tOp (rIx K) (tVar 0) (tC (.int 2))) (tCons (tC (.ty "tuple")) tNil))) (tCall (spT K (T_well_made d)) [] E0 (tCons (tOp (rIx K) (tVar 0) (tC (.int 2))) tNil))))) tNext)
    (tSeq (tIfS (tOr (tTest (tOp (rInKd tabPIECES A.g_PIECES true) (tOp (rIx K) (tVar 0) (tC (.int 0))) (tC (.ref A.g_PIECES)))) (tTest (tOp rNe (tCB (rLenX K) (tCons (tVar 0) tNil)) (tOp (rIi fun i j => i + j) (tOp (rIxKd tabPIECES A.g_PIECES) (tC (.ref A.g_PIECES)) (tOp (rIx K) (tVar 0) (tC (.int 0)))) (tC (.int 1)))))) (tRet (tC (.bl false))) tNext)
    (tRet (tCB (rAll K) (tCons (tLc (iTup K (tSl (rSlT K) (tVar 0) (tPart (tC (.int 1))) tNoPart)) (gName 1) tYes (tAndV (tCB (rIsi K) (tCons (tVar 1) (tCons (tC (.ty "tuple")) tNil))) (tCall (spT K (T_well_made d)) [] E0 (tCons (tVar 1) tNil))) [1]) tNil)))))))

theorem rd_well_made {K : Frag} {A : Adr} (d : Nat) : Keeps K (T_well_made (d + 1)) ["some", "piece"] fun _ => t_well_made K A d := by
  rintro E es R W X ⟨s, rfl, hd, w⟩
  unfold t_well_made
  have hp : ∀ t ∈ s.parts, t.dep ≤ d := fun t ht => by have := part_dep ht; omega
  have tail : ∀ (P : We) (ds : List PD), ds = .str s.head :: s.parts.map enc → P (.d (.list (s.parts.map fun _ => .bool true))) R → Ev ⟨K, E, X⟩ (tLc (iTup K (tSl (rSlT K) (tVar 0) (tPart (tC (.int 1))) tNoPart)) (gName 1) tYes (tAndV (tCB (rIsi K) (tCons (tVar 1) (tCons (tC (.ty "tuple")) tNil))) (tCall (spT K (T_well_made d)) [] E0 (tCons (tVar 1) tNil))) [1]) (ρ0 ["some", "piece"] [.d (.tuple ds)]) R P := by
    intro P ds hds hP
    refine ev_lcTm s.parts enc (fun _ => .bool true) (by simp) (by cases s <;> simp [Sen.parts]) ?_ ?_ hP
    · walk_at "go"
      refine o_slTf 1 (by decide) (by rw [hds]; simp) ?_
      rw [hds]
      exact ⟨rfl, rfl⟩
    · intro t ht
      walk_at "go"
      refine o_isi (b := true) (by rw [enc_ty]; exact kit_tt) ?_
      walk_at "go"
      rw [if_pos rfl]
      walk_at "go"
      exact ⟨t, rfl, hp t ht, rfl, rfl⟩
  have fin : ∀ (P : We) (n : List Sen), P (.d (.bool true)) R → OpL ⟨K, E, X⟩ (rAll K) [.d (.list (n.map fun _ => .bool true))] R P := fun P n hP => by
    have e : n.map (fun _ => PyData.bool true) = (n.map fun _ => true).map PyData.bool := by simp
    rw [e]
    refine o_all ?_
    rw [all_true]
    exact hP
  rcases s with _ | _ | m | s | ⟨o, a, b⟩ | ⟨q, m, s⟩
  case bin =>
    cases o <;>
    · simp only [enc, Bop.nm] at w ⊢
      walk_at "run"
      refine o_isi (b := true) (by exact kit_ss) ?_
      walk_at "run"
      refine o_inKd ?_
      walk_at "run"
      refine o_ixKd (x := .int 2) (by decide +kernel) rfl ?_
      walk_at "run"
      refine tail _ _ rfl ?_
      walk_at "go"
      exact fin _ _ w
  case qu =>
    cases q <;>
    · simp only [enc, Qn.nm] at w ⊢
      walk_at "run"
      refine o_isi (b := true) (by exact kit_ss) ?_
      walk_at "run"
      refine o_isi (b := true) (by exact kit_ss) ?_
      walk_at "run"
      refine ⟨_, rfl, by rw [letter_len]; omega, ?_⟩
      walk_at "run"
      rw [isMk_letter]
      walk_at "run"
      refine o_isi (b := true) (by rw [enc_ty]; exact kit_tt) ?_
      walk_at "run"
      exact ⟨_, rfl, by simp [Sen.dep] at hd; omega, w⟩
  case mark =>
    simp only [enc] at w ⊢
    walk_at "run"
    refine o_isi (b := true) (by exact kit_ss) ?_
    walk_at "run"
    refine o_isi (b := true) (by exact kit_ss) ?_
    walk_at "run"
    refine ⟨_, rfl, by rw [letter_len]; omega, ?_⟩
    rw [isMk_letter]
    exact w
  case not =>
    simp only [enc] at w ⊢
    walk_at "run"
    refine o_isi (b := true) (by exact kit_ss) ?_
    walk_at "run"
    refine o_inKd ?_
    walk_at "run"
    refine o_ixKd (x := .int 1) (by decide +kernel) rfl ?_
    walk_at "run"
    refine tail _ _ rfl ?_
    walk_at "go"
    exact fin _ _ w
  all_goals
    simp only [enc] at w ⊢
    walk_at "run"
    refine o_isi (b := true) (by exact kit_ss) ?_
    walk_at "run"
    refine o_inKd ?_
    walk_at "run"
    refine o_ixKd (x := .int 0) (by decide +kernel) rfl ?_
    walk_at "run"
    refine tail _ _ rfl ?_
    walk_at "go"
    exact fin _ _ w
def T_count (d : Nat) : TF := fun es R W _ => ∃ s : Sen, es = [.d (enc s)] ∧ s.dep ≤ d ∧ W (.d (.int s.cnt)) R
def t_count (K : Frag) (d : Nat) : TS :=
  (tRet (tOp (rIi fun i j => i + j) (tC (.int 1)) (tCB (rSum K) (tCons (tLc (iList K (tCall (spT K T_pieces_of) [] E0 (tCons (tVar 0) tNil))) (gName 1) tYes (tCall (spT K (T_count d)) [] E0 (tCons (tVar 1) tNil)) [1]) tNil))))

theorem rd_count {K : Frag} (d : Nat) : Keeps K (T_count (d + 1)) ["sentence", "piece"] fun _ => t_count K d := by
  rintro E es R W X ⟨s, rfl, hd, w⟩
  unfold t_count
  walk_at "go"
  refine ev_lcLm s.parts enc (fun t => .int t.cnt) (by simp) (by cases s <;> simp [Sen.parts]) ?_ ?_ ?_
  · walk_at "go"
    exact ⟨s, rfl, rfl, rfl⟩
  · intro t ht
    walk_at "go"
    exact ⟨t, rfl, by have := part_dep ht; omega, rfl, rfl⟩
  · walk_at "go"
    rw [show s.parts.map (fun t => PyData.int t.cnt) = (s.parts.map fun t => (t.cnt : Int)).map PyData.int by simp]
    refine o_sum ?_
    walk_at "go"
    rw [← cnt_parts]
    exact w
def T_deep (d : Nat) : TF := fun es R W _ => ∃ s : Sen, es = [.d (enc s)] ∧ s.dep ≤ d ∧ W (.d (.int s.dep)) R
def t_deep (K : Frag) (d : Nat) : TS :=
  (tRet (tOp (rIi fun i j => i + j) (tC (.int 1)) (tCKw (rMaxD K) (tCons (tLc (iList K (tCall (spT K T_pieces_of) [] E0 (tCons (tVar 0) tNil))) (gName 1) tYes (tCall (spT K (T_deep d)) [] E0 (tCons (tVar 1) tNil)) [1]) tNil) (tCons (tC (.int 0)) tNil))))

theorem rd_deep {K : Frag} (d : Nat) : Keeps K (T_deep (d + 1)) ["sentence", "piece"] fun _ => t_deep K d := by
  rintro E es R W X ⟨s, rfl, hd, w⟩
  unfold t_deep
  walk_at "go"
  refine ev_lcLm s.parts enc (fun t => .int t.dep) (by simp) (by cases s <;> simp [Sen.parts]) ?_ ?_ ?_
  · walk_at "go"
    exact ⟨s, rfl, rfl, rfl⟩
  · intro t ht
    walk_at "go"
    exact ⟨t, rfl, by have := part_dep ht; omega, rfl, rfl⟩
  · walk_at "go"
    refine ⟨s.parts.map fun t => (t.dep : Int), by simp, ?_⟩
    walk_at "go"
    rw [← dep_parts]
    exact w
def T_is_sentence : TF := fun es R W _ => ∃ s : Sen, es = [.d (enc s)] ∧ s.dep ≤ 30 ∧ W (.d (.bool (decide (s.cnt ≤ 200) && decide (s.dep ≤ 24)))) R
def t_is_sentence (K : Frag) : TS :=
  (tRet (tAndV (tCall (spT K (T_well_made 30)) [] E0 (tCons (tVar 0) tNil)) (tAndV (tOp (rIb fun i j => decide (i ≤ j)) (tCall (spT K (T_count 30)) [] E0 (tCons (tVar 0) tNil)) (tC (.int 200))) (tOp (rIb fun i j => decide (i ≤ j)) (tCall (spT K (T_deep 30)) [] E0 (tCons (tVar 0) tNil)) (tC (.int 24))))))

theorem rd_is_sentence {K : Frag} : Keeps K T_is_sentence ["some"] fun _ => t_is_sentence K := by
  rintro E es R W X ⟨s, rfl, hd, w⟩
  unfold t_is_sentence
  walk_at "go"
  refine ⟨s, rfl, hd, ?_⟩
  walk_at "go"
  rw [if_pos rfl]
  walk_at "go"
  refine ⟨s, rfl, hd, ?_⟩
  walk_at "go"
  by_cases h : s.cnt ≤ 200
  · rw [if_pos (decide_eq_true (by omega))]
    walk_at "go"
    refine ⟨s, rfl, hd, ?_⟩
    walk_at "go"
    have e : decide ((s.dep : Int) ≤ 24) = (decide (s.cnt ≤ 200) && decide (s.dep ≤ 24)) := by
      rw [decide_eq_true h, Bool.true_and]
      apply Bool.eq_iff_iff.mpr
      simp
      omega
    rw [e]
    exact w
  · rw [if_neg (by simp; omega)]
    rw [decide_eq_false h, Bool.false_and] at w
    exact w
/-- no error comes: the sentence is one -/
def Sen.fit (s : Sen) : Prop := s.cnt ≤ 200 ∧ s.dep ≤ 24
def T_ask_sentence : TF := fun es R W _ => ∃ s : Sen, es = [.d (enc s)] ∧ s.fit ∧ W (.d .none) R
def t_ask_sentence (K : Frag) : TS :=
  (tIfS (tNot (tB (tCall (spT K T_is_sentence) [] E0 (tCons (tVar 0) tNil)))) tNever tNext)

theorem rd_ask_sentence {K : Frag} : Keeps K T_ask_sentence ["sentence"] fun _ => t_ask_sentence K := by
  rintro E es R W X ⟨s, rfl, ⟨h1, h2⟩, w⟩
  unfold t_ask_sentence
  walk_at "go"
  refine ⟨s, rfl, by omega, ?_⟩
  walk_at "go"
  rw [decide_eq_true h1, decide_eq_true h2]
  walk_at "run"
  exact w
def T_named (d : Nat) : TF := fun es R W _ => ∃ s : Sen, es = [.d (enc s)] ∧ s.dep ≤ d ∧ s.cnt ≤ 1000 ∧ W (.d (.list (s.ms.map fun m => .str (letter m)))) R
end SE
end
section
set_option Elab.async false
set_option linter.all false
set_option maxRecDepth 100000
set_option maxHeartbeats 8000000
namespace SE
open PySem PySem.Spec PyProof.Rows L2 PB
local macro_rules | `(tactic| walk_at "go1") => `(tactic| first
  | with_reducible refine sv_seq ?_ | with_reducible refine sv_ret ?_ | with_reducible refine sv_if ?_ | with_reducible refine sv_asg ?_ | with_reducible refine sv_drop ?_ | with_reducible refine sv_next ?_ | with_reducible refine sv_dput ?_
  | with_reducible refine ev_var rfl ?_ | with_reducible refine ev_int ?_ | with_reducible refine ev_str ?_ | with_reducible refine ev_bl ?_ | with_reducible refine ev_non ?_ | with_reducible refine ev_c ?_
  | with_reducible refine ev_op ?_ | with_reducible refine ev_un ?_ | with_reducible refine ev_cb ?_ | with_reducible refine ea_cons ?_ | with_reducible refine ea_nil ?_ | with_reducible refine ev_call ?_ | with_reducible refine ev_sl ?_ | with_reducible refine eo_no ?_ | with_reducible refine eo_some ?_
  | with_reducible refine ev_andV ?_ | with_reducible refine ev_orV ?_ | with_reducible refine ev_notV ?_ | with_reducible refine ev_if ?_ | with_reducible refine ev_tup ?_ | with_reducible refine ev_fld ?_ | with_reducible refine ev_meth ?_ | with_reducible refine ev_bm ?_ | with_reducible refine ev_chain ?_
  | with_reducible refine ev_dget ?_ | with_reducible refine ev_din ?_ | with_reducible refine ev_dnotin ?_ | with_reducible refine ev_maxD ?_ | with_reducible refine ev_lenSetS ?_
  | with_reducible refine et_test ?_ | with_reducible refine et_B ?_ | with_reducible refine et_and ?_ | with_reducible refine et_or ?_ | with_reducible refine et_not ?_ | with_reducible refine et_yes ?_
  | with_reducible refine o_ii ?_ | with_reducible refine o_ib ?_ | with_reducible refine o_eqI ?_ | with_reducible refine o_neI ?_ | with_reducible refine o_eqS ?_ | with_reducible refine o_neS ?_ | with_reducible refine o_neg ?_
  | with_reducible refine o_lenL ?_ | with_reducible refine o_lenT ?_
  | with_reducible refine ⟨_, rfl, ?_⟩)
local macro_rules | `(tactic| walk_at "go") => `(tactic| repeat walk_at "go1")
local macro_rules | `(tactic| walk_at "br") => `(tactic| first
  | (with_reducible refine brT ?_ ?_; focus (decide +kernel; done)) | (with_reducible refine brF ?_ ?_; focus (decide +kernel; done)) | (with_reducible refine brT ?_ ?_; focus (simp; done)) | (with_reducible refine brF ?_ ?_; focus (simp; done)))
local macro_rules | `(tactic| walk_at "run") => `(tactic| repeat (first | walk_at "go1" | with_reducible refine o_ixT (atI_get (by decide) rfl) ?_ | with_reducible refine o_inTc rfl ?_ | refine ⟨Nat.le_of_ble_eq_true rfl, ?_⟩ | walk_at "br"))
local macro_rules | `(tactic| walk_at "run2") => `(tactic| repeat (first | walk_at "go1" | with_reducible refine o_ixT (atI_get (by decide) rfl) ?_ | with_reducible refine o_inTc rfl ?_ | refine ⟨Nat.le_of_ble_eq_true rfl, ?_⟩ | walk_at "br" | with_reducible refine ⟨ty_res push_at, ?_⟩))
def t_named (K : Frag) (d : Nat) : TS :=
  (tSeq (tAsg (tLst tNil) (gName 1))
    (tSeq (tIfS (tTest (tOp (rIn K false) (tOp (rIx K) (tVar 0) (tC (.int 0))) (tTup (tCons (tC (.str "mark")) (tCons (tC (.str "some")) (tCons (tC (.str "each")) tNil)))))) (tDrop (tBM K "list" rAppend (tVar 1) (tCons (tOp (rIx K) (tVar 0) (tC (.int 1))) tNil))) tNext)
    (tSeq (tFor (iList K (tCall (spT K T_pieces_of) [] E0 (tCons (tVar 0) tNil))) (gName 2) (tDrop (tBM K "list" rExtend (tVar 1) (tCons (tCall (spT K (T_named d)) [] E0 (tCons (tVar 2) tNil)) tNil))))
    (tRet (tVar 1)))))

theorem rd_named {K : Frag} (d : Nat) : Keeps K (T_named (d + 1)) ["sentence", "found", "piece"] fun _ => t_named K d := by
  rintro E es R W X ⟨s, rfl, hd, hc, w⟩
  unfold t_named
  walk_at "go"
  refine ev_lstR ?_
  walk_at "go"
  refine ⟨by simp, fun p => ?_⟩
  have hown : ∀ (u : TS) (P : Post), Sv ⟨K, E, X⟩ u [some (.d (enc s)), some (.v (.ref p)), none] (R ++ [rLst p (s.own.map fun m => .str (letter m))]) P →
      Sv ⟨K, E, X⟩ (tSeq (tIfS (tTest (tOp (rIn K false) (tOp (rIx K) (tVar 0) (tC (.int 0))) (tTup (tCons (tC (.str "mark")) (tCons (tC (.str "some")) (tCons (tC (.str "each")) tNil)))))) (tDrop (tBM K "list" rAppend (tVar 1) (tCons (tOp (rIx K) (tVar 0) (tC (.int 1))) tNil))) tNext) u)
        [some (.d (enc s)), some (.v (.ref p)), none] (R ++ [rLst p []]) P := by
    intro u P hu
    rcases s with _ | _ | m | s | ⟨o, a, b⟩ | ⟨q, m, s⟩
    case bin =>
      cases o <;>
      · simp only [enc, Bop.nm, Sen.own, List.map] at hu ⊢
        walk_at "run"
        exact hu
    case qu =>
      cases q <;>
      · simp only [enc, Qn.nm, Sen.own, List.map] at hu ⊢
        walk_at "run2"
        refine o_append (p := p) (ds := []) push_at (by decide) ?_
        rw [push_set]
        exact hu
    case mark =>
      simp only [enc, Sen.own, List.map] at hu ⊢
      walk_at "run2"
      refine o_append (p := p) (ds := []) push_at (by decide) ?_
      rw [push_set]
      exact hu
    all_goals
      simp only [enc, Sen.own, List.map] at hu ⊢
      walk_at "run"
      exact hu
  refine hown _ _ ?_
  walk_at "go"
  have lens : ∀ i, (s.own ++ (s.parts.take i).flatMap Sen.ms).length ≤ s.ms.length := fun i => by
    rw [ms_parts s]
    conv => rhs; rw [← List.take_append_drop i s.parts, List.flatMap_append]
    simp
  have hm := ms_cnt s
  refine sv_forL (js := [2]) (s.parts.map enc) (fun i ρ' R' => R' = R ++ [rLst p ((s.own ++ (s.parts.take i).flatMap Sen.ms).map fun m => .str (letter m))] ∧ ∃ x, ρ' = [some (.d (enc s)), some (.v (.ref p)), x]) ?_ ?_ ?_
  · walk_at "go"
    exact ⟨s, rfl, rfl, by simp, none, rfl⟩
  · rintro i x ρ' R' hx ⟨rfl, y, rfl⟩
    rw [List.getElem?_map] at hx
    cases hi : s.parts[i]? with
    | none => rw [hi] at hx; cases hx
    | some t =>
      rw [hi] at hx
      cases hx
      have ht := List.mem_of_getElem? hi
      have l1 := lens (i + 1)
      rw [List.take_add_one, hi, List.flatMap_append] at l1
      refine tg_name ?_
      walk_at "run2"
      refine ⟨t, rfl, by have := part_dep ht; omega, by have := part_cnt ht; omega, ?_⟩
      walk_at "go"
      refine o_extend push_at (by simp at l1 ⊢; omega) ?_
      rw [push_set]
      refine ⟨?_, _, rfl⟩
      rw [List.take_add_one, hi, List.flatMap_append]
      simp
  · rintro ρ' R' ⟨rfl, x, rfl⟩
    refine sv_freeze push_at (k := 1) rfl ?_
    rw [push_set]
    refine sv_cut ?_
    walk_at "go"
    rw [List.length_map, List.take_length, ← ms_parts]
    exact w
def T_marks_of : TF := fun es R W _ => ∃ s : Sen, es = [.d (enc s)] ∧ s.fit ∧ W (.d (.list ((sortM s.ms).map fun m => .str (letter m)))) R
def t_marks_of (K : Frag) : TS :=
  (tSeq (tDrop (tCall (spT K T_ask_sentence) [] E0 (tCons (tVar 0) tNil)))
    (tRet (tCB (rSortedS K) (tCons (tCB rListD (tCons (tCB (rDictP K) (tCons (tLc (iList K (tCall (spT K (T_named 30)) [] E0 (tCons (tVar 0) tNil))) (gName 1) tYes (tTup (tCons (tVar 1) (tCons (tC (.bl true)) tNil))) [1]) tNil)) tNil)) tNil))))

theorem rd_marks_of {K : Frag} : Keeps K T_marks_of ["sentence", "mark"] fun _ => t_marks_of K := by
  rintro E es R W X ⟨s, rfl, hf, w⟩
  unfold t_marks_of
  have hm := ms_cnt s
  have hf1 := hf.1
  have hf2 := hf.2
  walk_at "go"
  refine ⟨s, rfl, hf, ?_⟩
  refine sv_ret (ev_cut ?_)
  walk_at "go"
  refine ev_lcLm (s.ms) (fun m => .str (letter m)) (fun m => pairD (letter m)) (by simp) (by omega) ?_ ?_ ?_
  · walk_at "go"
    exact ⟨s, rfl, by omega, by omega, rfl, rfl⟩
  · intro m hm
    walk_at "go"
    exact ⟨by simp, rfl, rfl⟩
  · walk_at "go"
    have e1 : s.ms.map (fun m => pairD (letter m)) = (s.ms.map letter).map pairD := by simp
    rw [e1]
    refine o_dictP fun p => ?_
    walk_at "go"
    obtain ⟨l, h1, h2, h3⟩ := once_letters s.ms (once_nd (s.ms.map letter)) (once_mem (s.ms.map letter))
    refine o_listDK push_at ?_
    walk_at "go"
    have e3 : sortM l = sortM s.ms := List.filter_congr fun m _ => by simp [h3]
    have hl : (once (s.ms.map letter)).length ≤ 8 := by
      rw [h2, List.length_map, ← (sortM_perm h1).length_eq]
      exact sortM_len l
    refine o_sortedS (by omega) fun ys hp hs => ?_
    rw [h2] at hp
    rw [letters_sorted h1 hp hs, e3]
    refine ⟨R, _, rfl, ?_⟩
    rw [List.map_map]
    exact w
def T_ask_marks : TF := fun es R W _ => ∃ (s : Sen) (ord : List Mk8), es = [.d (enc s), .d (.list ((ord.map letter).map .str))] ∧ s.fit ∧ (∀ m ∈ s.ms, m ∈ ord) ∧ W (.d .none) R
def t_ask_marks (K : Frag) : TS :=
  (tFor (iList K (tCall (spT K T_marks_of) [] E0 (tCons (tVar 0) tNil))) (gName 2) (tIfS (tTest (tOp (rIn K true) (tVar 2) (tVar 1))) tNever tNext))

theorem rd_ask_marks {K : Frag} : Keeps K T_ask_marks ["sentence", "order", "mark"] fun _ => t_ask_marks K := by
  rintro E es R W X ⟨s, ord, rfl, hf, hm, w⟩
  unfold t_ask_marks
  refine sv_forL (js := [2]) ((sortM s.ms).map fun m => .str (letter m)) (fun i ρ' R' => R' = R ∧ ∃ x, ρ' = [some (.d (enc s)), some (.d (.list ((ord.map letter).map .str))), x]) ?_ ?_ ?_
  · walk_at "go"
    exact ⟨s, rfl, hf, rfl, rfl, none, rfl⟩
  · rintro i x ρ' R' hx ⟨rfl, y, rfl⟩
    rw [List.getElem?_map] at hx
    cases hi : (sortM s.ms)[i]? with
    | none => rw [hi] at hx; cases hx
    | some m =>
      rw [hi] at hx
      cases hx
      refine tg_name ?_
      walk_at "go"
      refine o_inSL (ord.map letter) ?_
      walk_at "go"
      have e : decide (letter m ∈ ord.map letter) = true := decide_eq_true (List.mem_map_of_mem (hm m (sortM_mem.mp (List.mem_of_getElem? hi))))
      rw [e]
      walk_at "run"
      exact ⟨rfl, _, rfl⟩
  · rintro ρ' R' ⟨rfl, x, rfl⟩
    exact w
/-- an order of letters -/
structure OrdL (ord : List Mk8) : Prop where
  nd : ord.Nodup
  ne : ord ≠ []
theorem OrdL.le {ord : List Mk8} (h : OrdL ord) : ord.length ≤ 8 := by rw [← (sortM_perm h.nd).length_eq]; exact sortM_len ord
theorem OrdL.pos {ord : List Mk8} (h : OrdL ord) : 0 < ord.length := List.length_pos_iff.mpr h.ne
theorem met_nd {ss : List Str} (h : ss.Nodup) : ∀ i, i ≤ ss.length → met (fun i => ss.getD i Str.empty) i = ss.take i
  | 0, _ => by simp [met]
  | i + 1, hi => by
    have ih := met_nd h i (by omega)
    have e1 : ss.getD i Str.empty = ss[i]'(by omega) := by rw [List.getD_eq_getElem?_getD, List.getElem?_eq_getElem (by omega)]; rfl
    have hn : ¬ ss[i]'(by omega) ∈ ss.take i := by
      intro z
      obtain ⟨k, hk, e⟩ := List.mem_take_iff_getElem.mp z
      have := (List.getElem_inj h).mp e
      omega
    rw [List.take_add_one, List.getElem?_eq_getElem (by omega)]
    unfold met
    simp only [ih, e1]
    rw [if_neg hn]
    rfl
theorem distinct_nd {ss : List Str} (h : ss.Nodup) : distinct ss = ss.length := by
  unfold distinct
  rw [met_nd h _ (Nat.le_refl _), List.take_length]
theorem letters_nd {ord : List Mk8} (h : ord.Nodup) : (ord.map letter).Nodup := List.Pairwise.map letter (fun a b n e => n (letter_inj e)) h
def T_ask_order : TF := fun es R W _ => ∃ ord : List Mk8, es = [.d (.list ((ord.map letter).map .str))] ∧ OrdL ord ∧ W (.d .none) R
def t_ask_order (K : Frag) : TS :=
  (tIfS (tNot (tB (tCall (spT K T_is_order) [] E0 (tCons (tVar 0) tNil)))) tNever tNext)

theorem rd_ask_order {K : Frag} : Keeps K T_ask_order ["order"] fun _ => t_ask_order K := by
  rintro E es R W X ⟨ord, rfl, ho, w⟩
  unfold t_ask_order
  have l8 := ho.le
  walk_at "go"
  refine ⟨ord.map letter, rfl, by rw [List.length_map]; omega, fun s hs => ?_, ?_⟩
  · obtain ⟨m, _, rfl⟩ := List.mem_map.mp hs
    rw [letter_len]; omega
  · have ne : ¬ (ord.map letter = [] ∨ (ord.map letter).all isMk = false) := by
      rintro (z | z)
      · exact ho.ne (List.map_eq_nil_iff.mp z)
      · rw [List.all_eq_false] at z
        obtain ⟨x, hx, hf⟩ := z
        obtain ⟨m, _, rfl⟩ := List.mem_map.mp hx
        exact hf (isMk_letter m)
    rw [if_neg ne, distinct_nd (letters_nd ho.nd)]
    walk_at "run"
    exact w
end SE
end
section
set_option Elab.async false
set_option linter.all false
set_option maxRecDepth 100000
set_option maxHeartbeats 8000000
namespace SE
open PySem PySem.Spec PyProof.Rows L2 PB
local macro_rules | `(tactic| walk_at "go1") => `(tactic| first
  | with_reducible refine sv_seq ?_ | with_reducible refine sv_ret ?_ | with_reducible refine sv_if ?_ | with_reducible refine sv_asg ?_ | with_reducible refine sv_drop ?_ | with_reducible refine sv_next ?_ | with_reducible refine sv_dput ?_
  | with_reducible refine ev_var rfl ?_ | with_reducible refine ev_int ?_ | with_reducible refine ev_str ?_ | with_reducible refine ev_bl ?_ | with_reducible refine ev_non ?_ | with_reducible refine ev_c ?_
  | with_reducible refine ev_op ?_ | with_reducible refine ev_un ?_ | with_reducible refine ev_cb ?_ | with_reducible refine ea_cons ?_ | with_reducible refine ea_nil ?_ | with_reducible refine ev_call ?_ | with_reducible refine ev_sl ?_ | with_reducible refine eo_no ?_ | with_reducible refine eo_some ?_
  | with_reducible refine ev_andV ?_ | with_reducible refine ev_orV ?_ | with_reducible refine ev_notV ?_ | with_reducible refine ev_if ?_ | with_reducible refine ev_tup ?_ | with_reducible refine ev_fld ?_ | with_reducible refine ev_meth ?_ | with_reducible refine ev_bm ?_ | with_reducible refine ev_chain ?_
  | with_reducible refine ev_dget ?_ | with_reducible refine ev_din ?_ | with_reducible refine ev_dnotin ?_ | with_reducible refine ev_maxD ?_ | with_reducible refine ev_lenSetS ?_
  | with_reducible refine et_test ?_ | with_reducible refine et_B ?_ | with_reducible refine et_and ?_ | with_reducible refine et_or ?_ | with_reducible refine et_not ?_ | with_reducible refine et_yes ?_
  | with_reducible refine o_ii ?_ | with_reducible refine o_ib ?_ | with_reducible refine o_eqI ?_ | with_reducible refine o_neI ?_ | with_reducible refine o_eqS ?_ | with_reducible refine o_neS ?_ | with_reducible refine o_neg ?_
  | with_reducible refine o_lenL ?_ | with_reducible refine o_lenT ?_
  | with_reducible refine ⟨_, rfl, ?_⟩)
local macro_rules | `(tactic| walk_at "go") => `(tactic| repeat walk_at "go1")
local macro_rules | `(tactic| walk_at "br") => `(tactic| first
  | (with_reducible refine brT ?_ ?_; focus (decide +kernel; done)) | (with_reducible refine brF ?_ ?_; focus (decide +kernel; done)) | (with_reducible refine brT ?_ ?_; focus (simp; done)) | (with_reducible refine brF ?_ ?_; focus (simp; done)))
local macro_rules | `(tactic| walk_at "run") => `(tactic| repeat (first | walk_at "go1" | with_reducible refine o_ixT (atI_get (by decide) rfl) ?_ | with_reducible refine o_inTc rfl ?_ | refine ⟨Nat.le_of_ble_eq_true rfl, ?_⟩ | walk_at "br"))
/-! ### a book of letters and numbers -/
def keyR (r : PB.Row) : List Key := [.inr (letter r.1), .inl r.2.1, .inl r.2.2]
def plFrom (n : Nat) : List PB.Row → List (List Key × PD)
  | [] => []
  | r :: rs => (keyR r, .int (n : Nat)) :: plFrom (n + 1) rs
def bkOf (ord : List Mk8) (rows : List PB.Row) : Bk := { marks := ord.map letter, rows := rows.map fun r => (letter r.1, r.2.1, r.2.2), pl := plFrom 2 rows }
theorem keyR_inj {r s : PB.Row} (h : keyR r = keyR s) : r = s := by
  unfold keyR at h
  injection h with h1 h2
  injection h2 with h2 h3
  injection h3 with h3 _
  injection h1 with h1
  injection h2 with h2
  injection h3 with h3
  obtain ⟨a, b, c⟩ := r
  obtain ⟨a', b', c'⟩ := s
  have e1 := letter_inj h1
  have h2 : (b : Int) = b' := h2
  have h3 : (c : Int) = c' := h3
  have e2 : b = b' := by omega
  have e3 : c = c' := by omega
  simp only at e1
  rw [e1, e2, e3]
theorem pl_none : ∀ (rows : List PB.Row) (n : Nat) {r : PB.Row}, ¬ r ∈ rows → lk (plFrom n rows) (keyR r) = none
  | [], _, _, _ => rfl
  | s :: rs, n, r, h => by
    unfold plFrom
    rw [lk_cons, if_neg fun e => h (by rw [← keyR_inj e]; exact List.mem_cons_self ..)]
    exact pl_none rs (n + 1) fun z => h (List.mem_cons_of_mem _ z)
theorem pl_some : ∀ (rows : List PB.Row) (n : Nat) {r : PB.Row} {i : Nat}, rows.Nodup → rows[i]? = some r → lk (plFrom n rows) (keyR r) = some (.int (n + i : Nat))
  | [], _, _, _, _, h => by simp at h
  | s :: rs, n, r, i, hn, h => by
    unfold plFrom
    rw [lk_cons]
    cases i with
    | zero =>
      simp at h
      rw [if_pos (by rw [h])]
      rfl
    | succ i =>
      have h : rs[i]? = some r := by simpa using h
      have hm := List.mem_of_getElem? h
      have hnd := List.nodup_cons.mp hn
      rw [if_neg fun e => hnd.1 (by rw [keyR_inj e]; exact hm), pl_some rs (n + 1) hnd.2 h]
      congr 2
      omega
theorem pl_snoc : ∀ (rows : List PB.Row) (n : Nat) (r : PB.Row), plFrom n (rows ++ [r]) = plFrom n rows ++ [(keyR r, .int (n + rows.length : Nat))]
  | [], _, _ => rfl
  | s :: rs, n, r => by
    show (keyR s, PyData.int (n : Nat)) :: plFrom (n + 1) (rs ++ [r]) = _
    rw [pl_snoc rs (n + 1) r]
    have e : n + 1 + rs.length = n + (s :: rs).length := by rw [List.length_cons]; omega
    rw [e]
    rfl
theorem pl_len : ∀ (rows : List PB.Row) (n : Nat), (plFrom n rows).length = rows.length
  | [], _ => rfl
  | s :: rs, n => by
    show (plFrom (n + 1) rs).length + 1 = _
    rw [pl_len rs]; rfl
abbrev bk (A : Adr) (k : BkA) (ord : List Mk8) (rows : List PB.Row) : Res := rBook A.c_Book k (bkOf ord rows)
def nfld (m : Str) : Bool := !(m == ("marks" : Str)) && !(m == ("rows" : Str)) && !(m == ("places" : Str))
theorem bk_i {K : Frag} {R : List Res} {j : Nat} {A : Adr} {k : BkA} {B : Bk} (hj : R[j]? = some (rBook A.c_Book k B)) {m : Str} (hm : nfld m = true) : InsR K R k.b A.c_Book m := by
  refine bk_ins hj ?_
  unfold nfld at hm
  rw [Bool.and_eq_true, Bool.and_eq_true] at hm
  have h1 : (m == ("marks" : Str)) = false := by simpa using hm.1.1
  have h2 : (m == ("rows" : Str)) = false := by simpa using hm.1.2
  have h3 : (m == ("places" : Str)) = false := by simpa using hm.2
  simp [bfs, List.lookup, h1, h2, h3]
theorem row_at {ord : List Mk8} {rows : List PB.Row} {n : Nat} {r : PB.Row} (h2 : ¬ n < 2) (h : rows[n - 2]? = some r) : atI (rowsD (bkOf ord rows)) (n : Int) = some (.tuple [.str (letter r.1), .int r.2.1, .int r.2.2]) := by
  refine atI_get (by omega) ?_
  obtain ⟨i, rfl⟩ : ∃ i, n = i + 2 := ⟨n - 2, by omega⟩
  have h : rows[i]? = some r := by simpa using h
  show (PyData.none :: PyData.none :: (rows.map fun r => (letter r.1, r.2.1, r.2.2)).map rowD)[((i + 2 : Nat) : Int).toNat]? = _
  have e : (((i + 2 : Nat) : Int).toNat) = i + 2 := by omega
  rw [e]
  simp [h, rowD]
theorem idx_letter {ord : List Mk8} {m : Mk8} (h : m ∈ ord) : (ord.map letter)[ord.idxOf m]? = some (letter m) ∧ ∀ i, i < ord.idxOf m → (ord.map letter)[i]? ≠ some (letter m) := by
  have hl := List.idxOf_lt_length_of_mem h
  refine ⟨?_, fun i hi z => ?_⟩
  · rw [List.getElem?_map, List.getElem?_eq_getElem hl, List.getElem_idxOf hl]; rfl
  · rw [List.getElem?_map] at z
    cases e : ord[i]? with
    | none => rw [e] at z; cases z
    | some x =>
      rw [e] at z
      have z : some (letter x) = some (letter m) := z
      have e2 := letter_inj (Option.some.inj z)
      subst e2
      have hli := (List.getElem?_eq_some_iff.mp e).1
      have := List.not_of_lt_findIdx (p := (· == x)) (xs := ord) hi
      have e3 := (List.getElem?_eq_some_iff.mp e).2
      simp [e3] at this
theorem ord_at {ord : List Mk8} {a : Nat} {m : Mk8} (hn : ord.Nodup) (h : ord[a]? = some m) : m ∈ ord ∧ ord.idxOf m = a := by
  have hm := List.mem_of_getElem? h
  refine ⟨hm, ?_⟩
  obtain ⟨hlt, h3⟩ := List.getElem?_eq_some_iff.mp h
  have h1 := List.idxOf_lt_length_of_mem hm
  exact (List.getElem_inj hn).mp ((List.getElem_idxOf h1).trans h3.symm)
def iteF (m : Mk8) (f g : Fn) : Fn := fun e => if e m then g e else f e
theorem good_snoc {ord : List Mk8} {L : List Fn} {rows : List PB.Row} (g : Good ord L rows) {m : Mk8} {l h : Nat} (hm : m ∈ ord) (hl : Rm rows l) (hh : Rm rows h) (ne : l ≠ h) (g1 : ord.idxOf m < lev ord rows l) (g2 : ord.idxOf m < lev ord rows h) (hn : ¬ (m, l, h) ∈ rows)
    (hf : Gd L (iteF m (den rows l) (den rows h))) : Good ord L (rows ++ [(m, l, h)]) := by
  have x : Ext rows (rows ++ [(m, l, h)]) := ⟨_, Eq.refl _⟩
  have w := g.wf.snoc hm hl hh ne g1 g2 hn
  refine ⟨w, fun {n} hr => ?_, g.fl⟩
  by_cases e : n < rows.length + 2
  · rw [x.den e]
    exact g.inF e
  · have e2 : n = rows.length + 2 := by
      unfold Rm at hr
      rw [List.length_append] at hr
      simp at hr
      omega
    subst e2
    refine hf.congr fun e => ?_
    rw [(made w (made_new rows (m, l, h))).2.2 e, x.den hl, x.den hh]
    rfl
theorem o_appB {c : Ctx} {R : List Res} {W : We} {C : Addr} {k : BkA} {B B' : Bk} {j : Nat} {x : Str × Nat × Nat} (hj : R[j]? = some (rBook C k B)) (hl : B.rows.length < 10000000) (hB : ({ B with rows := B.rows ++ [x] } : Bk) = B') (w : W (.d .none) (R.set j (rBook C k B'))) :
    OpM c rAppend (.v (.ref k.r)) [.d (rowD x)] R W := by
  subst hB
  exact o_appRows hj hl w
/-! ### level, goings, decided -/
def T_b_level (A : Adr) : TF := fun es R W _ => ∃ k ord rows, ∃ j : Nat, ∃ n : Nat, es = [.v (.ref k.b), .d (.int n)] ∧ R[j]? = some (bk A k ord rows) ∧ Wf ord rows ∧ Rm rows n ∧ W (.d (.int (lev ord rows n : Nat))) R
def t_b_level (K : Frag) : TS :=
  (tSeq (tIfS (tTest (tOp (rIb fun i j => decide (i < j)) (tVar 1) (tC (.int 2)))) (tRet (tCB (rLenX K) (tCons (tFld K (tVar 0) "marks") tNil))) tNext)
    (tRet (tBM K "list" (rIndex K) (tFld K (tVar 0) "marks") (tCons (tOp (rIx K) (tOp (rIx K) (tFld K (tVar 0) "rows") (tVar 1)) (tC (.int 0))) tNil))))

theorem rd_b_level {K : Frag} {A : Adr} : Keeps K (T_b_level A) ["self", "number"] fun _ => t_b_level K := by
  rintro E es R W X ⟨k, ord, rows, j, n, rfl, hj, wf, hr, w⟩
  unfold t_b_level
  walk_at "go"
  by_cases h : n < 2
  · rw [if_pos (decide_eq_true (by omega))]
    walk_at "go"
    refine ⟨_, _, rfl, bk_marks hj, ?_⟩
    walk_at "go"
    have e : lev ord rows n = (marksD (bkOf ord rows)).length := by unfold lev; rw [if_pos h]; simp [marksD, bkOf]
    rw [← e]
    exact w
  · rw [if_neg (by simp; omega)]
    obtain ⟨m, l, hh, hx, hlv, hm', _⟩ := wf.get h hr
    walk_at "go"
    refine ⟨_, _, rfl, bk_marks hj, ty_list, ?_⟩
    walk_at "go"
    refine ⟨_, _, rfl, bk_rows hj, ?_⟩
    walk_at "go"
    refine o_ixRows hj (row_at h hx) ?_
    walk_at "go"
    refine o_ixT (atI_get (by decide) rfl) ?_
    walk_at "go"
    obtain ⟨i1, i2⟩ := idx_letter hm'
    refine o_indexS i1 i2 ?_
    rw [← hlv]
    exact w
def T_b_goings (A : Adr) : TF := fun es R W _ => ∃ k ord rows, ∃ j : Nat, ∃ n a : Nat, es = [.v (.ref k.b), .d (.int n), .d (.int a)] ∧ R[j]? = some (bk A k ord rows) ∧ Wf ord rows ∧ Rm rows n ∧ a < ord.length ∧
  W (.d (.tuple [.int (goL ord rows n a), .int (goH ord rows n a)])) R
def t_b_goings (K : Frag) (A : Adr) : TS :=
  (tSeq (tIfS (tTest (tOp rEq (tMeth A.c_Book "level" (spT K (T_b_level A)) [] E0 (tVar 0) (tCons (tVar 1) tNil)) (tVar 2))) (tRet (tTup (tCons (tOp (rIx K) (tOp (rIx K) (tFld K (tVar 0) "rows") (tVar 1)) (tC (.int 1))) (tCons (tOp (rIx K) (tOp (rIx K) (tFld K (tVar 0) "rows") (tVar 1)) (tC (.int 2))) tNil)))) tNext)
    (tRet (tTup (tCons (tVar 1) (tCons (tVar 1) tNil)))))

theorem rd_b_goings {K : Frag} {A : Adr} : Keeps K (T_b_goings A) ["self", "number", "at"] fun _ => t_b_goings K A := by
  rintro E es R W X ⟨k, ord, rows, j, n, a, rfl, hj, wf, hr, ha, w⟩
  unfold t_b_goings
  walk_at "go"
  refine ⟨bk_i hj (by decide +kernel), ?_⟩
  walk_at "go"
  refine ⟨k, ord, rows, j, n, rfl, hj, wf, hr, ?_⟩
  walk_at "go"
  by_cases h : lev ord rows n = a
  · rw [if_pos (decide_eq_true (by omega))]
    have n2 : ¬ n < 2 := by
      intro n2
      have : lev ord rows n = ord.length := by unfold lev; rw [if_pos n2]
      omega
    obtain ⟨m, l, hh, hx, hlv, hm', _⟩ := wf.get n2 hr
    walk_at "go"
    refine ⟨_, _, rfl, bk_rows hj, ?_⟩
    walk_at "go"
    refine o_ixRows hj (row_at n2 hx) ?_
    walk_at "go"
    refine o_ixT (atI_get (by decide) rfl) ?_
    walk_at "go"
    refine ⟨_, _, rfl, bk_rows hj, ?_⟩
    walk_at "go"
    refine o_ixRows hj (row_at n2 hx) ?_
    walk_at "go"
    refine o_ixT (atI_get (by decide) rfl) ?_
    walk_at "run"
    have e1 : goL ord rows n a = l := by unfold goL; rw [if_pos h, List.getD_eq_getElem?_getD, hx]; rfl
    have e2 : goH ord rows n a = hh := by unfold goH; rw [if_pos h, List.getD_eq_getElem?_getD, hx]; rfl
    rw [e1, e2] at w
    exact w
  · rw [if_neg (by simp; omega)]
    walk_at "run"
    have e1 : goL ord rows n a = n := by unfold goL; rw [if_neg h]
    have e2 : goH ord rows n a = n := by unfold goH; rw [if_neg h]
    rw [e1, e2] at w
    exact w
/-- what is promised of a room that is made or found -/
def Kept (A : Adr) (k : BkA) (ord : List Mk8) (L : List Fn) (rows : List PB.Row) (f : Fn) (lo : Nat) (G : Nat → List PB.Row → Prop) : Prop :=
  ∀ n rows', Ext rows rows' → Good ord L rows' → Rm rows' n → (∀ e, den rows' n e = f e) → lo ≤ lev ord rows' n → G n rows'
def T_b_decided (A : Adr) : TF := fun es R W _ => ∃ k ord L rows, ∃ (j : Nat) (m : Mk8), ∃ a l h lo : Nat, es = [.v (.ref k.b), .d (.int a), .d (.int l), .d (.int h)] ∧ R[j]? = some (bk A k ord rows) ∧ Good ord L rows ∧ ord[a]? = some m ∧ Rm rows l ∧ Rm rows h ∧
  (l ≠ h → a < lev ord rows l ∧ a < lev ord rows h) ∧ Gd L (iteF m (den rows l) (den rows h)) ∧ (l ≠ h → lo ≤ a) ∧ lo ≤ lev ord rows l ∧
  Kept A k ord L rows (iteF m (den rows l) (den rows h)) lo fun n rows' => W (.d (.int n)) (R.set j (bk A k ord rows'))
def t_b_decided (K : Frag) : TS :=
  (tSeq (tIfS (tTest (tOp rEq (tVar 2) (tVar 3))) (tRet (tVar 2)) tNext)
    (tSeq (tAsg (tTup (tCons (tOp (rIx K) (tFld K (tVar 0) "marks") (tVar 1)) (tCons (tVar 2) (tCons (tVar 3) tNil)))) (gName 4))
    (tSeq (tIfS (tB (tDNotIn (tVar 4) (tFld K (tVar 0) "places"))) (tSeq (sDPut (tFld K (tVar 0) "places") (tVar 4) (tCB (rLenX K) (tCons (tFld K (tVar 0) "rows") tNil)))
    (tDrop (tBM K "list" rAppend (tFld K (tVar 0) "rows") (tCons (tVar 4) tNil)))) tNext)
    (tRet (tDGet (tFld K (tVar 0) "places") (tVar 4))))))

theorem rd_b_decided {K : Frag} {A : Adr} : Keeps K (T_b_decided A) ["self", "at", "low", "high", "row"] fun _ => t_b_decided K := by
  rintro E es R W X ⟨k, ord, L, rows, j, m, a, l, h, lo, rfl, hj, g, ha, hl, hh, hlev, hf, hlo, hlo2, w⟩
  unfold t_b_decided
  walk_at "go"
  by_cases e : l = h
  · subst e
    rw [if_pos (decide_eq_true rfl)]
    walk_at "go"
    have := w l rows .rfl g hl (fun e => by unfold iteF; split <;> rfl) hlo2
    dsimp only at this
    rw [set_same hj] at this
    exact this
  · rw [if_neg (by simp; omega)]
    obtain ⟨ho, hx⟩ := ord_at g.wf.ond ha
    obtain ⟨l1, l2⟩ := hlev e
    walk_at "go"
    refine ⟨_, _, rfl, bk_marks hj, ?_⟩
    walk_at "go"
    refine o_ixL (d := .str (letter m)) (atI_get (by omega) (by simp [marksD, bkOf, ha])) ?_
    walk_at "run"
    refine ⟨_, _, rfl, bk_places hj, ?_⟩
    refine ⟨_, dat_P (ks := keyR (m, l, h)) hj, ?_⟩
    walk_at "go"
    have hlen := g.len
    by_cases hm : (m, l, h) ∈ rows
    · obtain ⟨i, hi, ei⟩ := List.getElem_of_mem hm
      have hi2 : rows[i]? = some (m, l, h) := by rw [List.getElem?_eq_getElem hi, ei]
      have hp : lk (bkOf ord rows).pl (keyR (m, l, h)) = some (.int (2 + i : Nat)) := pl_some rows 2 g.wf.nd hi2
      rw [hp]
      walk_at "run"
      refine ⟨_, _, rfl, bk_places hj, ?_⟩
      walk_at "go"
      refine ⟨_, by rw [← hp]; exact dat_P (ks := keyR (m, l, h)) hj, ?_⟩
      obtain ⟨c1, c2, c3⟩ := made g.wf hi2
      have := w (i + 2) rows .rfl g c1 (fun e => c3 e) (by have := hlo e; omega)
      dsimp only at this
      rw [set_same hj, Nat.add_comm i 2] at this
      exact this
    · have hp : lk (bkOf ord rows).pl (keyR (m, l, h)) = none := pl_none rows 2 hm
      rw [hp]
      walk_at "run"
      refine ⟨_, _, rfl, bk_rows hj, ?_⟩
      walk_at "go"
      refine o_lenRows hj ?_
      walk_at "go"
      refine ⟨_, _, rfl, bk_places hj, ?_⟩
      walk_at "go"
      refine ⟨_, dset_P (ks := keyR (m, l, h)) hj (by show (plFrom 2 rows).length < _; rw [pl_len]; omega), ?_⟩
      walk_at "go"
      have hj2 := set_at (r' := rBook A.c_Book k { bkOf ord rows with pl := pk (bkOf ord rows).pl (keyR (m, l, h)) (.int (((bkOf ord rows).rows.length + 2 : Nat) : Int)) }) hj
      refine ⟨_, _, rfl, bk_rows hj2, ty_rows hj2, ?_⟩
      walk_at "go"
      have eb : ({ bkOf ord rows with pl := pk (bkOf ord rows).pl (keyR (m, l, h)) (.int (((bkOf ord rows).rows.length + 2 : Nat) : Int)), rows := (bkOf ord rows).rows ++ [(letter m, l, h)] } : Bk) = bkOf ord (rows ++ [(m, l, h)]) := by
        rw [pk_new hp]
        unfold bkOf
        simp only [List.map_append, List.map_cons, List.map_nil, pl_snoc, List.length_map, Nat.add_comm]
      refine o_appB (x := (letter m, l, h)) hj2 (by show (rows.map _).length < _; rw [List.length_map]; omega) eb ?_
      rw [set_set]
      have g' := good_snoc g ho hl hh e (by omega) (by omega) hm hf
      have hj3 := set_at (r' := bk A k ord (rows ++ [(m, l, h)])) hj
      have hp3 : lk (bkOf ord (rows ++ [(m, l, h)])).pl (keyR (m, l, h)) = some (.int (2 + rows.length : Nat)) := pl_some _ 2 g'.wf.nd (made_new rows (m, l, h))
      obtain ⟨c1, c2, c3⟩ := made g'.wf (made_new rows (m, l, h))
      have x : Ext rows (rows ++ [(m, l, h)]) := ⟨_, Eq.refl _⟩
      have := w (rows.length + 2) _ x g' c1 (fun e => by rw [c3 e, x.den hl, x.den hh]; rfl) (by have := hlo e; omega)
      walk_at "go"
      refine ⟨_, _, rfl, bk_places hj3, ?_⟩
      walk_at "go"
      refine ⟨_, by rw [← hp3]; exact dat_P (ks := keyR (m, l, h)) hj3, ?_⟩
      rw [Nat.add_comm 2]
      exact this
end SE
end
section
set_option Elab.async false
set_option linter.all false
set_option maxRecDepth 100000
set_option maxHeartbeats 8000000
namespace SE
open PySem PySem.Spec PyProof.Rows L2 PB
local macro_rules | `(tactic| walk_at "go1") => `(tactic| first
  | with_reducible refine sv_seq ?_ | with_reducible refine sv_ret ?_ | with_reducible refine sv_if ?_ | with_reducible refine sv_asg ?_ | with_reducible refine sv_drop ?_ | with_reducible refine sv_next ?_ | with_reducible refine sv_dput ?_
  | with_reducible refine ev_var rfl ?_ | with_reducible refine ev_int ?_ | with_reducible refine ev_str ?_ | with_reducible refine ev_bl ?_ | with_reducible refine ev_non ?_ | with_reducible refine ev_c ?_
  | with_reducible refine ev_op ?_ | with_reducible refine ev_un ?_ | with_reducible refine ev_cb ?_ | with_reducible refine ea_cons ?_ | with_reducible refine ea_nil ?_ | with_reducible refine ev_call ?_ | with_reducible refine ev_sl ?_ | with_reducible refine eo_no ?_ | with_reducible refine eo_some ?_
  | with_reducible refine ev_andV ?_ | with_reducible refine ev_orV ?_ | with_reducible refine ev_notV ?_ | with_reducible refine ev_if ?_ | with_reducible refine ev_tup ?_ | with_reducible refine ev_fld ?_ | with_reducible refine ev_meth ?_ | with_reducible refine ev_bm ?_ | with_reducible refine ev_chain ?_
  | with_reducible refine ev_dget ?_ | with_reducible refine ev_din ?_ | with_reducible refine ev_dnotin ?_ | with_reducible refine ev_maxD ?_ | with_reducible refine ev_lenSetS ?_
  | with_reducible refine et_test ?_ | with_reducible refine et_B ?_ | with_reducible refine et_and ?_ | with_reducible refine et_or ?_ | with_reducible refine et_not ?_ | with_reducible refine et_yes ?_
  | with_reducible refine o_ii ?_ | with_reducible refine o_ib ?_ | with_reducible refine o_eqI ?_ | with_reducible refine o_neI ?_ | with_reducible refine o_eqS ?_ | with_reducible refine o_neS ?_ | with_reducible refine o_neg ?_
  | with_reducible refine o_lenL ?_ | with_reducible refine o_lenT ?_
  | with_reducible refine ⟨_, rfl, ?_⟩)
local macro_rules | `(tactic| walk_at "go") => `(tactic| repeat walk_at "go1")
local macro_rules | `(tactic| walk_at "br") => `(tactic| first
  | (with_reducible refine brT ?_ ?_; focus (decide +kernel; done)) | (with_reducible refine brF ?_ ?_; focus (decide +kernel; done)) | (with_reducible refine brT ?_ ?_; focus (simp; done)) | (with_reducible refine brF ?_ ?_; focus (simp; done)))
local macro_rules | `(tactic| walk_at "run") => `(tactic| repeat (first | walk_at "go1" | with_reducible refine o_ixT (atI_get (by decide) rfl) ?_ | with_reducible refine o_inTc rfl ?_ | refine ⟨Nat.le_of_ble_eq_true rfl, ?_⟩ | walk_at "br"))
/-! ### what is known already -/
def Kn2 (J : Nat → Nat → Nat → Prop) (kn : List (List Key × PD)) : Prop := ∀ (a b : Nat) (v : PD), lk kn [.inl a, .inl b] = some v → ∃ n : Nat, v = .int n ∧ J a b n
def Kn1 (J : Nat → Nat → Prop) (kn : List (Key × PD)) : Prop := ∀ (a : Nat) (v : PD), lk kn (.inl (a : Int)) = some v → ∃ n : Nat, v = .int n ∧ J a n
theorem Kn2.nil {J : Nat → Nat → Nat → Prop} : Kn2 J [] := fun a b v h => by cases h
theorem Kn1.nil {J : Nat → Nat → Prop} : Kn1 J [] := fun a v h => by cases h
theorem Kn2.mono {J J' : Nat → Nat → Nat → Prop} {kn : List (List Key × PD)} (h : Kn2 J kn) (s : ∀ a b n, J a b n → J' a b n) : Kn2 J' kn := fun a b v e => by
  obtain ⟨n, h1, h2⟩ := h a b v e
  exact ⟨n, h1, s _ _ _ h2⟩
theorem Kn1.mono {J J' : Nat → Nat → Prop} {kn : List (Key × PD)} (h : Kn1 J kn) (s : ∀ a n, J a n → J' a n) : Kn1 J' kn := fun a v e => by
  obtain ⟨n, h1, h2⟩ := h a v e
  exact ⟨n, h1, s _ _ h2⟩
theorem Kn2.put {J : Nat → Nat → Nat → Prop} {kn : List (List Key × PD)} (h : Kn2 J kn) {a b n : Nat} (j : J a b n) : Kn2 J (pk kn [.inl (a : Int), .inl (b : Int)] (.int n)) := fun x y v e => by
  rw [lk_pk] at e
  split at e
  · rename_i q
    injection q with q1 q2
    injection q2 with q2 _
    injection q1 with q1
    injection q2 with q2
    have q1 : (x : Int) = a := q1
    have q2 : (y : Int) = b := q2
    have e1 : x = a := by omega
    have e2 : y = b := by omega
    subst e1
    subst e2
    cases e
    exact ⟨n, rfl, j⟩
  · exact h x y v e
theorem Kn1.put {J : Nat → Nat → Prop} {kn : List (Key × PD)} (h : Kn1 J kn) {a n : Nat} (j : J a n) : Kn1 J (pk kn (.inl (a : Int)) (.int n)) := fun x v e => by
  rw [lk_pk] at e
  split at e
  · rename_i q
    injection q with q1
    have q1 : (x : Int) = a := q1
    have e1 : x = a := by omega
    subst e1
    cases e
    exact ⟨n, rfl, j⟩
  · exact h x v e
/-! ### join -/
structure JJ (op : Bool → Bool → Bool) (ord : List Mk8) (rows : List PB.Row) (a b n : Nat) : Prop where
  ra : Rm rows a
  rb : Rm rows b
  rn : Rm rows n
  dn : ∀ e, den rows n e = op (den rows a e) (den rows b e)
  lv : min (lev ord rows a) (lev ord rows b) ≤ lev ord rows n
theorem JJ.ext {op : Bool → Bool → Bool} {ord : List Mk8} {rows rows' : List PB.Row} (x : Ext rows rows') {a b n : Nat} (h : JJ op ord rows a b n) : JJ op ord rows' a b n :=
  ⟨x.rm h.ra, x.rm h.rb, x.rm h.rn, fun e => by rw [x.den h.ra, x.den h.rb, x.den h.rn]; exact h.dn e, by rw [x.lev ord h.ra, x.lev ord h.rb, x.lev ord h.rn]; exact h.lv⟩
/-- a text of four signs -/
structure TabOf (t : Str) (op : Bool → Bool → Bool) : Prop where
  len : t.length ≤ 640
  at_ : ∀ a b : Bool, t.cps.toList[2 * a.toNat + b.toNat]? = some (if op a b then 49 else 48)
theorem int_sign (b : Bool) : PySem.intText? ⟨#[if b then 49 else 48]⟩ = some (if b then 1 else 0) := by
  cases b <;> decide +kernel
theorem lev_min {ord : List Mk8} {rows : List PB.Row} (w : Wf ord rows) {a b : Nat} (ha : Rm rows a) (hb : Rm rows b) (h : ¬ (a < 2 ∧ b < 2)) : min (lev ord rows a) (lev ord rows b) < ord.length := by
  by_cases h1 : a < 2
  · have := lev_lt w (fun z => h ⟨h1, z⟩) hb
    omega
  · have := lev_lt w h1 ha
    omega
theorem get_ord {ord : List Mk8} {a : Nat} (h : a < ord.length) : ∃ m, ord[a]? = some m := ⟨_, List.getElem?_eq_getElem h⟩
theorem min_if (a b : Nat) : (if (b : Int) < (a : Int) then (b : Int) else (a : Int)) = ((min a b : Nat) : Int) := by
  split <;> omega
def T_b_join (A : Adr) (d : Nat) : TF := fun es R W _ => ∃ k ord L rows, ∃ (j : Nat) (op : Bool → Bool → Bool) (t : Str) (kd : Addr) (jd : Nat) (kn : List (List Key × PD)) (a b : Nat),
  es = [.v (.ref k.b), .d (.str t), .d (.int a), .d (.int b), .v (.ref kd)] ∧ R[j]? = some (bk A k ord rows) ∧ R[jd]? = some (rDT kd kn) ∧ Good ord L rows ∧ Rm rows a ∧ Rm rows b ∧ TabOf t op ∧
  ord.length < min (lev ord rows a) (lev ord rows b) + d ∧ kn.length + 2 ^ d ≤ 1000000 ∧ Kn2 (JJ op ord rows) kn ∧ Gd L (fun e => op (den rows a e) (den rows b e)) ∧
  ∀ n rows' kn', Ext rows rows' → Good ord L rows' → JJ op ord rows' a b n → kn'.length + 1 ≤ kn.length + 2 ^ d → Kn2 (JJ op ord rows') kn' → W (.d (.int n)) ((R.set j (bk A k ord rows')).set jd (rDT kd kn'))
theorem no_b_join {A : Adr} {es : List Ent} {R : List Res} {W : We} {X : Addr → List Res → Prop} (h : T_b_join A 0 es R W X) : False := by
  obtain ⟨k, ord, L, rows, j, op, t, kd, jd, kn, a, b, _, _, _, g, _, _, _, h, _⟩ := h
  have := lev_le ord g.wf a
  omega
theorem bk_dt {A : Adr} {k : BkA} {B : Bk} {kd : Addr} {kn : List (List Key × PD)} {R : List Res} {j jd : Nat} (h1 : R[j]? = some (rBook A.c_Book k B)) (h2 : R[jd]? = some (rDT kd kn)) : j ≠ jd := by
  rintro rfl
  rw [h1] at h2
  have h3 := congrArg (fun r : Option Res => (r.getD dead).fp.length) h2
  simp [rBook, rDT] at h3
def t_b_join (K : Frag) (A : Adr) (d : Nat) : TS :=
  (tSeq (tIfS (tAnd (tTest (tOp (rIb fun i j => decide (i < j)) (tVar 2) (tC (.int 2)))) (tTest (tOp (rIb fun i j => decide (i < j)) (tVar 3) (tC (.int 2))))) (tRet (tCB rIntS (tCons (tOp (rIx K) (tVar 1) (tOp (rIi fun i j => i + j) (tOp (rIc CMulW fun i j => i * j) (tC (.int 2)) (tVar 2)) (tVar 3))) tNil))) tNext)
    (tSeq (tIfS (tB (tDNotIn (tTup (tCons (tVar 2) (tCons (tVar 3) tNil))) (tVar 4))) (tSeq (tAsg (tCB rMin2I (tCons (tMeth A.c_Book "level" (spT K (T_b_level A)) [] E0 (tVar 0) (tCons (tVar 2) tNil)) (tCons (tMeth A.c_Book "level" (spT K (T_b_level A)) [] E0 (tVar 0) (tCons (tVar 3) tNil)) tNil))) (gName 5))
    (tSeq (tAsg (tMeth A.c_Book "goings" (spT K (T_b_goings A)) [] E0 (tVar 0) (tCons (tVar 2) (tCons (tVar 5) tNil))) (gName 6))
    (tSeq (tAsg (tMeth A.c_Book "goings" (spT K (T_b_goings A)) [] E0 (tVar 0) (tCons (tVar 3) (tCons (tVar 5) tNil))) (gName 7))
    (tSeq (tAsg (tMeth A.c_Book "join" (spT K (T_b_join A d)) [] E0 (tVar 0) (tCons (tVar 1) (tCons (tOp (rIx K) (tVar 6) (tC (.int 0))) (tCons (tOp (rIx K) (tVar 7) (tC (.int 0))) (tCons (tVar 4) tNil))))) (gName 8))
    (sDPut (tVar 4) (tTup (tCons (tVar 2) (tCons (tVar 3) tNil))) (tMeth A.c_Book "decided" (spT K (T_b_decided A)) [] E0 (tVar 0) (tCons (tVar 5) (tCons (tVar 8) (tCons (tMeth A.c_Book "join" (spT K (T_b_join A d)) [] E0 (tVar 0) (tCons (tVar 1) (tCons (tOp (rIx K) (tVar 6) (tC (.int 1))) (tCons (tOp (rIx K) (tVar 7) (tC (.int 1))) (tCons (tVar 4) tNil))))) tNil))))))))) tNext)
    (tRet (tDGet (tVar 4) (tTup (tCons (tVar 2) (tCons (tVar 3) tNil)))))))

theorem rd_b_join {K : Frag} {A : Adr} (d : Nat) : Keeps K (T_b_join A (d + 1)) ["self", "table", "one", "other", "known", "at", "left", "right", "low"] fun _ => t_b_join K A d := by
  rintro E es R W X ⟨k, ord, L, rows, j, op, t, kd, jd, kn, a, b, rfl, hj, hd, g, ha, hb, ht, hdep, hkn, hk, hf, w⟩
  unfold t_b_join
  have hne := bk_dt hj hd
  have base : a < 2 → b < 2 → ∃ n : Nat, (∃ x y : Bool, a = x.toNat ∧ b = y.toNat ∧ n = (op x y).toNat) ∧ JJ op ord rows a b n := by
    intro h1 h2
    have two : ∀ n, n < 2 → ∃ x : Bool, n = x.toNat ∧ ∀ e, den rows n e = x := by
      intro n hn
      by_cases z : n = 0
      · subst z; exact ⟨false, rfl, den0 rows⟩
      · have : n = 1 := by omega
        subst this; exact ⟨true, rfl, den1 rows⟩
    obtain ⟨x, ex, dx⟩ := two a h1
    obtain ⟨y, ey, dy⟩ := two b h2
    refine ⟨(op x y).toNat, ⟨x, y, ex, ey, rfl⟩, ha, hb, by unfold Rm; cases op x y <;> simp <;> omega, fun e => ?_, ?_⟩
    · rw [dx, dy]
      cases op x y
      · exact den0 rows e
      · exact den1 rows e
    · unfold lev
      rw [if_pos h1, if_pos h2, if_pos (by cases op x y <;> simp)]
      omega
  refine sv_seq (sv_if (et_is (decide (a < 2 ∧ b < 2)) ?_ ?_))
  · walk_at "go"
    by_cases h1 : a < 2
    · rw [if_pos (decide_eq_true (by omega))]
      walk_at "go"
      exact ⟨by apply Bool.eq_iff_iff.mpr; simp; omega, rfl⟩
    · rw [if_neg (by simp; omega)]
      exact ⟨by simp [h1], rfl⟩
  by_cases hab : a < 2 ∧ b < 2
  · rw [if_pos (decide_eq_true hab)]
    walk_at "go"
    obtain ⟨n, ⟨x, y, ex, ey, en⟩, jj⟩ := base hab.1 hab.2
    refine o_ic (mulW (by decide) (Nat.lt_of_le_of_lt (by omega : (a : Int).natAbs ≤ 1) (by decide))) ?_
    walk_at "go"
    refine o_ixS (by have := ht.len; omega) (atI_get (by omega) (by
      have := ht.at_ x y
      rw [← ex, ← ey] at this
      rw [show (2 * (a : Int) + (b : Int)).toNat = 2 * a + b by omega]
      exact this)) ?_
    walk_at "go"
    refine o_intS (int_sign _) (show 1 ≤ 640 by decide) ?_
    have := w n rows kn .rfl g jj (by have := Nat.one_le_two_pow (n := d + 1); omega) hk
    rw [set_same hj, set_same hd] at this
    have e : (if op x y = true then (1 : Int) else 0) = (n : Int) := by rw [en]; cases op x y <;> rfl
    rw [e]
    exact this
  · rw [if_neg (by simpa using hab)]
    have hlev := lev_min g.wf ha hb hab
    walk_at "run"
    refine ⟨_, dat_T (k := [.inl (a : Int), .inl (b : Int)]) hd, ?_⟩
    cases hlk : lk kn [.inl (a : Int), .inl (b : Int)] with
    | some v =>
      obtain ⟨n, rfl, jj⟩ := hk a b v hlk
      walk_at "run"
      refine ⟨_, by rw [← hlk]; exact dat_T (k := [.inl (a : Int), .inl (b : Int)]) hd, ?_⟩
      have := w n rows kn .rfl g jj (by have := Nat.one_le_two_pow (n := d + 1); omega) hk
      rw [set_same hj, set_same hd] at this
      exact this
    | none =>
      walk_at "run"
      refine ⟨bk_i hj (by decide +kernel), ?_⟩
      walk_at "go"
      refine ⟨k, ord, rows, j, a, rfl, hj, g.wf, ha, ?_⟩
      walk_at "go"
      refine ⟨bk_i hj (by decide +kernel), ?_⟩
      walk_at "go"
      refine ⟨k, ord, rows, j, b, rfl, hj, g.wf, hb, ?_⟩
      walk_at "go"
      refine o_min2 ?_
      rw [min_if]
      generalize hat : min (lev ord rows a) (lev ord rows b) = at_ at *
      obtain ⟨m, hm⟩ := get_ord hlev
      obtain ⟨hmo, hmi⟩ := ord_at g.wf.ond hm
      obtain ⟨a1, a2, a3, a4, a5, a6⟩ := go_ok g.wf ha hm (by omega)
      obtain ⟨b1, b2, b3, b4, b5, b6⟩ := go_ok g.wf hb hm (by omega)
      walk_at "go"
      refine ⟨bk_i hj (by decide +kernel), ?_⟩
      walk_at "go"
      refine ⟨k, ord, rows, j, a, at_, rfl, hj, g.wf, ha, hlev, ?_⟩
      walk_at "go"
      refine ⟨bk_i hj (by decide +kernel), ?_⟩
      walk_at "go"
      refine ⟨k, ord, rows, j, b, at_, rfl, hj, g.wf, hb, hlev, ?_⟩
      walk_at "go"
      refine ⟨bk_i hj (by decide +kernel), ?_⟩
      walk_at "run"
      have p2 : 2 ^ (d + 1) = 2 * 2 ^ d := by rw [Nat.pow_succ, Nat.mul_comm]
      refine ⟨k, ord, L, rows, j, op, t, kd, jd, kn, _, _, rfl, hj, hd, g, a1, b1, ht, by omega, by omega, hk, (hf.put m false).congr fun e => by rw [a5, b5], ?_⟩
      intro n1 rows1 kn1 x1 g1 jj1 l1 hk1
      have hj1 : ((R.set j (bk A k ord rows1)).set jd (rDT kd kn1))[j]? = some (bk A k ord rows1) := set_ne hne.symm (set_at hj)
      have hd1 : ((R.set j (bk A k ord rows1)).set jd (rDT kd kn1))[jd]? = some (rDT kd kn1) := set_at (set_ne hne hd)
      walk_at "go"
      refine ⟨bk_i hj1 (by decide +kernel), ?_⟩
      walk_at "go"
      refine ⟨bk_i hj1 (by decide +kernel), ?_⟩
      walk_at "run"
      refine ⟨k, ord, L, rows1, j, op, t, kd, jd, kn1, _, _, rfl, hj1, hd1, g1, x1.rm a2, x1.rm b2, ht, by rw [x1.lev ord a2, x1.lev ord b2]; omega, by omega, hk1, (hf.put m true).congr fun e => by rw [x1.den a2, x1.den b2, a6, b6], ?_⟩
      intro n2 rows2 kn2 x2 g2 jj2 l2 hk2
      have hj2 : ((((R.set j (bk A k ord rows1)).set jd (rDT kd kn1)).set j (bk A k ord rows2)).set jd (rDT kd kn2))[j]? = some (bk A k ord rows2) := set_ne hne.symm (set_at hj1)
      have hd2 : ((((R.set j (bk A k ord rows1)).set jd (rDT kd kn1)).set j (bk A k ord rows2)).set jd (rDT kd kn2))[jd]? = some (rDT kd kn2) := set_at (set_ne hne hd1)
      have er : ((((R.set j (bk A k ord rows1)).set jd (rDT kd kn1)).set j (bk A k ord rows2)).set jd (rDT kd kn2)) = (R.set j (bk A k ord rows2)).set jd (rDT kd kn2) := by
        rw [List.set_comm _ _ hne.symm, set_set, set_set]
      rw [er] at hj2 hd2 ⊢
      have x12 := x1.tr x2
      have v1 := jj1.lv
      have v2 := jj2.lv
      rw [x1.lev ord a1, x1.lev ord b1] at v1
      rw [x12.lev ord a2, x12.lev ord b2] at v2
      have r1 := x2.rm jj1.rn
      have q1 := x2.lev ord jj1.rn
      have hfin : ∀ e, iteF m (den rows2 n1) (den rows2 n2) e = op (den rows a e) (den rows b e) := by
        intro e
        unfold iteF
        rw [x2.den jj1.rn, jj1.dn, jj2.dn, x1.den a1, x1.den b1, x12.den a2, x12.den b2, a5, b5, a6, b6]
        cases he : e m with
        | true => rw [if_pos rfl, ← he, putE_put]
        | false => rw [if_neg (by simp), ← he, putE_put]
      walk_at "go"
      refine ⟨k, ord, L, rows2, j, m, at_, n1, n2, at_, rfl, hj2, g2, hm, r1, jj2.rn, fun _ => ⟨by omega, by omega⟩, hf.congr hfin, fun _ => Nat.le_refl _, by omega, ?_⟩
      intro n3 rows3 x3 g3 r3 d3 l3
      have x123 := x12.tr x3
      have jj3 : JJ op ord rows3 a b n3 := ⟨x123.rm ha, x123.rm hb, r3, fun e => by rw [d3, hfin, x123.den ha, x123.den hb], by rw [x123.lev ord ha, x123.lev ord hb, hat]; exact l3⟩
      have hd3 : (((R.set j (bk A k ord rows2)).set jd (rDT kd kn2)).set j (bk A k ord rows3))[jd]? = some (rDT kd kn2) := set_ne hne hd2
      walk_at "run"
      refine ⟨_, dset_T (k := [.inl (a : Int), .inl (b : Int)]) (d := .int n3) hd3 (by omega), ?_⟩
      have er2 : (((R.set j (bk A k ord rows2)).set jd (rDT kd kn2)).set j (bk A k ord rows3)).set jd (rDT kd (pk kn2 [.inl (a : Int), .inl (b : Int)] (.int n3))) = (R.set j (bk A k ord rows3)).set jd (rDT kd (pk kn2 [.inl (a : Int), .inl (b : Int)] (.int n3))) := by
        rw [List.set_comm _ _ hne.symm, set_set, set_set]
      rw [er2]
      have hd4 : ((R.set j (bk A k ord rows3)).set jd (rDT kd (pk kn2 [.inl (a : Int), .inl (b : Int)] (.int n3))))[jd]? = some (rDT kd (pk kn2 [.inl (a : Int), .inl (b : Int)] (.int n3))) := set_at (set_ne hne hd)
      walk_at "run"
      have e4 : lk (pk kn2 [.inl (a : Int), .inl (b : Int)] (.int n3)) [.inl (a : Int), .inl (b : Int)] = some (.int n3) := by rw [lk_pk, if_pos rfl]
      refine ⟨_, by rw [← e4]; exact dat_T (k := [.inl (a : Int), .inl (b : Int)]) hd4, ?_⟩
      have := pk_len kn2 [.inl (a : Int), .inl (b : Int)] (.int n3)
      exact w n3 rows3 _ x123 g3 jj3 (by omega) ((hk2.mono fun _ _ _ h => h.ext x3).put jj3)
end SE
end
section
set_option Elab.async false
set_option linter.all false
set_option maxRecDepth 100000
set_option maxHeartbeats 8000000
namespace SE
open PySem PySem.Spec PyProof.Rows L2 PB
local macro_rules | `(tactic| walk_at "go1") => `(tactic| first
  | with_reducible refine sv_seq ?_ | with_reducible refine sv_ret ?_ | with_reducible refine sv_if ?_ | with_reducible refine sv_asg ?_ | with_reducible refine sv_drop ?_ | with_reducible refine sv_next ?_ | with_reducible refine sv_dput ?_
  | with_reducible refine ev_var rfl ?_ | with_reducible refine ev_int ?_ | with_reducible refine ev_str ?_ | with_reducible refine ev_bl ?_ | with_reducible refine ev_non ?_ | with_reducible refine ev_c ?_
  | with_reducible refine ev_op ?_ | with_reducible refine ev_un ?_ | with_reducible refine ev_cb ?_ | with_reducible refine ea_cons ?_ | with_reducible refine ea_nil ?_ | with_reducible refine ev_call ?_ | with_reducible refine ev_sl ?_ | with_reducible refine eo_no ?_ | with_reducible refine eo_some ?_
  | with_reducible refine ev_andV ?_ | with_reducible refine ev_orV ?_ | with_reducible refine ev_notV ?_ | with_reducible refine ev_if ?_ | with_reducible refine ev_tup ?_ | with_reducible refine ev_fld ?_ | with_reducible refine ev_meth ?_ | with_reducible refine ev_bm ?_ | with_reducible refine ev_chain ?_
  | with_reducible refine ev_dget ?_ | with_reducible refine ev_din ?_ | with_reducible refine ev_dnotin ?_ | with_reducible refine ev_maxD ?_ | with_reducible refine ev_lenSetS ?_
  | with_reducible refine et_test ?_ | with_reducible refine et_B ?_ | with_reducible refine et_and ?_ | with_reducible refine et_or ?_ | with_reducible refine et_not ?_ | with_reducible refine et_yes ?_
  | with_reducible refine o_ii ?_ | with_reducible refine o_ib ?_ | with_reducible refine o_eqI ?_ | with_reducible refine o_neI ?_ | with_reducible refine o_eqS ?_ | with_reducible refine o_neS ?_ | with_reducible refine o_neg ?_
  | with_reducible refine o_lenL ?_ | with_reducible refine o_lenT ?_
  | with_reducible refine ⟨_, rfl, ?_⟩)
local macro_rules | `(tactic| walk_at "go") => `(tactic| repeat walk_at "go1")
local macro_rules | `(tactic| walk_at "br") => `(tactic| first
  | (with_reducible refine brT ?_ ?_; focus (decide +kernel; done)) | (with_reducible refine brF ?_ ?_; focus (decide +kernel; done)) | (with_reducible refine brT ?_ ?_; focus (simp; done)) | (with_reducible refine brF ?_ ?_; focus (simp; done)))
local macro_rules | `(tactic| walk_at "run") => `(tactic| repeat (first | walk_at "go1" | with_reducible refine o_ixT (atI_get (by decide) rfl) ?_ | with_reducible refine o_inTc rfl ?_ | refine ⟨Nat.le_of_ble_eq_true rfl, ?_⟩ | walk_at "br"))
/-! ### fix -/
structure JF (m : Mk8) (v : Bool) (ord : List Mk8) (rows : List PB.Row) (a n : Nat) : Prop where
  ra : Rm rows a
  rn : Rm rows n
  dn : ∀ e, den rows n e = den rows a (putE e m v)
  lv : lev ord rows a ≤ lev ord rows n
theorem JF.ext {m : Mk8} {v : Bool} {ord : List Mk8} {rows rows' : List PB.Row} (x : Ext rows rows') {a n : Nat} (h : JF m v ord rows a n) : JF m v ord rows' a n :=
  ⟨x.rm h.ra, x.rm h.rn, fun e => by rw [x.den h.ra, x.den h.rn]; exact h.dn e, by rw [x.lev ord h.ra, x.lev ord h.rn]; exact h.lv⟩
def T_b_fix (A : Adr) (d : Nat) : TF := fun es R W _ => ∃ k ord L rows, ∃ (j : Nat) (m : Mk8) (v : Bool) (kd : Addr) (jd : Nat) (kn : List (Key × PD)) (a at_ : Nat),
  es = [.v (.ref k.b), .d (.int a), .d (.int at_), .d (.int v.toNat), .v (.ref kd)] ∧ R[j]? = some (bk A k ord rows) ∧ R[jd]? = some (rDK kd kn) ∧ Good ord L rows ∧ Rm rows a ∧ ord[at_]? = some m ∧
  ord.length < lev ord rows a + d ∧ kn.length + 2 ^ d ≤ 1000000 ∧ Kn1 (JF m v ord rows) kn ∧
  ∀ n rows' kn', Ext rows rows' → Good ord L rows' → JF m v ord rows' a n → kn'.length + 1 ≤ kn.length + 2 ^ d → Kn1 (JF m v ord rows') kn' → W (.d (.int n)) ((R.set j (bk A k ord rows')).set jd (rDK kd kn'))
theorem no_b_fix {A : Adr} {es : List Ent} {R : List Res} {W : We} {X : Addr → List Res → Prop} (h : T_b_fix A 0 es R W X) : False := by
  obtain ⟨k, ord, L, rows, j, m, v, kd, jd, kn, a, at_, _, _, _, g, _, _, h, _⟩ := h
  have := lev_le ord g.wf a
  omega
theorem bk_dk {A : Adr} {k : BkA} {B : Bk} {kd : Addr} {kn : List (Key × PD)} {R : List Res} {j jd : Nat} (h1 : R[j]? = some (rBook A.c_Book k B)) (h2 : R[jd]? = some (rDK kd kn)) : j ≠ jd := by
  rintro rfl
  rw [h1] at h2
  have h3 := congrArg (fun r : Option Res => (r.getD dead).fp.length) h2
  simp [rBook, rDK] at h3
def t_b_fix (K : Frag) (A : Adr) (d : Nat) : TS :=
  (tSeq (tIfS (tTest (tOp (rIb fun i j => decide (j < i)) (tMeth A.c_Book "level" (spT K (T_b_level A)) [] E0 (tVar 0) (tCons (tVar 1) tNil)) (tVar 2))) (tRet (tVar 1)) tNext)
    (tSeq (tIfS (tTest (tOp rEq (tMeth A.c_Book "level" (spT K (T_b_level A)) [] E0 (tVar 0) (tCons (tVar 1) tNil)) (tVar 2))) (tRet (tOp (rIx K) (tOp (rIx K) (tFld K (tVar 0) "rows") (tVar 1)) (tOp (rIi fun i j => i + j) (tC (.int 1)) (tVar 3)))) tNext)
    (tSeq (tIfS (tB (tDNotIn (tVar 1) (tVar 4))) (tSeq (tAsg (tMeth A.c_Book "fix" (spT K (T_b_fix A d)) [] E0 (tVar 0) (tCons (tOp (rIx K) (tOp (rIx K) (tFld K (tVar 0) "rows") (tVar 1)) (tC (.int 1))) (tCons (tVar 2) (tCons (tVar 3) (tCons (tVar 4) tNil))))) (gName 5))
    (sDPut (tVar 4) (tVar 1) (tMeth A.c_Book "decided" (spT K (T_b_decided A)) [] E0 (tVar 0) (tCons (tMeth A.c_Book "level" (spT K (T_b_level A)) [] E0 (tVar 0) (tCons (tVar 1) tNil)) (tCons (tVar 5) (tCons (tMeth A.c_Book "fix" (spT K (T_b_fix A d)) [] E0 (tVar 0) (tCons (tOp (rIx K) (tOp (rIx K) (tFld K (tVar 0) "rows") (tVar 1)) (tC (.int 2))) (tCons (tVar 2) (tCons (tVar 3) (tCons (tVar 4) tNil))))) tNil)))))) tNext)
    (tRet (tDGet (tVar 4) (tVar 1))))))

theorem rd_b_fix {K : Frag} {A : Adr} (d : Nat) : Keeps K (T_b_fix A (d + 1)) ["self", "one", "at", "value", "known", "low"] fun _ => t_b_fix K A d := by
  rintro E es R W X ⟨k, ord, L, rows, j, m, v, kd, jd, kn, a, at_, rfl, hj, hd, g, ha, hm, hdep, hkn, hk, w⟩
  unfold t_b_fix
  have hne := bk_dk hj hd
  obtain ⟨hmo, hmi⟩ := ord_at g.wf.ond hm
  have hlt := (List.getElem?_eq_some_iff.mp hm).1
  have pos := Nat.one_le_two_pow (n := d + 1)
  walk_at "go"
  refine ⟨bk_i hj (by decide +kernel), ?_⟩
  walk_at "go"
  refine ⟨k, ord, rows, j, a, rfl, hj, g.wf, ha, ?_⟩
  walk_at "go"
  by_cases c1 : at_ < lev ord rows a
  · rw [if_pos (decide_eq_true (by omega))]
    walk_at "go"
    have := w a rows kn .rfl g ⟨ha, ha, fun e => by rw [den_put g.wf ha hmo (by omega)], Nat.le_refl _⟩ (by omega) hk
    rw [set_same hj, set_same hd] at this
    exact this
  rw [if_neg (by simp; omega)]
  walk_at "go"
  refine ⟨bk_i hj (by decide +kernel), ?_⟩
  walk_at "go"
  refine ⟨k, ord, rows, j, a, rfl, hj, g.wf, ha, ?_⟩
  walk_at "go"
  have n2 : ¬ a < 2 := by
    intro n2
    have : lev ord rows a = ord.length := by unfold lev; rw [if_pos n2]
    omega
  obtain ⟨m', l, hh, hx, hlv, hm', l1, l2, ne, g1, g2, hdn⟩ := g.wf.get n2 ha
  have rl : Rm rows l := by unfold Rm at *; omega
  have rh : Rm rows hh := by unfold Rm at *; omega
  by_cases c2 : lev ord rows a = at_
  · rw [if_pos (decide_eq_true (by omega))]
    obtain ⟨_, _, _, _, d1, d2⟩ := go_ok g.wf ha hm (by omega)
    have e1 : goL ord rows a at_ = l := by unfold goL; rw [if_pos c2, List.getD_eq_getElem?_getD, hx]; rfl
    have e2 : goH ord rows a at_ = hh := by unfold goH; rw [if_pos c2, List.getD_eq_getElem?_getD, hx]; rfl
    rw [e1] at d1
    rw [e2] at d2
    walk_at "go"
    refine ⟨_, _, rfl, bk_rows hj, ?_⟩
    walk_at "go"
    refine o_ixRows hj (row_at n2 hx) ?_
    walk_at "go"
    cases v with
    | false =>
      refine o_ixT (atI_get (by decide) rfl) ?_
      have := w l rows kn .rfl g ⟨ha, rl, d1, by omega⟩ (by omega) hk
      rw [set_same hj, set_same hd] at this
      exact this
    | true =>
      refine o_ixT (atI_get (by decide) rfl) ?_
      have := w hh rows kn .rfl g ⟨ha, rh, d2, by omega⟩ (by omega) hk
      rw [set_same hj, set_same hd] at this
      exact this
  rw [if_neg (by simp; omega)]
  walk_at "run"
  refine ⟨_, dat_Ki (i := (a : Int)) hd, ?_⟩
  cases hlk : lk kn (.inl (a : Int)) with
  | some x =>
    obtain ⟨n, rfl, jj⟩ := hk a x hlk
    walk_at "run"
    refine ⟨_, by rw [← hlk]; exact dat_Ki (i := (a : Int)) hd, ?_⟩
    have := w n rows kn .rfl g jj (by omega) hk
    rw [set_same hj, set_same hd] at this
    exact this
  | none =>
    walk_at "run"
    refine ⟨bk_i hj (by decide +kernel), ?_⟩
    walk_at "go"
    refine ⟨_, _, rfl, bk_rows hj, ?_⟩
    walk_at "go"
    refine o_ixRows hj (row_at n2 hx) ?_
    walk_at "run"
    have p2 : 2 ^ (d + 1) = 2 * 2 ^ d := by rw [Nat.pow_succ, Nat.mul_comm]
    refine ⟨k, ord, L, rows, j, m, v, kd, jd, kn, l, at_, rfl, hj, hd, g, rl, hm, by omega, by omega, hk, ?_⟩
    intro n1 rows1 kn1 x1 gd1 jj1 le1 hk1
    have hj1 : ((R.set j (bk A k ord rows1)).set jd (rDK kd kn1))[j]? = some (bk A k ord rows1) := set_ne hne.symm (set_at hj)
    have hd1 : ((R.set j (bk A k ord rows1)).set jd (rDK kd kn1))[jd]? = some (rDK kd kn1) := set_at (set_ne hne hd)
    have hx1 : rows1[a - 2]? = some (m', l, hh) := by
      obtain ⟨more, rfl⟩ := x1
      rw [List.getElem?_append_left (List.getElem?_eq_some_iff.mp hx).1]; exact hx
    walk_at "go"
    refine ⟨bk_i hj1 (by decide +kernel), ?_⟩
    walk_at "go"
    refine ⟨bk_i hj1 (by decide +kernel), ?_⟩
    walk_at "go"
    refine ⟨k, ord, rows1, j, a, rfl, hj1, gd1.wf, x1.rm ha, ?_⟩
    walk_at "go"
    refine ⟨bk_i hj1 (by decide +kernel), ?_⟩
    walk_at "go"
    refine ⟨_, _, rfl, bk_rows hj1, ?_⟩
    walk_at "go"
    refine o_ixRows hj1 (row_at n2 hx1) ?_
    walk_at "run"
    refine ⟨k, ord, L, rows1, j, m, v, kd, jd, kn1, hh, at_, rfl, hj1, hd1, gd1, x1.rm rh, hm, by rw [x1.lev ord rh]; omega, by omega, hk1, ?_⟩
    intro n2' rows2 kn2 x2 gd2 jj2 le2 hk2
    have hj2 : ((((R.set j (bk A k ord rows1)).set jd (rDK kd kn1)).set j (bk A k ord rows2)).set jd (rDK kd kn2))[j]? = some (bk A k ord rows2) := set_ne hne.symm (set_at hj1)
    have hd2 : ((((R.set j (bk A k ord rows1)).set jd (rDK kd kn1)).set j (bk A k ord rows2)).set jd (rDK kd kn2))[jd]? = some (rDK kd kn2) := set_at (set_ne hne hd1)
    have er : ((((R.set j (bk A k ord rows1)).set jd (rDK kd kn1)).set j (bk A k ord rows2)).set jd (rDK kd kn2)) = (R.set j (bk A k ord rows2)).set jd (rDK kd kn2) := by
      rw [List.set_comm _ _ hne.symm, set_set, set_set]
    rw [er] at hj2 hd2 ⊢
    have x12 := x1.tr x2
    have v1 := jj1.lv
    have v2 := jj2.lv
    rw [x1.lev ord rl] at v1
    rw [x12.lev ord rh] at v2
    have r1 := x2.rm jj1.rn
    have q1 := x2.lev ord jj1.rn
    have hma : ord[lev ord rows a]? = some m' := by
      rw [hlv, List.getElem?_eq_getElem (List.idxOf_lt_length_of_mem hm'), List.getElem_idxOf]
    have hmm : ¬ m' = m := by
      intro z
      rw [z] at hlv
      omega
    have hfin : ∀ e, iteF m' (den rows2 n1) (den rows2 n2') e = den rows a (putE e m v) := by
      intro e
      have e0 : putE e m v m' = e m' := by unfold putE; rw [if_neg hmm]
      unfold iteF
      rw [x2.den jj1.rn, jj1.dn, jj2.dn, x1.den rl, x12.den rh, hdn, e0]
    walk_at "go"
    rw [x1.lev ord ha]
    refine ⟨k, ord, L, rows2, j, m', lev ord rows a, n1, n2', lev ord rows a, rfl, hj2, gd2, hma, r1, jj2.rn, fun _ => ⟨by omega, by omega⟩, ((g.inF ha).put m v).congr hfin, fun _ => Nat.le_refl _, by omega, ?_⟩
    intro n3 rows3 x3 g3 r3 d3 l3
    have x123 := x12.tr x3
    have jj3 : JF m v ord rows3 a n3 := ⟨x123.rm ha, r3, fun e => by rw [d3, hfin, x123.den ha], by rw [x123.lev ord ha]; exact l3⟩
    have hd3 : (((R.set j (bk A k ord rows2)).set jd (rDK kd kn2)).set j (bk A k ord rows3))[jd]? = some (rDK kd kn2) := set_ne hne hd2
    walk_at "run"
    refine ⟨_, dset_Ki (i := (a : Int)) (d := .int n3) hd3 (by omega), ?_⟩
    have er2 : (((R.set j (bk A k ord rows2)).set jd (rDK kd kn2)).set j (bk A k ord rows3)).set jd (rDK kd (pk kn2 (.inl (a : Int)) (.int n3))) = (R.set j (bk A k ord rows3)).set jd (rDK kd (pk kn2 (.inl (a : Int)) (.int n3))) := by
      rw [List.set_comm _ _ hne.symm, set_set, set_set]
    rw [er2]
    have hd4 : ((R.set j (bk A k ord rows3)).set jd (rDK kd (pk kn2 (.inl (a : Int)) (.int n3))))[jd]? = some (rDK kd (pk kn2 (.inl (a : Int)) (.int n3))) := set_at (set_ne hne hd)
    walk_at "run"
    have e4 : lk (pk kn2 (.inl (a : Int)) (.int n3)) (.inl (a : Int)) = some (.int n3) := by rw [lk_pk, if_pos rfl]
    refine ⟨_, by rw [← e4]; exact dat_Ki (i := (a : Int)) hd4, ?_⟩
    have := pk_len kn2 (.inl (a : Int)) (.int n3)
    exact w n3 rows3 _ x123 g3 jj3 (by omega) ((hk2.mono fun _ _ h => h.ext x3).put jj3)
end SE
end
section
set_option Elab.async false
set_option linter.all false
set_option maxRecDepth 100000
set_option maxHeartbeats 8000000
namespace SE
open PySem PySem.Spec PyProof.Rows L2 PB
local macro_rules | `(tactic| walk_at "go1") => `(tactic| first
  | with_reducible refine sv_seq ?_ | with_reducible refine sv_ret ?_ | with_reducible refine sv_if ?_ | with_reducible refine sv_asg ?_ | with_reducible refine sv_drop ?_ | with_reducible refine sv_next ?_ | with_reducible refine sv_dput ?_
  | with_reducible refine ev_var rfl ?_ | with_reducible refine ev_int ?_ | with_reducible refine ev_str ?_ | with_reducible refine ev_bl ?_ | with_reducible refine ev_non ?_ | with_reducible refine ev_c ?_
  | with_reducible refine ev_op ?_ | with_reducible refine ev_un ?_ | with_reducible refine ev_cb ?_ | with_reducible refine ea_cons ?_ | with_reducible refine ea_nil ?_ | with_reducible refine ev_call ?_ | with_reducible refine ev_sl ?_ | with_reducible refine eo_no ?_ | with_reducible refine eo_some ?_
  | with_reducible refine ev_andV ?_ | with_reducible refine ev_orV ?_ | with_reducible refine ev_notV ?_ | with_reducible refine ev_if ?_ | with_reducible refine ev_tup ?_ | with_reducible refine ev_fld ?_ | with_reducible refine ev_meth ?_ | with_reducible refine ev_bm ?_ | with_reducible refine ev_chain ?_
  | with_reducible refine ev_dget ?_ | with_reducible refine ev_din ?_ | with_reducible refine ev_dnotin ?_ | with_reducible refine ev_maxD ?_ | with_reducible refine ev_lenSetS ?_
  | with_reducible refine et_test ?_ | with_reducible refine et_B ?_ | with_reducible refine et_and ?_ | with_reducible refine et_or ?_ | with_reducible refine et_not ?_ | with_reducible refine et_yes ?_
  | with_reducible refine o_ii ?_ | with_reducible refine o_ib ?_ | with_reducible refine o_eqI ?_ | with_reducible refine o_neI ?_ | with_reducible refine o_eqS ?_ | with_reducible refine o_neS ?_ | with_reducible refine o_neg ?_
  | with_reducible refine o_lenL ?_ | with_reducible refine o_lenT ?_
  | with_reducible refine ⟨_, rfl, ?_⟩)
local macro_rules | `(tactic| walk_at "go") => `(tactic| repeat walk_at "go1")
local macro_rules | `(tactic| walk_at "br") => `(tactic| first
  | (with_reducible refine brT ?_ ?_; focus (decide +kernel; done)) | (with_reducible refine brF ?_ ?_; focus (decide +kernel; done)) | (with_reducible refine brT ?_ ?_; focus (simp; done)) | (with_reducible refine brF ?_ ?_; focus (simp; done)))
local macro_rules | `(tactic| walk_at "run") => `(tactic| repeat (first | walk_at "go1" | with_reducible refine o_ixT (atI_get (by decide) rfl) ?_ | with_reducible refine o_inTc rfl ?_ | refine ⟨Nat.le_of_ble_eq_true rfl, ?_⟩ | walk_at "br"))
theorem upd2 {S : List Res} {x y z : Res} {j : Nat} (h : j < S.length) : ((S ++ [x]).set j y).set S.length z = S.set j y ++ [z] := by
  rw [List.set_append_left _ _ h, List.set_append_right _ _ (by simp)]
  simp
/-! ### entered -/
def Sen.subs : Sen → List Fn
  | .yes => [Sen.val .yes]
  | .no => [Sen.val .no]
  | .mark m => [Sen.val (.mark m)]
  | .not s => Sen.val (.not s) :: s.subs
  | .bin o s t => Sen.val (.bin o s t) :: (s.subs ++ t.subs)
  | .qu q m s => Sen.val (.qu q m s) :: s.subs
theorem subs_len (s : Sen) : s.subs.length = s.cnt := by
  induction s <;> simp [Sen.subs, Sen.cnt] <;> omega
theorem val_sub (s : Sen) : s.val ∈ s.subs := by cases s <;> simp [Sen.subs]
def Bop.txt : Bop → Str
  | .and => "0001"
  | .or => "0111"
  | .xor => "0110"
  | .imp => "1101"
theorem tab_bop (o : Bop) : TabOf o.txt o.fn := by
  cases o <;> exact ⟨by decide +kernel, by decide +kernel⟩
theorem tab_not : TabOf "1100" fun a _ => !a := ⟨by decide +kernel, by decide +kernel⟩
def Qn.fn : Qn → Bool → Bool → Bool
  | .some => fun a b => a || b
  | .each => fun a b => a && b
def Qn.txt : Qn → Str
  | .some => "0111"
  | .each => "0001"
theorem tab_qn (q : Qn) : TabOf q.txt q.fn := by
  cases q <;> exact ⟨by decide +kernel, by decide +kernel⟩
theorem val_qu (q : Qn) (m : Mk8) (s : Sen) (e : PB.Env) : (Sen.qu q m s).val e = q.fn (s.val (putE e m false)) (s.val (putE e m true)) := by cases q <;> rfl
theorem rm0 (rows : List PB.Row) : Rm rows 0 := by unfold Rm; omega
theorem rm1 (rows : List PB.Row) : Rm rows 1 := by unfold Rm; omega
theorem lev0 (ord : List Mk8) (rows : List PB.Row) : lev ord rows 0 = ord.length := by unfold lev; rw [if_pos (by omega)]
theorem lev1 (ord : List Mk8) (rows : List PB.Row) : lev ord rows 1 = ord.length := by unfold lev; rw [if_pos (by omega)]
def T_b_entered (A : Adr) (d : Nat) : TF := fun es R W _ => ∃ k ord L rows, ∃ (j : Nat) (s : Sen), es = [.v (.ref k.b), .d (enc s)] ∧ R[j]? = some (bk A k ord rows) ∧ Good ord L rows ∧ ord.length ≤ 8 ∧ s.dep ≤ d ∧ (∀ m ∈ s.ms, m ∈ ord) ∧ (∀ f ∈ s.subs, Gd L f) ∧
  Kept A k ord L rows s.val 0 fun n rows' => W (.d (.int n)) (R.set j (bk A k ord rows'))
theorem no_b_entered {A : Adr} {es : List Ent} {R : List Res} {W : We} {X : Addr → List Res → Prop} (h : T_b_entered A 0 es R W X) : False := by
  obtain ⟨k, ord, L, rows, j, s, _, _, _, _, h, _⟩ := h
  have := dep_pos s
  omega
def t_b_entered (K : Frag) (A : Adr) (d : Nat) : TS :=
  (tSeq (tAsg (tOp (rIx K) (tVar 1) (tC (.int 0))) (gName 2))
    (tSeq (tIfS (tTest (tOp (rIn K false) (tVar 2) (tTup (tCons (tC (.str "yes")) (tCons (tC (.str "no")) tNil))))) (tRet (tCB rInt1 (tCons (tOp rEq (tVar 2) (tC (.str "yes"))) tNil))) tNext)
    (tSeq (tIfS (tTest (tOp rEq (tVar 2) (tC (.str "mark")))) (tRet (tMeth A.c_Book "decided" (spT K (T_b_decided A)) [] E0 (tVar 0) (tCons (tBM K "list" (rIndex K) (tFld K (tVar 0) "marks") (tCons (tOp (rIx K) (tVar 1) (tC (.int 1))) tNil)) (tCons (tC (.int 0)) (tCons (tC (.int 1)) tNil))))) tNext)
    (tSeq (tIfS (tTest (tOp (rIn K false) (tVar 2) (tTup (tCons (tC (.str "some")) (tCons (tC (.str "each")) tNil))))) (tSeq (tAsg (tMeth A.c_Book "entered" (spT K (T_b_entered A d)) [] E0 (tVar 0) (tCons (tOp (rIx K) (tVar 1) (tC (.int 2))) tNil)) (gName 3))
    (tSeq (tAsg (tBM K "list" (rIndex K) (tFld K (tVar 0) "marks") (tCons (tOp (rIx K) (tVar 1) (tC (.int 1))) tNil)) (gName 4))
    (tSeq (tAsg (tOp (rIx K) (tLst (tCons (tC (.str "0001")) (tCons (tC (.str "0111")) tNil))) (tCB rInt1 (tCons (tOp rEq (tVar 2) (tC (.str "some"))) tNil))) (gName 5))
    (tRet (tMeth A.c_Book "join" (spT K (T_b_join A 10)) [] E0 (tVar 0) (tCons (tVar 5) (tCons (tMeth A.c_Book "fix" (spT K (T_b_fix A 10)) [] E0 (tVar 0) (tCons (tVar 3) (tCons (tVar 4) (tCons (tC (.int 0)) (tCons tDNewK tNil))))) (tCons (tMeth A.c_Book "fix" (spT K (T_b_fix A 10)) [] E0 (tVar 0) (tCons (tVar 3) (tCons (tVar 4) (tCons (tC (.int 1)) (tCons tDNewK tNil))))) (tCons tDNewT tNil))))))))) tNext)
    (tSeq (tAsg (tMeth A.c_Book "entered" (spT K (T_b_entered A d)) [] E0 (tVar 0) (tCons (tOp (rIx K) (tVar 1) (tC (.int 1))) tNil)) (gName 6))
    (tSeq (tIfS (tTest (tOp rEq (tVar 2) (tC (.str "not")))) (tRet (tMeth A.c_Book "join" (spT K (T_b_join A 10)) [] E0 (tVar 0) (tCons (tC (.str "1100")) (tCons (tVar 6) (tCons (tC (.int 0)) (tCons tDNewT tNil)))))) tNext)
    (tRet (tMeth A.c_Book "join" (spT K (T_b_join A 10)) [] E0 (tVar 0) (tCons (tOp (rIxKd tabTABLES A.g_TABLES) (tC (.ref A.g_TABLES)) (tVar 2)) (tCons (tVar 6) (tCons (tMeth A.c_Book "entered" (spT K (T_b_entered A d)) [] E0 (tVar 0) (tCons (tOp (rIx K) (tVar 1) (tC (.int 2))) tNil)) (tCons tDNewT tNil))))))))))))

theorem rd_b_entered {K : Frag} {A : Adr} (d : Nat) : Keeps K (T_b_entered A (d + 1)) ["self", "sentence", "word", "inner", "at", "table", "one"] fun _ => t_b_entered K A d := by
  rintro E es R W X ⟨k, ord, L, rows, j, s, rfl, hj, g, h8, hd, hm, hs, w⟩
  unfold t_b_entered
  have hjl := at_lt hj
  -- a join with a new dict, at the end
  have fin : ∀ {rows2 : List PB.Row} (x2 : Ext rows rows2) (g2 : Good ord L rows2) (a b : Nat) (op : Bool → Bool → Bool) (t : Str) (S : List Res), Rm rows2 a → Rm rows2 b → TabOf t op → (∀ e, op (den rows2 a e) (den rows2 b e) = s.val e) →
      ∀ p, T_b_join A 10 [.v (.ref k.b), .d (.str t), .d (.int a), .d (.int b), .v (.ref p)] (R.set j (bk A k ord rows2) ++ S ++ [rDT p []]) (fun e R1 => ∃ R0 R3, R1 = R0 ++ R3 ∧ W e R0) fun _ _ => False := by
    intro rows2 x2 g2 a b op t S ra rb ht hv p
    have hl : j < (R.set j (bk A k ord rows2) ++ S).length := by simp; omega
    refine ⟨k, ord, L, rows2, j, op, t, p, _, [], a, b, rfl, app_at (app_at (set_at hj)), push_at, g2, ra, rb, ht, by omega, by decide, Kn2.nil, (hs _ (val_sub s)).congr hv, ?_⟩
    intro n rows3 kn x3 g3 jj _ _
    rw [upd2 hl, app_set (set_at hj), set_set]
    refine ⟨R.set j (bk A k ord rows3), S ++ [rDT p kn], by rw [List.append_assoc], ?_⟩
    exact w n rows3 (x2.tr x3) g3 jj.rn (fun e => by rw [jj.dn, x3.den ra, x3.den rb, hv]) (Nat.zero_le _)
  rcases s with _ | _ | m | s | ⟨o, s, t⟩ | ⟨q, m, s⟩
  case yes =>
    simp only [enc]
    walk_at "run"
    refine o_intB ?_
    have := w 1 rows .rfl g (rm1 rows) (den1 rows) (Nat.zero_le _)
    dsimp only at this
    rw [set_same hj] at this
    exact this
  case no =>
    simp only [enc]
    walk_at "run"
    refine o_intB ?_
    have := w 0 rows .rfl g (rm0 rows) (den0 rows) (Nat.zero_le _)
    dsimp only at this
    rw [set_same hj] at this
    exact this
  case mark =>
    simp only [enc]
    have hmo : m ∈ ord := hm m (by simp [Sen.ms])
    have hlt := List.idxOf_lt_length_of_mem hmo
    have hma : ord[ord.idxOf m]? = some m := by rw [List.getElem?_eq_getElem hlt, List.getElem_idxOf]
    walk_at "run"
    refine ⟨bk_i hj (by decide +kernel), ?_⟩
    walk_at "run"
    refine ⟨_, _, rfl, bk_marks hj, ty_list, ?_⟩
    walk_at "run"
    obtain ⟨i1, i2⟩ := idx_letter hmo
    refine o_indexS i1 i2 ?_
    walk_at "run"
    have hv : ∀ e, (Sen.mark m).val e = iteF m (den rows 0) (den rows 1) e := fun e => by
      unfold iteF
      rw [den0, den1]
      show e m = _
      cases e m <;> rfl
    refine ⟨k, ord, L, rows, j, m, ord.idxOf m, 0, 1, 0, rfl, hj, g, hma, rm0 rows, rm1 rows, fun _ => ⟨by rw [lev0]; exact hlt, by rw [lev1]; exact hlt⟩, (hs _ (val_sub _)).congr fun e => (hv e).symm, fun _ => Nat.zero_le _, Nat.zero_le _, ?_⟩
    intro n rows' x g' r dn _
    exact w n rows' x g' r (fun e => (dn e).trans (hv e).symm) (Nat.zero_le _)
  case not =>
    simp only [enc]
    walk_at "run"
    refine ⟨bk_i hj (by decide +kernel), ?_⟩
    walk_at "run"
    refine ⟨k, ord, L, rows, j, s, rfl, hj, g, h8, by simp [Sen.dep] at hd; omega, fun m hmm => hm m (by simpa [Sen.ms] using hmm), fun f hf => hs f (List.mem_cons_of_mem _ hf), ?_⟩
    intro n1 rows1 x1 g1 r1 d1 _
    have hj1 := set_at (r' := bk A k ord rows1) hj
    refine sv_seq (sv_if (et_is true ?_ ?_))
    · walk_at "run"
      exact ⟨rfl, rfl⟩
    rw [if_pos rfl]
    refine sv_ret (ev_cut ?_)
    walk_at "run"
    refine ⟨bk_i hj1 (by decide +kernel), ?_⟩
    walk_at "run"
    refine ev_newT fun p => ?_
    walk_at "run"
    have := fin x1 g1 n1 0 _ _ [] r1 (rm0 rows1) tab_not (fun e => by rw [d1]; rfl) p
    rw [List.append_nil] at this
    exact this
  case bin =>
    have main : ∀ hd : Str, hd = o.nm → tabTABLES.lookup o.nm = some (.str o.txt) → Sv ⟨K, E, X⟩ (tSeq (tAsg (tMeth A.c_Book "entered" (spT K (T_b_entered A d)) [] E0 (tVar 0) (tCons (tOp (rIx K) (tVar 1) (tC (.int 1))) tNil)) (gName 6))
        (tSeq (tIfS (tTest (tOp rEq (tVar 2) (tC (.str "not")))) (tRet (tMeth A.c_Book "join" (spT K (T_b_join A 10)) [] E0 (tVar 0) (tCons (tC (.str "1100")) (tCons (tVar 6) (tCons (tC (.int 0)) (tCons tDNewT tNil)))))) tNext)
        (tRet (tMeth A.c_Book "join" (spT K (T_b_join A 10)) [] E0 (tVar 0) (tCons (tOp (rIxKd tabTABLES A.g_TABLES) (tC (.ref A.g_TABLES)) (tVar 2)) (tCons (tVar 6) (tCons (tMeth A.c_Book "entered" (spT K (T_b_entered A d)) [] E0 (tVar 0) (tCons (tOp (rIx K) (tVar 1) (tC (.int 2))) tNil)) (tCons tDNewT tNil)))))))) [some (.v (.ref k.b)), some (.d (.tuple [.str hd, enc s, enc t])), some (.d (.str hd)), none, none, none, none] R ⟨fun _ R' => W (.d .none) R', W, fun _ _ => False, fun _ _ => False⟩ := by
      rintro _ rfl htab
      walk_at "go"
      refine ⟨bk_i hj (by decide +kernel), ?_⟩
      walk_at "run"
      refine ⟨k, ord, L, rows, j, s, rfl, hj, g, h8, by simp [Sen.dep] at hd; omega, fun m hmm => hm m (by simp [Sen.ms]; exact .inl hmm), fun f hf => hs f (List.mem_cons_of_mem _ (List.mem_append_left _ hf)), ?_⟩
      intro n1 rows1 x1 g1 r1 d1 _
      have hj1 := set_at (r' := bk A k ord rows1) hj
      refine sv_seq (sv_if (et_is false ?_ ?_))
      · walk_at "go"
        exact ⟨by cases o <;> decide +kernel, rfl⟩
      rw [if_neg (by simp)]
      walk_at "go1"
      refine sv_ret (ev_cut ?_)
      walk_at "go"
      refine ⟨bk_i hj1 (by decide +kernel), ?_⟩
      walk_at "go"
      refine o_ixKd (x := .str o.txt) htab rfl ?_
      walk_at "go"
      refine ⟨bk_i hj1 (by decide +kernel), ?_⟩
      walk_at "run"
      refine ⟨k, ord, L, rows1, j, t, rfl, hj1, g1, h8, by simp [Sen.dep] at hd; omega, fun m hmm => hm m (by simp [Sen.ms]; exact .inr hmm), fun f hf => hs f (List.mem_cons_of_mem _ (List.mem_append_right _ hf)), ?_⟩
      intro n2 rows2 x2 g2 r2 d2 _
      walk_at "run"
      refine ev_newT fun p => ?_
      walk_at "run"
      rw [set_set]
      have := fin (x1.tr x2) g2 n1 n2 _ _ [] (x2.rm r1) r2 (tab_bop o) (fun e => by rw [x2.den r1, d1, d2]; rfl) p
      rw [List.append_nil] at this
      exact this
    cases o <;>
    · simp only [enc, Bop.nm]
      walk_at "go"
      refine o_ixT (atI_get (by decide) rfl) ?_
      refine sv_seq (sv_if (et_is false ?_ ?_))
      · walk_at "run"
        exact ⟨rfl, rfl⟩
      rw [if_neg (by simp)]
      walk_at "go1"
      refine sv_seq (sv_if (et_is false ?_ ?_))
      · walk_at "run"
        exact ⟨by decide +kernel, rfl⟩
      rw [if_neg (by simp)]
      walk_at "go1"
      refine sv_seq (sv_if (et_is false ?_ ?_))
      · walk_at "run"
        exact ⟨rfl, rfl⟩
      rw [if_neg (by simp)]
      walk_at "go1"
      exact main _ rfl (by decide +kernel)
  case qu =>
    have hmo : m ∈ ord := hm m (by simp [Sen.ms])
    have hlt := List.idxOf_lt_length_of_mem hmo
    have hma : ord[ord.idxOf m]? = some m := by rw [List.getElem?_eq_getElem hlt, List.getElem_idxOf]
    obtain ⟨i1, i2⟩ := idx_letter hmo
    have main : ∀ (hd : Str) (ρ : Rho) (P : Post), P.rt = W → ρ = [some (.v (.ref k.b)), some (.d (.tuple [.str hd, .str (letter m), enc s])), some (.d (.str hd)), none, none, none, none] → hd = q.nm →
        Sv ⟨K, E, X⟩ (tSeq (tAsg (tMeth A.c_Book "entered" (spT K (T_b_entered A d)) [] E0 (tVar 0) (tCons (tOp (rIx K) (tVar 1) (tC (.int 2))) tNil)) (gName 3))
    (tSeq (tAsg (tBM K "list" (rIndex K) (tFld K (tVar 0) "marks") (tCons (tOp (rIx K) (tVar 1) (tC (.int 1))) tNil)) (gName 4))
    (tSeq (tAsg (tOp (rIx K) (tLst (tCons (tC (.str "0001")) (tCons (tC (.str "0111")) tNil))) (tCB rInt1 (tCons (tOp rEq (tVar 2) (tC (.str "some"))) tNil))) (gName 5))
    (tRet (tMeth A.c_Book "join" (spT K (T_b_join A 10)) [] E0 (tVar 0) (tCons (tVar 5) (tCons (tMeth A.c_Book "fix" (spT K (T_b_fix A 10)) [] E0 (tVar 0) (tCons (tVar 3) (tCons (tVar 4) (tCons (tC (.int 0)) (tCons tDNewK tNil))))) (tCons (tMeth A.c_Book "fix" (spT K (T_b_fix A 10)) [] E0 (tVar 0) (tCons (tVar 3) (tCons (tVar 4) (tCons (tC (.int 1)) (tCons tDNewK tNil))))) (tCons tDNewT tNil))))))))) ρ R P := by
      rintro _ _ P hP rfl rfl
      walk_at "go"
      refine ⟨bk_i hj (by decide +kernel), ?_⟩
      walk_at "run"
      refine ⟨k, ord, L, rows, j, s, rfl, hj, g, h8, by simp [Sen.dep] at hd; omega, fun m hmm => hm m (by simp [Sen.ms]; exact .inr hmm), fun f hf => hs f (List.mem_cons_of_mem _ hf), ?_⟩
      intro n1 rows1 x1 g1 r1 d1 _
      have hj1 := set_at (r' := bk A k ord rows1) hj
      walk_at "go"
      refine ⟨_, _, rfl, bk_marks hj1, ty_list, ?_⟩
      walk_at "run"
      refine o_indexS i1 i2 ?_
      walk_at "go"
      refine ev_lst ?_
      walk_at "run"
      refine o_intB ?_
      refine o_ixL (d := .str q.txt) (by
        cases q
        · rw [show (if decide (Qn.some.nm = ("some" : Str)) = true then (1 : Int) else 0) = 1 by decide +kernel]
          exact atI_get (by decide) rfl
        · rw [show (if decide (Qn.each.nm = ("some" : Str)) = true then (1 : Int) else 0) = 0 by decide +kernel]
          exact atI_get (by decide) rfl) ?_
      refine sv_ret (ev_cut ?_)
      walk_at "go"
      refine ⟨bk_i hj1 (by decide +kernel), ?_⟩
      walk_at "go"
      refine ⟨bk_i hj1 (by decide +kernel), ?_⟩
      walk_at "go"
      refine ev_newK fun p1 => ?_
      walk_at "go"
      refine ⟨k, ord, L, rows1, j, m, false, p1, _, [], n1, ord.idxOf m, rfl, app_at hj1, push_at, g1, r1, hma, by omega, by decide, Kn1.nil, ?_⟩
      intro n2 rows2 kn2 x2 g2 jj2 _ _
      rw [upd2 (at_lt hj1), set_set]
      have hj2 := set_at (r' := bk A k ord rows2) hj
      walk_at "go"
      refine ⟨bk_i (app_at hj2) (by decide +kernel), ?_⟩
      walk_at "go"
      refine ev_newK fun p2 => ?_
      walk_at "go"
      refine ⟨k, ord, L, rows2, j, m, true, p2, _, [], n1, ord.idxOf m, rfl, app_at (app_at hj2), push_at, g2, x2.rm r1, hma, by omega, by decide, Kn1.nil, ?_⟩
      intro n3 rows3 kn3 x3 g3 jj3 _ _
      rw [upd2 (by have := at_lt hj2; simp at this ⊢; omega), app_set hj2, set_set]
      walk_at "go"
      refine ev_newT fun p3 => ?_
      walk_at "go"
      have := fin (x1.tr (x2.tr x3)) g3 n2 n3 _ _ [rDK p1 kn2, rDK p2 kn3] (x3.rm jj2.rn) jj3.rn (tab_qn q) (fun e => by rw [x3.den jj2.rn, jj2.dn, jj3.dn, x2.den r1, d1, (x2.tr x3).den r1, d1, val_qu]) p3
      rw [hP]
      simpa using this
    cases q <;>
    · simp only [enc, Qn.nm]
      walk_at "go"
      refine o_ixT (atI_get (by decide) rfl) ?_
      refine sv_seq (sv_if (et_is false ?_ ?_))
      · walk_at "run"
        exact ⟨rfl, rfl⟩
      rw [if_neg (by simp)]
      walk_at "go1"
      refine sv_seq (sv_if (et_is false ?_ ?_))
      · walk_at "run"
        exact ⟨by decide +kernel, rfl⟩
      rw [if_neg (by simp)]
      walk_at "go1"
      refine sv_seq (sv_if (et_is true ?_ ?_))
      · walk_at "run"
        exact ⟨rfl, rfl⟩
      rw [if_pos rfl]
      exact main _ _ _ rfl rfl rfl
end SE
end
section
set_option Elab.async false
set_option linter.all false
set_option maxRecDepth 100000
set_option maxHeartbeats 8000000
namespace SE
open PySem PySem.Spec PyProof.Rows L2 PB
local macro_rules | `(tactic| walk_at "go1") => `(tactic| first
  | with_reducible refine sv_seq ?_ | with_reducible refine sv_ret ?_ | with_reducible refine sv_if ?_ | with_reducible refine sv_asg ?_ | with_reducible refine sv_drop ?_ | with_reducible refine sv_next ?_ | with_reducible refine sv_dput ?_
  | with_reducible refine ev_var rfl ?_ | with_reducible refine ev_int ?_ | with_reducible refine ev_str ?_ | with_reducible refine ev_bl ?_ | with_reducible refine ev_non ?_ | with_reducible refine ev_c ?_
  | with_reducible refine ev_op ?_ | with_reducible refine ev_un ?_ | with_reducible refine ev_cb ?_ | with_reducible refine ea_cons ?_ | with_reducible refine ea_nil ?_ | with_reducible refine ev_call ?_ | with_reducible refine ev_sl ?_ | with_reducible refine eo_no ?_ | with_reducible refine eo_some ?_
  | with_reducible refine ev_andV ?_ | with_reducible refine ev_orV ?_ | with_reducible refine ev_notV ?_ | with_reducible refine ev_if ?_ | with_reducible refine ev_tup ?_ | with_reducible refine ev_fld ?_ | with_reducible refine ev_meth ?_ | with_reducible refine ev_bm ?_ | with_reducible refine ev_chain ?_
  | with_reducible refine ev_dget ?_ | with_reducible refine ev_din ?_ | with_reducible refine ev_dnotin ?_ | with_reducible refine ev_maxD ?_ | with_reducible refine ev_lenSetS ?_
  | with_reducible refine et_test ?_ | with_reducible refine et_B ?_ | with_reducible refine et_and ?_ | with_reducible refine et_or ?_ | with_reducible refine et_not ?_ | with_reducible refine et_yes ?_
  | with_reducible refine o_ii ?_ | with_reducible refine o_ib ?_ | with_reducible refine o_eqI ?_ | with_reducible refine o_neI ?_ | with_reducible refine o_eqS ?_ | with_reducible refine o_neS ?_ | with_reducible refine o_neg ?_
  | with_reducible refine o_lenL ?_ | with_reducible refine o_lenT ?_
  | with_reducible refine ⟨_, rfl, ?_⟩)
local macro_rules | `(tactic| walk_at "go") => `(tactic| repeat walk_at "go1")
local macro_rules | `(tactic| walk_at "br") => `(tactic| first
  | (with_reducible refine brT ?_ ?_; focus (decide +kernel; done)) | (with_reducible refine brF ?_ ?_; focus (decide +kernel; done)) | (with_reducible refine brT ?_ ?_; focus (simp; done)) | (with_reducible refine brF ?_ ?_; focus (simp; done)))
local macro_rules | `(tactic| walk_at "run") => `(tactic| repeat (first | walk_at "go1" | with_reducible refine o_ixT (atI_get (by decide) rfl) ?_ | with_reducible refine o_inTc rfl ?_ | refine ⟨Nat.le_of_ble_eq_true rfl, ?_⟩ | walk_at "br"))
section
variable {c : Ctx} {R R2 : List Res} {ρ : Rho} {t : TS} {P : Post} {te : TE} {W : We}
theorem sv_post (h : Sv c t ρ R { P with nx := fun ρ' R' => ∃ R2, (∀ F H, ROk c.K F H R' → ∃ F', Stp F H R' F' H R2 ∧ ROk c.K F' H R2) ∧ P.nx ρ' R2 }) : Sv c t ρ R P := fun F H σ D st x d =>
  h F H σ D st x ⟨fun s st' ⟨R2, h0, w⟩ => by
    obtain ⟨F', s2, r⟩ := h0 _ _ st'.res
    exact d.nx (s.tr s2) (st'.step s2.sub r) w, d.rt, d.bk, d.ct⟩
end
/-! ### a book is made -/
def T_b_init (A : Adr) : TF := fun es R W _ => ∃ (R0 : List Res) (x dx : Addr) (ord : List Mk8), es = [.v (.ref x), .d (.list ((ord.map letter).map .str))] ∧ R = R0 ++ [rInst x A.c_Book dx []] ∧ OrdL ord ∧ ∀ k : BkA, k.b = x → W (.d .none) (R0 ++ [bk A k ord []])
def t_b_init (K : Frag) : TS :=
  (tSeq (tDrop (tCall (spT K T_ask_order) [] E0 (tCons (tVar 1) tNil)))
    (tSeq (sFld K (tVar 0) (tCB (rListOf K) (tCons (tVar 1) tNil)) "marks")
    (tSeq (sFld K (tVar 0) (tLst (tCons (tC .non) (tCons (tC .non) tNil))) "rows")
    (sFld K (tVar 0) tDNewT "places"))))

theorem rd_b_init {K : Frag} {A : Adr} (bc : BCls K A.c_Book) : Keeps K (T_b_init A) ["self", "order"] fun _ => t_b_init K := by
  rintro E es R W X ⟨R0, x, dx, ord, rfl, rfl, ho, w⟩
  unfold t_b_init
  have n1 : ¬ (("marks" : Str) = "rows") := by decide +kernel
  have n2 : ¬ (("marks" : Str) = "places") := by decide +kernel
  have n3 : ¬ (("rows" : Str) = "places") := by decide +kernel
  walk_at "go"
  refine ⟨ord, rfl, ho, ?_⟩
  refine sv_seq (sv_fld ?_)
  walk_at "go"
  refine o_listR fun m => ?_
  walk_at "go"
  refine ⟨.ref m, x, R0.length, A.c_Book, dx, [], rfl, rfl, by simp, bc.cl, bc.nm, by simp, ?_⟩
  refine sv_seq (sv_fld ?_)
  refine ev_lstR ?_
  walk_at "run"
  refine fun r => ?_
  walk_at "go"
  refine ⟨.ref r, x, R0.length, A.c_Book, dx, [("marks", .ref m)], rfl, rfl, by simp [putF], bc.cl, bc.nr, by simp, ?_⟩
  refine sv_post (sv_fld ?_)
  refine ev_newT fun p => ?_
  walk_at "go"
  refine ⟨.ref p, x, R0.length, A.c_Book, dx, [("marks", .ref m), ("rows", .ref r)], rfl, rfl, by simp [putF, n1], bc.cl, bc.np, by simp, ?_⟩
  refine ⟨R0 ++ [bk A ⟨x, dx, m, r, p⟩ ord []], fun F H ro => ?_, w ⟨x, dx, m, r, p⟩ rfl⟩
  have e : ((((R0 ++ [rInst x A.c_Book dx []] ++ [rLst m ((ord.map letter).map .str)]).set R0.length (rInst x A.c_Book dx (putF "marks" (.ref m) []))) ++ [rLst r [.none, .none]]).set R0.length (rInst x A.c_Book dx (putF "rows" (.ref r) [("marks", .ref m)])) ++ [rDT p []]).set R0.length (rInst x A.c_Book dx (putF "places" (.ref p) [("marks", .ref m), ("rows", .ref r)])) =
      R0 ++ [rInst x A.c_Book dx (bfs ⟨x, dx, m, r, p⟩), rLst m ((ord.map letter).map .str), rLst r [.none, .none], rDT p []] := by
    simp [putF, n1, n2, n3, bfs]
  rw [e] at ro ⊢
  exact mk_book bc ro
/-! ### small ones -/
def T_b_ask_room (A : Adr) : TF := fun es R W _ => ∃ k ord rows, ∃ (j n : Nat), es = [.v (.ref k.b), .d (.int n)] ∧ R[j]? = some (bk A k ord rows) ∧ Rm rows n ∧ W (.d .none) R
def t_b_ask_room (K : Frag) : TS :=
  (tIfS (tNot (tTest (tChain (rIb fun i j => decide (i ≤ j)) (rIb fun i j => decide (i < j)) (tC (.int 0)) (tVar 1) (tCB (rLenX K) (tCons (tFld K (tVar 0) "rows") tNil))))) tNever tNext)

theorem rows_len {ord : List Mk8} {rows : List PB.Row} : (bkOf ord rows).rows.length = rows.length := by simp [bkOf]
theorem rd_b_ask_room {K : Frag} {A : Adr} : Keeps K (T_b_ask_room A) ["self", "number"] fun _ => t_b_ask_room K := by
  rintro E es R W X ⟨k, ord, rows, j, n, rfl, hj, hr, w⟩
  unfold t_b_ask_room
  unfold Rm at hr
  walk_at "go"
  rw [if_pos (decide_eq_true (by omega))]
  walk_at "go"
  refine ⟨_, _, rfl, bk_rows hj, ?_⟩
  walk_at "go"
  refine o_lenRows hj ?_
  walk_at "go"
  rw [rows_len, decide_eq_true (by omega)]
  walk_at "run"
  exact w
def T_b_ask_mark (A : Adr) : TF := fun es R W _ => ∃ k ord rows, ∃ (j : Nat) (m : Mk8), es = [.v (.ref k.b), .d (.str (letter m))] ∧ R[j]? = some (bk A k ord rows) ∧ m ∈ ord ∧ W (.d .none) R
def t_b_ask_mark (K : Frag) : TS :=
  (tIfS (tTest (tOp (rIn K true) (tVar 1) (tFld K (tVar 0) "marks"))) tNever tNext)

theorem rd_b_ask_mark {K : Frag} {A : Adr} : Keeps K (T_b_ask_mark A) ["self", "mark"] fun _ => t_b_ask_mark K := by
  rintro E es R W X ⟨k, ord, rows, j, m, rfl, hj, hm, w⟩
  unfold t_b_ask_mark
  walk_at "go"
  refine ⟨_, _, rfl, bk_marks hj, ?_⟩
  refine o_inSL (ord.map letter) ?_
  have e : decide (letter m ∈ ord.map letter) = true := decide_eq_true (List.mem_map_of_mem hm)
  rw [e]
  walk_at "run"
  exact w
def T_b_order (A : Adr) : TF := fun es R W _ => ∃ k ord rows, ∃ j : Nat, es = [.v (.ref k.b)] ∧ R[j]? = some (bk A k ord rows) ∧ W (.d (.list ((ord.map letter).map .str))) R
def t_b_order (K : Frag) : TS :=
  (tRet (tCB (rListOf K) (tCons (tFld K (tVar 0) "marks") tNil)))

theorem rd_b_order {K : Frag} {A : Adr} : Keeps K (T_b_order A) ["self"] fun _ => t_b_order K := by
  rintro E es R W X ⟨k, ord, rows, j, rfl, hj, w⟩
  unfold t_b_order
  walk_at "go"
  refine ⟨_, _, rfl, bk_marks hj, ?_⟩
  walk_at "go"
  exact o_list w
def T_b_size (A : Adr) : TF := fun es R W _ => ∃ k ord rows, ∃ j : Nat, es = [.v (.ref k.b)] ∧ R[j]? = some (bk A k ord rows) ∧ W (.d (.int (rows.length + 2 : Nat))) R
def t_b_size (K : Frag) : TS :=
  (tRet (tCB (rLenX K) (tCons (tFld K (tVar 0) "rows") tNil)))

theorem rd_b_size {K : Frag} {A : Adr} : Keeps K (T_b_size A) ["self"] fun _ => t_b_size K := by
  rintro E es R W X ⟨k, ord, rows, j, rfl, hj, w⟩
  unfold t_b_size
  walk_at "go"
  refine ⟨_, _, rfl, bk_rows hj, ?_⟩
  walk_at "go"
  refine o_lenRows hj ?_
  rw [rows_len]
  exact w
def T_b_enter (A : Adr) : TF := fun es R W _ => ∃ k ord L rows, ∃ (j : Nat) (s : Sen), es = [.v (.ref k.b), .d (enc s)] ∧ R[j]? = some (bk A k ord rows) ∧ Good ord L rows ∧ ord.length ≤ 8 ∧ s.fit ∧ (∀ m ∈ s.ms, m ∈ ord) ∧ (∀ f ∈ s.subs, Gd L f) ∧
  Kept A k ord L rows s.val 0 fun n rows' => W (.d (.int n)) (R.set j (bk A k ord rows'))
def t_b_enter (K : Frag) (A : Adr) : TS :=
  (tSeq (tDrop (tCall (spT K T_ask_marks) [] E0 (tCons (tVar 1) (tCons (tFld K (tVar 0) "marks") tNil))))
    (tRet (tMeth A.c_Book "entered" (spT K (T_b_entered A 25)) [] E0 (tVar 0) (tCons (tVar 1) tNil))))

theorem rd_b_enter {K : Frag} {A : Adr} : Keeps K (T_b_enter A) ["self", "sentence"] fun _ => t_b_enter K A := by
  rintro E es R W X ⟨k, ord, L, rows, j, s, rfl, hj, g, h8, hf, hm, hs, w⟩
  unfold t_b_enter
  walk_at "go"
  refine ⟨_, _, rfl, bk_marks hj, ?_⟩
  walk_at "go"
  refine ⟨s, ord, rfl, hf, hm, ?_⟩
  walk_at "go"
  refine ⟨bk_i hj (by decide +kernel), ?_⟩
  walk_at "go"
  exact ⟨k, ord, L, rows, j, s, rfl, hj, g, h8, by have := hf.2; omega, hm, hs, w⟩
/-! ### joining -/
def T_ask_word : TF := fun es R W _ => ∃ (t : Str) (op : Bool → Bool → Bool), es = [.d (.str t)] ∧ TabOf t op ∧ t.length = 4 ∧ W (.d .none) R
def t_ask_word (K : Frag) : TS :=
  (tIfS (tOr (tTest (tOp rNe (tCB (rLenX K) (tCons (tVar 0) tNil)) (tC (.int 4)))) (tNot (tB (tCB (rAll K) (tCons (tLc (iStr (tVar 0)) (gName 1) tYes (tOp rInS (tVar 1) (tC (.str "01"))) [1]) tNil))))) tNever tNext)

theorem tab_signs {t : Str} {op : Bool → Bool → Bool} (h : TabOf t op) (h4 : t.length = 4) {i n : Nat} (hi : t.cps[i]? = some n) : n ∈ ("01" : Str).cps.toList := by
  have hl := (Array.getElem?_eq_some_iff.mp hi).1
  have h4 : t.cps.size = 4 := h4
  have e : ("01" : Str).cps.toList = [48, 49] := by decide +kernel
  rw [e]
  obtain ⟨a, b, rfl⟩ : ∃ a b : Bool, i = 2 * a.toNat + b.toNat := by
    have : i = 0 ∨ i = 1 ∨ i = 2 ∨ i = 3 := by omega
    rcases this with rfl | rfl | rfl | rfl
    · exact ⟨false, false, rfl⟩
    · exact ⟨false, true, rfl⟩
    · exact ⟨true, false, rfl⟩
    · exact ⟨true, true, rfl⟩
  have := h.at_ a b
  rw [Array.getElem?_toList, hi] at this
  cases this
  cases op a b <;> simp
theorem rd_ask_word {K : Frag} : Keeps K T_ask_word ["word", "sign"] fun _ => t_ask_word K := by
  rintro E es R W X ⟨t, op, rfl, ht, h4, w⟩
  unfold t_ask_word
  walk_at "go"
  refine o_lenS (by omega) ?_
  walk_at "go"
  rw [if_neg (by simp; omega)]
  walk_at "go"
  have h4' : t.cps.size = 4 := h4
  refine ev_lcS t (fun i acc R' => R' = R ∧ acc = (List.range i).map fun _ => .bool true) ?_ (by omega) (by simp) ?_ ?_
  · walk_at "go"
    exact ⟨rfl, rfl, rfl⟩
  · rintro i n acc R' hi ⟨rfl, rfl⟩ _
    walk_at "go"
    rw [if_pos rfl]
    walk_at "go"
    refine o_inTx ?_
    rw [decide_eq_true (tab_signs ht h4 hi)]
    refine ⟨_, rfl, rfl, ?_⟩
    rw [List.range_succ, List.map_append]
    rfl
  · rintro acc R' ⟨rfl, rfl⟩ _
    walk_at "go"
    have e : (List.range t.cps.size).map (fun _ => PyData.bool true) = ((List.range t.cps.size).map fun _ => true).map PyData.bool := by simp
    rw [e]
    refine o_all ?_
    rw [all_true]
    walk_at "run"
    exact w
def T_joined (A : Adr) : TF := fun es R W _ => ∃ k ord L rows, ∃ (j : Nat) (op : Bool → Bool → Bool) (t : Str) (a b : Nat), es = [.v (.ref k.b), .d (.str t), .d (.int a), .d (.int b)] ∧ R[j]? = some (bk A k ord rows) ∧ Good ord L rows ∧ ord.length ≤ 8 ∧ Rm rows a ∧ Rm rows b ∧ TabOf t op ∧ t.length = 4 ∧
  Gd L (fun e => op (den rows a e) (den rows b e)) ∧ Kept A k ord L rows (fun e => op (den rows a e) (den rows b e)) 0 fun n rows' => W (.d (.int n)) (R.set j (bk A k ord rows'))
/-- a join with a new dict -/
theorem join_new {A : Adr} {R : List Res} {W : We} {k : BkA} {ord : List Mk8} {L : List Fn} {rows : List PB.Row} {j : Nat} {op : Bool → Bool → Bool} {t : Str} {a b : Nat} (hj : R[j]? = some (bk A k ord rows)) (g : Good ord L rows) (h8 : ord.length ≤ 8) (ha : Rm rows a) (hb : Rm rows b) (ht : TabOf t op)
    (hf : Gd L (fun e => op (den rows a e) (den rows b e))) (w : Kept A k ord L rows (fun e => op (den rows a e) (den rows b e)) 0 fun n rows' => W (.d (.int n)) (R.set j (bk A k ord rows'))) (p : Addr) :
    T_b_join A 10 [.v (.ref k.b), .d (.str t), .d (.int a), .d (.int b), .v (.ref p)] (R ++ [rDT p []]) (fun e R1 => ∃ R0 R3, R1 = R0 ++ R3 ∧ W e R0) fun _ _ => False := by
  refine ⟨k, ord, L, rows, j, op, t, p, _, [], a, b, rfl, app_at hj, push_at, g, ha, hb, ht, by omega, by decide, Kn2.nil, hf, ?_⟩
  intro n rows3 kn x3 g3 jj _ _
  rw [upd2 (at_lt hj)]
  exact ⟨_, _, rfl, w n rows3 x3 g3 jj.rn (fun e => by rw [jj.dn, x3.den ha, x3.den hb]) (Nat.zero_le _)⟩
def t_joined (K : Frag) (A : Adr) : TS :=
  (tSeq (tDrop (tMeth A.c_Book "ask_room" (spT K (T_b_ask_room A)) [] E0 (tVar 0) (tCons (tVar 2) tNil)))
    (tSeq (tDrop (tMeth A.c_Book "ask_room" (spT K (T_b_ask_room A)) [] E0 (tVar 0) (tCons (tVar 3) tNil)))
    (tSeq (tDrop (tCall (spT K T_ask_word) [] E0 (tCons (tVar 1) tNil)))
    (tRet (tMeth A.c_Book "join" (spT K (T_b_join A 10)) [] E0 (tVar 0) (tCons (tVar 1) (tCons (tVar 2) (tCons (tVar 3) (tCons tDNewT tNil)))))))))

theorem rd_joined {K : Frag} {A : Adr} : Keeps K (T_joined A) ["book", "word", "one", "other"] fun _ => t_joined K A := by
  rintro E es R W X ⟨k, ord, L, rows, j, op, t, a, b, rfl, hj, g, h8, ha, hb, ht, h4, hf, w⟩
  unfold t_joined
  walk_at "go"
  refine ⟨bk_i hj (by decide +kernel), ?_⟩
  walk_at "go"
  refine ⟨k, ord, rows, j, a, rfl, hj, ha, ?_⟩
  walk_at "go"
  refine ⟨bk_i hj (by decide +kernel), ?_⟩
  walk_at "go"
  refine ⟨k, ord, rows, j, b, rfl, hj, hb, ?_⟩
  walk_at "go"
  refine ⟨t, op, rfl, ht, h4, ?_⟩
  refine sv_ret (ev_cut ?_)
  walk_at "go"
  refine ⟨bk_i hj (by decide +kernel), ?_⟩
  walk_at "go"
  refine ev_newT fun p => ?_
  walk_at "go"
  exact join_new hj g h8 ha hb ht hf w p
def T_turned (A : Adr) : TF := fun es R W _ => ∃ k ord L rows, ∃ (j : Nat) (a : Nat), es = [.v (.ref k.b), .d (.int a)] ∧ R[j]? = some (bk A k ord rows) ∧ Good ord L rows ∧ ord.length ≤ 8 ∧ Rm rows a ∧
  Gd L (fun e => !den rows a e) ∧ Kept A k ord L rows (fun e => !den rows a e) 0 fun n rows' => W (.d (.int n)) (R.set j (bk A k ord rows'))
def t_turned (K : Frag) (A : Adr) : TS :=
  (tSeq (tDrop (tMeth A.c_Book "ask_room" (spT K (T_b_ask_room A)) [] E0 (tVar 0) (tCons (tVar 1) tNil)))
    (tRet (tMeth A.c_Book "join" (spT K (T_b_join A 10)) [] E0 (tVar 0) (tCons (tC (.str "1100")) (tCons (tVar 1) (tCons (tC (.int 0)) (tCons tDNewT tNil)))))))

theorem rd_turned {K : Frag} {A : Adr} : Keeps K (T_turned A) ["book", "one"] fun _ => t_turned K A := by
  rintro E es R W X ⟨k, ord, L, rows, j, a, rfl, hj, g, h8, ha, hf, w⟩
  unfold t_turned
  walk_at "go"
  refine ⟨bk_i hj (by decide +kernel), ?_⟩
  walk_at "go"
  refine ⟨k, ord, rows, j, a, rfl, hj, ha, ?_⟩
  refine sv_ret (ev_cut ?_)
  walk_at "go"
  refine ⟨bk_i hj (by decide +kernel), ?_⟩
  walk_at "go"
  refine ev_newT fun p => ?_
  walk_at "go"
  exact join_new (op := fun x _ => !x) hj g h8 ha (rm0 rows) tab_not hf w p
def T_held (A : Adr) : TF := fun es R W _ => ∃ k ord L rows, ∃ (j : Nat) (a : Nat) (m : Mk8) (v : Bool), es = [.v (.ref k.b), .d (.int a), .d (.str (letter m)), .d (.int v.toNat)] ∧ R[j]? = some (bk A k ord rows) ∧ Good ord L rows ∧ ord.length ≤ 8 ∧ Rm rows a ∧ m ∈ ord ∧
  Kept A k ord L rows (fun e => den rows a (putE e m v)) 0 fun n rows' => W (.d (.int n)) (R.set j (bk A k ord rows'))
def t_held (K : Frag) (A : Adr) : TS :=
  (tSeq (tDrop (tMeth A.c_Book "ask_mark" (spT K (T_b_ask_mark A)) [] E0 (tVar 0) (tCons (tVar 2) tNil)))
    (tSeq (tDrop (tMeth A.c_Book "ask_room" (spT K (T_b_ask_room A)) [] E0 (tVar 0) (tCons (tVar 1) tNil)))
    (tSeq (tIfS (tTest (tOp (rIn K true) (tVar 3) (tTup (tCons (tC (.int 0)) (tCons (tC (.int 1)) tNil))))) tNever tNext)
    (tRet (tMeth A.c_Book "fix" (spT K (T_b_fix A 10)) [] E0 (tVar 0) (tCons (tVar 1) (tCons (tBM K "list" (rIndex K) (tFld K (tVar 0) "marks") (tCons (tVar 2) tNil)) (tCons (tVar 3) (tCons tDNewK tNil)))))))))

theorem rd_held {K : Frag} {A : Adr} : Keeps K (T_held A) ["book", "one", "mark", "value"] fun _ => t_held K A := by
  rintro E es R W X ⟨k, ord, L, rows, j, a, m, v, rfl, hj, g, h8, ha, hm, w⟩
  unfold t_held
  walk_at "go"
  refine ⟨bk_i hj (by decide +kernel), ?_⟩
  walk_at "go"
  refine ⟨k, ord, rows, j, m, rfl, hj, hm, ?_⟩
  walk_at "go"
  refine ⟨bk_i hj (by decide +kernel), ?_⟩
  walk_at "go"
  refine ⟨k, ord, rows, j, a, rfl, hj, ha, ?_⟩
  refine sv_seq (sv_if (et_is false ?_ ?_))
  · walk_at "run"
    refine o_inIT [0, 1] ?_
    walk_at "go"
    exact ⟨by cases v <;> decide +kernel, rfl⟩
  rw [if_neg (by simp)]
  refine sv_next (sv_ret (ev_cut ?_))
  walk_at "go"
  refine ⟨bk_i hj (by decide +kernel), ?_⟩
  walk_at "go"
  refine ⟨_, _, rfl, bk_marks hj, ty_list, ?_⟩
  walk_at "go"
  obtain ⟨i1, i2⟩ := idx_letter hm
  refine o_indexS i1 i2 ?_
  walk_at "go"
  refine ev_newK fun p => ?_
  walk_at "go"
  have hma : ord[ord.idxOf m]? = some m := by rw [List.getElem?_eq_getElem (List.idxOf_lt_length_of_mem hm), List.getElem_idxOf]
  refine ⟨k, ord, L, rows, j, m, v, p, _, [], a, ord.idxOf m, rfl, app_at hj, push_at, g, ha, hma, by omega, by decide, Kn1.nil, ?_⟩
  intro n rows3 kn x3 g3 jj _ _
  rw [upd2 (at_lt hj)]
  exact ⟨_, _, rfl, w n rows3 x3 g3 jj.rn (fun e => by rw [jj.dn, x3.den ha]) (Nat.zero_le _)⟩
end SE
end
section
set_option Elab.async false
set_option linter.all false
set_option maxRecDepth 100000
set_option maxHeartbeats 8000000
namespace SE
open PySem PySem.Spec PyProof.Rows L2 PB
local macro_rules | `(tactic| walk_at "go1") => `(tactic| first
  | with_reducible refine sv_seq ?_ | with_reducible refine sv_ret ?_ | with_reducible refine sv_if ?_ | with_reducible refine sv_asg ?_ | with_reducible refine sv_drop ?_ | with_reducible refine sv_next ?_ | with_reducible refine sv_dput ?_
  | with_reducible refine ev_var rfl ?_ | with_reducible refine ev_int ?_ | with_reducible refine ev_str ?_ | with_reducible refine ev_bl ?_ | with_reducible refine ev_non ?_ | with_reducible refine ev_c ?_
  | with_reducible refine ev_op ?_ | with_reducible refine ev_un ?_ | with_reducible refine ev_cb ?_ | with_reducible refine ea_cons ?_ | with_reducible refine ea_nil ?_ | with_reducible refine ev_call ?_ | with_reducible refine ev_sl ?_ | with_reducible refine eo_no ?_ | with_reducible refine eo_some ?_
  | with_reducible refine ev_andV ?_ | with_reducible refine ev_orV ?_ | with_reducible refine ev_notV ?_ | with_reducible refine ev_if ?_ | with_reducible refine ev_tup ?_ | with_reducible refine ev_fld ?_ | with_reducible refine ev_meth ?_ | with_reducible refine ev_bm ?_ | with_reducible refine ev_chain ?_
  | with_reducible refine ev_dget ?_ | with_reducible refine ev_din ?_ | with_reducible refine ev_dnotin ?_ | with_reducible refine ev_maxD ?_ | with_reducible refine ev_lenSetS ?_
  | with_reducible refine et_test ?_ | with_reducible refine et_B ?_ | with_reducible refine et_and ?_ | with_reducible refine et_or ?_ | with_reducible refine et_not ?_ | with_reducible refine et_yes ?_
  | with_reducible refine o_ii ?_ | with_reducible refine o_ib ?_ | with_reducible refine o_eqI ?_ | with_reducible refine o_neI ?_ | with_reducible refine o_eqS ?_ | with_reducible refine o_neS ?_ | with_reducible refine o_neg ?_
  | with_reducible refine o_lenL ?_ | with_reducible refine o_lenT ?_
  | with_reducible refine ⟨_, rfl, ?_⟩)
local macro_rules | `(tactic| walk_at "go") => `(tactic| repeat walk_at "go1")
local macro_rules | `(tactic| walk_at "br") => `(tactic| first
  | (with_reducible refine brT ?_ ?_; focus (decide +kernel; done)) | (with_reducible refine brF ?_ ?_; focus (decide +kernel; done)) | (with_reducible refine brT ?_ ?_; focus (simp; done)) | (with_reducible refine brF ?_ ?_; focus (simp; done)))
local macro_rules | `(tactic| walk_at "run") => `(tactic| repeat (first | walk_at "go1" | with_reducible refine o_ixT (atI_get (by decide) rfl) ?_ | with_reducible refine o_inTc rfl ?_ | refine ⟨Nat.le_of_ble_eq_true rfl, ?_⟩ | walk_at "br"))
theorem putE_comm (e : PB.Env) {m x : Mk8} (h : m ≠ x) (b c : Bool) : putE (putE e m b) x c = putE (putE e x c) m b := by
  funext y
  unfold putE
  by_cases h1 : y = x
  · subst h1
    rw [if_pos rfl, if_neg fun z => h z.symm, if_pos rfl]
  · rw [if_neg h1, if_neg h1]
def Free (m : Mk8) (rows : List PB.Row) (n : Nat) : Prop := ∀ e b, den rows n (putE e m b) = den rows n e
structure JP (m : Mk8) (at_ : Nat) (ord : List Mk8) (rows : List PB.Row) (a b n : Nat) : Prop where
  ra : Rm rows a
  rb : Rm rows b
  rn : Rm rows n
  dn : ∀ e, den rows n e = iteF m (den rows a) (den rows b) e
  lv : min at_ (min (lev ord rows a) (lev ord rows b)) ≤ lev ord rows n
theorem JP.ext {m : Mk8} {at_ : Nat} {ord : List Mk8} {rows rows' : List PB.Row} (x : Ext rows rows') {a b n : Nat} (h : JP m at_ ord rows a b n) : JP m at_ ord rows' a b n :=
  ⟨x.rm h.ra, x.rm h.rb, x.rm h.rn, fun e => by rw [x.den h.rn, h.dn]; unfold iteF; rw [x.den h.ra, x.den h.rb], by rw [x.lev ord h.ra, x.lev ord h.rb, x.lev ord h.rn]; exact h.lv⟩
/-- a room at the mark's place is no free one -/
theorem free_lev {ord : List Mk8} {rows : List PB.Row} (w : Wf ord rows) {n a : Nat} {m : Mk8} (hr : Rm rows n) (hm : ord[a]? = some m) (hf : Free m rows n) : lev ord rows n ≠ a := by
  intro h
  have hlt := (List.getElem?_eq_some_iff.mp hm).1
  obtain ⟨hmo, hmi⟩ := ord_at w.ond hm
  have n2 : ¬ n < 2 := by
    intro n2
    have : lev ord rows n = ord.length := by unfold lev; rw [if_pos n2]
    omega
  obtain ⟨m', l, hh, hx, hlv, hm', l1, l2, ne, g1, g2, hdn⟩ := w.get n2 hr
  have em : m' = m := idx_inj hm' hmo (by omega)
  subst em
  have rl : Rm rows l := by unfold Rm at *; omega
  have rh : Rm rows hh := by unfold Rm at *; omega
  refine ne (one_of w rl rh fun e => ?_)
  have e1 := hf e true
  have e2 := hf e false
  rw [hdn, putE_same, if_pos rfl, den_put w rh hmo (by omega)] at e1
  rw [hdn, putE_same, if_neg (by simp), den_put w rl hmo (by omega)] at e2
  rw [e1, e2]
def T_parted (A : Adr) (d : Nat) : TF := fun es R W _ => ∃ k ord L rows, ∃ (j : Nat) (m : Mk8) (kd : Addr) (jd : Nat) (kn : List (List Key × PD)) (at_ a b : Nat),
  es = [.v (.ref k.b), .d (.int at_), .d (.int a), .d (.int b), .v (.ref kd)] ∧ R[j]? = some (bk A k ord rows) ∧ R[jd]? = some (rDT kd kn) ∧ Good ord L rows ∧ Rm rows a ∧ Rm rows b ∧ ord[at_]? = some m ∧ Free m rows a ∧ Free m rows b ∧
  ord.length < min (lev ord rows a) (lev ord rows b) + d ∧ kn.length + 2 ^ d ≤ 1000000 ∧ Kn2 (JP m at_ ord rows) kn ∧ Gd L (iteF m (den rows a) (den rows b)) ∧
  ∀ n rows' kn', Ext rows rows' → Good ord L rows' → JP m at_ ord rows' a b n → kn'.length + 1 ≤ kn.length + 2 ^ d → Kn2 (JP m at_ ord rows') kn' → W (.d (.int n)) ((R.set j (bk A k ord rows')).set jd (rDT kd kn'))
theorem no_parted {A : Adr} {es : List Ent} {R : List Res} {W : We} {X : Addr → List Res → Prop} (h : T_parted A 0 es R W X) : False := by
  obtain ⟨k, ord, L, rows, j, m, kd, jd, kn, at_, a, b, _, _, _, g, _, _, _, _, _, h, _⟩ := h
  have := lev_le ord g.wf a
  omega
def t_parted (K : Frag) (A : Adr) (d : Nat) : TS :=
  (tSeq (tAsg (tCB rMin2I (tCons (tMeth A.c_Book "level" (spT K (T_b_level A)) [] E0 (tVar 0) (tCons (tVar 2) tNil)) (tCons (tMeth A.c_Book "level" (spT K (T_b_level A)) [] E0 (tVar 0) (tCons (tVar 3) tNil)) tNil))) (gName 5))
    (tSeq (tIfS (tOr (tTest (tOp (rIb fun i j => decide (i < j)) (tVar 1) (tVar 5))) (tTest (tOp rEq (tVar 2) (tVar 3)))) (tRet (tMeth A.c_Book "decided" (spT K (T_b_decided A)) [] E0 (tVar 0) (tCons (tVar 1) (tCons (tVar 2) (tCons (tVar 3) tNil))))) tNext)
    (tSeq (tIfS (tB (tDNotIn (tTup (tCons (tVar 2) (tCons (tVar 3) tNil))) (tVar 4))) (tSeq (tAsg (tMeth A.c_Book "goings" (spT K (T_b_goings A)) [] E0 (tVar 0) (tCons (tVar 2) (tCons (tVar 5) tNil))) (gName 6))
    (tSeq (tAsg (tMeth A.c_Book "goings" (spT K (T_b_goings A)) [] E0 (tVar 0) (tCons (tVar 3) (tCons (tVar 5) tNil))) (gName 7))
    (tSeq (tAsg (tCall (spT K (T_parted A d)) [] E0 (tCons (tVar 0) (tCons (tVar 1) (tCons (tOp (rIx K) (tVar 6) (tC (.int 0))) (tCons (tOp (rIx K) (tVar 7) (tC (.int 0))) (tCons (tVar 4) tNil)))))) (gName 8))
    (sDPut (tVar 4) (tTup (tCons (tVar 2) (tCons (tVar 3) tNil))) (tMeth A.c_Book "decided" (spT K (T_b_decided A)) [] E0 (tVar 0) (tCons (tVar 5) (tCons (tVar 8) (tCons (tCall (spT K (T_parted A d)) [] E0 (tCons (tVar 0) (tCons (tVar 1) (tCons (tOp (rIx K) (tVar 6) (tC (.int 1))) (tCons (tOp (rIx K) (tVar 7) (tC (.int 1))) (tCons (tVar 4) tNil)))))) tNil)))))))) tNext)
    (tRet (tDGet (tVar 4) (tTup (tCons (tVar 2) (tCons (tVar 3) tNil))))))))

theorem rd_parted {K : Frag} {A : Adr} (d : Nat) : Keeps K (T_parted A (d + 1)) ["book", "at", "low", "high", "known", "top", "left", "right", "first"] fun _ => t_parted K A d := by
  rintro E es R W X ⟨k, ord, L, rows, j, m, kd, jd, kn, at_, a, b, rfl, hj, hd, g, ha, hb, hm, fa, fb, hdep, hkn, hk, hf, w⟩
  unfold t_parted
  have hne := bk_dt hj hd
  have hlt := (List.getElem?_eq_some_iff.mp hm).1
  obtain ⟨hmo, hmi⟩ := ord_at g.wf.ond hm
  have pos := Nat.one_le_two_pow (n := d + 1)
  walk_at "go"
  refine ⟨bk_i hj (by decide +kernel), ?_⟩
  walk_at "go"
  refine ⟨k, ord, rows, j, a, rfl, hj, g.wf, ha, ?_⟩
  walk_at "go"
  refine ⟨bk_i hj (by decide +kernel), ?_⟩
  walk_at "go"
  refine ⟨k, ord, rows, j, b, rfl, hj, g.wf, hb, ?_⟩
  walk_at "go"
  refine o_min2 ?_
  rw [min_if]
  refine sv_seq (sv_if (et_is (decide (at_ < min (lev ord rows a) (lev ord rows b) ∨ a = b)) ?_ ?_))
  · walk_at "go"
    by_cases h1 : at_ < min (lev ord rows a) (lev ord rows b)
    · rw [if_pos (decide_eq_true (by omega))]
      exact ⟨by simp; omega, rfl⟩
    · rw [if_neg (by simp; omega)]
      walk_at "go"
      exact ⟨by apply Bool.eq_iff_iff.mpr; simp; omega, rfl⟩
  by_cases hab : at_ < min (lev ord rows a) (lev ord rows b) ∨ a = b
  · rw [if_pos (decide_eq_true hab)]
    walk_at "go"
    refine ⟨bk_i hj (by decide +kernel), ?_⟩
    walk_at "go"
    refine ⟨k, ord, L, rows, j, m, at_, a, b, min at_ (min (lev ord rows a) (lev ord rows b)), rfl, hj, g, hm, ha, hb, fun ne => ⟨?_, ?_⟩, hf, fun _ => by omega, by omega, ?_⟩
    · rcases hab with h | h
      · omega
      · exact absurd h ne
    · rcases hab with h | h
      · omega
      · exact absurd h ne
    · intro n rows' x g' r dn lv
      have := w n rows' kn x g' ⟨x.rm ha, x.rm hb, r, fun e => by rw [dn]; unfold iteF; rw [x.den ha, x.den hb], by rw [x.lev ord ha, x.lev ord hb]; exact lv⟩ (by omega) (hk.mono fun _ _ _ h => h.ext x)
      rw [set_same (set_ne hne hd)] at this
      exact this
  rw [if_neg (by simpa using hab)]
  have hba : a ≠ b := fun z => hab (.inr z)
  have hat : min (lev ord rows a) (lev ord rows b) < at_ := by
    have h1 := free_lev g.wf ha hm fa
    have h2 := free_lev g.wf hb hm fb
    have h3 : ¬ at_ < min (lev ord rows a) (lev ord rows b) := fun z => hab (.inl z)
    omega
  walk_at "run"
  refine ⟨_, dat_T (k := [.inl (a : Int), .inl (b : Int)]) hd, ?_⟩
  cases hlk : lk kn [.inl (a : Int), .inl (b : Int)] with
  | some v =>
    obtain ⟨n, rfl, jj⟩ := hk a b v hlk
    walk_at "run"
    refine ⟨_, by rw [← hlk]; exact dat_T (k := [.inl (a : Int), .inl (b : Int)]) hd, ?_⟩
    have := w n rows kn .rfl g jj (by omega) hk
    rw [set_same hj, set_same hd] at this
    exact this
  | none =>
    generalize htop : min (lev ord rows a) (lev ord rows b) = top at *
    obtain ⟨mt, hmt⟩ := get_ord (show top < ord.length by omega)
    obtain ⟨hto, hti⟩ := ord_at g.wf.ond hmt
    obtain ⟨a1, a2, a3, a4, a5, a6⟩ := go_ok g.wf ha hmt (by omega)
    obtain ⟨b1, b2, b3, b4, b5, b6⟩ := go_ok g.wf hb hmt (by omega)
    have mne : m ≠ mt := by rintro rfl; omega
    have mne2 : ∀ e c, putE e mt c m = e m := fun e c => by unfold putE; rw [if_neg mne]
    walk_at "run"
    refine ⟨bk_i hj (by decide +kernel), ?_⟩
    walk_at "go"
    refine ⟨k, ord, rows, j, a, top, rfl, hj, g.wf, ha, by omega, ?_⟩
    walk_at "go"
    refine ⟨bk_i hj (by decide +kernel), ?_⟩
    walk_at "go"
    refine ⟨k, ord, rows, j, b, top, rfl, hj, g.wf, hb, by omega, ?_⟩
    walk_at "run"
    have p2 : 2 ^ (d + 1) = 2 * 2 ^ d := by rw [Nat.pow_succ, Nat.mul_comm]
    refine ⟨k, ord, L, rows, j, m, kd, jd, kn, at_, _, _, rfl, hj, hd, g, a1, b1, hm, fun e c => by rw [a5, a5, putE_comm e mne, fa], fun e c => by rw [b5, b5, putE_comm e mne, fb], by omega, by omega, hk, (hf.put mt false).congr fun e => by unfold iteF; rw [a5, b5, mne2], ?_⟩
    intro n1 rows1 kn1 x1 g1 jj1 l1 hk1
    have hj1 : ((R.set j (bk A k ord rows1)).set jd (rDT kd kn1))[j]? = some (bk A k ord rows1) := set_ne hne.symm (set_at hj)
    have hd1 : ((R.set j (bk A k ord rows1)).set jd (rDT kd kn1))[jd]? = some (rDT kd kn1) := set_at (set_ne hne hd)
    walk_at "go"
    refine ⟨bk_i hj1 (by decide +kernel), ?_⟩
    walk_at "run"
    refine ⟨k, ord, L, rows1, j, m, kd, jd, kn1, at_, _, _, rfl, hj1, hd1, g1, x1.rm a2, x1.rm b2, hm, fun e c => by rw [x1.den a2, a6, a6, putE_comm e mne, fa], fun e c => by rw [x1.den b2, b6, b6, putE_comm e mne, fb], by rw [x1.lev ord a2, x1.lev ord b2]; omega, by omega, hk1,
      (hf.put mt true).congr fun e => by unfold iteF; rw [x1.den a2, x1.den b2, a6, b6, mne2], ?_⟩
    intro n2 rows2 kn2 x2 g2 jj2 l2 hk2
    have hj2 : ((((R.set j (bk A k ord rows1)).set jd (rDT kd kn1)).set j (bk A k ord rows2)).set jd (rDT kd kn2))[j]? = some (bk A k ord rows2) := set_ne hne.symm (set_at hj1)
    have hd2 : ((((R.set j (bk A k ord rows1)).set jd (rDT kd kn1)).set j (bk A k ord rows2)).set jd (rDT kd kn2))[jd]? = some (rDT kd kn2) := set_at (set_ne hne hd1)
    have er : ((((R.set j (bk A k ord rows1)).set jd (rDT kd kn1)).set j (bk A k ord rows2)).set jd (rDT kd kn2)) = (R.set j (bk A k ord rows2)).set jd (rDT kd kn2) := by
      rw [List.set_comm _ _ hne.symm, set_set, set_set]
    rw [er] at hj2 hd2 ⊢
    have x12 := x1.tr x2
    have v1 := jj1.lv
    have v2 := jj2.lv
    rw [x1.lev ord a1, x1.lev ord b1] at v1
    rw [x12.lev ord a2, x12.lev ord b2] at v2
    have r1 := x2.rm jj1.rn
    have q1 := x2.lev ord jj1.rn
    have hfin : ∀ e, iteF mt (den rows2 n1) (den rows2 n2) e = iteF m (den rows a) (den rows b) e := by
      intro e
      show (if e mt then den rows2 n2 e else den rows2 n1 e) = _
      rw [x2.den jj1.rn, jj1.dn, jj2.dn]
      unfold iteF
      rw [x1.den a1, x1.den b1, x12.den a2, x12.den b2, a5, b5, a6, b6]
      cases he : e mt with
      | true => rw [if_pos rfl, ← he, putE_put]
      | false => rw [if_neg (by simp), ← he, putE_put]
    walk_at "go"
    refine ⟨k, ord, L, rows2, j, mt, top, n1, n2, top, rfl, hj2, g2, hmt, r1, jj2.rn, fun _ => ⟨by omega, by omega⟩, hf.congr hfin, fun _ => Nat.le_refl _, by omega, ?_⟩
    intro n3 rows3 x3 g3 r3 d3 l3
    have x123 := x12.tr x3
    have jj3 : JP m at_ ord rows3 a b n3 := ⟨x123.rm ha, x123.rm hb, r3, fun e => by rw [d3, hfin]; unfold iteF; rw [x123.den ha, x123.den hb], by rw [x123.lev ord ha, x123.lev ord hb, htop]; omega⟩
    have hd3 : (((R.set j (bk A k ord rows2)).set jd (rDT kd kn2)).set j (bk A k ord rows3))[jd]? = some (rDT kd kn2) := set_ne hne hd2
    walk_at "run"
    refine ⟨_, dset_T (k := [.inl (a : Int), .inl (b : Int)]) (d := .int n3) hd3 (by omega), ?_⟩
    have er2 : (((R.set j (bk A k ord rows2)).set jd (rDT kd kn2)).set j (bk A k ord rows3)).set jd (rDT kd (pk kn2 [.inl (a : Int), .inl (b : Int)] (.int n3))) = (R.set j (bk A k ord rows3)).set jd (rDT kd (pk kn2 [.inl (a : Int), .inl (b : Int)] (.int n3))) := by
      rw [List.set_comm _ _ hne.symm, set_set, set_set]
    rw [er2]
    have hd4 : ((R.set j (bk A k ord rows3)).set jd (rDT kd (pk kn2 [.inl (a : Int), .inl (b : Int)] (.int n3))))[jd]? = some (rDT kd (pk kn2 [.inl (a : Int), .inl (b : Int)] (.int n3))) := set_at (set_ne hne hd)
    walk_at "run"
    have e4 : lk (pk kn2 [.inl (a : Int), .inl (b : Int)] (.int n3)) [.inl (a : Int), .inl (b : Int)] = some (.int n3) := by rw [lk_pk, if_pos rfl]
    refine ⟨_, by rw [← e4]; exact dat_T (k := [.inl (a : Int), .inl (b : Int)]) hd4, ?_⟩
    have := pk_len kn2 [.inl (a : Int), .inl (b : Int)] (.int n3)
    exact w n3 rows3 _ x123 g3 jj3 (by omega) ((hk2.mono fun _ _ _ h => h.ext x3).put jj3)
/-! ### a book moved -/
structure Moved (rows rows2 : List PB.Row) (pl : List Nat) : Prop where
  len : pl.length = rows.length + 2
  at_ : ∀ n, Rm rows n → Rm rows2 (pl.getD n 0) ∧ ∀ e, den rows2 (pl.getD n 0) e = den rows n e
def intsD (pl : List Nat) : List PD := pl.map fun n : Nat => .int n
def T_moved (A : Adr) : TF := fun es R W _ => ∃ k ord L rows, ∃ (j : Nat) (ord2 : List Mk8), es = [.v (.ref k.b), .d (.list ((ord2.map letter).map .str))] ∧ R[j]? = some (bk A k ord rows) ∧ Good ord L rows ∧ OrdL ord2 ∧ (∀ m ∈ ord, m ∈ ord2) ∧
  ∀ k2 p rows2 pl, Good ord2 L rows2 → Moved rows rows2 pl → W (.pair (.v (.ref k2.b)) (.v (.ref p))) (R ++ [bk A k2 ord2 rows2, rLst p (intsD pl)])
def t_moved (K : Frag) (A : Adr) : TS :=
  (tSeq (tAsg (tMake A.c_Book (spT K (T_b_init A)) [] E0 (tCons (tVar 1) tNil)) (gName 2))
    (tSeq (tAsg (tLst (tCons (tC (.int 0)) (tCons (tC (.int 1)) tNil))) (gName 3))
    (tSeq (tFor (iList K (tSl (rSlL K) (tFld K (tVar 0) "rows") (tPart (tC (.int 2))) tNoPart)) (gTup K 3 (gCons (gName 4) (gCons (gName 5) (gCons (gName 6) gNil)))) (tDrop (tBM K "list" rAppend (tVar 3) (tCons (tCall (spT K (T_parted A 10)) [] E0 (tCons (tVar 2) (tCons (tBM K "list" (rIndex K) (tFld K (tVar 2) "marks") (tCons (tVar 4) tNil)) (tCons (tOp (rIx K) (tVar 3) (tVar 5)) (tCons (tOp (rIx K) (tVar 3) (tVar 6)) (tCons tDNewT tNil)))))) tNil))))
    (tRet (tTup (tCons (tVar 2) (tCons (tVar 3) tNil)))))))

theorem rd_moved {K : Frag} {A : Adr} : Keeps K (T_moved A) ["book", "order", "other", "places", "mark", "low", "high"] fun _ => t_moved K A := by
  rintro E es R W X ⟨k, ord, L, rows, j, ord2, rfl, hj, g, ho, hsub, w⟩
  unfold t_moved
  have h8 := ho.le
  have hlen := g.len
  refine sv_seq (sv_asg (ev_make ?_))
  walk_at "go"
  refine fun x dx => ⟨R, x, dx, ord2, rfl, rfl, ho, fun k2 hk2 => ⟨rfl, ?_⟩⟩
  subst hk2
  refine sv_seq (sv_asg (ev_lstR ?_))
  walk_at "run"
  refine fun p => ?_
  rw [List.append_assoc]
  refine sv_seq ?_
  refine sv_forL (js := [4, 5, 6]) (rows.map fun r => rowD (letter r.1, r.2.1, r.2.2)) (fun i ρ' R' => ∃ rows2 pl x y z, R' = R ++ [bk A k2 ord2 rows2, rLst p (intsD pl)] ∧ ρ' = [some (.v (.ref k.b)), some (.d (.list ((ord2.map letter).map .str))), some (.v (.ref k2.b)), some (.v (.ref p)), x, y, z] ∧
    Good ord2 L rows2 ∧ pl.length = i + 2 ∧ ∀ n, n < i + 2 → Rm rows2 (pl.getD n 0) ∧ ∀ e, den rows2 (pl.getD n 0) e = den rows n e) ?_ ?_ ?_
  · walk_at "go"
    refine ⟨_, _, rfl, bk_rows (app_at hj), ?_⟩
    walk_at "go"
    refine o_slRows (app_at hj) ?_
    refine ⟨?_, [], [0, 1], none, none, none, by simp [intsD], rfl, ⟨wf_nil ho.nd, fun {n} hr => ?_, g.fl⟩, rfl, fun n hn => ?_⟩
    · have e := cutD_from (rowsD (bkOf ord rows)) 2 (by simp [rowsD])
      have e2 : (rowsD (bkOf ord rows)).drop 2 = rows.map fun r => rowD (letter r.1, r.2.1, r.2.2) := by simp [rowsD, bkOf]
      rw [← e2, ← e]
      rfl
    · have : n = 0 ∨ n = 1 := by unfold Rm at hr; simp at hr; omega
      rcases this with rfl | rfl
      · exact (g.inF (rm0 rows)).congr fun e => by rw [den0, den0]
      · exact (g.inF (rm1 rows)).congr fun e => by rw [den1, den1]
    · have : n = 0 ∨ n = 1 := by omega
      rcases this with rfl | rfl
      · exact ⟨rm0 _, fun e => by rw [den0]; exact den0 _ e⟩
      · exact ⟨rm1 _, fun e => by rw [den1]; exact den1 _ e⟩
  · rintro i v ρ' R' hi ⟨rows2, pl, x, y, z, rfl, rfl, g2, hpl, hpd⟩
    rw [List.getElem?_map] at hi
    cases hr : rows[i]? with
    | none => rw [hr] at hi; cases hi
    | some r =>
    rw [hr] at hi
    cases hi
    obtain ⟨m, l, h⟩ := r
    have hil := (List.getElem?_eq_some_iff.mp hr).1
    have ri : Rm rows (i + 2) := by unfold Rm; omega
    obtain ⟨m', l', h', hx, hlv, hm', l1, l2, ne, q1, q2, hdn⟩ := g.wf.get (show ¬ i + 2 < 2 by omega) ri
    have hx : rows[i]? = some (m', l', h') := by simpa using hx
    rw [hr] at hx
    cases hx
    have rl : Rm rows l := by unfold Rm at *; omega
    have rh : Rm rows h := by unfold Rm at *; omega
    obtain ⟨pl1, pl2⟩ := hpd l l1
    obtain ⟨ph1, ph2⟩ := hpd h l2
    have hmo := hsub m hm'
    obtain ⟨i1, i2⟩ := idx_letter hmo
    have hma : ord2[ord2.idxOf m]? = some m := by rw [List.getElem?_eq_getElem (List.idxOf_lt_length_of_mem hmo), List.getElem_idxOf]
    have jb : (R ++ [bk A k2 ord2 rows2, rLst p (intsD pl)])[R.length]? = some (bk A k2 ord2 rows2) := by simp
    have jp : (R ++ [bk A k2 ord2 rows2, rLst p (intsD pl)])[R.length + 1]? = some (rLst p (intsD pl)) := by rw [List.getElem?_append_right (by omega)]; simp
    have at_l : ∀ n, n < i + 2 → atI (intsD pl) (n : Int) = some (.int (pl.getD n 0 : Nat)) := fun n hn => atI_get (by omega) (by
      unfold intsD
      rw [List.getElem?_map, Int.toNat_natCast, List.getElem?_eq_getElem (by omega), List.getD_eq_getElem?_getD, List.getElem?_eq_getElem (by omega)]
      rfl)
    refine tg_tup3 ?_
    refine sv_drop (ev_cut ?_)
    walk_at "go"
    refine ⟨ty_res jp, ?_⟩
    walk_at "go"
    refine ⟨_, _, rfl, bk_marks jb, ty_list, ?_⟩
    walk_at "go"
    refine o_indexS i1 i2 ?_
    walk_at "go"
    refine o_ixR jp (at_l l l1) ?_
    walk_at "go"
    refine o_ixR jp (at_l h l2) ?_
    walk_at "go"
    refine ev_newT fun pd => ?_
    walk_at "go"
    have hden : ∀ e, iteF m (den rows2 (pl.getD l 0)) (den rows2 (pl.getD h 0)) e = den rows (i + 2) e := fun e => by
      rw [hdn]; unfold iteF; rw [pl2, ph2]
    refine ⟨k2, ord2, L, rows2, R.length, m, pd, _, [], ord2.idxOf m, _, _, rfl, app_at jb, push_at, g2, pl1, ph1, hma, fun e b => ?_, fun e b => ?_, by omega, by decide, Kn2.nil, (g.inF ri).congr hden, ?_⟩
    · rw [pl2, pl2, den_put g.wf rl hm' (by omega)]
    · rw [ph2, ph2, den_put g.wf rh hm' (by omega)]
    intro n rows3 kn x3 g3 jj _ _
    rw [upd2 (at_lt jb)]
    have es : (R ++ [bk A k2 ord2 rows2, rLst p (intsD pl)]).set R.length (bk A k2 ord2 rows3) = R ++ [bk A k2 ord2 rows3, rLst p (intsD pl)] := by simp
    rw [es]
    have jp3 : (R ++ [bk A k2 ord2 rows3, rLst p (intsD pl)])[R.length + 1]? = some (rLst p (intsD pl)) := by rw [List.getElem?_append_right (by omega)]; simp
    walk_at "go"
    refine o_append (app_at jp3) (by unfold intsD; rw [List.length_map]; omega) ?_
    rw [app_set jp3]
    refine ⟨_, _, rfl, rows3, pl ++ [n], _, _, _, ?_, rfl, g3, by simp; omega, fun n' hn' => ?_⟩
    · rw [List.set_append_right _ _ (by omega)]
      simp [intsD]
    · by_cases e : n' < i + 2
      · have e1 : (pl ++ [n]).getD n' 0 = pl.getD n' 0 := by rw [List.getD_eq_getElem?_getD, List.getD_eq_getElem?_getD, List.getElem?_append_left (by omega)]
        rw [e1]
        obtain ⟨c1, c2⟩ := hpd n' e
        exact ⟨x3.rm c1, fun e => by rw [x3.den c1]; exact c2 e⟩
      · have e1 : n' = pl.length := by omega
        subst e1
        have e2 : (pl ++ [n]).getD pl.length 0 = n := by simp
        rw [e2, hpl]
        refine ⟨jj.rn, fun e => ?_⟩
        rw [jj.dn]
        unfold iteF
        rw [x3.den pl1, x3.den ph1]
        exact hden e
  · rintro ρ' R' ⟨rows2, pl, x, y, z, rfl, rfl, g2, hpl, hpd⟩
    rw [List.length_map] at hpl hpd
    refine sv_ret (ev_tupP ?_)
    walk_at "go"
    exact ⟨_, _, rfl, w k2 p rows2 pl g2 ⟨hpl, fun n hn => hpd n hn⟩⟩
end SE
end
section
set_option Elab.async false
set_option linter.all false
set_option maxRecDepth 100000
set_option maxHeartbeats 8000000
namespace SE
open PySem PySem.Spec PyProof.Rows L2 PB
local macro_rules | `(tactic| walk_at "go1") => `(tactic| first
  | with_reducible refine sv_seq ?_ | with_reducible refine sv_ret ?_ | with_reducible refine sv_if ?_ | with_reducible refine sv_asg ?_ | with_reducible refine sv_drop ?_ | with_reducible refine sv_next ?_ | with_reducible refine sv_dput ?_
  | with_reducible refine ev_var rfl ?_ | with_reducible refine ev_int ?_ | with_reducible refine ev_str ?_ | with_reducible refine ev_bl ?_ | with_reducible refine ev_non ?_ | with_reducible refine ev_c ?_
  | with_reducible refine ev_op ?_ | with_reducible refine ev_un ?_ | with_reducible refine ev_cb ?_ | with_reducible refine ea_cons ?_ | with_reducible refine ea_nil ?_ | with_reducible refine ev_call ?_ | with_reducible refine ev_sl ?_ | with_reducible refine eo_no ?_ | with_reducible refine eo_some ?_
  | with_reducible refine ev_andV ?_ | with_reducible refine ev_orV ?_ | with_reducible refine ev_notV ?_ | with_reducible refine ev_if ?_ | with_reducible refine ev_tup ?_ | with_reducible refine ev_fld ?_ | with_reducible refine ev_meth ?_ | with_reducible refine ev_bm ?_ | with_reducible refine ev_chain ?_
  | with_reducible refine ev_dget ?_ | with_reducible refine ev_din ?_ | with_reducible refine ev_dnotin ?_ | with_reducible refine ev_maxD ?_ | with_reducible refine ev_lenSetS ?_
  | with_reducible refine et_test ?_ | with_reducible refine et_B ?_ | with_reducible refine et_and ?_ | with_reducible refine et_or ?_ | with_reducible refine et_not ?_ | with_reducible refine et_yes ?_
  | with_reducible refine o_ii ?_ | with_reducible refine o_ib ?_ | with_reducible refine o_eqI ?_ | with_reducible refine o_neI ?_ | with_reducible refine o_eqS ?_ | with_reducible refine o_neS ?_ | with_reducible refine o_neg ?_
  | with_reducible refine o_lenL ?_ | with_reducible refine o_lenT ?_
  | with_reducible refine ⟨_, rfl, ?_⟩)
local macro_rules | `(tactic| walk_at "go") => `(tactic| repeat walk_at "go1")
local macro_rules | `(tactic| walk_at "br") => `(tactic| first
  | (with_reducible refine brT ?_ ?_; focus (decide +kernel; done)) | (with_reducible refine brF ?_ ?_; focus (decide +kernel; done)) | (with_reducible refine brT ?_ ?_; focus (simp; done)) | (with_reducible refine brF ?_ ?_; focus (simp; done)))
local macro_rules | `(tactic| walk_at "run") => `(tactic| repeat (first | walk_at "go1" | with_reducible refine o_ixT (atI_get (by decide) rfl) ?_ | with_reducible refine o_inTc rfl ?_ | refine ⟨Nat.le_of_ble_eq_true rfl, ?_⟩ | walk_at "br"))
/-! ### lists that are looked at as one -/
theorem shL_int : ∀ ns : List Int, SeqAt.shaped (.list (ns.map .int)) = true := fun ns => by
  have h1 : ∀ ns : List Int, PyData.canLayAll0 (ns.map .int) = true := fun ns => by
    induction ns with
    | nil => rfl
    | cons a l ih => rw [List.map_cons, PyData.canLayAll0, ih]; rfl
  have h2 : ∀ ns : List Int, PyData.depthAll (ns.map .int) = 0 := fun ns => by
    induction ns with
    | nil => rfl
    | cons a l ih => rw [List.map_cons, PyData.depthAll, ih]; rfl
  unfold SeqAt.shaped
  rw [PyData.canLay0, PyData.depth, h1, h2]
  rfl
theorem strOk_letter (m : Mk8) : PyData.strOk (letter m) = true := by
  revert m
  decide +kernel
theorem shL_letters : ∀ l : List Mk8, SeqAt.shaped (.list ((l.map letter).map .str)) = true := fun l => by
  have h1 : ∀ l : List Mk8, PyData.canLayAll0 ((l.map letter).map .str) = true := fun l => by
    induction l with
    | nil => rfl
    | cons a l ih =>
      rw [List.map_cons, List.map_cons, PyData.canLayAll0, ih, PyData.canLay0, strOk_letter]; rfl
  have h2 : ∀ l : List Mk8, PyData.depthAll ((l.map letter).map .str) = 0 := fun l => by
    induction l with
    | nil => rfl
    | cons a l ih => rw [List.map_cons, List.map_cons, PyData.depthAll, ih]; rfl
  unfold SeqAt.shaped
  rw [PyData.canLay0, PyData.depth, h1, h2]
  rfl
theorem eqvL_int (ns ms : List Int) : PyData.eqv (.list (ns.map .int)) (.list (ms.map .int)) = decide (ns = ms) := PySem.W.Datum.eqv (α := List Int) ns ms
theorem eqvL_str (ns ms : List Str) : PyData.eqv (.list (ns.map .str)) (.list (ms.map .str)) = decide (ns = ms) := PySem.W.Datum.eqv (α := List Str) ns ms
theorem sortM_congr {l l' : List Mk8} (h : ∀ m, m ∈ l ↔ m ∈ l') : sortM l = sortM l' := List.filter_congr fun m _ => by simp [h]
def T_reordered (A : Adr) : TF := fun es R W _ => ∃ k ord L rows, ∃ (j : Nat) (ord2 : List Mk8), es = [.v (.ref k.b), .d (.list ((ord2.map letter).map .str))] ∧ R[j]? = some (bk A k ord rows) ∧ Good ord L rows ∧ OrdL ord2 ∧ (∀ m, m ∈ ord2 ↔ m ∈ ord) ∧
  ∀ k2 p rows2 pl, Good ord2 L rows2 → Moved rows rows2 pl → W (.pair (.v (.ref k2.b)) (.v (.ref p))) (R ++ [bk A k2 ord2 rows2, rLst p (intsD pl)])
def t_reordered (K : Frag) (A : Adr) : TS :=
  (tSeq (tIfS (tTest (tOp (rNeD K) (tCB (rSortedS K) (tCons (tVar 1) tNil)) (tCB (rSortedS K) (tCons (tFld K (tVar 0) "marks") tNil)))) tNever tNext)
    (tRet (tCall (spT K (T_moved A)) [] E0 (tCons (tVar 0) (tCons (tVar 1) tNil)))))

theorem rd_reordered {K : Frag} {A : Adr} : Keeps K (T_reordered A) ["book", "order"] fun _ => t_reordered K A := by
  rintro E es R W X ⟨k, ord, L, rows, j, ord2, rfl, hj, g, ho, hsub, w⟩
  unfold t_reordered
  have h8 := ho.le
  have e2 := sortM_congr hsub
  have h8b : ord.length ≤ 8 := by rw [← (sortM_perm g.wf.ond).length_eq]; exact sortM_len ord
  walk_at "go"
  refine o_sortedS (by rw [List.length_map]; omega) fun ys hp hs => ?_
  rw [letters_sorted ho.nd hp hs]
  walk_at "go"
  refine ⟨_, _, rfl, bk_marks hj, ?_⟩
  walk_at "go"
  refine o_sortedS (ss := ord.map letter) (by rw [List.length_map]; omega) fun zs hp2 hs2 => ?_
  rw [letters_sorted g.wf.ond hp2 hs2]
  refine o_neD (shL_letters _) (shL_letters _) ?_
  rw [eqvL_str, e2, decide_eq_true rfl]
  walk_at "run"
  exact ⟨k, ord, L, rows, j, ord2, rfl, hj, g, ho, fun m hm => (hsub m).mpr hm, w⟩
/-! ### what the laws draw: an order -/
theorem take_drop_perm {α : Type} (l : List α) (q : Nat) (x : α) : (l.take q ++ [x] ++ l.drop q).Perm (x :: l) := by
  rw [List.append_assoc]
  have := List.perm_middle (a := x) (l₁ := l.take q) (l₂ := l.drop q)
  rw [List.take_append_drop] at this
  exact this
theorem abc_at (k : Nat) (h : k < 8) : atI ("abcdefgh" : Str).cps.toList (k : Int) = some (97 + k) := by
  have key : ∀ k : Fin 8, ("abcdefgh" : Str).cps.toList[k.val]? = some (97 + k.val) := by decide +kernel
  refine atI_get (by omega) ?_
  rw [Int.toNat_natCast]
  exact key ⟨k, h⟩
def T_law_order : TF := fun es R W _ => ∃ (cell : Int) (limit : Nat), es = [.d (.int cell), .d (.int limit)] ∧ 1 ≤ limit ∧ limit ≤ 8 ∧ ∀ ord : List Mk8, OrdL ord → ord.length ≤ limit → W (.d (.list ((ord.map letter).map .str))) R
def t_law_order (K : Frag) : TS :=
  (tSeq (tAsg (tLst tNil) (gName 2))
    (tSeq (tFor (iRng1 (tCons (tOp (rIi fun i j => i + j) (tC (.int 1)) (tCall (spT K T_law_draw) [] E0 (tCons (tVar 0) (tCons (tC (.int 0)) (tCons (tVar 1) tNil))))) tNil)) (gName 3) (tDrop (tBM K "list" rInsertX (tVar 2) (tCons (tOp (rIc (fun _ j => 0 < j) fun i j => i % j) (tCall (spT K T_law_draw) [] E0 (tCons (tVar 0) (tCons (tOp (rIi fun i j => i + j) (tC (.int 1)) (tVar 3)) (tCons (tC (.int 5040)) tNil)))) (tOp (rIi fun i j => i + j) (tVar 3) (tC (.int 1)))) (tCons (tOp (rIx K) (tC (.str "abcdefgh")) (tVar 3)) tNil)))))
    (tRet (tVar 2))))

theorem rd_law_order {K : Frag} : Keeps K T_law_order ["cell", "limit", "found", "k"] fun _ => t_law_order K := by
  rintro E es R W X ⟨cell, limit, rfl, h1, h2, w⟩
  unfold t_law_order
  refine sv_seq (sv_asg (ev_lstR ?_))
  walk_at "run"
  refine fun p => ?_
  obtain ⟨d1, d2⟩ := draw_lt cell 0 (b := (limit : Int)) (by omega)
  refine sv_seq ?_
  refine sv_forR1 (1 + draw cell 0 limit) (fun i ρ' R' => ∃ (l : List Mk8) (x : Option Ent), R' = R ++ [rLst p ((l.map letter).map .str)] ∧ ρ' = [some (.d (.int cell)), some (.d (.int limit)), some (.v (.ref p)), x] ∧ l.Nodup ∧ l.length = i ∧ ∀ m ∈ l, m.val < i) ?_ ⟨by omega, by omega⟩ ?_ ?_
  · walk_at "go"
    refine ⟨cell, 0, limit, rfl, by omega, by omega, by omega, ?_⟩
    walk_at "go"
    exact ⟨rfl, [], none, rfl, rfl, .nil, rfl, by simp⟩
  · rintro i ρ' R' hi ⟨l, x, rfl, rfl, hn, hl, hm⟩
    have i8 : i < 8 := by omega
    walk_at "go"
    refine ⟨ty_res push_at, ?_⟩
    walk_at "go"
    refine ⟨cell, 1 + i, 5040, by rw [Int.natCast_add]; rfl, by omega, by omega, by omega, ?_⟩
    walk_at "go"
    refine o_ic (by omega) ?_
    walk_at "go"
    refine o_ixS (by decide) (abc_at i i8) ?_
    walk_at "go"
    have q1 := Int.emod_nonneg (draw cell (1 + i) 5040) (show ((i : Int) + 1) ≠ 0 by omega)
    have q2 := Int.emod_lt_of_pos (draw cell (1 + i) 5040) (show (0 : Int) < (i : Int) + 1 by omega)
    generalize draw cell (1 + i) 5040 % ((i : Int) + 1) = q at q1 q2 ⊢
    refine o_insert push_at (by simp; omega) ⟨q1, by omega⟩ ?_
    rw [push_set]
    have el : (⟨#[97 + i]⟩ : Str) = letter ⟨i, i8⟩ := by rw [letter_eq]; rfl
    have hp := take_drop_perm l q.toNat ⟨i, i8⟩
    refine ⟨l.take q.toNat ++ [⟨i, i8⟩] ++ l.drop q.toNat, _, ?_, rfl, ?_, ?_, ?_⟩
    · rw [el]
      simp [List.map_take, List.map_drop]
    · rw [hp.nodup_iff, List.nodup_cons]
      exact ⟨fun z => absurd (hm _ z) (by simp), hn⟩
    · rw [hp.length_eq, List.length_cons, hl]
    · intro m hmm
      rcases List.mem_cons.mp (hp.mem_iff.mp hmm) with rfl | z
      · show i < i + 1; omega
      · have := hm m z; omega
  · rintro ρ' R' ⟨l, x, rfl, rfl, hn, hl, hm⟩
    refine sv_freeze push_at (k := 2) rfl ?_
    rw [push_set]
    refine sv_cut ?_
    walk_at "go"
    exact w l ⟨hn, fun z => by rw [z] at hl; simp at hl; omega⟩ (by omega)
/-! ### what the laws draw: a sentence -/
structure SenOk (ord : List Mk8) (n : Nat) (s : Sen) : Prop where
  dep : s.dep ≤ n
  cnt : s.cnt + 1 ≤ 2 ^ n
  ms : ∀ m ∈ s.ms, m ∈ ord
theorem SenOk.up {ord : List Mk8} {n : Nat} {s : Sen} (h : SenOk ord n s) : SenOk ord (n + 1) s := by
  have p2 : 2 ^ (n + 1) = 2 * 2 ^ n := by rw [Nat.pow_succ, Nat.mul_comm]
  have h1 := h.dep
  have h2 := h.cnt
  exact ⟨by omega, by omega, h.ms⟩
def kindsL : List Str := ["mark", "mark", "not", "and", "or", "either", "if", "and", "or", "some", "each", "yes", "no", "mark"]
theorem kinds_at : ∀ k : Fin 14, ∃ x, kindsL[k.val]? = some x ∧ (x = "mark" ∨ x = "not" ∨ x = "yes" ∨ x = "no" ∨ (x = "some" ∨ x = "each") ∨ x = "and" ∨ x = "or" ∨ x = "either" ∨ x = "if") := by
  intro k
  have h : k.val < kindsL.length := k.isLt
  refine ⟨_, List.getElem?_eq_getElem h, ?_⟩
  have key : ∀ x ∈ kindsL, (x = "mark" ∨ x = "not" ∨ x = "yes" ∨ x = "no" ∨ (x = "some" ∨ x = "each") ∨ x = "and" ∨ x = "or" ∨ x = "either" ∨ x = "if") := by decide +kernel
  exact key _ (List.getElem_mem h)
def T_law_sentence : TF := fun es R W _ => ∃ (a : Addr) (js : Nat) (ns : List Int) (at_ many : Nat) (ord : List Mk8), es = [.v (.ref a), .d (.int at_), .d (.int many), .d (.list ((ord.map letter).map .str))] ∧ R[js]? = some (rScr a ns) ∧ OrdL ord ∧ 1 ≤ many ∧ many ≤ 30 ∧ at_ ≤ 1000 ∧ ∀ s : Sen, SenOk ord many s → W (.d (enc s)) R
def t_law_sentence (K : Frag) : TS :=
  (tSeq (tAsg (tLst (tCons (tC (.str "mark")) (tCons (tC (.str "mark")) (tCons (tC (.str "not")) (tCons (tC (.str "and")) (tCons (tC (.str "or")) (tCons (tC (.str "either")) (tCons (tC (.str "if")) (tCons (tC (.str "and")) (tCons (tC (.str "or")) (tCons (tC (.str "some")) (tCons (tC (.str "each")) (tCons (tC (.str "yes")) (tCons (tC (.str "no")) (tCons (tC (.str "mark")) tNil))))))))))))))) (gName 4))
    (tSeq (tAsg (tLst (tCons (tTup (tCons (tC (.str "mark")) (tCons (tOp (rIx K) (tVar 3) (tOp (rIc (fun _ j => 0 < j) fun i j => i % j) (tCall (spT K T_law_draw) [] E0 (tCons (tCall (spT K T_law_cell_at) [] E0 (tCons (tVar 0) (tCons (tVar 1) tNil))) (tCons (tC (.int 3)) (tCons (tC (.int 40320)) tNil)))) (tCB (rLenX K) (tCons (tVar 3) tNil)))) tNil))) tNil)) (gName 5))
    (tSeq (tFor (iRng2 (tCons (tC (.int 1)) (tCons (tVar 2) tNil))) (gName 6) (tSeq (tAsg (tCall (spT K T_law_cell_at) [] E0 (tCons (tVar 0) (tCons (tOp (rIi fun i j => i + j) (tVar 1) (tVar 6)) tNil))) (gName 7))
    (tSeq (tAsg (tOp (rIx K) (tVar 4) (tCall (spT K T_law_draw) [] E0 (tCons (tVar 7) (tCons (tC (.int 0)) (tCons (tC (.int 14)) tNil))))) (gName 8))
    (tSeq (tAsg (tOp (rIx K) (tVar 5) (tOp (rIi fun i j => i - j) (tUn rNegI (tC (.int 1))) (tOp (rIc (fun _ j => 0 < j) fun i j => i % j) (tCall (spT K T_law_draw) [] E0 (tCons (tVar 7) (tCons (tC (.int 1)) (tCons (tC (.int 2)) tNil)))) (tCB (rLenX K) (tCons (tVar 5) tNil))))) (gName 9))
    (tSeq (tAsg (tOp (rIx K) (tVar 5) (tOp (rIc (fun _ j => 0 < j) fun i j => i % j) (tCall (spT K T_law_draw) [] E0 (tCons (tVar 7) (tCons (tC (.int 2)) (tCons (tC (.int 60)) tNil)))) (tCB (rLenX K) (tCons (tVar 5) tNil)))) (gName 10))
    (tSeq (tAsg (tOp (rIx K) (tVar 3) (tOp (rIc (fun _ j => 0 < j) fun i j => i % j) (tCall (spT K T_law_draw) [] E0 (tCons (tVar 7) (tCons (tC (.int 3)) (tCons (tC (.int 40320)) tNil)))) (tCB (rLenX K) (tCons (tVar 3) tNil)))) (gName 11))
    (tIfS (tOr (tTest (tOp rEq (tVar 8) (tC (.str "yes")))) (tTest (tOp rEq (tVar 8) (tC (.str "no"))))) (tDrop (tBM K "list" rAppend (tVar 5) (tCons (tTup (tCons (tVar 8) tNil)) tNil))) (tIfS (tTest (tOp rEq (tVar 8) (tC (.str "mark")))) (tDrop (tBM K "list" rAppend (tVar 5) (tCons (tTup (tCons (tC (.str "mark")) (tCons (tVar 11) tNil))) tNil))) (tIfS (tTest (tOp rEq (tVar 8) (tC (.str "not")))) (tDrop (tBM K "list" rAppend (tVar 5) (tCons (tTup (tCons (tC (.str "not")) (tCons (tVar 9) tNil))) tNil))) (tIfS (tOr (tTest (tOp rEq (tVar 8) (tC (.str "some")))) (tTest (tOp rEq (tVar 8) (tC (.str "each"))))) (tDrop (tBM K "list" rAppend (tVar 5) (tCons (tTup (tCons (tVar 8) (tCons (tVar 11) (tCons (tVar 9) tNil)))) tNil))) (tDrop (tBM K "list" rAppend (tVar 5) (tCons (tTup (tCons (tVar 8) (tCons (tVar 10) (tCons (tVar 9) tNil)))) tNil)))))))))))))
    (tRet (tOp (rIx K) (tVar 5) (tUn rNegI (tC (.int 1))))))))

theorem at_mod {α : Type} {xs : List α} {q : Int} (h : xs ≠ []) : ∃ x ∈ xs, atI xs (q % (xs.length : Int)) = some x := by
  have hl := List.length_pos_iff.mpr h
  have q1 := Int.emod_nonneg q (show (xs.length : Int) ≠ 0 by omega)
  have q2 := Int.emod_lt_of_pos q (show (0 : Int) < (xs.length : Int) by omega)
  exact ⟨_, List.getElem_mem (by omega), atI_get q1 (List.getElem?_eq_getElem (by omega))⟩
theorem at_modn {α : Type} {xs : List α} {q : Int} (h : xs ≠ []) : ∃ x ∈ xs, atI xs (-1 - q % (xs.length : Int)) = some x := by
  have hl := List.length_pos_iff.mpr h
  have q1 := Int.emod_nonneg q (show (xs.length : Int) ≠ 0 by omega)
  have q2 := Int.emod_lt_of_pos q (show (0 : Int) < (xs.length : Int) by omega)
  exact ⟨_, List.getElem_mem (by omega), atI_neg (by omega) (by omega) (List.getElem?_eq_getElem (by omega))⟩
theorem map_at {α β : Type} {f : α → β} {xs : List α} {i : Int} {y : α} (h : atI xs i = some y) : atI (xs.map f) i = some (f y) := by
  obtain ⟨j, h1, h2⟩ := atI_map (xs := xs.map f) (by simp) h
  exact h2 _ (by rw [List.getElem?_map, h1]; rfl)
theorem rd_law_sentence {K : Frag} : Keeps K T_law_sentence ["script", "at", "many", "order", "kinds", "made", "k", "cell", "kind", "one", "other", "letter"] fun _ => t_law_sentence K := by
  rintro E es R W X ⟨a, js, ns, at_, many, ord, rfl, hjs, ho, h1, h2, hat, w⟩
  unfold t_law_sentence
  have hl8 := ho.le
  have lpos := ho.pos
  refine sv_seq (sv_asg (ev_lst ?_))
  walk_at "run"
  refine ev_lstR ?_
  walk_at "go"
  refine ⟨a, js, ns, at_, rfl, hjs, by omega, ?_⟩
  walk_at "go"
  refine ⟨_, 3, 40320, rfl, by omega, by omega, by omega, ?_⟩
  walk_at "go"
  refine o_ic (by rw [List.length_map, List.length_map]; omega) ?_
  obtain ⟨m0, hm0, e0⟩ := at_mod (xs := ord) (q := draw (lawCell ns (at_ : Int).toNat) 3 40320) ho.ne
  rw [List.length_map, List.length_map]
  refine o_ixL (map_at (map_at e0)) ?_
  walk_at "run"
  refine fun p => ?_
  refine sv_seq ?_
  refine sv_forR2 1 (many : Int) (fun i ρ' R' => ∃ (ss : List Sen) (x1 x2 x3 x4 x5 x6 : Option Ent), R' = R ++ [rLst p (ss.map enc)] ∧
    ρ' = [some (.v (.ref a)), some (.d (.int at_)), some (.d (.int many)), some (.d (.list ((ord.map letter).map .str))), some (.d (.list (kindsL.map .str))), some (.v (.ref p)), x1, x2, x3, x4, x5, x6] ∧ ss.length = i + 1 ∧ ∀ s ∈ ss, SenOk ord (i + 1) s) ?_ ⟨by omega, by omega, by omega, by omega⟩ ?_ ?_
  · walk_at "go"
    exact ⟨rfl, [.mark m0], none, none, none, none, none, none, rfl, rfl, rfl, fun s hs => by
      have : s = .mark m0 := by simpa using hs
      subst this
      exact ⟨by simp [Sen.dep], by simp [Sen.cnt], by simp [Sen.ms, hm0]⟩⟩
  · rintro i ρ' R' hi ⟨ss, x1, x2, x3, x4, x5, x6, rfl, rfl, hl, hok⟩
    have hne : ss ≠ [] := by intro z; rw [z] at hl; simp at hl
    walk_at "go"
    refine ⟨a, js, ns, _, rfl, app_at hjs, by omega, ?_⟩
    walk_at "go"
    generalize lawCell ns ((at_ : Int) + (1 + (i : Int))).toNat = cell
    refine ⟨cell, 0, 14, rfl, by omega, by omega, by omega, ?_⟩
    obtain ⟨d1, d2⟩ := draw_lt cell 0 (b := 14) (by omega)
    obtain ⟨kd, k1, k2⟩ := kinds_at ⟨(draw cell 0 14).toNat, by omega⟩
    refine o_ixL (map_at (atI_get d1 k1)) ?_
    walk_at "go"
    refine ⟨cell, 1, 2, rfl, by omega, by omega, by omega, ?_⟩
    walk_at "go"
    refine o_lenR push_at ?_
    walk_at "go"
    refine o_ic (by rw [List.length_map]; omega) ?_
    walk_at "go"
    rw [List.length_map]
    obtain ⟨one, ho1, e1⟩ := at_modn (xs := ss) (q := draw cell 1 2) hne
    refine o_ixR push_at (map_at e1) ?_
    walk_at "go"
    refine ⟨cell, 2, 60, rfl, by omega, by omega, by omega, ?_⟩
    walk_at "go"
    refine o_lenR push_at ?_
    walk_at "go"
    refine o_ic (by rw [List.length_map]; omega) ?_
    rw [List.length_map]
    obtain ⟨other, ho2, e2⟩ := at_mod (xs := ss) (q := draw cell 2 60) hne
    refine o_ixR push_at (map_at e2) ?_
    walk_at "go"
    refine ⟨cell, 3, 40320, rfl, by omega, by omega, by omega, ?_⟩
    walk_at "go"
    refine o_ic (by rw [List.length_map, List.length_map]; omega) ?_
    rw [List.length_map, List.length_map]
    obtain ⟨m, hm, e3⟩ := at_mod (xs := ord) (q := draw cell 3 40320) ho.ne
    refine o_ixL (map_at (map_at e3)) ?_
    have a1 := hok one ho1
    have a2 := hok other ho2
    have fin : ∀ (s : Sen) (ρ' : Rho) (x1 x2 x3 x4 x5 x6 : Option Ent), SenOk ord (i + 2) s → ρ' = [some (.v (.ref a)), some (.d (.int at_)), some (.d (.int many)), some (.d (.list ((ord.map letter).map .str))), some (.d (.list (kindsL.map .str))), some (.v (.ref p)), x1, x2, x3, x4, x5, x6] →
        ∃ (ss' : List Sen) (x1 x2 x3 x4 x5 x6 : Option Ent), (R ++ [rLst p (ss.map enc)]).set R.length (rLst p (ss.map enc ++ [enc s])) = R ++ [rLst p (ss'.map enc)] ∧
    ρ' = [some (.v (.ref a)), some (.d (.int at_)), some (.d (.int many)), some (.d (.list ((ord.map letter).map .str))), some (.d (.list (kindsL.map .str))), some (.v (.ref p)), x1, x2, x3, x4, x5, x6] ∧ ss'.length = i + 1 + 1 ∧ ∀ s ∈ ss', SenOk ord (i + 1 + 1) s := by
      intro s ρ' x1 x2 x3 x4 x5 x6 hs hρ
      refine ⟨ss ++ [s], x1, x2, x3, x4, x5, x6, ?_, hρ, by simp [hl], fun t ht => ?_⟩
      · rw [push_set, List.map_append]; rfl
      · rcases List.mem_append.mp ht with z | z
        · exact (hok t z).up
        · have : t = s := by simpa using z
          subst this
          exact hs
    have p2 : 2 ^ (i + 2) = 2 * 2 ^ (i + 1) := by rw [Nat.pow_succ, Nat.mul_comm]
    have p1 := Nat.one_le_two_pow (n := i)
    have p3 : 2 ^ (i + 1) = 2 * 2 ^ i := by rw [Nat.pow_succ, Nat.mul_comm]
    have b1 := a1.dep
    have b2 := a1.cnt
    have c1 := a2.dep
    have c2 := a2.cnt
    have lss : (ss.map enc).length < 10000000 := by rw [List.length_map]; omega
    have okb : ∀ o, SenOk ord (i + 2) (.bin o other one) := fun o => ⟨by simp [Sen.dep]; omega, by simp [Sen.cnt]; omega, fun x hx => by
      simp [Sen.ms] at hx
      rcases hx with z | z
      · exact a2.ms x z
      · exact a1.ms x z⟩
    have okq : ∀ q, SenOk ord (i + 2) (.qu q m one) := fun q => ⟨by simp [Sen.dep]; omega, by simp [Sen.cnt]; omega, fun x hx => by
      simp [Sen.ms] at hx
      rcases hx with z | z
      · rw [z]; exact hm
      · exact a1.ms x z⟩
    have okn : SenOk ord (i + 2) (.not one) := ⟨by simp [Sen.dep]; omega, by simp [Sen.cnt]; omega, a1.ms⟩
    have okm : SenOk ord (i + 2) (.mark m) := ⟨by simp [Sen.dep], by simp [Sen.cnt]; omega, fun x hx => by simp [Sen.ms] at hx; rw [hx]; exact hm⟩
    have oky : SenOk ord (i + 2) .yes := ⟨by simp [Sen.dep], by simp [Sen.cnt]; omega, by simp [Sen.ms]⟩
    have okz : SenOk ord (i + 2) .no := ⟨by simp [Sen.dep], by simp [Sen.cnt]; omega, by simp [Sen.ms]⟩
    rcases k2 with rfl | rfl | rfl | rfl | (rfl | rfl) | rfl | rfl | rfl | rfl
    · walk_at "run"
      refine ⟨ty_res push_at, ?_⟩
      walk_at "run"
      exact o_append push_at lss (fin (.mark m) _ _ _ _ _ _ _ okm rfl)
    · walk_at "run"
      refine ⟨ty_res push_at, ?_⟩
      walk_at "run"
      exact o_append push_at lss (fin (.not one) _ _ _ _ _ _ _ okn rfl)
    · walk_at "run"
      refine ⟨ty_res push_at, ?_⟩
      walk_at "run"
      exact o_append push_at lss (fin .yes _ _ _ _ _ _ _ oky rfl)
    · walk_at "run"
      refine ⟨ty_res push_at, ?_⟩
      walk_at "run"
      exact o_append push_at lss (fin .no _ _ _ _ _ _ _ okz rfl)
    · walk_at "run"
      refine ⟨ty_res push_at, ?_⟩
      walk_at "run"
      exact o_append push_at lss (fin (.qu .some m one) _ _ _ _ _ _ _ (okq _) rfl)
    · walk_at "run"
      refine ⟨ty_res push_at, ?_⟩
      walk_at "run"
      exact o_append push_at lss (fin (.qu .each m one) _ _ _ _ _ _ _ (okq _) rfl)
    · walk_at "run"
      refine ⟨ty_res push_at, ?_⟩
      walk_at "run"
      exact o_append push_at lss (fin (.bin .and other one) _ _ _ _ _ _ _ (okb _) rfl)
    · walk_at "run"
      refine ⟨ty_res push_at, ?_⟩
      walk_at "run"
      exact o_append push_at lss (fin (.bin .or other one) _ _ _ _ _ _ _ (okb _) rfl)
    · walk_at "run"
      refine ⟨ty_res push_at, ?_⟩
      walk_at "run"
      exact o_append push_at lss (fin (.bin .xor other one) _ _ _ _ _ _ _ (okb _) rfl)
    · walk_at "run"
      refine ⟨ty_res push_at, ?_⟩
      walk_at "run"
      exact o_append push_at lss (fin (.bin .imp other one) _ _ _ _ _ _ _ (okb _) rfl)
  · rintro ρ' R' ⟨ss, x1, x2, x3, x4, x5, x6, rfl, rfl, hl, hok⟩
    have hne : ss ≠ [] := by intro z; rw [z] at hl; simp at hl
    refine sv_ret (ev_cut ?_)
    walk_at "go"
    have hlast : atI ss (-1) = some (ss.getLast hne) := by
      have h0 := List.length_pos_iff.mpr hne
      refine atI_neg (by omega) (by omega) ?_
      have e : ((-1 : Int) + (ss.length : Int)).toNat = ss.length - 1 := by omega
      rw [e, List.getLast_eq_getElem, List.getElem?_eq_getElem]
    refine o_ixR push_at (map_at hlast) ?_
    refine ⟨R, _, rfl, ?_⟩
    have e : ((many : Int) - 1).toNat + 1 = many := by omega
    have := hok _ (List.getLast_mem hne)
    rw [e] at this
    exact w _ this
end SE
end
section
set_option Elab.async false
set_option linter.all false
set_option maxRecDepth 100000
set_option maxHeartbeats 8000000
namespace SE
open PySem PySem.Spec PyProof.Rows L2 PB
local macro_rules | `(tactic| walk_at "go1") => `(tactic| first
  | with_reducible refine sv_seq ?_ | with_reducible refine sv_ret ?_ | with_reducible refine sv_if ?_ | with_reducible refine sv_asg ?_ | with_reducible refine sv_drop ?_ | with_reducible refine sv_next ?_ | with_reducible refine sv_dput ?_
  | with_reducible refine ev_var rfl ?_ | with_reducible refine ev_int ?_ | with_reducible refine ev_str ?_ | with_reducible refine ev_bl ?_ | with_reducible refine ev_non ?_ | with_reducible refine ev_c ?_
  | with_reducible refine ev_op ?_ | with_reducible refine ev_un ?_ | with_reducible refine ev_cb ?_ | with_reducible refine ea_cons ?_ | with_reducible refine ea_nil ?_ | with_reducible refine ev_call ?_ | with_reducible refine ev_sl ?_ | with_reducible refine eo_no ?_ | with_reducible refine eo_some ?_
  | with_reducible refine ev_andV ?_ | with_reducible refine ev_orV ?_ | with_reducible refine ev_notV ?_ | with_reducible refine ev_if ?_ | with_reducible refine ev_tup ?_ | with_reducible refine ev_fld ?_ | with_reducible refine ev_meth ?_ | with_reducible refine ev_bm ?_ | with_reducible refine ev_chain ?_
  | with_reducible refine ev_dget ?_ | with_reducible refine ev_din ?_ | with_reducible refine ev_dnotin ?_ | with_reducible refine ev_maxD ?_ | with_reducible refine ev_lenSetS ?_
  | with_reducible refine et_test ?_ | with_reducible refine et_B ?_ | with_reducible refine et_and ?_ | with_reducible refine et_or ?_ | with_reducible refine et_not ?_ | with_reducible refine et_yes ?_
  | with_reducible refine o_ii ?_ | with_reducible refine o_ib ?_ | with_reducible refine o_eqI ?_ | with_reducible refine o_neI ?_ | with_reducible refine o_eqS ?_ | with_reducible refine o_neS ?_ | with_reducible refine o_neg ?_
  | with_reducible refine o_lenL ?_ | with_reducible refine o_lenT ?_
  | with_reducible refine ⟨_, rfl, ?_⟩)
local macro_rules | `(tactic| walk_at "go") => `(tactic| repeat walk_at "go1")
local macro_rules | `(tactic| walk_at "br") => `(tactic| first
  | (with_reducible refine brT ?_ ?_; focus (decide +kernel; done)) | (with_reducible refine brF ?_ ?_; focus (decide +kernel; done)) | (with_reducible refine brT ?_ ?_; focus (simp; done)) | (with_reducible refine brF ?_ ?_; focus (simp; done)))
local macro_rules | `(tactic| walk_at "run") => `(tactic| repeat (first | walk_at "go1" | with_reducible refine o_ixT (atI_get (by decide) rfl) ?_ | with_reducible refine o_inTc rfl ?_ | refine ⟨Nat.le_of_ble_eq_true rfl, ?_⟩ | walk_at "br"))
theorem intsD_eq (ns : List Nat) : intsD ns = (ns.map fun n : Nat => (n : Int)).map .int := by simp [intsD]
theorem shL_ints (ns : List Nat) : SeqAt.shaped (.list (intsD ns)) = true := by rw [intsD_eq]; exact shL_int _
theorem eqvL_ints (ns ms : List Nat) : PyData.eqv (.list (intsD ns)) (.list (intsD ms)) = decide (ns = ms) := by
  rw [intsD_eq, intsD_eq, eqvL_int]
  refine decide_eq_decide.mpr ⟨fun h => ?_, fun h => by rw [h]⟩
  exact List.map_inj_right (fun a b z => by omega) |>.mp h
theorem ints_at {ns : List Nat} {i n : Nat} (h : ns[i]? = some n) : atI (intsD ns) (i : Int) = some (.int n) := atI_get (by omega) (by rw [Int.toNat_natCast]; unfold intsD; rw [List.getElem?_map, h]; rfl)
/-- the rooms of some sentences -/
structure Ens (rows : List PB.Row) (ss : List Sen) (ns : List Nat) : Prop where
  len : ns.length = ss.length
  at_ : ∀ (i : Nat) (s : Sen) (n : Nat), ss[i]? = some s → ns[i]? = some n → Rm rows n ∧ ∀ e, den rows n e = s.val e
theorem Ens.ext {rows rows' : List PB.Row} (x : Ext rows rows') {ss : List Sen} {ns : List Nat} (h : Ens rows ss ns) : Ens rows' ss ns :=
  ⟨h.len, fun i s n h1 h2 => by obtain ⟨c1, c2⟩ := h.at_ i s n h1 h2; exact ⟨x.rm c1, fun e => by rw [x.den c1, c2]⟩⟩
theorem Ens.one {ord : List Mk8} {rows : List PB.Row} (w : Wf ord rows) {ss : List Sen} {ns ms : List Nat} (h : Ens rows ss ns) (h' : Ens rows ss ms) : ns = ms := by
  refine List.ext_getElem (h.len.trans h'.len.symm) fun i h1 h2 => ?_
  have e : i < ss.length := by rw [← h.len]; exact h1
  obtain ⟨a1, a2⟩ := h.at_ i _ _ (List.getElem?_eq_getElem e) (List.getElem?_eq_getElem h1)
  obtain ⟨b1, b2⟩ := h'.at_ i _ _ (List.getElem?_eq_getElem e) (List.getElem?_eq_getElem h2)
  exact one_of w a1 b1 fun e => by rw [a2, b2]
section
variable {c : Ctx} {R : List Res} {ρ : Rho} {W : We}
/-- [book.enter(sentence) for sentence in ..] -/
theorem ev_enters {A : Adr} {tl : TE} {i v j : Nat} {k : BkA} {ord : List Mk8} {L : List Fn} {rows : List PB.Row} (ss : List Sen) (h : Ev c tl ρ R fun e R1 => e = .d (.list (ss.map enc)) ∧ R1 = R) (hiv : v ≠ i) (hi : i < ρ.length) (hv : ρ[v]? = some (some (.v (.ref k.b))))
    (hj : R[j]? = some (bk A k ord rows)) (g : Good ord L rows) (h8 : ord.length ≤ 8) (hl : ss.length ≤ 1000) (hs : ∀ s ∈ ss, s.fit ∧ (∀ m ∈ s.ms, m ∈ ord) ∧ ∀ f ∈ s.subs, Gd L f)
    (w : ∀ rows' ns, Ext rows rows' → Good ord L rows' → Ens rows' ss ns → W (.d (.list (intsD ns))) (R.set j (bk A k ord rows'))) :
    Ev c (tLc (iList c.K tl) (gName i) tYes (tMeth A.c_Book "enter" (spT c.K (T_b_enter A)) [] E0 (tVar v) (tCons (tVar i) tNil)) [i]) ρ R W := by
  have wl : ∀ vs : List Nat, (wipeR ρ vs).length = ρ.length := fun vs => by
    have : ∀ (vs : List Nat) (ρ : Rho), (wipeR ρ vs).length = ρ.length := by
      intro vs
      induction vs with
      | nil => intro ρ; rfl
      | cons a l ih => intro ρ; simp [wipeR, ih]
    exact this vs ρ
  refine ev_lcL (js := [i]) (ss.map enc) (fun n acc R' => ∃ rows' ns, R' = R.set j (bk A k ord rows') ∧ acc = intsD ns ∧ Ext rows rows' ∧ Good ord L rows' ∧ Ens rows' (ss.take n) ns) (ev_mono h fun e R1 ⟨h1, h2⟩ => ⟨h1, rows, [], by rw [h2, set_same hj], rfl, .rfl, g, by simp, fun i s n a b => by simp at b⟩) (by rw [List.length_map]; omega) (by simp) ?_ ?_
  · rintro n x acc R' hx ⟨rows', ns, rfl, rfl, x1, g1, en⟩ _
    rw [List.getElem?_map] at hx
    cases hn : ss[n]? with
    | none => rw [hn] at hx; cases hx
    | some s =>
      rw [hn] at hx
      cases hx
      have hnl := (List.getElem?_eq_some_iff.mp hn).1
      obtain ⟨f1, f2, f3⟩ := hs s (List.mem_of_getElem? hn)
      refine tg_name (et_yes ?_)
      rw [if_pos rfl]
      have hj1 := set_at (r' := bk A k ord rows') hj
      have v1 : ((wipeR ρ [i]).set i (some (.d (enc s))))[v]? = some (some (.v (.ref k.b))) := by
        rw [List.getElem?_set_ne hiv.symm]
        simp only [wipeR]
        rw [List.getElem?_set_ne hiv.symm]; exact hv
      have v2 : ((wipeR ρ [i]).set i (some (.d (enc s))))[i]? = some (some (.d (enc s))) := List.getElem?_set_self (by rw [wl]; exact hi)
      refine ev_meth (ev_var v1 ⟨k.b, rfl, bk_i hj1 (by decide +kernel), ea_cons (ev_var v2 (ea_nil ?_))⟩)
      refine ⟨k, ord, L, rows', j, s, rfl, hj1, g1, h8, f1, f2, f3, ?_⟩
      intro n2 rows2 x2 g2 r2 d2 _
      rw [set_set]
      refine ⟨_, rfl, rows2, ns ++ [n2], rfl, by simp [intsD], x1.tr x2, g2, ?_, ?_⟩
      · have := en.len
        rw [List.length_append, this, List.take_add_one, hn, List.length_append]; rfl
      · intro q t n3 h1 h2
        have e1 := (en.ext x2)
        have el := en.len
        rw [List.length_take, Nat.min_eq_left (by omega)] at el
        rw [List.take_add_one, hn] at h1
        by_cases hq : q < n
        · rw [List.getElem?_append_left (by simp; omega)] at h1
          rw [List.getElem?_append_left (by omega)] at h2
          exact e1.at_ q t n3 h1 h2
        · have hq2 : q = n := by
            have := (List.getElem?_eq_some_iff.mp h2).1
            simp at this
            omega
          subst hq2
          rw [List.getElem?_append_right (by simp; omega)] at h1
          rw [List.getElem?_append_right (by omega), el] at h2
          simp at h2
          have : q - (ss.take q).length = 0 := by simp; omega
          rw [this] at h1
          simp at h1
          subst h1
          subst h2
          exact ⟨r2, d2⟩
  · rintro acc R' ⟨rows', ns, rfl, rfl, x1, g1, en⟩ _
    rw [List.length_map, List.take_length] at en
    exact w rows' ns x1 g1 en
/-- [places[room] for room in ..] -/
theorem ev_places {tl : TE} {i v jp : Nat} {p : Addr} (ns pl : List Nat) (h : Ev c tl ρ R fun e R1 => e = .d (.list (intsD ns)) ∧ R1 = R) (hiv : v ≠ i) (hi : i < ρ.length) (hv : ρ[v]? = some (some (.v (.ref p)))) (hj : R[jp]? = some (rLst p (intsD pl)))
    (hn : ∀ n ∈ ns, n < pl.length) (hl : ns.length ≤ 10000000) (w : W (.d (.list (intsD (ns.map fun n => pl.getD n 0)))) R) : Ev c (tLc (iList c.K tl) (gName i) tYes (tOp (rIx c.K) (tVar v) (tVar i)) [i]) ρ R W := by
  have e0 : intsD (ns.map fun n => pl.getD n 0) = ns.map fun n => PyData.int (pl.getD n 0 : Nat) := by simp [intsD]
  rw [e0] at w
  refine ev_lcLm ns (fun n : Nat => .int n) (fun n => .int (pl.getD n 0 : Nat)) (by simp) hl h ?_ w
  intro n hnn
  have v1 : ((wipeR ρ [i]).set i (some (.d (.int (n : Nat)))))[v]? = some (some (.v (.ref p))) := by
    rw [List.getElem?_set_ne hiv.symm]
    simp only [wipeR]
    rw [List.getElem?_set_ne hiv.symm]; exact hv
  have v2 : ((wipeR ρ [i]).set i (some (.d (.int (n : Nat)))))[i]? = some (some (.d (.int (n : Nat)))) := List.getElem?_set_self (by simp [wipeR]; exact hi)
  refine ev_op (ev_var v1 (ev_var v2 ?_))
  refine o_ixR hj (ints_at (i := n) (n := pl.getD n 0) ?_) ⟨rfl, rfl⟩
  have := hn n hnn
  rw [List.getElem?_eq_getElem this, List.getD_eq_getElem?_getD, List.getElem?_eq_getElem this]
  rfl
end
/-- other.insert(draw % (k + 1), order[k]) -/
theorem SenOk.le {ord : List Mk8} {n m : Nat} {s : Sen} (h : SenOk ord n s) (l : n ≤ m) : SenOk ord m s := by
  induction m with
  | zero => have : n = 0 := by omega
            subst this; exact h
  | succ m ih =>
    by_cases e : n = m + 1
    · subst e; exact h
    · exact (ih (by omega)).up
theorem SenOk.fit {ord : List Mk8} {s : Sen} (h : SenOk ord 7 s) : s.fit := by
  have h1 := h.dep
  have h2 := h.cnt
  exact ⟨by omega, by omega⟩
theorem SenOk.subs {ord : List Mk8} {s : Sen} (h : SenOk ord 7 s) : s.subs.length ≤ 127 := by
  rw [subs_len]
  have := h.cnt
  omega
theorem Moved.lt {rows rows2 : List PB.Row} {pl : List Nat} (h : Moved rows rows2 pl) {n : Nat} (hr : Rm rows n) : n < pl.length := by
  rw [h.len]; exact hr
theorem Moved.ens {rows rows2 : List PB.Row} {pl : List Nat} (h : Moved rows rows2 pl) {ss : List Sen} {ns : List Nat} (e : Ens rows ss ns) : Ens rows2 ss (ns.map fun n => pl.getD n 0) := by
  refine ⟨by rw [List.length_map]; exact e.len, fun i s n h1 h2 => ?_⟩
  rw [List.getElem?_map] at h2
  cases hn : ns[i]? with
  | none => rw [hn] at h2; cases h2
  | some x =>
    rw [hn] at h2
    cases h2
    obtain ⟨c1, c2⟩ := e.at_ i s x h1 hn
    obtain ⟨d1, d2⟩ := h.at_ x c1
    exact ⟨d1, fun e => by rw [d2, c2]⟩
end SE
end
section
set_option linter.all false
namespace SE
open PySem PySem.Spec PyProof.Rows L2 PB
theorem no_well_made {es : List Ent} {R : List Res} {W : We} {X : Addr → List Res → Prop} (h : T_well_made 0 es R W X) : False := by
  obtain ⟨s, _, h, _⟩ := h
  have := dep_pos s
  omega
theorem no_count {es : List Ent} {R : List Res} {W : We} {X : Addr → List Res → Prop} (h : T_count 0 es R W X) : False := by
  obtain ⟨s, _, h, _⟩ := h
  have := dep_pos s
  omega
theorem no_deep {es : List Ent} {R : List Res} {W : We} {X : Addr → List Res → Prop} (h : T_deep 0 es R W X) : False := by
  obtain ⟨s, _, h, _⟩ := h
  have := dep_pos s
  omega
theorem no_named {es : List Ent} {R : List Res} {W : We} {X : Addr → List Res → Prop} (h : T_named 0 es R W X) : False := by
  obtain ⟨s, _, h, _⟩ := h
  have := dep_pos s
  omega
end SE
end
section
set_option Elab.async false
set_option linter.all false
set_option maxRecDepth 100000
set_option maxHeartbeats 8000000
namespace SE
open PySem PySem.Spec PyProof.Rows L2 PB
local macro_rules | `(tactic| walk_at "go1") => `(tactic| first
  | with_reducible refine sv_seq ?_ | with_reducible refine sv_ret ?_ | with_reducible refine sv_if ?_ | with_reducible refine sv_asg ?_ | with_reducible refine sv_drop ?_ | with_reducible refine sv_next ?_ | with_reducible refine sv_dput ?_
  | with_reducible refine ev_var rfl ?_ | with_reducible refine ev_int ?_ | with_reducible refine ev_str ?_ | with_reducible refine ev_bl ?_ | with_reducible refine ev_non ?_ | with_reducible refine ev_c ?_
  | with_reducible refine ev_op ?_ | with_reducible refine ev_un ?_ | with_reducible refine ev_cb ?_ | with_reducible refine ea_cons ?_ | with_reducible refine ea_nil ?_ | with_reducible refine ev_call ?_ | with_reducible refine ev_sl ?_ | with_reducible refine eo_no ?_ | with_reducible refine eo_some ?_
  | with_reducible refine ev_andV ?_ | with_reducible refine ev_orV ?_ | with_reducible refine ev_notV ?_ | with_reducible refine ev_if ?_ | with_reducible refine ev_tup ?_ | with_reducible refine ev_fld ?_ | with_reducible refine ev_meth ?_ | with_reducible refine ev_bm ?_ | with_reducible refine ev_chain ?_
  | with_reducible refine ev_dget ?_ | with_reducible refine ev_din ?_ | with_reducible refine ev_dnotin ?_ | with_reducible refine ev_maxD ?_ | with_reducible refine ev_lenSetS ?_
  | with_reducible refine et_test ?_ | with_reducible refine et_B ?_ | with_reducible refine et_and ?_ | with_reducible refine et_or ?_ | with_reducible refine et_not ?_ | with_reducible refine et_yes ?_
  | with_reducible refine o_ii ?_ | with_reducible refine o_ib ?_ | with_reducible refine o_eqI ?_ | with_reducible refine o_neI ?_ | with_reducible refine o_eqS ?_ | with_reducible refine o_neS ?_ | with_reducible refine o_neg ?_
  | with_reducible refine o_lenL ?_ | with_reducible refine o_lenT ?_
  | with_reducible refine ⟨_, rfl, ?_⟩)
local macro_rules | `(tactic| walk_at "go") => `(tactic| repeat walk_at "go1")
local macro_rules | `(tactic| walk_at "br") => `(tactic| first
  | (with_reducible refine brT ?_ ?_; focus (decide +kernel; done)) | (with_reducible refine brF ?_ ?_; focus (decide +kernel; done)) | (with_reducible refine brT ?_ ?_; focus (simp; done)) | (with_reducible refine brF ?_ ?_; focus (simp; done)))
local macro_rules | `(tactic| walk_at "run") => `(tactic| repeat (first | walk_at "go1" | with_reducible refine o_ixT (atI_get (by decide) rfl) ?_ | with_reducible refine o_inTc rfl ?_ | refine ⟨Nat.le_of_ble_eq_true rfl, ?_⟩ | walk_at "br"))
def T_law : TF := fun es R W _ => ∃ (a : Addr) (js : Nat) (ns : List Int), es = [.v (.ref a)] ∧ R[js]? = some (rScr a ns) ∧ ∀ R', W (.d (.bool true)) R'
def t_law (K : Frag) (A : Adr) : TS :=
  (tSeq (tAsg (tCall (spT K T_law_order) [] E0 (tCons (tCall (spT K T_law_cell_at) [] E0 (tCons (tVar 0) (tCons (tC (.int 0)) tNil))) (tCons (tOp (rIx K) (tLst (tCons (tC (.int 5)) (tCons (tC (.int 8)) tNil))) (tCB rInt1 (tCons (tOp rEq (tOp (rIc (fun _ j => 0 < j) fun i j => i % j) (tCall (spT K T_law_cell_at) [] E0 (tCons (tVar 0) (tCons (tC (.int 40)) tNil))) (tC (.int 8))) (tC (.int 1))) tNil))) tNil))) (gName 1))
    (tSeq (tAsg (tMake A.c_Book (spT K (T_b_init A)) [] E0 (tCons (tVar 1) tNil)) (gName 2))
    (tSeq (tAsg (tLc (iRng1 (tCons (tC (.int 3)) tNil)) (gName 7) tYes (tCall (spT K T_law_sentence) [] E0 (tCons (tVar 0) (tCons (tOp (rIi fun i j => i + j) (tC (.int 2)) (tOp (rIc CMulW fun i j => i * j) (tC (.int 9)) (tVar 7))) (tCons (tOp (rIi fun i j => i + j) (tC (.int 1)) (tCall (spT K T_law_draw) [] E0 (tCons (tCall (spT K T_law_cell_at) [] E0 (tCons (tVar 0) (tCons (tC (.int 1)) tNil))) (tCons (tVar 7) (tCons (tC (.int 7)) tNil))))) (tCons (tVar 1) tNil))))) [7]) (gName 3))
    (tSeq (tAsg (tLc (iList K (tSl (rSlL K) (tVar 3) tNoPart (tPart (tC (.int 2))))) (gName 18) tYes (tMeth A.c_Book "enter" (spT K (T_b_enter A)) [] E0 (tVar 2) (tCons (tVar 18) tNil)) [18]) (gName 4))
    (tSeq (tAsg (tCall (spT K T_law_cell_at) [] E0 (tCons (tVar 0) (tCons (tC (.int 29)) tNil))) (gName 5))
    (tSeq (tAsg (tLst tNil) (gName 6))
    (tSeq (tFor (iRng1 (tCons (tCB (rLenX K) (tCons (tVar 1) tNil)) tNil)) (gName 7) (tDrop (tBM K "list" rInsertX (tVar 6) (tCons (tOp (rIc (fun _ j => 0 < j) fun i j => i % j) (tCall (spT K T_law_draw) [] E0 (tCons (tVar 5) (tCons (tVar 7) (tCons (tC (.int 5040)) tNil)))) (tOp (rIi fun i j => i + j) (tVar 7) (tC (.int 1)))) (tCons (tOp (rIx K) (tVar 1) (tVar 7)) tNil)))))
    (tSeq (tAsg (tOp (rIx K) (tVar 1) (tOp (rIc (fun _ j => 0 < j) fun i j => i % j) (tCall (spT K T_law_draw) [] E0 (tCons (tVar 5) (tCons (tC (.int 9)) (tCons (tC (.int 5040)) tNil)))) (tCB (rLenX K) (tCons (tVar 1) tNil)))) (gName 8))
    (tSeq (tAsg (tOp (rIx K) (tLst (tCons (tC (.str "0001")) (tCons (tC (.str "0111")) (tCons (tC (.str "0110")) (tCons (tC (.str "1101")) (tCons (tC (.str "0010")) tNil)))))) (tCall (spT K T_law_draw) [] E0 (tCons (tVar 5) (tCons (tC (.int 10)) (tCons (tC (.int 5)) tNil))))) (gName 9))
    (tSeq (tAsg (tLst (tCons (tCall (spT K (T_joined A)) [] E0 (tCons (tVar 2) (tCons (tVar 9) (tCons (tOp (rIx K) (tVar 4) (tC (.int 0))) (tCons (tOp (rIx K) (tVar 4) (tC (.int 1))) tNil))))) (tCons (tCall (spT K (T_turned A)) [] E0 (tCons (tVar 2) (tCons (tOp (rIx K) (tVar 4) (tC (.int 0))) tNil))) (tCons (tCall (spT K (T_held A)) [] E0 (tCons (tVar 2) (tCons (tOp (rIx K) (tVar 4) (tC (.int 1))) (tCons (tVar 8) (tCons (tC (.int 1)) tNil))))) tNil)))) (gName 10))
    (tSeq (tAsg (tCall (spT K (T_reordered A)) [] E0 (tCons (tVar 2) (tCons (tVar 6) tNil))) (gTup K 2 (gCons (gName 11) (gCons (gName 12) gNil))))
    (tSeq (tAsg (tLc (iList K (tVar 4)) (gName 19) tYes (tOp (rIx K) (tVar 12) (tVar 19)) [19]) (gName 13))
    (tSeq (tIfS (tTest (tOp (rNeD K) (tLc (iList K (tSl (rSlL K) (tVar 3) tNoPart (tPart (tC (.int 2))))) (gName 18) tYes (tMeth A.c_Book "enter" (spT K (T_b_enter A)) [] E0 (tVar 11) (tCons (tVar 18) tNil)) [18]) (tVar 13))) (tRet (tC (.bl false))) tNext)
    (tSeq (tAsg (tLst (tCons (tCall (spT K (T_joined A)) [] E0 (tCons (tVar 11) (tCons (tVar 9) (tCons (tOp (rIx K) (tVar 13) (tC (.int 0))) (tCons (tOp (rIx K) (tVar 13) (tC (.int 1))) tNil))))) (tCons (tCall (spT K (T_turned A)) [] E0 (tCons (tVar 11) (tCons (tOp (rIx K) (tVar 13) (tC (.int 0))) tNil))) (tCons (tCall (spT K (T_held A)) [] E0 (tCons (tVar 11) (tCons (tOp (rIx K) (tVar 13) (tC (.int 1))) (tCons (tVar 8) (tCons (tC (.int 1)) tNil))))) tNil)))) (gName 14))
    (tSeq (tIfS (tTest (tOp (rNeD K) (tVar 14) (tLc (iList K (tVar 10)) (gName 19) tYes (tOp (rIx K) (tVar 12) (tVar 19)) [19]))) (tRet (tC (.bl false))) tNext)
    (tSeq (tAsg (tMeth A.c_Book "enter" (spT K (T_b_enter A)) [] E0 (tVar 11) (tCons (tOp (rIx K) (tVar 3) (tC (.int 2))) tNil)) (gName 15))
    (tSeq (tAsg (tCall (spT K (T_reordered A)) [] E0 (tCons (tVar 11) (tCons (tVar 1) tNil))) (gTup K 2 (gCons (gName 16) (gCons (gName 17) gNil))))
    (tRet (tOp rEq (tMeth A.c_Book "enter" (spT K (T_b_enter A)) [] E0 (tVar 16) (tCons (tOp (rIx K) (tVar 3) (tC (.int 2))) tNil)) (tOp (rIx K) (tVar 17) (tVar 15)))))))))))))))))))))

def wordsL : List Str := ["0001", "0111", "0110", "1101", "0010"]
theorem words_at : ∀ k : Nat, k < 5 → ∃ t op, wordsL[k]? = some t ∧ TabOf t op ∧ t.length = 4 := by
  intro k hk
  have : k = 0 ∨ k = 1 ∨ k = 2 ∨ k = 3 ∨ k = 4 := by omega
  rcases this with rfl | rfl | rfl | rfl | rfl
  · exact ⟨_, Bop.fn .and, rfl, tab_bop .and, by decide +kernel⟩
  · exact ⟨_, Bop.fn .or, rfl, tab_bop .or, by decide +kernel⟩
  · exact ⟨_, Bop.fn .xor, rfl, tab_bop .xor, by decide +kernel⟩
  · exact ⟨_, Bop.fn .imp, rfl, tab_bop .imp, by decide +kernel⟩
  · exact ⟨_, fun a b => a && !b, rfl, ⟨by decide +kernel, by decide +kernel⟩, by decide +kernel⟩
theorem two_at {l : List Nat} (h : l.length = 2) : ∃ a b, l = [a, b] := by
  match l, h with
  | [a, b], _ => exact ⟨a, b, rfl⟩
theorem three_at {α : Type} {l : List α} (h : l.length = 3) : ∃ a b c, l = [a, b, c] := by
  match l, h with
  | [a, b, c], _ => exact ⟨a, b, c, rfl⟩
/-- joined, turned, held; what they mean -/
structure Three (rows : List PB.Row) (f1 f2 f3 : Fn) (a b c : Nat) : Prop where
  a1 : Rm rows a
  a2 : ∀ e, den rows a e = f1 e
  b1 : Rm rows b
  b2 : ∀ e, den rows b e = f2 e
  c1 : Rm rows c
  c2 : ∀ e, den rows c e = f3 e
theorem cut2 {xs : List PD} (h : 2 ≤ xs.length) : cutD xs none (some 2) = xs.take 2 := by
  show (xs.drop 0).take (HT.sIx xs.length xs.length (some ((2 : Nat) : Int)) - 0) = _
  rw [HT.sIx_nat, List.drop_zero, Nat.min_eq_left h]
def lawN : List Str := ["script", "order", "book", "some", "rooms", "cell", "other", "k", "mark", "word", "here", "hall", "places", "there", "found", "last", "back", "more", "sentence", "room"]
theorem rd_law {K : Frag} {A : Adr} : Keeps K T_law lawN fun _ => t_law K A := by
  rintro E es R W X ⟨a, js, ns, rfl, hjs, w⟩
  unfold t_law
  -- the order
  walk_at "run"
  refine ⟨a, js, ns, 0, rfl, hjs, by omega, ?_⟩
  walk_at "run"
  refine ev_lst ?_
  walk_at "run"
  refine ⟨a, js, ns, 40, rfl, hjs, by omega, ?_⟩
  walk_at "go"
  refine o_ic (by decide) ?_
  walk_at "go"
  refine o_intB ?_
  generalize decide (lawCell ns (40 : Int).toNat % 8 = 1) = b8
  refine o_ixL (d := .int ((if b8 then 8 else 5 : Nat) : Int)) (by cases b8 <;> exact atI_get (by decide) rfl) ?_
  refine ea_nil ⟨_, (if b8 then 8 else 5), rfl, by split <;> omega, by split <;> omega, fun ord ho _ => ?_⟩
  have h8 := ho.le
  -- the book
  refine sv_seq (sv_asg (ev_make ?_))
  walk_at "go"
  refine fun x dx => ⟨R, x, dx, ord, rfl, rfl, ho, fun kb hkb => ⟨rfl, ?_⟩⟩
  subst hkb
  have hs1 : (R ++ [bk A kb ord []])[js]? = some (rScr a ns) := app_at hjs
  -- the sentences
  refine sv_seq (sv_asg ?_)
  refine ev_lcR1 3 (fun i acc R' => R' = R ++ [bk A kb ord []] ∧ ∃ ss : List Sen, acc = ss.map enc ∧ ss.length = i ∧ ∀ s ∈ ss, SenOk ord 7 s) ?_ (by decide) (by simp) ?_ ?_
  · walk_at "go"
    exact ⟨rfl, rfl, [], rfl, rfl, by simp⟩
  · rintro i acc R' hi ⟨rfl, ss, rfl, hl, hok⟩ _
    walk_at "go"
    rw [if_pos rfl]
    walk_at "go"
    refine o_ic (mulW (by decide) (Nat.lt_of_le_of_lt (by omega : (i : Int).natAbs ≤ 3) (by decide))) ?_
    walk_at "go"
    refine ⟨a, js, ns, 1, rfl, hs1, by omega, ?_⟩
    walk_at "go"
    refine ⟨_, i, 7, rfl, by omega, by omega, by omega, ?_⟩
    obtain ⟨d1, d2⟩ := draw_lt (lawCell ns (1 : Int).toNat) i (b := 7) (by omega)
    walk_at "go"
    generalize draw (lawCell ns (1 : Int).toNat) i 7 = q at d1 d2 ⊢
    refine ⟨a, js, ns, 2 + 9 * i, (1 + q).toNat, ord, ?_, hs1, ho, by omega, by omega, by omega, fun s hs => ⟨_, rfl, rfl, ss ++ [s], by simp, by simp [hl], fun t ht => ?_⟩⟩
    · rw [show (((1 + q).toNat : Nat) : Int) = 1 + q by omega]
      simp
    · rcases List.mem_append.mp ht with z | z
      · exact hok t z
      · have : t = s := by simpa using z
        subst this
        exact hs.le (by omega)
  rintro acc R' ⟨rfl, ss, rfl, hl, hok⟩ _
  obtain ⟨s0, s1, s2, rfl⟩ := three_at hl
  have k0 := hok s0 (by simp)
  have k1 := hok s1 (by simp)
  have k2 := hok s2 (by simp)
  -- the word is drawn later, but what it makes is among the functions from here on
  have d5 := draw_lt (lawCell ns (29 : Int).toNat) 10 (b := 5) (by omega)
  obtain ⟨word, op, hw, hop, hw4⟩ := words_at (draw (lawCell ns (29 : Int).toNat) 10 5).toNat (by omega)
  let L : List Fn := (fun _ => false) :: (fun _ => true) :: (fun e => op (s0.val e) (s1.val e)) :: (fun e => !s0.val e) :: (s0.subs ++ (s1.subs ++ s2.subs))
  have hLl : L.length ≤ 1000 := by
    have := k0.subs
    have := k1.subs
    have := k2.subs
    simp only [L, List.length_cons, List.length_append]
    omega
  have g0 : Good ord L [] := ⟨wf_nil ho.nd, fun {n} hr => by
    have : n = 0 ∨ n = 1 := by unfold Rm at hr; simp at hr; omega
    rcases this with rfl | rfl
    · exact (Gd.self (f := fun _ => false) (by simp [L])).congr fun e => den0 [] e
    · exact (Gd.self (f := fun _ => true) (by simp [L])).congr fun e => den1 [] e, hLl⟩
  have hfit : ∀ s ∈ [s0, s1, s2], s.fit ∧ (∀ m ∈ s.ms, m ∈ ord) ∧ ∀ f ∈ s.subs, Gd L f := fun s hs => by
    have hk := hok s hs
    refine ⟨hk.fit, hk.ms, fun f hf => Gd.self ?_⟩
    simp only [List.mem_cons, List.not_mem_nil, or_false] at hs
    simp only [L, List.mem_cons, List.mem_append]
    rcases hs with rfl | rfl | rfl
    · exact .inr (.inr (.inr (.inr (.inl hf))))
    · exact .inr (.inr (.inr (.inr (.inr (.inl hf)))))
    · exact .inr (.inr (.inr (.inr (.inr (.inr hf)))))
  have gop : Gd L fun e => op (s0.val e) (s1.val e) := Gd.self (by simp [L])
  have gnot : Gd L fun e => !s0.val e := Gd.self (by simp [L])
  clear_value L
  have hb1 : (R ++ [bk A kb ord []])[R.length]? = some (bk A kb ord []) := push_at
  -- two are entered
  refine sv_seq (sv_asg ?_)
  refine ev_enters (L := L) (rows := []) [s0, s1] ?_ (by decide) (show 18 < 20 by decide) rfl hb1 g0 h8 (by simp) (fun s hs => hfit s (by simp at hs ⊢; rcases hs with h | h <;> simp [h])) ?_
  · walk_at "go"
    refine o_slL ?_
    rw [cut2 (by simp)]
    exact ⟨rfl, rfl⟩
  intro rows1 rs x1 g1 en1
  rw [push_set]
  obtain ⟨r0, r1, rfl⟩ := two_at en1.len
  obtain ⟨e0a, e0b⟩ := en1.at_ 0 s0 r0 rfl rfl
  obtain ⟨e1a, e1b⟩ := en1.at_ 1 s1 r1 rfl rfl
  walk_at "go"
  refine ⟨a, js, ns, 29, rfl, app_at hjs, by omega, ?_⟩
  generalize lawCell ns (29 : Int).toNat = cell at *
  -- another order
  refine sv_seq (sv_asg (ev_lstR ?_))
  walk_at "run"
  refine fun po => ?_
  refine sv_seq ?_
  refine sv_forR1 (ord.length : Int) (fun i ρ' R' => ∃ (l : List Mk8) (x : Option Ent), R' = R ++ [bk A kb ord rows1] ++ [rLst po ((l.map letter).map .str)] ∧
    ρ' = [some (.v (.ref a)), some (.d (.list ((ord.map letter).map .str))), some (.v (.ref kb.b)), some (.d (.list ([s0, s1, s2].map enc))), some (.d (.list (intsD [r0, r1]))), some (.d (.int cell)), some (.v (.ref po)), x, none, none, none, none, none, none, none, none, none, none, none, none] ∧ l.Perm (ord.take i)) ?_ ⟨by omega, by omega⟩ ?_ ?_
  · walk_at "go"
    exact ⟨by rw [List.length_map, List.length_map], [], none, rfl, rfl, .refl _⟩
  · rintro i ρ' R' hi ⟨l, x, rfl, rfl, hp⟩
    have hil : i < ord.length := by omega
    walk_at "go"
    refine ⟨ty_res push_at, ?_⟩
    walk_at "go"
    refine ⟨cell, i, 5040, rfl, by omega, by omega, by omega, ?_⟩
    walk_at "go"
    refine o_ic (by omega) ?_
    walk_at "go"
    refine o_ixL (d := .str (letter ord[i])) (atI_get (by omega) (by simp [hil])) ?_
    walk_at "go"
    have q1 := Int.emod_nonneg (draw cell i 5040) (show ((i : Int) + 1) ≠ 0 by omega)
    have q2 := Int.emod_lt_of_pos (draw cell i 5040) (show (0 : Int) < (i : Int) + 1 by omega)
    generalize draw cell i 5040 % ((i : Int) + 1) = q at q1 q2 ⊢
    have hll := hp.length_eq
    rw [List.length_take, Nat.min_eq_left (by omega)] at hll
    refine o_insert push_at (by simp; omega) ⟨q1, by omega⟩ ?_
    rw [push_set]
    refine ⟨l.take q.toNat ++ [ord[i]] ++ l.drop q.toNat, _, by simp [List.map_take, List.map_drop], rfl, ?_⟩
    refine (take_drop_perm l q.toNat ord[i]).trans ?_
    rw [List.take_add_one, List.getElem?_eq_getElem hil]
    exact (List.Perm.cons _ hp).trans (List.perm_append_comm (l₁ := [ord[i]]) (l₂ := ord.take i))
  rintro ρ' R' ⟨other, x, rfl, rfl, hp⟩
  rw [Int.toNat_natCast, List.take_length] at hp
  have ho2 : OrdL other := ⟨hp.nodup_iff.mpr ho.nd, fun z => by rw [z] at hp; exact ho.ne hp.symm.eq_nil⟩
  refine sv_freeze push_at (k := 6) rfl ?_
  rw [push_set]
  refine sv_cut ?_
  -- a mark, a word
  walk_at "go"
  refine ⟨cell, 9, 5040, rfl, by omega, by omega, by omega, ?_⟩
  walk_at "go"
  refine o_ic (by rw [List.length_map, List.length_map]; have := ho.pos; omega) ?_
  rw [List.length_map, List.length_map]
  obtain ⟨mk, hmk, emk⟩ := at_mod (xs := ord) (q := draw cell 9 5040) ho.ne
  refine o_ixL (map_at (map_at emk)) ?_
  refine sv_seq (sv_asg (ev_op (ev_lst ?_)))
  walk_at "run"
  refine ⟨cell, 10, 5, rfl, by omega, by omega, by omega, ?_⟩
  refine o_ixL (d := .str word) (atI_get d5.1 (show (wordsL.map PyData.str)[(draw cell 10 5).toNat]? = _ by rw [List.getElem?_map, hw]; rfl)) ?_
  -- here
  have hb2 : (R ++ [bk A kb ord rows1])[R.length]? = some (bk A kb ord rows1) := push_at
  refine sv_seq (sv_asg (ev_lst ?_))
  walk_at "go"
  refine o_ixL (ints_at (ns := [r0, r1]) (i := 0) rfl) ?_
  walk_at "go"
  refine o_ixL (ints_at (ns := [r0, r1]) (i := 1) rfl) ?_
  walk_at "go"
  refine ⟨kb, ord, L, rows1, R.length, op, word, r0, r1, rfl, hb2, g1, h8, e0a, e1a, hop, hw4, gop.congr fun e => by rw [e0b, e1b], ?_⟩
  intro h0 rows2 x2 g2 c0a c0b _
  rw [push_set]
  have hb3 : (R ++ [bk A kb ord rows2])[R.length]? = some (bk A kb ord rows2) := push_at
  walk_at "go"
  refine o_ixL (ints_at (ns := [r0, r1]) (i := 0) rfl) ?_
  walk_at "go"
  refine ⟨kb, ord, L, rows2, R.length, r0, rfl, hb3, g2, h8, x2.rm e0a, gnot.congr fun e => by rw [x2.den e0a, e0b], ?_⟩
  intro h1 rows3 x3 g3 c1a c1b _
  rw [push_set]
  have hb4 : (R ++ [bk A kb ord rows3])[R.length]? = some (bk A kb ord rows3) := push_at
  walk_at "go"
  refine o_ixL (ints_at (ns := [r0, r1]) (i := 1) rfl) ?_
  walk_at "go"
  refine ⟨kb, ord, L, rows3, R.length, r1, mk, true, rfl, hb4, g3, h8, x3.rm (x2.rm e1a), hmk, ?_⟩
  intro h2 rows4 x4 g4 c2a c2b _
  rw [push_set]
  have hb5 : (R ++ [bk A kb ord rows4])[R.length]? = some (bk A kb ord rows4) := push_at
  have x24 := x2.tr (x3.tr x4)
  walk_at "run"
  -- the book with the other order
  refine sv_asgP ?_
  walk_at "go"
  refine ⟨kb, ord, L, rows4, R.length, other, rfl, hb5, g4, ho2, fun m => hp.mem_iff, ?_⟩
  intro kh pp hrows pl gh mv
  refine ⟨_, _, rfl, ?_⟩
  have en4 : Ens rows4 [s0, s1] [r0, r1] := en1.ext x24
  have jh : (R ++ [bk A kb ord rows4] ++ [bk A kh other hrows, rLst pp (intsD pl)])[R.length + 1]? = some (bk A kh other hrows) := by simp
  have jp : (R ++ [bk A kb ord rows4] ++ [bk A kh other hrows, rLst pp (intsD pl)])[R.length + 2]? = some (rLst pp (intsD pl)) := by
    rw [List.getElem?_append_right (by simp)]; simp
  have f0 := mv.lt (x24.rm e0a)
  have f1 := mv.lt (x24.rm e1a)
  have en5 := mv.ens en4
  refine sv_seq (sv_asg ?_)
  refine ev_places [r0, r1] pl ?_ (by decide) (show 19 < 20 by decide) rfl jp (fun n hn => by simp at hn; rcases hn with rfl | rfl <;> assumption) (by simp) ?_
  · walk_at "go"
    exact ⟨rfl, rfl⟩
  have n8 := ho2.le
  refine sv_seq (sv_if (et_test (ev_op ?_)))
  refine ev_enters (L := L) (rows := hrows) [s0, s1] ?_ (by decide) (show 18 < 20 by decide) rfl jh gh n8 (by simp) (fun s hs => by
    obtain ⟨z1, z2, z3⟩ := hfit s (by simp at hs ⊢; rcases hs with h | h <;> simp [h])
    exact ⟨z1, fun m hm => hp.mem_iff.mpr (z2 m hm), z3⟩) ?_
  · walk_at "go"
    refine o_slL ?_
    rw [cut2 (by simp)]
    exact ⟨rfl, rfl⟩
  intro hrows1 hs xh gh1 enh
  have same := (enh.one gh1.wf (en5.ext xh))
  walk_at "go"
  refine o_neD (shL_ints _) (shL_ints _) ?_
  rw [eqvL_ints, decide_eq_true same]
  have es : ∀ hr, (R ++ [bk A kb ord rows4] ++ [bk A kh other hrows, rLst pp (intsD pl)]).set (R.length + 1) (bk A kh other hr) = R ++ [bk A kb ord rows4] ++ [bk A kh other hr, rLst pp (intsD pl)] := fun hr => by
    rw [List.set_append_right _ _ (by simp)]; simp
  have es2 : ∀ hr hr', (R ++ [bk A kb ord rows4] ++ [bk A kh other hr, rLst pp (intsD pl)]).set (R.length + 1) (bk A kh other hr') = R ++ [bk A kb ord rows4] ++ [bk A kh other hr', rLst pp (intsD pl)] := fun hr hr' => by
    rw [List.set_append_right _ _ (by simp)]; simp
  have ih : ∀ hr, (R ++ [bk A kb ord rows4] ++ [bk A kh other hr, rLst pp (intsD pl)])[R.length + 1]? = some (bk A kh other hr) := fun hr => by simp
  have ip : ∀ hr, (R ++ [bk A kb ord rows4] ++ [bk A kh other hr, rLst pp (intsD pl)])[R.length + 2]? = some (rLst pp (intsD pl)) := fun hr => by
    rw [List.getElem?_append_right (by simp)]; simp
  rw [es]
  obtain ⟨t0a, t0b⟩ := (en5.ext xh).at_ 0 s0 (pl.getD r0 0) rfl rfl
  obtain ⟨t1a, t1b⟩ := (en5.ext xh).at_ 1 s1 (pl.getD r1 0) rfl rfl
  generalize ht0 : pl.getD r0 0 = t0 at *
  generalize ht1 : pl.getD r1 0 = t1 at *
  have eT : intsD ([r0, r1].map fun n => pl.getD n 0) = intsD [t0, t1] := by rw [← ht0, ← ht1]; rfl
  rw [eT]
  walk_at "run"
  refine ev_lst ?_
  walk_at "go"
  refine o_ixL (ints_at (ns := [t0, t1]) (i := 0) rfl) ?_
  walk_at "go"
  refine o_ixL (ints_at (ns := [t0, t1]) (i := 1) rfl) ?_
  walk_at "go"
  refine ⟨kh, other, L, hrows1, R.length + 1, op, word, t0, t1, rfl, ih _, gh1, n8, t0a, t1a, hop, hw4, gop.congr fun e => by rw [t0b, t1b], ?_⟩
  intro j0 hrows2 xh2 gh2 j0a j0b _
  rw [es2]
  walk_at "go"
  refine o_ixL (ints_at (ns := [t0, t1]) (i := 0) rfl) ?_
  walk_at "go"
  refine ⟨kh, other, L, hrows2, R.length + 1, t0, rfl, ih _, gh2, n8, xh2.rm t0a, gnot.congr fun e => by rw [xh2.den t0a, t0b], ?_⟩
  intro j1 hrows3 xh3 gh3 j1a j1b _
  rw [es2]
  walk_at "go"
  refine o_ixL (ints_at (ns := [t0, t1]) (i := 1) rfl) ?_
  walk_at "go"
  refine ⟨kh, other, L, hrows3, R.length + 1, t1, mk, true, rfl, ih _, gh3, n8, xh3.rm (xh2.rm t1a), hp.mem_iff.mpr hmk, ?_⟩
  intro j2 hrows4 xh4 gh4 j2a j2b _
  rw [es2]
  walk_at "run"
  have xx : Ext hrows hrows4 := xh.tr (xh2.tr (xh3.tr xh4))
  have v0 := mv.at_ h0 ((x3.tr x4).rm c0a)
  have v1 := mv.at_ h1 (x4.rm c1a)
  have v2 := mv.at_ h2 c2a
  refine ev_places [h0, h1, h2] pl ?_ (by decide) (show 19 < 20 by decide) rfl (ip _) (fun n hn => by
    simp at hn
    rcases hn with rfl | rfl | rfl
    · exact mv.lt ((x3.tr x4).rm c0a)
    · exact mv.lt (x4.rm c1a)
    · exact mv.lt c2a) (by simp) ?_
  · walk_at "go"
    exact ⟨rfl, rfl⟩
  dsimp only at c0b c1b c2b j0b j1b j2b
  have q0 : j0 = pl.getD h0 0 := one_of gh4.wf ((xh3.tr xh4).rm j0a) (xx.rm v0.1) fun e => by
    rw [(xh3.tr xh4).den j0a, j0b, t0b, t1b, xx.den v0.1, v0.2, (x3.tr x4).den c0a, c0b, e0b, e1b]
  have q1 : j1 = pl.getD h1 0 := one_of gh4.wf (xh4.rm j1a) (xx.rm v1.1) fun e => by
    rw [xh4.den j1a, j1b, xh2.den t0a, t0b, xx.den v1.1, v1.2, x4.den c1a, c1b, x2.den e0a, e0b]
  have q2 : j2 = pl.getD h2 0 := one_of gh4.wf j2a (xx.rm v2.1) fun e => by
    rw [j2b, xh3.den (xh2.rm t1a), xh2.den t1a, t1b, xx.den v2.1, v2.2, c2b, x3.den (x2.rm e1a), x2.den e1a, e1b]
  refine o_neD (show SeqAt.shaped (.list (intsD [j0, j1, j2])) = true from shL_ints _) (shL_ints _) ?_
  have eJ : PyData.eqv (.list [.int (j0 : Nat), .int (j1 : Nat), .int (j2 : Nat)]) (.list (intsD ([h0, h1, h2].map fun n => pl.getD n 0))) = true := by
    rw [show ([.int (j0 : Nat), .int (j1 : Nat), .int (j2 : Nat)] : List PD) = intsD [j0, j1, j2] from rfl, eqvL_ints, decide_eq_true_eq, q0, q1, q2]
    rfl
  rw [eJ]
  walk_at "run"
  -- the third sentence
  refine ⟨bk_i (ih _) (by decide +kernel), ?_⟩
  walk_at "go"
  refine o_ixL (d := enc s2) (atI_get (by decide) rfl) ?_
  obtain ⟨z1, z2, z3⟩ := hfit s2 (by simp)
  walk_at "go"
  refine ⟨kh, other, L, hrows4, R.length + 1, s2, rfl, ih _, gh4, n8, z1, fun m hm => hp.mem_iff.mpr (z2 m hm), z3, ?_⟩
  intro l hrows5 xh5 gh5 la lb _
  rw [es2]
  refine sv_seq (sv_asgP ?_)
  walk_at "go"
  refine ⟨kh, other, L, hrows5, R.length + 1, ord, rfl, ih _, gh5, ho, fun m => hp.mem_iff.symm, ?_⟩
  intro kz pz brows pl2 gb mv2
  refine ⟨_, _, rfl, ?_⟩
  have jz : (R ++ [bk A kb ord rows4] ++ [bk A kh other hrows5, rLst pp (intsD pl)] ++ [bk A kz ord brows, rLst pz (intsD pl2)])[R.length + 3]? = some (bk A kz ord brows) := by
    rw [List.getElem?_append_right (by simp)]; simp
  have jy : ∀ br, ((R ++ [bk A kb ord rows4] ++ [bk A kh other hrows5, rLst pp (intsD pl)] ++ [bk A kz ord brows, rLst pz (intsD pl2)]).set (R.length + 3) (bk A kz ord br))[R.length + 4]? = some (rLst pz (intsD pl2)) := fun br => by
    rw [List.getElem?_set_ne (by omega), List.getElem?_append_right (by simp)]; simp
  walk_at "go"
  refine ⟨bk_i jz (by decide +kernel), ?_⟩
  walk_at "go"
  refine o_ixL (d := enc s2) (atI_get (by decide) rfl) ?_
  walk_at "go"
  refine ⟨kz, ord, L, brows, R.length + 3, s2, rfl, jz, gb, h8, z1, z2, z3, ?_⟩
  intro n3 brows2 xb gb2 n3a n3b _
  walk_at "go"
  have hl2 := mv2.lt la
  refine o_ixR (jy _) (ints_at (i := l) (n := pl2.getD l 0) (by rw [List.getElem?_eq_getElem hl2, List.getD_eq_getElem?_getD, List.getElem?_eq_getElem hl2]; rfl)) ?_
  obtain ⟨y1, y2⟩ := mv2.at_ l la
  have q3 : n3 = pl2.getD l 0 := one_of gb2.wf n3a (xb.rm y1) fun e => by rw [n3b, xb.den y1, y2, lb]
  refine o_eqI ?_
  rw [q3, decide_eq_true rfl]
  exact w _
end SE
end
section
set_option Elab.async false
set_option linter.all false
set_option maxRecDepth 100000
set_option maxHeartbeats 8000000
namespace SE
open PySem PySem.Spec PyProof.Rows L2 PB
def topS (i : Nat) : Stmt := PySem.Challenge.pw_decidebook_k58_whole_entered_in_either_b.main.body.getD i (.Pass ⟨0, 0, 0, 0⟩)
local macro_rules | `(tactic| walk_at "len") => `(tactic| (intro es R W X h; repeat (first | (obtain ⟨e, _⟩ := h; exact congrArg List.length e) | (obtain ⟨_, h⟩ := h))))
theorem len_is_mark : ∀ es R W X, T_is_mark es R W X → es.length = 1 := by walk_at "len"
theorem len_is_order : ∀ es R W X, T_is_order es R W X → es.length = 1 := by walk_at "len"
theorem len_ask_order : ∀ es R W X, T_ask_order es R W X → es.length = 1 := by walk_at "len"
theorem len_pieces_of : ∀ es R W X, T_pieces_of es R W X → es.length = 1 := by walk_at "len"
theorem len_well_made (d : Nat) : ∀ es R W X, (T_well_made d) es R W X → es.length = 1 := by walk_at "len"
theorem len_count (d : Nat) : ∀ es R W X, (T_count d) es R W X → es.length = 1 := by walk_at "len"
theorem len_deep (d : Nat) : ∀ es R W X, (T_deep d) es R W X → es.length = 1 := by walk_at "len"
theorem len_is_sentence : ∀ es R W X, T_is_sentence es R W X → es.length = 1 := by walk_at "len"
theorem len_ask_sentence : ∀ es R W X, T_ask_sentence es R W X → es.length = 1 := by walk_at "len"
theorem len_named (d : Nat) : ∀ es R W X, (T_named d) es R W X → es.length = 1 := by walk_at "len"
theorem len_marks_of : ∀ es R W X, T_marks_of es R W X → es.length = 1 := by walk_at "len"
theorem len_ask_marks : ∀ es R W X, T_ask_marks es R W X → es.length = 2 := by walk_at "len"
theorem len_b_init {A : Adr} : ∀ es R W X, (T_b_init A) es R W X → es.length = 2 := by walk_at "len"
theorem len_b_ask_room {A : Adr} : ∀ es R W X, (T_b_ask_room A) es R W X → es.length = 2 := by walk_at "len"
theorem len_b_ask_mark {A : Adr} : ∀ es R W X, (T_b_ask_mark A) es R W X → es.length = 2 := by walk_at "len"
theorem len_b_level {A : Adr} : ∀ es R W X, (T_b_level A) es R W X → es.length = 2 := by walk_at "len"
theorem len_b_goings {A : Adr} : ∀ es R W X, (T_b_goings A) es R W X → es.length = 3 := by walk_at "len"
theorem len_b_decided {A : Adr} : ∀ es R W X, (T_b_decided A) es R W X → es.length = 4 := by walk_at "len"
theorem len_b_join {A : Adr} (d : Nat) : ∀ es R W X, (T_b_join A d) es R W X → es.length = 5 := by walk_at "len"
theorem len_b_fix {A : Adr} (d : Nat) : ∀ es R W X, (T_b_fix A d) es R W X → es.length = 5 := by walk_at "len"
theorem len_b_entered {A : Adr} (d : Nat) : ∀ es R W X, (T_b_entered A d) es R W X → es.length = 2 := by walk_at "len"
theorem len_b_enter {A : Adr} : ∀ es R W X, (T_b_enter A) es R W X → es.length = 2 := by walk_at "len"
theorem len_parted {A : Adr} (d : Nat) : ∀ es R W X, (T_parted A d) es R W X → es.length = 5 := by walk_at "len"
theorem len_moved {A : Adr} : ∀ es R W X, (T_moved A) es R W X → es.length = 2 := by walk_at "len"
theorem len_reordered {A : Adr} : ∀ es R W X, (T_reordered A) es R W X → es.length = 2 := by walk_at "len"
theorem len_ask_word : ∀ es R W X, T_ask_word es R W X → es.length = 1 := by walk_at "len"
theorem len_joined {A : Adr} : ∀ es R W X, (T_joined A) es R W X → es.length = 4 := by walk_at "len"
theorem len_turned {A : Adr} : ∀ es R W X, (T_turned A) es R W X → es.length = 2 := by walk_at "len"
theorem len_held {A : Adr} : ∀ es R W X, (T_held A) es R W X → es.length = 4 := by walk_at "len"
theorem len_law_cell_at : ∀ es R W X, T_law_cell_at es R W X → es.length = 2 := by walk_at "len"
theorem len_law_draw : ∀ es R W X, T_law_draw es R W X → es.length = 3 := by walk_at "len"
theorem len_law_order : ∀ es R W X, T_law_order es R W X → es.length = 2 := by walk_at "len"
theorem len_law_sentence : ∀ es R W X, T_law_sentence es R W X → es.length = 4 := by walk_at "len"
theorem len_law : ∀ es R W X, T_law es R W X → es.length = 1 := by walk_at "len"
/-- what the names of the top hold -/
structure NBs (K : Frag) (mg : Str → Option Value) (w : World) (A : Adr) : Prop where
  all : mg "all" = none
  any : mg "any" = none
  bool : mg "bool" = none
  dict : mg "dict" = none
  int : mg "int" = none
  isinstance : mg "isinstance" = none
  len : mg "len" = none
  list : mg "list" = none
  max : mg "max" = none
  min : mg "min" = none
  range : mg "range" = none
  set : mg "set" = none
  sorted : mg "sorted" = none
  str : mg "str" = none
  sum : mg "sum" = none
  tuple : mg "tuple" = none
  c_Book : mg "Book" = some (.ref A.c_Book)
  k_Book : Cls K A.c_Book
  n_marks : NoAttr K A.c_Book "marks"
  n_rows : NoAttr K A.c_Book "rows"
  n_places : NoAttr K A.c_Book "places"
  g_LETTERS : ∃ t, mg "LETTERS" = some (.str "abcdefgh" t)
  g_MOST_DEEP : ∃ t, mg "MOST_DEEP" = some (.int 24 t)
  g_MOST_WORDS : ∃ t, mg "MOST_WORDS" = some (.int 200 t)
  g_PIECES : mg "PIECES" = some (.ref A.g_PIECES)
  kd_PIECES : KTab K w A.g_PIECES tabPIECES
  g_TABLES : mg "TABLES" = some (.ref A.g_TABLES)
  kd_TABLES : KTab K w A.g_TABLES tabTABLES
section
variable {P : Program} {w : World} {K : Frag} {mg : Str → Option Value} {base : Heap} {A : Adr}
abbrev s_is_mark : Stmt := (topS 14)
theorem sc_is_mark : FnScope ["text"] ["text"] (defScope s_is_mark) := ⟨rfl, rfl, rfl, by decide +kernel, rfl, by decide +kernel, by decide +kernel⟩
theorem ok_is_mark {f_is_mark : Addr} {d_is_mark : FuncData} (F : Fun K "is_mark" "is_mark" s_is_mark f_is_mark d_is_mark) (NB : NBs K mg w A) : FnOk P w K mg base CX0 1 f_is_mark d_is_mark ["text"] (spT K T_is_mark) :=
  F.ok (k := 0) sc_is_mark (fun vs H Q E h => spT_len len_is_mark h) fun cdv Ar outer s H vs Q E hr h => ⟨t_is_mark K,
    (pss_one (ps_ret (pe_and (pe_cmpR op_eq (pe_callB x_len (by rfl) NB.len PySem.boot_len (pa_cons (pv 0) pa_nil)) pe_int (nomark _)) (pe_one (pe_cmpR op_inS (pv 0) (pe_globS rfl NB.g_LETTERS) rfl))))),
    body_ok (rd_is_mark E) h⟩
abbrev s_is_order : Stmt := (topS 15)
theorem sc_is_order : FnScope ["order", "mark"] ["order"] (defScope s_is_order) := ⟨rfl, rfl, rfl, by decide +kernel, rfl, by decide +kernel, by decide +kernel⟩
theorem ok_is_order {f_is_order : Addr} {d_is_order : FuncData} (F : Fun K "is_order" "is_order" s_is_order f_is_order d_is_order) (NB : NBs K mg w A) {f_is_mark : Addr} {d_is_mark : FuncData} (M_is_mark : mg "is_mark" = some (.ref f_is_mark) ∧ PySem.W.keepIn K (.ref f_is_mark) = true) (B_is_mark : Binds K d_is_mark ["text"] []) (G_is_mark : FnOk P w K mg base CX0 1 f_is_mark d_is_mark ["text"] (spT K T_is_mark)) : FnOk P w K mg base CX0 2 f_is_order d_is_order ["order"] (spT K T_is_order) :=
  F.ok (k := 1) sc_is_order (fun vs H Q E h => spT_len len_is_order h) fun cdv Ar outer s H vs Q E hr h => ⟨t_is_order K,
    (pss_cons (ps_if (PW.pt (pw_or (pt_cmpR op_eq (pe_callB x_len (by rfl) NB.len PySem.boot_len (pa_cons (pv 0) pa_nil)) pe_int (nomark _)) (pw_or1 (pt_not (pt_val (pe_callB (cr_all rfl) (by rfl) NB.all (by decide +kernel) (pa_cons (pe_lc (own := [("mark", 1)]) (g := (gName 1)) (tt := tYes) (by rfl) sc_is_order.nd (pi_list (pv 0)) (blkOk_by (own := [("mark", 1)]) (N := ["order", "mark"]) (sc := defScope s_is_order) (by decide +kernel)) (fun _ _ _ _ _ => (pg_name (i := 1) sc_is_order.nd rfl (by first | exact .inl rfl | exact .inr rfl))) (fun _ _ _ _ _ => pts_nil) (fun _ _ _ _ _ => (pe_call G_is_mark (hr.mono (by omega)) (by rfl) M_is_mark.1 M_is_mark.2 B_is_mark .nil pass0 (pa_cons (pv 1) pa_nil)))) pa_nil))))))) (pss_one (ps_ret pe_bl)) pss_nil)
    (pss_one (ps_ret (pe_cmpR op_eq (pe_lenSetS (by rfl) NB.len (by rfl) NB.set (pv 0) rfl) (pe_callB x_len (by rfl) NB.len PySem.boot_len (pa_cons (pv 0) pa_nil)) (nomark _))))),
    body_ok (rd_is_order E) h⟩
abbrev s_ask_order : Stmt := (topS 16)
theorem sc_ask_order : FnScope ["order"] ["order"] (defScope s_ask_order) := ⟨rfl, rfl, rfl, by decide +kernel, rfl, by decide +kernel, by decide +kernel⟩
theorem ok_ask_order {f_ask_order : Addr} {d_ask_order : FuncData} (F : Fun K "ask_order" "ask_order" s_ask_order f_ask_order d_ask_order) (NB : NBs K mg w A) {f_is_order : Addr} {d_is_order : FuncData} (M_is_order : mg "is_order" = some (.ref f_is_order) ∧ PySem.W.keepIn K (.ref f_is_order) = true) (B_is_order : Binds K d_is_order ["order"] []) (G_is_order : FnOk P w K mg base CX0 2 f_is_order d_is_order ["order"] (spT K T_is_order)) : FnOk P w K mg base CX0 3 f_ask_order d_ask_order ["order"] (spT K T_ask_order) :=
  F.ok (k := 2) sc_ask_order (fun vs H Q E h => spT_len len_ask_order h) fun cdv Ar outer s H vs Q E hr h => ⟨t_ask_order K,
    (pss_one (ps_if (pt_not (pt_val (pe_call G_is_order (hr.mono (by omega)) (by rfl) M_is_order.1 M_is_order.2 B_is_order .nil pass0 (pa_cons (pv 0) pa_nil)))) (pss_one ps_never) pss_nil)),
    body_ok (rd_ask_order E) h⟩
abbrev s_pieces_of : Stmt := (topS 17)
theorem sc_pieces_of : FnScope ["sentence"] ["sentence"] (defScope s_pieces_of) := ⟨rfl, rfl, rfl, by decide +kernel, rfl, by decide +kernel, by decide +kernel⟩
theorem ok_pieces_of {f_pieces_of : Addr} {d_pieces_of : FuncData} (F : Fun K "pieces_of" "pieces_of" s_pieces_of f_pieces_of d_pieces_of) (NB : NBs K mg w A) : FnOk P w K mg base CX0 1 f_pieces_of d_pieces_of ["sentence"] (spT K T_pieces_of) :=
  F.ok (k := 0) sc_pieces_of (fun vs H Q E h => spT_len len_pieces_of h) fun cdv Ar outer s H vs Q E hr h => ⟨t_pieces_of K,
    (pss_cons (ps_if (pt_cmpR op_eq (pe_ix ix_seq (pv 0) pe_int (fun _ _ => rfl)) pe_str (nomark _)) (pss_one (ps_ret (pe_lst pa_nil))) pss_nil)
    (pss_cons (ps_if (pt_cmpR op_in_seq (pe_ix ix_seq (pv 0) pe_int (fun _ _ => rfl)) (pe_tup (pa_cons pe_str (pa_cons pe_str pa_nil))) rfl) (pss_one (ps_ret (pe_lst (pa_cons (pe_ix ix_seq (pv 0) pe_int (fun _ _ => rfl)) pa_nil)))) pss_nil)
    (pss_one (ps_ret (pe_callTy x_list (by rfl) NB.list (by decide +kernel) (pa_cons (pe_slice sl_tup (pv 0) (po_some pe_int) po_none) pa_nil)))))),
    body_ok (rd_pieces_of E) h⟩
abbrev s_well_made : Stmt := (topS 18)
theorem sc_well_made : FnScope ["some", "piece"] ["some"] (defScope s_well_made) := ⟨rfl, rfl, rfl, by decide +kernel, rfl, by decide +kernel, by decide +kernel⟩
theorem ok_well_made {f_well_made : Addr} {d_well_made : FuncData} (F : Fun K "well_made" "well_made" s_well_made f_well_made d_well_made) (NB : NBs K mg w A) {f_is_mark : Addr} {d_is_mark : FuncData} (M_is_mark : mg "is_mark" = some (.ref f_is_mark) ∧ PySem.W.keepIn K (.ref f_is_mark) = true) (B_is_mark : Binds K d_is_mark ["text"] []) (G_is_mark : FnOk P w K mg base CX0 1 f_is_mark d_is_mark ["text"] (spT K T_is_mark)) (M_well_made : mg "well_made" = some (.ref f_well_made) ∧ PySem.W.keepIn K (.ref f_well_made) = true) (B_well_made : Binds K d_well_made ["some"] []) : ∀ d : Nat, FnOk P w K mg base CX0 (2 + d) f_well_made d_well_made ["some"] (spT K (T_well_made d))
  | 0 => fn_no fun _ _ _ _ => no_spT fun _ _ _ _ h => no_well_made h
  | d + 1 => by
    have G_well_made := ok_well_made F NB M_is_mark B_is_mark G_is_mark M_well_made B_well_made d
    exact F.ok (k := 2 + d) sc_well_made (fun vs H Q E h => spT_len (len_well_made _) h) fun cdv Ar outer s H vs Q E hr h => ⟨t_well_made K A d,
    (pss_cons (ps_if (PW.pt (pw_or (pt_cmpR op_eq (pe_callB x_len (by rfl) NB.len PySem.boot_len (pa_cons (pv 0) pa_nil)) pe_int (nomark _)) (pw_or1 (pt_not (pt_val (pe_callB call_isi (by rfl) NB.isinstance (by decide +kernel) (pa_cons (pe_ix ix_seq (pv 0) pe_int (fun _ _ => rfl)) (pa_cons (pe_bltn (v := .ty "str") (by rfl) NB.str (by decide +kernel) rfl) pa_nil)))))))) (pss_one (ps_ret pe_bl)) pss_nil)
    (pss_cons (ps_if (pt_cmpR op_eq (pe_ix ix_seq (pv 0) pe_int (fun _ _ => rfl)) pe_str (nomark _)) (pss_one (ps_ret (pe_and (pe_cmpR op_eq (pe_callB x_len (by rfl) NB.len PySem.boot_len (pa_cons (pv 0) pa_nil)) pe_int (nomark _)) (pe_and (pe_callB call_isi (by rfl) NB.isinstance (by decide +kernel) (pa_cons (pe_ix ix_seq (pv 0) pe_int (fun _ _ => rfl)) (pa_cons (pe_bltn (v := .ty "str") (by rfl) NB.str (by decide +kernel) rfl) pa_nil))) (pe_one (pe_call G_is_mark (hr.mono (by omega)) (by rfl) M_is_mark.1 M_is_mark.2 B_is_mark .nil pass0 (pa_cons (pe_ix ix_seq (pv 0) pe_int (fun _ _ => rfl)) pa_nil))))))) pss_nil)
    (pss_cons (ps_if (pt_cmpR op_in_seq (pe_ix ix_seq (pv 0) pe_int (fun _ _ => rfl)) (pe_tup (pa_cons pe_str (pa_cons pe_str pa_nil))) rfl) (pss_cons (ps_if (PW.pt (pw_or (pt_cmpR op_ne (pe_callB x_len (by rfl) NB.len PySem.boot_len (pa_cons (pv 0) pa_nil)) pe_int (nomark _)) (pw_or (pt_not (pt_val (pe_callB call_isi (by rfl) NB.isinstance (by decide +kernel) (pa_cons (pe_ix ix_seq (pv 0) pe_int (fun _ _ => rfl)) (pa_cons (pe_bltn (v := .ty "str") (by rfl) NB.str (by decide +kernel) rfl) pa_nil))))) (pw_or1 (pt_not (pt_val (pe_call G_is_mark (hr.mono (by omega)) (by rfl) M_is_mark.1 M_is_mark.2 B_is_mark .nil pass0 (pa_cons (pe_ix ix_seq (pv 0) pe_int (fun _ _ => rfl)) pa_nil)))))))) (pss_one (ps_ret pe_bl)) pss_nil)
    (pss_one (ps_ret (pe_and (pe_callB call_isi (by rfl) NB.isinstance (by decide +kernel) (pa_cons (pe_ix ix_seq (pv 0) pe_int (fun _ _ => rfl)) (pa_cons (pe_bltn (v := .ty "tuple") (by rfl) NB.tuple (by decide +kernel) rfl) pa_nil))) (pe_one (pe_call G_well_made (hr.mono (by omega)) (by rfl) M_well_made.1 M_well_made.2 B_well_made .nil pass0 (pa_cons (pe_ix ix_seq (pv 0) pe_int (fun _ _ => rfl)) pa_nil))))))) pss_nil)
    (pss_cons (ps_if (PW.pt (pw_or (pt_cmpR (x_niKd NB.kd_PIECES) (pe_ix ix_seq (pv 0) pe_int (fun _ _ => rfl)) (pe_glob rfl NB.g_PIECES rfl) rfl) (pw_or1 (pt_cmpR op_ne (pe_callB x_len (by rfl) NB.len PySem.boot_len (pa_cons (pv 0) pa_nil)) (pe_op x_add (pe_ix (x_ixKd NB.kd_PIECES) (pe_glob rfl NB.g_PIECES rfl) (pe_ix ix_seq (pv 0) pe_int (fun _ _ => rfl)) (fun _ _ => rfl)) pe_int) (nomark _))))) (pss_one (ps_ret pe_bl)) pss_nil)
    (pss_one (ps_ret (pe_callB (cr_all rfl) (by rfl) NB.all (by decide +kernel) (pa_cons (pe_lc (own := [("piece", 1)]) (g := (gName 1)) (tt := tYes) (by rfl) sc_well_made.nd (pi_tup (pe_slice sl_tup (pv 0) (po_some pe_int) po_none)) (blkOk_by (own := [("piece", 1)]) (N := ["some", "piece"]) (sc := defScope s_well_made) (by decide +kernel)) (fun _ _ _ _ _ => (pg_name (i := 1) sc_well_made.nd rfl (by first | exact .inl rfl | exact .inr rfl))) (fun _ _ _ _ _ => pts_nil) (fun _ _ _ _ _ => (pe_and (pe_callB call_isi (by rfl) NB.isinstance (by decide +kernel) (pa_cons (pv 1) (pa_cons (pe_bltn (v := .ty "tuple") (by rfl) NB.tuple (by decide +kernel) rfl) pa_nil))) (pe_one (pe_call G_well_made (hr.mono (by omega)) (by rfl) M_well_made.1 M_well_made.2 B_well_made .nil pass0 (pa_cons (pv 1) pa_nil)))))) pa_nil)))))))),
    body_ok (rd_well_made d E) h⟩
abbrev s_count : Stmt := (topS 19)
theorem sc_count : FnScope ["sentence", "piece"] ["sentence"] (defScope s_count) := ⟨rfl, rfl, rfl, by decide +kernel, rfl, by decide +kernel, by decide +kernel⟩
theorem ok_count {f_count : Addr} {d_count : FuncData} (F : Fun K "count" "count" s_count f_count d_count) (NB : NBs K mg w A) {f_pieces_of : Addr} {d_pieces_of : FuncData} (M_pieces_of : mg "pieces_of" = some (.ref f_pieces_of) ∧ PySem.W.keepIn K (.ref f_pieces_of) = true) (B_pieces_of : Binds K d_pieces_of ["sentence"] []) (G_pieces_of : FnOk P w K mg base CX0 1 f_pieces_of d_pieces_of ["sentence"] (spT K T_pieces_of)) (M_count : mg "count" = some (.ref f_count) ∧ PySem.W.keepIn K (.ref f_count) = true) (B_count : Binds K d_count ["sentence"] []) : ∀ d : Nat, FnOk P w K mg base CX0 (2 + d) f_count d_count ["sentence"] (spT K (T_count d))
  | 0 => fn_no fun _ _ _ _ => no_spT fun _ _ _ _ h => no_count h
  | d + 1 => by
    have G_count := ok_count F NB M_pieces_of B_pieces_of G_pieces_of M_count B_count d
    exact F.ok (k := 2 + d) sc_count (fun vs H Q E h => spT_len (len_count _) h) fun cdv Ar outer s H vs Q E hr h => ⟨t_count K d,
    (pss_one (ps_ret (pe_op x_add pe_int (pe_callB (cr_sum rfl) (by rfl) NB.sum (by decide +kernel) (pa_cons (pe_lc (own := [("piece", 1)]) (g := (gName 1)) (tt := tYes) (by rfl) sc_count.nd (pi_list (pe_call G_pieces_of (hr.mono (by omega)) (by rfl) M_pieces_of.1 M_pieces_of.2 B_pieces_of .nil pass0 (pa_cons (pv 0) pa_nil))) (blkOk_by (own := [("piece", 1)]) (N := ["sentence", "piece"]) (sc := defScope s_count) (by decide +kernel)) (fun _ _ _ _ _ => (pg_name (i := 1) sc_count.nd rfl (by first | exact .inl rfl | exact .inr rfl))) (fun _ _ _ _ _ => pts_nil) (fun _ _ _ _ _ => (pe_call G_count (hr.mono (by omega)) (by rfl) M_count.1 M_count.2 B_count .nil pass0 (pa_cons (pv 1) pa_nil)))) pa_nil))))),
    body_ok (rd_count d E) h⟩
abbrev s_deep : Stmt := (topS 20)
theorem sc_deep : FnScope ["sentence", "piece"] ["sentence"] (defScope s_deep) := ⟨rfl, rfl, rfl, by decide +kernel, rfl, by decide +kernel, by decide +kernel⟩
theorem ok_deep {f_deep : Addr} {d_deep : FuncData} (F : Fun K "deep" "deep" s_deep f_deep d_deep) (NB : NBs K mg w A) {f_pieces_of : Addr} {d_pieces_of : FuncData} (M_pieces_of : mg "pieces_of" = some (.ref f_pieces_of) ∧ PySem.W.keepIn K (.ref f_pieces_of) = true) (B_pieces_of : Binds K d_pieces_of ["sentence"] []) (G_pieces_of : FnOk P w K mg base CX0 1 f_pieces_of d_pieces_of ["sentence"] (spT K T_pieces_of)) (M_deep : mg "deep" = some (.ref f_deep) ∧ PySem.W.keepIn K (.ref f_deep) = true) (B_deep : Binds K d_deep ["sentence"] []) : ∀ d : Nat, FnOk P w K mg base CX0 (2 + d) f_deep d_deep ["sentence"] (spT K (T_deep d))
  | 0 => fn_no fun _ _ _ _ => no_spT fun _ _ _ _ h => no_deep h
  | d + 1 => by
    have G_deep := ok_deep F NB M_pieces_of B_pieces_of G_pieces_of M_deep B_deep d
    exact F.ok (k := 2 + d) sc_deep (fun vs H Q E h => spT_len (len_deep _) h) fun cdv Ar outer s H vs Q E hr h => ⟨t_deep K d,
    (pss_one (ps_ret (pe_op x_add pe_int (pe_callBK (x_maxD hr.units rfl) (by rfl) NB.max (by decide +kernel) (pa_cons (pe_lc (own := [("piece", 1)]) (g := (gName 1)) (tt := tYes) (by rfl) sc_deep.nd (pi_list (pe_call G_pieces_of (hr.mono (by omega)) (by rfl) M_pieces_of.1 M_pieces_of.2 B_pieces_of .nil pass0 (pa_cons (pv 0) pa_nil))) (blkOk_by (own := [("piece", 1)]) (N := ["sentence", "piece"]) (sc := defScope s_deep) (by decide +kernel)) (fun _ _ _ _ _ => (pg_name (i := 1) sc_deep.nd rfl (by first | exact .inl rfl | exact .inr rfl))) (fun _ _ _ _ _ => pts_nil) (fun _ _ _ _ _ => (pe_call G_deep (hr.mono (by omega)) (by rfl) M_deep.1 M_deep.2 B_deep .nil pass0 (pa_cons (pv 1) pa_nil)))) pa_nil) (pk_cons pe_int pk_nil))))),
    body_ok (rd_deep d E) h⟩
abbrev s_is_sentence : Stmt := (topS 21)
theorem sc_is_sentence : FnScope ["some"] ["some"] (defScope s_is_sentence) := ⟨rfl, rfl, rfl, by decide +kernel, rfl, by decide +kernel, by decide +kernel⟩
theorem ok_is_sentence {f_is_sentence : Addr} {d_is_sentence : FuncData} (F : Fun K "is_sentence" "is_sentence" s_is_sentence f_is_sentence d_is_sentence) (NB : NBs K mg w A) {f_well_made : Addr} {d_well_made : FuncData} (M_well_made : mg "well_made" = some (.ref f_well_made) ∧ PySem.W.keepIn K (.ref f_well_made) = true) (B_well_made : Binds K d_well_made ["some"] []) (G_well_made : FnOk P w K mg base CX0 32 f_well_made d_well_made ["some"] (spT K (T_well_made 30))) {f_count : Addr} {d_count : FuncData} (M_count : mg "count" = some (.ref f_count) ∧ PySem.W.keepIn K (.ref f_count) = true) (B_count : Binds K d_count ["sentence"] []) (G_count : FnOk P w K mg base CX0 32 f_count d_count ["sentence"] (spT K (T_count 30))) {f_deep : Addr} {d_deep : FuncData} (M_deep : mg "deep" = some (.ref f_deep) ∧ PySem.W.keepIn K (.ref f_deep) = true) (B_deep : Binds K d_deep ["sentence"] []) (G_deep : FnOk P w K mg base CX0 32 f_deep d_deep ["sentence"] (spT K (T_deep 30))) : FnOk P w K mg base CX0 33 f_is_sentence d_is_sentence ["some"] (spT K T_is_sentence) :=
  F.ok (k := 32) sc_is_sentence (fun vs H Q E h => spT_len len_is_sentence h) fun cdv Ar outer s H vs Q E hr h => ⟨t_is_sentence K,
    (pss_one (ps_ret (pe_and (pe_call G_well_made (hr.mono (by omega)) (by rfl) M_well_made.1 M_well_made.2 B_well_made .nil pass0 (pa_cons (pv 0) pa_nil)) (pe_and (pe_cmpR x_le (pe_call G_count (hr.mono (by omega)) (by rfl) M_count.1 M_count.2 B_count .nil pass0 (pa_cons (pv 0) pa_nil)) (pe_globI rfl NB.g_MOST_WORDS) (nomark _)) (pe_one (pe_cmpR x_le (pe_call G_deep (hr.mono (by omega)) (by rfl) M_deep.1 M_deep.2 B_deep .nil pass0 (pa_cons (pv 0) pa_nil)) (pe_globI rfl NB.g_MOST_DEEP) (nomark _))))))),
    body_ok (rd_is_sentence E) h⟩
abbrev s_ask_sentence : Stmt := (topS 22)
theorem sc_ask_sentence : FnScope ["sentence"] ["sentence"] (defScope s_ask_sentence) := ⟨rfl, rfl, rfl, by decide +kernel, rfl, by decide +kernel, by decide +kernel⟩
theorem ok_ask_sentence {f_ask_sentence : Addr} {d_ask_sentence : FuncData} (F : Fun K "ask_sentence" "ask_sentence" s_ask_sentence f_ask_sentence d_ask_sentence) (NB : NBs K mg w A) {f_is_sentence : Addr} {d_is_sentence : FuncData} (M_is_sentence : mg "is_sentence" = some (.ref f_is_sentence) ∧ PySem.W.keepIn K (.ref f_is_sentence) = true) (B_is_sentence : Binds K d_is_sentence ["some"] []) (G_is_sentence : FnOk P w K mg base CX0 33 f_is_sentence d_is_sentence ["some"] (spT K T_is_sentence)) : FnOk P w K mg base CX0 34 f_ask_sentence d_ask_sentence ["sentence"] (spT K T_ask_sentence) :=
  F.ok (k := 33) sc_ask_sentence (fun vs H Q E h => spT_len len_ask_sentence h) fun cdv Ar outer s H vs Q E hr h => ⟨t_ask_sentence K,
    (pss_one (ps_if (pt_not (pt_val (pe_call G_is_sentence (hr.mono (by omega)) (by rfl) M_is_sentence.1 M_is_sentence.2 B_is_sentence .nil pass0 (pa_cons (pv 0) pa_nil)))) (pss_one ps_never) pss_nil)),
    body_ok (rd_ask_sentence E) h⟩
abbrev s_named : Stmt := (topS 23)
theorem sc_named : FnScope ["sentence", "found", "piece"] ["sentence"] (defScope s_named) := ⟨rfl, rfl, rfl, by decide +kernel, rfl, by decide +kernel, by decide +kernel⟩
theorem ok_named {f_named : Addr} {d_named : FuncData} (F : Fun K "named" "named" s_named f_named d_named) (NB : NBs K mg w A) {f_pieces_of : Addr} {d_pieces_of : FuncData} (M_pieces_of : mg "pieces_of" = some (.ref f_pieces_of) ∧ PySem.W.keepIn K (.ref f_pieces_of) = true) (B_pieces_of : Binds K d_pieces_of ["sentence"] []) (G_pieces_of : FnOk P w K mg base CX0 1 f_pieces_of d_pieces_of ["sentence"] (spT K T_pieces_of)) (M_named : mg "named" = some (.ref f_named) ∧ PySem.W.keepIn K (.ref f_named) = true) (B_named : Binds K d_named ["sentence"] []) : ∀ d : Nat, FnOk P w K mg base CX0 (2 + d) f_named d_named ["sentence"] (spT K (T_named d))
  | 0 => fn_no fun _ _ _ _ => no_spT fun _ _ _ _ h => no_named h
  | d + 1 => by
    have G_named := ok_named F NB M_pieces_of B_pieces_of G_pieces_of M_named B_named d
    exact F.ok (k := 2 + d) sc_named (fun vs H Q E h => spT_len (len_named _) h) fun cdv Ar outer s H vs Q E hr h => ⟨t_named K d,
    (pss_cons (ps_set (i := 1) sc_named.nd rfl (by first | exact .inl rfl | exact .inr rfl) (pe_lst pa_nil))
    (pss_cons (ps_if (pt_cmpR op_in_seq (pe_ix ix_seq (pv 0) pe_int (fun _ _ => rfl)) (pe_tup (pa_cons pe_str (pa_cons pe_str (pa_cons pe_str pa_nil)))) rfl) (pss_one (ps_expr (pe_bm PySem.F.plainAttrs_list PySem.F.slot_list_append PySem.F.type_list_append mt_append (pv 1) (pa_cons (pe_ix ix_seq (pv 0) pe_int (fun _ _ => rfl)) pa_nil)))) pss_nil)
    (pss_cons (ps_for PassesOwn.never rfl (pi_list (pe_call G_pieces_of (hr.mono (by omega)) (by rfl) M_pieces_of.1 M_pieces_of.2 B_pieces_of .nil pass0 (pa_cons (pv 0) pa_nil))) (pg_name (i := 2) sc_named.nd rfl (by first | exact .inl rfl | exact .inr rfl)) (pss_one (ps_expr (pe_bm PySem.F.plainAttrs_list PySem.F.slot_list_extend PySem.F.type_list_extend mt_extend (pv 1) (pa_cons (pe_call G_named (hr.mono (by omega)) (by rfl) M_named.1 M_named.2 B_named .nil pass0 (pa_cons (pv 2) pa_nil)) pa_nil)))))
    (pss_one (ps_ret (pv 1)))))),
    body_ok (rd_named d E) h⟩
abbrev s_marks_of : Stmt := (topS 24)
theorem sc_marks_of : FnScope ["sentence", "mark"] ["sentence"] (defScope s_marks_of) := ⟨rfl, rfl, rfl, by decide +kernel, rfl, by decide +kernel, by decide +kernel⟩
theorem ok_marks_of {f_marks_of : Addr} {d_marks_of : FuncData} (F : Fun K "marks_of" "marks_of" s_marks_of f_marks_of d_marks_of) (NB : NBs K mg w A) {f_ask_sentence : Addr} {d_ask_sentence : FuncData} (M_ask_sentence : mg "ask_sentence" = some (.ref f_ask_sentence) ∧ PySem.W.keepIn K (.ref f_ask_sentence) = true) (B_ask_sentence : Binds K d_ask_sentence ["sentence"] []) (G_ask_sentence : FnOk P w K mg base CX0 34 f_ask_sentence d_ask_sentence ["sentence"] (spT K T_ask_sentence)) {f_named : Addr} {d_named : FuncData} (M_named : mg "named" = some (.ref f_named) ∧ PySem.W.keepIn K (.ref f_named) = true) (B_named : Binds K d_named ["sentence"] []) (G_named : FnOk P w K mg base CX0 32 f_named d_named ["sentence"] (spT K (T_named 30))) : FnOk P w K mg base CX0 35 f_marks_of d_marks_of ["sentence"] (spT K T_marks_of) :=
  F.ok (k := 34) sc_marks_of (fun vs H Q E h => spT_len len_marks_of h) fun cdv Ar outer s H vs Q E hr h => ⟨t_marks_of K,
    (pss_cons (ps_expr (pe_call G_ask_sentence (hr.mono (by omega)) (by rfl) M_ask_sentence.1 M_ask_sentence.2 B_ask_sentence .nil pass0 (pa_cons (pv 0) pa_nil)))
    (pss_one (ps_ret (pe_callB cr_sortedS (by rfl) NB.sorted (by decide +kernel) (pa_cons (pe_callTy (call_list_dK rfl) (by rfl) NB.list (by decide +kernel) (pa_cons (pe_callTy (x_dictP rfl) (by rfl) NB.dict (by decide +kernel) (pa_cons (pe_lc (own := [("mark", 1)]) (g := (gName 1)) (tt := tYes) (by rfl) sc_marks_of.nd (pi_list (pe_call G_named (hr.mono (by omega)) (by rfl) M_named.1 M_named.2 B_named .nil pass0 (pa_cons (pv 0) pa_nil))) (blkOk_by (own := [("mark", 1)]) (N := ["sentence", "mark"]) (sc := defScope s_marks_of) (by decide +kernel)) (fun _ _ _ _ _ => (pg_name (i := 1) sc_marks_of.nd rfl (by first | exact .inl rfl | exact .inr rfl))) (fun _ _ _ _ _ => pts_nil) (fun _ _ _ _ _ => (pe_tup (pa_cons (pv 1) (pa_cons pe_bl pa_nil))))) pa_nil)) pa_nil)) pa_nil))))),
    body_ok (rd_marks_of E) h⟩
abbrev s_ask_marks : Stmt := (topS 25)
theorem sc_ask_marks : FnScope ["sentence", "order", "mark"] ["sentence", "order"] (defScope s_ask_marks) := ⟨rfl, rfl, rfl, by decide +kernel, rfl, by decide +kernel, by decide +kernel⟩
theorem ok_ask_marks {f_ask_marks : Addr} {d_ask_marks : FuncData} (F : Fun K "ask_marks" "ask_marks" s_ask_marks f_ask_marks d_ask_marks) (NB : NBs K mg w A) {f_marks_of : Addr} {d_marks_of : FuncData} (M_marks_of : mg "marks_of" = some (.ref f_marks_of) ∧ PySem.W.keepIn K (.ref f_marks_of) = true) (B_marks_of : Binds K d_marks_of ["sentence"] []) (G_marks_of : FnOk P w K mg base CX0 35 f_marks_of d_marks_of ["sentence"] (spT K T_marks_of)) : FnOk P w K mg base CX0 36 f_ask_marks d_ask_marks ["sentence", "order"] (spT K T_ask_marks) :=
  F.ok (k := 35) sc_ask_marks (fun vs H Q E h => spT_len len_ask_marks h) fun cdv Ar outer s H vs Q E hr h => ⟨t_ask_marks K,
    (pss_one (ps_for PassesOwn.never rfl (pi_list (pe_call G_marks_of (hr.mono (by omega)) (by rfl) M_marks_of.1 M_marks_of.2 B_marks_of .nil pass0 (pa_cons (pv 0) pa_nil))) (pg_name (i := 2) sc_ask_marks.nd rfl (by first | exact .inl rfl | exact .inr rfl)) (pss_one (ps_if (pt_cmpR op_notIn_seq (pv 2) (pv 1) rfl) (pss_one ps_never) pss_nil)))),
    body_ok (rd_ask_marks E) h⟩
abbrev s_b_init : Stmt := (inClass (topS 28) 0)
theorem sc_b_init : FnScope ["self", "order"] ["self", "order"] (defScope s_b_init) := ⟨rfl, rfl, rfl, by decide +kernel, rfl, by decide +kernel, by decide +kernel⟩
theorem ok_b_init {f_b_init : Addr} {d_b_init : FuncData} (F : Fun K "__init__" "Book.__init__" s_b_init f_b_init d_b_init) (NB : NBs K mg w A) {f_ask_order : Addr} {d_ask_order : FuncData} (M_ask_order : mg "ask_order" = some (.ref f_ask_order) ∧ PySem.W.keepIn K (.ref f_ask_order) = true) (B_ask_order : Binds K d_ask_order ["order"] []) (G_ask_order : FnOk P w K mg base CX0 3 f_ask_order d_ask_order ["order"] (spT K T_ask_order)) : FnOk P w K mg base CX0 4 f_b_init d_b_init ["self", "order"] (spT K (T_b_init A)) :=
  F.ok (k := 3) sc_b_init (fun vs H Q E h => spT_len len_b_init h) fun cdv Ar outer s H vs Q E hr h => ⟨t_b_init K,
    (pss_cons (ps_expr (pe_call G_ask_order (hr.mono (by omega)) (by rfl) M_ask_order.1 M_ask_order.2 B_ask_order .nil pass0 (pa_cons (pv 1) pa_nil)))
    (pss_cons (ps_fld (pv 0) (pe_callTy x_list (by rfl) NB.list (by decide +kernel) (pa_cons (pv 1) pa_nil)) rfl)
    (pss_cons (ps_fld (pv 0) (pe_lst (pa_cons pe_non (pa_cons pe_non pa_nil))) rfl)
    (pss_one (ps_fld (pv 0) pe_dnewT rfl))))),
    body_ok (rd_b_init ⟨NB.k_Book, NB.n_marks, NB.n_rows, NB.n_places⟩ E) h⟩
abbrev s_b_ask_room : Stmt := (inClass (topS 28) 3)
theorem sc_b_ask_room : FnScope ["self", "number"] ["self", "number"] (defScope s_b_ask_room) := ⟨rfl, rfl, rfl, by decide +kernel, rfl, by decide +kernel, by decide +kernel⟩
theorem ok_b_ask_room {f_b_ask_room : Addr} {d_b_ask_room : FuncData} (F : Fun K "ask_room" "Book.ask_room" s_b_ask_room f_b_ask_room d_b_ask_room) (NB : NBs K mg w A) : FnOk P w K mg base CX0 1 f_b_ask_room d_b_ask_room ["self", "number"] (spT K (T_b_ask_room A)) :=
  F.ok (k := 0) sc_b_ask_room (fun vs H Q E h => spT_len len_b_ask_room h) fun cdv Ar outer s H vs Q E hr h => ⟨t_b_ask_room K,
    (pss_one (ps_if (pt_not (pt_chain x_le x_lt pe_int (pv 1) (pe_callB x_len (by rfl) NB.len PySem.boot_len (pa_cons (pe_fld (pv 0) rfl) pa_nil)))) (pss_one ps_never) pss_nil)),
    body_ok (rd_b_ask_room E) h⟩
abbrev s_b_ask_mark : Stmt := (inClass (topS 28) 4)
theorem sc_b_ask_mark : FnScope ["self", "mark"] ["self", "mark"] (defScope s_b_ask_mark) := ⟨rfl, rfl, rfl, by decide +kernel, rfl, by decide +kernel, by decide +kernel⟩
theorem ok_b_ask_mark {f_b_ask_mark : Addr} {d_b_ask_mark : FuncData} (F : Fun K "ask_mark" "Book.ask_mark" s_b_ask_mark f_b_ask_mark d_b_ask_mark) (NB : NBs K mg w A) : FnOk P w K mg base CX0 1 f_b_ask_mark d_b_ask_mark ["self", "mark"] (spT K (T_b_ask_mark A)) :=
  F.ok (k := 0) sc_b_ask_mark (fun vs H Q E h => spT_len len_b_ask_mark h) fun cdv Ar outer s H vs Q E hr h => ⟨t_b_ask_mark K,
    (pss_one (ps_if (pt_cmpR op_notIn_seq (pv 1) (pe_fld (pv 0) rfl) rfl) (pss_one ps_never) pss_nil)),
    body_ok (rd_b_ask_mark E) h⟩
abbrev s_b_level : Stmt := (inClass (topS 28) 6)
theorem sc_b_level : FnScope ["self", "number"] ["self", "number"] (defScope s_b_level) := ⟨rfl, rfl, rfl, by decide +kernel, rfl, by decide +kernel, by decide +kernel⟩
theorem ok_b_level {f_b_level : Addr} {d_b_level : FuncData} (F : Fun K "level" "Book.level" s_b_level f_b_level d_b_level) (NB : NBs K mg w A) : FnOk P w K mg base CX0 1 f_b_level d_b_level ["self", "number"] (spT K (T_b_level A)) :=
  F.ok (k := 0) sc_b_level (fun vs H Q E h => spT_len len_b_level h) fun cdv Ar outer s H vs Q E hr h => ⟨t_b_level K,
    (pss_cons (ps_if (pt_cmpR x_lt (pv 1) pe_int (nomark _)) (pss_one (ps_ret (pe_callB x_len (by rfl) NB.len PySem.boot_len (pa_cons (pe_fld (pv 0) rfl) pa_nil)))) pss_nil)
    (pss_one (ps_ret (pe_bm PySem.F.plainAttrs_list PySem.F.slot_list_index PySem.F.type_list_index mt_index (pe_fld (pv 0) rfl) (pa_cons (pe_ix ix_seq (pe_ix ix_seq (pe_fld (pv 0) rfl) (pv 1) (fun _ _ => rfl)) pe_int (fun _ _ => rfl)) pa_nil))))),
    body_ok (rd_b_level E) h⟩
abbrev s_b_goings : Stmt := (inClass (topS 28) 7)
theorem sc_b_goings : FnScope ["self", "number", "at"] ["self", "number", "at"] (defScope s_b_goings) := ⟨rfl, rfl, rfl, by decide +kernel, rfl, by decide +kernel, by decide +kernel⟩
theorem ok_b_goings {f_b_goings : Addr} {d_b_goings : FuncData} (F : Fun K "goings" "Book.goings" s_b_goings f_b_goings d_b_goings) (NB : NBs K mg w A) {f_b_level : Addr} {d_b_level : FuncData} (M_b_level : Meth K A.c_Book "level" f_b_level) (B_b_level : Binds K d_b_level ["self", "number"] []) (G_b_level : FnOk P w K mg base CX0 1 f_b_level d_b_level ["self", "number"] (spT K (T_b_level A))) : FnOk P w K mg base CX0 2 f_b_goings d_b_goings ["self", "number", "at"] (spT K (T_b_goings A)) :=
  F.ok (k := 1) sc_b_goings (fun vs H Q E h => spT_len len_b_goings h) fun cdv Ar outer s H vs Q E hr h => ⟨t_b_goings K A,
    (pss_cons (ps_if (pt_cmpR op_eq (pe_meth (pv 0) NB.k_Book M_b_level G_b_level (hr.mono (by omega)) B_b_level .nil pass0 (pa_cons (pv 1) pa_nil)) (pv 2) (nomark _)) (pss_one (ps_ret (pe_tup (pa_cons (pe_ix ix_seq (pe_ix ix_seq (pe_fld (pv 0) rfl) (pv 1) (fun _ _ => rfl)) pe_int (fun _ _ => rfl)) (pa_cons (pe_ix ix_seq (pe_ix ix_seq (pe_fld (pv 0) rfl) (pv 1) (fun _ _ => rfl)) pe_int (fun _ _ => rfl)) pa_nil))))) pss_nil)
    (pss_one (ps_ret (pe_tup (pa_cons (pv 1) (pa_cons (pv 1) pa_nil)))))),
    body_ok (rd_b_goings E) h⟩
abbrev s_b_decided : Stmt := (inClass (topS 28) 8)
theorem sc_b_decided : FnScope ["self", "at", "low", "high", "row"] ["self", "at", "low", "high"] (defScope s_b_decided) := ⟨rfl, rfl, rfl, by decide +kernel, rfl, by decide +kernel, by decide +kernel⟩
theorem ok_b_decided {f_b_decided : Addr} {d_b_decided : FuncData} (F : Fun K "decided" "Book.decided" s_b_decided f_b_decided d_b_decided) (NB : NBs K mg w A) : FnOk P w K mg base CX0 1 f_b_decided d_b_decided ["self", "at", "low", "high"] (spT K (T_b_decided A)) :=
  F.ok (k := 0) sc_b_decided (fun vs H Q E h => spT_len len_b_decided h) fun cdv Ar outer s H vs Q E hr h => ⟨t_b_decided K,
    (pss_cons (ps_if (pt_cmpR op_eq (pv 2) (pv 3) (nomark _)) (pss_one (ps_ret (pv 2))) pss_nil)
    (pss_cons (ps_set (i := 4) sc_b_decided.nd rfl (by first | exact .inl rfl | exact .inr rfl) (pe_tup (pa_cons (pe_ix ix_seq (pe_fld (pv 0) rfl) (pv 1) (fun _ _ => rfl)) (pa_cons (pv 2) (pa_cons (pv 3) pa_nil)))))
    (pss_cons (ps_if (pt_cmp (pc_dnotin (hu_of hr) (pv 4) (pe_fld (pv 0) rfl)) rfl) (pss_cons (ps_dput (hu_of hr) (pe_fld (pv 0) rfl) (pv 4) (pe_callB x_len (by rfl) NB.len PySem.boot_len (pa_cons (pe_fld (pv 0) rfl) pa_nil)) rfl)
    (pss_one (ps_expr (pe_bm PySem.F.plainAttrs_list PySem.F.slot_list_append PySem.F.type_list_append mt_append (pe_fld (pv 0) rfl) (pa_cons (pv 4) pa_nil))))) pss_nil)
    (pss_one (ps_ret (pe_dget (hu_of hr) (pe_fld (pv 0) rfl) (pv 4) (fun _ _ => rfl))))))),
    body_ok (rd_b_decided E) h⟩
abbrev s_b_join : Stmt := (inClass (topS 28) 9)
theorem sc_b_join : FnScope ["self", "table", "one", "other", "known", "at", "left", "right", "low"] ["self", "table", "one", "other", "known"] (defScope s_b_join) := ⟨rfl, rfl, rfl, by decide +kernel, rfl, by decide +kernel, by decide +kernel⟩
theorem ok_b_join {f_b_join : Addr} {d_b_join : FuncData} (F : Fun K "join" "Book.join" s_b_join f_b_join d_b_join) (NB : NBs K mg w A) {f_b_level : Addr} {d_b_level : FuncData} (M_b_level : Meth K A.c_Book "level" f_b_level) (B_b_level : Binds K d_b_level ["self", "number"] []) (G_b_level : FnOk P w K mg base CX0 1 f_b_level d_b_level ["self", "number"] (spT K (T_b_level A))) {f_b_goings : Addr} {d_b_goings : FuncData} (M_b_goings : Meth K A.c_Book "goings" f_b_goings) (B_b_goings : Binds K d_b_goings ["self", "number", "at"] []) (G_b_goings : FnOk P w K mg base CX0 2 f_b_goings d_b_goings ["self", "number", "at"] (spT K (T_b_goings A))) (M_b_join : Meth K A.c_Book "join" f_b_join) (B_b_join : Binds K d_b_join ["self", "table", "one", "other", "known"] []) {f_b_decided : Addr} {d_b_decided : FuncData} (M_b_decided : Meth K A.c_Book "decided" f_b_decided) (B_b_decided : Binds K d_b_decided ["self", "at", "low", "high"] []) (G_b_decided : FnOk P w K mg base CX0 1 f_b_decided d_b_decided ["self", "at", "low", "high"] (spT K (T_b_decided A))) : ∀ d : Nat, FnOk P w K mg base CX0 (3 + d) f_b_join d_b_join ["self", "table", "one", "other", "known"] (spT K (T_b_join A d))
  | 0 => fn_no fun _ _ _ _ => no_spT fun _ _ _ _ h => no_b_join h
  | d + 1 => by
    have G_b_join := ok_b_join F NB M_b_level B_b_level G_b_level M_b_goings B_b_goings G_b_goings M_b_join B_b_join M_b_decided B_b_decided G_b_decided d
    exact F.ok (k := 3 + d) sc_b_join (fun vs H Q E h => spT_len (len_b_join _) h) fun cdv Ar outer s H vs Q E hr h => ⟨t_b_join K A d,
    (pss_cons (ps_if (PW.pt (pw_and (pt_cmpR x_lt (pv 2) pe_int (nomark _)) (pw_and1 (pt_cmpR x_lt (pv 3) pe_int (nomark _))))) (pss_one (ps_ret (pe_callTy x_intS (by rfl) NB.int (by decide +kernel) (pa_cons (pe_ix ix_seq (pv 1) (pe_op x_add (pe_op x_mul pe_int (pv 2)) (pv 3)) (fun _ _ => rfl)) pa_nil)))) pss_nil)
    (pss_cons (ps_if (pt_cmp (pc_dnotin (hu_of hr) (pe_tup (pa_cons (pv 2) (pa_cons (pv 3) pa_nil))) (pv 4)) rfl) (pss_cons (ps_set (i := 5) sc_b_join.nd rfl (by first | exact .inl rfl | exact .inr rfl) (pe_callB (x_min2 rfl) (by rfl) NB.min (by decide +kernel) (pa_cons (pe_meth (pv 0) NB.k_Book M_b_level G_b_level (hr.mono (by omega)) B_b_level .nil pass0 (pa_cons (pv 2) pa_nil)) (pa_cons (pe_meth (pv 0) NB.k_Book M_b_level G_b_level (hr.mono (by omega)) B_b_level .nil pass0 (pa_cons (pv 3) pa_nil)) pa_nil))))
    (pss_cons (ps_set (i := 6) sc_b_join.nd rfl (by first | exact .inl rfl | exact .inr rfl) (pe_meth (pv 0) NB.k_Book M_b_goings G_b_goings (hr.mono (by omega)) B_b_goings .nil pass0 (pa_cons (pv 2) (pa_cons (pv 5) pa_nil))))
    (pss_cons (ps_set (i := 7) sc_b_join.nd rfl (by first | exact .inl rfl | exact .inr rfl) (pe_meth (pv 0) NB.k_Book M_b_goings G_b_goings (hr.mono (by omega)) B_b_goings .nil pass0 (pa_cons (pv 3) (pa_cons (pv 5) pa_nil))))
    (pss_cons (ps_set (i := 8) sc_b_join.nd rfl (by first | exact .inl rfl | exact .inr rfl) (pe_meth (pv 0) NB.k_Book M_b_join G_b_join (hr.mono (by omega)) B_b_join .nil pass0 (pa_cons (pv 1) (pa_cons (pe_ix ix_seq (pv 6) pe_int (fun _ _ => rfl)) (pa_cons (pe_ix ix_seq (pv 7) pe_int (fun _ _ => rfl)) (pa_cons (pv 4) pa_nil))))))
    (pss_one (ps_dput (hu_of hr) (pv 4) (pe_tup (pa_cons (pv 2) (pa_cons (pv 3) pa_nil))) (pe_meth (pv 0) NB.k_Book M_b_decided G_b_decided (hr.mono (by omega)) B_b_decided .nil pass0 (pa_cons (pv 5) (pa_cons (pv 8) (pa_cons (pe_meth (pv 0) NB.k_Book M_b_join G_b_join (hr.mono (by omega)) B_b_join .nil pass0 (pa_cons (pv 1) (pa_cons (pe_ix ix_seq (pv 6) pe_int (fun _ _ => rfl)) (pa_cons (pe_ix ix_seq (pv 7) pe_int (fun _ _ => rfl)) (pa_cons (pv 4) pa_nil))))) pa_nil)))) rfl)))))) pss_nil)
    (pss_one (ps_ret (pe_dget (hu_of hr) (pv 4) (pe_tup (pa_cons (pv 2) (pa_cons (pv 3) pa_nil))) (fun _ _ => rfl)))))),
    body_ok (rd_b_join d E) h⟩
abbrev s_b_fix : Stmt := (inClass (topS 28) 10)
theorem sc_b_fix : FnScope ["self", "one", "at", "value", "known", "low"] ["self", "one", "at", "value", "known"] (defScope s_b_fix) := ⟨rfl, rfl, rfl, by decide +kernel, rfl, by decide +kernel, by decide +kernel⟩
theorem ok_b_fix {f_b_fix : Addr} {d_b_fix : FuncData} (F : Fun K "fix" "Book.fix" s_b_fix f_b_fix d_b_fix) (NB : NBs K mg w A) {f_b_level : Addr} {d_b_level : FuncData} (M_b_level : Meth K A.c_Book "level" f_b_level) (B_b_level : Binds K d_b_level ["self", "number"] []) (G_b_level : FnOk P w K mg base CX0 1 f_b_level d_b_level ["self", "number"] (spT K (T_b_level A))) (M_b_fix : Meth K A.c_Book "fix" f_b_fix) (B_b_fix : Binds K d_b_fix ["self", "one", "at", "value", "known"] []) {f_b_decided : Addr} {d_b_decided : FuncData} (M_b_decided : Meth K A.c_Book "decided" f_b_decided) (B_b_decided : Binds K d_b_decided ["self", "at", "low", "high"] []) (G_b_decided : FnOk P w K mg base CX0 1 f_b_decided d_b_decided ["self", "at", "low", "high"] (spT K (T_b_decided A))) : ∀ d : Nat, FnOk P w K mg base CX0 (2 + d) f_b_fix d_b_fix ["self", "one", "at", "value", "known"] (spT K (T_b_fix A d))
  | 0 => fn_no fun _ _ _ _ => no_spT fun _ _ _ _ h => no_b_fix h
  | d + 1 => by
    have G_b_fix := ok_b_fix F NB M_b_level B_b_level G_b_level M_b_fix B_b_fix M_b_decided B_b_decided G_b_decided d
    exact F.ok (k := 2 + d) sc_b_fix (fun vs H Q E h => spT_len (len_b_fix _) h) fun cdv Ar outer s H vs Q E hr h => ⟨t_b_fix K A d,
    (pss_cons (ps_if (pt_cmpR x_gt (pe_meth (pv 0) NB.k_Book M_b_level G_b_level (hr.mono (by omega)) B_b_level .nil pass0 (pa_cons (pv 1) pa_nil)) (pv 2) (nomark _)) (pss_one (ps_ret (pv 1))) pss_nil)
    (pss_cons (ps_if (pt_cmpR op_eq (pe_meth (pv 0) NB.k_Book M_b_level G_b_level (hr.mono (by omega)) B_b_level .nil pass0 (pa_cons (pv 1) pa_nil)) (pv 2) (nomark _)) (pss_one (ps_ret (pe_ix ix_seq (pe_ix ix_seq (pe_fld (pv 0) rfl) (pv 1) (fun _ _ => rfl)) (pe_op x_add pe_int (pv 3)) (fun _ _ => rfl)))) pss_nil)
    (pss_cons (ps_if (pt_cmp (pc_dnotin (hu_of hr) (pv 1) (pv 4)) rfl) (pss_cons (ps_set (i := 5) sc_b_fix.nd rfl (by first | exact .inl rfl | exact .inr rfl) (pe_meth (pv 0) NB.k_Book M_b_fix G_b_fix (hr.mono (by omega)) B_b_fix .nil pass0 (pa_cons (pe_ix ix_seq (pe_ix ix_seq (pe_fld (pv 0) rfl) (pv 1) (fun _ _ => rfl)) pe_int (fun _ _ => rfl)) (pa_cons (pv 2) (pa_cons (pv 3) (pa_cons (pv 4) pa_nil))))))
    (pss_one (ps_dput (hu_of hr) (pv 4) (pv 1) (pe_meth (pv 0) NB.k_Book M_b_decided G_b_decided (hr.mono (by omega)) B_b_decided .nil pass0 (pa_cons (pe_meth (pv 0) NB.k_Book M_b_level G_b_level (hr.mono (by omega)) B_b_level .nil pass0 (pa_cons (pv 1) pa_nil)) (pa_cons (pv 5) (pa_cons (pe_meth (pv 0) NB.k_Book M_b_fix G_b_fix (hr.mono (by omega)) B_b_fix .nil pass0 (pa_cons (pe_ix ix_seq (pe_ix ix_seq (pe_fld (pv 0) rfl) (pv 1) (fun _ _ => rfl)) pe_int (fun _ _ => rfl)) (pa_cons (pv 2) (pa_cons (pv 3) (pa_cons (pv 4) pa_nil))))) pa_nil)))) rfl))) pss_nil)
    (pss_one (ps_ret (pe_dget (hu_of hr) (pv 4) (pv 1) (fun _ _ => rfl))))))),
    body_ok (rd_b_fix d E) h⟩
abbrev s_b_entered : Stmt := (inClass (topS 28) 11)
theorem sc_b_entered : FnScope ["self", "sentence", "word", "inner", "at", "table", "one"] ["self", "sentence"] (defScope s_b_entered) := ⟨rfl, rfl, rfl, by decide +kernel, rfl, by decide +kernel, by decide +kernel⟩
theorem ok_b_entered {f_b_entered : Addr} {d_b_entered : FuncData} (F : Fun K "entered" "Book.entered" s_b_entered f_b_entered d_b_entered) (NB : NBs K mg w A) {f_b_decided : Addr} {d_b_decided : FuncData} (M_b_decided : Meth K A.c_Book "decided" f_b_decided) (B_b_decided : Binds K d_b_decided ["self", "at", "low", "high"] []) (G_b_decided : FnOk P w K mg base CX0 1 f_b_decided d_b_decided ["self", "at", "low", "high"] (spT K (T_b_decided A))) (M_b_entered : Meth K A.c_Book "entered" f_b_entered) (B_b_entered : Binds K d_b_entered ["self", "sentence"] []) {f_b_join : Addr} {d_b_join : FuncData} (M_b_join : Meth K A.c_Book "join" f_b_join) (B_b_join : Binds K d_b_join ["self", "table", "one", "other", "known"] []) (G_b_join : FnOk P w K mg base CX0 13 f_b_join d_b_join ["self", "table", "one", "other", "known"] (spT K (T_b_join A 10))) {f_b_fix : Addr} {d_b_fix : FuncData} (M_b_fix : Meth K A.c_Book "fix" f_b_fix) (B_b_fix : Binds K d_b_fix ["self", "one", "at", "value", "known"] []) (G_b_fix : FnOk P w K mg base CX0 12 f_b_fix d_b_fix ["self", "one", "at", "value", "known"] (spT K (T_b_fix A 10))) : ∀ d : Nat, FnOk P w K mg base CX0 (14 + d) f_b_entered d_b_entered ["self", "sentence"] (spT K (T_b_entered A d))
  | 0 => fn_no fun _ _ _ _ => no_spT fun _ _ _ _ h => no_b_entered h
  | d + 1 => by
    have G_b_entered := ok_b_entered F NB M_b_decided B_b_decided G_b_decided M_b_entered B_b_entered M_b_join B_b_join G_b_join M_b_fix B_b_fix G_b_fix d
    exact F.ok (k := 14 + d) sc_b_entered (fun vs H Q E h => spT_len (len_b_entered _) h) fun cdv Ar outer s H vs Q E hr h => ⟨t_b_entered K A d,
    (pss_cons (ps_set (i := 2) sc_b_entered.nd rfl (by first | exact .inl rfl | exact .inr rfl) (pe_ix ix_seq (pv 1) pe_int (fun _ _ => rfl)))
    (pss_cons (ps_if (pt_cmpR op_in_seq (pv 2) (pe_tup (pa_cons pe_str (pa_cons pe_str pa_nil))) rfl) (pss_one (ps_ret (pe_callTy x_int (by rfl) NB.int (by decide +kernel) (pa_cons (pe_cmpR op_eq (pv 2) pe_str (nomark _)) pa_nil)))) pss_nil)
    (pss_cons (ps_if (pt_cmpR op_eq (pv 2) pe_str (nomark _)) (pss_one (ps_ret (pe_meth (pv 0) NB.k_Book M_b_decided G_b_decided (hr.mono (by omega)) B_b_decided .nil pass0 (pa_cons (pe_bm PySem.F.plainAttrs_list PySem.F.slot_list_index PySem.F.type_list_index mt_index (pe_fld (pv 0) rfl) (pa_cons (pe_ix ix_seq (pv 1) pe_int (fun _ _ => rfl)) pa_nil)) (pa_cons pe_int (pa_cons pe_int pa_nil)))))) pss_nil)
    (pss_cons (ps_if (pt_cmpR op_in_seq (pv 2) (pe_tup (pa_cons pe_str (pa_cons pe_str pa_nil))) rfl) (pss_cons (ps_set (i := 3) sc_b_entered.nd rfl (by first | exact .inl rfl | exact .inr rfl) (pe_meth (pv 0) NB.k_Book M_b_entered G_b_entered (hr.mono (by omega)) B_b_entered .nil pass0 (pa_cons (pe_ix ix_seq (pv 1) pe_int (fun _ _ => rfl)) pa_nil)))
    (pss_cons (ps_set (i := 4) sc_b_entered.nd rfl (by first | exact .inl rfl | exact .inr rfl) (pe_bm PySem.F.plainAttrs_list PySem.F.slot_list_index PySem.F.type_list_index mt_index (pe_fld (pv 0) rfl) (pa_cons (pe_ix ix_seq (pv 1) pe_int (fun _ _ => rfl)) pa_nil)))
    (pss_cons (ps_set (i := 5) sc_b_entered.nd rfl (by first | exact .inl rfl | exact .inr rfl) (pe_ix ix_seq (pe_lst (pa_cons pe_str (pa_cons pe_str pa_nil))) (pe_callTy x_int (by rfl) NB.int (by decide +kernel) (pa_cons (pe_cmpR op_eq (pv 2) pe_str (nomark _)) pa_nil)) (fun _ _ => rfl)))
    (pss_one (ps_ret (pe_meth (pv 0) NB.k_Book M_b_join G_b_join (hr.mono (by omega)) B_b_join .nil pass0 (pa_cons (pv 5) (pa_cons (pe_meth (pv 0) NB.k_Book M_b_fix G_b_fix (hr.mono (by omega)) B_b_fix .nil pass0 (pa_cons (pv 3) (pa_cons (pv 4) (pa_cons pe_int (pa_cons pe_dnewK pa_nil))))) (pa_cons (pe_meth (pv 0) NB.k_Book M_b_fix G_b_fix (hr.mono (by omega)) B_b_fix .nil pass0 (pa_cons (pv 3) (pa_cons (pv 4) (pa_cons pe_int (pa_cons pe_dnewK pa_nil))))) (pa_cons pe_dnewT pa_nil)))))))))) pss_nil)
    (pss_cons (ps_set (i := 6) sc_b_entered.nd rfl (by first | exact .inl rfl | exact .inr rfl) (pe_meth (pv 0) NB.k_Book M_b_entered G_b_entered (hr.mono (by omega)) B_b_entered .nil pass0 (pa_cons (pe_ix ix_seq (pv 1) pe_int (fun _ _ => rfl)) pa_nil)))
    (pss_cons (ps_if (pt_cmpR op_eq (pv 2) pe_str (nomark _)) (pss_one (ps_ret (pe_meth (pv 0) NB.k_Book M_b_join G_b_join (hr.mono (by omega)) B_b_join .nil pass0 (pa_cons pe_str (pa_cons (pv 6) (pa_cons pe_int (pa_cons pe_dnewT pa_nil))))))) pss_nil)
    (pss_one (ps_ret (pe_meth (pv 0) NB.k_Book M_b_join G_b_join (hr.mono (by omega)) B_b_join .nil pass0 (pa_cons (pe_ix (x_ixKd NB.kd_TABLES) (pe_glob rfl NB.g_TABLES rfl) (pv 2) (fun _ _ => rfl)) (pa_cons (pv 6) (pa_cons (pe_meth (pv 0) NB.k_Book M_b_entered G_b_entered (hr.mono (by omega)) B_b_entered .nil pass0 (pa_cons (pe_ix ix_seq (pv 1) pe_int (fun _ _ => rfl)) pa_nil)) (pa_cons pe_dnewT pa_nil))))))))))))),
    body_ok (rd_b_entered d E) h⟩
abbrev s_b_enter : Stmt := (inClass (topS 28) 12)
theorem sc_b_enter : FnScope ["self", "sentence"] ["self", "sentence"] (defScope s_b_enter) := ⟨rfl, rfl, rfl, by decide +kernel, rfl, by decide +kernel, by decide +kernel⟩
theorem ok_b_enter {f_b_enter : Addr} {d_b_enter : FuncData} (F : Fun K "enter" "Book.enter" s_b_enter f_b_enter d_b_enter) (NB : NBs K mg w A) {f_ask_marks : Addr} {d_ask_marks : FuncData} (M_ask_marks : mg "ask_marks" = some (.ref f_ask_marks) ∧ PySem.W.keepIn K (.ref f_ask_marks) = true) (B_ask_marks : Binds K d_ask_marks ["sentence", "order"] []) (G_ask_marks : FnOk P w K mg base CX0 36 f_ask_marks d_ask_marks ["sentence", "order"] (spT K T_ask_marks)) {f_b_entered : Addr} {d_b_entered : FuncData} (M_b_entered : Meth K A.c_Book "entered" f_b_entered) (B_b_entered : Binds K d_b_entered ["self", "sentence"] []) (G_b_entered : FnOk P w K mg base CX0 39 f_b_entered d_b_entered ["self", "sentence"] (spT K (T_b_entered A 25))) : FnOk P w K mg base CX0 40 f_b_enter d_b_enter ["self", "sentence"] (spT K (T_b_enter A)) :=
  F.ok (k := 39) sc_b_enter (fun vs H Q E h => spT_len len_b_enter h) fun cdv Ar outer s H vs Q E hr h => ⟨t_b_enter K A,
    (pss_cons (ps_expr (pe_call G_ask_marks (hr.mono (by omega)) (by rfl) M_ask_marks.1 M_ask_marks.2 B_ask_marks .nil pass0 (pa_cons (pv 1) (pa_cons (pe_fld (pv 0) rfl) pa_nil))))
    (pss_one (ps_ret (pe_meth (pv 0) NB.k_Book M_b_entered G_b_entered (hr.mono (by omega)) B_b_entered .nil pass0 (pa_cons (pv 1) pa_nil))))),
    body_ok (rd_b_enter E) h⟩
abbrev s_parted : Stmt := (topS 30)
theorem sc_parted : FnScope ["book", "at", "low", "high", "known", "top", "left", "right", "first"] ["book", "at", "low", "high", "known"] (defScope s_parted) := ⟨rfl, rfl, rfl, by decide +kernel, rfl, by decide +kernel, by decide +kernel⟩
theorem ok_parted {f_parted : Addr} {d_parted : FuncData} (F : Fun K "parted" "parted" s_parted f_parted d_parted) (NB : NBs K mg w A) {f_b_level : Addr} {d_b_level : FuncData} (M_b_level : Meth K A.c_Book "level" f_b_level) (B_b_level : Binds K d_b_level ["self", "number"] []) (G_b_level : FnOk P w K mg base CX0 1 f_b_level d_b_level ["self", "number"] (spT K (T_b_level A))) {f_b_decided : Addr} {d_b_decided : FuncData} (M_b_decided : Meth K A.c_Book "decided" f_b_decided) (B_b_decided : Binds K d_b_decided ["self", "at", "low", "high"] []) (G_b_decided : FnOk P w K mg base CX0 1 f_b_decided d_b_decided ["self", "at", "low", "high"] (spT K (T_b_decided A))) {f_b_goings : Addr} {d_b_goings : FuncData} (M_b_goings : Meth K A.c_Book "goings" f_b_goings) (B_b_goings : Binds K d_b_goings ["self", "number", "at"] []) (G_b_goings : FnOk P w K mg base CX0 2 f_b_goings d_b_goings ["self", "number", "at"] (spT K (T_b_goings A))) (M_parted : mg "parted" = some (.ref f_parted) ∧ PySem.W.keepIn K (.ref f_parted) = true) (B_parted : Binds K d_parted ["book", "at", "low", "high", "known"] []) : ∀ d : Nat, FnOk P w K mg base CX0 (3 + d) f_parted d_parted ["book", "at", "low", "high", "known"] (spT K (T_parted A d))
  | 0 => fn_no fun _ _ _ _ => no_spT fun _ _ _ _ h => no_parted h
  | d + 1 => by
    have G_parted := ok_parted F NB M_b_level B_b_level G_b_level M_b_decided B_b_decided G_b_decided M_b_goings B_b_goings G_b_goings M_parted B_parted d
    exact F.ok (k := 3 + d) sc_parted (fun vs H Q E h => spT_len (len_parted _) h) fun cdv Ar outer s H vs Q E hr h => ⟨t_parted K A d,
    (pss_cons (ps_set (i := 5) sc_parted.nd rfl (by first | exact .inl rfl | exact .inr rfl) (pe_callB (x_min2 rfl) (by rfl) NB.min (by decide +kernel) (pa_cons (pe_meth (pv 0) NB.k_Book M_b_level G_b_level (hr.mono (by omega)) B_b_level .nil pass0 (pa_cons (pv 2) pa_nil)) (pa_cons (pe_meth (pv 0) NB.k_Book M_b_level G_b_level (hr.mono (by omega)) B_b_level .nil pass0 (pa_cons (pv 3) pa_nil)) pa_nil))))
    (pss_cons (ps_if (PW.pt (pw_or (pt_cmpR x_lt (pv 1) (pv 5) (nomark _)) (pw_or1 (pt_cmpR op_eq (pv 2) (pv 3) (nomark _))))) (pss_one (ps_ret (pe_meth (pv 0) NB.k_Book M_b_decided G_b_decided (hr.mono (by omega)) B_b_decided .nil pass0 (pa_cons (pv 1) (pa_cons (pv 2) (pa_cons (pv 3) pa_nil)))))) pss_nil)
    (pss_cons (ps_if (pt_cmp (pc_dnotin (hu_of hr) (pe_tup (pa_cons (pv 2) (pa_cons (pv 3) pa_nil))) (pv 4)) rfl) (pss_cons (ps_set (i := 6) sc_parted.nd rfl (by first | exact .inl rfl | exact .inr rfl) (pe_meth (pv 0) NB.k_Book M_b_goings G_b_goings (hr.mono (by omega)) B_b_goings .nil pass0 (pa_cons (pv 2) (pa_cons (pv 5) pa_nil))))
    (pss_cons (ps_set (i := 7) sc_parted.nd rfl (by first | exact .inl rfl | exact .inr rfl) (pe_meth (pv 0) NB.k_Book M_b_goings G_b_goings (hr.mono (by omega)) B_b_goings .nil pass0 (pa_cons (pv 3) (pa_cons (pv 5) pa_nil))))
    (pss_cons (ps_set (i := 8) sc_parted.nd rfl (by first | exact .inl rfl | exact .inr rfl) (pe_call G_parted (hr.mono (by omega)) (by rfl) M_parted.1 M_parted.2 B_parted .nil pass0 (pa_cons (pv 0) (pa_cons (pv 1) (pa_cons (pe_ix ix_seq (pv 6) pe_int (fun _ _ => rfl)) (pa_cons (pe_ix ix_seq (pv 7) pe_int (fun _ _ => rfl)) (pa_cons (pv 4) pa_nil)))))))
    (pss_one (ps_dput (hu_of hr) (pv 4) (pe_tup (pa_cons (pv 2) (pa_cons (pv 3) pa_nil))) (pe_meth (pv 0) NB.k_Book M_b_decided G_b_decided (hr.mono (by omega)) B_b_decided .nil pass0 (pa_cons (pv 5) (pa_cons (pv 8) (pa_cons (pe_call G_parted (hr.mono (by omega)) (by rfl) M_parted.1 M_parted.2 B_parted .nil pass0 (pa_cons (pv 0) (pa_cons (pv 1) (pa_cons (pe_ix ix_seq (pv 6) pe_int (fun _ _ => rfl)) (pa_cons (pe_ix ix_seq (pv 7) pe_int (fun _ _ => rfl)) (pa_cons (pv 4) pa_nil)))))) pa_nil)))) rfl))))) pss_nil)
    (pss_one (ps_ret (pe_dget (hu_of hr) (pv 4) (pe_tup (pa_cons (pv 2) (pa_cons (pv 3) pa_nil))) (fun _ _ => rfl))))))),
    body_ok (rd_parted d E) h⟩
abbrev s_moved : Stmt := (topS 31)
theorem sc_moved : FnScope ["book", "order", "other", "places", "mark", "low", "high"] ["book", "order"] (defScope s_moved) := ⟨rfl, rfl, rfl, by decide +kernel, rfl, by decide +kernel, by decide +kernel⟩
theorem ok_moved {f_moved : Addr} {d_moved : FuncData} (F : Fun K "moved" "moved" s_moved f_moved d_moved) (NB : NBs K mg w A) {f_b_init : Addr} {d_b_init : FuncData} (M_b_init : Mk K A.c_Book f_b_init) (B_b_init : Binds K d_b_init ["self", "order"] []) (G_b_init : FnOk P w K mg base CX0 4 f_b_init d_b_init ["self", "order"] (spT K (T_b_init A))) {f_parted : Addr} {d_parted : FuncData} (M_parted : mg "parted" = some (.ref f_parted) ∧ PySem.W.keepIn K (.ref f_parted) = true) (B_parted : Binds K d_parted ["book", "at", "low", "high", "known"] []) (G_parted : FnOk P w K mg base CX0 13 f_parted d_parted ["book", "at", "low", "high", "known"] (spT K (T_parted A 10))) : FnOk P w K mg base CX0 14 f_moved d_moved ["book", "order"] (spT K (T_moved A)) :=
  F.ok (k := 13) sc_moved (fun vs H Q E h => spT_len len_moved h) fun cdv Ar outer s H vs Q E hr h => ⟨t_moved K A,
    (pss_cons (ps_set (i := 2) sc_moved.nd rfl (by first | exact .inl rfl | exact .inr rfl) (pe_make M_b_init G_b_init (hr.mono (by omega)) (by rfl) NB.c_Book B_b_init .nil pass0 (pa_cons (pv 1) pa_nil)))
    (pss_cons (ps_set (i := 3) sc_moved.nd rfl (by first | exact .inl rfl | exact .inr rfl) (pe_lst (pa_cons pe_int (pa_cons pe_int pa_nil))))
    (pss_cons (ps_for PassesOwn.never rfl (pi_list (pe_slice sl_list (pe_fld (pv 0) rfl) (po_some pe_int) po_none)) (pg_tup rfl (pgs_cons (pg_name (i := 4) sc_moved.nd rfl (by first | exact .inl rfl | exact .inr rfl)) (pgs_cons (pg_name (i := 5) sc_moved.nd rfl (by first | exact .inl rfl | exact .inr rfl)) (pgs_cons (pg_name (i := 6) sc_moved.nd rfl (by first | exact .inl rfl | exact .inr rfl)) pgs_nil)))) (pss_one (ps_expr (pe_bm PySem.F.plainAttrs_list PySem.F.slot_list_append PySem.F.type_list_append mt_append (pv 3) (pa_cons (pe_call G_parted (hr.mono (by omega)) (by rfl) M_parted.1 M_parted.2 B_parted .nil pass0 (pa_cons (pv 2) (pa_cons (pe_bm PySem.F.plainAttrs_list PySem.F.slot_list_index PySem.F.type_list_index mt_index (pe_fld (pv 2) rfl) (pa_cons (pv 4) pa_nil)) (pa_cons (pe_ix ix_seq (pv 3) (pv 5) (fun _ _ => rfl)) (pa_cons (pe_ix ix_seq (pv 3) (pv 6) (fun _ _ => rfl)) (pa_cons pe_dnewT pa_nil)))))) pa_nil)))))
    (pss_one (ps_ret (pe_tup (pa_cons (pv 2) (pa_cons (pv 3) pa_nil)))))))),
    body_ok (rd_moved E) h⟩
abbrev s_reordered : Stmt := (topS 32)
theorem sc_reordered : FnScope ["book", "order"] ["book", "order"] (defScope s_reordered) := ⟨rfl, rfl, rfl, by decide +kernel, rfl, by decide +kernel, by decide +kernel⟩
theorem ok_reordered {f_reordered : Addr} {d_reordered : FuncData} (F : Fun K "reordered" "reordered" s_reordered f_reordered d_reordered) (NB : NBs K mg w A) {f_moved : Addr} {d_moved : FuncData} (M_moved : mg "moved" = some (.ref f_moved) ∧ PySem.W.keepIn K (.ref f_moved) = true) (B_moved : Binds K d_moved ["book", "order"] []) (G_moved : FnOk P w K mg base CX0 14 f_moved d_moved ["book", "order"] (spT K (T_moved A))) : FnOk P w K mg base CX0 15 f_reordered d_reordered ["book", "order"] (spT K (T_reordered A)) :=
  F.ok (k := 14) sc_reordered (fun vs H Q E h => spT_len len_reordered h) fun cdv Ar outer s H vs Q E hr h => ⟨t_reordered K A,
    (pss_cons (ps_if (pt_cmpR (op_neD hr.units) (pe_callB cr_sortedS (by rfl) NB.sorted (by decide +kernel) (pa_cons (pv 1) pa_nil)) (pe_callB cr_sortedS (by rfl) NB.sorted (by decide +kernel) (pa_cons (pe_fld (pv 0) rfl) pa_nil)) (nomark _)) (pss_one ps_never) pss_nil)
    (pss_one (ps_ret (pe_call G_moved (hr.mono (by omega)) (by rfl) M_moved.1 M_moved.2 B_moved .nil pass0 (pa_cons (pv 0) (pa_cons (pv 1) pa_nil)))))),
    body_ok (rd_reordered E) h⟩
abbrev s_ask_word : Stmt := (topS 34)
theorem sc_ask_word : FnScope ["word", "sign"] ["word"] (defScope s_ask_word) := ⟨rfl, rfl, rfl, by decide +kernel, rfl, by decide +kernel, by decide +kernel⟩
theorem ok_ask_word {f_ask_word : Addr} {d_ask_word : FuncData} (F : Fun K "ask_word" "ask_word" s_ask_word f_ask_word d_ask_word) (NB : NBs K mg w A) : FnOk P w K mg base CX0 1 f_ask_word d_ask_word ["word"] (spT K T_ask_word) :=
  F.ok (k := 0) sc_ask_word (fun vs H Q E h => spT_len len_ask_word h) fun cdv Ar outer s H vs Q E hr h => ⟨t_ask_word K,
    (pss_one (ps_if (PW.pt (pw_or (pt_cmpR op_ne (pe_callB x_len (by rfl) NB.len PySem.boot_len (pa_cons (pv 0) pa_nil)) pe_int (nomark _)) (pw_or1 (pt_not (pt_val (pe_callB (cr_all rfl) (by rfl) NB.all (by decide +kernel) (pa_cons (pe_lc (own := [("sign", 1)]) (g := (gName 1)) (tt := tYes) (by rfl) sc_ask_word.nd (pi_str (pv 0)) (blkOk_by (own := [("sign", 1)]) (N := ["word", "sign"]) (sc := defScope s_ask_word) (by decide +kernel)) (fun _ _ _ _ _ => (pg_name (i := 1) sc_ask_word.nd rfl (by first | exact .inl rfl | exact .inr rfl))) (fun _ _ _ _ _ => pts_nil) (fun _ _ _ _ _ => (pe_cmpR op_inS (pv 1) pe_str rfl))) pa_nil))))))) (pss_one ps_never) pss_nil)),
    body_ok (rd_ask_word E) h⟩
abbrev s_joined : Stmt := (topS 35)
theorem sc_joined : FnScope ["book", "word", "one", "other"] ["book", "word", "one", "other"] (defScope s_joined) := ⟨rfl, rfl, rfl, by decide +kernel, rfl, by decide +kernel, by decide +kernel⟩
theorem ok_joined {f_joined : Addr} {d_joined : FuncData} (F : Fun K "joined" "joined" s_joined f_joined d_joined) (NB : NBs K mg w A) {f_b_ask_room : Addr} {d_b_ask_room : FuncData} (M_b_ask_room : Meth K A.c_Book "ask_room" f_b_ask_room) (B_b_ask_room : Binds K d_b_ask_room ["self", "number"] []) (G_b_ask_room : FnOk P w K mg base CX0 1 f_b_ask_room d_b_ask_room ["self", "number"] (spT K (T_b_ask_room A))) {f_ask_word : Addr} {d_ask_word : FuncData} (M_ask_word : mg "ask_word" = some (.ref f_ask_word) ∧ PySem.W.keepIn K (.ref f_ask_word) = true) (B_ask_word : Binds K d_ask_word ["word"] []) (G_ask_word : FnOk P w K mg base CX0 1 f_ask_word d_ask_word ["word"] (spT K T_ask_word)) {f_b_join : Addr} {d_b_join : FuncData} (M_b_join : Meth K A.c_Book "join" f_b_join) (B_b_join : Binds K d_b_join ["self", "table", "one", "other", "known"] []) (G_b_join : FnOk P w K mg base CX0 13 f_b_join d_b_join ["self", "table", "one", "other", "known"] (spT K (T_b_join A 10))) : FnOk P w K mg base CX0 14 f_joined d_joined ["book", "word", "one", "other"] (spT K (T_joined A)) :=
  F.ok (k := 13) sc_joined (fun vs H Q E h => spT_len len_joined h) fun cdv Ar outer s H vs Q E hr h => ⟨t_joined K A,
    (pss_cons (ps_expr (pe_meth (pv 0) NB.k_Book M_b_ask_room G_b_ask_room (hr.mono (by omega)) B_b_ask_room .nil pass0 (pa_cons (pv 2) pa_nil)))
    (pss_cons (ps_expr (pe_meth (pv 0) NB.k_Book M_b_ask_room G_b_ask_room (hr.mono (by omega)) B_b_ask_room .nil pass0 (pa_cons (pv 3) pa_nil)))
    (pss_cons (ps_expr (pe_call G_ask_word (hr.mono (by omega)) (by rfl) M_ask_word.1 M_ask_word.2 B_ask_word .nil pass0 (pa_cons (pv 1) pa_nil)))
    (pss_one (ps_ret (pe_meth (pv 0) NB.k_Book M_b_join G_b_join (hr.mono (by omega)) B_b_join .nil pass0 (pa_cons (pv 1) (pa_cons (pv 2) (pa_cons (pv 3) (pa_cons pe_dnewT pa_nil)))))))))),
    body_ok (rd_joined E) h⟩
abbrev s_turned : Stmt := (topS 36)
theorem sc_turned : FnScope ["book", "one"] ["book", "one"] (defScope s_turned) := ⟨rfl, rfl, rfl, by decide +kernel, rfl, by decide +kernel, by decide +kernel⟩
theorem ok_turned {f_turned : Addr} {d_turned : FuncData} (F : Fun K "turned" "turned" s_turned f_turned d_turned) (NB : NBs K mg w A) {f_b_ask_room : Addr} {d_b_ask_room : FuncData} (M_b_ask_room : Meth K A.c_Book "ask_room" f_b_ask_room) (B_b_ask_room : Binds K d_b_ask_room ["self", "number"] []) (G_b_ask_room : FnOk P w K mg base CX0 1 f_b_ask_room d_b_ask_room ["self", "number"] (spT K (T_b_ask_room A))) {f_b_join : Addr} {d_b_join : FuncData} (M_b_join : Meth K A.c_Book "join" f_b_join) (B_b_join : Binds K d_b_join ["self", "table", "one", "other", "known"] []) (G_b_join : FnOk P w K mg base CX0 13 f_b_join d_b_join ["self", "table", "one", "other", "known"] (spT K (T_b_join A 10))) : FnOk P w K mg base CX0 14 f_turned d_turned ["book", "one"] (spT K (T_turned A)) :=
  F.ok (k := 13) sc_turned (fun vs H Q E h => spT_len len_turned h) fun cdv Ar outer s H vs Q E hr h => ⟨t_turned K A,
    (pss_cons (ps_expr (pe_meth (pv 0) NB.k_Book M_b_ask_room G_b_ask_room (hr.mono (by omega)) B_b_ask_room .nil pass0 (pa_cons (pv 1) pa_nil)))
    (pss_one (ps_ret (pe_meth (pv 0) NB.k_Book M_b_join G_b_join (hr.mono (by omega)) B_b_join .nil pass0 (pa_cons pe_str (pa_cons (pv 1) (pa_cons pe_int (pa_cons pe_dnewT pa_nil)))))))),
    body_ok (rd_turned E) h⟩
abbrev s_held : Stmt := (topS 37)
theorem sc_held : FnScope ["book", "one", "mark", "value"] ["book", "one", "mark", "value"] (defScope s_held) := ⟨rfl, rfl, rfl, by decide +kernel, rfl, by decide +kernel, by decide +kernel⟩
theorem ok_held {f_held : Addr} {d_held : FuncData} (F : Fun K "held" "held" s_held f_held d_held) (NB : NBs K mg w A) {f_b_ask_mark : Addr} {d_b_ask_mark : FuncData} (M_b_ask_mark : Meth K A.c_Book "ask_mark" f_b_ask_mark) (B_b_ask_mark : Binds K d_b_ask_mark ["self", "mark"] []) (G_b_ask_mark : FnOk P w K mg base CX0 1 f_b_ask_mark d_b_ask_mark ["self", "mark"] (spT K (T_b_ask_mark A))) {f_b_ask_room : Addr} {d_b_ask_room : FuncData} (M_b_ask_room : Meth K A.c_Book "ask_room" f_b_ask_room) (B_b_ask_room : Binds K d_b_ask_room ["self", "number"] []) (G_b_ask_room : FnOk P w K mg base CX0 1 f_b_ask_room d_b_ask_room ["self", "number"] (spT K (T_b_ask_room A))) {f_b_fix : Addr} {d_b_fix : FuncData} (M_b_fix : Meth K A.c_Book "fix" f_b_fix) (B_b_fix : Binds K d_b_fix ["self", "one", "at", "value", "known"] []) (G_b_fix : FnOk P w K mg base CX0 12 f_b_fix d_b_fix ["self", "one", "at", "value", "known"] (spT K (T_b_fix A 10))) : FnOk P w K mg base CX0 13 f_held d_held ["book", "one", "mark", "value"] (spT K (T_held A)) :=
  F.ok (k := 12) sc_held (fun vs H Q E h => spT_len len_held h) fun cdv Ar outer s H vs Q E hr h => ⟨t_held K A,
    (pss_cons (ps_expr (pe_meth (pv 0) NB.k_Book M_b_ask_mark G_b_ask_mark (hr.mono (by omega)) B_b_ask_mark .nil pass0 (pa_cons (pv 2) pa_nil)))
    (pss_cons (ps_expr (pe_meth (pv 0) NB.k_Book M_b_ask_room G_b_ask_room (hr.mono (by omega)) B_b_ask_room .nil pass0 (pa_cons (pv 1) pa_nil)))
    (pss_cons (ps_if (pt_cmpR op_notIn_seq (pv 3) (pe_tup (pa_cons pe_int (pa_cons pe_int pa_nil))) rfl) (pss_one ps_never) pss_nil)
    (pss_one (ps_ret (pe_meth (pv 0) NB.k_Book M_b_fix G_b_fix (hr.mono (by omega)) B_b_fix .nil pass0 (pa_cons (pv 1) (pa_cons (pe_bm PySem.F.plainAttrs_list PySem.F.slot_list_index PySem.F.type_list_index mt_index (pe_fld (pv 0) rfl) (pa_cons (pv 2) pa_nil)) (pa_cons (pv 3) (pa_cons pe_dnewK pa_nil)))))))))),
    body_ok (rd_held E) h⟩
abbrev s_law_cell_at : Stmt := (topS 39)
theorem sc_law_cell_at : FnScope ["script", "k"] ["script", "k"] (defScope s_law_cell_at) := ⟨rfl, rfl, rfl, by decide +kernel, rfl, by decide +kernel, by decide +kernel⟩
theorem ok_law_cell_at {f_law_cell_at : Addr} {d_law_cell_at : FuncData} (F : Fun K "_law_cell_at" "_law_cell_at" s_law_cell_at f_law_cell_at d_law_cell_at) (NB : NBs K mg w A) : FnOk P w K mg base CX0 1 f_law_cell_at d_law_cell_at ["script", "k"] (spT K T_law_cell_at) :=
  F.ok (k := 0) sc_law_cell_at (fun vs H Q E h => spT_len len_law_cell_at h) fun cdv Ar outer s H vs Q E hr h => ⟨t_law_cell_at K,
    (pss_cons (ps_if (pt_cmpR x_lt (pv 1) (pe_callB x_len (by rfl) NB.len PySem.boot_len (pa_cons (pv 0) pa_nil)) (nomark _)) (pss_one (ps_ret (pe_ix ix_seq (pv 0) (pv 1) (fun _ _ => rfl)))) pss_nil)
    (pss_one (ps_ret pe_int))),
    body_ok (rd_law_cell_at E) h⟩
abbrev s_law_draw : Stmt := (topS 40)
theorem sc_law_draw : FnScope ["cell", "k", "bound", "left", "j", "stir"] ["cell", "k", "bound"] (defScope s_law_draw) := ⟨rfl, rfl, rfl, by decide +kernel, rfl, by decide +kernel, by decide +kernel⟩
theorem ok_law_draw {f_law_draw : Addr} {d_law_draw : FuncData} (F : Fun K "_law_draw" "_law_draw" s_law_draw f_law_draw d_law_draw) (NB : NBs K mg w A) : FnOk P w K mg base CX0 1 f_law_draw d_law_draw ["cell", "k", "bound"] (spT K T_law_draw) :=
  F.ok (k := 0) sc_law_draw (fun vs H Q E h => spT_len len_law_draw h) fun cdv Ar outer s H vs Q E hr h => ⟨t_law_draw K,
    (pss_cons (ps_if (pt_cmpR x_ge (pv 0) (pe_op x_pow pe_int pe_int) (nomark _)) (pss_cons (ps_set (i := 3) sc_law_draw.nd rfl (by first | exact .inl rfl | exact .inr rfl) (pv 0))
    (pss_cons (ps_for PassesOwn.never rfl (pi_range1 (by rfl) NB.range (pa_cons (pv 1) pa_nil)) (pg_name (i := 4) sc_law_draw.nd rfl (by first | exact .inl rfl | exact .inr rfl)) (pss_one (ps_set (i := 3) sc_law_draw.nd rfl (by first | exact .inl rfl | exact .inr rfl) (pe_op x_fdiv (pv 3) (pv 2)))))
    (pss_one (ps_ret (pe_op x_mod (pv 3) (pv 2)))))) pss_nil)
    (pss_cons (ps_set (i := 5) sc_law_draw.nd rfl (by first | exact .inl rfl | exact .inr rfl) (pe_op x_mod (pe_op x_mul (pe_op x_add (pe_op x_add (pe_op x_mod (pv 0) pe_int) (pe_op x_mul pe_int (pv 1))) pe_int) pe_int) pe_int))
    (pss_cons (ps_set (i := 5) sc_law_draw.nd rfl (by first | exact .inl rfl | exact .inr rfl) (pe_op x_mod (pe_op x_add (pe_op x_add (pe_op x_mul (pv 5) (pv 5)) (pe_op x_mul pe_int (pv 1))) pe_int) pe_int))
    (pss_one (ps_ret (pe_op x_mod (pe_op x_fdiv (pe_op x_mod (pe_op x_mul (pv 5) pe_int) pe_int) pe_int) (pv 2))))))),
    body_ok (rd_law_draw E) h⟩
abbrev s_law_order : Stmt := (topS 41)
theorem sc_law_order : FnScope ["cell", "limit", "found", "k"] ["cell", "limit"] (defScope s_law_order) := ⟨rfl, rfl, rfl, by decide +kernel, rfl, by decide +kernel, by decide +kernel⟩
theorem ok_law_order {f_law_order : Addr} {d_law_order : FuncData} (F : Fun K "_law_order" "_law_order" s_law_order f_law_order d_law_order) (NB : NBs K mg w A) {f_law_draw : Addr} {d_law_draw : FuncData} (M_law_draw : mg "_law_draw" = some (.ref f_law_draw) ∧ PySem.W.keepIn K (.ref f_law_draw) = true) (B_law_draw : Binds K d_law_draw ["cell", "k", "bound"] []) (G_law_draw : FnOk P w K mg base CX0 1 f_law_draw d_law_draw ["cell", "k", "bound"] (spT K T_law_draw)) : FnOk P w K mg base CX0 2 f_law_order d_law_order ["cell", "limit"] (spT K T_law_order) :=
  F.ok (k := 1) sc_law_order (fun vs H Q E h => spT_len len_law_order h) fun cdv Ar outer s H vs Q E hr h => ⟨t_law_order K,
    (pss_cons (ps_set (i := 2) sc_law_order.nd rfl (by first | exact .inl rfl | exact .inr rfl) (pe_lst pa_nil))
    (pss_cons (ps_for PassesOwn.never rfl (pi_range1 (by rfl) NB.range (pa_cons (pe_op x_add pe_int (pe_call G_law_draw (hr.mono (by omega)) (by rfl) M_law_draw.1 M_law_draw.2 B_law_draw .nil pass0 (pa_cons (pv 0) (pa_cons pe_int (pa_cons (pv 1) pa_nil))))) pa_nil)) (pg_name (i := 3) sc_law_order.nd rfl (by first | exact .inl rfl | exact .inr rfl)) (pss_one (ps_expr (pe_bm PySem.F.plainAttrs_list PySem.F.slot_list_insert PySem.F.type_list_insert x_insert (pv 2) (pa_cons (pe_op x_mod (pe_call G_law_draw (hr.mono (by omega)) (by rfl) M_law_draw.1 M_law_draw.2 B_law_draw .nil pass0 (pa_cons (pv 0) (pa_cons (pe_op x_add pe_int (pv 3)) (pa_cons pe_int pa_nil)))) (pe_op x_add (pv 3) pe_int)) (pa_cons (pe_ix ix_seq pe_str (pv 3) (fun _ _ => rfl)) pa_nil))))))
    (pss_one (ps_ret (pv 2))))),
    body_ok (rd_law_order E) h⟩
abbrev s_law_sentence : Stmt := (topS 42)
theorem sc_law_sentence : FnScope ["script", "at", "many", "order", "kinds", "made", "k", "cell", "kind", "one", "other", "letter"] ["script", "at", "many", "order"] (defScope s_law_sentence) := ⟨rfl, rfl, rfl, by decide +kernel, rfl, by decide +kernel, by decide +kernel⟩
theorem ok_law_sentence {f_law_sentence : Addr} {d_law_sentence : FuncData} (F : Fun K "_law_sentence" "_law_sentence" s_law_sentence f_law_sentence d_law_sentence) (NB : NBs K mg w A) {f_law_draw : Addr} {d_law_draw : FuncData} (M_law_draw : mg "_law_draw" = some (.ref f_law_draw) ∧ PySem.W.keepIn K (.ref f_law_draw) = true) (B_law_draw : Binds K d_law_draw ["cell", "k", "bound"] []) (G_law_draw : FnOk P w K mg base CX0 1 f_law_draw d_law_draw ["cell", "k", "bound"] (spT K T_law_draw)) {f_law_cell_at : Addr} {d_law_cell_at : FuncData} (M_law_cell_at : mg "_law_cell_at" = some (.ref f_law_cell_at) ∧ PySem.W.keepIn K (.ref f_law_cell_at) = true) (B_law_cell_at : Binds K d_law_cell_at ["script", "k"] []) (G_law_cell_at : FnOk P w K mg base CX0 1 f_law_cell_at d_law_cell_at ["script", "k"] (spT K T_law_cell_at)) : FnOk P w K mg base CX0 2 f_law_sentence d_law_sentence ["script", "at", "many", "order"] (spT K T_law_sentence) :=
  F.ok (k := 1) sc_law_sentence (fun vs H Q E h => spT_len len_law_sentence h) fun cdv Ar outer s H vs Q E hr h => ⟨t_law_sentence K,
    (pss_cons (ps_set (i := 4) sc_law_sentence.nd rfl (by first | exact .inl rfl | exact .inr rfl) (pe_lst (pa_cons pe_str (pa_cons pe_str (pa_cons pe_str (pa_cons pe_str (pa_cons pe_str (pa_cons pe_str (pa_cons pe_str (pa_cons pe_str (pa_cons pe_str (pa_cons pe_str (pa_cons pe_str (pa_cons pe_str (pa_cons pe_str (pa_cons pe_str pa_nil))))))))))))))))
    (pss_cons (ps_set (i := 5) sc_law_sentence.nd rfl (by first | exact .inl rfl | exact .inr rfl) (pe_lst (pa_cons (pe_tup (pa_cons pe_str (pa_cons (pe_ix ix_seq (pv 3) (pe_op x_mod (pe_call G_law_draw (hr.mono (by omega)) (by rfl) M_law_draw.1 M_law_draw.2 B_law_draw .nil pass0 (pa_cons (pe_call G_law_cell_at (hr.mono (by omega)) (by rfl) M_law_cell_at.1 M_law_cell_at.2 B_law_cell_at .nil pass0 (pa_cons (pv 0) (pa_cons (pv 1) pa_nil))) (pa_cons pe_int (pa_cons pe_int pa_nil)))) (pe_callB x_len (by rfl) NB.len PySem.boot_len (pa_cons (pv 3) pa_nil))) (fun _ _ => rfl)) pa_nil))) pa_nil)))
    (pss_cons (ps_for PassesOwn.never rfl (pi_range2 (by rfl) NB.range (pa_cons pe_int (pa_cons (pv 2) pa_nil))) (pg_name (i := 6) sc_law_sentence.nd rfl (by first | exact .inl rfl | exact .inr rfl)) (pss_cons (ps_set (i := 7) sc_law_sentence.nd rfl (by first | exact .inl rfl | exact .inr rfl) (pe_call G_law_cell_at (hr.mono (by omega)) (by rfl) M_law_cell_at.1 M_law_cell_at.2 B_law_cell_at .nil pass0 (pa_cons (pv 0) (pa_cons (pe_op x_add (pv 1) (pv 6)) pa_nil))))
    (pss_cons (ps_set (i := 8) sc_law_sentence.nd rfl (by first | exact .inl rfl | exact .inr rfl) (pe_ix ix_seq (pv 4) (pe_call G_law_draw (hr.mono (by omega)) (by rfl) M_law_draw.1 M_law_draw.2 B_law_draw .nil pass0 (pa_cons (pv 7) (pa_cons pe_int (pa_cons pe_int pa_nil)))) (fun _ _ => rfl)))
    (pss_cons (ps_set (i := 9) sc_law_sentence.nd rfl (by first | exact .inl rfl | exact .inr rfl) (pe_ix ix_seq (pv 5) (pe_op x_sub (pe_un x_neg pe_int) (pe_op x_mod (pe_call G_law_draw (hr.mono (by omega)) (by rfl) M_law_draw.1 M_law_draw.2 B_law_draw .nil pass0 (pa_cons (pv 7) (pa_cons pe_int (pa_cons pe_int pa_nil)))) (pe_callB x_len (by rfl) NB.len PySem.boot_len (pa_cons (pv 5) pa_nil)))) (fun _ _ => rfl)))
    (pss_cons (ps_set (i := 10) sc_law_sentence.nd rfl (by first | exact .inl rfl | exact .inr rfl) (pe_ix ix_seq (pv 5) (pe_op x_mod (pe_call G_law_draw (hr.mono (by omega)) (by rfl) M_law_draw.1 M_law_draw.2 B_law_draw .nil pass0 (pa_cons (pv 7) (pa_cons pe_int (pa_cons pe_int pa_nil)))) (pe_callB x_len (by rfl) NB.len PySem.boot_len (pa_cons (pv 5) pa_nil))) (fun _ _ => rfl)))
    (pss_cons (ps_set (i := 11) sc_law_sentence.nd rfl (by first | exact .inl rfl | exact .inr rfl) (pe_ix ix_seq (pv 3) (pe_op x_mod (pe_call G_law_draw (hr.mono (by omega)) (by rfl) M_law_draw.1 M_law_draw.2 B_law_draw .nil pass0 (pa_cons (pv 7) (pa_cons pe_int (pa_cons pe_int pa_nil)))) (pe_callB x_len (by rfl) NB.len PySem.boot_len (pa_cons (pv 3) pa_nil))) (fun _ _ => rfl)))
    (pss_one (ps_if (PW.pt (pw_or (pt_cmpR op_eq (pv 8) pe_str (nomark _)) (pw_or1 (pt_cmpR op_eq (pv 8) pe_str (nomark _))))) (pss_one (ps_expr (pe_bm PySem.F.plainAttrs_list PySem.F.slot_list_append PySem.F.type_list_append mt_append (pv 5) (pa_cons (pe_tup (pa_cons (pv 8) pa_nil)) pa_nil)))) (pss_one (ps_if (pt_cmpR op_eq (pv 8) pe_str (nomark _)) (pss_one (ps_expr (pe_bm PySem.F.plainAttrs_list PySem.F.slot_list_append PySem.F.type_list_append mt_append (pv 5) (pa_cons (pe_tup (pa_cons pe_str (pa_cons (pv 11) pa_nil))) pa_nil)))) (pss_one (ps_if (pt_cmpR op_eq (pv 8) pe_str (nomark _)) (pss_one (ps_expr (pe_bm PySem.F.plainAttrs_list PySem.F.slot_list_append PySem.F.type_list_append mt_append (pv 5) (pa_cons (pe_tup (pa_cons pe_str (pa_cons (pv 9) pa_nil))) pa_nil)))) (pss_one (ps_if (PW.pt (pw_or (pt_cmpR op_eq (pv 8) pe_str (nomark _)) (pw_or1 (pt_cmpR op_eq (pv 8) pe_str (nomark _))))) (pss_one (ps_expr (pe_bm PySem.F.plainAttrs_list PySem.F.slot_list_append PySem.F.type_list_append mt_append (pv 5) (pa_cons (pe_tup (pa_cons (pv 8) (pa_cons (pv 11) (pa_cons (pv 9) pa_nil)))) pa_nil)))) (pss_one (ps_expr (pe_bm PySem.F.plainAttrs_list PySem.F.slot_list_append PySem.F.type_list_append mt_append (pv 5) (pa_cons (pe_tup (pa_cons (pv 8) (pa_cons (pv 10) (pa_cons (pv 9) pa_nil)))) pa_nil))))))))))))))))))
    (pss_one (ps_ret (pe_ix ix_seq (pv 5) (pe_un x_neg pe_int) (fun _ _ => rfl))))))),
    body_ok (rd_law_sentence E) h⟩
abbrev s_law : Stmt := (topS 43)
theorem sc_law : FnScope ["script", "order", "book", "some", "rooms", "cell", "other", "k", "mark", "word", "here", "hall", "places", "there", "found", "last", "back", "more", "sentence", "room"] ["script"] (defScope s_law) := ⟨rfl, rfl, rfl, by decide +kernel, rfl, by decide +kernel, by decide +kernel⟩
theorem ok_law {f_law : Addr} {d_law : FuncData} (F : Fun K "law" "law" s_law f_law d_law) (NB : NBs K mg w A) {f_law_order : Addr} {d_law_order : FuncData} (M_law_order : mg "_law_order" = some (.ref f_law_order) ∧ PySem.W.keepIn K (.ref f_law_order) = true) (B_law_order : Binds K d_law_order ["cell", "limit"] []) (G_law_order : FnOk P w K mg base CX0 2 f_law_order d_law_order ["cell", "limit"] (spT K T_law_order)) {f_law_cell_at : Addr} {d_law_cell_at : FuncData} (M_law_cell_at : mg "_law_cell_at" = some (.ref f_law_cell_at) ∧ PySem.W.keepIn K (.ref f_law_cell_at) = true) (B_law_cell_at : Binds K d_law_cell_at ["script", "k"] []) (G_law_cell_at : FnOk P w K mg base CX0 1 f_law_cell_at d_law_cell_at ["script", "k"] (spT K T_law_cell_at)) {f_b_init : Addr} {d_b_init : FuncData} (M_b_init : Mk K A.c_Book f_b_init) (B_b_init : Binds K d_b_init ["self", "order"] []) (G_b_init : FnOk P w K mg base CX0 4 f_b_init d_b_init ["self", "order"] (spT K (T_b_init A))) {f_law_sentence : Addr} {d_law_sentence : FuncData} (M_law_sentence : mg "_law_sentence" = some (.ref f_law_sentence) ∧ PySem.W.keepIn K (.ref f_law_sentence) = true) (B_law_sentence : Binds K d_law_sentence ["script", "at", "many", "order"] []) (G_law_sentence : FnOk P w K mg base CX0 2 f_law_sentence d_law_sentence ["script", "at", "many", "order"] (spT K T_law_sentence)) {f_law_draw : Addr} {d_law_draw : FuncData} (M_law_draw : mg "_law_draw" = some (.ref f_law_draw) ∧ PySem.W.keepIn K (.ref f_law_draw) = true) (B_law_draw : Binds K d_law_draw ["cell", "k", "bound"] []) (G_law_draw : FnOk P w K mg base CX0 1 f_law_draw d_law_draw ["cell", "k", "bound"] (spT K T_law_draw)) {f_b_enter : Addr} {d_b_enter : FuncData} (M_b_enter : Meth K A.c_Book "enter" f_b_enter) (B_b_enter : Binds K d_b_enter ["self", "sentence"] []) (G_b_enter : FnOk P w K mg base CX0 40 f_b_enter d_b_enter ["self", "sentence"] (spT K (T_b_enter A))) {f_joined : Addr} {d_joined : FuncData} (M_joined : mg "joined" = some (.ref f_joined) ∧ PySem.W.keepIn K (.ref f_joined) = true) (B_joined : Binds K d_joined ["book", "word", "one", "other"] []) (G_joined : FnOk P w K mg base CX0 14 f_joined d_joined ["book", "word", "one", "other"] (spT K (T_joined A))) {f_turned : Addr} {d_turned : FuncData} (M_turned : mg "turned" = some (.ref f_turned) ∧ PySem.W.keepIn K (.ref f_turned) = true) (B_turned : Binds K d_turned ["book", "one"] []) (G_turned : FnOk P w K mg base CX0 14 f_turned d_turned ["book", "one"] (spT K (T_turned A))) {f_held : Addr} {d_held : FuncData} (M_held : mg "held" = some (.ref f_held) ∧ PySem.W.keepIn K (.ref f_held) = true) (B_held : Binds K d_held ["book", "one", "mark", "value"] []) (G_held : FnOk P w K mg base CX0 13 f_held d_held ["book", "one", "mark", "value"] (spT K (T_held A))) {f_reordered : Addr} {d_reordered : FuncData} (M_reordered : mg "reordered" = some (.ref f_reordered) ∧ PySem.W.keepIn K (.ref f_reordered) = true) (B_reordered : Binds K d_reordered ["book", "order"] []) (G_reordered : FnOk P w K mg base CX0 15 f_reordered d_reordered ["book", "order"] (spT K (T_reordered A))) : FnOk P w K mg base CX0 41 f_law d_law ["script"] (spT K T_law) :=
  F.ok (k := 40) sc_law (fun vs H Q E h => spT_len len_law h) fun cdv Ar outer s H vs Q E hr h => ⟨t_law K A,
    (pss_cons (ps_set (i := 1) sc_law.nd rfl (by first | exact .inl rfl | exact .inr rfl) (pe_call G_law_order (hr.mono (by omega)) (by rfl) M_law_order.1 M_law_order.2 B_law_order .nil pass0 (pa_cons (pe_call G_law_cell_at (hr.mono (by omega)) (by rfl) M_law_cell_at.1 M_law_cell_at.2 B_law_cell_at .nil pass0 (pa_cons (pv 0) (pa_cons pe_int pa_nil))) (pa_cons (pe_ix ix_seq (pe_lst (pa_cons pe_int (pa_cons pe_int pa_nil))) (pe_callTy x_int (by rfl) NB.int (by decide +kernel) (pa_cons (pe_cmpR op_eq (pe_op x_mod (pe_call G_law_cell_at (hr.mono (by omega)) (by rfl) M_law_cell_at.1 M_law_cell_at.2 B_law_cell_at .nil pass0 (pa_cons (pv 0) (pa_cons pe_int pa_nil))) pe_int) pe_int (nomark _)) pa_nil)) (fun _ _ => rfl)) pa_nil))))
    (pss_cons (ps_set (i := 2) sc_law.nd rfl (by first | exact .inl rfl | exact .inr rfl) (pe_make M_b_init G_b_init (hr.mono (by omega)) (by rfl) NB.c_Book B_b_init .nil pass0 (pa_cons (pv 1) pa_nil)))
    (pss_cons (ps_setLc (i := 3) (own := [("k", 7)]) (g := (gName 7)) (tt := tYes) (by rfl) sc_law.nd rfl rfl (sw_true rfl rfl rfl (by decide +kernel)) (pi_range1 (by rfl) NB.range (pa_cons pe_int pa_nil)) (blkOk_by (own := [("k", 7)]) (N := ["script", "order", "book", "some", "rooms", "cell", "other", "k", "mark", "word", "here", "hall", "places", "there", "found", "last", "back", "more", "sentence", "room"]) (sc := defScope s_law) (by decide +kernel)) (fun _ _ _ _ _ => (pg_name (i := 7) sc_law.nd rfl (by first | exact .inl rfl | exact .inr rfl))) (fun _ _ _ _ _ => pts_nil) (fun _ _ _ _ _ => (pe_call G_law_sentence (hr.mono (by omega)) (by rfl) M_law_sentence.1 M_law_sentence.2 B_law_sentence .nil pass0 (pa_cons (pv 0) (pa_cons (pe_op x_add pe_int (pe_op x_mul pe_int (pv 7))) (pa_cons (pe_op x_add pe_int (pe_call G_law_draw (hr.mono (by omega)) (by rfl) M_law_draw.1 M_law_draw.2 B_law_draw .nil pass0 (pa_cons (pe_call G_law_cell_at (hr.mono (by omega)) (by rfl) M_law_cell_at.1 M_law_cell_at.2 B_law_cell_at .nil pass0 (pa_cons (pv 0) (pa_cons pe_int pa_nil))) (pa_cons (pv 7) (pa_cons pe_int pa_nil))))) (pa_cons (pv 1) pa_nil)))))))
    (pss_cons (ps_setLc (i := 4) (own := [("sentence", 18)]) (g := (gName 18)) (tt := tYes) (by rfl) sc_law.nd rfl rfl (sw_true rfl rfl rfl (by decide +kernel)) (pi_list (pe_slice sl_list (pv 3) po_none (po_some pe_int))) (blkOk_by (own := [("sentence", 18)]) (N := ["script", "order", "book", "some", "rooms", "cell", "other", "k", "mark", "word", "here", "hall", "places", "there", "found", "last", "back", "more", "sentence", "room"]) (sc := defScope s_law) (by decide +kernel)) (fun _ _ _ _ _ => (pg_name (i := 18) sc_law.nd rfl (by first | exact .inl rfl | exact .inr rfl))) (fun _ _ _ _ _ => pts_nil) (fun _ _ _ _ _ => (pe_meth (pv 2) NB.k_Book M_b_enter G_b_enter (hr.mono (by omega)) B_b_enter .nil pass0 (pa_cons (pv 18) pa_nil))))
    (pss_cons (ps_set (i := 5) sc_law.nd rfl (by first | exact .inl rfl | exact .inr rfl) (pe_call G_law_cell_at (hr.mono (by omega)) (by rfl) M_law_cell_at.1 M_law_cell_at.2 B_law_cell_at .nil pass0 (pa_cons (pv 0) (pa_cons pe_int pa_nil))))
    (pss_cons (ps_set (i := 6) sc_law.nd rfl (by first | exact .inl rfl | exact .inr rfl) (pe_lst pa_nil))
    (pss_cons (ps_for PassesOwn.never rfl (pi_range1 (by rfl) NB.range (pa_cons (pe_callB x_len (by rfl) NB.len PySem.boot_len (pa_cons (pv 1) pa_nil)) pa_nil)) (pg_name (i := 7) sc_law.nd rfl (by first | exact .inl rfl | exact .inr rfl)) (pss_one (ps_expr (pe_bm PySem.F.plainAttrs_list PySem.F.slot_list_insert PySem.F.type_list_insert x_insert (pv 6) (pa_cons (pe_op x_mod (pe_call G_law_draw (hr.mono (by omega)) (by rfl) M_law_draw.1 M_law_draw.2 B_law_draw .nil pass0 (pa_cons (pv 5) (pa_cons (pv 7) (pa_cons pe_int pa_nil)))) (pe_op x_add (pv 7) pe_int)) (pa_cons (pe_ix ix_seq (pv 1) (pv 7) (fun _ _ => rfl)) pa_nil))))))
    (pss_cons (ps_set (i := 8) sc_law.nd rfl (by first | exact .inl rfl | exact .inr rfl) (pe_ix ix_seq (pv 1) (pe_op x_mod (pe_call G_law_draw (hr.mono (by omega)) (by rfl) M_law_draw.1 M_law_draw.2 B_law_draw .nil pass0 (pa_cons (pv 5) (pa_cons pe_int (pa_cons pe_int pa_nil)))) (pe_callB x_len (by rfl) NB.len PySem.boot_len (pa_cons (pv 1) pa_nil))) (fun _ _ => rfl)))
    (pss_cons (ps_set (i := 9) sc_law.nd rfl (by first | exact .inl rfl | exact .inr rfl) (pe_ix ix_seq (pe_lst (pa_cons pe_str (pa_cons pe_str (pa_cons pe_str (pa_cons pe_str (pa_cons pe_str pa_nil)))))) (pe_call G_law_draw (hr.mono (by omega)) (by rfl) M_law_draw.1 M_law_draw.2 B_law_draw .nil pass0 (pa_cons (pv 5) (pa_cons pe_int (pa_cons pe_int pa_nil)))) (fun _ _ => rfl)))
    (pss_cons (ps_set (i := 10) sc_law.nd rfl (by first | exact .inl rfl | exact .inr rfl) (pe_lst (pa_cons (pe_call G_joined (hr.mono (by omega)) (by rfl) M_joined.1 M_joined.2 B_joined .nil pass0 (pa_cons (pv 2) (pa_cons (pv 9) (pa_cons (pe_ix ix_seq (pv 4) pe_int (fun _ _ => rfl)) (pa_cons (pe_ix ix_seq (pv 4) pe_int (fun _ _ => rfl)) pa_nil))))) (pa_cons (pe_call G_turned (hr.mono (by omega)) (by rfl) M_turned.1 M_turned.2 B_turned .nil pass0 (pa_cons (pv 2) (pa_cons (pe_ix ix_seq (pv 4) pe_int (fun _ _ => rfl)) pa_nil))) (pa_cons (pe_call G_held (hr.mono (by omega)) (by rfl) M_held.1 M_held.2 B_held .nil pass0 (pa_cons (pv 2) (pa_cons (pe_ix ix_seq (pv 4) pe_int (fun _ _ => rfl)) (pa_cons (pv 8) (pa_cons pe_int pa_nil))))) pa_nil)))))
    (pss_cons (ps_asg (pe_call G_reordered (hr.mono (by omega)) (by rfl) M_reordered.1 M_reordered.2 B_reordered .nil pass0 (pa_cons (pv 2) (pa_cons (pv 6) pa_nil))) (pg_tup rfl (pgs_cons (pg_name (i := 11) sc_law.nd rfl (by first | exact .inl rfl | exact .inr rfl)) (pgs_cons (pg_name (i := 12) sc_law.nd rfl (by first | exact .inl rfl | exact .inr rfl)) pgs_nil))))
    (pss_cons (ps_setLc (i := 13) (own := [("room", 19)]) (g := (gName 19)) (tt := tYes) (by rfl) sc_law.nd rfl rfl (sw_true rfl rfl rfl (by decide +kernel)) (pi_list (pv 4)) (blkOk_by (own := [("room", 19)]) (N := ["script", "order", "book", "some", "rooms", "cell", "other", "k", "mark", "word", "here", "hall", "places", "there", "found", "last", "back", "more", "sentence", "room"]) (sc := defScope s_law) (by decide +kernel)) (fun _ _ _ _ _ => (pg_name (i := 19) sc_law.nd rfl (by first | exact .inl rfl | exact .inr rfl))) (fun _ _ _ _ _ => pts_nil) (fun _ _ _ _ _ => (pe_ix ix_seq (pv 12) (pv 19) (fun _ _ => rfl))))
    (pss_cons (ps_if (pt_cmpR (op_neD hr.units) (pe_lc (own := [("sentence", 18)]) (g := (gName 18)) (tt := tYes) (by rfl) sc_law.nd (pi_list (pe_slice sl_list (pv 3) po_none (po_some pe_int))) (blkOk_by (own := [("sentence", 18)]) (N := ["script", "order", "book", "some", "rooms", "cell", "other", "k", "mark", "word", "here", "hall", "places", "there", "found", "last", "back", "more", "sentence", "room"]) (sc := defScope s_law) (by decide +kernel)) (fun _ _ _ _ _ => (pg_name (i := 18) sc_law.nd rfl (by first | exact .inl rfl | exact .inr rfl))) (fun _ _ _ _ _ => pts_nil) (fun _ _ _ _ _ => (pe_meth (pv 11) NB.k_Book M_b_enter G_b_enter (hr.mono (by omega)) B_b_enter .nil pass0 (pa_cons (pv 18) pa_nil)))) (pv 13) (nomark _)) (pss_one (ps_ret pe_bl)) pss_nil)
    (pss_cons (ps_set (i := 14) sc_law.nd rfl (by first | exact .inl rfl | exact .inr rfl) (pe_lst (pa_cons (pe_call G_joined (hr.mono (by omega)) (by rfl) M_joined.1 M_joined.2 B_joined .nil pass0 (pa_cons (pv 11) (pa_cons (pv 9) (pa_cons (pe_ix ix_seq (pv 13) pe_int (fun _ _ => rfl)) (pa_cons (pe_ix ix_seq (pv 13) pe_int (fun _ _ => rfl)) pa_nil))))) (pa_cons (pe_call G_turned (hr.mono (by omega)) (by rfl) M_turned.1 M_turned.2 B_turned .nil pass0 (pa_cons (pv 11) (pa_cons (pe_ix ix_seq (pv 13) pe_int (fun _ _ => rfl)) pa_nil))) (pa_cons (pe_call G_held (hr.mono (by omega)) (by rfl) M_held.1 M_held.2 B_held .nil pass0 (pa_cons (pv 11) (pa_cons (pe_ix ix_seq (pv 13) pe_int (fun _ _ => rfl)) (pa_cons (pv 8) (pa_cons pe_int pa_nil))))) pa_nil)))))
    (pss_cons (ps_if (pt_cmpR (op_neD hr.units) (pv 14) (pe_lc (own := [("room", 19)]) (g := (gName 19)) (tt := tYes) (by rfl) sc_law.nd (pi_list (pv 10)) (blkOk_by (own := [("room", 19)]) (N := ["script", "order", "book", "some", "rooms", "cell", "other", "k", "mark", "word", "here", "hall", "places", "there", "found", "last", "back", "more", "sentence", "room"]) (sc := defScope s_law) (by decide +kernel)) (fun _ _ _ _ _ => (pg_name (i := 19) sc_law.nd rfl (by first | exact .inl rfl | exact .inr rfl))) (fun _ _ _ _ _ => pts_nil) (fun _ _ _ _ _ => (pe_ix ix_seq (pv 12) (pv 19) (fun _ _ => rfl)))) (nomark _)) (pss_one (ps_ret pe_bl)) pss_nil)
    (pss_cons (ps_set (i := 15) sc_law.nd rfl (by first | exact .inl rfl | exact .inr rfl) (pe_meth (pv 11) NB.k_Book M_b_enter G_b_enter (hr.mono (by omega)) B_b_enter .nil pass0 (pa_cons (pe_ix ix_seq (pv 3) pe_int (fun _ _ => rfl)) pa_nil)))
    (pss_cons (ps_asg (pe_call G_reordered (hr.mono (by omega)) (by rfl) M_reordered.1 M_reordered.2 B_reordered .nil pass0 (pa_cons (pv 11) (pa_cons (pv 1) pa_nil))) (pg_tup rfl (pgs_cons (pg_name (i := 16) sc_law.nd rfl (by first | exact .inl rfl | exact .inr rfl)) (pgs_cons (pg_name (i := 17) sc_law.nd rfl (by first | exact .inl rfl | exact .inr rfl)) pgs_nil))))
    (pss_one (ps_ret (pe_cmpR op_eq (pe_meth (pv 16) NB.k_Book M_b_enter G_b_enter (hr.mono (by omega)) B_b_enter .nil pass0 (pa_cons (pe_ix ix_seq (pv 3) pe_int (fun _ _ => rfl)) pa_nil)) (pe_ix ix_seq (pv 17) (pv 15) (fun _ _ => rfl)) (nomark _))))))))))))))))))))),
    body_ok (rd_law E) h⟩
end
def d_is_mark : He.DefD := ⟨("is_mark", none), "is_mark", "is_mark", defArgs s_is_mark, defBody s_is_mark, defScope s_is_mark, [], []⟩
def d_is_order : He.DefD := ⟨("is_order", none), "is_order", "is_order", defArgs s_is_order, defBody s_is_order, defScope s_is_order, [], []⟩
def d_ask_order : He.DefD := ⟨("ask_order", none), "ask_order", "ask_order", defArgs s_ask_order, defBody s_ask_order, defScope s_ask_order, [], []⟩
def d_pieces_of : He.DefD := ⟨("pieces_of", none), "pieces_of", "pieces_of", defArgs s_pieces_of, defBody s_pieces_of, defScope s_pieces_of, [], []⟩
def d_well_made : He.DefD := ⟨("well_made", none), "well_made", "well_made", defArgs s_well_made, defBody s_well_made, defScope s_well_made, [], []⟩
def d_count : He.DefD := ⟨("count", none), "count", "count", defArgs s_count, defBody s_count, defScope s_count, [], []⟩
def d_deep : He.DefD := ⟨("deep", none), "deep", "deep", defArgs s_deep, defBody s_deep, defScope s_deep, [], []⟩
def d_is_sentence : He.DefD := ⟨("is_sentence", none), "is_sentence", "is_sentence", defArgs s_is_sentence, defBody s_is_sentence, defScope s_is_sentence, [], []⟩
def d_ask_sentence : He.DefD := ⟨("ask_sentence", none), "ask_sentence", "ask_sentence", defArgs s_ask_sentence, defBody s_ask_sentence, defScope s_ask_sentence, [], []⟩
def d_named : He.DefD := ⟨("named", none), "named", "named", defArgs s_named, defBody s_named, defScope s_named, [], []⟩
def d_marks_of : He.DefD := ⟨("marks_of", none), "marks_of", "marks_of", defArgs s_marks_of, defBody s_marks_of, defScope s_marks_of, [], []⟩
def d_ask_marks : He.DefD := ⟨("ask_marks", none), "ask_marks", "ask_marks", defArgs s_ask_marks, defBody s_ask_marks, defScope s_ask_marks, [], []⟩
def d_b_init : He.DefD := ⟨("Book", some "__init__"), "__init__", "Book.__init__", defArgs s_b_init, defBody s_b_init, defScope s_b_init, [], []⟩
def d_b_ask_room : He.DefD := ⟨("Book", some "ask_room"), "ask_room", "Book.ask_room", defArgs s_b_ask_room, defBody s_b_ask_room, defScope s_b_ask_room, [], []⟩
def d_b_ask_mark : He.DefD := ⟨("Book", some "ask_mark"), "ask_mark", "Book.ask_mark", defArgs s_b_ask_mark, defBody s_b_ask_mark, defScope s_b_ask_mark, [], []⟩
def d_b_level : He.DefD := ⟨("Book", some "level"), "level", "Book.level", defArgs s_b_level, defBody s_b_level, defScope s_b_level, [], []⟩
def d_b_goings : He.DefD := ⟨("Book", some "goings"), "goings", "Book.goings", defArgs s_b_goings, defBody s_b_goings, defScope s_b_goings, [], []⟩
def d_b_decided : He.DefD := ⟨("Book", some "decided"), "decided", "Book.decided", defArgs s_b_decided, defBody s_b_decided, defScope s_b_decided, [], []⟩
def d_b_join : He.DefD := ⟨("Book", some "join"), "join", "Book.join", defArgs s_b_join, defBody s_b_join, defScope s_b_join, [], []⟩
def d_b_fix : He.DefD := ⟨("Book", some "fix"), "fix", "Book.fix", defArgs s_b_fix, defBody s_b_fix, defScope s_b_fix, [], []⟩
def d_b_entered : He.DefD := ⟨("Book", some "entered"), "entered", "Book.entered", defArgs s_b_entered, defBody s_b_entered, defScope s_b_entered, [], []⟩
def d_b_enter : He.DefD := ⟨("Book", some "enter"), "enter", "Book.enter", defArgs s_b_enter, defBody s_b_enter, defScope s_b_enter, [], []⟩
def d_parted : He.DefD := ⟨("parted", none), "parted", "parted", defArgs s_parted, defBody s_parted, defScope s_parted, [], []⟩
def d_moved : He.DefD := ⟨("moved", none), "moved", "moved", defArgs s_moved, defBody s_moved, defScope s_moved, [], []⟩
def d_reordered : He.DefD := ⟨("reordered", none), "reordered", "reordered", defArgs s_reordered, defBody s_reordered, defScope s_reordered, [], []⟩
def d_ask_word : He.DefD := ⟨("ask_word", none), "ask_word", "ask_word", defArgs s_ask_word, defBody s_ask_word, defScope s_ask_word, [], []⟩
def d_joined : He.DefD := ⟨("joined", none), "joined", "joined", defArgs s_joined, defBody s_joined, defScope s_joined, [], []⟩
def d_turned : He.DefD := ⟨("turned", none), "turned", "turned", defArgs s_turned, defBody s_turned, defScope s_turned, [], []⟩
def d_held : He.DefD := ⟨("held", none), "held", "held", defArgs s_held, defBody s_held, defScope s_held, [], []⟩
def d_law_cell_at : He.DefD := ⟨("_law_cell_at", none), "_law_cell_at", "_law_cell_at", defArgs s_law_cell_at, defBody s_law_cell_at, defScope s_law_cell_at, [], []⟩
def d_law_draw : He.DefD := ⟨("_law_draw", none), "_law_draw", "_law_draw", defArgs s_law_draw, defBody s_law_draw, defScope s_law_draw, [], []⟩
def d_law_order : He.DefD := ⟨("_law_order", none), "_law_order", "_law_order", defArgs s_law_order, defBody s_law_order, defScope s_law_order, [], []⟩
def d_law_sentence : He.DefD := ⟨("_law_sentence", none), "_law_sentence", "_law_sentence", defArgs s_law_sentence, defBody s_law_sentence, defScope s_law_sentence, [], []⟩
def d_law : He.DefD := ⟨("law", none), "law", "law", defArgs s_law, defBody s_law, defScope s_law, [], []⟩
def fn0 : List He.DefD := [d_is_mark, d_is_order, d_ask_order, d_pieces_of, d_well_made, d_count, d_deep, d_is_sentence, d_ask_sentence, d_named, d_marks_of, d_ask_marks, d_b_init, d_b_ask_room, d_b_ask_mark, d_b_level, d_b_goings, d_b_decided, d_b_join, d_b_fix]
def fn1 : List He.DefD := [d_b_entered, d_b_enter, d_parted, d_moved, d_reordered, d_ask_word, d_joined, d_turned, d_held, d_law_cell_at, d_law_draw, d_law_order, d_law_sentence, d_law]
def fn : List He.DefD := fn0 ++ fn1
def fa0 : List He.Fa := [.free "all", .free "any", .free "bool", .free "dict", .free "int", .free "isinstance", .free "len", .free "list", .free "max", .free "min", .free "range", .free "set", .free "sorted", .free "str", .free "sum", .free "tuple", .glo "is_mark", .glo "is_order", .glo "ask_order", .glo "pieces_of"]
def fa1 : List He.Fa := [.glo "well_made", .glo "count", .glo "deep", .glo "is_sentence", .glo "ask_sentence", .glo "named", .glo "marks_of", .glo "ask_marks", .glo "parted", .glo "moved", .glo "reordered", .glo "ask_word", .glo "joined", .glo "turned", .glo "held", .glo "_law_cell_at", .glo "_law_draw", .glo "_law_order", .glo "_law_sentence", .glo "law"]
def fa2 : List He.Fa := [.str "LETTERS" "abcdefgh", .int "MOST_DEEP" 24, .int "MOST_WORDS" 200, .glo "PIECES", .glo "TABLES", .glo "Book", .cls "Book", .noat "Book" "marks", .noat "Book" "rows", .noat "Book" "places", .mkr "Book", .meth "Book" "ask_room", .meth "Book" "ask_mark", .meth "Book" "level", .meth "Book" "goings", .meth "Book" "decided", .meth "Book" "join", .meth "Book" "fix", .meth "Book" "entered", .meth "Book" "enter"]
def fa : List He.Fa := fa0 ++ fa1 ++ fa2
def tv_PIECES : List (Str × Sc) := [("yes", .i 0), ("no", .i 0), ("not", .i 1), ("and", .i 2), ("or", .i 2), ("either", .i 2), ("if", .i 2)]
def tv_TABLES : List (Str × Sc) := [("and", .s "0001"), ("or", .s "0111"), ("either", .s "0110"), ("if", .s "1101")]
def tabsV : List TabV := [(fun K => He.ga K "PIECES", tv_PIECES), (fun K => He.ga K "TABLES", tv_TABLES)]
def loose0 : List Str := ["_wall", "BookError", "NoOrder", "NoSentence", "NoMark", "NoRoom", "NoWord", "NoNumber", "LETTERS", "MOST_WORDS", "MOST_DEEP", "PIECES", "is_mark", "is_order", "ask_order", "pieces_of", "well_made", "count", "deep", "is_sentence"]
def loose1 : List Str := ["ask_sentence", "named", "marks_of", "ask_marks", "TABLES", "Book", "parted", "moved", "reordered", "ask_word", "joined", "turned", "held", "_law_cell_at", "_law_draw", "_law_order", "_law_sentence"]
def loose : List Str := loose0 ++ loose1
theorem facts {P : Program} {w : World} {K : Frag} {h : Heap} {mg : Str → Option Value} {fl : Addr} (X : K.In h) (G : h.Ns mainGlobals mg) (hfa : mg ("law" : Str) = some (.ref fl)) (c : SaysX fa fn tabsV w K) :
    ∃ fd : FuncData, (∀ (s : Shared) (v : Value), BindsTo s fd ⟨[v], []⟩ [("script", v)]) ∧ ∀ base : Heap, K.In base → base.Ns mainGlobals mg → FnOk P w K mg base CX0 41 fl fd ["script"] (spT K T_law) := by
  obtain ⟨v_is_mark, D_is_mark⟩ := c.d.def_ 0 (d := d_is_mark) rfl
  obtain ⟨v_is_order, D_is_order⟩ := c.d.def_ 1 (d := d_is_order) rfl
  obtain ⟨v_ask_order, D_ask_order⟩ := c.d.def_ 2 (d := d_ask_order) rfl
  obtain ⟨v_pieces_of, D_pieces_of⟩ := c.d.def_ 3 (d := d_pieces_of) rfl
  obtain ⟨v_well_made, D_well_made⟩ := c.d.def_ 4 (d := d_well_made) rfl
  obtain ⟨v_count, D_count⟩ := c.d.def_ 5 (d := d_count) rfl
  obtain ⟨v_deep, D_deep⟩ := c.d.def_ 6 (d := d_deep) rfl
  obtain ⟨v_is_sentence, D_is_sentence⟩ := c.d.def_ 7 (d := d_is_sentence) rfl
  obtain ⟨v_ask_sentence, D_ask_sentence⟩ := c.d.def_ 8 (d := d_ask_sentence) rfl
  obtain ⟨v_named, D_named⟩ := c.d.def_ 9 (d := d_named) rfl
  obtain ⟨v_marks_of, D_marks_of⟩ := c.d.def_ 10 (d := d_marks_of) rfl
  obtain ⟨v_ask_marks, D_ask_marks⟩ := c.d.def_ 11 (d := d_ask_marks) rfl
  obtain ⟨v_b_init, D_b_init⟩ := c.d.def_ 12 (d := d_b_init) rfl
  obtain ⟨v_b_ask_room, D_b_ask_room⟩ := c.d.def_ 13 (d := d_b_ask_room) rfl
  obtain ⟨v_b_ask_mark, D_b_ask_mark⟩ := c.d.def_ 14 (d := d_b_ask_mark) rfl
  obtain ⟨v_b_level, D_b_level⟩ := c.d.def_ 15 (d := d_b_level) rfl
  obtain ⟨v_b_goings, D_b_goings⟩ := c.d.def_ 16 (d := d_b_goings) rfl
  obtain ⟨v_b_decided, D_b_decided⟩ := c.d.def_ 17 (d := d_b_decided) rfl
  obtain ⟨v_b_join, D_b_join⟩ := c.d.def_ 18 (d := d_b_join) rfl
  obtain ⟨v_b_fix, D_b_fix⟩ := c.d.def_ 19 (d := d_b_fix) rfl
  obtain ⟨v_b_entered, D_b_entered⟩ := c.d.def_ 20 (d := d_b_entered) rfl
  obtain ⟨v_b_enter, D_b_enter⟩ := c.d.def_ 21 (d := d_b_enter) rfl
  obtain ⟨v_parted, D_parted⟩ := c.d.def_ 22 (d := d_parted) rfl
  obtain ⟨v_moved, D_moved⟩ := c.d.def_ 23 (d := d_moved) rfl
  obtain ⟨v_reordered, D_reordered⟩ := c.d.def_ 24 (d := d_reordered) rfl
  obtain ⟨v_ask_word, D_ask_word⟩ := c.d.def_ 25 (d := d_ask_word) rfl
  obtain ⟨v_joined, D_joined⟩ := c.d.def_ 26 (d := d_joined) rfl
  obtain ⟨v_turned, D_turned⟩ := c.d.def_ 27 (d := d_turned) rfl
  obtain ⟨v_held, D_held⟩ := c.d.def_ 28 (d := d_held) rfl
  obtain ⟨v_law_cell_at, D_law_cell_at⟩ := c.d.def_ 29 (d := d_law_cell_at) rfl
  obtain ⟨v_law_draw, D_law_draw⟩ := c.d.def_ 30 (d := d_law_draw) rfl
  obtain ⟨v_law_order, D_law_order⟩ := c.d.def_ 31 (d := d_law_order) rfl
  obtain ⟨v_law_sentence, D_law_sentence⟩ := c.d.def_ 32 (d := d_law_sentence) rfl
  obtain ⟨v_law, D_law⟩ := c.d.def_ 33 (d := d_law) rfl
  have F_is_mark : Fun K "is_mark" "is_mark" s_is_mark _ v_is_mark := fun_of D_is_mark
  have F_is_order : Fun K "is_order" "is_order" s_is_order _ v_is_order := fun_of D_is_order
  have F_ask_order : Fun K "ask_order" "ask_order" s_ask_order _ v_ask_order := fun_of D_ask_order
  have F_pieces_of : Fun K "pieces_of" "pieces_of" s_pieces_of _ v_pieces_of := fun_of D_pieces_of
  have F_well_made : Fun K "well_made" "well_made" s_well_made _ v_well_made := fun_of D_well_made
  have F_count : Fun K "count" "count" s_count _ v_count := fun_of D_count
  have F_deep : Fun K "deep" "deep" s_deep _ v_deep := fun_of D_deep
  have F_is_sentence : Fun K "is_sentence" "is_sentence" s_is_sentence _ v_is_sentence := fun_of D_is_sentence
  have F_ask_sentence : Fun K "ask_sentence" "ask_sentence" s_ask_sentence _ v_ask_sentence := fun_of D_ask_sentence
  have F_named : Fun K "named" "named" s_named _ v_named := fun_of D_named
  have F_marks_of : Fun K "marks_of" "marks_of" s_marks_of _ v_marks_of := fun_of D_marks_of
  have F_ask_marks : Fun K "ask_marks" "ask_marks" s_ask_marks _ v_ask_marks := fun_of D_ask_marks
  have F_b_init : Fun K "__init__" "Book.__init__" s_b_init _ v_b_init := fun_of D_b_init
  have F_b_ask_room : Fun K "ask_room" "Book.ask_room" s_b_ask_room _ v_b_ask_room := fun_of D_b_ask_room
  have F_b_ask_mark : Fun K "ask_mark" "Book.ask_mark" s_b_ask_mark _ v_b_ask_mark := fun_of D_b_ask_mark
  have F_b_level : Fun K "level" "Book.level" s_b_level _ v_b_level := fun_of D_b_level
  have F_b_goings : Fun K "goings" "Book.goings" s_b_goings _ v_b_goings := fun_of D_b_goings
  have F_b_decided : Fun K "decided" "Book.decided" s_b_decided _ v_b_decided := fun_of D_b_decided
  have F_b_join : Fun K "join" "Book.join" s_b_join _ v_b_join := fun_of D_b_join
  have F_b_fix : Fun K "fix" "Book.fix" s_b_fix _ v_b_fix := fun_of D_b_fix
  have F_b_entered : Fun K "entered" "Book.entered" s_b_entered _ v_b_entered := fun_of D_b_entered
  have F_b_enter : Fun K "enter" "Book.enter" s_b_enter _ v_b_enter := fun_of D_b_enter
  have F_parted : Fun K "parted" "parted" s_parted _ v_parted := fun_of D_parted
  have F_moved : Fun K "moved" "moved" s_moved _ v_moved := fun_of D_moved
  have F_reordered : Fun K "reordered" "reordered" s_reordered _ v_reordered := fun_of D_reordered
  have F_ask_word : Fun K "ask_word" "ask_word" s_ask_word _ v_ask_word := fun_of D_ask_word
  have F_joined : Fun K "joined" "joined" s_joined _ v_joined := fun_of D_joined
  have F_turned : Fun K "turned" "turned" s_turned _ v_turned := fun_of D_turned
  have F_held : Fun K "held" "held" s_held _ v_held := fun_of D_held
  have F_law_cell_at : Fun K "_law_cell_at" "_law_cell_at" s_law_cell_at _ v_law_cell_at := fun_of D_law_cell_at
  have F_law_draw : Fun K "_law_draw" "_law_draw" s_law_draw _ v_law_draw := fun_of D_law_draw
  have F_law_order : Fun K "_law_order" "_law_order" s_law_order _ v_law_order := fun_of D_law_order
  have F_law_sentence : Fun K "_law_sentence" "_law_sentence" s_law_sentence _ v_law_sentence := fun_of D_law_sentence
  have F_law : Fun K "law" "law" s_law _ v_law := fun_of D_law
  have B_is_mark := F_is_mark.binds (ps := ["text"]) fun _ _ _ _ _ _ us hl => match us, hl with | [_], _ => rfl
  have M_is_mark := And.intro (He.glo_ok X G (c.d.fact 16 (f := .glo "is_mark") rfl)) F_is_mark.kp
  have B_is_order := F_is_order.binds (ps := ["order"]) fun _ _ _ _ _ _ us hl => match us, hl with | [_], _ => rfl
  have M_is_order := And.intro (He.glo_ok X G (c.d.fact 17 (f := .glo "is_order") rfl)) F_is_order.kp
  have B_ask_order := F_ask_order.binds (ps := ["order"]) fun _ _ _ _ _ _ us hl => match us, hl with | [_], _ => rfl
  have M_ask_order := And.intro (He.glo_ok X G (c.d.fact 18 (f := .glo "ask_order") rfl)) F_ask_order.kp
  have B_pieces_of := F_pieces_of.binds (ps := ["sentence"]) fun _ _ _ _ _ _ us hl => match us, hl with | [_], _ => rfl
  have M_pieces_of := And.intro (He.glo_ok X G (c.d.fact 19 (f := .glo "pieces_of") rfl)) F_pieces_of.kp
  have B_well_made := F_well_made.binds (ps := ["some"]) fun _ _ _ _ _ _ us hl => match us, hl with | [_], _ => rfl
  have M_well_made := And.intro (He.glo_ok X G (c.d.fact 20 (f := .glo "well_made") rfl)) F_well_made.kp
  have B_count := F_count.binds (ps := ["sentence"]) fun _ _ _ _ _ _ us hl => match us, hl with | [_], _ => rfl
  have M_count := And.intro (He.glo_ok X G (c.d.fact 21 (f := .glo "count") rfl)) F_count.kp
  have B_deep := F_deep.binds (ps := ["sentence"]) fun _ _ _ _ _ _ us hl => match us, hl with | [_], _ => rfl
  have M_deep := And.intro (He.glo_ok X G (c.d.fact 22 (f := .glo "deep") rfl)) F_deep.kp
  have B_is_sentence := F_is_sentence.binds (ps := ["some"]) fun _ _ _ _ _ _ us hl => match us, hl with | [_], _ => rfl
  have M_is_sentence := And.intro (He.glo_ok X G (c.d.fact 23 (f := .glo "is_sentence") rfl)) F_is_sentence.kp
  have B_ask_sentence := F_ask_sentence.binds (ps := ["sentence"]) fun _ _ _ _ _ _ us hl => match us, hl with | [_], _ => rfl
  have M_ask_sentence := And.intro (He.glo_ok X G (c.d.fact 24 (f := .glo "ask_sentence") rfl)) F_ask_sentence.kp
  have B_named := F_named.binds (ps := ["sentence"]) fun _ _ _ _ _ _ us hl => match us, hl with | [_], _ => rfl
  have M_named := And.intro (He.glo_ok X G (c.d.fact 25 (f := .glo "named") rfl)) F_named.kp
  have B_marks_of := F_marks_of.binds (ps := ["sentence"]) fun _ _ _ _ _ _ us hl => match us, hl with | [_], _ => rfl
  have M_marks_of := And.intro (He.glo_ok X G (c.d.fact 26 (f := .glo "marks_of") rfl)) F_marks_of.kp
  have B_ask_marks := F_ask_marks.binds (ps := ["sentence", "order"]) fun _ _ _ _ _ _ us hl => match us, hl with | [_, _], _ => rfl
  have M_ask_marks := And.intro (He.glo_ok X G (c.d.fact 27 (f := .glo "ask_marks") rfl)) F_ask_marks.kp
  have B_b_init := F_b_init.binds (ps := ["self", "order"]) fun _ _ _ _ _ _ us hl => match us, hl with | [_, _], _ => rfl
  have M_b_init := He.mkr_ok (c.d.fact 50 (f := .mkr "Book") rfl)
  have B_b_ask_room := F_b_ask_room.binds (ps := ["self", "number"]) fun _ _ _ _ _ _ us hl => match us, hl with | [_, _], _ => rfl
  have M_b_ask_room := He.meth_ok (c.d.fact 51 (f := .meth "Book" "ask_room") rfl)
  have B_b_ask_mark := F_b_ask_mark.binds (ps := ["self", "mark"]) fun _ _ _ _ _ _ us hl => match us, hl with | [_, _], _ => rfl
  have M_b_ask_mark := He.meth_ok (c.d.fact 52 (f := .meth "Book" "ask_mark") rfl)
  have B_b_level := F_b_level.binds (ps := ["self", "number"]) fun _ _ _ _ _ _ us hl => match us, hl with | [_, _], _ => rfl
  have M_b_level := He.meth_ok (c.d.fact 53 (f := .meth "Book" "level") rfl)
  have B_b_goings := F_b_goings.binds (ps := ["self", "number", "at"]) fun _ _ _ _ _ _ us hl => match us, hl with | [_, _, _], _ => rfl
  have M_b_goings := He.meth_ok (c.d.fact 54 (f := .meth "Book" "goings") rfl)
  have B_b_decided := F_b_decided.binds (ps := ["self", "at", "low", "high"]) fun _ _ _ _ _ _ us hl => match us, hl with | [_, _, _, _], _ => rfl
  have M_b_decided := He.meth_ok (c.d.fact 55 (f := .meth "Book" "decided") rfl)
  have B_b_join := F_b_join.binds (ps := ["self", "table", "one", "other", "known"]) fun _ _ _ _ _ _ us hl => match us, hl with | [_, _, _, _, _], _ => rfl
  have M_b_join := He.meth_ok (c.d.fact 56 (f := .meth "Book" "join") rfl)
  have B_b_fix := F_b_fix.binds (ps := ["self", "one", "at", "value", "known"]) fun _ _ _ _ _ _ us hl => match us, hl with | [_, _, _, _, _], _ => rfl
  have M_b_fix := He.meth_ok (c.d.fact 57 (f := .meth "Book" "fix") rfl)
  have B_b_entered := F_b_entered.binds (ps := ["self", "sentence"]) fun _ _ _ _ _ _ us hl => match us, hl with | [_, _], _ => rfl
  have M_b_entered := He.meth_ok (c.d.fact 58 (f := .meth "Book" "entered") rfl)
  have B_b_enter := F_b_enter.binds (ps := ["self", "sentence"]) fun _ _ _ _ _ _ us hl => match us, hl with | [_, _], _ => rfl
  have M_b_enter := He.meth_ok (c.d.fact 59 (f := .meth "Book" "enter") rfl)
  have B_parted := F_parted.binds (ps := ["book", "at", "low", "high", "known"]) fun _ _ _ _ _ _ us hl => match us, hl with | [_, _, _, _, _], _ => rfl
  have M_parted := And.intro (He.glo_ok X G (c.d.fact 28 (f := .glo "parted") rfl)) F_parted.kp
  have B_moved := F_moved.binds (ps := ["book", "order"]) fun _ _ _ _ _ _ us hl => match us, hl with | [_, _], _ => rfl
  have M_moved := And.intro (He.glo_ok X G (c.d.fact 29 (f := .glo "moved") rfl)) F_moved.kp
  have B_reordered := F_reordered.binds (ps := ["book", "order"]) fun _ _ _ _ _ _ us hl => match us, hl with | [_, _], _ => rfl
  have M_reordered := And.intro (He.glo_ok X G (c.d.fact 30 (f := .glo "reordered") rfl)) F_reordered.kp
  have B_ask_word := F_ask_word.binds (ps := ["word"]) fun _ _ _ _ _ _ us hl => match us, hl with | [_], _ => rfl
  have M_ask_word := And.intro (He.glo_ok X G (c.d.fact 31 (f := .glo "ask_word") rfl)) F_ask_word.kp
  have B_joined := F_joined.binds (ps := ["book", "word", "one", "other"]) fun _ _ _ _ _ _ us hl => match us, hl with | [_, _, _, _], _ => rfl
  have M_joined := And.intro (He.glo_ok X G (c.d.fact 32 (f := .glo "joined") rfl)) F_joined.kp
  have B_turned := F_turned.binds (ps := ["book", "one"]) fun _ _ _ _ _ _ us hl => match us, hl with | [_, _], _ => rfl
  have M_turned := And.intro (He.glo_ok X G (c.d.fact 33 (f := .glo "turned") rfl)) F_turned.kp
  have B_held := F_held.binds (ps := ["book", "one", "mark", "value"]) fun _ _ _ _ _ _ us hl => match us, hl with | [_, _, _, _], _ => rfl
  have M_held := And.intro (He.glo_ok X G (c.d.fact 34 (f := .glo "held") rfl)) F_held.kp
  have B_law_cell_at := F_law_cell_at.binds (ps := ["script", "k"]) fun _ _ _ _ _ _ us hl => match us, hl with | [_, _], _ => rfl
  have M_law_cell_at := And.intro (He.glo_ok X G (c.d.fact 35 (f := .glo "_law_cell_at") rfl)) F_law_cell_at.kp
  have B_law_draw := F_law_draw.binds (ps := ["cell", "k", "bound"]) fun _ _ _ _ _ _ us hl => match us, hl with | [_, _, _], _ => rfl
  have M_law_draw := And.intro (He.glo_ok X G (c.d.fact 36 (f := .glo "_law_draw") rfl)) F_law_draw.kp
  have B_law_order := F_law_order.binds (ps := ["cell", "limit"]) fun _ _ _ _ _ _ us hl => match us, hl with | [_, _], _ => rfl
  have M_law_order := And.intro (He.glo_ok X G (c.d.fact 37 (f := .glo "_law_order") rfl)) F_law_order.kp
  have B_law_sentence := F_law_sentence.binds (ps := ["script", "at", "many", "order"]) fun _ _ _ _ _ _ us hl => match us, hl with | [_, _, _, _], _ => rfl
  have M_law_sentence := And.intro (He.glo_ok X G (c.d.fact 38 (f := .glo "_law_sentence") rfl)) F_law_sentence.kp
  have B_law := F_law.binds (ps := ["script"]) fun _ _ _ _ _ _ us hl => match us, hl with | [_], _ => rfl
  have M_law := And.intro (He.glo_ok X G (c.d.fact 39 (f := .glo "law") rfl)) F_law.kp
  let A : Adr := { c_Book := He.ga K "Book", c_BookError := 0, c_NoOrder := 0, c_NoSentence := 0, c_NoMark := 0, c_NoRoom := 0, c_NoWord := 0, c_NoRow := 0, c_NoNumber := 0, c_NoWeights := 0, c_NoShares := 0, c_NoCover := 0, c_TooGreat := 0, c_NoNote := 0, g_PIECES := He.ga K "PIECES", g_TABLES := He.ga K "TABLES" }
  have NB : NBs K mg w A := { all := He.free_ok X G (c.d.fact 0 (f := .free "all") rfl), any := He.free_ok X G (c.d.fact 1 (f := .free "any") rfl), bool := He.free_ok X G (c.d.fact 2 (f := .free "bool") rfl), dict := He.free_ok X G (c.d.fact 3 (f := .free "dict") rfl), int := He.free_ok X G (c.d.fact 4 (f := .free "int") rfl), isinstance := He.free_ok X G (c.d.fact 5 (f := .free "isinstance") rfl), len := He.free_ok X G (c.d.fact 6 (f := .free "len") rfl), list := He.free_ok X G (c.d.fact 7 (f := .free "list") rfl), max := He.free_ok X G (c.d.fact 8 (f := .free "max") rfl), min := He.free_ok X G (c.d.fact 9 (f := .free "min") rfl), range := He.free_ok X G (c.d.fact 10 (f := .free "range") rfl), set := He.free_ok X G (c.d.fact 11 (f := .free "set") rfl), sorted := He.free_ok X G (c.d.fact 12 (f := .free "sorted") rfl), str := He.free_ok X G (c.d.fact 13 (f := .free "str") rfl), sum := He.free_ok X G (c.d.fact 14 (f := .free "sum") rfl), tuple := He.free_ok X G (c.d.fact 15 (f := .free "tuple") rfl), c_Book := He.glo_ok X G (c.d.fact 45 (f := .glo "Book") rfl), k_Book := He.cls_ok (c.d.fact 46 (f := .cls "Book") rfl), n_marks := He.noat_ok (c.d.fact 47 (f := .noat "Book" "marks") rfl), n_rows := He.noat_ok (c.d.fact 48 (f := .noat "Book" "rows") rfl), n_places := He.noat_ok (c.d.fact 49 (f := .noat "Book" "places") rfl), g_LETTERS := He.str_ok X G (c.d.fact 40 (f := .str "LETTERS" "abcdefgh") rfl), g_MOST_DEEP := He.int_ok X G (c.d.fact 41 (f := .int "MOST_DEEP" 24) rfl), g_MOST_WORDS := He.int_ok X G (c.d.fact 42 (f := .int "MOST_WORDS" 200) rfl), g_PIECES := He.glo_ok X G (c.d.fact 43 (f := .glo "PIECES") rfl), kd_PIECES := c.tab 0 (t := (fun K => He.ga K "PIECES", tv_PIECES)) rfl, g_TABLES := He.glo_ok X G (c.d.fact 44 (f := .glo "TABLES") rfl), kd_TABLES := c.tab 1 (t := (fun K => He.ga K "TABLES", tv_TABLES)) rfl }
  have e := hfa.symm.trans M_law.1
  cases e
  refine ⟨v_law, fun s v => ?_, fun base _ _ => ?_⟩
  · exact FunD.bindsA (ps := ["script"]) D_law (fun _ _ _ _ _ _ us hl => match us, hl with | [_], _ => rfl) s [v] rfl
  · have G_is_mark := ok_is_mark (P := P) (base := base) F_is_mark NB
    have G_is_order := ok_is_order (P := P) (base := base) F_is_order NB M_is_mark B_is_mark G_is_mark
    have G_ask_order := ok_ask_order (P := P) (base := base) F_ask_order NB M_is_order B_is_order G_is_order
    have G_pieces_of := ok_pieces_of (P := P) (base := base) F_pieces_of NB
    have G_well_made := ok_well_made (P := P) (base := base) F_well_made NB M_is_mark B_is_mark G_is_mark M_well_made B_well_made
    have G_count := ok_count (P := P) (base := base) F_count NB M_pieces_of B_pieces_of G_pieces_of M_count B_count
    have G_deep := ok_deep (P := P) (base := base) F_deep NB M_pieces_of B_pieces_of G_pieces_of M_deep B_deep
    have G_is_sentence := ok_is_sentence (P := P) (base := base) F_is_sentence NB M_well_made B_well_made (G_well_made 30) M_count B_count (G_count 30) M_deep B_deep (G_deep 30)
    have G_ask_sentence := ok_ask_sentence (P := P) (base := base) F_ask_sentence NB M_is_sentence B_is_sentence G_is_sentence
    have G_named := ok_named (P := P) (base := base) F_named NB M_pieces_of B_pieces_of G_pieces_of M_named B_named
    have G_marks_of := ok_marks_of (P := P) (base := base) F_marks_of NB M_ask_sentence B_ask_sentence G_ask_sentence M_named B_named (G_named 30)
    have G_ask_marks := ok_ask_marks (P := P) (base := base) F_ask_marks NB M_marks_of B_marks_of G_marks_of
    have G_b_init := ok_b_init (P := P) (base := base) F_b_init NB M_ask_order B_ask_order G_ask_order
    have G_b_ask_room := ok_b_ask_room (P := P) (base := base) F_b_ask_room NB
    have G_b_ask_mark := ok_b_ask_mark (P := P) (base := base) F_b_ask_mark NB
    have G_b_level := ok_b_level (P := P) (base := base) F_b_level NB
    have G_b_goings := ok_b_goings (P := P) (base := base) F_b_goings NB M_b_level B_b_level G_b_level
    have G_b_decided := ok_b_decided (P := P) (base := base) F_b_decided NB
    have G_b_join := ok_b_join (P := P) (base := base) F_b_join NB M_b_level B_b_level G_b_level M_b_goings B_b_goings G_b_goings M_b_join B_b_join M_b_decided B_b_decided G_b_decided
    have G_b_fix := ok_b_fix (P := P) (base := base) F_b_fix NB M_b_level B_b_level G_b_level M_b_fix B_b_fix M_b_decided B_b_decided G_b_decided
    have G_b_entered := ok_b_entered (P := P) (base := base) F_b_entered NB M_b_decided B_b_decided G_b_decided M_b_entered B_b_entered M_b_join B_b_join (G_b_join 10) M_b_fix B_b_fix (G_b_fix 10)
    have G_b_enter := ok_b_enter (P := P) (base := base) F_b_enter NB M_ask_marks B_ask_marks G_ask_marks M_b_entered B_b_entered (G_b_entered 25)
    have G_parted := ok_parted (P := P) (base := base) F_parted NB M_b_level B_b_level G_b_level M_b_decided B_b_decided G_b_decided M_b_goings B_b_goings G_b_goings M_parted B_parted
    have G_moved := ok_moved (P := P) (base := base) F_moved NB M_b_init B_b_init G_b_init M_parted B_parted (G_parted 10)
    have G_reordered := ok_reordered (P := P) (base := base) F_reordered NB M_moved B_moved G_moved
    have G_ask_word := ok_ask_word (P := P) (base := base) F_ask_word NB
    have G_joined := ok_joined (P := P) (base := base) F_joined NB M_b_ask_room B_b_ask_room G_b_ask_room M_ask_word B_ask_word G_ask_word M_b_join B_b_join (G_b_join 10)
    have G_turned := ok_turned (P := P) (base := base) F_turned NB M_b_ask_room B_b_ask_room G_b_ask_room M_b_join B_b_join (G_b_join 10)
    have G_held := ok_held (P := P) (base := base) F_held NB M_b_ask_mark B_b_ask_mark G_b_ask_mark M_b_ask_room B_b_ask_room G_b_ask_room M_b_fix B_b_fix (G_b_fix 10)
    have G_law_cell_at := ok_law_cell_at (P := P) (base := base) F_law_cell_at NB
    have G_law_draw := ok_law_draw (P := P) (base := base) F_law_draw NB
    have G_law_order := ok_law_order (P := P) (base := base) F_law_order NB M_law_draw B_law_draw G_law_draw
    have G_law_sentence := ok_law_sentence (P := P) (base := base) F_law_sentence NB M_law_draw B_law_draw G_law_draw M_law_cell_at B_law_cell_at G_law_cell_at
    have G_law := ok_law (P := P) (base := base) F_law NB M_law_order B_law_order G_law_order M_law_cell_at B_law_cell_at G_law_cell_at M_b_init B_b_init G_b_init M_law_sentence B_law_sentence G_law_sentence M_law_draw B_law_draw G_law_draw M_b_enter B_b_enter G_b_enter M_joined B_joined G_joined M_turned B_turned G_turned M_held B_held G_held M_reordered B_reordered G_reordered
    exact G_law
theorem law_start {K : Frag} {H : Hp} {a : Addr} {ns : List Int} (h : SqL K H a (ns.map V.int)) : spT K T_law [.ref a] H (fun v _ => v = .bl true) fun _ _ _ => False := by
  refine ⟨H, [.v (.ref a)], [rScr a ns], fun e _ => e = .d (.bool true), fun _ _ => False, ⟨Sub.rfl, fun {i r} hi => ?_, fun {i r} hi b hb => ?_, fun {i r} hi b hb => ?_, fun {i j r s} h1 h2 n b hb => ?_⟩, .cons rfl .nil, ⟨a, 0, ns, rfl, rfl, fun _ => rfl⟩, fun v e F' H' R' _ _ he w => ?_, fun C F' H' R' _ _ z => z.elim⟩
  · cases i with
    | zero => cases hi; exact h
    | succ i => simp at hi
  · cases i with
    | zero => cases hi; simp [rScr] at hb
    | succ i => simp at hi
  · cases i with
    | zero => cases hi; simp [rScr] at hb
    | succ i => simp at hi
  · cases i with
    | zero => cases h1; simp [rScr] at hb
    | succ i => simp at h1
  · subst w
    cases he
    rfl
theorem walk_law {l : PySem.W.OpenLaw} {q : Program} {loose : List Str} {XP : (Str → Option Value) → Heap → Prop} {YP : World → Heap → Prop} {d : DefRec} {K : Params → Frag} (hn : l.most = some 63) (hdf : d.params.defaults = [])
    (hY : ∀ (w : World) (h : Heap), YP w h → (K w.params).In h)
    (F : ∀ (w : World) (mg : Str → Option Value) (fa : Addr) (h : Heap), (K w.params).In h → h.Ns mainGlobals mg → mg d.name = some (.ref fa) →
      ∃ fd : FuncData, (∀ (s : Shared) (u : Value), BindsTo s fd ⟨[u], []⟩ [("script", u)]) ∧ ∀ base : Heap, (K w.params).In base → base.Ns mainGlobals mg → FnOk l.prog w (K w.params) mg base CX0 41 fa fd ["script"] (spT (K w.params) T_law)) :
    PySem.W.WalkO q loose XP YP l.row.toRowW d [] (fun f vs => PySem.call f vs) :=
  L2.walk_of (n := 63) (k := 41) (x := "script") (CX := fun _ => CX0) (sp := fun w => spT (K w.params) T_law) hn (by decide) hdf ⟨rfl, by decide, by decide⟩ hY F (fun _ _ a ns hl _ hS => law_start hS) fun _ _ _ _ _ z => z
end SE
open PySem PySem.W PyProof.Rows
set_option maxRecDepth 100000 in
set_option maxHeartbeats 0 in
theorem PySem.Challenge.cw_decidebook_k58_whole_entered_in_either_b_holds : PySem.Challenge.rw_decidebook_k58_whole_entered_in_either_b.Holds := by
  w_on; o_law; k_head; (case hw => w_witness2)
  k_fill
  refine SE.walk_law (l := PySem.Challenge.rw_decidebook_k58_whole_entered_in_either_b) rfl rfl (fun w h Y => PySem.W.kIn_of Y) ?F
  case F =>
    intro w mg fl h KX G hmg
    exact SE.facts KX G hmg (show SE.obsX SE.fa SE.fn SE.tabsV _ = SE.valX SE.fn SE.tabsV w from by kernel_rfl)
#print axioms PySem.Challenge.cw_decidebook_k58_whole_entered_in_either_b_holds
end
