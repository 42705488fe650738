import PyProof.Rows.All
import Wide.All
import OpenK.AllK
import Wide.FinOn
import HandS.ForMost
import HandS.ForExc
import HandS.TupAny
import HandS.IsInst
import HandS.CallSlots
import HandS.Deep
import HandS.Zip
import KE.GoesMore
import KE.GoesEnum
import HandS.NoneIn
import HandS.Property
import HandS.TupMul
import HandS.TryMany
import HandS.ExcIs
import HandS.ExcField
import HandS.ExcInit
import HandS.Small
import KE.KExcIs
import HandS.Style
import PySem.Challenge.RW_plugstrip_k03_values_refused
set_option Elab.async false
set_option linter.all false
set_option maxRecDepth 100000
set_option maxHeartbeats 4000000
namespace Dl
open PySem L2

/-! ### plain data -/
inductive D where
  | non | bl (b : Bool) | int (i : Int) | str (x : Str)
  | tup (ds : List D) | lst (ds : List D)
  | obj (c : Str) (fs : List (Str × D))
structure Exn where
  cls : Str
  fs : List (Str × D)
/-- an object that the def may change -/
inductive OD where
  | lst (ds : List D)
  | ins (c : Str) (fs : List (Str × D))
inductive SV where
  | val (d : D) | own (k : Nat)
abbrev Om := List (Option OD)
abbrev Rho := List (Option SV)
inductive Res (β : Type) where
  | stuck | ok (a : β) (ω : Om) | exc (x : Exn) (ω : Om)
def Res.bind {β γ : Type} (r : Res β) (g : β → Om → Res γ) : Res γ := match r with
  | .stuck => .stuck
  | .ok a ω => g a ω
  | .exc x ω => .exc x ω
def Res.lift {β : Type} (o : Option β) (ω : Om) : Res β := match o with
  | some b => .ok b ω
  | none => .stuck

abbrev MG := Str → Option Value
mutual
def Rep (K : PySem.W.Frag) (mg : MG) (G : Hp) : D → V → Prop
  | .non, v => v = .non
  | .bl b, v => v = .bl b
  | .int i, v => v = .int i
  | .str x, v => v = .str x
  | .tup ds, v => ∃ a vs, v = .ref a ∧ SqT K G a vs ∧ Reps K mg G ds vs
  | .lst ds, v => ∃ a vs, v = .ref a ∧ SqL K G a vs ∧ Reps K mg G ds vs
  | .obj c fs, v => ∃ a C dx fvs, v = .ref a ∧ mg c = some (.ref C) ∧ G a = some (.ins C dx fvs) ∧ RepF K mg G fs fvs
def Reps (K : PySem.W.Frag) (mg : MG) (G : Hp) : List D → List V → Prop
  | [], vs => vs = []
  | d :: ds, vs => ∃ v r, vs = v :: r ∧ Rep K mg G d v ∧ Reps K mg G ds r
def RepF (K : PySem.W.Frag) (mg : MG) (G : Hp) : List (Str × D) → List (Str × V) → Prop
  | [], vs => vs = []
  | (f, d) :: ds, vs => ∃ v r, vs = (f, v) :: r ∧ Rep K mg G d v ∧ RepF K mg G ds r
end
section
variable {K : PySem.W.Frag} {mg : MG} {G G' H H' : Hp}
theorem Same.sqT {a : Addr} {xs : List V} (e : Same H H') (h : SqT K H a xs) : SqT K H' a xs := by
  rcases h with (h | ⟨o, h⟩) | h
  · exact .inl (.inl (e _ _ h))
  · exact .inl (.inr ⟨o, e _ _ h⟩)
  · exact .inr h
mutual
theorem Rep.mono (s : Same G G') : ∀ (d : D) (v : V), Rep K mg G d v → Rep K mg G' d v
  | .non, _, h => by unfold Rep at *; exact h
  | .bl _, _, h => by unfold Rep at *; exact h
  | .int _, _, h => by unfold Rep at *; exact h
  | .str _, _, h => by unfold Rep at *; exact h
  | .tup ds, _, h => by
    unfold Rep at *
    obtain ⟨a, vs, e, q, r⟩ := h
    exact ⟨a, vs, e, Same.sqT s q, Reps.mono s ds vs r⟩
  | .lst ds, _, h => by
    unfold Rep at *
    obtain ⟨a, vs, e, q, r⟩ := h
    exact ⟨a, vs, e, s.seq q, Reps.mono s ds vs r⟩
  | .obj c fs, _, h => by
    unfold Rep at *
    obtain ⟨a, C, dx, fvs, e, m, q, r⟩ := h
    exact ⟨a, C, dx, fvs, e, m, s _ _ q, RepF.mono s fs fvs r⟩
theorem Reps.mono (s : Same G G') : ∀ (ds : List D) (vs : List V), Reps K mg G ds vs → Reps K mg G' ds vs
  | [], _, h => by unfold Reps at *; exact h
  | d :: ds, _, h => by
    unfold Reps at *
    obtain ⟨v, r, e, h1, h2⟩ := h
    exact ⟨v, r, e, Rep.mono s d v h1, Reps.mono s ds r h2⟩
theorem RepF.mono (s : Same G G') : ∀ (ds : List (Str × D)) (vs : List (Str × V)), RepF K mg G ds vs → RepF K mg G' ds vs
  | [], _, h => by unfold RepF at *; exact h
  | (f, d) :: ds, _, h => by
    unfold RepF at *
    obtain ⟨v, r, e, h1, h2⟩ := h
    exact ⟨v, r, e, Rep.mono s d v h1, RepF.mono s ds r h2⟩
end
theorem rep_non {v : V} : Rep K mg G .non v ↔ v = .non := by unfold Rep; exact Iff.rfl
theorem rep_bl {v : V} {b : Bool} : Rep K mg G (.bl b) v ↔ v = .bl b := by unfold Rep; exact Iff.rfl
theorem rep_int {v : V} {b : Int} : Rep K mg G (.int b) v ↔ v = .int b := by unfold Rep; exact Iff.rfl
theorem rep_str {v : V} {b : Str} : Rep K mg G (.str b) v ↔ v = .str b := by unfold Rep; exact Iff.rfl
theorem rep_tup {v : V} {ds : List D} : Rep K mg G (.tup ds) v ↔ ∃ a vs, v = .ref a ∧ SqT K G a vs ∧ Reps K mg G ds vs := by rw [Rep]
theorem rep_lst {v : V} {ds : List D} : Rep K mg G (.lst ds) v ↔ ∃ a vs, v = .ref a ∧ SqL K G a vs ∧ Reps K mg G ds vs := by rw [Rep]
theorem rep_obj {v : V} {c : Str} {fs : List (Str × D)} : Rep K mg G (.obj c fs) v ↔ ∃ a C dx fvs, v = .ref a ∧ mg c = some (.ref C) ∧ G a = some (.ins C dx fvs) ∧ RepF K mg G fs fvs := by rw [Rep]
theorem reps_nil {vs : List V} : Reps K mg G [] vs ↔ vs = [] := by rw [Reps]
theorem reps_cons {vs : List V} {d : D} {ds : List D} : Reps K mg G (d :: ds) vs ↔ ∃ v r, vs = v :: r ∧ Rep K mg G d v ∧ Reps K mg G ds r := by rw [Reps]
theorem repF_nil {vs : List (Str × V)} : RepF K mg G [] vs ↔ vs = [] := by rw [RepF]
theorem repF_cons {vs : List (Str × V)} {f : Str} {d : D} {ds : List (Str × D)} : RepF K mg G ((f, d) :: ds) vs ↔ ∃ v r, vs = (f, v) :: r ∧ Rep K mg G d v ∧ RepF K mg G ds r := by rw [RepF]
theorem Reps.length : ∀ {ds : List D} {vs : List V}, Reps K mg G ds vs → vs.length = ds.length
  | [], vs, h => by rw [reps_nil] at h; rw [h]; rfl
  | d :: ds, vs, h => by
    rw [reps_cons] at h
    obtain ⟨v, r, e, _, h2⟩ := h
    rw [e, List.length_cons, List.length_cons, Reps.length h2]
theorem Reps.get : ∀ {ds : List D} {vs : List V} {i : Nat} {d : D}, Reps K mg G ds vs → ds[i]? = some d → ∃ v, vs[i]? = some v ∧ Rep K mg G d v
  | [], _, i, d, _, e => by simp at e
  | d :: ds, vs, 0, d', h, e => by
    rw [reps_cons] at h
    obtain ⟨v, r, rfl, h1, _⟩ := h
    simp at e; subst e
    exact ⟨v, rfl, h1⟩
  | d :: ds, vs, i + 1, d', h, e => by
    rw [reps_cons] at h
    obtain ⟨v, r, rfl, _, h2⟩ := h
    obtain ⟨w, h3, h4⟩ := Reps.get (i := i) (d := d') h2 (by simpa using e)
    exact ⟨w, by simpa using h3, h4⟩
theorem Reps.getV : ∀ {ds : List D} {vs : List V} {i : Nat} {v : V}, Reps K mg G ds vs → vs[i]? = some v → ∃ d, ds[i]? = some d ∧ Rep K mg G d v
  | [], _, i, d, h, e => by rw [reps_nil] at h; subst h; simp at e
  | d :: ds, vs, 0, d', h, e => by
    rw [reps_cons] at h
    obtain ⟨v, r, rfl, h1, _⟩ := h
    simp at e; subst e
    exact ⟨d, rfl, h1⟩
  | d :: ds, vs, i + 1, d', h, e => by
    rw [reps_cons] at h
    obtain ⟨v, r, rfl, _, h2⟩ := h
    obtain ⟨w, h3, h4⟩ := Reps.getV (i := i) (v := d') h2 (by simpa using e)
    exact ⟨w, by simpa using h3, h4⟩
theorem Reps.append : ∀ {ds es : List D} {vs us : List V}, Reps K mg G ds vs → Reps K mg G es us → Reps K mg G (ds ++ es) (vs ++ us)
  | [], _, _, _, h, q => by rw [reps_nil] at h; subst h; exact q
  | d :: ds, es, vs, us, h, q => by
    rw [reps_cons] at h
    obtain ⟨v, r, rfl, h1, h2⟩ := h
    rw [List.cons_append, reps_cons]
    exact ⟨v, r ++ us, rfl, h1, Reps.append h2 q⟩
theorem Reps.take : ∀ {ds : List D} {vs : List V} (n : Nat), Reps K mg G ds vs → Reps K mg G (ds.take n) (vs.take n)
  | _, _, 0, _ => by rw [List.take_zero, List.take_zero, reps_nil]
  | [], vs, n + 1, h => by rw [reps_nil] at h; subst h; rw [List.take_nil, List.take_nil, reps_nil]
  | d :: ds, vs, n + 1, h => by
    rw [reps_cons] at h
    obtain ⟨v, r, rfl, h1, h2⟩ := h
    rw [List.take_succ_cons, List.take_succ_cons, reps_cons]
    exact ⟨v, _, rfl, h1, Reps.take n h2⟩
theorem Reps.drop : ∀ {ds : List D} {vs : List V} (n : Nat), Reps K mg G ds vs → Reps K mg G (ds.drop n) (vs.drop n)
  | _, _, 0, h => by rw [List.drop_zero, List.drop_zero]; exact h
  | [], vs, n + 1, h => by rw [reps_nil] at h; subst h; rw [List.drop_nil, List.drop_nil, reps_nil]
  | d :: ds, vs, n + 1, h => by
    rw [reps_cons] at h
    obtain ⟨v, r, rfl, h1, h2⟩ := h
    rw [List.drop_succ_cons, List.drop_succ_cons]
    exact Reps.drop n h2
theorem Reps.set {d : D} {v : V} (h : Rep K mg G d v) : ∀ {ds : List D} {vs : List V} (i : Nat), Reps K mg G ds vs → Reps K mg G (ds.set i d) (vs.set i v)
  | [], vs, i, q => by rw [reps_nil] at q; subst q; rw [List.set_nil, List.set_nil, reps_nil]
  | e :: ds, vs, 0, q => by
    rw [reps_cons] at q
    obtain ⟨w, r, rfl, h1, h2⟩ := q
    rw [List.set_cons_zero, List.set_cons_zero, reps_cons]
    exact ⟨v, r, rfl, h, h2⟩
  | e :: ds, vs, i + 1, q => by
    rw [reps_cons] at q
    obtain ⟨w, r, rfl, h1, h2⟩ := q
    rw [List.set_cons_succ, List.set_cons_succ, reps_cons]
    exact ⟨w, _, rfl, h1, Reps.set h i h2⟩
theorem Reps.one {d : D} {v : V} (h : Rep K mg G d v) : Reps K mg G [d] [v] := by
  rw [reps_cons]; exact ⟨v, [], rfl, h, by rw [reps_nil]⟩
theorem Reps.ints : ∀ {ns : List Int} {vs : List V}, Reps K mg G (ns.map D.int) vs → vs = ns.map V.int
  | [], vs, h => by rw [List.map_nil, reps_nil] at h; rw [h]; rfl
  | n :: ns, vs, h => by
    rw [List.map_cons, reps_cons] at h
    obtain ⟨v, r, rfl, h1, h2⟩ := h
    rw [rep_int] at h1
    rw [h1, Reps.ints h2]; rfl
theorem reps_ints : ∀ (ns : List Int), Reps K mg G (ns.map D.int) (ns.map V.int)
  | [] => by rw [List.map_nil, reps_nil]; rfl
  | n :: ns => by
    rw [List.map_cons, reps_cons]
    exact ⟨_, _, rfl, rep_int.mpr rfl, reps_ints ns⟩
theorem RepF.look : ∀ {fs : List (Str × D)} {vs : List (Str × V)} {f : Str} {d : D}, RepF K mg G fs vs → fs.lookup f = some d → ∃ v, vs.lookup f = some v ∧ Rep K mg G d v
  | [], _, f, d, _, e => by simp at e
  | (g, x) :: fs, vs, f, d, h, e => by
    rw [repF_cons] at h
    obtain ⟨v, r, rfl, h1, h2⟩ := h
    rw [List.lookup_cons] at e ⊢
    cases q : (f == g) with
    | true => rw [q] at e; cases e; exact ⟨v, rfl, h1⟩
    | false => rw [q] at e; exact RepF.look h2 e
theorem RepF.no : ∀ {fs : List (Str × D)} {vs : List (Str × V)} {f : Str}, RepF K mg G fs vs → fs.lookup f = none → vs.lookup f = none
  | [], _, f, h, e => by rw [repF_nil] at h; subst h; rfl
  | (g, x) :: fs, vs, f, h, e => by
    rw [repF_cons] at h
    obtain ⟨v, r, rfl, h1, h2⟩ := h
    rw [List.lookup_cons] at e ⊢
    cases q : (f == g) with
    | true => rw [q] at e; cases e
    | false => rw [q] at e; exact RepF.no h2 e
theorem RepF.length : ∀ {fs : List (Str × D)} {vs : List (Str × V)}, RepF K mg G fs vs → vs.length = fs.length
  | [], _, h => by rw [repF_nil] at h; rw [h]; rfl
  | (g, x) :: fs, vs, h => by
    rw [repF_cons] at h
    obtain ⟨v, r, rfl, h1, h2⟩ := h
    rw [List.length_cons, List.length_cons, RepF.length h2]
def putD (f : Str) (d : D) : List (Str × D) → List (Str × D)
  | [] => [(f, d)]
  | (g, x) :: r => if g = f then (f, d) :: r else (g, x) :: putD f d r
end

/-! ### the heap: frozen part G, owned objects at α -/
section
variable (K : PySem.W.Frag) (mg : MG)
def OwnAt (G H : Hp) (a : Addr) : OD → Prop
  | .lst ds => ∃ vs, H a = some (.lst vs) ∧ Reps K mg G ds vs
  | .ins c fs => ∃ C dx fvs, mg c = some (.ref C) ∧ H a = some (.ins C dx fvs) ∧ RepF K mg G fs fvs
structure Own (G : Hp) (α : List Addr) (ω : Om) (H : Hp) : Prop where
  sub : Same G H
  len : α.length = ω.length
  nd : α.Nodup
  ex : ∀ a ∈ α, ∃ o, H a = some o
  obj : ∀ (k : Nat) o a, ω[k]? = some (some o) → α[k]? = some a → G a = none ∧ OwnAt K mg G H a o
def RepV (G : Hp) (α : List Addr) : SV → V → Prop
  | .val d, v => Rep K mg G d v
  | .own k, v => ∃ a, α[k]? = some a ∧ v = .ref a
def RepVs (G : Hp) (α : List Addr) : List SV → List V → Prop := Paired (RepV K mg G α)
structure Slots (G : Hp) (α : List Addr) (ρ : Rho) (σ : St) : Prop where
  len : σ.length = ρ.length
  val : ∀ (i : Nat) x, ρ[i]? = some (some x) → ∃ v, σ[i]? = some (some v) ∧ RepV K mg G α x v
def RepX (G : Hp) (x : Exn) (c : Value) (dd : Option Addr) : Prop :=
  ∃ C, mg x.cls = some (.ref C) ∧ c = .ref C ∧ ((x.fs = [] ∧ dd = none) ∨ ∃ d fvs, dd = some d ∧ G d = some (.xd fvs) ∧ RepF K mg G x.fs fvs)
end
structure Ext (G : Hp) (α : List Addr) (H G' : Hp) (α' : List Addr) (H' : Hp) : Prop where
  g : Same G G'
  new : ∀ a o, G' a = some o → G a = some o ∨ H a = none ∨ a ∈ α
  keep : ∀ a o, H a = some o → a ∉ α → H' a = some o
  live : ∀ a o, H a = some o → ∃ o', H' a = some o'
  pre : ∃ more, α' = α ++ more ∧ ∀ a ∈ more, H a = none
structure Grow (G H G' H' : Hp) : Prop where
  g : Same G G'
  h : Same H H'
  s : Same G' H'
  new : ∀ a o, G' a = some o → G a = some o ∨ H a = none
section
variable {K : PySem.W.Frag} {mg : MG} {G G1 G2 H H1 H2 : Hp} {α α1 α2 : List Addr} {ω : Om}
theorem Ext.refl : Ext G α H G α H := ⟨Same.refl _, fun _ _ h => .inl h, fun _ _ h _ => h, fun _ o h => ⟨o, h⟩, [], by simp, by simp⟩
theorem Ext.trans (a : Ext G α H G1 α1 H1) (b : Ext G1 α1 H1 G2 α2 H2) : Ext G α H G2 α2 H2 := by
  obtain ⟨m1, e1, n1⟩ := a.pre
  obtain ⟨m2, e2, n2⟩ := b.pre
  have dead : ∀ x, H1 x = none → H x = none := fun x hx => by
    cases q : H x with
    | none => rfl
    | some o => obtain ⟨o', q'⟩ := a.live x o q; rw [hx] at q'; cases q'
  refine ⟨a.g.trans b.g, fun x o h => ?_, fun x o h n => ?_, fun x o h => ?_, m1 ++ m2, by rw [e2, e1, List.append_assoc], fun x hx => ?_⟩
  · rcases b.new x o h with h | h | h
    · exact a.new x o h
    · exact .inr (.inl (dead x h))
    · rw [e1] at h
      rcases List.mem_append.mp h with h | h
      · exact .inr (.inr h)
      · exact .inr (.inl (n1 x h))
  · refine b.keep x o (a.keep x o h n) fun z => ?_
    rw [e1] at z
    rcases List.mem_append.mp z with z | z
    · exact n z
    · rw [n1 x z] at h; cases h
  · obtain ⟨o', h'⟩ := a.live x o h
    exact b.live x o' h'
  · rcases List.mem_append.mp hx with z | z
    · exact n1 x z
    · exact dead x (n2 x z)
theorem Grow.refl (s : Same G H) : Grow G H G H := ⟨Same.refl _, Same.refl _, s, fun _ _ h => .inl h⟩
theorem Grow.trans (a : Grow G H G1 H1) (b : Grow G1 H1 G2 H2) : Grow G H G2 H2 :=
  ⟨a.g.trans b.g, a.h.trans b.h, b.s, fun x o h => (b.new x o h).elim (a.new x o) fun z => .inr (a.h.free z)⟩
theorem Same.upd {p : Addr} {o : HO} (h : H p = none) : Same H (L2.upd H p o) := fun b u e => by rw [upd_ne (ne_of_none e h)]; exact e
theorem Grow.put {p : Addr} {o : HO} (s : Same G H) (h : H p = none) : Grow G H (L2.upd G p o) (L2.upd H p o) := by
  have hg := s.free h
  refine ⟨Same.upd hg, Same.upd h, fun b u e => ?_, fun a u e => ?_⟩
  · by_cases q : b = p
    · subst q; rw [upd_same] at e ⊢; exact e
    · rw [upd_ne q] at e ⊢; exact s b u e
  · by_cases q : a = p
    · subst q; exact .inr h
    · rw [upd_ne q] at e; exact .inl e
/-- a new object that no datum knows -/
theorem Grow.side {p : Addr} {o : HO} (s : Same G H) (h : H p = none) : Grow G H G (L2.upd H p o) :=
  ⟨Same.refl _, Same.upd h, s.trans (Same.upd h), fun _ _ e => .inl e⟩
theorem OwnAt.mono {a : Addr} (sg : Same G G1) (e : H1 a = H a) : ∀ {o : OD}, OwnAt K mg G H a o → OwnAt K mg G1 H1 a o
  | .lst ds, ⟨vs, h1, h2⟩ => ⟨vs, e.trans h1, Reps.mono sg _ _ h2⟩
  | .ins c fs, ⟨C, dx, fvs, m, h1, h2⟩ => ⟨C, dx, fvs, m, e.trans h1, RepF.mono sg _ _ h2⟩
theorem OwnAt.there {a : Addr} : ∀ {o : OD}, OwnAt K mg G H a o → ∃ u, H a = some u
  | .lst ds, ⟨vs, h1, h2⟩ => ⟨_, h1⟩
  | .ins c fs, ⟨C, dx, fvs, m, h1, h2⟩ => ⟨_, h1⟩
theorem Own.grow (O : Own K mg G α ω H) (g : Grow G H G1 H1) : Own K mg G1 α ω H1 := by
  refine ⟨g.s, O.len, O.nd, fun a ha => let ⟨o, h⟩ := O.ex a ha; ⟨o, g.h a o h⟩, fun k o a h1 h2 => ?_⟩
  obtain ⟨n, q⟩ := O.obj k o a h1 h2
  obtain ⟨u, hu⟩ := q.there
  refine ⟨?_, q.mono g.g ((g.h a u hu).trans hu.symm)⟩
  cases z : G1 a with
  | none => rfl
  | some w =>
    rcases g.new a w z with y | y
    · rw [n] at y; cases y
    · rw [hu] at y; cases y
theorem Grow.ext (g : Grow G H G1 H1) : Ext G α H G1 α H1 :=
  ⟨g.g, fun a o h => (g.new a o h).elim .inl fun z => .inr (.inl z), fun a o h _ => g.h a o h, fun a o h => ⟨o, g.h a o h⟩, [], by simp, by simp⟩
theorem RepV.mono (s : Same G G1) (p : ∃ more, α1 = α ++ more) : ∀ {x : SV} {v : V}, RepV K mg G α x v → RepV K mg G1 α1 x v
  | .val d, v, h => Rep.mono s d v h
  | .own k, v, ⟨a, h1, h2⟩ => by
    obtain ⟨m, rfl⟩ := p
    refine ⟨a, ?_, h2⟩
    rw [List.getElem?_append_left (List.getElem?_eq_some_iff.mp h1).1]
    exact h1
theorem Ext.pre' (e : Ext G α H G1 α1 H1) : ∃ more, α1 = α ++ more := let ⟨m, h, _⟩ := e.pre; ⟨m, h⟩
theorem Slots.mono {ρ : Rho} {σ : St} (S : Slots K mg G α ρ σ) (e : Ext G α H G1 α1 H1) : Slots K mg G1 α1 ρ σ :=
  ⟨S.len, fun i x h => let ⟨v, h1, h2⟩ := S.val i x h; ⟨v, h1, h2.mono e.g e.pre'⟩⟩
theorem RepVs.mono (s : Same G G1) (p : ∃ more, α1 = α ++ more) : ∀ {xs : List SV} {vs : List V}, RepVs K mg G α xs vs → RepVs K mg G1 α1 xs vs
  | _, _, .nil => .nil
  | _, _, .cons h t => .cons (h.mono s p) (RepVs.mono s p t)
theorem Slots.set {ρ : Rho} {σ : St} {x : SV} {v : V} (S : Slots K mg G α ρ σ) (i : Nat) (h : RepV K mg G α x v) : Slots K mg G α (ρ.set i (some x)) (σ.set i (some v)) := by
  refine ⟨by simp [S.len], fun j y e => ?_⟩
  by_cases q : i = j
  · subst q
    by_cases hl : i < ρ.length
    · rw [List.getElem?_set_self hl] at e
      cases e
      exact ⟨v, List.getElem?_set_self (by rw [S.len]; exact hl), h⟩
    · rw [List.getElem?_eq_none (by simp; omega)] at e; cases e
  · rw [List.getElem?_set_ne q] at e
    obtain ⟨w, h1, h2⟩ := S.val j y e
    exact ⟨w, by rw [List.getElem?_set_ne q]; exact h1, h2⟩
end
end Dl
namespace Dl
open PySem L2

section
variable (K : PySem.W.Frag) (mg : MG)
def Post {β γ : Type} (R : Hp → List Addr → Hp → β → γ → Prop) (G : Hp) (α : List Addr) (H : Hp) (Q : γ → Hp → Prop) (E : XK) : Res β → Prop
  | .stuck => False
  | .ok b ω' => ∀ v G' α' H', Ext G α H G' α' H' → Own K mg G' α' ω' H' → R G' α' H' b v → Q v H'
  | .exc x ω' => ∀ c dd G' α' H', Ext G α H G' α' H' → Own K mg G' α' ω' H' → RepX K mg G' x c dd → E c dd H'
def RD : Hp → List Addr → Hp → D → V → Prop := fun G _ _ d v => Rep K mg G d v
def RS : Hp → List Addr → Hp → SV → V → Prop := fun G α _ x v => RepV K mg G α x v
def RL : Hp → List Addr → Hp → List D → V → Prop := fun G _ H ds v => ∃ a vs, v = .ref a ∧ SqL K H a vs ∧ Reps K mg G ds vs
def RB : Hp → List Addr → Hp → Bool → Bool → Prop := fun _ _ _ b c => b = c
def RA : Hp → List Addr → Hp → List SV → List V → Prop := fun G α _ xs vs => RepVs K mg G α xs vs
end
section
variable {K : PySem.W.Frag} {mg : MG} {β γ β2 γ2 : Type} {R : Hp → List Addr → Hp → β → γ → Prop} {R2 : Hp → List Addr → Hp → β2 → γ2 → Prop}
  {G G1 H H1 : Hp} {α α1 : List Addr} {Q Q1 : γ → Hp → Prop} {Q2 : γ2 → Hp → Prop} {E : XK} {ω : Om}
theorem Post.weak {r : Res β} (e : Ext G α H G1 α1 H1) (h : Post K mg R G α H Q E r) : Post K mg R G1 α1 H1 Q E r := by
  cases r with
  | stuck => exact h
  | ok b ω' => exact fun v G' α' H' e' O q => h v G' α' H' (e.trans e') O q
  | exc x ω' => exact fun c dd G' α' H' e' O q => h c dd G' α' H' (e.trans e') O q
theorem Post.step {t : (γ → Hp → Prop) → Prop} {r : Res β} {g : β → Om → Res β2} (J : ∀ Q, Post K mg R G α H Q E r → t Q) (h : Post K mg R2 G α H Q2 E (r.bind g))
    (k : ∀ b ω1 v G' α' H', Ext G α H G' α' H' → Own K mg G' α' ω1 H' → R G' α' H' b v → Post K mg R2 G' α' H' Q2 E (g b ω1) → Q1 v H') : t Q1 := by
  cases r with
  | stuck => exact h.elim
  | ok b ω' => exact J Q1 fun v G' α' H' e O q => k b ω' v G' α' H' e O q (h.weak e)
  | exc x ω' => exact J Q1 h
/-- an end that a pure step reaches -/
theorem Post.grow {b : β} {v : γ} (O : Own K mg G α ω H) (g : Grow G H G1 H1) (q : R G1 α H1 b v) (h : Post K mg R G α H Q E (.ok b ω)) : Q v H1 :=
  h v G1 α H1 g.ext (O.grow g) q
theorem Post.here {b : β} {v : γ} (O : Own K mg G α ω H) (q : R G α H b v) (h : Post K mg R G α H Q E (.ok b ω)) : Q v H :=
  h v G α H Ext.refl O q
theorem Post.lift {o : Option β} (h : Post K mg R G α H Q E (Res.lift o ω)) : ∃ b, o = some b ∧ Post K mg R G α H Q E (.ok b ω) := by
  cases o with
  | none => exact h.elim
  | some b => exact ⟨b, rfl, h⟩
end

/-! ### the judgements -/
abbrev FE (β : Type) := Rho → Om → Res β
def Je {β : Type} (R : PySem.W.Frag → MG → Hp → List Addr → Hp → β → V → Prop) (X : Cx) (W : WX) (e : Expr) (f : FE β) : Prop :=
  ∃ t, PE X e t ∧ ∀ G α ρ ω σ H Q, Own X.K X.mg G α ω H → Slots X.K X.mg G α ρ σ → Post X.K X.mg (R X.K X.mg) G α H Q (fun c d H' => W c d σ H') (f ρ ω) → t σ H Q
/-- an expression that gives a datum; a slot's value; a list that may be read -/
abbrev De (X : Cx) (W : WX) (e : Expr) (f : FE D) : Prop := Je RD X W e f
abbrev Dv (X : Cx) (W : WX) (e : Expr) (f : FE SV) : Prop := Je RS X W e f
abbrev Dl (X : Cx) (W : WX) (e : Expr) (f : FE (List D)) : Prop := Je RL X W e f
/-- a test -/
def Dt (X : Cx) (W : WX) (e : Expr) (f : FE Bool) : Prop :=
  ∃ t, PT X e t ∧ ∀ G α ρ ω σ H Q, Own X.K X.mg G α ω H → Slots X.K X.mg G α ρ σ → Post X.K X.mg RB G α H Q (fun c d H' => W c d σ H') (f ρ ω) → t σ H Q
def Dw (X : Cx) (W : WX) (e : Expr) (f : FE Bool) : Prop :=
  ∃ t, PW X e t ∧ ∀ G α ρ ω σ H Q, Own X.K X.mg G α ω H → Slots X.K X.mg G α ρ σ → Post X.K X.mg RB G α H Q (fun c d H' => W c d σ H') (f ρ ω) → t σ H Q
def Da (X : Cx) (W : WX) (es : List Expr) (f : FE (List SV)) : Prop :=
  ∃ t, PA X es t ∧ ∀ G α ρ ω σ H Q, Own X.K X.mg G α ω H → Slots X.K X.mg G α ρ σ → Post X.K X.mg (RA X.K X.mg) G α H Q (fun c d H' => W c d σ H') (f ρ ω) → t σ H Q

/-! ### names and constants -/
def eC (d : D) : FE D := fun _ ω => .ok d ω
def eVar (i : Nat) : FE D := fun ρ ω => match ρ[i]? with
  | some (some (.val d)) => .ok d ω
  | _ => .stuck
def eSlot (i : Nat) : FE SV := fun ρ ω => match ρ[i]? with
  | some (some x) => .ok x ω
  | _ => .stuck
/-- the list that the object in the slot holds -/
def eOwnL (i : Nat) : FE (List D) := fun ρ ω => match ρ[i]? with
  | some (some (.own k)) => match ω[k]? with
    | some (some (.lst ds)) => .ok ds ω
    | _ => .stuck
  | _ => .stuck
section
variable {X : Cx} {W : WX} {a b c e : Expr} {pos : Pos}
theorem de_of {v : V} {d : D} (h : PE X e (tC v)) (r : ∀ G, Rep X.K X.mg G d v) : De X W e (eC d) :=
  ⟨_, h, fun G α ρ ω σ H Q O S P => Post.here O (r G) P⟩
theorem de_int {i : Int} {j} : De X W (.Constant (.int i) j pos) (eC (.int i)) := de_of pe_int fun _ => rep_int.mpr rfl
theorem de_bl {b : Bool} {j} : De X W (.Constant (.bool b) j pos) (eC (.bl b)) := de_of pe_bl fun _ => rep_bl.mpr rfl
theorem de_non {j} : De X W (.Constant .none j pos) (eC .non) := de_of pe_non fun _ => rep_non.mpr rfl
theorem de_str {x : Str} {j} : De X W (.Constant (.str x) j pos) (eC (.str x)) := de_of pe_str fun _ => rep_str.mpr rfl
theorem de_globI {x : Str} {i : Int} {t : Tok} (hm : X.mg x = some (.int i t)) (hg : Gl X x := by rfl) (hd : (x == ("__debug__" : Str)) = false := by decide) : De X W (.Name x pos) (eC (.int i)) :=
  de_of (pe_glob (v := .int i) hg hm ⟨t, rfl⟩ hd) fun _ => rep_int.mpr rfl
theorem de_globS {x y : Str} {t : Tok} (hm : X.mg x = some (.str y t)) (hg : Gl X x := by rfl) (hd : (x == ("__debug__" : Str)) = false := by decide) : De X W (.Name x pos) (eC (.str y)) :=
  de_of (pe_glob (v := .str y) hg hm ⟨t, rfl⟩ hd) fun _ => rep_str.mpr rfl
theorem var_post {β : Type} {R : Hp → List Addr → Hp → β → V → Prop} {x : SV} {v : V} {f : SV → Option β} {K : PySem.W.Frag} {mg : MG} {G H : Hp} {α : List Addr} {ω : Om} {Q : VK} {E : XK} (O : Own K mg G α ω H) (h : Post K mg R G α H Q E (Res.lift (f x) ω))
    (r : ∀ b, f x = some b → R G α H b v) : Q v H := by
  obtain ⟨b, e, h⟩ := h.lift
  exact Post.here O (r b e) h
theorem dv_var (i : Nat) {x : Str} (hN : X.N[i]? = some x := by rfl) (hv : Vis X.env.scope x := by first | exact Or.inl rfl | exact Or.inr (Or.inl rfl) | exact Or.inr (Or.inr rfl)) (hd : (x == ("__debug__" : Str)) = false := by decide)
    (hcd : (x == ("__classdict__" : Str)) = false := by decide) : Dv X W (.Name x pos) (eSlot i) := by
  refine ⟨_, pe_var hN hv hd hcd, fun G α ρ ω σ H Q O S P => ?_⟩
  unfold eSlot at P
  split at P
  · rename_i y hy
    obtain ⟨v, h1, h2⟩ := S.val i y hy
    exact ⟨v, h1, Post.here O h2 P⟩
  · exact P.elim
theorem de_var (i : Nat) {x : Str} (hN : X.N[i]? = some x := by rfl) (hv : Vis X.env.scope x := by first | exact Or.inl rfl | exact Or.inr (Or.inl rfl) | exact Or.inr (Or.inr rfl)) (hd : (x == ("__debug__" : Str)) = false := by decide)
    (hcd : (x == ("__classdict__" : Str)) = false := by decide) : De X W (.Name x pos) (eVar i) := by
  refine ⟨_, pe_var hN hv hd hcd, fun G α ρ ω σ H Q O S P => ?_⟩
  unfold eVar at P
  split at P
  · rename_i y hy
    obtain ⟨v, h1, h2⟩ := S.val i _ hy
    exact ⟨v, h1, Post.here O h2 P⟩
  · exact P.elim
theorem dl_var (i : Nat) {x : Str} (hN : X.N[i]? = some x := by rfl) (hv : Vis X.env.scope x := by first | exact Or.inl rfl | exact Or.inr (Or.inl rfl) | exact Or.inr (Or.inr rfl)) (hd : (x == ("__debug__" : Str)) = false := by decide)
    (hcd : (x == ("__classdict__" : Str)) = false := by decide) : Dl X W (.Name x pos) (eOwnL i) := by
  refine ⟨_, pe_var hN hv hd hcd, fun G α ρ ω σ H Q O S P => ?_⟩
  unfold eOwnL at P
  split at P
  · rename_i k hk
    split at P
    · rename_i ds hds
      obtain ⟨v, h1, a, h2, rfl⟩ := S.val i _ hk
      obtain ⟨_, vs, h3, h4⟩ := O.obj k _ a hds h2
      exact ⟨_, h1, Post.here O ⟨a, vs, rfl, SqL.of h3, h4⟩ P⟩
    · exact P.elim
  · exact P.elim
/-- a frozen list may be read -/
def asLst : D → Option (List D)
  | .lst ds => some ds
  | _ => none
def eLst (f : FE D) : FE (List D) := fun ρ ω => (f ρ ω).bind fun d ω1 => Res.lift (asLst d) ω1
theorem dl_of {f : FE D} (h : De X W e f) : Dl X W e (eLst f) := by
  obtain ⟨t, p, j⟩ := h
  refine ⟨t, p, fun G α ρ ω σ H Q O S P => ?_⟩
  refine Post.step (t := t σ H) (j G α ρ ω σ H · O S) P fun d ω1 v G1 α1 H1 e1 O1 r1 P1 => ?_
  obtain ⟨ds, e2, P2⟩ := P1.lift
  cases d with
  | lst ds' =>
    cases e2
    have r1' : Rep X.K X.mg G1 (.lst ds) v := r1
    rw [rep_lst] at r1'
    obtain ⟨a, vs, e3, q, r⟩ := r1'
    exact Post.here O1 ⟨a, vs, e3, O1.sub.seq q, r⟩ P2
  | _ => cases e2

/-! ### pure operators -/
/-- what a rule r by values does on data -/
def Bop (K : PySem.W.Frag) (mg : MG) (r : R2) (op : D → D → Option D) : Prop :=
  ∀ G H x y d v1 v2 Q, Same G H → op x y = some d → Rep K mg G x v1 → Rep K mg G y v2 → (∀ v G' H', Grow G H G' H' → Rep K mg G' d v → Q v H') → r v1 v2 H Q
def eBin (op : D → D → Option D) (f g : FE D) : FE D := fun ρ ω => (f ρ ω).bind fun x ω1 => (g ρ ω1).bind fun y ω2 => Res.lift (op x y) ω2
theorem bin_post {r : R2} {op : D → D → Option D} {K : PySem.W.Frag} {mg : MG} {G H : Hp} {α : List Addr} {ω : Om} {Q : VK} {E : XK} {x y : D} {v1 v2 : V} (B : Bop K mg r op) (O : Own K mg G α ω H) (r1 : Rep K mg G x v1) (r2 : Rep K mg G y v2)
    (P : Post K mg (RD K mg) G α H Q E (Res.lift (op x y) ω)) : r v1 v2 H Q := by
  obtain ⟨d, e, P⟩ := P.lift
  exact B G H x y d v1 v2 Q O.sub e r1 r2 fun v G' H' g q => Post.grow O g q P
theorem tOp_post {r : R2} {op : D → D → Option D} {f g : FE D} {ta tb : TE} {K : PySem.W.Frag} {mg : MG} (B : Bop K mg r op)
    (ja : ∀ G α ρ ω σ H Q, Own K mg G α ω H → Slots K mg G α ρ σ → Post K mg (RD K mg) G α H Q (fun c d H' => W c d σ H') (f ρ ω) → ta σ H Q)
    (jb : ∀ G α ρ ω σ H Q, Own K mg G α ω H → Slots K mg G α ρ σ → Post K mg (RD K mg) G α H Q (fun c d H' => W c d σ H') (g ρ ω) → tb σ H Q)
    (G α ρ ω σ H Q) (O : Own K mg G α ω H) (S : Slots K mg G α ρ σ) (P : Post K mg (RD K mg) G α H Q (fun c d H' => W c d σ H') (eBin op f g ρ ω)) : tOp r ta tb σ H Q := by
  refine Post.step (t := ta σ H) (ja G α ρ ω σ H · O S) P fun x ω1 v1 G1 α1 H1 e1 O1 r1 P1 => ?_
  refine Post.step (t := tb σ H1) (jb G1 α1 ρ ω1 σ H1 · O1 (S.mono e1)) P1 fun y ω2 v2 G2 α2 H2 e2 O2 r2 P2 => ?_
  exact bin_post B O2 (Rep.mono e2.g _ _ r1) r2 P2
theorem de_bin {o : Operator} {r : R2} {op : D → D → Option D} {f g : FE D} (ho : OpR X (binaryOp o) r) (B : Bop X.K X.mg r op) (ja : De X W a f) (jb : De X W b g) : De X W (.BinOp a o b pos) (eBin op f g) := by
  obtain ⟨ta, pa, ka⟩ := ja
  obtain ⟨tb, pb, kb⟩ := jb
  exact ⟨_, pe_op ho pa pb, tOp_post B ka kb⟩
theorem de_cmp {o : CmpOp} {r : R2} {op : D → D → Option D} {f g : FE D} (ho : OpR X (compareOp o) r) (B : Bop X.K X.mg r op) (ja : De X W a f) (jb : De X W b g) (hm : behindInMarks o b = false := by first | exact nomark _ | rfl) : De X W (.Compare a [o] [b] pos) (eBin op f g) := by
  obtain ⟨ta, pa, ka⟩ := ja
  obtain ⟨tb, pb, kb⟩ := jb
  exact ⟨_, pe_cmpR ho pa pb hm, tOp_post B ka kb⟩
theorem de_ix {r : R2} {op : D → D → Option D} {f g : FE D} (ho : IxR X r) (B : Bop X.K X.mg r op) (ja : De X W a f) (jb : De X W b g) (hs : PlainIx b := by exact fun _ _ => rfl) : De X W (.Subscript a b pos) (eBin op f g) := by
  obtain ⟨ta, pa, ka⟩ := ja
  obtain ⟨tb, pb, kb⟩ := jb
  exact ⟨_, pe_ix ho pa pb hs, tOp_post B ka kb⟩
/-- a comparison as a test -/
def asBl : D → Option Bool
  | .bl b => some b
  | _ => none
def eTest (f : FE D) : FE Bool := fun ρ ω => (f ρ ω).bind fun d ω1 => Res.lift (asBl d) ω1
theorem test_post {t : TE} {f : FE D} {K : PySem.W.Frag} {mg : MG} (j : ∀ G α ρ ω σ H Q, Own K mg G α ω H → Slots K mg G α ρ σ → Post K mg (RD K mg) G α H Q (fun c d H' => W c d σ H') (f ρ ω) → t σ H Q)
    (G α ρ ω σ H Q) (O : Own K mg G α ω H) (S : Slots K mg G α ρ σ) (P : Post K mg RB G α H Q (fun c d H' => W c d σ H') (eTest f ρ ω)) : t σ H fun x H' => ∃ k, x = .bl k ∧ Q k H' := by
  refine Post.step (t := t σ H) (j G α ρ ω σ H · O S) P fun x ω1 v1 G1 α1 H1 e1 O1 r1 P1 => ?_
  obtain ⟨k, e2, P2⟩ := P1.lift
  cases x with
  | bl k' =>
    cases e2
    have r1' : Rep K mg G1 (.bl k) v1 := r1
    rw [rep_bl] at r1'
    exact ⟨k, r1', Post.here O1 rfl P2⟩
  | _ => cases e2
theorem dt_cmp {o : CmpOp} {r : R2} {op : D → D → Option D} {f g : FE D} (ho : OpR X (compareOp o) r) (B : Bop X.K X.mg r op) (ja : De X W a f) (jb : De X W b g) (hm : behindInMarks o b = false := by first | exact nomark _ | rfl) : Dt X W (.Compare a [o] [b] pos) (eTest (eBin op f g)) := by
  obtain ⟨ta, pa, ka⟩ := ja
  obtain ⟨tb, pb, kb⟩ := jb
  exact ⟨_, pt_cmpR ho pa pb hm, test_post (tOp_post B ka kb)⟩
theorem dt_val {f : FE D} (j : De X W e f) (he : ∀ whole, isTrue e X.env whole = (do let v ← whole; standAt e.pos; holding [v] (truthy v)) := by intro _; rfl) : Dt X W e (eTest f) := by
  obtain ⟨t, p, k⟩ := j
  exact ⟨_, pt_val p he, test_post k⟩

/-! ### and, or, not, if -/
def eAndT (f g : FE Bool) : FE Bool := fun ρ ω => (f ρ ω).bind fun c ω1 => if c = true then g ρ ω1 else .ok false ω1
def eOrT (f g : FE Bool) : FE Bool := fun ρ ω => (f ρ ω).bind fun c ω1 => if c = true then .ok true ω1 else g ρ ω1
def eNotT (f : FE Bool) : FE Bool := fun ρ ω => (f ρ ω).bind fun c ω1 => .ok (!c) ω1
variable {rest : List Expr}
theorem dw_and1 {f : FE Bool} (h : Dt X W a f) : Dw X W (.BoolOp .And [a] pos) f := let ⟨t, p, k⟩ := h; ⟨t, pw_and1 p, k⟩
theorem dw_or1 {f : FE Bool} (h : Dt X W a f) : Dw X W (.BoolOp .Or [a] pos) f := let ⟨t, p, k⟩ := h; ⟨t, pw_or1 p, k⟩
theorem dw_and {f g : FE Bool} (h : Dt X W a f) (h2 : Dw X W (.BoolOp .And (b :: rest) pos) g) : Dw X W (.BoolOp .And (a :: b :: rest) pos) (eAndT f g) := by
  obtain ⟨ta, pa, ka⟩ := h
  obtain ⟨tb, pb, kb⟩ := h2
  refine ⟨_, pw_and pa pb, fun G α ρ ω σ H Q O S P => ?_⟩
  refine Post.step (t := ta σ H) (ka G α ρ ω σ H · O S) P fun x ω1 v1 G1 α1 H1 e1 O1 r1 P1 => ?_
  cases r1
  cases x with
  | true => exact iteT (kb G1 α1 ρ ω1 σ H1 Q O1 (S.mono e1) P1)
  | false => exact iteF (Post.here O1 rfl P1)
theorem dw_or {f g : FE Bool} (h : Dt X W a f) (h2 : Dw X W (.BoolOp .Or (b :: rest) pos) g) : Dw X W (.BoolOp .Or (a :: b :: rest) pos) (eOrT f g) := by
  obtain ⟨ta, pa, ka⟩ := h
  obtain ⟨tb, pb, kb⟩ := h2
  refine ⟨_, pw_or pa pb, fun G α ρ ω σ H Q O S P => ?_⟩
  refine Post.step (t := ta σ H) (ka G α ρ ω σ H · O S) P fun x ω1 v1 G1 α1 H1 e1 O1 r1 P1 => ?_
  cases r1
  cases x with
  | true => exact iteT (Post.here O1 rfl P1)
  | false => exact iteF (kb G1 α1 ρ ω1 σ H1 Q O1 (S.mono e1) P1)
theorem dt_w {f : FE Bool} (h : Dw X W e f) : Dt X W e f := let ⟨t, p, k⟩ := h; ⟨t, p.pt, k⟩
theorem dt_not {f : FE Bool} (h : Dt X W a f) : Dt X W (.UnaryOp .Not a pos) (eNotT f) := by
  obtain ⟨ta, pa, ka⟩ := h
  refine ⟨_, pt_not pa, fun G α ρ ω σ H Q O S P => ?_⟩
  refine Post.step (t := ta σ H) (ka G α ρ ω σ H · O S) P fun x ω1 v1 G1 α1 H1 e1 O1 r1 P1 => ?_
  cases r1
  exact Post.here O1 rfl P1
/-- values -/
def eAnd (f g : FE D) : FE D := fun ρ ω => (eTest f ρ ω).bind fun c ω1 => if c = true then g ρ ω1 else .ok (.bl false) ω1
def eOr (f g : FE D) : FE D := fun ρ ω => (eTest f ρ ω).bind fun c ω1 => if c = true then .ok (.bl true) ω1 else g ρ ω1
def eNot (f : FE D) : FE D := fun ρ ω => (eTest f ρ ω).bind fun c ω1 => .ok (.bl (!c)) ω1
theorem de_one {op} {f : FE D} (h : De X W a f) : De X W (.BoolOp op [a] pos) f := let ⟨t, p, k⟩ := h; ⟨t, pe_one p, k⟩
theorem de_and {f g : FE D} (h : De X W a f) (h2 : De X W (.BoolOp .And (b :: rest) pos) g) : De X W (.BoolOp .And (a :: b :: rest) pos) (eAnd f g) := by
  obtain ⟨ta, pa, ka⟩ := h
  obtain ⟨tb, pb, kb⟩ := h2
  refine ⟨_, pe_and pa pb, fun G α ρ ω σ H Q O S P => ?_⟩
  refine Post.step (t := fun Q => ta σ H fun x H' => ∃ k, x = .bl k ∧ Q k H') (Q1 := fun c H1 => if c = true then tb σ H1 Q else Q (.bl false) H1) (test_post ka G α ρ ω σ H · O S) P ?_
  intro x ω1 v1 G1 α1 H1 e1 O1 r1 P1
  cases r1
  cases x with
  | true => exact iteT (kb G1 α1 ρ ω1 σ H1 Q O1 (S.mono e1) P1)
  | false => exact iteF (Post.here O1 (rep_bl.mpr rfl) P1)
theorem de_or {f g : FE D} (h : De X W a f) (h2 : De X W (.BoolOp .Or (b :: rest) pos) g) : De X W (.BoolOp .Or (a :: b :: rest) pos) (eOr f g) := by
  obtain ⟨ta, pa, ka⟩ := h
  obtain ⟨tb, pb, kb⟩ := h2
  refine ⟨_, pe_or pa pb, fun G α ρ ω σ H Q O S P => ?_⟩
  refine Post.step (t := fun Q => ta σ H fun x H' => ∃ k, x = .bl k ∧ Q k H') (Q1 := fun c H1 => if c = true then Q (.bl true) H1 else tb σ H1 Q) (test_post ka G α ρ ω σ H · O S) P ?_
  intro x ω1 v1 G1 α1 H1 e1 O1 r1 P1
  cases r1
  cases x with
  | true => exact iteT (Post.here O1 (rep_bl.mpr rfl) P1)
  | false => exact iteF (kb G1 α1 ρ ω1 σ H1 Q O1 (S.mono e1) P1)
theorem de_not {f : FE D} (h : De X W a f) : De X W (.UnaryOp .Not a pos) (eNot f) := by
  obtain ⟨ta, pa, ka⟩ := h
  refine ⟨_, pe_not pa, fun G α ρ ω σ H Q O S P => ?_⟩
  refine Post.step (t := fun Q => ta σ H fun x H' => ∃ k, x = .bl k ∧ Q k H') (Q1 := fun c H1 => Q (.bl (!c)) H1) (test_post ka G α ρ ω σ H · O S) P ?_
  intro x ω1 v1 G1 α1 H1 e1 O1 r1 P1
  cases r1
  exact Post.here O1 (rep_bl.mpr rfl) P1
def eIf (c : FE Bool) (f g : FE D) : FE D := fun ρ ω => (c ρ ω).bind fun b ω1 => if b = true then f ρ ω1 else g ρ ω1
theorem de_if {fc : FE Bool} {f g : FE D} (hc : Dt X W c fc) (h : De X W a f) (h2 : De X W b g) : De X W (.IfExp c a b pos) (eIf fc f g) := by
  obtain ⟨tc, pc, kc⟩ := hc
  obtain ⟨ta, pa, ka⟩ := h
  obtain ⟨tb, pb, kb⟩ := h2
  refine ⟨_, pe_ifExp pc pa pb, fun G α ρ ω σ H Q O S P => ?_⟩
  refine Post.step (t := tc σ H) (kc G α ρ ω σ H · O S) P fun x ω1 v1 G1 α1 H1 e1 O1 r1 P1 => ?_
  cases r1
  cases x with
  | true => exact iteT (ka G1 α1 ρ ω1 σ H1 Q O1 (S.mono e1) P1)
  | false => exact iteF (kb G1 α1 ρ ω1 σ H1 Q O1 (S.mono e1) P1)

/-! ### argument lists, displays -/
def aNil : FE (List SV) := fun _ ω => .ok [] ω
def aCons (f : FE SV) (g : FE (List SV)) : FE (List SV) := fun ρ ω => (f ρ ω).bind fun x ω1 => (g ρ ω1).bind fun xs ω2 => .ok (x :: xs) ω2
def aVal (f : FE D) : FE SV := fun ρ ω => (f ρ ω).bind fun d ω1 => .ok (.val d) ω1
theorem dv_of {f : FE D} (h : De X W e f) : Dv X W e (aVal f) := by
  obtain ⟨t, p, j⟩ := h
  refine ⟨t, p, fun G α ρ ω σ H Q O S P => ?_⟩
  exact Post.step (t := t σ H) (j G α ρ ω σ H · O S) P fun d ω1 v G1 α1 H1 e1 O1 r1 P1 => Post.here (R := RS X.K X.mg) (b := SV.val d) O1 r1 P1
theorem da_nil : Da X W [] aNil := ⟨_, pa_nil, fun G α ρ ω σ H Q O S P => Post.here O .nil P⟩
theorem da_cons {es : List Expr} {f : FE SV} {g : FE (List SV)} (h : Dv X W e f) (h2 : Da X W es g) (hs : starEach (e :: es) X.env = (false, eval e X.env) :: starEach es X.env := by rfl) : Da X W (e :: es) (aCons f g) := by
  obtain ⟨ta, pa, ka⟩ := h
  obtain ⟨tb, pb, kb⟩ := h2
  refine ⟨_, pa_cons pa pb hs, fun G α ρ ω σ H Q O S P => ?_⟩
  refine Post.step (t := ta σ H) (ka G α ρ ω σ H · O S) P fun x ω1 v1 G1 α1 H1 e1 O1 r1 P1 => ?_
  refine Post.step (t := tb σ H1) (kb G1 α1 ρ ω1 σ H1 · O1 (S.mono e1)) P1 fun y ω2 v2 G2 α2 H2 e2 O2 r2 P2 => ?_
  exact Post.here O2 (.cons (r1.mono e2.g e2.pre') r2) P2
theorem da_val {es : List Expr} {f : FE D} {g : FE (List SV)} (h : De X W e f) (h2 : Da X W es g) (hs : starEach (e :: es) X.env = (false, eval e X.env) :: starEach es X.env := by rfl) : Da X W (e :: es) (aCons (aVal f) g) := da_cons (dv_of h) h2 hs
/-- all of them data -/
def allD : List SV → Option (List D)
  | [] => some []
  | .val d :: xs => (allD xs).map (d :: ·)
  | .own _ :: _ => none
theorem allD_reps {K : PySem.W.Frag} {mg : MG} {G : Hp} {α : List Addr} : ∀ {xs : List SV} {ds : List D} {vs : List V}, allD xs = some ds → RepVs K mg G α xs vs → Reps K mg G ds vs
  | [], ds, _, e, .nil => by cases e; rw [reps_nil]
  | .val d :: xs, ds, _, e, .cons h t => by
    unfold allD at e
    cases q : allD xs with
    | none => rw [q] at e; cases e
    | some es =>
      rw [q] at e
      cases e
      rw [reps_cons]
      exact ⟨_, _, rfl, h, allD_reps q t⟩
  | .own k :: xs, ds, _, e, _ => by cases e
abbrev lim : Nat := 16777216
theorem lim_eq : sizeLine = lim := sizeLine_eq
def eTup (g : FE (List SV)) : FE D := fun ρ ω => (g ρ ω).bind fun xs ω1 => Res.lift (if xs.length ≤ lim then (allD xs).map D.tup else none) ω1
def eList (g : FE (List SV)) : FE D := fun ρ ω => (g ρ ω).bind fun xs ω1 => Res.lift (if xs.length ≤ lim then (allD xs).map D.lst else none) ω1
theorem RepVs.length {K : PySem.W.Frag} {mg : MG} {G : Hp} {α : List Addr} : ∀ {xs : List SV} {vs : List V}, RepVs K mg G α xs vs → xs.length = vs.length := fun h => Paired.length h
theorem rep_newT {K : PySem.W.Frag} {mg : MG} {G H : Hp} {p : Addr} {ds : List D} {vs : List V} (hp : G p = none) (r : Reps K mg G ds vs) : Rep K mg (L2.upd G p (.tup vs)) (.tup ds) (.ref p) :=
  rep_tup.mpr ⟨p, vs, rfl, SqT.of upd_same, Reps.mono (Same.upd hp) _ _ r⟩
theorem rep_newL {K : PySem.W.Frag} {mg : MG} {G H : Hp} {p : Addr} {ds : List D} {vs : List V} (hp : G p = none) (r : Reps K mg G ds vs) : Rep K mg (L2.upd G p (.lst vs)) (.lst ds) (.ref p) :=
  rep_lst.mpr ⟨p, vs, rfl, SqL.of upd_same, Reps.mono (Same.upd hp) _ _ r⟩
theorem de_tup {es : List Expr} {x1} {g : FE (List SV)} (h : Da X W es g) : De X W (.Tuple es x1 pos) (eTup g) := by
  obtain ⟨t, p, k⟩ := h
  refine ⟨_, pe_tup p, fun G α ρ ω σ H Q O S P => ?_⟩
  refine Post.step (t := t σ H) (k G α ρ ω σ H · O S) P fun xs ω1 vs G1 α1 H1 e1 O1 r1 P1 => ?_
  obtain ⟨d, e2, P2⟩ := P1.lift
  split at e2
  · rename_i hl
    cases q : allD xs with
    | none => rw [q] at e2; cases e2
    | some ds =>
      rw [q] at e2; cases e2
      have hr := allD_reps q r1
      refine ⟨by rw [lim_eq, ← RepVs.length r1]; exact hl, fun p hp => ?_⟩
      exact Post.grow O1 (Grow.put O1.sub hp) (rep_newT (H := H1) (O1.sub.free hp) hr) P2
  · cases e2
theorem de_lst {es : List Expr} {g : FE (List SV)} (h : Da X W es g) : De X W (.List es pos) (eList g) := by
  obtain ⟨t, p, k⟩ := h
  refine ⟨_, pe_lst p, fun G α ρ ω σ H Q O S P => ?_⟩
  refine Post.step (t := t σ H) (k G α ρ ω σ H · O S) P fun xs ω1 vs G1 α1 H1 e1 O1 r1 P1 => ?_
  obtain ⟨d, e2, P2⟩ := P1.lift
  split at e2
  · rename_i hl
    cases q : allD xs with
    | none => rw [q] at e2; cases e2
    | some ds =>
      rw [q] at e2; cases e2
      have hr := allD_reps q r1
      refine ⟨by rw [lim_eq, ← RepVs.length r1]; exact hl, fun p hp => ?_⟩
      exact Post.grow O1 (Grow.put O1.sub hp) (rep_newL (H := H1) (O1.sub.free hp) hr) P2
  · cases e2
end
end Dl
namespace Dl
open PySem L2

/-! ### data of the library's kind -/
mutual
def toPy : D → Option PyData
  | .non => some .none
  | .bl b => some (.bool b)
  | .int i => some (.int i)
  | .str x => some (.str x)
  | .tup ds => (toPys ds).map .tuple
  | .lst ds => (toPys ds).map .list
  | .obj _ _ => none
def toPys : List D → Option (List PyData)
  | [] => some []
  | d :: ds => match toPy d with
    | some p => (toPys ds).map (p :: ·)
    | none => none
end
section
variable {K : PySem.W.Frag} {mg : MG} {G H : Hp}
mutual
theorem dp_of (s : Same G H) : ∀ (d : D) (p : PyData) (v : V), toPy d = some p → Rep K mg G d v → Dp K H v p
  | .non, p, v, e, r => by
    unfold toPy at e; cases e; rw [rep_non] at r; subst r; exact .non
  | .bl b, p, v, e, r => by
    unfold toPy at e; cases e; rw [rep_bl] at r; subst r; exact .bl b
  | .int b, p, v, e, r => by
    unfold toPy at e; cases e; rw [rep_int] at r; subst r; exact .int b
  | .str b, p, v, e, r => by
    unfold toPy at e; cases e; rw [rep_str] at r; subst r; exact .str b
  | .tup ds, p, v, e, r => by
    unfold toPy at e
    cases q : toPys ds with
    | none => rw [q] at e; cases e
    | some ps =>
      rw [q] at e; cases e
      rw [rep_tup] at r
      obtain ⟨a, vs, rfl, h1, h2⟩ := r
      exact .tup (Same.sqT s h1) (dps_of s ds ps vs q h2)
  | .lst ds, p, v, e, r => by
    unfold toPy at e
    cases q : toPys ds with
    | none => rw [q] at e; cases e
    | some ps =>
      rw [q] at e; cases e
      rw [rep_lst] at r
      obtain ⟨a, vs, rfl, h1, h2⟩ := r
      exact .lst (s.seq h1) (dps_of s ds ps vs q h2)
  | .obj _ _, p, v, e, r => by unfold toPy at e; cases e
theorem dps_of (s : Same G H) : ∀ (ds : List D) (ps : List PyData) (vs : List V), toPys ds = some ps → Reps K mg G ds vs → DpAll K H vs ps
  | [], ps, vs, e, r => by
    unfold toPys at e; cases e; rw [reps_nil] at r; subst r; exact .nil
  | d :: ds, ps, vs, e, r => by
    unfold toPys at e
    cases q : toPy d with
    | none => rw [q] at e; cases e
    | some p =>
      rw [q] at e
      cases q2 : toPys ds with
      | none => rw [q2] at e; cases e
      | some ps' =>
        rw [q2] at e; cases e
        rw [reps_cons] at r
        obtain ⟨v, rr, rfl, h1, h2⟩ := r
        exact .cons (dp_of s d p v q h1) (dps_of s ds ps' rr q2 h2)
end
end
/-- == of data -/
def eqD (x y : D) : Option Bool := match toPy x, toPy y with
  | some p, some q => if SeqAt.shaped p && SeqAt.shaped q then some (PyData.eqv p q) else none
  | _, _ => none
def opEq (x y : D) : Option D := (eqD x y).map D.bl
def opNe (x y : D) : Option D := (eqD x y).map fun b => D.bl (!b)
def opAdd : D → D → Option D
  | .int i, .int j => some (.int (i + j))
  | .tup a, .tup b => if a.length + b.length ≤ lim then some (.tup (a ++ b)) else none
  | .str a, .str b => if a.length + b.length ≤ lim then some (.str (a ++ b)) else none
  | _, _ => none
def opCatL (a b : List D) : Option D := if a.length + b.length ≤ lim then some (.lst (a ++ b)) else none
def opI (p : Int → Int → Option Int) : D → D → Option D
  | .int i, .int j => (p i j).map D.int
  | _, _ => none
def opB (p : Int → Int → Bool) : D → D → Option D
  | .int i, .int j => some (.bl (p i j))
  | _, _ => none
abbrev opSub : D → D → Option D := opI fun i j => some (i - j)
abbrev bnd : Int := 18446744073709551616
abbrev opMul : D → D → Option D := opI fun i j => if (-bnd < i ∧ i < bnd) ∨ (-bnd < j ∧ j < bnd) then some (i * j) else none
abbrev opMod : D → D → Option D := opI fun i j => if 0 < j then some (i % j) else none
abbrev opDiv : D → D → Option D := opI fun i j => if 0 < j ∧ j < 1073741824 then some (i / j) else none
abbrev opPow : D → D → Option D := opI fun i j => if 0 ≤ j ∧ j ≤ 1000000 ∧ i.natAbs < 18446744073709551616 then some (i ^ j.toNat) else none
abbrev opLt : D → D → Option D := opB fun i j => decide (i < j)
abbrev opLe : D → D → Option D := opB fun i j => decide (i ≤ j)
abbrev opGt : D → D → Option D := opB fun i j => decide (j < i)
abbrev opGe : D → D → Option D := opB fun i j => decide (j ≤ i)
def isNon : D → Bool
  | .non => true
  | _ => false
def opIsN (x y : D) : Option D := if isNon y then some (.bl (isNon x)) else none
def opNotN (x y : D) : Option D := if isNon y then some (.bl (!isNon x)) else none
def opIx : D → D → Option D
  | .tup ds, .int i => atI ds i
  | .lst ds, .int i => atI ds i
  | _, _ => none
def toV : D → Option V
  | .non => some .non
  | .bl b => some (.bl b)
  | .int i => some (.int i)
  | .str x => some (.str x)
  | _ => none
def toVs : List D → Option (List V)
  | [] => some []
  | d :: ds => match toV d with
    | some v => (toVs ds).map (v :: ·)
    | none => none
def opInL (neg : Bool) (x : D) (ys : List D) : Option D := match toV x, toVs ys with
  | some v, some vs => some (.bl (if neg then !inV v vs else inV v vs))
  | _, _ => none
def opIn (neg : Bool) (x y : D) : Option D := match y with
  | .tup ys => opInL neg x ys
  | .lst ys => opInL neg x ys
  | _ => none
section
variable {K : PySem.W.Frag} {mg : MG} {G H : Hp} {X : Cx}
theorem bop_eq : Bop K mg (rEqD K) opEq := by
  intro G H x y d v1 v2 Q s e r1 r2 k
  unfold opEq eqD at e
  split at e
  · rename_i p q hp hq
    split at e
    · rename_i hs
      rw [Bool.and_eq_true] at hs
      cases e
      exact ⟨p, q, dp_of s _ _ _ hp r1, dp_of s _ _ _ hq r2, hs.1, hs.2, k _ G H (Grow.refl s) (rep_bl.mpr rfl)⟩
    · cases e
  · cases e
theorem bop_ne : Bop K mg (rNeD K) opNe := by
  intro G H x y d v1 v2 Q s e r1 r2 k
  unfold opNe eqD at e
  split at e
  · rename_i p q hp hq
    split at e
    · rename_i hs
      rw [Bool.and_eq_true] at hs
      cases e
      exact ⟨p, q, dp_of s _ _ _ hp r1, dp_of s _ _ _ hq r2, hs.1, hs.2, k _ G H (Grow.refl s) (rep_bl.mpr rfl)⟩
    · cases e
  · cases e
theorem bopI {C : Int → Int → Prop} {g : Int → Int → Int} {p : Int → Int → Option Int} (h : ∀ i j z, p i j = some z → C i j ∧ z = g i j) : Bop K mg (rI C fun i j => .int (g i j)) (opI p) := by
  intro G H x y d v1 v2 Q s e r1 r2 k
  unfold opI at e
  split at e
  · rename_i i j
    cases q : p i j with
    | none => rw [q] at e; cases e
    | some z =>
      rw [q] at e; cases e
      obtain ⟨c, rfl⟩ := h i j z q
      exact ⟨i, j, rep_int.mp r1, rep_int.mp r2, c, k _ G H (Grow.refl s) (rep_int.mpr rfl)⟩
  · cases e
theorem bopI0 {g : Int → Int → Int} : Bop K mg (rI0 fun i j => .int (g i j)) (opI fun i j => some (g i j)) := by
  intro G H x y d v1 v2 Q s e r1 r2 k
  unfold opI at e
  split at e
  · rename_i i j
    cases e
    exact ⟨i, j, rep_int.mp r1, rep_int.mp r2, k _ G H (Grow.refl s) (rep_int.mpr rfl)⟩
  · cases e
theorem bopB0 {g : Int → Int → Bool} : Bop K mg (rI0 fun i j => .bl (g i j)) (opB g) := by
  intro G H x y d v1 v2 Q s e r1 r2 k
  unfold opB at e
  split at e
  · rename_i i j
    cases e
    exact ⟨i, j, rep_int.mp r1, rep_int.mp r2, k _ G H (Grow.refl s) (rep_bl.mpr rfl)⟩
  · cases e
theorem bop_sub : Bop K mg (rI0 fun i j => .int (i - j)) opSub := bopI0
theorem bop_mul : Bop K mg (rI CMul fun i j => .int (i * j)) opMul := bopI (g := fun i j => i * j) fun i j z h => by
  split at h
  · rename_i c; cases h; exact ⟨c, rfl⟩
  · cases h
theorem bop_mod : Bop K mg (rI (fun _ j => 0 < j) fun i j => .int (i % j)) opMod := bopI (g := fun i j => i % j) fun i j z h => by
  split at h
  · rename_i c; cases h; exact ⟨c, rfl⟩
  · cases h
theorem bop_div : Bop K mg (rI CDiv fun i j => .int (i / j)) opDiv := bopI (g := fun i j => i / j) fun i j z h => by
  split at h
  · rename_i c; cases h; exact ⟨c, rfl⟩
  · cases h
theorem bop_pow : Bop K mg (rI CPow fun i j => .int (i ^ j.toNat)) opPow := bopI (g := fun i j => i ^ j.toNat) fun i j z h => by
  split at h
  · rename_i c; cases h; exact ⟨c, rfl⟩
  · cases h
theorem bop_lt : Bop K mg (rI0 fun i j => .bl (decide (i < j))) opLt := bopB0
theorem bop_le : Bop K mg (rI0 fun i j => .bl (decide (i ≤ j))) opLe := bopB0
theorem bop_gt : Bop K mg (rI0 fun i j => .bl (decide (j < i))) opGt := bopB0
theorem bop_ge : Bop K mg (rI0 fun i j => .bl (decide (j ≤ i))) opGe := bopB0
/-- + of ints, tuples, texts -/
def rAddA (K : PySem.W.Frag) : R2 := fun x y H Q => (rI0 (fun i j => V.int (i + j))) x y H Q ∨ rCatA K x y H Q ∨ ∃ i j, x = V.str i ∧ y = V.str j ∧ i.length + j.length ≤ sizeLine ∧ Q (.str (i ++ j)) H
theorem op_addA : OpR X (binaryOp .Add) (rAddA X.K) := op_add.or (op_catA.or op_add_str)
theorem bop_add : Bop K mg (rAddA K) opAdd := by
  intro G H x y d v1 v2 Q s e r1 r2 k
  unfold opAdd at e
  split at e
  · cases e
    exact .inl ⟨_, _, rep_int.mp r1, rep_int.mp r2, k _ G H (Grow.refl s) (rep_int.mpr rfl)⟩
  · rename_i a b
    split at e
    · rename_i hl
      cases e
      have q1 := r1
      have q2 := r2
      rw [rep_tup] at r1 r2
      obtain ⟨p1, vs1, e1, s1, h1⟩ := r1
      obtain ⟨p2, vs2, e2, s2, h2⟩ := r2
      refine .inr (.inl ⟨p1, p2, vs1, vs2, e1, e2, Same.sqT s s1, Same.sqT s s2, by rw [h1.length, h2.length, lim_eq]; exact hl, fun z => ?_, fun z1 z2 => ?_, fun z1 z2 p hp => ?_⟩)
      · have : a = [] := by have := h1.length; rw [z] at this; cases a with
          | nil => rfl
          | cons _ _ => simp at this
        subst this
        exact k _ G H (Grow.refl s) (by rw [← e2]; exact q2)
      · have : b = [] := by have := h2.length; rw [z2] at this; cases b with
          | nil => rfl
          | cons _ _ => simp at this
        subst this
        exact k _ G H (Grow.refl s) (by rw [← e1, List.append_nil]; exact q1)
      · exact k _ _ _ (Grow.put s hp) (rep_newT (H := H) (s.free hp) (h1.append h2))
    · cases e
  · split at e
    · rename_i hl
      cases e
      exact .inr (.inr ⟨_, _, rep_str.mp r1, rep_str.mp r2, by rw [lim_eq]; exact hl, k _ G H (Grow.refl s) (rep_str.mpr rfl)⟩)
    · cases e
  · cases e
theorem isNon_rep : ∀ {d : D} {v : V}, Rep K mg G d v → decide (v = .non) = isNon d
  | .non, v, r => by rw [rep_non] at r; subst r; rfl
  | .bl _, v, r => by rw [rep_bl] at r; subst r; rfl
  | .int _, v, r => by rw [rep_int] at r; subst r; rfl
  | .str _, v, r => by rw [rep_str] at r; subst r; rfl
  | .tup _, v, r => by rw [rep_tup] at r; obtain ⟨_, _, rfl, _⟩ := r; rfl
  | .lst _, v, r => by rw [rep_lst] at r; obtain ⟨_, _, rfl, _⟩ := r; rfl
  | .obj _ _, v, r => by rw [rep_obj] at r; obtain ⟨_, _, _, _, rfl, _⟩ := r; rfl
theorem isNon_eq {d : D} (h : isNon d = true) : d = .non := by cases d <;> first | rfl | cases h
theorem bop_isN : Bop K mg (fun x y H Q => y = .non ∧ Q (.bl (decide (x = .non))) H) opIsN := by
  intro G H x y d v1 v2 Q s e r1 r2 k
  unfold opIsN at e
  split at e
  · rename_i h
    cases e
    have := isNon_eq h
    subst this
    exact ⟨rep_non.mp r2, k _ G H (Grow.refl s) (rep_bl.mpr (by rw [isNon_rep r1]))⟩
  · cases e
theorem bop_notN : Bop K mg (fun x y H Q => y = .non ∧ Q (.bl (!decide (x = .non))) H) opNotN := by
  intro G H x y d v1 v2 Q s e r1 r2 k
  unfold opNotN at e
  split at e
  · rename_i h
    cases e
    have := isNon_eq h
    subst this
    exact ⟨rep_non.mp r2, k _ G H (Grow.refl s) (rep_bl.mpr (by rw [isNon_rep r1]))⟩
  · cases e
theorem atI_reps {ds : List D} {vs : List V} {i : Int} {d : D} (r : Reps K mg G ds vs) (h : atI ds i = some d) : ∃ v, atI vs i = some v ∧ Rep K mg G d v := by
  unfold atI at h ⊢
  rw [r.length]
  cases q : ixN ds.length i with
  | none => rw [q] at h; cases h
  | some j =>
    rw [q] at h
    obtain ⟨v, h1, h2⟩ := r.get (i := j) h
    exact ⟨v, h1, h2⟩
theorem bop_ix : Bop K mg (fun x y H Q => rIxL K x y H Q ∨ rIxT K x y H Q) opIx := by
  intro G H x y d v1 v2 Q s e r1 r2 k
  unfold opIx at e
  split at e
  · rename_i ds i
    rw [rep_tup] at r1
    obtain ⟨a, vs, rfl, h1, h2⟩ := r1
    obtain ⟨v, h3, h4⟩ := atI_reps h2 e
    exact .inr ⟨a, vs, i, v, rfl, rep_int.mp r2, Same.sqT s h1, h3, k v G H (Grow.refl s) h4⟩
  · rename_i ds i
    rw [rep_lst] at r1
    obtain ⟨a, vs, rfl, h1, h2⟩ := r1
    obtain ⟨v, h3, h4⟩ := atI_reps h2 e
    exact .inl ⟨a, vs, i, v, rfl, rep_int.mp r2, s.seq h1, h3, k v G H (Grow.refl s) h4⟩
  · cases e
theorem ix_both : IxR X (fun x y H Q => rIxL X.K x y H Q ∨ rIxT X.K x y H Q) := ix_list.or ix_tup
theorem toV_rep : ∀ {d : D} {v u : V}, toV d = some u → Rep K mg G d v → v = u ∧ flatV u = true
  | .non, v, u, e, r => by cases e; exact ⟨rep_non.mp r, rfl⟩
  | .bl _, v, u, e, r => by cases e; exact ⟨rep_bl.mp r, rfl⟩
  | .int _, v, u, e, r => by cases e; exact ⟨rep_int.mp r, rfl⟩
  | .str _, v, u, e, r => by cases e; exact ⟨rep_str.mp r, rfl⟩
  | .tup _, v, u, e, r => by cases e
  | .lst _, v, u, e, r => by cases e
  | .obj _ _, v, u, e, r => by cases e
theorem toVs_rep : ∀ {ds : List D} {vs us : List V}, toVs ds = some us → Reps K mg G ds vs → vs = us ∧ us.all flatV = true
  | [], vs, us, e, r => by cases e; exact ⟨reps_nil.mp r, rfl⟩
  | d :: ds, vs, us, e, r => by
    unfold toVs at e
    cases q : toV d with
    | none => rw [q] at e; cases e
    | some u =>
      rw [q] at e
      cases q2 : toVs ds with
      | none => rw [q2] at e; cases e
      | some us' =>
        rw [q2] at e; cases e
        rw [reps_cons] at r
        obtain ⟨v, rr, rfl, h1, h2⟩ := r
        obtain ⟨e1, f1⟩ := toV_rep q h1
        obtain ⟨e2, f2⟩ := toVs_rep q2 h2
        exact ⟨by rw [e1, e2], by rw [List.all_cons, f1, f2]; rfl⟩
theorem inL_post {neg : Bool} {x : D} {ys : List D} {d : D} {v1 : V} {a : Addr} {vs : List V} {Q : VK} (s : Same G H) (e : opInL neg x ys = some d) (r1 : Rep K mg G x v1) (q : SqL K H a vs ∨ SqT K H a vs) (r2 : Reps K mg G ys vs)
    (k : ∀ v G' H', Grow G H G' H' → Rep K mg G' d v → Q v H') : rIn K neg v1 (.ref a) H Q := by
  unfold opInL at e
  split at e
  · rename_i u us hu hus
    cases e
    obtain ⟨e1, f1⟩ := toV_rep hu r1
    obtain ⟨e2, f2⟩ := toVs_rep hus r2
    subst e1 e2
    exact ⟨a, vs, rfl, q, f1, f2, k _ G H (Grow.refl s) (rep_bl.mpr rfl)⟩
  · cases e
theorem bop_in {neg : Bool} : Bop K mg (rIn K neg) (opIn neg) := by
  intro G H x y d v1 v2 Q s e r1 r2 k
  unfold opIn at e
  split at e
  · rw [rep_tup] at r2
    obtain ⟨a, vs, rfl, h1, h2⟩ := r2
    exact inL_post s e r1 (.inr (Same.sqT s h1)) h2 k
  · rw [rep_lst] at r2
    obtain ⟨a, vs, rfl, h1, h2⟩ := r2
    exact inL_post s e r1 (.inl (s.seq h1)) h2 k
  · cases e
end

/-! ### comparisons and subscripts in short -/
section
variable {X : Cx} {W : WX} {a b c : Expr} {pos : Pos} {f g h : FE D} {k : Nat}
abbrev eAdd (f g : FE D) := eBin opAdd f g
abbrev eSub (f g : FE D) := eBin opSub f g
abbrev eMul (f g : FE D) := eBin opMul f g
abbrev eMod (f g : FE D) := eBin opMod f g
abbrev eDiv (f g : FE D) := eBin opDiv f g
abbrev ePow (f g : FE D) := eBin opPow f g
abbrev eIx (f g : FE D) := eBin opIx f g
theorem de_add (ja : De X W a f) (jb : De X W b g) : De X W (.BinOp a .Add b pos) (eAdd f g) := de_bin op_addA bop_add ja jb
theorem de_sub (ja : De X W a f) (jb : De X W b g) : De X W (.BinOp a .Sub b pos) (eSub f g) := de_bin op_sub bop_sub ja jb
theorem de_mul (ja : De X W a f) (jb : De X W b g) : De X W (.BinOp a .Mult b pos) (eMul f g) := de_bin op_mul bop_mul ja jb
theorem de_mod (ja : De X W a f) (jb : De X W b g) : De X W (.BinOp a .Mod b pos) (eMod f g) := de_bin op_mod bop_mod ja jb
theorem de_div (ja : De X W a f) (jb : De X W b g) : De X W (.BinOp a .FloorDiv b pos) (eDiv f g) := de_bin op_fdiv bop_div ja jb
theorem de_pow (ja : De X W a f) (jb : De X W b g) : De X W (.BinOp a .Pow b pos) (ePow f g) := de_bin op_pow bop_pow ja jb
theorem de_sub1 (ja : De X W a f) (jb : De X W b g) (hs : PlainIx b := by exact fun _ _ => rfl) : De X W (.Subscript a b pos) (eIx f g) := de_ix ix_both bop_ix ja jb hs
/-- which comparison -/
structure Cmp (X : Cx) (o : CmpOp) (op : D → D → Option D) : Prop where
  ex : ∃ r, OpR X (compareOp o) r ∧ Bop X.K X.mg r op
theorem cmp_lt : Cmp X .Lt opLt := ⟨_, op_lt, bop_lt⟩
theorem cmp_le : Cmp X .LtE opLe := ⟨_, op_le, bop_le⟩
theorem cmp_gt : Cmp X .Gt opGt := ⟨_, op_gt, bop_gt⟩
theorem cmp_ge : Cmp X .GtE opGe := ⟨_, op_ge, bop_ge⟩
theorem cmp_eq (hr : Room k X.A) : Cmp X .Eq opEq := ⟨_, op_eqD hr.units, bop_eq⟩
theorem cmp_ne (hr : Room k X.A) : Cmp X .NotEq opNe := ⟨_, op_neD hr.units, bop_ne⟩
theorem cmp_isN : Cmp X .Is opIsN := ⟨_, op_isN, bop_isN⟩
theorem cmp_notN : Cmp X .IsNot opNotN := ⟨_, op_notN, bop_notN⟩
theorem cmp_in : Cmp X .In (opIn false) := ⟨_, op_in_seq, bop_in⟩
theorem cmp_notIn : Cmp X .NotIn (opIn true) := ⟨_, op_notIn_seq, bop_in⟩
theorem de_c {o : CmpOp} {op : D → D → Option D} (hc : Cmp X o op) (ja : De X W a f) (jb : De X W b g) (hm : behindInMarks o b = false := by first | exact nomark _ | rfl) : De X W (.Compare a [o] [b] pos) (eBin op f g) :=
  let ⟨_, h1, h2⟩ := hc.ex; de_cmp h1 h2 ja jb hm
theorem dt_c {o : CmpOp} {op : D → D → Option D} (hc : Cmp X o op) (ja : De X W a f) (jb : De X W b g) (hm : behindInMarks o b = false := by first | exact nomark _ | rfl) : Dt X W (.Compare a [o] [b] pos) (eTest (eBin op f g)) :=
  let ⟨_, h1, h2⟩ := hc.ex; dt_cmp h1 h2 ja jb hm
end
end Dl

/-! ### enumerate(tuple), at the library's level -/
namespace Dl
open PySem PySem.Spec PyProof.Rows
open Sem (wp)
open AutoSeq1 (wpAny_loadPart')
theorem meets_enumerate_newT (l : Addr) (items : Array Value) (n : Nat) (dct : Option Addr) (sl : Array (Option Value)) :
    Meets (Builtin.«enumerate.__new__» ⟨[.type "enumerate", .ref l], []⟩) (fun _ R s => s.heap.get? l = some { cls := .type "tuple", dict := dct, data := .seq items n, slots := sl } ∧
      R (.ok (.ret (.ref (s.heap.push { cls := .type "tuple_iterator", data := .fields #[.ref l, .int 0 0] }).objs.size)))
        { s with heap := (s.heap.push { cls := .type "tuple_iterator", data := .fields #[.ref l, .int 0 0] }).push { cls := .type "enumerate", data := .fields #[.none, .bool false, .ref s.heap.objs.size, rawInt 0, .none, .none] } }) :=
  .of_wp fun prog w A R s h => by
    obtain ⟨hp, g, d, tk, os⟩ := s; obtain ⟨hl, h⟩ := h
    have hsub := sub_enumerate
    have hL : Heap.IsTuple (Shared.heap ⟨hp, g, d, tk, os⟩) l items := ⟨_, hl, rfl, n, rfl⟩
    wp_walk using wpAny_loadPart' hl
    refine wpAny_stack_any fun st => wpAny_pure ?_
    split
    · rename_i c _ _ _ _ _
      cases (c == Value.type "enumerate")
      · wp_walk using wpAny_loadPart' hl, wpAny_pyIter_tuple hL
        exact ⟨_, rfl, h⟩
      · wp_walk using wpAny_loadPart' hl, wpAny_pyIter_tuple hL
        exact ⟨_, rfl, h⟩
    · wp_walk using wpAny_loadPart' hl, wpAny_pyIter_tuple hL
      exact ⟨_, rfl, h⟩
section
variable {prog : Program} {w : World} {A : Around} {E : Value → Shared → Prop} {s : Shared}
theorem call_enumerate_tuple {l : Addr} {items : Array Value} {Q : Value → Shared → Prop} (hL : s.heap.IsTuple l items)
    (h : ∀ h', IsEnum h' (s.heap.objs.size + 1) s.heap.objs.size 0 .none → h'.IsTupleIter s.heap.objs.size l 0 → h'.objs.size = s.heap.objs.size + 2 →
      (∀ b o, s.heap.get? b = some o → h'.get? b = some o) → Q (.ref (s.heap.objs.size + 1)) { s with heap := h' }) :
    wpAny (model prog w) A (call (.type "enumerate") [.ref l]) Q E s := by
  obtain ⟨⟨c, dct, dt, sl⟩, hl, hc, n, hd⟩ := hL
  replace hc : c = .type "tuple" := hc
  replace hd : dt = .seq items n := hd
  subst hc hd
  refine callType_new F.called_enumerate (by decide) (F.typeCall_enumerate_1 _) (F.newCall_enumerate_1 _) (fun obj => F.args_object_init_2 obj _) F.entry_enumerate_new
    (meets_enumerate_newT l items n dct sl) ⟨hl, ?_⟩
  have hz : (s.heap.push { cls := .type "tuple_iterator", data := .fields #[.ref l, .int 0 0] }).objs.size = s.heap.objs.size + 1 := Heap.size_push ..
  show _ ∧ _
  rw [hz]
  have he : IsEnum ((s.heap.push { cls := .type "tuple_iterator", data := .fields #[.ref l, .int 0 0] }).push
      { cls := .type "enumerate", data := .fields #[.none, .bool false, .ref s.heap.objs.size, rawInt 0, .none, .none] }) (s.heap.objs.size + 1) s.heap.objs.size 0 .none := by
    have := Heap.get?_push_size (s.heap.push { cls := .type "tuple_iterator", data := .fields #[.ref l, .int 0 0] })
      (o := { cls := .type "enumerate", data := .fields #[.none, .bool false, .ref s.heap.objs.size, rawInt 0, .none, .none] }) rfl
    rw [hz] at this; exact this
  refine ⟨⟨_, he, rfl⟩, h _ he ⟨_, Heap.get?_push_of_some _ (Heap.get?_push_size _ rfl), rfl, rfl⟩ (by rw [Heap.size_push, hz]) fun b o x => Heap.get?_push_of_some _ (Heap.get?_push_of_some _ x)⟩
theorem pyNext_enumT_end {e it l : Addr} {i : Nat} {items : Array Value} {old : Value} {Q : Option Value → Shared → Prop} (hh : A.handled = none)
    (he : IsEnum s.heap e it i old) (hit : s.heap.IsTupleIter it l i) (hl : s.heap.IsTuple l items) (hx : items[i]? = none)
    (hQ : ∀ h', Heap.ExtBut it s.heap h' → Q none { s with heap := h' }) : wpAny (model prog w) A (pyNext (.ref e)) Q E s := by
  have hT : s.TypeIs (.ref e) "enumerate" := ⟨_, he, rfl⟩
  unfold pyNext
  refine wpAny_bind (wpAny_attempt (wpAny_callSpecial?_slot (name := Str.ofString "__next__") hT F.slot_enumerate_next
    (wpAny_call_entry F.slot_enumerate_next hT F.entry_enumerate_next ?_ (F.args_enumerate_next_1 _))))
  show wpAny _ _ (field (.ref e) 2 >>= _) _ _ _
  refine wpAny_bind (wpAny_field he rfl (x := .ref it) rfl ?_)
  refine wpAny_bind (wpAny_nextOf_tuple_end hh hit hl hx fun h' x he' hx' => ?_)
  obtain ⟨o, ho, hc⟩ := hx'
  refine wpAny_bind (wpAny_isInstance (T := "StopIteration") (b := true) ⟨o, ho, hc⟩ isSubtype_stop ?_)
  exact wpAny_pure (hQ _ he')
end
open L2
def IteT (K : PySem.W.Frag) (a : Addr) : It :=
  ⟨fun i H => ∃ (xs : List V) (x : V), SqT K H a xs ∧ xs[i]? = some x, fun i H v H' => ∃ T x, v = .ref T ∧ H T = none ∧ H' = L2.upd H T (.tup [.int (i : Nat), x]) ∧ ∀ xs, SqT K H a xs → xs[i]? = some x, fun i H => ∃ xs : List V, SqT K H a xs ∧ xs.length ≤ i⟩
theorem turn_enumT {P : Program} {w : World} {K : PySem.W.Frag} {elts : List Expr} {kk : Nat} {tpos : Pos} (a e it : Addr) (hai : a ≠ it) (hae : a ≠ e) :
    Turn P w K (.Tuple elts kk tpos) (IteT K a) [e, it] e (fun i h => (∃ old, IsEnum h e it ((i : Nat) : Int) old) ∧ h.IsTupleIter it a i ∧ e ≠ it) where
  mem := by simp
  obj := fun i h st b hb => by
    obtain ⟨⟨old, he⟩, ⟨o, ho, hc, hd⟩, _⟩ := st
    have e' : b = e ∨ b = it := by simpa using hb
    rcases e' with z | z
    · rw [z]; exact ⟨_, he, fun v q => nomatch q⟩
    · rw [z]; exact ⟨o, ho, fun v q => by rw [hd] at q; cases q⟩
  keep := fun i h h' st k => let ⟨⟨old, he⟩, hi, hne⟩ := st; ⟨⟨old, k e (by simp) _ he⟩, hi.at fun o q => k it (by simp) o q, hne⟩
  item := by
    intro X hP hw hK hc i pins s σ H E I hf st hg
    subst hP hw hK
    obtain ⟨⟨old, he⟩, hit, hne⟩ := st
    obtain ⟨xs, x, hq, hx⟩ := hg
    obtain ⟨its, rv, p, hz⟩ := I.tuple hq
    obtain ⟨u, hu, ru⟩ := rv.get hx
    have hel : e < s.heap.objs.size := Heap.lt_size he
    have hil : it < s.heap.objs.size := by obtain ⟨_, q, _⟩ := hit; exact Heap.lt_size q
    have DD := Draws.tuple (prog := X.prog) (w := X.w) (A := X.A.in1) (I.ok.hd hc) it a hai its.toArray
    have hi : i < its.toArray.size := by
      have := (List.getElem?_eq_some_iff.mp hu).1
      simpa using this
    refine wpAny_pyNext_enum_itemD DD he ⟨hit, p⟩ hi hne (by simp [hne, hae.symm]) fun x' h' tk hP ho hst' hT hsz hk => ?_
    have hxu : x' = u := by
      have h1 : its.toArray[i]? = some x' := hP
      have h2 : its.toArray[i]? = some u := by simpa using hu
      rw [h1] at h2; exact Option.some.inj h2
    subst hxu
    obtain ⟨hit', _⟩ := hst'
    refine ⟨_, rfl, wpAny_letOwnedTupleGo_enum (s := { s with heap := h', toks := tk + 1 }) ho fun h'' he' sb => ?_⟩
    have hT2 : h''.get? s.heap.objs.size = some { cls := .type "tuple", data := .seq #[.int i tk, x'] } := (sb.2 _ (Nat.ne_of_gt hel)).trans hT
    have new : ObjOk X.prog X.w (L2.upd H s.heap.objs.size (.tup [.int (i : Nat), x])) h'' s.heap.objs.size (.tup [.int (i : Nat), x]) :=
      ⟨by show 2 ≤ sizeLine; decide, [.int i tk, x'], .cons ⟨_, rfl⟩ (.cons ru .nil), ⟨_, hT2, rfl, _, rfl⟩⟩
    have I1 : Inv X pins σ (L2.upd H s.heap.objs.size (.tup [.int (i : Nat), x])) { s with heap := h'', toks := tk + 1 } :=
      I.turnedNew (ch := [e, it]) (fun b ob hb q => (sb.2 b (fun z => hb (by simp [z]))).trans (hk b ob (fun z => hb (by simp [z])) (fun z => hb (by simp [z])) q)) hf (Nat.le_refl _) new
    refine ⟨.ref s.heap.objs.size, _, I1, rfl, ⟨_, x, rfl, I.hok.fresh (Nat.le_refl _), rfl, fun ys hy => by rw [I.tuple_inj hy hq]; exact hx⟩, ⟨⟨x', ?_⟩, hit'.at fun o q => (sb.2 it (Ne.symm hne)).trans q, hne⟩, fun b hb => ?_⟩
    · have e1 : ((i + 1 : Nat) : Int) = (i : Int) + 1 := by omega
      rw [e1]; exact he'
    · have hb' : b < s.heap.objs.size := by
        have e' : b = e ∨ b = it := by simpa using hb
        rcases e' with z | z
        · rw [z]; exact hel
        · rw [z]; exact hil
      rw [upd_ne (Nat.ne_of_lt hb')]
      exact (hf b hb).1
  done := by
    intro X hP hw hK hc i pins s σ H E I hf st hg
    subst hP hw hK
    obtain ⟨⟨old, he⟩, hit, hne⟩ := st
    obtain ⟨xs, hq, hx⟩ := hg
    obtain ⟨its, rv, p, hz⟩ := I.tuple hq
    obtain ⟨f0, f1, f2, f3, f4, f5⟩ := hf it (by simp)
    have hl := rv.length
    exact pyNext_enumT_end (I.ok.hd hc) he hit (show s.heap.IsTuple a its.toArray from p) (by simp; omega) fun h' eb => ⟨rfl, I.turned (t' := s.toks) (fun b o hb q => eb b o hb q) f0 f1 f3 f4 f5⟩
  self := fun A i s Q E st h => let ⟨⟨_, he⟩, _⟩ := st; wpAny_pyIter_enum he h
/-- enumerate(list or tuple) -/
def iEnumA (K : PySem.W.Frag) (ta : TA) : TI := fun σ H R => ta σ H fun vs H1 => ∃ a xs, vs = [.ref a] ∧ ((SqL K H1 a xs ∧ R (Ite K a) H1) ∨ (SqT K H1 a xs ∧ R (IteT K a) H1))
theorem pi_enumA {X : Cx} {e : Expr} {ta : TA} {p pos tpos : Pos} {elts : List Expr} {kk : Nat} (hg : Gl X "enumerate") (hm : X.mg "enumerate" = none) (ha : PA X [e] ta) (hs : starEach [e] X.env = [(false, eval e X.env)] := by rfl) :
    PI X (.Tuple elts kk tpos) (.Call (.Name "enumerate" p) [e] [] pos) (iEnumA X.K ta) := by
  refine ⟨fun pins s σ H R I h => ?_⟩
  refine Call_ (ld_blt I hg hm boot_enumerate (PyProof.Rows.callWith_type1 (thn (ha.run pos pins s σ H _ I h) fun us s1 ⟨vs, H1, I1, r1, q1⟩ => ?_) hs rfl))
  obtain ⟨a, xs, ex, q⟩ := q1
  subst ex
  cases r1 with
  | cons r rr =>
    cases rr
    cases r
    have fr2 : ∀ b, b ∈ [s1.heap.objs.size + 1, s1.heap.objs.size] → FpOk X pins H1 b := fun b hb => by
      have e' : b = s1.heap.objs.size + 1 ∨ b = s1.heap.objs.size := by simpa using hb
      have hle : s1.heap.objs.size ≤ b := by
        rcases e' with z | z
        · rw [z]; exact Nat.le_add_right _ _
        · rw [z]; exact Nat.le_refl _
      exact I1.fpOk hle (I1.hok.fresh hle)
    rcases q with ⟨hq, q⟩ | ⟨hq, q⟩
    · obtain ⟨its, rv, p', hz⟩ := I1.list hq
      refine call_enumerate_list p'.isList fun h' he hit hsz hk => wpAny_pyIter_enum he ?_
      have I2 : Inv X pins σ H1 { s1 with heap := h' } := I1.kept (t' := s1.toks) hk
      exact ⟨s1.heap.objs.size + 1, [s1.heap.objs.size + 1, s1.heap.objs.size], _, _, H1, rfl, I2, turn_enum a (s1.heap.objs.size + 1) s1.heap.objs.size, ⟨⟨.none, he⟩, hit, Nat.succ_ne_self _⟩, fr2, q⟩
    · obtain ⟨its, rv, p', hz⟩ := I1.tuple hq
      obtain ⟨o1, ho1, _⟩ := id p'
      have hlt := Heap.lt_size ho1
      refine call_enumerate_tuple (show s1.heap.IsTuple a its.toArray from p') fun h' he hit hsz hk => wpAny_pyIter_enum he ?_
      have I2 : Inv X pins σ H1 { s1 with heap := h' } := I1.kept (t' := s1.toks) hk
      exact ⟨s1.heap.objs.size + 1, [s1.heap.objs.size + 1, s1.heap.objs.size], _, _, H1, rfl, I2, turn_enumT a (s1.heap.objs.size + 1) s1.heap.objs.size (Nat.ne_of_lt hlt) (Nat.ne_of_lt (Nat.lt_succ_of_lt hlt)), ⟨⟨.none, he⟩, hit, Nat.succ_ne_self _⟩, fr2, q⟩
end Dl
namespace Dl
open PySem L2

/-! ### targets -/
abbrev FG := D → Rho → Option Rho
/-- only the slots of is change -/
def Dg (X : Cx) (tg : Expr) (is : List Nat) (f : FG) : Prop :=
  ∃ g, PG X tg g ∧ ∀ G α ρ σ H d v (Q : St → Hp → Prop), Same G H → Slots X.K X.mg G α ρ σ → Rep X.K X.mg G d v →
    (match f d ρ with
      | none => False
      | some ρ' => ∀ σ', Slots X.K X.mg G α ρ' σ' → (∀ j, j ∉ is → σ'[j]? = σ[j]?) → σ'.length = σ.length → Q σ' H) → g v σ H Q
def Dgs (X : Cx) (tgs : List Expr) (is : List Nat) (f : List D → Rho → Option Rho) : Prop :=
  ∃ g, PGs X tgs g ∧ ∀ G α ρ σ H ds vs (Q : St → Hp → Prop), Same G H → Slots X.K X.mg G α ρ σ → Reps X.K X.mg G ds vs →
    (match f ds ρ with
      | none => False
      | some ρ' => ∀ σ', Slots X.K X.mg G α ρ' σ' → (∀ j, j ∉ is → σ'[j]? = σ[j]?) → σ'.length = σ.length → Q σ' H) → g vs σ H Q
def gN (i : Nat) : FG := fun d ρ => some (ρ.set i (some (.val d)))
def gsNil : List D → Rho → Option Rho := fun ds ρ => match ds with
  | [] => some ρ
  | _ => none
def gsCons (f : FG) (g : List D → Rho → Option Rho) : List D → Rho → Option Rho := fun ds ρ => match ds with
  | [] => none
  | d :: r => (f d ρ).bind fun ρ1 => g r ρ1
def gT (n : Nat) (g : List D → Rho → Option Rho) : FG := fun d ρ => match d with
  | .tup ds => if ds.length = n then g ds ρ else none
  | .lst ds => if ds.length = n then g ds ρ else none
  | _ => none
section
variable {X : Cx} {pos : Pos}
theorem sqL_same {K : PySem.W.Frag} {H H' : Hp} {a : Addr} {xs : List V} (e : Same H H') (h : SqL K H a xs) : SqL K H' a xs := by
  rcases h with (h | ⟨o, h⟩) | h
  · exact .inl (.inl (e _ _ h))
  · exact .inl (.inr ⟨o, e _ _ h⟩)
  · exact .inr h
theorem pg_or {e : Expr} {t1 t2 : TG} (h1 : PG X e t1) (h2 : PG X e t2) : PG X e (fun v σ H Q => t1 v σ H Q ∨ t2 v σ H Q) := ⟨fun pins s σ H v u Q I r hw => hw.elim (h1.run pins s σ H v u Q I r) (h2.run pins s σ H v u Q I r)⟩
theorem dg_name {i : Nat} {x : Str} (hN : X.N.Nodup) (hi : X.N[i]? = some x := by rfl) (hx : Loc X.env.scope x := by first | exact Or.inl rfl | exact Or.inr rfl) (hf : X.fn x = true ∨ X.env.scope.names.lookup x = some .local := by first | exact .inl rfl | exact .inr rfl) : Dg X (.Name x pos) [i] (gN i) := by
  refine ⟨_, pg_name hN hi hx hf, fun G α ρ σ H d v Q s S r h => ?_⟩
  exact h _ (S.set i (x := .val d) r) (fun j hj => List.getElem?_set_ne (by intro e; subst e; exact hj (List.mem_singleton.mpr rfl))) (by simp)
theorem dgs_nil : Dgs X [] [] gsNil := by
  refine ⟨_, pgs_nil, fun G α ρ σ H ds vs Q s S r h => ?_⟩
  cases ds with
  | nil => exact ⟨reps_nil.mp r, h σ S (fun _ _ => rfl) rfl⟩
  | cons _ _ => exact h.elim
theorem dgs_cons {e : Expr} {es : List Expr} {is js : List Nat} {f : FG} {g : List D → Rho → Option Rho} (h1 : Dg X e is f) (h2 : Dgs X es js g)
    (hs : (assignEach (e :: es) X.env).map (·.2) = assign e X.env :: (assignEach es X.env).map (·.2) := by rfl) : Dgs X (e :: es) (is ++ js) (gsCons f g) := by
  obtain ⟨t1, p1, k1⟩ := h1
  obtain ⟨t2, p2, k2⟩ := h2
  refine ⟨_, pgs_cons p1 p2 hs, fun G α ρ σ H ds vs Q s S r h => ?_⟩
  cases ds with
  | nil => exact h.elim
  | cons d r' =>
    rw [reps_cons] at r
    obtain ⟨v, vr, rfl, q1, q2⟩ := r
    refine ⟨v, vr, rfl, k1 G α ρ σ H d v _ s S q1 ?_⟩
    unfold gsCons at h
    dsimp only at h
    cases e1 : f d ρ with
    | none => rw [e1] at h; exact h.elim
    | some ρ1 =>
      rw [e1] at h
      intro σ1 S1 c1 l1
      refine k2 G α ρ1 σ1 H r' vr _ s S1 q2 ?_
      have h' : (match g r' ρ1 with
        | none => False
        | some ρ' => ∀ σ', Slots X.K X.mg G α ρ' σ' → (∀ j, j ∉ is ++ js → σ'[j]? = σ[j]?) → σ'.length = σ.length → Q σ' H) := h
      cases e2 : g r' ρ1 with
      | none => rw [e2] at h'; exact h'.elim
      | some ρ2 =>
        rw [e2] at h'
        intro σ2 S2 c2 l2
        exact h' σ2 S2 (fun j hj => (c2 j fun z => hj (List.mem_append_right _ z)).trans (c1 j fun z => hj (List.mem_append_left _ z))) (l2.trans l1)
theorem dg_tup {es : List Expr} {k n : Nat} {is : List Nat} {g : List D → Rho → Option Rho} (hc : X.calm = true) (h : Dgs X es is g)
    (hn : (assignEach es X.env).length = n := by rfl) (hst : (assignEach es X.env).findIdx? (·.1) = none := by rfl) : Dg X (.Tuple es k pos) is (gT n g) := by
  obtain ⟨t, p, kk⟩ := h
  refine ⟨_, pg_or (pg_tup hc p hn hst) (pg_unl hc p hn hst), fun G α ρ σ H d v Q s S r h => ?_⟩
  unfold gT at h
  cases d with
  | tup ds =>
    dsimp only at h
    rw [rep_tup] at r
    obtain ⟨a, vs, rfl, q, rs⟩ := r
    split at h
    · exact h.elim
    · rename_i ρ' e1
      split at e1
      · rename_i hl
        refine .inl ⟨a, vs, rfl, Same.sqT s q, by rw [rs.length]; exact hl, kk G α ρ σ H ds vs Q s S rs ?_⟩
        rw [e1]
        exact h
      · cases e1
  | lst ds =>
    dsimp only at h
    rw [rep_lst] at r
    obtain ⟨a, vs, rfl, q, rs⟩ := r
    split at h
    · exact h.elim
    · rename_i ρ' e1
      split at e1
      · rename_i hl
        refine .inr ⟨a, vs, rfl, sqL_same s q, by rw [rs.length]; exact hl, kk G α ρ σ H ds vs Q s S rs ?_⟩
        rw [e1]
        exact h
      · cases e1
  | _ => exact h.elim
end

/-! ### what is walked -/
/-- J walks the data ds, as long as st holds -/
def WalkD (K : PySem.W.Frag) (mg : MG) (st : Hp → Hp → Prop) (J : It) (ds : List D) : Prop :=
  ∀ i G H, Same G H → st G H → (∀ d, ds[i]? = some d → J.go i H ∧ ∀ x H', J.yld i H x H' → ∃ G', Grow G H G' H' ∧ Rep K mg G' d x) ∧ (ds.length ≤ i → J.stop i H)
def RI (K : PySem.W.Frag) (mg : MG) : Hp → List Addr → Hp → List D → It → Prop := fun G _ _ ds J => WalkD K mg (fun G' _ => Same G G') J ds
def RIo (K : PySem.W.Frag) (mg : MG) : Hp → List Addr → Hp → Nat × List D → It → Prop := fun _ α _ p J => ∃ a, α[p.1]? = some a ∧ WalkD K mg (fun G' H' => OwnAt K mg G' H' a (.lst p.2)) J p.2
def Di (X : Cx) (W : WX) (tg iter : Expr) (f : FE (List D)) : Prop :=
  ∃ wi, PI X tg iter wi ∧ ∀ G α ρ ω σ H (R : It → Hp → Prop), Own X.K X.mg G α ω H → Slots X.K X.mg G α ρ σ → Post X.K X.mg (RI X.K X.mg) G α H R (fun c d H' => W c d σ H') (f ρ ω) → wi σ H R
def Dio (X : Cx) (tg iter : Expr) (f : FE (Nat × List D)) : Prop :=
  ∃ wi, PI X tg iter wi ∧ ∀ G α ρ ω σ H (R : It → Hp → Prop), Own X.K X.mg G α ω H → Slots X.K X.mg G α ρ σ → Post X.K X.mg (RIo X.K X.mg) G α H R (fun _ _ _ => False) (f ρ ω) → wi σ H R
section
variable {K : PySem.W.Frag} {mg : MG}
theorem walk_l {a : Addr} {st : Hp → Hp → Prop} {ds : List D} (h : ∀ G H, Same G H → st G H → ∃ vs, SqL K H a vs ∧ Reps K mg G ds vs) : WalkD K mg st (Itl K a) ds := by
  intro i G H s q
  obtain ⟨vs, h1, h2⟩ := h G H s q
  refine ⟨fun d hd => ?_, fun hl => ⟨vs, h1, by rw [h2.length]; exact hl⟩⟩
  obtain ⟨v, h3, h4⟩ := h2.get hd
  refine ⟨⟨vs, v, h1, h3⟩, fun x H' y => ?_⟩
  obtain ⟨rfl, y⟩ := y
  have := y vs h1
  rw [h3] at this; cases this
  exact ⟨G, Grow.refl s, h4⟩
theorem walk_t {a : Addr} {st : Hp → Hp → Prop} {ds : List D} (h : ∀ G H, Same G H → st G H → ∃ vs, SqT K H a vs ∧ Reps K mg G ds vs) : WalkD K mg st (Itt K a) ds := by
  intro i G H s q
  obtain ⟨vs, h1, h2⟩ := h G H s q
  refine ⟨fun d hd => ?_, fun hl => ⟨vs, h1, by rw [h2.length]; exact hl⟩⟩
  obtain ⟨v, h3, h4⟩ := h2.get hd
  refine ⟨⟨vs, v, h1, h3⟩, fun x H' y => ?_⟩
  obtain ⟨rfl, y⟩ := y
  have := y vs h1
  rw [h3] at this; cases this
  exact ⟨G, Grow.refl s, h4⟩
def pairI (i : Nat) (d : D) : D := .tup [.int (i : Nat), d]
def enumD (ds : List D) : List D := ds.mapIdx pairI
theorem pair_new {G H : Hp} {T : Addr} {d e : D} {v u : V} (s : Same G H) (hT : H T = none) (r1 : Rep K mg G d v) (r2 : Rep K mg G e u) : ∃ G', Grow G H G' (L2.upd H T (.tup [v, u])) ∧ Rep K mg G' (.tup [d, e]) (.ref T) :=
  ⟨_, Grow.put s hT, rep_newT (H := H) (s.free hT) (reps_cons.mpr ⟨_, _, rfl, r1, Reps.one r2⟩)⟩
theorem walk_el {a : Addr} {st : Hp → Hp → Prop} {ds : List D} (h : ∀ G H, Same G H → st G H → ∃ vs, SqL K H a vs ∧ Reps K mg G ds vs) : WalkD K mg st (Ite K a) (enumD ds) := by
  intro i G H s q
  obtain ⟨vs, h1, h2⟩ := h G H s q
  refine ⟨fun d hd => ?_, fun hl => ⟨vs, h1, by rw [h2.length]; simpa [enumD] using hl⟩⟩
  unfold enumD at hd
  rw [List.getElem?_mapIdx] at hd
  cases q1 : ds[i]? with
  | none => rw [q1] at hd; cases hd
  | some d0 =>
    rw [q1] at hd; cases hd
    obtain ⟨v, h3, h4⟩ := h2.get q1
    refine ⟨⟨vs, v, h1, h3⟩, fun x H' y => ?_⟩
    obtain ⟨T, x0, rfl, hT, rfl, y⟩ := y
    have := y vs h1
    rw [h3] at this; cases this
    exact pair_new s hT (rep_int.mpr rfl) h4
theorem walk_et {a : Addr} {st : Hp → Hp → Prop} {ds : List D} (h : ∀ G H, Same G H → st G H → ∃ vs, SqT K H a vs ∧ Reps K mg G ds vs) : WalkD K mg st (IteT K a) (enumD ds) := by
  intro i G H s q
  obtain ⟨vs, h1, h2⟩ := h G H s q
  refine ⟨fun d hd => ?_, fun hl => ⟨vs, h1, by rw [h2.length]; simpa [enumD] using hl⟩⟩
  unfold enumD at hd
  rw [List.getElem?_mapIdx] at hd
  cases q1 : ds[i]? with
  | none => rw [q1] at hd; cases hd
  | some d0 =>
    rw [q1] at hd; cases hd
    obtain ⟨v, h3, h4⟩ := h2.get q1
    refine ⟨⟨vs, v, h1, h3⟩, fun x H' y => ?_⟩
    obtain ⟨T, x0, rfl, hT, rfl, y⟩ := y
    have := y vs h1
    rw [h3] at this; cases this
    exact pair_new s hT (rep_int.mpr rfl) h4
def pairD (d e : D) : D := .tup [d, e]
def zipD (ds es : List D) : List D := List.zipWith pairD ds es
theorem walk_zl {a b : Addr} {st : Hp → Hp → Prop} {ds es : List D} (h : ∀ G H, Same G H → st G H → ∃ vs us, SqL K H a vs ∧ Reps K mg G ds vs ∧ SqL K H b us ∧ Reps K mg G es us) : WalkD K mg st (Itz K a b) (zipD ds es) := by
  intro i G H s q
  obtain ⟨vs, us, h1, h2, h5, h6⟩ := h G H s q
  refine ⟨fun d hd => ?_, fun hl => ⟨vs, us, h1, h5, by rw [h2.length, h6.length]; unfold zipD at hl; rw [List.length_zipWith] at hl; omega⟩⟩
  unfold zipD at hd
  rw [List.getElem?_zipWith] at hd
  cases q1 : ds[i]? with
  | none => rw [q1] at hd; cases hd
  | some d0 =>
    cases q2 : es[i]? with
    | none => rw [q1, q2] at hd; cases hd
    | some e0 =>
      rw [q1, q2] at hd; cases hd
      obtain ⟨v, h3, h4⟩ := h2.get q1
      obtain ⟨u, h7, h8⟩ := h6.get q2
      refine ⟨⟨vs, us, v, u, h1, h5, h3, h7⟩, fun x H' y => ?_⟩
      obtain ⟨T, x0, y0, rfl, hT, rfl, y1, y2⟩ := y
      have z1 := y1 vs h1
      rw [h3] at z1; cases z1
      have z2 := y2 us h5
      rw [h7] at z2; cases z2
      exact pair_new s hT h4 h8
theorem walk_zt {a b : Addr} {st : Hp → Hp → Prop} {ds es : List D} (h : ∀ G H, Same G H → st G H → ∃ vs us, SqT K H a vs ∧ Reps K mg G ds vs ∧ SqT K H b us ∧ Reps K mg G es us) : WalkD K mg st (RZ.ItzT K a b) (zipD ds es) := by
  intro i G H s q
  obtain ⟨vs, us, h1, h2, h5, h6⟩ := h G H s q
  refine ⟨fun d hd => ?_, fun hl => ⟨vs, us, h1, h5, by rw [h2.length, h6.length]; unfold zipD at hl; rw [List.length_zipWith] at hl; omega⟩⟩
  unfold zipD at hd
  rw [List.getElem?_zipWith] at hd
  cases q1 : ds[i]? with
  | none => rw [q1] at hd; cases hd
  | some d0 =>
    cases q2 : es[i]? with
    | none => rw [q1, q2] at hd; cases hd
    | some e0 =>
      rw [q1, q2] at hd; cases hd
      obtain ⟨v, h3, h4⟩ := h2.get q1
      obtain ⟨u, h7, h8⟩ := h6.get q2
      refine ⟨⟨vs, us, v, u, h1, h5, h3, h7⟩, fun x H' y => ?_⟩
      obtain ⟨T, x0, y0, rfl, hT, rfl, y1, y2⟩ := y
      have z1 := y1 vs h1
      rw [h3] at z1; cases z1
      have z2 := y2 us h5
      rw [h7] at z2; cases z2
      exact pair_new s hT h4 h8
def rngD (lo hi : Int) : List D := (List.range (hi - lo).toNat).map fun i => .int (lo + (i : Nat))
def rngDn (lo hi : Int) : List D := (List.range (lo - hi).toNat).map fun i => .int (lo - (i : Nat))
theorem walk_r {lo : Int} {n : Nat} {st : Hp → Hp → Prop} : WalkD K mg st (Itr lo n) ((List.range n).map fun i => .int (lo + (i : Nat))) := by
  intro i G H s q
  refine ⟨fun d hd => ?_, fun hl => by show n ≤ i; simpa using hl⟩
  rw [List.getElem?_map] at hd
  by_cases hi : i < n
  · rw [List.getElem?_range hi] at hd
    cases hd
    refine ⟨hi, fun x H' y => ?_⟩
    obtain ⟨rfl, rfl⟩ := y
    exact ⟨G, Grow.refl s, rep_int.mpr rfl⟩
  · rw [List.getElem?_eq_none (by simpa using hi)] at hd
    cases hd
theorem walk_c {lo : Int} {n : Nat} {st : Hp → Hp → Prop} : WalkD K mg st (Itc lo (-1) n) ((List.range n).map fun i => .int (lo - (i : Nat))) := by
  intro i G H s q
  refine ⟨fun d hd => ?_, fun hl => by show n ≤ i; simpa using hl⟩
  rw [List.getElem?_map] at hd
  by_cases hi : i < n
  · rw [List.getElem?_range hi] at hd
    cases hd
    refine ⟨hi, fun x H' y => ?_⟩
    obtain ⟨rfl, rfl⟩ := y
    exact ⟨G, Grow.refl s, rep_int.mpr (by congr 1; omega)⟩
  · rw [List.getElem?_eq_none (by simpa using hi)] at hd
    cases hd
end
/-- the walked data of a list (L) or tuple (T) -/
def itL : D → Option (List D)
  | .lst ds => some ds
  | _ => none
def itT : D → Option (List D)
  | .tup ds => some ds
  | _ => none
def itEn : D → Option (List D)
  | .lst ds => some (enumD ds)
  | .tup ds => some (enumD ds)
  | _ => none
def itZ : D → D → Option (List D)
  | .lst ds, .lst es => some (zipD ds es)
  | .tup ds, .tup es => some (zipD ds es)
  | _, _ => none
abbrev big : Int := 4611686018427387904
def itR1 : D → Option (List D)
  | .int j => if -big ≤ j ∧ j < big then some (rngD 0 j) else none
  | _ => none
def itR2 : D → D → Option (List D)
  | .int i, .int j => if -big ≤ i ∧ i < big ∧ -big ≤ j ∧ j < big then some (rngD i j) else none
  | _, _ => none
def itR3 : D → D → D → Option (List D)
  | .int i, .int j, .int c => if c = -1 ∧ -big ≤ i ∧ i < big ∧ -big ≤ j ∧ j < big then some (rngDn i j) else none
  | _, _, _ => none
def eIt1 (o : D → Option (List D)) (f : FE D) : FE (List D) := fun ρ ω => (f ρ ω).bind fun d ω1 => Res.lift (o d) ω1
def eIt2 (o : D → D → Option (List D)) (f g : FE D) : FE (List D) := fun ρ ω => (f ρ ω).bind fun d ω1 => (g ρ ω1).bind fun e ω2 => Res.lift (o d e) ω2
def eIt3 (o : D → D → D → Option (List D)) (f g h : FE D) : FE (List D) := fun ρ ω => (f ρ ω).bind fun d ω1 => (g ρ ω1).bind fun e ω2 => (h ρ ω2).bind fun k ω3 => Res.lift (o d e k) ω3
section
variable {X : Cx} {W : WX} {tg a b c e : Expr} {p pos : Pos} {f g h : FE D}
theorem di_list (j : De X W e f) : Di X W tg e (eIt1 itL f) := by
  obtain ⟨t, q, k⟩ := j
  refine ⟨_, pi_list q, fun G α ρ ω σ H R O S P => ?_⟩
  refine Post.step (t := t σ H) (k G α ρ ω σ H · O S) P fun d ω1 v G1 α1 H1 e1 O1 r1 P1 => ?_
  obtain ⟨ds, e2, P2⟩ := P1.lift
  cases d with
  | lst ds' =>
    cases e2
    have r1' : Rep X.K X.mg G1 (.lst ds) v := r1
    rw [rep_lst] at r1'
    obtain ⟨a, vs, e3, q, r⟩ := r1'
    exact ⟨a, e3, ⟨vs, O1.sub.seq q⟩, Post.here O1 (walk_l fun G2 H2 s g => ⟨vs, (g.trans s).seq q, Reps.mono g _ _ r⟩) P2⟩
  | _ => cases e2
theorem di_tup (j : De X W e f) : Di X W tg e (eIt1 itT f) := by
  obtain ⟨t, q, k⟩ := j
  refine ⟨_, pi_tup q, fun G α ρ ω σ H R O S P => ?_⟩
  refine Post.step (t := t σ H) (k G α ρ ω σ H · O S) P fun d ω1 v G1 α1 H1 e1 O1 r1 P1 => ?_
  obtain ⟨ds, e2, P2⟩ := P1.lift
  cases d with
  | tup ds' =>
    cases e2
    have r1' : Rep X.K X.mg G1 (.tup ds) v := r1
    rw [rep_tup] at r1'
    obtain ⟨a, vs, e3, q, r⟩ := r1'
    exact ⟨a, e3, ⟨vs, Same.sqT O1.sub q⟩, Post.here O1 (walk_t fun G2 H2 s g => ⟨vs, Same.sqT (g.trans s) q, Reps.mono g _ _ r⟩) P2⟩
  | _ => cases e2
/-- a list or a tuple -/
def itSeq : D → Option (List D)
  | .lst ds => some ds
  | .tup ds => some ds
  | _ => none
theorem pi_seq {l : Expr} {tl : TE} (hl : PE X l tl) : PI X tg l (fun σ H R => iList X.K tl σ H R ∨ iTup X.K tl σ H R) :=
  ⟨fun pins s σ H R I h => h.elim ((pi_list hl).run pins s σ H R I) ((pi_tup hl).run pins s σ H R I)⟩
theorem di_seq (j : De X W e f) : Di X W tg e (eIt1 itSeq f) := by
  obtain ⟨t, q, k⟩ := j
  refine ⟨_, pi_seq q, fun G α ρ ω σ H R O S P => ?_⟩
  unfold eIt1 at P
  cases r : f ρ ω with
  | stuck => rw [r] at P; exact P.elim
  | exc x ω1 =>
    rw [r] at P
    refine .inl (k G α ρ ω σ H _ O S ?_)
    rw [r]; exact P
  | ok d ω1 =>
    rw [r] at P
    cases d with
    | lst ds =>
      refine .inl (k G α ρ ω σ H _ O S ?_)
      rw [r]
      intro v G1 α1 H1 e1 O1 r1
      have r1' : Rep X.K X.mg G1 (.lst ds) v := r1
      rw [rep_lst] at r1'
      obtain ⟨a, vs, e3, q, r⟩ := r1'
      exact ⟨a, e3, ⟨vs, O1.sub.seq q⟩, Post.here O1 (walk_l fun G2 H2 s g => ⟨vs, (g.trans s).seq q, Reps.mono g _ _ r⟩) (Post.weak e1 P)⟩
    | tup ds =>
      refine .inr (k G α ρ ω σ H _ O S ?_)
      rw [r]
      intro v G1 α1 H1 e1 O1 r1
      have r1' : Rep X.K X.mg G1 (.tup ds) v := r1
      rw [rep_tup] at r1'
      obtain ⟨a, vs, e3, q, r⟩ := r1'
      exact ⟨a, e3, ⟨vs, Same.sqT O1.sub q⟩, Post.here O1 (walk_t fun G2 H2 s g => ⟨vs, Same.sqT (g.trans s) q, Reps.mono g _ _ r⟩) (Post.weak e1 P)⟩
    | _ => exact P.elim
/-- a one-item argument list -/
theorem arg1 {t : TE} {K : PySem.W.Frag} {mg : MG} {β γ : Type} {R : Hp → List Addr → Hp → β → γ → Prop} {R0 : γ → Hp → Prop} {G H : Hp} {α : List Addr} {ρ : Rho} {ω : Om} {σ : St} {fn : D → Om → Res β} {Q1 : List V → Hp → Prop}
    (k : ∀ G α ρ ω σ H Q, Own K mg G α ω H → Slots K mg G α ρ σ → Post K mg (RD K mg) G α H Q (fun c d H' => W c d σ H') (f ρ ω) → t σ H Q) (O : Own K mg G α ω H) (S : Slots K mg G α ρ σ)
    (P : Post K mg R G α H R0 (fun c d H' => W c d σ H') ((f ρ ω).bind fn))
    (h : ∀ d ω1 v G1 α1 H1, Ext G α H G1 α1 H1 → Own K mg G1 α1 ω1 H1 → Rep K mg G1 d v → Post K mg R G1 α1 H1 R0 (fun c d H' => W c d σ H') (fn d ω1) → Q1 [v] H1) : tCons t tNil σ H Q1 :=
  Post.step (t := t σ H) (Q1 := fun x H1 => Q1 [x] H1) (k G α ρ ω σ H · O S) P fun d ω1 v G1 α1 H1 e1 O1 r1 P1 => h d ω1 v G1 α1 H1 e1 O1 r1 P1
theorem arg2 {t u : TE} {K : PySem.W.Frag} {mg : MG} {β γ : Type} {R : Hp → List Addr → Hp → β → γ → Prop} {R0 : γ → Hp → Prop} {G H : Hp} {α : List Addr} {ρ : Rho} {ω : Om} {σ : St} {fn : D → D → Om → Res β} {Q1 : List V → Hp → Prop}
    (k : ∀ G α ρ ω σ H Q, Own K mg G α ω H → Slots K mg G α ρ σ → Post K mg (RD K mg) G α H Q (fun c d H' => W c d σ H') (f ρ ω) → t σ H Q)
    (k2 : ∀ G α ρ ω σ H Q, Own K mg G α ω H → Slots K mg G α ρ σ → Post K mg (RD K mg) G α H Q (fun c d H' => W c d σ H') (g ρ ω) → u σ H Q) (O : Own K mg G α ω H) (S : Slots K mg G α ρ σ)
    (P : Post K mg R G α H R0 (fun c d H' => W c d σ H') ((f ρ ω).bind fun d ω1 => (g ρ ω1).bind fun e ω2 => fn d e ω2))
    (h : ∀ d e ω1 v v2 G1 α1 H1, Ext G α H G1 α1 H1 → Own K mg G1 α1 ω1 H1 → Rep K mg G1 d v → Rep K mg G1 e v2 → Post K mg R G1 α1 H1 R0 (fun c d H' => W c d σ H') (fn d e ω1) → Q1 [v, v2] H1) : tCons t (tCons u tNil) σ H Q1 := by
  refine Post.step (t := t σ H) (Q1 := fun x H1 => u σ H1 fun y H2 => Q1 [x, y] H2) (k G α ρ ω σ H · O S) P fun d ω1 v G1 α1 H1 e1 O1 r1 P1 => ?_
  refine Post.step (t := u σ H1) (k2 G1 α1 ρ ω1 σ H1 · O1 (S.mono e1)) P1 fun d2 ω2 v2 G2 α2 H2 e2 O2 r2 P2 => ?_
  exact h d d2 ω2 v v2 G2 α2 H2 (e1.trans e2) O2 (Rep.mono e2.g _ _ r1) r2 P2
theorem di_enum {elts : List Expr} {kk : Nat} {tpos : Pos} (hm : X.mg "enumerate" = none) (j : De X W e f) (hg : Gl X "enumerate" := by rfl) (hs : starEach [e] X.env = [(false, eval e X.env)] := by rfl)
    (hs2 : starEach (e :: []) X.env = (false, eval e X.env) :: starEach [] X.env := by rfl) :
    Di X W (.Tuple elts kk tpos) (.Call (.Name "enumerate" p) [e] [] pos) (eIt1 itEn f) := by
  obtain ⟨t, q, k⟩ := j
  refine ⟨_, pi_enumA hg hm (pa_cons q pa_nil hs2) hs, fun G α ρ ω σ H R O S P => ?_⟩
  refine arg1 k O S P fun d ω1 v G1 α1 H1 e1 O1 r1 P1 => ?_
  obtain ⟨ds, e2, P2⟩ := P1.lift
  cases d with
  | tup ds' =>
    cases e2
    rw [rep_tup] at r1
    obtain ⟨a, vs, rfl, q, r⟩ := r1
    exact ⟨a, vs, rfl, .inr ⟨Same.sqT O1.sub q, Post.here O1 (walk_et fun G2 H2 s g => ⟨vs, Same.sqT (g.trans s) q, Reps.mono g _ _ r⟩) P2⟩⟩
  | lst ds' =>
    cases e2
    rw [rep_lst] at r1
    obtain ⟨a, vs, rfl, q, r⟩ := r1
    exact ⟨a, vs, rfl, .inl ⟨O1.sub.seq q, Post.here O1 (walk_el fun G2 H2 s g => ⟨vs, (g.trans s).seq q, Reps.mono g _ _ r⟩) P2⟩⟩
  | _ => cases e2
theorem di_zip {elts : List Expr} {kk : Nat} {tpos : Pos} (hm : X.mg "zip" = none) (ja : De X W a f) (jb : De X W b g) (hg : Gl X "zip" := by rfl) (hs : starEach [a, b] X.env = (false, eval a X.env) :: starEach [b] X.env := by rfl)
    (hs2 : starEach [b] X.env = (false, eval b X.env) :: starEach [] X.env := by rfl) (hpl : (backTo pos (starEach [b] X.env)).any (·.1) = false := by rfl) :
    Di X W (.Tuple elts kk tpos) (.Call (.Name "zip" p) [a, b] [] pos) (eIt2 itZ f g) := by
  obtain ⟨t, q, k⟩ := ja
  obtain ⟨u, q2, k2⟩ := jb
  refine ⟨_, RZ.pi_zipA hg hm (pa_cons q (pa_cons q2 pa_nil hs2) hs) hs hpl, fun G α ρ ω σ H R O S P => ?_⟩
  refine arg2 k k2 O S P fun d e ω1 v v2 G1 α1 H1 e1 O1 r1 r2 P1 => ?_
  obtain ⟨ds, e2, P2⟩ := P1.lift
  unfold itZ at e2
  split at e2
  · cases e2
    rw [rep_lst] at r1 r2
    obtain ⟨a, vs, rfl, q, r⟩ := r1
    obtain ⟨b, us, rfl, q', r'⟩ := r2
    exact ⟨a, b, vs, us, rfl, .inl ⟨O1.sub.seq q, O1.sub.seq q', Post.here O1 (walk_zl fun G2 H2 s g => ⟨vs, us, (g.trans s).seq q, Reps.mono g _ _ r, (g.trans s).seq q', Reps.mono g _ _ r'⟩) P2⟩⟩
  · cases e2
    rw [rep_tup] at r1 r2
    obtain ⟨a, vs, rfl, q, r⟩ := r1
    obtain ⟨b, us, rfl, q', r'⟩ := r2
    exact ⟨a, b, vs, us, rfl, .inr ⟨Same.sqT O1.sub q, Same.sqT O1.sub q', Post.here O1 (walk_zt fun G2 H2 s g => ⟨vs, us, Same.sqT (g.trans s) q, Reps.mono g _ _ r, Same.sqT (g.trans s) q', Reps.mono g _ _ r'⟩) P2⟩⟩
  · cases e2
theorem di_range1 (hm : X.mg "range" = none) (j : De X W a f) (hg : Gl X "range" := by rfl) (hs : starEach [a] X.env = [(false, eval a X.env)] := by rfl)
    (hs2 : starEach (a :: []) X.env = (false, eval a X.env) :: starEach [] X.env := by rfl) : Di X W tg (.Call (.Name "range" p) [a] [] pos) (eIt1 itR1 f) := by
  obtain ⟨t, q, k⟩ := j
  refine ⟨_, pi_range1 hg hm (pa_cons q pa_nil hs2) hs, fun G α ρ ω σ H R O S P => ?_⟩
  refine arg1 k O S P fun d ω1 v G1 α1 H1 e1 O1 r1 P1 => ?_
  obtain ⟨ds, e2, P2⟩ := P1.lift
  unfold itR1 at e2
  split at e2
  · split at e2
    · rename_i j hb
      cases e2
      rw [rep_int] at r1
      subst r1
      refine ⟨j, rfl, by have := hb.1; simpa using this, by have := hb.2; simpa using this, ?_⟩
      have w : WalkD X.K X.mg (fun G' _ => Same G1 G') (Itr 0 j.toNat) (rngD 0 j) := by
        have := @walk_r X.K X.mg 0 j.toNat (fun G' _ => Same G1 G')
        unfold rngD
        rw [Int.sub_zero]
        exact this
      exact Post.here O1 w P2
    · cases e2
  · cases e2
theorem di_range2 (hm : X.mg "range" = none) (ja : De X W a f) (jb : De X W b g) (hg : Gl X "range" := by rfl) (hs : starEach [a, b] X.env = [(false, eval a X.env), (false, eval b X.env)] := by rfl)
    (hs1 : starEach [a, b] X.env = (false, eval a X.env) :: starEach [b] X.env := by rfl)
    (hs2 : starEach [b] X.env = [(false, eval b X.env)] := by rfl) (hs3 : starEach [b] X.env = (false, eval b X.env) :: starEach [] X.env := by rfl) : Di X W tg (.Call (.Name "range" p) [a, b] [] pos) (eIt2 itR2 f g) := by
  obtain ⟨t, q, k⟩ := ja
  obtain ⟨u, q2, k2⟩ := jb
  refine ⟨_, pi_range2 hg hm (pa_cons q (pa_cons q2 pa_nil hs3) hs1) hs hs2, fun G α ρ ω σ H R O S P => ?_⟩
  refine arg2 k k2 O S P fun d e ω1 v v2 G1 α1 H1 e1 O1 r1 r2 P1 => ?_
  obtain ⟨ds, e2, P2⟩ := P1.lift
  unfold itR2 at e2
  split at e2
  · split at e2
    · rename_i i j hb
      cases e2
      rw [rep_int] at r1 r2
      subst r1 r2
      exact ⟨i, j, rfl, ⟨by have := hb.1; simpa using this, by have := hb.2.1; simpa using this, by have := hb.2.2.1; simpa using this, by have := hb.2.2.2; simpa using this⟩, Post.here O1 walk_r P2⟩
    · cases e2
  · cases e2
theorem di_range3 (hm : X.mg "range" = none) (ja : De X W a f) (jb : De X W b g) (jc : De X W c h) (hg : Gl X "range" := by rfl)
    (hs : starEach [a, b, c] X.env = (false, eval a X.env) :: starEach [b, c] X.env := by rfl) (hs1 : starEach [b, c] X.env = (false, eval b X.env) :: starEach [c] X.env := by rfl) (hs2 : starEach [c] X.env = (false, eval c X.env) :: starEach [] X.env := by rfl)
    (hpl : (backTo pos (starEach [b, c] X.env)).any (·.1) = false := by rfl) : Di X W tg (.Call (.Name "range" p) [a, b, c] [] pos) (eIt3 itR3 f g h) := by
  obtain ⟨t, q, k⟩ := ja
  obtain ⟨u, q2, k2⟩ := jb
  obtain ⟨w, q3, k3⟩ := jc
  refine ⟨_, pi_range3 hg hm (pa_cons q (pa_cons q2 (pa_cons q3 pa_nil hs2) hs1) hs) hs hpl, fun G α ρ ω σ H R O S P => ?_⟩
  refine Post.step (t := t σ H) (k G α ρ ω σ H · O S) P fun d1 ω1 v1 G1 α1 H1 e1 O1 r1 P1 => ?_
  refine Post.step (t := u σ H1) (k2 G1 α1 ρ ω1 σ H1 · O1 (S.mono e1)) P1 fun d2 ω2 v2 G2 α2 H2 e2 O2 r2 P2 => ?_
  refine Post.step (t := w σ H2) (k3 G2 α2 ρ ω2 σ H2 · O2 ((S.mono e1).mono e2)) P2 fun d3 ω3 v3 G3 α3 H3 e3 O3 r3 P3 => ?_
  obtain ⟨ds, e4, P4⟩ := P3.lift
  unfold itR3 at e4
  split at e4
  · split at e4
    · rename_i i j c hb
      cases e4
      have z1 : v1 = .int i := rep_int.mp (show Rep X.K X.mg G1 (.int i) v1 from r1)
      have z2 : v2 = .int j := rep_int.mp (show Rep X.K X.mg G2 (.int j) v2 from r2)
      have z3 : v3 = .int c := rep_int.mp (show Rep X.K X.mg G3 (.int c) v3 from r3)
      obtain ⟨hc, h1, h2, h3, h4⟩ := hb
      subst z1 z2 z3 hc
      exact ⟨i, j, -1, (i - j).toNat, rfl, RgC.neg (by simpa using h1) (by simpa using h2) (by simpa using h3) (by simpa using h4), Post.here O3 walk_c P4⟩
    · cases e4
  · cases e4
/-- an own list -/
def eOwnI (i : Nat) : FE (Nat × List D) := fun ρ ω => match ρ[i]? with
  | some (some (.own k)) => match ω[k]? with
    | some (some (.lst ds)) => .ok (k, ds) ω
    | _ => .stuck
  | _ => .stuck
theorem di_own (i : Nat) {x : Str} (hN : X.N[i]? = some x := by rfl) (hv : Vis X.env.scope x := by first | exact Or.inl rfl | exact Or.inr (Or.inl rfl) | exact Or.inr (Or.inr rfl)) (hd : (x == ("__debug__" : Str)) = false := by decide)
    (hcd : (x == ("__classdict__" : Str)) = false := by decide) : Dio X tg (.Name x pos) (eOwnI i) := by
  refine ⟨_, pi_list (pe_var hN hv hd hcd), fun G α ρ ω σ H Q O S P => ?_⟩
  unfold eOwnI at P
  split at P
  · rename_i k hk
    split at P
    · rename_i ds hds
      obtain ⟨v, h1, a, h2, rfl⟩ := S.val i _ hk
      obtain ⟨_, vs, h3, h4⟩ := O.obj k _ a hds h2
      exact ⟨_, h1, a, rfl, ⟨vs, SqL.of h3⟩, Post.here (R := RIo X.K X.mg) (b := (k, ds)) O ⟨a, h2, walk_l fun G2 H2 s ⟨us, q1, q2⟩ => ⟨us, SqL.of q1, q2⟩⟩ P⟩
    · exact P.elim
  · exact P.elim
end
end Dl
namespace Dl
open PySem L2

/-! ### statements -/
inductive Out where
  | stuck
  | next (ρ : Rho) (ω : Om)
  | brk (ρ : Rho) (ω : Om)
  | cont (ρ : Rho) (ω : Om)
  | ret (x : SV) (ω : Om)
  | exc (x : Exn) (ρ : Rho) (ω : Om)
abbrev FS := Rho → Om → Out
/-- go on with the value of an expression -/
def Res.out {β : Type} (r : Res β) (ρ : Rho) (k : β → Om → Out) : Out := match r with
  | .stuck => .stuck
  | .ok b ω => k b ω
  | .exc x ω => .exc x ρ ω
def Out.bind (r : Out) (k : Rho → Om → Out) : Out := match r with
  | .next ρ ω => k ρ ω
  | o => o
def PostS (K : PySem.W.Frag) (mg : MG) (G : Hp) (α : List Addr) (H : Hp) (D : Ends) (W : WX) : Out → Prop
  | .stuck => False
  | .next ρ' ω' => ∀ σ' G' α' H', Ext G α H G' α' H' → Own K mg G' α' ω' H' → Slots K mg G' α' ρ' σ' → D.nx σ' H'
  | .brk ρ' ω' => ∀ σ' G' α' H', Ext G α H G' α' H' → Own K mg G' α' ω' H' → Slots K mg G' α' ρ' σ' → D.bk σ' H'
  | .cont ρ' ω' => ∀ σ' G' α' H', Ext G α H G' α' H' → Own K mg G' α' ω' H' → Slots K mg G' α' ρ' σ' → D.ct σ' H'
  | .ret x ω' => ∀ v G' α' H', Ext G α H G' α' H' → Own K mg G' α' ω' H' → RepV K mg G' α' x v → D.rt v H'
  | .exc x ρ' ω' => ∀ c dd σ' G' α' H', Ext G α H G' α' H' → Own K mg G' α' ω' H' → Slots K mg G' α' ρ' σ' → RepX K mg G' x c dd → W c dd σ' H'
def Ds (X : Cx) (W : WX) (st : Stmt) (f : FS) : Prop :=
  ∃ t, PS X st t ∧ ∀ G α ρ ω σ H D, Own X.K X.mg G α ω H → Slots X.K X.mg G α ρ σ → PostS X.K X.mg G α H D W (f ρ ω) → t D σ H
def Dss (X : Cx) (W : WX) (st : List Stmt) (f : FS) : Prop :=
  ∃ t, PSs X st t ∧ ∀ G α ρ ω σ H D, Own X.K X.mg G α ω H → Slots X.K X.mg G α ρ σ → PostS X.K X.mg G α H D W (f ρ ω) → t D σ H
section
variable {K : PySem.W.Frag} {mg : MG} {G G1 H H1 : Hp} {α α1 : List Addr} {D D2 : Ends} {W : WX} {ω : Om} {ρ : Rho} {σ : St}
theorem PostS.weak {r : Out} (e : Ext G α H G1 α1 H1) (h : PostS K mg G α H D W r) : PostS K mg G1 α1 H1 D W r := by
  cases r with
  | stuck => exact h
  | next ρ' ω' => exact fun σ' G' α' H' e' O S => h σ' G' α' H' (e.trans e') O S
  | brk ρ' ω' => exact fun σ' G' α' H' e' O S => h σ' G' α' H' (e.trans e') O S
  | cont ρ' ω' => exact fun σ' G' α' H' e' O S => h σ' G' α' H' (e.trans e') O S
  | ret x ω' => exact fun v G' α' H' e' O q => h v G' α' H' (e.trans e') O q
  | exc x ρ' ω' => exact fun c dd σ' G' α' H' e' O S q => h c dd σ' G' α' H' (e.trans e') O S q
/-- a statement behind an expression -/
theorem PostS.step {β γ : Type} {R : Hp → List Addr → Hp → β → γ → Prop} {t : (γ → Hp → Prop) → Prop} {r : Res β} {g : β → Om → Out} {Q1 : γ → Hp → Prop} (S : Slots K mg G α ρ σ) (J : ∀ Q, Post K mg R G α H Q (fun c d H' => W c d σ H') r → t Q) (h : PostS K mg G α H D W (r.out ρ g))
    (k : ∀ b ω1 v G' α' H', Ext G α H G' α' H' → Own K mg G' α' ω1 H' → R G' α' H' b v → PostS K mg G' α' H' D W (g b ω1) → Q1 v H') : t Q1 := by
  cases r with
  | stuck => exact h.elim
  | ok b ω' => exact J Q1 fun v G' α' H' e O q => k b ω' v G' α' H' e O q (PostS.weak e h)
  | exc x ω' => exact J Q1 fun c dd G' α' H' e O q => h c dd σ G' α' H' e O (S.mono e) q
theorem PostS.here_nx {ρ' : Rho} {σ' : St} (O : Own K mg G α ω H) (S : Slots K mg G α ρ' σ') (h : PostS K mg G α H D W (.next ρ' ω)) : D.nx σ' H := h σ' G α H Ext.refl O S
end
section
variable {X : Cx} {W : WX} {st : Stmt} {rest : List Stmt} {f g : FS} {e c : Expr} {fe : FE D} {pos : Pos}
def sNext : FS := fun ρ ω => .next ρ ω
def sSeq (f g : FS) : FS := fun ρ ω => (f ρ ω).bind g
theorem dss_nil : Dss X W [] sNext := ⟨_, pss_nil, fun G α ρ ω σ H D O S P => P.here_nx O S⟩
theorem dss_cons (h1 : Ds X W st f) (h2 : Dss X W rest g) : Dss X W (st :: rest) (sSeq f g) := by
  obtain ⟨t, p, k⟩ := h1
  obtain ⟨u, p2, k2⟩ := h2
  refine ⟨_, pss_cons p p2, fun G α ρ ω σ H D O S P => ?_⟩
  refine k G α ρ ω σ H _ O S ?_
  unfold sSeq at P
  cases r : f ρ ω with
  | stuck => rw [r] at P; exact P
  | next ρ' ω' =>
    rw [r] at P
    exact fun σ' G' α' H' e' O' S' => k2 G' α' ρ' ω' σ' H' D O' S' (PostS.weak e' P)
  | brk ρ' ω' => rw [r] at P; exact P
  | cont ρ' ω' => rw [r] at P; exact P
  | ret x ω' => rw [r] at P; exact P
  | exc x ρ' ω' => rw [r] at P; exact P
theorem dss_one (h1 : Ds X W st f) : Dss X W [st] f := let ⟨t, p, k⟩ := h1; ⟨t, pss_one p, k⟩
def sBreak : FS := fun ρ ω => .brk ρ ω
def sCont : FS := fun ρ ω => .cont ρ ω
theorem ds_pass : Ds X W (.Pass pos) sNext := ⟨_, ps_pass, fun G α ρ ω σ H D O S P => P.here_nx O S⟩
theorem ds_break : Ds X W (.Break pos) sBreak := ⟨_, ps_break, fun G α ρ ω σ H D O S P => P σ G α H Ext.refl O S⟩
theorem ds_cont : Ds X W (.Continue pos) sCont := ⟨_, ps_continue, fun G α ρ ω σ H D O S P => P σ G α H Ext.refl O S⟩
/-- e; return e -/
def sExpr (f : FE D) : FS := fun ρ ω => (f ρ ω).out ρ fun _ ω1 => .next ρ ω1
def sRet (f : FE D) : FS := fun ρ ω => (f ρ ω).out ρ fun d ω1 => .ret (.val d) ω1
theorem ds_expr (h : De X W e fe) (hs : swapsWith e none pos.line X.env = pure false := by rfl) : Ds X W (.Expr e pos) (sExpr fe) := by
  obtain ⟨t, p, k⟩ := h
  refine ⟨_, ps_expr p hs, fun G α ρ ω σ H D O S P => ?_⟩
  exact PostS.step S (t := t σ H) (k G α ρ ω σ H · O S) P fun d ω1 v G1 α1 H1 e1 O1 r1 P1 => P1.here_nx O1 (S.mono e1)
theorem ds_ret (h : De X W e fe) : Ds X W (.Return (some e) pos) (sRet fe) := by
  obtain ⟨t, p, k⟩ := h
  refine ⟨_, ps_ret p, fun G α ρ ω σ H D O S P => ?_⟩
  exact PostS.step S (t := t σ H) (k G α ρ ω σ H · O S) P fun d ω1 v G1 α1 H1 e1 O1 r1 P1 => P1 v G1 α1 H1 Ext.refl O1 r1
def sRetS (f : FE SV) : FS := fun ρ ω => (f ρ ω).out ρ fun x ω1 => .ret x ω1
theorem ds_retS {fv : FE SV} (h : Dv X W e fv) : Ds X W (.Return (some e) pos) (sRetS fv) := by
  obtain ⟨t, p, k⟩ := h
  refine ⟨_, ps_ret p, fun G α ρ ω σ H D O S P => ?_⟩
  exact PostS.step S (t := t σ H) (k G α ρ ω σ H · O S) P fun d ω1 v G1 α1 H1 e1 O1 r1 P1 => P1 v G1 α1 H1 Ext.refl O1 r1
def sRetN : FS := fun _ ω => .ret (.val .non) ω
theorem ds_retN : Ds X W (.Return none pos) sRetN := ⟨_, ps_retN, fun G α ρ ω σ H D O S P => P .non G α H Ext.refl O (show Rep X.K X.mg G .non .non from rep_non.mpr rfl)⟩
def sIf (c : FE Bool) (f g : FS) : FS := fun ρ ω => (c ρ ω).out ρ fun b ω1 => if b = true then f ρ ω1 else g ρ ω1
theorem ds_if {a b : List Stmt} {fc : FE Bool} (hc : Dt X W c fc) (ha : Dss X W a f) (hb : Dss X W b g) : Ds X W (.If c a b pos) (sIf fc f g) := by
  obtain ⟨tc, pc, kc⟩ := hc
  obtain ⟨ta, pa, ka⟩ := ha
  obtain ⟨tb, pb, kb⟩ := hb
  refine ⟨_, ps_if pc pa pb, fun G α ρ ω σ H D O S P => ?_⟩
  refine PostS.step S (t := tc σ H) (kc G α ρ ω σ H · O S) P fun x ω1 v1 G1 α1 H1 e1 O1 r1 P1 => ?_
  cases r1
  cases x with
  | true => exact iteT (ka G1 α1 ρ ω1 σ H1 D O1 (S.mono e1) P1)
  | false => exact iteF (kb G1 α1 ρ ω1 σ H1 D O1 (S.mono e1) P1)
/-- target = e -/
def sAsg (f : FE D) (tg : FG) : FS := fun ρ ω => (f ρ ω).out ρ fun d ω1 => match tg d ρ with
  | some ρ' => .next ρ' ω1
  | none => .stuck
abbrev sSet (i : Nat) (f : FE D) : FS := sAsg f (gN i)
theorem ds_asg {tg : Expr} {is : List Nat} {fg : FG} (h : De X W e fe) (hg : Dg X tg is fg) (hs : swapsWithSole [tg] e pos.line X.env = pure false := by rfl) (hw : swappedStores [tg] e X.env = pure none := by rfl)
    (h1 : (assignEach [tg] X.env).map (·.2) = [assign tg X.env] := by rfl) : Ds X W (.Assign [tg] e pos) (sAsg fe fg) := by
  obtain ⟨t, p, k⟩ := h
  obtain ⟨tg', pg, kg⟩ := hg
  refine ⟨_, ps_asg p pg hs hw h1, fun G α ρ ω σ H D O S P => ?_⟩
  refine PostS.step S (t := t σ H) (k G α ρ ω σ H · O S) P fun d ω1 v G1 α1 H1 e1 O1 r1 P1 => ?_
  refine kg G1 α1 ρ σ H1 d v _ O1.sub (S.mono e1) r1 ?_
  cases q : fg d ρ with
  | none => rw [q] at P1; exact P1
  | some ρ' => rw [q] at P1; exact fun σ' S' _ _ => P1.here_nx O1 S'
theorem ds_set {i : Nat} {x : Str} {pos' : Pos} (hN : X.N.Nodup) (h : De X W e fe) (hi : X.N[i]? = some x := by rfl) (hx : Loc X.env.scope x := by first | exact Or.inl rfl | exact Or.inr rfl) (hs : swapsWith e (some (.Name x pos')) pos.line X.env = pure false := by rfl)
    (hf : X.fn x = true ∨ X.env.scope.names.lookup x = some .local := by first | exact .inl rfl | exact .inr rfl) : Ds X W (.Assign [.Name x pos'] e pos) (sSet i fe) := by
  obtain ⟨t, p, k⟩ := h
  refine ⟨_, ps_set hN hi hx p hs hf, fun G α ρ ω σ H D O S P => ?_⟩
  refine PostS.step S (t := t σ H) (k G α ρ ω σ H · O S) P fun d ω1 v G1 α1 H1 e1 O1 r1 P1 => ?_
  exact P1.here_nx O1 ((S.mono e1).set i (x := .val d) r1)
/-- x = e, e a call that hands out an own object -/
def sSetS (i : Nat) (f : FE SV) : FS := fun ρ ω => (f ρ ω).out ρ fun x ω1 => .next (ρ.set i (some x)) ω1
theorem ds_setS {i : Nat} {x : Str} {pos' : Pos} {fv : FE SV} (hN : X.N.Nodup) (h : Dv X W e fv) (hi : X.N[i]? = some x := by rfl) (hx : Loc X.env.scope x := by first | exact Or.inl rfl | exact Or.inr rfl) (hs : swapsWith e (some (.Name x pos')) pos.line X.env = pure false := by rfl)
    (hf : X.fn x = true ∨ X.env.scope.names.lookup x = some .local := by first | exact .inl rfl | exact .inr rfl) : Ds X W (.Assign [.Name x pos'] e pos) (sSetS i fv) := by
  obtain ⟨t, p, k⟩ := h
  refine ⟨_, ps_set hN hi hx p hs hf, fun G α ρ ω σ H D O S P => ?_⟩
  refine PostS.step S (t := t σ H) (k G α ρ ω σ H · O S) P fun d ω1 v G1 α1 H1 e1 O1 r1 P1 => ?_
  exact P1.here_nx O1 ((S.mono e1).set i r1)
/-- a, b = x, y -/
def sPar (i j : Nat) (f : FE (List SV)) : FS := fun ρ ω => (f ρ ω).out ρ fun xs ω1 => match xs with
  | [x, y] => .next ((ρ.set i (some x)).set j (some y)) ω1
  | _ => .stuck
theorem ds_par {i j : Nat} {x y : Str} {a b : Expr} {fa : FE (List SV)} {px py pt : Pos} {kt k2 pt2} (hc : X.calm = true) (hN : X.N.Nodup) (hij : i ≠ j) (ha : Da X W [a, b] fa)
    (hw : swappedStores [.Tuple [.Name x px, .Name y py] kt pt] (.Tuple [a, b] k2 pt2) X.env = pure (some [x, y]))
    (hi : X.N[i]? = some x := by rfl) (hj : X.N[j]? = some y := by rfl)
    (hx : X.env.scope.names.lookup x = some .local := by rfl) (hy : X.env.scope.names.lookup y = some .local := by rfl)
    (hs : swapsWithSole [.Tuple [.Name x px, .Name y py] kt pt] (.Tuple [a, b] k2 pt2) pos.line X.env = pure false := by rfl) :
    Ds X W (.Assign [.Tuple [.Name x px, .Name y py] kt pt] (.Tuple [a, b] k2 pt2) pos) (sPar i j fa) := by
  obtain ⟨t, p, k⟩ := ha
  refine ⟨_, ps_par hc hN hi hj hij hx hy p hw hs, fun G α ρ ω σ H D O S P => ?_⟩
  refine PostS.step S (t := t σ H) (k G α ρ ω σ H · O S) P fun xs ω1 vs G1 α1 H1 e1 O1 r1 P1 => ?_
  match xs, vs, r1, P1 with
  | [x, y], _, .cons q1 (.cons q2 .nil), P1 => exact ⟨_, _, rfl, P1.here_nx O1 (((S.mono e1).set i q1).set j q2)⟩
  | [], _, _, P1 => exact P1.elim
  | [_], _, _, P1 => exact P1.elim
  | _ :: _ :: _ :: _, _, _, P1 => exact P1.elim

/-! ### for -/
def forL (tg : FG) (b : FS) : List D → Rho → Om → Out
  | [], ρ, ω => .next ρ ω
  | d :: ds, ρ, ω => match tg d ρ with
    | none => .stuck
    | some ρ1 => match b ρ1 ω with
      | .next ρ2 ω2 => forL tg b ds ρ2 ω2
      | .cont ρ2 ω2 => forL tg b ds ρ2 ω2
      | .brk ρ2 ω2 => .next ρ2 ω2
      | .ret x ω2 => .ret x ω2
      | .exc x ρ2 ω2 => .exc x ρ2 ω2
      | .stuck => .stuck
def sFor (it : FE (List D)) (tg : FG) (b : FS) : FS := fun ρ ω => (it ρ ω).out ρ fun ds ω1 => forL tg b ds ρ ω1
theorem for_post {tg : TG} {fg : FG} {is : List Nat} {tb : TS} {b : FS} {K : PySem.W.Frag} {mg : MG} {J : It} {ds : List D} {G0 H : Hp} {α : List Addr} {ρ : Rho} {ω : Om} {σ : St} {De : Ends}
    (kg : ∀ G α ρ σ H d v (Q : St → Hp → Prop), Same G H → Slots K mg G α ρ σ → Rep K mg G d v →
      (match fg d ρ with
        | none => False
        | some ρ' => ∀ σ', Slots K mg G α ρ' σ' → (∀ j, j ∉ is → σ'[j]? = σ[j]?) → σ'.length = σ.length → Q σ' H) → tg v σ H Q)
    (kb : ∀ G α ρ ω σ H D, Own K mg G α ω H → Slots K mg G α ρ σ → PostS K mg G α H D W (b ρ ω) → tb D σ H)
    (wk : WalkD K mg (fun G' _ => Same G0 G') J ds) (O : Own K mg G0 α ω H) (S : Slots K mg G0 α ρ σ) (P : PostS K mg G0 α H De W (forL fg b ds ρ ω)) :
    ∃ Wv : Nat → Nat → St → Hp → Prop, (∃ m, Wv 0 m σ H) ∧ ∀ i m σ H, Wv i m σ H →
      (J.stop i H ∧ De.nx σ H) ∨ (J.go i H ∧ ∃ N : St → Hp → Prop, (∀ σ' H', N σ' H' → ∃ m', m' < m ∧ Wv (i + 1) m' σ' H') ∧ ∀ x H', J.yld i H x H' → tg x σ H' fun σ2 H2 => tb { De with nx := N, ct := N, bk := De.nx } σ2 H2) := by
  refine ⟨fun i m σ H => m = ds.length - i ∧ i ≤ ds.length ∧ ∃ G α ρ ω, Same G0 G ∧ Own K mg G α ω H ∧ Slots K mg G α ρ σ ∧ PostS K mg G α H De W (forL fg b (ds.drop i) ρ ω), ⟨_, rfl, Nat.zero_le _, G0, α, ρ, ω, Same.refl _, O, S, P⟩, ?_⟩
  rintro i m σ H ⟨rfl, hi, G, α, ρ, ω, g, O, S, P⟩
  obtain ⟨w1, w2⟩ := wk i G H O.sub g
  by_cases hlt : i < ds.length
  · refine .inr ?_
    obtain ⟨go, yl⟩ := w1 ds[i] (List.getElem?_eq_getElem hlt)
    refine ⟨go, fun σ' H' => ∃ G α ρ ω, Same G0 G ∧ Own K mg G α ω H' ∧ Slots K mg G α ρ σ' ∧ PostS K mg G α H' De W (forL fg b (ds.drop (i + 1)) ρ ω), fun σ' H' q => ⟨ds.length - (i + 1), by omega, rfl, hlt, q⟩, fun x H' y => ?_⟩
    obtain ⟨G1, gr, r1⟩ := yl x H' y
    have O1 := O.grow gr
    have S1 := S.mono (gr.ext (α := α))
    have P1 := PostS.weak (gr.ext (α := α)) P
    rw [List.drop_eq_getElem_cons hlt] at P1
    unfold forL at P1
    refine kg G1 α ρ σ H' _ x _ O1.sub S1 r1 ?_
    cases q : fg ds[i] ρ with
    | none => rw [q] at P1; exact P1.elim
    | some ρ1 =>
      rw [q] at P1
      intro σ2 S2 _ _
      refine kb G1 α ρ1 ω σ2 H' _ O1 S2 ?_
      dsimp only at P1
      cases q2 : b ρ1 ω with
      | stuck => rw [q2] at P1; exact P1
      | next ρ2 ω2 =>
        rw [q2] at P1
        exact fun σ3 G3 α3 H3 e3 O3 S3 => ⟨G3, α3, ρ2, ω2, (g.trans gr.g).trans e3.g, O3, S3, PostS.weak e3 P1⟩
      | cont ρ2 ω2 =>
        rw [q2] at P1
        exact fun σ3 G3 α3 H3 e3 O3 S3 => ⟨G3, α3, ρ2, ω2, (g.trans gr.g).trans e3.g, O3, S3, PostS.weak e3 P1⟩
      | brk ρ2 ω2 => rw [q2] at P1; exact P1
      | ret x ω2 => rw [q2] at P1; exact P1
      | exc x ρ2 ω2 => rw [q2] at P1; exact P1
  · have e : i = ds.length := by omega
    subst e
    rw [List.drop_length] at P
    exact .inl ⟨w2 (Nat.le_refl _), P.here_nx O S⟩
theorem ds_for {tg iter : Expr} {body : List Stmt} {is : List Nat} {fi : FE (List D)} {fg : FG} {fb : FS} (hp : PassesOwn (model X.prog X.w) X.A X.env X.xe) (hc : X.calm = true) (hi : Di X W tg iter fi) (hg : Dg X tg is fg) (hb : Dss X W body fb)
    (hs : ∀ x, foldedSetIterable iter X.env x = pure x := by intro _; rfl) : Ds X W (.For tg iter body [] pos) (sFor fi fg fb) := by
  obtain ⟨wi, pi, ki⟩ := hi
  obtain ⟨tg', pg, kg⟩ := hg
  obtain ⟨tb, pb, kb⟩ := hb
  refine ⟨_, ps_for hp hc pi pg pb hs, fun G α ρ ω σ H D O S P => ?_⟩
  refine PostS.step S (t := wi σ H) (ki G α ρ ω σ H · O S) P fun ds ω1 J G1 α1 H1 e1 O1 w1 P1 => ?_
  exact for_post kg kb w1 O1 (S.mono e1) P1

/-! ### while, with fuel -/
def whileF (c : FE Bool) (b : FS) : Nat → Rho → Om → Out
  | 0, _, _ => .stuck
  | n + 1, ρ, ω => (c ρ ω).out ρ fun k ω1 => if k = true then (match b ρ ω1 with
      | .next ρ2 ω2 => whileF c b n ρ2 ω2
      | .cont ρ2 ω2 => whileF c b n ρ2 ω2
      | .brk ρ2 ω2 => .next ρ2 ω2
      | .ret x ω2 => .ret x ω2
      | .exc x ρ2 ω2 => .exc x ρ2 ω2
      | .stuck => .stuck) else .next ρ ω1
def sWhile (n : Nat) (c : FE Bool) (b : FS) : FS := whileF c b n
theorem ds_while {body : List Stmt} {fc : FE Bool} {fb : FS} (n : Nat) (hp : PassesOwn (model X.prog X.w) X.A X.env X.xe) (hc : Dt X W c fc) (hb : Dss X W body fb) : Ds X W (.While c body [] pos) (sWhile n fc fb) := by
  obtain ⟨tc, pc, kc⟩ := hc
  obtain ⟨tb, pb, kb⟩ := hb
  refine ⟨_, ps_while hp pc pb, fun G α ρ ω σ H D O S P => ?_⟩
  refine ⟨fun m σ H => ∃ G α ρ ω, Own X.K X.mg G α ω H ∧ Slots X.K X.mg G α ρ σ ∧ PostS X.K X.mg G α H D W (whileF fc fb m ρ ω), ⟨n, G, α, ρ, ω, O, S, P⟩, ?_⟩
  rintro m σ H ⟨G, α, ρ, ω, O, S, P⟩
  cases m with
  | zero => exact P.elim
  | succ m =>
    unfold whileF at P
    refine PostS.step S (t := tc σ H) (kc G α ρ ω σ H · O S) P fun x ω1 v1 G1 α1 H1 e1 O1 r1 P1 => ?_
    cases r1
    cases x with
    | false => exact iteF (P1.here_nx O1 (S.mono e1))
    | true =>
      refine iteT ⟨fun σ' H' => ∃ G α ρ ω, Own X.K X.mg G α ω H' ∧ Slots X.K X.mg G α ρ σ' ∧ PostS X.K X.mg G α H' D W (whileF fc fb m ρ ω), fun σ' H' q => ⟨m, Nat.lt_succ_self _, q⟩, ?_⟩
      refine kb G1 α1 ρ ω1 σ H1 _ O1 (S.mono e1) ?_
      rw [if_pos rfl] at P1
      cases q2 : fb ρ ω1 with
      | stuck => rw [q2] at P1; exact P1
      | next ρ2 ω2 =>
        rw [q2] at P1
        exact fun σ3 G3 α3 H3 e3 O3 S3 => ⟨G3, α3, ρ2, ω2, O3, S3, PostS.weak e3 P1⟩
      | cont ρ2 ω2 =>
        rw [q2] at P1
        exact fun σ3 G3 α3 H3 e3 O3 S3 => ⟨G3, α3, ρ2, ω2, O3, S3, PostS.weak e3 P1⟩
      | brk ρ2 ω2 => rw [q2] at P1; exact P1
      | ret x ω2 => rw [q2] at P1; exact P1
      | exc x ρ2 ω2 => rw [q2] at P1; exact P1
end
end Dl
namespace Dl
open PySem L2

/-! ### list comprehensions -/
def wipeR (ρ : Rho) : List Nat → Rho
  | [] => ρ
  | v :: vs => (wipeR ρ vs).set v none
def lcL (tg : FG) (tt : FE Bool) (el : FE D) (ρ : Rho) : List D → List D → Om → Res D
  | [], acc, ω => .ok (.lst acc) ω
  | d :: ds, acc, ω => match tg d ρ with
    | none => .stuck
    | some ρ1 => match tt ρ1 ω with
      | .ok true ω1 => match el ρ1 ω1 with
        | .ok y ω2 => if acc.length < lim then lcL tg tt el ρ ds (acc ++ [y]) ω2 else .stuck
        | _ => .stuck
      | .ok false ω1 => lcL tg tt el ρ ds acc ω1
      | _ => .stuck
def eLc (vs : List Nat) (it : FE (List D)) (tg : FG) (tt : FE Bool) (el : FE D) : FE D := fun ρ ω => (it ρ ω).bind fun ds ω1 => lcL tg tt el (wipeR ρ vs) ds [] ω1
abbrev W0 : WX := fun _ _ _ _ => False
def eTrue : FE Bool := fun _ ω => .ok true ω
/-- the tests of a clause -/
def Dts (X : Cx) (W : WX) (ifs : List Expr) (f : FE Bool) : Prop :=
  ∃ t, PTs X ifs t ∧ ∀ G α ρ ω σ H Q, Own X.K X.mg G α ω H → Slots X.K X.mg G α ρ σ → Post X.K X.mg RB G α H Q (fun c d H' => W c d σ H') (f ρ ω) → t σ H Q
theorem dts_nil {X : Cx} {W : WX} : Dts X W [] eTrue := ⟨_, pts_nil, fun G α ρ ω σ H Q O S P => Post.here O rfl P⟩
theorem dts_one {X : Cx} {W : WX} {c : Expr} {f : FE Bool} (h : Dt X W c f) : Dts X W [c] f := let ⟨t, p, k⟩ := h; ⟨t, pts_one p, k⟩
section
variable {K : PySem.W.Frag} {mg : MG}
theorem wipe_len (ρ : Rho) : ∀ vs, (wipeR ρ vs).length = ρ.length
  | [] => rfl
  | v :: vs => by unfold wipeR; rw [List.length_set, wipe_len ρ vs]
theorem Slots.setN {G : Hp} {α : List Addr} {ρ : Rho} {σ : St} (S : Slots K mg G α ρ σ) (i : Nat) : Slots K mg G α (ρ.set i none) (σ.set i none) := by
  refine ⟨by simp [S.len], fun j y e => ?_⟩
  by_cases q : i = j
  · subst q
    by_cases hl : i < ρ.length
    · rw [List.getElem?_set_self hl] at e; cases e
    · rw [List.getElem?_eq_none (by simp; omega)] at e; cases e
  · rw [List.getElem?_set_ne q] at e
    obtain ⟨w, h1, h2⟩ := S.val j y e
    exact ⟨w, by rw [List.getElem?_set_ne q]; exact h1, h2⟩
theorem Slots.wipe {G : Hp} {α : List Addr} {ρ : Rho} {σ : St} (S : Slots K mg G α ρ σ) : ∀ vs, Slots K mg G α (wipeR ρ vs) (L2.wipe σ vs)
  | [] => S
  | v :: vs => by unfold wipeR L2.wipe; exact (Slots.wipe S vs).setN v
theorem wipe_get (σ : St) : ∀ (vs : List Nat) (j : Nat), (L2.wipe σ vs)[j]? = if j ∈ vs then (if j < σ.length then some none else none) else σ[j]?
  | [], j => by simp [L2.wipe]
  | v :: vs, j => by
    unfold L2.wipe
    by_cases q : v = j
    · subst q
      by_cases hl : v < σ.length
      · rw [List.getElem?_set_self (by rw [wipe_length]; exact hl)]
        simp [hl]
      · rw [List.getElem?_eq_none (by simp [wipe_length]; omega)]
        simp [hl]
    · rw [List.getElem?_set_ne q, wipe_get σ vs j]
      have : j ≠ v := fun z => q z.symm
      simp [this]
theorem wipe_same {σ σ' : St} {vs is : List Nat} (hs : ∀ i ∈ is, i ∈ vs) (h : ∀ j, j ∉ is → σ'[j]? = (L2.wipe σ vs)[j]?) (hl : σ'.length = (L2.wipe σ vs).length) : L2.wipe σ' vs = L2.wipe σ vs := by
  rw [wipe_length] at hl
  refine List.ext_getElem? fun j => ?_
  rw [wipe_get, hl]
  by_cases q : j ∈ vs
  · rw [if_pos q, wipe_get, if_pos q]
  · rw [if_neg q, h j fun z => q (hs j z)]
/-- the list that is made lies at L, apart from all else -/
structure Lies (K : PySem.W.Frag) (mg : MG) (G0 : Hp) (α0 : List Addr) (H0 : Hp) (L : Addr) (G : Hp) (α : List Addr) (ω : Om) (acc : List D) (H : Hp) : Prop where
  ext : Ext G0 α0 H0 G α H
  own : Own K mg G α ω H
  gl : G L = none
  na : L ∉ α
  at_ : ∃ vsa, H L = some (.lst vsa) ∧ Reps K mg G acc vsa
theorem Lies.step {G0 H0 G H G1 H1 : Hp} {α0 α α1 : List Addr} {L : Addr} {ω ω1 : Om} {acc : List D} (B : Lies K mg G0 α0 H0 L G α ω acc H) (e : Ext G α H G1 α1 H1) (O : Own K mg G1 α1 ω1 H1) : Lies K mg G0 α0 H0 L G1 α1 ω1 acc H1 := by
  obtain ⟨vsa, h1, h2⟩ := B.at_
  obtain ⟨more, e1, e2⟩ := e.pre
  refine ⟨B.ext.trans e, O, ?_, ?_, vsa, e.keep L _ h1 B.na, Reps.mono e.g _ _ h2⟩
  · cases q : G1 L with
    | none => rfl
    | some o =>
      rcases e.new L o q with z | z | z
      · rw [B.gl] at z; cases z
      · rw [h1] at z; cases z
      · exact absurd z B.na
  · rw [e1]
    intro z
    rcases List.mem_append.mp z with z | z
    · exact B.na z
    · rw [e2 L z] at h1; cases h1
theorem Ext.setL {G H G1 H1 : Hp} {α α1 : List Addr} {L : Addr} {o : HO} (e : Ext G α H G1 α1 H1) (hL : H L = none) : Ext G α H G1 α1 (L2.upd H1 L o) :=
  ⟨e.g, e.new, fun a u h n => by rw [upd_ne (ne_of_none h hL)]; exact e.keep a u h n, fun a u h => by rw [upd_ne (ne_of_none h hL)]; exact e.live a u h, e.pre⟩
theorem Own.setL {G H : Hp} {α : List Addr} {ω : Om} {L : Addr} {o : HO} (O : Own K mg G α ω H) (hg : G L = none) (na : L ∉ α) : Own K mg G α ω (L2.upd H L o) := by
  refine ⟨fun b u h => by rw [upd_ne (ne_of_none h hg)]; exact O.sub b u h, O.len, O.nd, fun a ha => ?_, fun k u a h1 h2 => ?_⟩
  · rw [upd_ne (fun z => na (by rw [← z]; exact ha))]
    exact O.ex a ha
  · obtain ⟨q1, q2⟩ := O.obj k u a h1 h2
    have : a ≠ L := fun z => na (by rw [← z]; exact List.mem_of_getElem? h2)
    exact ⟨q1, q2.mono (Same.refl _) (upd_ne this)⟩
theorem Lies.set {G0 H0 G H : Hp} {α0 α : List Addr} {L : Addr} {ω : Om} {acc acc' : List D} {vs : List V} (B : Lies K mg G0 α0 H0 L G α ω acc H) (h0 : H0 L = none) (r : Reps K mg G acc' vs) : Lies K mg G0 α0 H0 L G α ω acc' (L2.upd H L (.lst vs)) :=
  ⟨B.ext.setL h0, B.own.setL B.gl B.na, B.gl, B.na, vs, upd_same, r⟩
theorem Lies.freeze {G0 H0 G H : Hp} {α0 α : List Addr} {L : Addr} {ω : Om} {acc : List D} (B : Lies K mg G0 α0 H0 L G α ω acc H) (h0 : H0 L = none) : ∃ G', Ext G0 α0 H0 G' α H ∧ Own K mg G' α ω H ∧ Rep K mg G' (.lst acc) (.ref L) := by
  obtain ⟨vsa, h1, h2⟩ := B.at_
  have sg : Same G (L2.upd G L (.lst vsa)) := Same.upd B.gl
  refine ⟨L2.upd G L (.lst vsa), ⟨B.ext.g.trans sg, fun a o h => ?_, B.ext.keep, B.ext.live, B.ext.pre⟩, ⟨fun b u h => ?_, B.own.len, B.own.nd, B.own.ex, fun k u a h3 h4 => ?_⟩, rep_newL (H := H) B.gl h2⟩
  · by_cases z : a = L
    · subst z; exact .inr (.inl h0)
    · rw [upd_ne z] at h; exact B.ext.new a o h
  · by_cases z : b = L
    · subst z; rw [upd_same] at h; cases h; exact h1
    · rw [upd_ne z] at h; exact B.own.sub b u h
  · obtain ⟨q1, q2⟩ := B.own.obj k u a h3 h4
    have : a ≠ L := fun z => B.na (by rw [← z]; exact List.mem_of_getElem? h4)
    exact ⟨by rw [upd_ne this]; exact q1, q2.mono sg rfl⟩
theorem lc_post {tg : TG} {fg : FG} {is vs : List Nat} {tt : TT} {ft : FE Bool} {te : TE} {fe : FE D} {J : It} {ds : List D} {G0 H : Hp} {α0 : List Addr} {ρ : Rho} {ω : Om} {σ : St} {Q : VK} {E : XK} (hsub : ∀ i ∈ is, i ∈ vs)
    (kg : ∀ G α ρ σ H d v (Q : St → Hp → Prop), Same G H → Slots K mg G α ρ σ → Rep K mg G d v →
      (match fg d ρ with
        | none => False
        | some ρ' => ∀ σ', Slots K mg G α ρ' σ' → (∀ j, j ∉ is → σ'[j]? = σ[j]?) → σ'.length = σ.length → Q σ' H) → tg v σ H Q)
    (kt : ∀ G α ρ ω σ H Q, Own K mg G α ω H → Slots K mg G α ρ σ → Post K mg RB G α H Q (fun _ _ _ => False) (ft ρ ω) → tt σ H Q)
    (ke : ∀ G α ρ ω σ H Q, Own K mg G α ω H → Slots K mg G α ρ σ → Post K mg (RD K mg) G α H Q (fun _ _ _ => False) (fe ρ ω) → te σ H Q)
    (wk : WalkD K mg (fun G' _ => Same G0 G') J ds) (O : Own K mg G0 α0 ω H) (S : Slots K mg G0 α0 ρ σ) (P : Post K mg (RD K mg) G0 α0 H Q E (lcL fg ft fe (wipeR ρ vs) ds [] ω)) (L : Addr) (hL : H L = none) :
    ∃ Wv : Nat → Nat → Hp → Prop, (∃ m, Wv 0 m (L2.upd H L (.lst []))) ∧ ∀ i m H, Wv i m H →
      (J.stop i H ∧ Q (.ref L) H) ∨ (J.go i H ∧ ∃ Nx : Hp → Prop, (∀ H', Nx H' → ∃ m', m' < m ∧ Wv (i + 1) m' H') ∧ ∀ x H', J.yld i H x H' → tg x (L2.wipe σ vs) H' fun σ2 H2 => L2.wipe σ2 vs = L2.wipe σ vs ∧ tt σ2 H2 fun b H3 =>
        if b = true then te σ2 H3 fun y H4 => ∃ acc, H4 L = some (.lst acc) ∧ acc.length < sizeLine ∧ Nx (L2.upd H4 L (.lst (acc ++ [y]))) else Nx H3) := by
  have hnα : L ∉ α0 := fun z => by obtain ⟨o, h⟩ := O.ex L z; rw [hL] at h; cases h
  refine ⟨fun i m H' => m = ds.length - i ∧ i ≤ ds.length ∧ ∃ G α ω acc, Lies K mg G0 α0 H L G α ω acc H' ∧ Post K mg (RD K mg) G0 α0 H Q E (lcL fg ft fe (wipeR ρ vs) (ds.drop i) acc ω), ⟨_, rfl, Nat.zero_le _, G0, α0, ω, [], ⟨?_, ?_, O.sub.free hL, hnα, [], upd_same, reps_nil.mpr rfl⟩, P⟩, ?_⟩
  · exact (Grow.side (o := .lst []) O.sub hL).ext
  · exact O.grow (Grow.side O.sub hL)
  rintro i m H' ⟨rfl, hi, G, α, ω, acc, B, P⟩
  obtain ⟨w1, w2⟩ := wk i G H' B.own.sub B.ext.g
  by_cases hlt : i < ds.length
  · refine .inr ?_
    obtain ⟨go, yl⟩ := w1 ds[i] (List.getElem?_eq_getElem hlt)
    refine ⟨go, fun H' => ∃ G α ω acc, Lies K mg G0 α0 H L G α ω acc H' ∧ Post K mg (RD K mg) G0 α0 H Q E (lcL fg ft fe (wipeR ρ vs) (ds.drop (i + 1)) acc ω), fun H' q => ⟨ds.length - (i + 1), by omega, rfl, hlt, q⟩, fun x H1 y => ?_⟩
    obtain ⟨G1, gr, r1⟩ := yl x H1 y
    have B1 := B.step (gr.ext (α := α)) (B.own.grow gr)
    rw [List.drop_eq_getElem_cons hlt] at P
    unfold lcL at P
    have S1 : Slots K mg G1 α (wipeR ρ vs) (L2.wipe σ vs) := (S.mono B1.ext).wipe vs
    refine kg G1 α _ _ H1 _ x _ B1.own.sub S1 r1 ?_
    cases q : fg ds[i] (wipeR ρ vs) with
    | none => rw [q] at P; exact P.elim
    | some ρ1 =>
      rw [q] at P
      intro σ2 S2 c2 l2
      refine ⟨wipe_same hsub c2 l2, kt G1 α ρ1 ω σ2 H1 _ B1.own S2 ?_⟩
      dsimp only at P
      cases q2 : ft ρ1 ω with
      | stuck => rw [q2] at P; exact P.elim
      | exc x ω1 => rw [q2] at P; exact P.elim
      | ok b ω1 =>
        rw [q2] at P
        intro b' G2 α2 H2 e2 O2 r2
        cases r2
        have B2 := B1.step e2 O2
        cases b with
        | false => exact iteF ⟨G2, α2, ω1, acc, B2, P⟩
        | true =>
          refine iteT (ke G2 α2 ρ1 ω1 σ2 H2 _ O2 (S2.mono e2) ?_)
          dsimp only at P
          cases q3 : fe ρ1 ω1 with
          | stuck => rw [q3] at P; exact P.elim
          | exc x ω2 => rw [q3] at P; exact P.elim
          | ok yd ω2 =>
            rw [q3] at P
            dsimp only at P
            split at P
            · rename_i hlim
              intro v G3 α3 H3 e3 O3 r3
              have B3 := B2.step e3 O3
              obtain ⟨vsa, h5, h6⟩ := B3.at_
              exact ⟨vsa, h5, by rw [lim_eq, h6.length]; exact hlim, G3, α3, ω2, acc ++ [yd], B3.set hL (h6.append (Reps.one r3)), P⟩
            · exact P.elim
  · have e : i = ds.length := by omega
    subst e
    rw [List.drop_length] at P
    obtain ⟨G', e', O', r'⟩ := B.freeze hL
    exact .inl ⟨w2 (Nat.le_refl _), P _ G' α H' e' O' r'⟩
end
/-! ### the one reading of a denotation -/
def tcE (K : PySem.W.Frag) (mg : MG) (W : WX) (f : FE D) : TE := fun σ H Q => ∃ G α ρ ω, Own K mg G α ω H ∧ Slots K mg G α ρ σ ∧ Post K mg (RD K mg) G α H Q (fun c d H' => W c d σ H') (f ρ ω)
def tcT (K : PySem.W.Frag) (mg : MG) (W : WX) (f : FE Bool) : TT := fun σ H Q => ∃ G α ρ ω, Own K mg G α ω H ∧ Slots K mg G α ρ σ ∧ Post K mg RB G α H Q (fun c d H' => W c d σ H') (f ρ ω)
def tcG (K : PySem.W.Frag) (mg : MG) (is : List Nat) (f : FG) : TG := fun v σ H Q => ∃ G α ρ d, Same G H ∧ Slots K mg G α ρ σ ∧ Rep K mg G d v ∧
  (match f d ρ with
    | none => False
    | some ρ' => ∀ σ', Slots K mg G α ρ' σ' → (∀ j, j ∉ is → σ'[j]? = σ[j]?) → σ'.length = σ.length → Q σ' H)
def tcI (K : PySem.W.Frag) (mg : MG) (W : WX) (f : FE (List D)) : TI := fun σ H R => ∃ G α ρ ω, Own K mg G α ω H ∧ Slots K mg G α ρ σ ∧ Post K mg (RI K mg) G α H R (fun c d H' => W c d σ H') (f ρ ω)
theorem can_e {X : Cx} {W : WX} {e : Expr} {f : FE D} (h : De X W e f) : PE X e (tcE X.K X.mg W f) := by
  obtain ⟨t, p, k⟩ := h
  exact ⟨fun pins s σ H Q I ⟨G, α, ρ, ω, O, S, P⟩ => p.run pins s σ H Q I (k G α ρ ω σ H Q O S P)⟩
theorem can_ts {X : Cx} {W : WX} {es : List Expr} {f : FE Bool} (h : Dts X W es f) : PTs X es (tcT X.K X.mg W f) := by
  obtain ⟨t, p, k⟩ := h
  exact ⟨fun pins s σ H Q I ⟨G, α, ρ, ω, O, S, P⟩ => p.run pins s σ H Q I (k G α ρ ω σ H Q O S P)⟩
theorem can_g {X : Cx} {e : Expr} {is : List Nat} {f : FG} (h : Dg X e is f) : PG X e (tcG X.K X.mg is f) := by
  obtain ⟨t, p, k⟩ := h
  exact ⟨fun pins s σ H v u Q I r ⟨G, α, ρ, d, h1, S, r1, P⟩ => p.run pins s σ H v u Q I r (k G α ρ σ H d v Q h1 S r1 P)⟩
theorem can_i {X : Cx} {W : WX} {tg e : Expr} {f : FE (List D)} (h : Di X W tg e f) : PI X tg e (tcI X.K X.mg W f) := by
  obtain ⟨t, p, k⟩ := h
  exact ⟨fun pins s σ H Q I ⟨G, α, ρ, ω, O, S, P⟩ => p.run pins s σ H Q I (k G α ρ ω σ H Q O S P)⟩
section
variable {X : Cx} {W : WX} {pos : Pos}
theorem lc_read {K : PySem.W.Frag} {mg : MG} {wi : TI} {vs is : List Nat} {fi : FE (List D)} {fg : FG} {ft : FE Bool} {fe : FE D} (hsub : ∀ i ∈ is, i ∈ vs)
    (ki : ∀ G α ρ ω σ H (R : It → Hp → Prop), Own K mg G α ω H → Slots K mg G α ρ σ → Post K mg (RI K mg) G α H R (fun c d H' => W c d σ H') (fi ρ ω) → wi σ H R)
    (G α ρ ω σ H Q) (O : Own K mg G α ω H) (S : Slots K mg G α ρ σ) (P : Post K mg (RD K mg) G α H Q (fun c d H' => W c d σ H') (eLc vs fi fg ft fe ρ ω)) : tLc wi (tcG K mg is fg) (tcT K mg W0 ft) (tcE K mg W0 fe) vs σ H Q := by
  refine Post.step (t := wi σ H) (ki G α ρ ω σ H · O S) P fun ds ω1 J G1 α1 H1 e1 O1 w1 P1 => ?_
  intro L hL
  exact lc_post hsub (fun G α ρ σ H d v Q s S r h => ⟨G, α, ρ, d, s, S, r, h⟩) (fun G α ρ ω σ H Q O S P => ⟨G, α, ρ, ω, O, S, P⟩) (fun G α ρ ω σ H Q O S P => ⟨G, α, ρ, ω, O, S, P⟩) w1 O1 (S.mono e1) P1 L hL
theorem de_lc {elt tg iter : Expr} {ifs : List Expr} {scope : Scope} {own : List (Str × Nat)} {is : List Nat} {fi : FE (List D)} {fg : FG} {ft : FE Bool} {fe : FE D} (hc : X.calm = true) (hN : X.N.Nodup) (hi : Di X W tg iter fi) (ok : BlkOk X.N X.env.scope scope own)
    (hg : ∀ (s : Shared) (H : Hp) (C : Addr) (cl : List (Str × Addr)) (fp : List Addr), Dg (X.blk s H scope (compEnvC scope cl C X.env) fp) tg is fg) (ht : ∀ (s : Shared) (H : Hp) (C : Addr) (cl : List (Str × Addr)) (fp : List Addr), Dts (X.blk s H scope (compEnvC scope cl C X.env) fp) W0 ifs ft)
    (he : ∀ (s : Shared) (H : Hp) (C : Addr) (cl : List (Str × Addr)) (fp : List Addr), De (X.blk s H scope (compEnvC scope cl C X.env) fp) W0 elt fe) (hsub : ∀ i ∈ is, i ∈ own.map (·.2)) (hs : ∀ x, foldedSetIterable iter X.env x = pure x := by intro _; rfl) :
    De X W (.ListComp elt [⟨tg, iter, ifs, 0⟩] scope pos) (eLc (own.map (·.2)) fi fg ft fe) := by
  obtain ⟨wi, pi, ki⟩ := hi
  exact ⟨_, pe_lc (g := tcG X.K X.mg is fg) (tt := tcT X.K X.mg W0 ft) (te := tcE X.K X.mg W0 fe) hc hN pi ok (fun s H C cl fp => can_g (hg s H C cl fp)) (fun s H C cl fp => can_ts (ht s H C cl fp)) (fun s H C cl fp => can_e (he s H C cl fp)) hs, lc_read hsub ki⟩
/-- y = [..] -/
theorem ds_setLc {i : Nat} {y : Str} {py spos : Pos} {elt tg iter : Expr} {ifs : List Expr} {scope : Scope} {own : List (Str × Nat)} {is : List Nat} {fi : FE (List D)} {fg : FG} {ft : FE Bool} {fe : FE D} (hc : X.calm = true) (hN : X.N.Nodup) (hsw : swapsWith (.ListComp elt [⟨tg, iter, ifs, 0⟩] scope pos) (some (.Name y py)) spos.line X.env = pure true) (hi : Di X W tg iter fi) (ok : BlkOk X.N X.env.scope scope own)
    (hg : ∀ (s : Shared) (H : Hp) (C : Addr) (cl : List (Str × Addr)) (fp : List Addr), Dg (X.blk s H scope (compEnvC scope cl C X.env) fp) tg is fg) (ht : ∀ (s : Shared) (H : Hp) (C : Addr) (cl : List (Str × Addr)) (fp : List Addr), Dts (X.blk s H scope (compEnvC scope cl C X.env) fp) W0 ifs ft)
    (he : ∀ (s : Shared) (H : Hp) (C : Addr) (cl : List (Str × Addr)) (fp : List Addr), De (X.blk s H scope (compEnvC scope cl C X.env) fp) W0 elt fe) (hsub : ∀ i ∈ is, i ∈ own.map (·.2)) (hy : X.N[i]? = some y := by rfl) (hyl : X.env.scope.names.lookup y = some .local := by rfl) (hs : ∀ x, foldedSetIterable iter X.env x = pure x := by intro _; rfl) :
    Ds X W (.Assign [.Name y py] (.ListComp elt [⟨tg, iter, ifs, 0⟩] scope pos) spos) (sSet i (eLc (own.map (·.2)) fi fg ft fe)) := by
  obtain ⟨wi, pi, ki⟩ := hi
  refine ⟨_, ps_setLc (g := tcG X.K X.mg is fg) (tt := tcT X.K X.mg W0 ft) (te := tcE X.K X.mg W0 fe) hc hN hy hyl hsw pi ok (fun s H C cl fp => can_g (hg s H C cl fp)) (fun s H C cl fp => can_ts (ht s H C cl fp)) (fun s H C cl fp => can_e (he s H C cl fp)) hs, fun G α ρ ω σ H D O S P => ?_⟩
  refine PostS.step S (t := tLc wi (tcG X.K X.mg is fg) (tcT X.K X.mg W0 ft) (tcE X.K X.mg W0 fe) (own.map (·.2)) σ H) (lc_read hsub ki G α ρ ω σ H · O S) P fun d ω1 v G1 α1 H1 e1 O1 r1 P1 => ?_
  exact P1.here_nx O1 ((S.mono e1).set i (x := .val d) r1)
end
end Dl
namespace Dl
open PySem L2

/-! ### own objects -/
section
variable {K : PySem.W.Frag} {mg : MG} {G H : Hp} {α : List Addr} {ω : Om}
theorem Own.na (O : Own K mg G α ω H) {p : Addr} (h : H p = none) : p ∉ α := fun z => by obtain ⟨o, q⟩ := O.ex p z; rw [h] at q; cases q
/-- a new own object -/
theorem Own.new {p : Addr} {u : HO} {o : OD} (O : Own K mg G α ω H) (hp : H p = none) (r : OwnAt K mg G (L2.upd H p u) p o) : Own K mg G (α ++ [p]) (ω ++ [some o]) (L2.upd H p u) ∧ Ext G α H G (α ++ [p]) (L2.upd H p u) := by
  have na := O.na hp
  refine ⟨⟨O.sub.trans (Same.upd hp), by simp [O.len], ?_, fun a ha => ?_, fun k o' a h1 h2 => ?_⟩, ⟨Same.refl _, fun _ _ h => .inl h, fun a o h _ => Same.upd hp a o h, fun a o h => ⟨o, Same.upd hp a o h⟩, [p], rfl, fun a ha => by rw [List.mem_singleton.mp ha]; exact hp⟩⟩
  · rw [List.nodup_append]
    refine ⟨O.nd, by simp, fun a ha b hb z => ?_⟩
    rw [List.mem_singleton.mp hb] at z
    exact na (z ▸ ha)
  · rcases List.mem_append.mp ha with h | h
    · obtain ⟨u', q⟩ := O.ex a h
      exact ⟨u', Same.upd hp a u' q⟩
    · rw [List.mem_singleton.mp h]; exact ⟨u, upd_same⟩
  · by_cases hk : k < ω.length
    · rw [List.getElem?_append_left hk] at h1
      rw [List.getElem?_append_left (by rw [O.len]; exact hk)] at h2
      obtain ⟨q1, q2⟩ := O.obj k o' a h1 h2
      have : a ≠ p := fun z => na (z ▸ List.mem_of_getElem? h2)
      exact ⟨q1, q2.mono (Same.refl _) (upd_ne this)⟩
    · have hk' : k = ω.length := by
        have := (List.getElem?_eq_some_iff.mp h1).1
        simp at this; omega
      subst hk'
      rw [List.getElem?_append_right (Nat.le_refl _)] at h1
      rw [List.getElem?_append_right (by rw [O.len]; exact Nat.le_refl _), O.len] at h2
      simp at h1 h2
      subst h1 h2
      exact ⟨O.sub.free hp, r⟩
/-- an own object changed -/
theorem Own.put {a : Addr} {k : Nat} {u : HO} {o o' : OD} (O : Own K mg G α ω H) (h1 : ω[k]? = some (some o)) (h2 : α[k]? = some a) (r : OwnAt K mg G (L2.upd H a u) a o') : Own K mg G α (ω.set k (some o')) (L2.upd H a u) ∧ Ext G α H G α (L2.upd H a u) := by
  have ma := List.mem_of_getElem? h2
  obtain ⟨hg, _⟩ := O.obj k o a h1 h2
  refine ⟨⟨fun b v h => ?_, by simp [O.len], O.nd, fun b hb => ?_, fun j o2 b h3 h4 => ?_⟩, ⟨Same.refl _, fun _ _ h => .inl h, fun b o h n => ?_, fun b o h => ?_, [], by simp, by simp⟩⟩
  · rw [upd_ne (ne_of_none h hg)]; exact O.sub b v h
  · by_cases z : b = a
    · subst z; exact ⟨u, upd_same⟩
    · rw [upd_ne z]; exact O.ex b hb
  · by_cases z : k = j
    · subst z
      rw [h2] at h4; cases h4
      rw [List.getElem?_set_self (List.getElem?_eq_some_iff.mp h1).1] at h3
      cases h3
      exact ⟨hg, r⟩
    · rw [List.getElem?_set_ne z] at h3
      obtain ⟨q1, q2⟩ := O.obj j o2 b h3 h4
      have : b ≠ a := fun y => z ((List.getElem?_inj (List.getElem?_eq_some_iff.mp h2).1 O.nd).mp (by rw [h2, h4, y]))
      exact ⟨q1, q2.mono (Same.refl _) (upd_ne this)⟩
  · rw [upd_ne (fun z : b = a => n (by rw [z]; exact ma))]; exact h
  · by_cases z : b = a
    · subst z; exact ⟨u, upd_same⟩
    · rw [upd_ne z]; exact ⟨o, h⟩
/-- an own object frozen -/
theorem Own.freeze {a : Addr} {k : Nat} {u : HO} {o : OD} (O : Own K mg G α ω H) (h1 : ω[k]? = some (some o)) (h2 : α[k]? = some a) (hu : H a = some u) : Own K mg (L2.upd G a u) α (ω.set k none) H ∧ Ext G α H (L2.upd G a u) α H ∧ G a = none := by
  have ma := List.mem_of_getElem? h2
  obtain ⟨hg, _⟩ := O.obj k o a h1 h2
  refine ⟨⟨fun b v h => ?_, by simp [O.len], O.nd, O.ex, fun j o2 b h3 h4 => ?_⟩, ⟨Same.upd hg, fun b v h => ?_, fun b o h n => h, fun b o h => ⟨o, h⟩, [], by simp, by simp⟩, hg⟩
  · by_cases z : b = a
    · subst z; rw [upd_same] at h; cases h; exact hu
    · rw [upd_ne z] at h; exact O.sub b v h
  · by_cases z : k = j
    · subst z
      rw [List.getElem?_set_self (List.getElem?_eq_some_iff.mp h1).1] at h3
      cases h3
    · rw [List.getElem?_set_ne z] at h3
      obtain ⟨q1, q2⟩ := O.obj j o2 b h3 h4
      have : b ≠ a := fun y => z ((List.getElem?_inj (List.getElem?_eq_some_iff.mp h2).1 O.nd).mp (by rw [h2, h4, y]))
      exact ⟨by rw [upd_ne this]; exact q1, q2.mono (Same.upd hg) rfl⟩
  · by_cases z : b = a
    · subst z; exact .inr (.inr ma)
    · rw [upd_ne z] at h; exact .inl h
theorem Own.nil (s : Same G H) : Own K mg G [] [] H := ⟨s, rfl, List.nodup_nil, by simp, by simp⟩
end
section
variable {X : Cx} {W : WX} {e : Expr} {fe : FE D} {pos : Pos}
/-- x = [..], x to be changed -/
def sNewL (i : Nat) (g : FE (List SV)) : FS := fun ρ ω => (g ρ ω).out ρ fun xs ω1 => match allD xs with
  | some ds => if xs.length ≤ lim then .next (ρ.set i (some (.own ω1.length))) (ω1 ++ [some (.lst ds)]) else .stuck
  | none => .stuck
theorem ds_newL {i : Nat} {x : Str} {pos' p1 : Pos} {es : List Expr} {g : FE (List SV)} (hN : X.N.Nodup) (h : Da X W es g) (hi : X.N[i]? = some x := by rfl) (hx : Loc X.env.scope x := by first | exact Or.inl rfl | exact Or.inr rfl) (hs : swapsWith (.List es p1) (some (.Name x pos')) pos.line X.env = pure false := by rfl)
    (hf : X.fn x = true ∨ X.env.scope.names.lookup x = some .local := by first | exact .inl rfl | exact .inr rfl) : Ds X W (.Assign [.Name x pos'] (.List es p1) pos) (sNewL i g) := by
  obtain ⟨t, p, k⟩ := h
  refine ⟨_, ps_set hN hi hx (pe_lst p) hs hf, fun G α ρ ω σ H D O S P => ?_⟩
  refine PostS.step S (t := t σ H) (k G α ρ ω σ H · O S) P fun xs ω1 vs G1 α1 H1 e1 O1 r1 P1 => ?_
  cases q : allD xs with
  | none => rw [q] at P1; exact P1.elim
  | some ds =>
    rw [q] at P1
    dsimp only at P1
    split at P1
    · rename_i hl
      have hr := allD_reps q r1
      refine ⟨by rw [lim_eq, ← RepVs.length r1]; exact hl, fun a ha => ?_⟩
      obtain ⟨O2, e2⟩ := O1.new (u := .lst vs) (o := .lst ds) ha ⟨vs, upd_same, hr⟩
      refine P1 _ G1 _ _ e2 O2 (((S.mono e1).mono e2).set i ⟨a, ?_, rfl⟩)
      rw [← O1.len, List.getElem?_append_right (Nat.le_refl _)]
      simp
    · exact P1.elim
/-- x.append(e) -/
def ownK (ρ : Rho) (i : Nat) : Option Nat := match ρ[i]? with
  | some (some (.own k)) => some k
  | _ => none
def ownL (ω : Om) (k : Nat) : Option (List D) := match ω[k]? with
  | some (some (.lst ds)) => some ds
  | _ => none
theorem ownK_eq {ρ : Rho} {i k : Nat} (h : ownK ρ i = some k) : ρ[i]? = some (some (.own k)) := by
  unfold ownK at h
  split at h
  · rename_i k' e; cases h; exact e
  · cases h
theorem ownL_eq {ω : Om} {k : Nat} {ds : List D} (h : ownL ω k = some ds) : ω[k]? = some (some (.lst ds)) := by
  unfold ownL at h
  split at h
  · rename_i k' e; cases h; exact e
  · cases h
def sApp (i : Nat) (f : FE D) : FS := fun ρ ω => match ownK ρ i with
  | none => .stuck
  | some k => match ownL ω k with
    | none => .stuck
    | some _ => (f ρ ω).out ρ fun d ω1 => match ownL ω1 k with
      | none => .stuck
      | some ds => if ds.length < lim then .next ρ (ω1.set k (some (.lst (ds ++ [d])))) else .stuck
theorem ds_app (i : Nat) {x : Str} {p1 p2 p3 p4 : Pos} (h : De X W e fe) (hN : X.N[i]? = some x := by rfl) (hv : Vis X.env.scope x := by first | exact Or.inl rfl | exact Or.inr (Or.inl rfl) | exact Or.inr (Or.inr rfl)) (hd : (x == ("__debug__" : Str)) = false := by decide)
    (hcd : (x == ("__classdict__" : Str)) = false := by decide) (hs2 : starEach (e :: []) X.env = (false, eval e X.env) :: starEach [] X.env := by rfl)
    (hsw : swapsWith (.Call (.Attribute (.Name x p1) "append" p2) [e] [] p3) none p4.line X.env = pure false := by rfl)
    (hpe : ∀ (to t : _), PE X (.Name x p1) to → PA X [e] t → PE X (.Call (.Attribute (.Name x p1) "append" p2) [e] [] p3) (tBM X.K "list" rAppend to t) := by
      intro to t ho ha
      exact pe_bm PySem.F.plainAttrs_list PySem.F.slot_list_append PySem.F.type_list_append mt_append ho ha) :
    Ds X W (.Expr (.Call (.Attribute (.Name x p1) "append" p2) [e] [] p3) p4) (sApp i fe) := by
  obtain ⟨t, p, k⟩ := h
  refine ⟨_, ps_expr (hpe _ _ (pe_var hN hv hd hcd) (pa_cons p pa_nil hs2)) hsw, fun G α ρ ω σ H D O S P => ?_⟩
  unfold sApp at P
  cases q1 : ownK ρ i with
  | none => rw [q1] at P; exact P.elim
  | some kk =>
    rw [q1] at P; dsimp only at P
    cases q2 : ownL ω kk with
    | none => rw [q2] at P; exact P.elim
    | some ds0 =>
      rw [q2] at P; dsimp only at P
      obtain ⟨v, h1, a, h2, rfl⟩ := S.val i _ (ownK_eq q1)
      obtain ⟨_, vs0, h3, _⟩ := O.obj kk _ a (ownL_eq q2) h2
      refine ⟨_, h1, .inl ⟨rfl, vs0, SqL.of h3⟩, ?_⟩
      refine PostS.step S (t := t σ H) (k G α ρ ω σ H · O S) P fun d ω1 v1 G1 α1 H1 e1 O1 r1 P1 => ?_
      cases q3 : ownL ω1 kk with
      | none => rw [q3] at P1; exact P1.elim
      | some ds =>
        rw [q3] at P1; dsimp only at P1
        split at P1
        · rename_i hl
          obtain ⟨more, e2, _⟩ := e1.pre
          have h2' : α1[kk]? = some a := by rw [e2, List.getElem?_append_left (List.getElem?_eq_some_iff.mp h2).1]; exact h2
          obtain ⟨_, vs, h5, h6⟩ := O1.obj kk _ a (ownL_eq q3) h2'
          refine ⟨a, vs, v1, rfl, rfl, h5, by rw [lim_eq, h6.length]; exact hl, ?_⟩
          obtain ⟨O2, e3⟩ := O1.put (u := .lst (vs ++ [v1])) (o' := .lst (ds ++ [d])) (ownL_eq q3) h2' ⟨_, upd_same, h6.append (Reps.one r1)⟩
          exact P1 _ G1 α1 _ e3 O2 ((S.mono e1).mono e3)
        · exact P1.elim
/-- x[i] = e of an own list -/
def sSetIx (i : Nat) (fi fe : FE D) : FS := fun ρ ω => (fe ρ ω).out ρ fun d ω1 => match ownK ρ i with
  | none => .stuck
  | some k => (fi ρ ω1).out ρ fun z ω2 => match z, ownL ω2 k with
    | .int n, some ds => match ixN ds.length n with
      | some j => .next ρ (ω2.set k (some (.lst (ds.set j d))))
      | none => .stuck
    | _, _ => .stuck
theorem ds_setIx (i : Nat) {x : Str} {p1 p2 : Pos} {ei : Expr} {fi : FE D} (hi : De X W ei fi) (h : De X W e fe) (hN : X.N[i]? = some x := by rfl) (hv : Vis X.env.scope x := by first | exact Or.inl rfl | exact Or.inr (Or.inl rfl) | exact Or.inr (Or.inr rfl)) (hd : (x == ("__debug__" : Str)) = false := by decide)
    (hcd : (x == ("__classdict__" : Str)) = false := by decide) (hs : swapsWithSole [.Subscript (.Name x p1) ei p2] e pos.line X.env = pure false := by rfl) (hw : swappedStores [.Subscript (.Name x p1) ei p2] e X.env = pure none := by rfl)
    (h1 : (assignEach [.Subscript (.Name x p1) ei p2] X.env).map (·.2) = [assign (.Subscript (.Name x p1) ei p2) X.env] := by rfl)
    (ha : ∀ v, assign (.Subscript (.Name x p1) ei p2) X.env v = (do
      let ov ← holding [v] (eval (.Name x p1) X.env)
      let iv ← holding [v, ov] (eval ei X.env)
      standAt p2
      holding [v, ov, iv] (setItem ov iv v)
      release [v, ov, iv] []) := by intro _; rfl) : Ds X W (.Assign [.Subscript (.Name x p1) ei p2] e pos) (sSetIx i fi fe) := by
  obtain ⟨t, p, k⟩ := h
  obtain ⟨ti, pi, ki⟩ := hi
  refine ⟨_, ps_asg p (pg_sub (pe_var hN hv hd hcd) pi set_list ha) hs hw h1, fun G α ρ ω σ H D O S P => ?_⟩
  refine PostS.step S (t := t σ H) (k G α ρ ω σ H · O S) P fun d ω1 v1 G1 α1 H1 e1 O1 r1 P1 => ?_
  cases q1 : ownK ρ i with
  | none => rw [q1] at P1; exact P1.elim
  | some kk =>
    rw [q1] at P1; dsimp only at P1
    obtain ⟨v, h1, a, h2, rfl⟩ := (S.mono e1).val i _ (ownK_eq q1)
    refine ⟨_, h1, ?_⟩
    refine PostS.step (S.mono e1) (t := ti σ H1) (ki G1 α1 ρ ω1 σ H1 · O1 (S.mono e1)) P1 fun z ω2 v2 G2 α2 H2 e2 O2 r2 P2 => ?_
    cases z with
    | int n =>
      cases q3 : ownL ω2 kk with
      | none => rw [q3] at P2; exact P2.elim
      | some ds =>
        rw [q3] at P2; dsimp only at P2
        cases q4 : ixN ds.length n with
        | none => rw [q4] at P2; exact P2.elim
        | some j =>
          rw [q4] at P2; dsimp only at P2
          obtain ⟨more, e3, _⟩ := e2.pre
          have h2' : α2[kk]? = some a := by rw [e3, List.getElem?_append_left (List.getElem?_eq_some_iff.mp h2).1]; exact h2
          obtain ⟨_, vs, h5, h6⟩ := O2.obj kk _ a (ownL_eq q3) h2'
          have r2' : v2 = .int n := rep_int.mp (show Rep X.K X.mg G2 (.int n) v2 from r2)
          refine ⟨a, vs, n, j, rfl, r2', h5, by rw [h6.length]; exact q4, ?_⟩
          obtain ⟨O3, e4⟩ := O2.put (u := .lst (vs.set j v1)) (o' := .lst (ds.set j d)) (ownL_eq q3) h2' ⟨_, upd_same, h6.set (Rep.mono e2.g _ _ r1) j⟩
          exact P2 _ G2 α2 _ e4 O3 (((S.mono e1).mono e2).mono e4)
    | _ => exact P2.elim
/-- return x, an own list: it is changed no more -/
def sRetL (i : Nat) : FS := fun ρ ω => match ownK ρ i with
  | none => .stuck
  | some k => match ownL ω k with
    | none => .stuck
    | some ds => .ret (.val (.lst ds)) (ω.set k none)
theorem ds_retL (i : Nat) {x : Str} {p1 : Pos} (hN : X.N[i]? = some x := by rfl) (hv : Vis X.env.scope x := by first | exact Or.inl rfl | exact Or.inr (Or.inl rfl) | exact Or.inr (Or.inr rfl)) (hd : (x == ("__debug__" : Str)) = false := by decide)
    (hcd : (x == ("__classdict__" : Str)) = false := by decide) : Ds X W (.Return (some (.Name x p1)) pos) (sRetL i) := by
  refine ⟨_, ps_ret (pe_var hN hv hd hcd), fun G α ρ ω σ H D O S P => ?_⟩
  unfold sRetL at P
  cases q1 : ownK ρ i with
  | none => rw [q1] at P; exact P.elim
  | some kk =>
    rw [q1] at P; dsimp only at P
    cases q2 : ownL ω kk with
    | none => rw [q2] at P; exact P.elim
    | some ds =>
      rw [q2] at P; dsimp only at P
      obtain ⟨v, h1, a, h2, rfl⟩ := S.val i _ (ownK_eq q1)
      obtain ⟨_, vs, h3, h4⟩ := O.obj kk _ a (ownL_eq q2) h2
      obtain ⟨O2, e2, hg⟩ := O.freeze (ownL_eq q2) h2 h3
      exact ⟨_, h1, P _ _ α H e2 O2 (rep_newL (H := H) hg h4)⟩
/-- an own list frozen where it stands: x = y, y changed no more -/
def sFz (i j : Nat) : FS := fun ρ ω => match ownK ρ j with
  | none => .stuck
  | some k => match ownL ω k with
    | none => .stuck
    | some ds => .next ((ρ.set j (some (.val (.lst ds)))).set i (some (.val (.lst ds)))) (ω.set k none)
end
end Dl
namespace Dl
open PySem L2

/-! ### built-ins by their names -/
def Cop (K : PySem.W.Frag) (mg : MG) (r : List V → Hp → VK → Prop) (op : List D → Option D) : Prop :=
  ∀ G H ds d vs Q, Same G H → op ds = some d → Reps K mg G ds vs → (∀ v G' H', Grow G H G' H' → Rep K mg G' d v → Q v H') → r vs H Q
def CopL (K : PySem.W.Frag) (mg : MG) (r : List V → Hp → VK → Prop) (op : List D → Option D) : Prop :=
  ∀ G H ds d a vs Q, Same G H → op ds = some d → SqL K H a vs → Reps K mg G ds vs → (∀ v G' H', Grow G H G' H' → Rep K mg G' d v → Q v H') → r [.ref a] H Q
def eCallB (op : List D → Option D) (g : FE (List SV)) : FE D := fun ρ ω => (g ρ ω).bind fun xs ω1 => Res.lift ((allD xs).bind op) ω1
def eOnL (op : List D → Option D) (g : FE (List D)) : FE D := fun ρ ω => (g ρ ω).bind fun ds ω1 => Res.lift (op ds) ω1
section
variable {X : Cx} {W : WX} {x : Str} {e : Expr} {es : List Expr} {p pos : Pos} {r : List V → Hp → VK → Prop} {op : List D → Option D} {g : FE (List SV)} {gl : FE (List D)}
theorem cb_post {t : TA} {K : PySem.W.Frag} {mg : MG} (B : Cop K mg r op)
    (k : ∀ G α ρ ω σ H Q, Own K mg G α ω H → Slots K mg G α ρ σ → Post K mg (RA K mg) G α H Q (fun c d H' => W c d σ H') (g ρ ω) → t σ H Q)
    (G α ρ ω σ H Q) (O : Own K mg G α ω H) (S : Slots K mg G α ρ σ) (P : Post K mg (RD K mg) G α H Q (fun c d H' => W c d σ H') (eCallB op g ρ ω)) : tCB r t σ H Q := by
  refine Post.step (t := t σ H) (k G α ρ ω σ H · O S) P fun xs ω1 vs G1 α1 H1 e1 O1 r1 P1 => ?_
  obtain ⟨d, e2, P2⟩ := P1.lift
  cases q : allD xs with
  | none => rw [q] at e2; cases e2
  | some ds =>
    rw [q] at e2
    exact B G1 H1 ds d vs Q O1.sub e2 (allD_reps q r1) fun v G' H' gr q => Post.grow O1 gr q P2
theorem de_callB {id : String} (hm : X.mg x = none) (hc : CallR X (.builtin id) r) (B : Cop X.K X.mg r op) (h : Da X W (e :: es) g) (hv : bootBuiltins x = some (.builtin id) := by decide +kernel) (hg : Gl X x := by rfl) (hn : x ≠ "__name__" := by decide) (hdb : (x == ("__debug__" : Str)) = false := by decide)
    (he : starEach (e :: es) X.env = (false, eval e X.env) :: starEach es X.env := by rfl) (hpl : (backTo pos (starEach es X.env)).any (·.1) = false := by rfl) : De X W (.Call (.Name x p) (e :: es) [] pos) (eCallB op g) := by
  obtain ⟨t, p, k⟩ := h
  exact ⟨_, pe_callB hc hg hm hv p hn hdb he hpl, cb_post B k⟩
theorem de_callTy {T : String} (hm : X.mg x = none) (hc : CallR X (.type T) r) (B : Cop X.K X.mg r op) (h : Da X W (e :: es) g) (hv : bootBuiltins x = some (.type T) := by decide +kernel) (hg : Gl X x := by rfl) (hn : x ≠ "__name__" := by decide) (hdb : (x == ("__debug__" : Str)) = false := by decide)
    (he : starEach (e :: es) X.env = (false, eval e X.env) :: starEach es X.env := by rfl) (hpl : (backTo pos (starEach es X.env)).any (·.1) = false := by rfl) : De X W (.Call (.Name x p) (e :: es) [] pos) (eCallB op g) := by
  obtain ⟨t, p, k⟩ := h
  exact ⟨_, pe_callTy hc hg hm hv p hn hdb he hpl, cb_post B k⟩
theorem cbL_post {t : TE} {K : PySem.W.Frag} {mg : MG} (B : CopL K mg r op)
    (k : ∀ G α ρ ω σ H Q, Own K mg G α ω H → Slots K mg G α ρ σ → Post K mg (RL K mg) G α H Q (fun c d H' => W c d σ H') (gl ρ ω) → t σ H Q)
    (G α ρ ω σ H Q) (O : Own K mg G α ω H) (S : Slots K mg G α ρ σ) (P : Post K mg (RD K mg) G α H Q (fun c d H' => W c d σ H') (eOnL op gl ρ ω)) : tCB r (tCons t tNil) σ H Q := by
  refine Post.step (t := t σ H) (Q1 := fun y H1 => r [y] H1 Q) (k G α ρ ω σ H · O S) P fun ds ω1 v G1 α1 H1 e1 O1 r1 P1 => ?_
  obtain ⟨d, e2, P2⟩ := P1.lift
  obtain ⟨a, vs, rfl, h1, h2⟩ := r1
  exact B G1 H1 ds d a vs Q O1.sub e2 h1 h2 fun v G' H' gr q => Post.grow O1 gr q P2
theorem de_callBL {id : String} (hm : X.mg x = none) (hc : CallR X (.builtin id) r) (B : CopL X.K X.mg r op) (h : Dl X W e gl) (hv : bootBuiltins x = some (.builtin id) := by decide +kernel) (hg : Gl X x := by rfl) (hn : x ≠ "__name__" := by decide) (hdb : (x == ("__debug__" : Str)) = false := by decide)
    (he : starEach (e :: []) X.env = (false, eval e X.env) :: starEach [] X.env := by rfl) (hpl : (backTo pos (starEach [] X.env)).any (·.1) = false := by rfl) : De X W (.Call (.Name x p) [e] [] pos) (eOnL op gl) := by
  obtain ⟨t, p, k⟩ := h
  exact ⟨_, pe_callB hc hg hm hv (pa_cons p pa_nil he) hn hdb he hpl, cbL_post B k⟩
theorem de_callTyL {T : String} (hm : X.mg x = none) (hc : CallR X (.type T) r) (B : CopL X.K X.mg r op) (h : Dl X W e gl) (hv : bootBuiltins x = some (.type T) := by decide +kernel) (hg : Gl X x := by rfl) (hn : x ≠ "__name__" := by decide) (hdb : (x == ("__debug__" : Str)) = false := by decide)
    (he : starEach (e :: []) X.env = (false, eval e X.env) :: starEach [] X.env := by rfl) (hpl : (backTo pos (starEach [] X.env)).any (·.1) = false := by rfl) : De X W (.Call (.Name x p) [e] [] pos) (eOnL op gl) := by
  obtain ⟨t, p, k⟩ := h
  exact ⟨_, pe_callTy hc hg hm hv (pa_cons p pa_nil he) hn hdb he hpl, cbL_post B k⟩
end
/-! the built-ins on data -/
def asBls : List D → Option (List Bool)
  | [] => some []
  | .bl b :: ds => (asBls ds).map (b :: ·)
  | _ :: _ => none
def asInts : List D → Option (List Int)
  | [] => some []
  | .int b :: ds => (asInts ds).map (b :: ·)
  | _ :: _ => none
def oLen : List D → Option D
  | [.tup ds] => some (.int ds.length)
  | [.lst ds] => some (.int ds.length)
  | [.str z] => if z.length ≤ lim then some (.int z.length) else none
  | _ => none
def oLenL (ds : List D) : Option D := some (.int ds.length)
def oAllL (ds : List D) : Option D := (asBls ds).map fun bs => .bl (bs.all id)
def oAnyL (ds : List D) : Option D := (asBls ds).map fun bs => .bl (bs.any id)
def oSumL (ds : List D) : Option D := (asInts ds).map fun ns => .int ns.sum
def oInt : List D → Option D
  | [.int i] => some (.int i)
  | [.bl b] => some (.int (if b then 1 else 0))
  | _ => none
def oTuple : List D → Option D
  | [.tup ds] => some (.tup ds)
  | [.lst ds] => some (.tup ds)
  | _ => none
def oTupleL (ds : List D) : Option D := some (.tup ds)
def oList : List D → Option D
  | [.tup ds] => some (.lst ds)
  | [.lst ds] => some (.lst ds)
  | _ => none
def oListL (ds : List D) : Option D := some (.lst ds)
def oMax : List D → Option D
  | [.int i, .int j] => some (.int (if j > i then j else i))
  | _ => none
def oMin : List D → Option D
  | [.int i, .int j] => some (.int (if j < i then j else i))
  | _ => none
section
variable {K : PySem.W.Frag} {mg : MG} {G H : Hp} {X : Cx}
theorem asBls_reps : ∀ {ds : List D} {bs : List Bool} {vs : List V}, asBls ds = some bs → Reps K mg G ds vs → vs = bs.map V.bl
  | [], bs, vs, e, r => by cases e; exact reps_nil.mp r
  | d :: ds, bs, vs, e, r => by
    rw [reps_cons] at r
    obtain ⟨v, rr, rfl, h1, h2⟩ := r
    cases d with
    | bl b =>
      unfold asBls at e
      cases q : asBls ds with
      | none => rw [q] at e; cases e
      | some bs' =>
        rw [q] at e; cases e
        rw [rep_bl] at h1
        rw [h1, asBls_reps q h2]; rfl
    | _ => cases e
theorem asInts_reps : ∀ {ds : List D} {bs : List Int} {vs : List V}, asInts ds = some bs → Reps K mg G ds vs → vs = bs.map V.int
  | [], bs, vs, e, r => by cases e; exact reps_nil.mp r
  | d :: ds, bs, vs, e, r => by
    rw [reps_cons] at r
    obtain ⟨v, rr, rfl, h1, h2⟩ := r
    cases d with
    | int b =>
      unfold asInts at e
      cases q : asInts ds with
      | none => rw [q] at e; cases e
      | some bs' =>
        rw [q] at e; cases e
        rw [rep_int] at h1
        rw [h1, asInts_reps q h2]; rfl
    | _ => cases e
theorem reps1 {d : D} {vs : List V} (r : Reps K mg G [d] vs) : ∃ v, vs = [v] ∧ Rep K mg G d v := by
  rw [reps_cons] at r
  obtain ⟨v, rr, rfl, h1, h2⟩ := r
  rw [reps_nil] at h2; subst h2
  exact ⟨v, rfl, h1⟩
theorem reps2 {d e : D} {vs : List V} (r : Reps K mg G [d, e] vs) : ∃ v u, vs = [v, u] ∧ Rep K mg G d v ∧ Rep K mg G e u := by
  rw [reps_cons] at r
  obtain ⟨v, rr, rfl, h1, h2⟩ := r
  obtain ⟨u, rfl, h3⟩ := reps1 h2
  exact ⟨v, u, rfl, h1, h3⟩
theorem cop_len : Cop K mg (fun xs H Q => ∃ x n, xs = [x] ∧ LenV K x H n ∧ Q (.int n) H) oLen := by
  intro G H ds d vs Q s e r k
  unfold oLen at e
  split at e
  · cases e
    obtain ⟨v, rfl, h1⟩ := reps1 r
    rw [rep_tup] at h1
    obtain ⟨a, us, rfl, q, h2⟩ := h1
    exact ⟨_, _, rfl, .inr ⟨us, Same.sqT s q, rfl⟩, k _ G H (Grow.refl s) (rep_int.mpr (by rw [h2.length]))⟩
  · cases e
    obtain ⟨v, rfl, h1⟩ := reps1 r
    rw [rep_lst] at h1
    obtain ⟨a, us, rfl, q, h2⟩ := h1
    exact ⟨_, _, rfl, .inl ⟨us, s.seq q, rfl⟩, k _ G H (Grow.refl s) (rep_int.mpr (by rw [h2.length]))⟩
  · split at e
    · rename_i hl
      cases e
      obtain ⟨v, rfl, h1⟩ := reps1 r
      rw [rep_str] at h1
      subst h1
      exact ⟨_, _, rfl, ⟨by rw [lim_eq]; exact hl, rfl⟩, k _ G H (Grow.refl s) (rep_int.mpr rfl)⟩
    · cases e
  · cases e
theorem copL_len : CopL K mg (fun xs H Q => ∃ x n, xs = [x] ∧ LenV K x H n ∧ Q (.int n) H) oLenL := by
  intro G H ds d a vs Q s e q r k
  cases e
  exact ⟨_, _, rfl, .inl ⟨vs, q, rfl⟩, k _ G H (Grow.refl s) (rep_int.mpr (by rw [r.length]))⟩
theorem copL_all : CopL K mg (rAll K) oAllL := by
  intro G H ds d a vs Q s e q r k
  unfold oAllL at e
  cases q1 : asBls ds with
  | none => rw [q1] at e; cases e
  | some bs =>
    rw [q1] at e; cases e
    have := asBls_reps q1 r
    subst this
    exact ⟨a, bs, rfl, q, k _ G H (Grow.refl s) (rep_bl.mpr rfl)⟩
theorem copL_any : CopL K mg (rAny K) oAnyL := by
  intro G H ds d a vs Q s e q r k
  unfold oAnyL at e
  cases q1 : asBls ds with
  | none => rw [q1] at e; cases e
  | some bs =>
    rw [q1] at e; cases e
    have := asBls_reps q1 r
    subst this
    exact ⟨a, bs, rfl, q, k _ G H (Grow.refl s) (rep_bl.mpr rfl)⟩
theorem copL_sum : CopL K mg (rSum K) oSumL := by
  intro G H ds d a vs Q s e q r k
  unfold oSumL at e
  cases q1 : asInts ds with
  | none => rw [q1] at e; cases e
  | some bs =>
    rw [q1] at e; cases e
    have := asInts_reps q1 r
    subst this
    exact ⟨a, bs, rfl, q, k _ G H (Grow.refl s) (rep_int.mpr rfl)⟩
theorem cop_int : Cop K mg (fun xs H Q => (∃ i, xs = [V.int i] ∧ Q (.int i) H) ∨ ∃ k, xs = [V.bl k] ∧ Q (.int (if k then 1 else 0)) H) oInt := by
  intro G H ds d vs Q s e r k
  unfold oInt at e
  split at e
  · cases e
    obtain ⟨v, rfl, h1⟩ := reps1 r
    rw [rep_int] at h1
    subst h1
    exact .inl ⟨_, rfl, k _ G H (Grow.refl s) (rep_int.mpr rfl)⟩
  · cases e
    obtain ⟨v, rfl, h1⟩ := reps1 r
    rw [rep_bl] at h1
    subst h1
    exact .inr ⟨_, rfl, k _ G H (Grow.refl s) (rep_int.mpr rfl)⟩
  · cases e
abbrev rTupleOf (K : PySem.W.Frag) : List V → Hp → VK → Prop := fun xs H Q => ∃ p ys, xs = [.ref p] ∧ ((SqL K H p ys ∧ ∀ l, H l = none → Q (.ref l) (L2.upd H l (.tup ys))) ∨ (SqT K H p ys ∧ Q (.ref p) H))
abbrev rListOf (K : PySem.W.Frag) : List V → Hp → VK → Prop := fun xs H Q => ∃ p ys, xs = [.ref p] ∧ (SqL K H p ys ∨ SqT K H p ys) ∧ ∀ l, H l = none → Q (.ref l) (L2.upd H l (.lst ys))
theorem copL_tuple : CopL K mg (rTupleOf K) oTupleL := by
  intro G H ds d a vs Q s e q r k
  cases e
  exact ⟨a, vs, rfl, .inl ⟨q, fun l hl => k _ _ _ (Grow.put s hl) (rep_newT (H := H) (s.free hl) r)⟩⟩
theorem cop_tuple : Cop K mg (rTupleOf K) oTuple := by
  intro G H ds d vs Q s e r k
  unfold oTuple at e
  split at e
  · cases e
    obtain ⟨v, rfl, h1⟩ := reps1 r
    have h1' := h1
    rw [rep_tup] at h1
    obtain ⟨a, us, rfl, q, h2⟩ := h1
    exact ⟨a, us, rfl, .inr ⟨Same.sqT s q, k _ G H (Grow.refl s) h1'⟩⟩
  · cases e
    obtain ⟨v, rfl, h1⟩ := reps1 r
    rw [rep_lst] at h1
    obtain ⟨a, us, rfl, q, h2⟩ := h1
    exact copL_tuple G H _ _ a us Q s rfl (s.seq q) h2 k
  · cases e
theorem copL_list : CopL K mg (rListOf K) oListL := by
  intro G H ds d a vs Q s e q r k
  cases e
  exact ⟨a, vs, rfl, .inl q, fun l hl => k _ _ _ (Grow.put s hl) (rep_newL (H := H) (s.free hl) r)⟩
theorem cop_list : Cop K mg (rListOf K) oList := by
  intro G H ds d vs Q s e r k
  unfold oList at e
  split at e
  · cases e
    obtain ⟨v, rfl, h1⟩ := reps1 r
    rw [rep_tup] at h1
    obtain ⟨a, us, rfl, q, h2⟩ := h1
    exact ⟨a, us, rfl, .inr (Same.sqT s q), fun l hl => k _ _ _ (Grow.put s hl) (rep_newL (H := H) (s.free hl) h2)⟩
  · cases e
    obtain ⟨v, rfl, h1⟩ := reps1 r
    rw [rep_lst] at h1
    obtain ⟨a, us, rfl, q, h2⟩ := h1
    exact copL_list G H _ _ a us Q s rfl (s.seq q) h2 k
  · cases e
theorem cop_max : Cop K mg (fun xs H Q => ∃ i j, xs = [V.int i, V.int j] ∧ Q (.int (if j > i then j else i)) H) oMax := by
  intro G H ds d vs Q s e r k
  unfold oMax at e
  split at e
  · cases e
    obtain ⟨v, u, rfl, h1, h2⟩ := reps2 r
    rw [rep_int] at h1 h2
    subst h1 h2
    exact ⟨_, _, rfl, k _ G H (Grow.refl s) (rep_int.mpr rfl)⟩
  · cases e
theorem cop_min : Cop K mg (fun xs H Q => ∃ i j, xs = [V.int i, V.int j] ∧ Q (.int (if j < i then j else i)) H) oMin := by
  intro G H ds d vs Q s e r k
  unfold oMin at e
  split at e
  · cases e
    obtain ⟨v, u, rfl, h1, h2⟩ := reps2 r
    rw [rep_int] at h1 h2
    subst h1 h2
    exact ⟨_, _, rfl, k _ G H (Grow.refl s) (rep_int.mpr rfl)⟩
  · cases e
end

/-! ### isinstance against built-in classes -/
def tyD : D → Option String
  | .non => some "NoneType"
  | .bl _ => some "bool"
  | .int _ => some "int"
  | .str _ => some "str"
  | .tup _ => some "tuple"
  | .lst _ => some "list"
  | .obj _ _ => none
/-- kinds of the built-in classes that are asked for -/
def isTy (t u : String) : Bool := t == u || (t == "bool" && u == "int")
def tyNames : List String := ["NoneType", "bool", "int", "str", "tuple", "list"]
def isiD (u : String) (d : D) : Option D := (tyD d).map fun t => .bl (isTy t u)
def eIsi (u : String) (f : FE D) : FE D := fun ρ ω => (f ρ ω).bind fun d ω1 => Res.lift (isiD u d) ω1
section
variable {K : PySem.W.Frag} {mg : MG} {G H : Hp} {X : Cx} {W : WX}
theorem tyD_of (s : Same G H) : ∀ {d : D} {t : String} {v : V}, tyD d = some t → Rep K mg G d v → TyX K H v (.type t)
  | .non, t, v, e, r => by cases e; rw [rep_non] at r; subst r; exact .base .non
  | .bl b, t, v, e, r => by cases e; rw [rep_bl] at r; subst r; exact .base (.bl b)
  | .int b, t, v, e, r => by cases e; rw [rep_int] at r; subst r; exact .base (.int b)
  | .str b, t, v, e, r => by cases e; rw [rep_str] at r; subst r; exact .base (.str b)
  | .tup ds, t, v, e, r => by
    cases e
    rw [rep_tup] at r
    obtain ⟨a, vs, rfl, q, _⟩ := r
    rcases Same.sqT s q with (h | ⟨o, h⟩) | ⟨o, its, n, h1, h2, _⟩
    · exact .base (.tup h)
    · exact .fTuple h
    · exact .kTuple h1 h2
  | .lst ds, t, v, e, r => by
    cases e
    rw [rep_lst] at r
    obtain ⟨a, vs, rfl, q, _⟩ := r
    rcases s.seq q with (h | ⟨o, h⟩) | ⟨o, its, n, h1, h2, _⟩
    · exact .base (.lst h)
    · exact .base (.frz h)
    · exact .kList h1 h2
  | .obj _ _, t, v, e, r => by cases e
/-- the class's answers, by the fragment's decider -/
def TyAsk (K : PySem.W.Frag) (u : String) : Prop := ∀ t ∈ tyNames, PySem.W.kitOne K (.type t) (.type u) = some (isTy t u)
theorem tyD_names : ∀ {d : D} {t : String}, tyD d = some t → t ∈ tyNames
  | .non, t, e => by cases e; decide
  | .bl b, t, e => by cases e; decide
  | .int b, t, e => by cases e; decide
  | .str b, t, e => by cases e; decide
  | .tup ds, t, e => by cases e; decide
  | .lst ds, t, e => by cases e; decide
  | .obj _ _, t, e => by cases e
theorem de_isi {e : Expr} {f : FE D} {x : Str} {u : String} {p p2 pos : Pos} (hi : X.mg "isinstance" = none) (hx : X.mg x = none) (ask : TyAsk X.K u) (h : De X W e f) (hv : bootBuiltins x = some (.type u) := by decide +kernel) (hgx : Gl X x := by rfl) (hn : x ≠ "__name__" := by decide) (hdb : (x == ("__debug__" : Str)) = false := by decide)
    (hg : Gl X "isinstance" := by rfl) (he : starEach (e :: [.Name x p2]) X.env = (false, eval e X.env) :: starEach [.Name x p2] X.env := by rfl) (he2 : starEach (.Name x p2 :: []) X.env = (false, eval (.Name x p2) X.env) :: starEach [] X.env := by rfl)
    (hpl : (backTo pos (starEach [.Name x p2] X.env)).any (·.1) = false := by rfl) (hvi : bootBuiltins "isinstance" = some (.builtin "isinstance") := by decide +kernel) :
    De X W (.Call (.Name "isinstance" p) [e, .Name x p2] [] pos) (eIsi u f) := by
  obtain ⟨t, q, k⟩ := h
  refine ⟨_, pe_callB call_isi hg hi hvi (pa_cons q (pa_cons (pe_bltn (v := .ty u) hgx hx hv rfl hn hdb) pa_nil he2) he) (by decide) (by decide) he hpl, fun G α ρ ω σ H Q O S P => ?_⟩
  refine Post.step (t := t σ H) (k G α ρ ω σ H · O S) P fun d ω1 v G1 α1 H1 e1 O1 r1 P1 => ?_
  obtain ⟨b, e2, P2⟩ := P1.lift
  unfold isiD at e2
  cases q1 : tyD d with
  | none => rw [q1] at e2; cases e2
  | some tt =>
    rw [q1] at e2; cases e2
    exact ⟨v, .ty u, .type tt, .type u, _, rfl, .ty u, tyD_of O1.sub q1 r1, ask tt (tyD_names q1), Post.here O1 (show Rep X.K X.mg G1 _ _ from rep_bl.mpr rfl) P2⟩
end
end Dl
namespace Dl
open PySem L2

/-! ### defs -/
abbrev FnP := List D → Option (Except Exn D)
abbrev Fn := List SV → Om → Res SV
def rho0 (m : Nat) (xs : List SV) : Rho := xs.map some ++ List.replicate (m - xs.length) none
/-- a def that changes nothing of its caller's -/
def fnP (n m : Nat) (fb : FS) : FnP := fun ds => if ds.length = n then (match fb (rho0 m (ds.map SV.val)) [] with
    | .ret (.val d) _ => some (.ok d)
    | .next _ _ => some (.ok .non)
    | .exc x _ _ => some (.error x)
    | _ => none) else none
/-- a def that may change own objects handed to it -/
def fnE (n m : Nat) (fb : FS) : Fn := fun xs ω => if xs.length = n then (match fb (rho0 m xs) ω with
    | .ret (.val d) ω' => .ok (.val d) (ω'.take ω.length)
    | .ret (.own k) ω' => if k < ω.length then .ok (.own k) (ω'.take ω.length) else if k = ω.length then .ok (.own k) (ω'.take (ω.length + 1)) else .stuck
    | .next _ ω' => .ok (.val .non) (ω'.take ω.length)
    | .exc x _ ω' => .exc x (ω'.take ω.length)
    | _ => .stuck) else .stuck
section
variable (K : PySem.W.Frag) (mg : MG)
def spP (F : FnP) : Sp := fun vs H Q E => ∃ G ds, Same G H ∧ Reps K mg G ds vs ∧ (match F ds with
  | none => False
  | some (.ok d) => ∀ v G' H', Grow G H G' H' → Rep K mg G' d v → Q v H'
  | some (.error x) => ∀ c dd G' H', Grow G H G' H' → RepX K mg G' x c dd → E c dd H')
def spE (F : Fn) : Sp := fun vs H Q E => ∃ G α ω xs, Own K mg G α ω H ∧ RepVs K mg G α xs vs ∧ Post K mg (RS K mg) G α H Q E (F xs ω)
end
section
variable {K : PySem.W.Frag} {mg : MG}
theorem slots0 {G : Hp} {α : List Addr} {N : List Str} {xs : List SV} {vs : List V} (r : RepVs K mg G α xs vs) : Slots K mg G α (rho0 N.length xs) (L2.start N vs) := by
  have hl : xs.length = vs.length := RepVs.length r
  refine ⟨by simp [rho0, L2.start, hl], fun i x e => ?_⟩
  unfold rho0 at e
  unfold L2.start
  by_cases h : i < xs.length
  · rw [List.getElem?_append_left (by simpa using h), List.getElem?_map] at e
    rw [List.getElem?_append_left (by simp; omega), List.getElem?_map]
    cases q : xs[i]? with
    | none => rw [q] at e; cases e
    | some y =>
      rw [q] at e
      cases e
      have get : ∀ {xs : List SV} {vs : List V} {i : Nat} {y : SV}, RepVs K mg G α xs vs → xs[i]? = some y → ∃ v, vs[i]? = some v ∧ RepV K mg G α y v := by
        intro xs vs i y r
        induction r generalizing i with
        | nil => intro e; simp at e
        | cons h t ih =>
          intro e
          cases i with
          | zero => simp at e; subst e; exact ⟨_, rfl, h⟩
          | succ i => simp at e; simpa using ih e
      obtain ⟨v, h1, h2⟩ := get r q
      rw [h1]
      exact ⟨v, rfl, h2⟩
  · rw [List.getElem?_append_right (by simp; omega)] at e
    exfalso
    have := List.mem_of_getElem? e
    rw [List.mem_replicate] at this
    cases this.2
theorem repVs_val {G : Hp} {α : List Addr} : ∀ {ds : List D} {vs : List V}, Reps K mg G ds vs → RepVs K mg G α (ds.map SV.val) vs
  | [], vs, r => by rw [reps_nil] at r; subst r; exact .nil
  | d :: ds, vs, r => by
    rw [reps_cons] at r
    obtain ⟨v, rr, rfl, h1, h2⟩ := r
    exact .cons h1 (repVs_val h2)
theorem Ext.grow {G H G' H' : Hp} {α' : List Addr} {ω' : Om} (e : Ext G [] H G' α' H') (O : Own K mg G' α' ω' H') : Grow G H G' H' :=
  ⟨e.g, fun a o h => e.keep a o h (by simp), O.sub, fun a o h => by
    rcases e.new a o h with z | z | z
    · exact .inl z
    · exact .inr z
    · simp at z⟩
theorem Own.take {G H : Hp} {α : List Addr} {ω : Om} (O : Own K mg G α ω H) (n : Nat) : Own K mg G (α.take n) (ω.take n) H := by
  refine ⟨O.sub, by simp [O.len], O.nd.sublist (List.take_sublist _ _), fun a ha => O.ex a (List.mem_of_mem_take ha), fun k o a h1 h2 => ?_⟩
  rw [List.getElem?_take] at h1 h2
  split at h1
  · rename_i hk
    rw [if_pos hk] at h2
    exact O.obj k o a h1 h2
  · cases h1
theorem Ext.take {G H G' H' : Hp} {α α' : List Addr} (e : Ext G α H G' α' H') {n : Nat} (hn : α.length ≤ n) : Ext G α H G' (α'.take n) H' := by
  obtain ⟨more, h1, h2⟩ := e.pre
  refine ⟨e.g, e.new, e.keep, e.live, more.take (n - α.length), ?_, fun a ha => h2 a (List.mem_of_mem_take ha)⟩
  rw [h1, List.take_append, List.take_of_length_le hn]
end
section
variable {P : Program} {w : World} {K : PySem.W.Frag} {mg : Str → Option Value} {base : Heap}
theorem fn_okP {x qual : Str} {st : Stmt} {f : Addr} {fd : FuncData} {N ps : List Str} {k n : Nat} {fb : FS} (F : Fun K x qual st f fd) (S : FnScope N ps (defScope st)) (hn : ps.length = n)
    (hbody : ∀ (cdv : Value) (A : Around) (outer : List Env) (s : Shared) (H : Hp) (E : XK), Room k (A.deeper (PyProof.Rows.envOfC qual (defScope st) s.heap.objs.size f cdv)) →
      Dss (cxOf (L2.CX P w) P w K mg base N qual (defScope st) f cdv A outer s H E) (fun c d _ H' => E c d H') (defBody st) fb) : FnOk P w K mg base (L2.CX P w) (k + 1) f fd ps (spP K mg (fnP n N.length fb)) := by
  refine F.okX S (fun vs H Q E h => ?_) (fun cdv A outer s H vs Q E hr h => ?_)
  · obtain ⟨G, ds, s, r, h⟩ := h
    unfold fnP at h
    by_cases e : ds.length = n
    · rw [r.length, e, hn]
    · rw [if_neg e] at h; exact h.elim
  · obtain ⟨G, ds, sm, r, h⟩ := h
    obtain ⟨t, p, kk⟩ := hbody cdv A outer s H E hr
    refine ⟨t, p, kk G [] (rho0 N.length (ds.map SV.val)) [] _ H _ (Own.nil sm) (slots0 (repVs_val r)) ?_⟩
    unfold fnP at h
    by_cases e : ds.length = n
    · rw [if_pos e] at h
      cases q : fb (rho0 N.length (ds.map SV.val)) [] with
      | stuck => rw [q] at h; exact h.elim
      | brk _ _ => rw [q] at h; exact h.elim
      | cont _ _ => rw [q] at h; exact h.elim
      | next ρ' ω' =>
        rw [q] at h
        exact fun σ' G' α' H' e' O' S' => h .non G' H' (e'.grow O') (rep_non.mpr rfl)
      | ret x ω' =>
        rw [q] at h
        cases x with
        | own k => exact h.elim
        | val d => exact fun v G' α' H' e' O' r' => h v G' H' (e'.grow O') r'
      | exc x ρ' ω' =>
        rw [q] at h
        exact fun c dd σ' G' α' H' e' O' S' r' => h c dd G' H' (e'.grow O') r'
    · rw [if_neg e] at h; exact h.elim
theorem fn_okE {x qual : Str} {st : Stmt} {f : Addr} {fd : FuncData} {N ps : List Str} {k n : Nat} {fb : FS} (F : Fun K x qual st f fd) (S : FnScope N ps (defScope st)) (hn : ps.length = n)
    (hbody : ∀ (cdv : Value) (A : Around) (outer : List Env) (s : Shared) (H : Hp) (E : XK), Room k (A.deeper (PyProof.Rows.envOfC qual (defScope st) s.heap.objs.size f cdv)) →
      Dss (cxOf (L2.CX P w) P w K mg base N qual (defScope st) f cdv A outer s H E) (fun c d _ H' => E c d H') (defBody st) fb) : FnOk P w K mg base (L2.CX P w) (k + 1) f fd ps (spE K mg (fnE n N.length fb)) := by
  refine F.okX S (fun vs H Q E h => ?_) (fun cdv A outer s H vs Q E hr h => ?_)
  · obtain ⟨G, α, ω, xs, O, r, h⟩ := h
    unfold fnE at h
    by_cases e : xs.length = n
    · rw [← RepVs.length r, e, hn]
    · rw [if_neg e] at h; exact h.elim
  · obtain ⟨G, α, ω, xs, O, r, h⟩ := h
    obtain ⟨t, p, kk⟩ := hbody cdv A outer s H E hr
    refine ⟨t, p, kk G α (rho0 N.length xs) ω _ H _ O (slots0 r) ?_⟩
    unfold fnE at h
    by_cases e : xs.length = n
    · rw [if_pos e] at h
      cases q : fb (rho0 N.length xs) ω with
      | stuck => rw [q] at h; exact h.elim
      | brk _ _ => rw [q] at h; exact h.elim
      | cont _ _ => rw [q] at h; exact h.elim
      | next ρ' ω' =>
        rw [q] at h
        exact fun σ' G' α' H' e' O' S' => h .non G' (α'.take ω.length) H' (e'.take (by rw [O.len]; exact Nat.le_refl _)) (O'.take _) (show Rep K mg G' .non .non from rep_non.mpr rfl)
      | ret x ω' =>
        rw [q] at h
        cases x with
        | val d => exact fun v G' α' H' e' O' r' => h v G' (α'.take ω.length) H' (e'.take (by rw [O.len]; exact Nat.le_refl _)) (O'.take _) r'
        | own k =>
          dsimp only at h
          intro v G' α' H' e' O' r'
          obtain ⟨a, h1, rfl⟩ := r'
          by_cases hk : k < ω.length
          · rw [if_pos hk] at h
            exact h (.ref a) G' (α'.take ω.length) H' (e'.take (by rw [O.len]; exact Nat.le_refl _)) (O'.take _) ⟨a, by rw [List.getElem?_take, if_pos hk]; exact h1, rfl⟩
          · rw [if_neg hk] at h
            by_cases hk2 : k = ω.length
            · rw [if_pos hk2] at h
              exact h (.ref a) G' (α'.take (ω.length + 1)) H' (e'.take (by rw [O.len]; exact Nat.le_succ _)) (O'.take _) ⟨a, by rw [List.getElem?_take, if_pos (by omega)]; exact h1, rfl⟩
            · rw [if_neg hk2] at h; exact h.elim
      | exc x ρ' ω' =>
        rw [q] at h
        exact fun c dd σ' G' α' H' e' O' S' r' => h c dd G' (α'.take ω.length) H' (e'.take (by rw [O.len]; exact Nat.le_refl _)) (O'.take _) r'
    · rw [if_neg e] at h; exact h.elim
end

/-! ### calls -/
def eCallP (F : FnP) (g : FE (List SV)) : FE D := fun ρ ω => (g ρ ω).bind fun xs ω1 => match allD xs with
  | none => .stuck
  | some ds => match F ds with
    | none => .stuck
    | some (.ok d) => .ok d ω1
    | some (.error x) => .exc x ω1
def eCallE (F : Fn) (g : FE (List SV)) : FE SV := fun ρ ω => (g ρ ω).bind F
def eVal (f : FE SV) : FE D := fun ρ ω => (f ρ ω).bind fun x ω1 => match x with
  | .val d => .ok d ω1
  | .own _ => .stuck
section
variable {X : Cx} {W : WX} {k : Nat} {f : Addr} {fd : FuncData} {ps : List Str} {x : Str} {e : Expr} {es : List Expr} {p pos : Pos} {g : FE (List SV)}
theorem de_val {fv : FE SV} (h : Dv X W e fv) : De X W e (eVal fv) := by
  obtain ⟨t, p, j⟩ := h
  refine ⟨t, p, fun G α ρ ω σ H Q O S P => ?_⟩
  refine Post.step (t := t σ H) (j G α ρ ω σ H · O S) P fun x ω1 v G1 α1 H1 e1 O1 r1 P1 => ?_
  cases x with
  | own k => exact P1.elim
  | val d => exact Post.here O1 (show Rep X.K X.mg G1 d v from r1) P1
/-- a def as it is called -/
structure Clb (X : Cx) (k : Nat) (x : Str) (f : Addr) (fd : FuncData) (ps : List Str) (sp : Sp) : Prop where
  ok : FnOk X.prog X.w X.K X.mg X.base (L2.CX X.prog X.w) k f fd ps sp
  gl : X.mg x = some (.ref f)
  kp : PySem.W.keepIn X.K (.ref f) = true
  bd : Binds X.K fd ps []
theorem de_call {F : FnP} (tk : Takes X W) (hr : Room k X.A) (C : Clb X k x f fd ps (spP X.K X.mg F)) (h : Da X W (e :: es) g) (hg : Gl X x := by rfl) (hdb : (x == ("__debug__" : Str)) = false := by decide) (he : starEach (e :: es) X.env = (false, eval e X.env) :: starEach es X.env := by rfl)
    (hpl : (backTo pos (starEach es X.env)).any (·.1) = false := by rfl) : De X W (.Call (.Name x p) (e :: es) [] pos) (eCallP F g) := by
  obtain ⟨t, q, j⟩ := h
  refine ⟨_, pe_callSD (dvs := []) (E := WE W) C.ok hr hg C.gl C.kp C.bd .nil (fun σ => passAt tk σ) q hdb he hpl, fun G α ρ ω σ H Q O S P => ?_⟩
  refine Post.step (t := t σ H) (j G α ρ ω σ H · O S) P fun xs ω1 vs G1 α1 H1 e1 O1 r1 P1 => ?_
  rw [List.append_nil]
  cases q1 : allD xs with
  | none => rw [q1] at P1; exact P1.elim
  | some ds =>
    rw [q1] at P1; dsimp only at P1
    refine ⟨G1, ds, O1.sub, allD_reps q1 r1, ?_⟩
    cases q2 : F ds with
    | none => rw [q2] at P1; exact P1.elim
    | some y =>
      rw [q2] at P1
      cases y with
      | ok d => exact fun v G' H' gr r => Post.grow O1 gr (show Rep X.K X.mg G' d v from r) P1
      | error z => exact fun c dd G' H' gr r => P1 c dd G' α1 H' gr.ext (O1.grow gr) r
theorem dv_callE {F : Fn} (tk : Takes X W) (hr : Room k X.A) (C : Clb X k x f fd ps (spE X.K X.mg F)) (h : Da X W (e :: es) g) (hg : Gl X x := by rfl) (hdb : (x == ("__debug__" : Str)) = false := by decide) (he : starEach (e :: es) X.env = (false, eval e X.env) :: starEach es X.env := by rfl)
    (hpl : (backTo pos (starEach es X.env)).any (·.1) = false := by rfl) : Dv X W (.Call (.Name x p) (e :: es) [] pos) (eCallE F g) := by
  obtain ⟨t, q, j⟩ := h
  refine ⟨_, pe_callSD (dvs := []) (E := WE W) C.ok hr hg C.gl C.kp C.bd .nil (fun σ => passAt tk σ) q hdb he hpl, fun G α ρ ω σ H Q O S P => ?_⟩
  refine Post.step (t := t σ H) (j G α ρ ω σ H · O S) P fun xs ω1 vs G1 α1 H1 e1 O1 r1 P1 => ?_
  rw [List.append_nil]
  exact ⟨G1, α1, ω1, xs, O1, r1, P1⟩
end

/-! ### C(..): the new instance, frozen behind its __init__ -/
def eMake (c : Str) (F : Fn) (g : FE (List SV)) : FE D := fun ρ ω => (g ρ ω).bind fun xs ω1 => match allD xs with
  | none => .stuck
  | some ds => match F (.own 0 :: ds.map SV.val) [some (.ins c [])] with
    | .ok (.val .non) [some (.ins c' fs)] => .ok (.obj c' fs) ω1
    | .exc x _ => .exc x ω1
    | _ => .stuck
section
variable {X : Cx} {CX : CXT} {k : Nat} {f C : Addr} {fd : FuncData} {ps : List Str} {sp : Sp} {dvs : List V} {ds : List Value} {E : St → XK} {x : Str} {p pos : Pos} {e : Expr} {es : List Expr} {t : TA}
def tMakeS (C : Addr) (sp : Sp) (E : St → XK) (t : TA) : TE := fun σ H Q => t σ H fun vs H1 => ∀ x dx, H1 x = none → H1 dx = none → dx ≠ x →
  sp (.ref x :: vs) (L2.upd (L2.upd H1 dx (.own x)) x (.ins C dx [])) (fun v H2 => v = .non ∧ Q (.ref x) H2) (E σ)
theorem run_makeS {pins : List (Addr × Obj)} {σ : St} {H : Hp} {s : Shared} {Q : VK} {us : List Value} {vs : List V} (M : Mk X.K C f) (F : FnOk X.prog X.w X.K X.mg X.base CX k f fd ps sp) (hr : Room (k + 1) X.A) (hb : Binds X.K fd ps [])
    (hx : PassesAt CX X σ (E σ)) (I : Inv X pins σ H s) (r : Vals vs us)
    (h : ∀ x dx, H x = none → H dx = none → dx ≠ x → sp (.ref x :: vs) (L2.upd (L2.upd H dx (.own x)) x (.ins C dx [])) (fun v H2 => v = .non ∧ Q (.ref x) H2) (E σ)) :
    wpAny (model X.prog X.w) X.A (call (.ref C) us) (EP X pins σ Q) X.xe s := by
  have hq := h (s.heap.objs.size + 1) s.heap.objs.size (I.hok.fresh (Nat.le_succ _)) (I.hok.fresh (Nat.le_refl _)) (Nat.ne_of_lt (Nat.lt_succ_self _))
  have I2 := Inv.made (C := C) I
  have r2 : Vals (V.ref (s.heap.objs.size + 1) :: vs) (Value.ref (s.heap.objs.size + 1) :: us) := .cons rfl r
  have hl : (Value.ref (s.heap.objs.size + 1) :: us ++ []).length = ps.length := by
    have e := r2.length
    rw [F.len _ _ _ _ hq] at e
    rw [List.append_nil]
    exact e.symm
  have bb := hb _ (Value.ref (s.heap.objs.size + 1) :: us) I2.kIn hl
  rw [List.append_nil] at bb
  refine wpAny_call (make_map (f := f) I.kIn M.makes M.init (beq_iff_eq.mp M.fn) (codeAny_mono (F.run _ X.stack _ _ ⟨Value.ref (s.heap.objs.size + 1) :: us, []⟩ (Value.ref (s.heap.objs.size + 1) :: us) _ _ (E σ) (hr.make C us [])
    (I2.env0.make C us []) bb r2 hq) fun r s' hq' => ?_))
  cases r with
  | error e => exact hx pins _ _ e s' I2 hq'
  | ok fl =>
    cases fl with
    | ret u =>
      obtain ⟨v, H', I3, rv, ev, q3⟩ := I2.after hq'
      subst ev
      exact ⟨rv, ⟨V.ref (s.heap.objs.size + 1), H', I3, rfl, q3⟩⟩
    | next => exact False.elim hq'
    | brk => exact False.elim hq'
    | cont => exact False.elim hq'
theorem pe_makeS (M : Mk X.K C f) (F : FnOk X.prog X.w X.K X.mg X.base CX k f fd ps sp) (hr : Room (k + 1) X.A) (hg : Gl X x) (hm : X.mg x = some (.ref C)) (hb : Binds X.K fd ps []) (hx : ∀ σ, PassesAt CX X σ (E σ))
    (ha : PA X (e :: es) t) (hdb : (x == ("__debug__" : Str)) = false := by decide) (he : starEach (e :: es) X.env = (false, eval e X.env) :: starEach es X.env := by rfl) (hpl : (backTo pos (starEach es X.env)).any (·.1) = false := by rfl) :
    PE X (.Call (.Name x p) (e :: es) [] pos) (tMakeS C sp E t) := by
  refine ⟨fun pins s σ H Q I h => ?_⟩
  refine wpAny_Call_Name_kw (ld_glob I hg hm ?_ hdb)
  refine PySem.W.callWith_K (h₀ := X.base) I.ok.mod.kin M.kp (thn (ha.run pos pins s σ H _ I h) fun us s1 ⟨vs, H1, I1, r, q⟩ => ⟨I1.kIn, ?_⟩) he hpl
  exact run_makeS M F hr hb (hx σ) I1 r q
end
section
variable {X : Cx} {W : WX} {k : Nat} {f C : Addr} {fd : FuncData} {ps : List Str} {x : Str} {e : Expr} {es : List Expr} {p pos : Pos} {g : FE (List SV)}
/-- the state of a new instance -/
theorem made_own {K : PySem.W.Frag} {mg : MG} {G H : Hp} {a dx C : Addr} {c : Str} (s : Same G H) (hc : mg c = some (.ref C)) (ha : H a = none) (hd : H dx = none) (ne : dx ≠ a) :
    Own K mg G [a] [some (.ins c [])] (L2.upd (L2.upd H dx (.own a)) a (.ins C dx [])) := by
  have ha' : (L2.upd H dx (.own a)) a = none := by rw [upd_ne ne.symm]; exact ha
  have s1 : Same G (L2.upd H dx (.own a)) := s.trans (Same.upd hd)
  exact ((Own.nil (K := K) (mg := mg) s1).new (o := .ins c []) ha' ⟨C, dx, [], hc, upd_same, repF_nil.mpr rfl⟩).1
theorem de_make {F : Fn} (tk : Takes X W) (hr : Room (k + 1) X.A) (M : Mk X.K C f) (ok : FnOk X.prog X.w X.K X.mg X.base (L2.CX X.prog X.w) k f fd ps (spE X.K X.mg F)) (hm : X.mg x = some (.ref C)) (hb : Binds X.K fd ps []) (h : Da X W (e :: es) g)
    (hg : Gl X x := by rfl) (hdb : (x == ("__debug__" : Str)) = false := by decide) (he : starEach (e :: es) X.env = (false, eval e X.env) :: starEach es X.env := by rfl)
    (hpl : (backTo pos (starEach es X.env)).any (·.1) = false := by rfl) : De X W (.Call (.Name x p) (e :: es) [] pos) (eMake x F g) := by
  obtain ⟨t, q, j⟩ := h
  refine ⟨_, pe_makeS (E := WE W) M ok hr hg hm hb (fun σ => passAt tk σ) q hdb he hpl, fun G α ρ ω σ H Q O S P => ?_⟩
  refine Post.step (t := t σ H) (j G α ρ ω σ H · O S) P fun xs ω1 vs G1 α1 H1 e1 O1 r1 P1 => ?_
  intro a dx ha hd ne
  cases q1 : allD xs with
  | none => rw [q1] at P1; exact P1.elim
  | some ds =>
    rw [q1] at P1; dsimp only at P1
    have hr1 := allD_reps q1 r1
    have O2 := made_own (K := X.K) (c := x) O1.sub hm ha hd ne
    have hH : Same H1 (L2.upd (L2.upd H1 dx (.own a)) a (.ins C dx [])) := (Same.upd hd).trans (Same.upd (by rw [upd_ne ne.symm]; exact ha))
    -- what is known at the end of __init__, seen from the caller
    have back : ∀ {G' α' H' ω'}, Ext G1 [a] (L2.upd (L2.upd H1 dx (.own a)) a (.ins C dx [])) G' α' H' → Own X.K X.mg G' α' ω' H' → Grow G1 H1 G' H' := fun {G' α' H' ω'} e' O' => by
      refine ⟨e'.g, fun b o h => e'.keep b o (hH b o h) (fun z => ?_), O'.sub, fun b o h => ?_⟩
      · rw [List.mem_singleton.mp z, ha] at h; cases h
      · rcases e'.new b o h with z | z | z
        · exact .inl z
        · refine .inr ?_
          cases q : H1 b with
          | none => rfl
          | some o' => rw [hH b o' q] at z; cases z
        · rw [List.mem_singleton.mp z]; exact .inr ha
    refine ⟨G1, [a], [some (.ins x [])], .own 0 :: ds.map SV.val, O2, .cons ⟨a, rfl, rfl⟩ (repVs_val hr1), ?_⟩
    cases q2 : F (.own 0 :: ds.map SV.val) [some (.ins x [])] with
    | stuck => rw [q2] at P1; exact P1.elim
    | exc z ω' =>
      rw [q2] at P1
      intro c dd G' α' H' e' O' r'
      have gr := back e' O'
      exact P1 c dd G' α1 H' gr.ext (O1.grow gr) r'
    | ok y ω' =>
      rw [q2] at P1
      intro v G' α' H' e' O' r'
      split at P1
      · rename_i z c' fs heq
        cases heq
        have hv : v = .non := rep_non.mp (show Rep X.K X.mg G' .non v from r')
        refine ⟨hv, ?_⟩
        have gr := back e' O'
        obtain ⟨more, h1, _⟩ := e'.pre
        have h2 : α'[0]? = some a := by rw [h1]; rfl
        obtain ⟨hg', C', dx', fvs, hC, hHa, hF⟩ := O'.obj 0 _ a rfl h2
        -- freeze it
        obtain ⟨O3, e3, _⟩ := O'.freeze (k := 0) rfl h2 hHa
        have gr2 : Grow G1 H1 (L2.upd G' a (.ins C' dx' fvs)) H' := by
          refine ⟨gr.g.trans (Same.upd hg'), gr.h, O3.sub, fun b o h => ?_⟩
          by_cases z : b = a
          · subst z; exact .inr ha
          · rw [upd_ne z] at h; exact gr.new b o h
        refine Post.grow O1 gr2 (show Rep X.K X.mg _ _ _ from rep_obj.mpr ⟨a, C', dx', fvs, rfl, hC, upd_same, RepF.mono (Same.upd hg') _ _ hF⟩) P1
      · rename_i z w heq
        cases heq
      · exact P1.elim
/-! fields -/
def fldD (c f : Str) : D → Option D
  | .obj c' fs => if c' = c then fs.lookup f else none
  | _ => none
def eFld (c f : Str) (fe : FE D) : FE D := fun ρ ω => (fe ρ ω).bind fun d ω1 => Res.lift (fldD c f d) ω1
/-- an own class as the walk knows it -/
structure ClsD (K : PySem.W.Frag) (mg : MG) (c : Str) (C : Addr) : Prop where
  gl : mg c = some (.ref C)
  cl : Cls K C
theorem de_fld {c fl : Str} {fe : FE D} (cd : ClsD X.K X.mg c C) (na : NoAttr X.K C fl) (h : De X W e fe) (hb : attributeBase e fl X.env (eval e X.env) = eval e X.env := by rfl) : De X W (.Attribute e fl pos) (eFld c fl fe) := by
  obtain ⟨t, q, j⟩ := h
  refine ⟨_, pe_fld q hb, fun G α ρ ω σ H Q O S P => ?_⟩
  refine Post.step (t := t σ H) (j G α ρ ω σ H · O S) P fun d ω1 v G1 α1 H1 e1 O1 r1 P1 => ?_
  obtain ⟨y, e2, P2⟩ := P1.lift
  cases d with
  | obj c' fs =>
    unfold fldD at e2
    dsimp only at e2
    split at e2
    · rename_i hc
      subst hc
      have r1' : Rep X.K X.mg G1 (.obj c' fs) v := r1
      rw [rep_obj] at r1'
      obtain ⟨a, C', dx, fvs, rfl, hC, hG, hF⟩ := r1'
      have : C' = C := by
        have := hC.symm.trans cd.gl
        cases this; rfl
      subst this
      obtain ⟨u, h3, h4⟩ := hF.look e2
      exact ⟨a, C', dx, fvs, u, rfl, O1.sub a _ hG, cd.cl, na, h3, Post.here O1 (show Rep X.K X.mg G1 y u from h4) P2⟩
    · cases e2
  | _ => cases e2
/-- self.f = e, self an own instance -/
def ownI (ω : Om) (k : Nat) : Option (Str × List (Str × D)) := match ω[k]? with
  | some (some (.ins c fs)) => some (c, fs)
  | _ => none
theorem ownI_eq {ω : Om} {k : Nat} {c : Str} {fs : List (Str × D)} (h : ownI ω k = some (c, fs)) : ω[k]? = some (some (.ins c fs)) := by
  unfold ownI at h
  split at h
  · rename_i e; cases h; exact e
  · cases h
def sFldO (i : Nat) (c f : Str) (fe : FE D) : FS := fun ρ ω => (fe ρ ω).out ρ fun d ω1 => match ownK ρ i with
  | none => .stuck
  | some k => match ownI ω1 k with
    | none => .stuck
    | some (c', fs) => if c' = c ∧ fs.length < 1000 then .next ρ (ω1.set k (some (.ins c' (putD f d fs)))) else .stuck
theorem putF_rep {K : PySem.W.Frag} {mg : MG} {G : Hp} {f : Str} {d : D} {v : V} (r : Rep K mg G d v) : ∀ {fs : List (Str × D)} {fvs : List (Str × V)}, RepF K mg G fs fvs → RepF K mg G (putD f d fs) (putF f v fvs)
  | [], fvs, h => by
    rw [repF_nil] at h; subst h
    unfold putD putF
    exact repF_cons.mpr ⟨v, [], rfl, r, repF_nil.mpr rfl⟩
  | (g, y) :: fs, fvs, h => by
    rw [repF_cons] at h
    obtain ⟨u, rr, rfl, h1, h2⟩ := h
    unfold putD putF
    by_cases q : g = f
    · rw [if_pos q, if_pos q]
      subst q; exact repF_cons.mpr ⟨v, rr, rfl, r, h2⟩
    · rw [if_neg q, if_neg q]
      exact repF_cons.mpr ⟨u, _, rfl, h1, putF_rep r h2⟩
theorem ds_fldO (i : Nat) {c fl y : Str} {fe : FE D} {p1 p2 : Pos} (cd : ClsD X.K X.mg c C) (na : NoAttr X.K C fl) (h : De X W e fe) (hN : X.N[i]? = some y := by rfl) (hv : Vis X.env.scope y := by first | exact Or.inl rfl | exact Or.inr (Or.inl rfl) | exact Or.inr (Or.inr rfl)) (hd : (y == ("__debug__" : Str)) = false := by decide)
    (hcd : (y == ("__classdict__" : Str)) = false := by decide) (hs : swapsWith e (some (.Attribute (.Name y p1) fl p2)) pos.line X.env = pure false := by rfl) : Ds X W (.Assign [.Attribute (.Name y p1) fl p2] e pos) (sFldO i c fl fe) := by
  obtain ⟨t, q, j⟩ := h
  refine ⟨_, ps_fld (pe_var hN hv hd hcd) q hs, fun G α ρ ω σ H D O S P => ?_⟩
  refine PostS.step S (t := t σ H) (j G α ρ ω σ H · O S) P fun d ω1 v G1 α1 H1 e1 O1 r1 P1 => ?_
  cases q1 : ownK ρ i with
  | none => rw [q1] at P1; exact P1.elim
  | some kk =>
    rw [q1] at P1; dsimp only at P1
    cases q2 : ownI ω1 kk with
    | none => rw [q2] at P1; exact P1.elim
    | some cf =>
      obtain ⟨c', fs⟩ := cf
      rw [q2] at P1; dsimp only at P1
      split at P1
      · rename_i hc
        obtain ⟨hc, hl⟩ := hc
        subst hc
        obtain ⟨v0, h1, a, h2, rfl⟩ := (S.mono e1).val i _ (ownK_eq q1)
        obtain ⟨hg, C', dx, fvs, hC, hHa, hF⟩ := O1.obj kk _ a (ownI_eq q2) h2
        have : C' = C := by
          have := hC.symm.trans cd.gl
          cases this; rfl
        subst this
        refine ⟨_, h1, a, C', dx, fvs, rfl, hHa, cd.cl, na, by rw [hF.length]; exact hl, ?_⟩
        obtain ⟨O2, e2⟩ := O1.put (u := .ins C' dx (putF fl v fvs)) (o' := .ins c' (putD fl d fs)) (ownI_eq q2) h2 ⟨C', dx, _, hC, upd_same, putF_rep r1 hF⟩
        exact P1 _ G1 α1 _ e2 O2 ((S.mono e1).mono e2)
      · exact P1.elim
end
end Dl
/-! ### tuple * 1 is the tuple itself -/
namespace Dl
open PySem PySem.Spec PyProof.Rows
open Sem (wp)
open AutoSeq1 (wpAny_loadPart')
theorem tuple_mul1 (l : Addr) (items : Array Value) (n : Nat) (dd : Option Addr) (sl : Array (Option Value)) (u : Tok) :
    Meets (Builtin.«tuple.__mul__» ⟨[.ref l, .int 1 u], []⟩) (fun _ R s => s.heap.get? l = some { cls := .type "tuple", dict := dd, data := .seq items n, slots := sl } ∧ R (.ok (.ret (Value.ref l))) s) :=
  .of_wp fun prog w A R s h => by
    obtain ⟨hp, g, d, tk, os⟩ := s
    obtain ⟨hl, h⟩ := h
    have f1 := AutoSeq1.idx_int
    wp_walk using wpAny_loadPart' hl
    exact ⟨_, rfl, h⟩
end Dl
namespace Dl
open PySem PyProof.Rows PySem.W
section
open L2 (V Hp VK Cx Inv OpR R2 SqT Vals RelV EP HO upd)
def rRep1 (K : PySem.W.Frag) : R2 := fun x y H Q => ∃ l xs, x = .ref l ∧ y = V.int 1 ∧ SqT K H l xs ∧ Q (.ref l) H
theorem op_rep1 {X : Cx} : OpR X (binaryOp .Mult) (rRep1 X.K) := by
  intro pins s σ H x y v u Q I rx ry h
  obtain ⟨l, xs, rfl, rfl, hT, q⟩ := h
  cases rx
  obtain ⟨t, rfl⟩ := ry
  obtain ⟨its, r, ⟨⟨cls, dd, data, sl⟩, ho, hc, n, hd⟩, hs⟩ := I.tuple hT
  simp only at hc hd
  subst hc hd
  exact wpAny_binaryOp_repeat_ref (T := "tuple") (U := "int") (by decide) ⟨_, ho, rfl⟩ (fun s' => typeIs_int s' 1 t) L2.noFill_tuple_mul F.fills_int_mul F.slot_int_rmul L2.repeat_tuple F.slot_int_index.lookup
    (call_meets F.slot_int_rmul (typeIs_int s 1 t) F.entry_int_rmul (F.args_int_rmul_2 _ _) (L2.int_rmul_tuple 1 t l its.toArray n dd sl)
      ⟨ho, rfl, ⟨_, ho, rfl⟩, call_meets F.slot_tuple_mul ⟨_, ho, rfl⟩ F.entry_tuple_mul (F.args_tuple_mul_2 _ _) (tuple_mul1 l its.toArray n dd sl t) ⟨ho, ⟨.ref l, H, I, rfl, q⟩⟩⟩)
end
end Dl
namespace Dl
open PySem L2
/-- * of ints, and of a tuple and an int -/
def opMulA : D → D → Option D
  | .tup ds, .int k => if k = 1 then some (.tup ds) else if ds ≠ [] ∧ 2 ≤ k ∧ k ≤ 1000 ∧ ds.length ≤ 1000 then some (.tup (List.replicate k.toNat ds).flatten) else none
  | x, y => opMul x y
def rMulA (K : PySem.W.Frag) : R2 := fun x y H Q => (rI CMul fun i j => .int (i * j)) x y H Q ∨ rRep1 K x y H Q ∨ rRepT K x y H Q
section
variable {K : PySem.W.Frag} {mg : MG} {X : Cx} {W : WX}
theorem Reps.rep {G : Hp} {ds : List D} {vs : List V} (r : Reps K mg G ds vs) : ∀ k : Nat, Reps K mg G (List.replicate k ds).flatten (List.replicate k vs).flatten
  | 0 => by simp [reps_nil]
  | k + 1 => by rw [List.replicate_succ, List.replicate_succ, List.flatten_cons, List.flatten_cons]; exact r.append (Reps.rep r k)
theorem op_mulA : OpR X (binaryOp .Mult) (rMulA X.K) := op_mul.or (op_rep1.or op_repT)
theorem bop_mulA : Bop K mg (rMulA K) opMulA := by
  intro G H x y d v1 v2 Q s e r1 r2 k
  unfold opMulA at e
  split at e
  · rename_i ds n
    have q1 := r1
    rw [rep_tup] at r1
    obtain ⟨a, vs, rfl, h1, h2⟩ := r1
    rw [rep_int] at r2
    subst r2
    split at e
    · rename_i h
      cases e
      subst h
      exact .inr (.inl ⟨a, vs, rfl, rfl, Same.sqT s h1, k _ G H (Grow.refl s) q1⟩)
    · split at e
      · rename_i hb
        cases e
        obtain ⟨hne, g1, g2, g3⟩ := hb
        refine .inr (.inr ⟨a, n, vs, rfl, rfl, Same.sqT s h1, fun z => hne ?_, g1, g2, by rw [h2.length]; exact g3, fun p hp => k _ _ _ (Grow.put s hp) (rep_newT (H := H) (s.free hp) (h2.rep _))⟩)
        have := h2.length
        rw [z] at this
        exact List.eq_nil_of_length_eq_zero this.symm
      · cases e
  · exact .inl (bop_mul G H x y d v1 v2 Q s e r1 r2 k)
theorem de_mulA {a b : Expr} {pos : Pos} {f g : FE D} (ja : De X W a f) (jb : De X W b g) : De X W (.BinOp a .Mult b pos) (eBin opMulA f g) := de_bin op_mulA bop_mulA ja jb

/-! ### slices -/
def cutD (ds : List D) (lo hi : Option Int) : List D := (ds.drop (HT.sIx ds.length 0 lo)).take (HT.sIx ds.length ds.length hi - HT.sIx ds.length 0 lo)
theorem cut_reps {G : Hp} {ds : List D} {vs : List V} (lo hi : Option Int) (r : Reps K mg G ds vs) : Reps K mg G (cutD ds lo hi) (cutV vs lo hi) := by
  unfold cutD cutV
  rw [r.length]
  exact (r.drop _).take _
theorem cut_whole {ds : List D} {lo hi : Option Int} (h : HT.sIx ds.length 0 lo = 0 ∧ HT.sIx ds.length ds.length hi = ds.length) : cutD ds lo hi = ds := by
  unfold cutD
  rw [h.1, h.2]
  simp
def slD (lo hi : Option Int) : D → Option D
  | .tup ds => some (.tup (cutD ds lo hi))
  | .lst ds => some (.lst (cutD ds lo hi))
  | _ => none
/-- a part of a slice -/
def asI : D → Option (Option Int)
  | .int i => some (some i)
  | _ => none
def ePart (f : FE D) : FE (Option Int) := fun ρ ω => (f ρ ω).bind fun d ω1 => Res.lift (asI d) ω1
def eNoPart : FE (Option Int) := fun _ ω => .ok none ω
def RO : Hp → List Addr → Hp → Option Int → Option Int → Prop := fun _ _ _ a b => a = b
def Do (X : Cx) (W : WX) (e : Option Expr) (f : FE (Option Int)) : Prop :=
  ∃ t, PO X e t ∧ ∀ G α ρ ω σ H Q, Own X.K X.mg G α ω H → Slots X.K X.mg G α ρ σ → Post X.K X.mg RO G α H Q (fun c d H' => W c d σ H') (f ρ ω) → t σ H Q
theorem do_none : Do X W none eNoPart := ⟨_, po_none, fun G α ρ ω σ H Q O S P => Post.here O rfl P⟩
theorem do_some {e : Expr} {f : FE D} (h : De X W e f) : Do X W (some e) (ePart f) := by
  obtain ⟨t, p, j⟩ := h
  refine ⟨_, po_some p, fun G α ρ ω σ H Q O S P => ?_⟩
  refine Post.step (t := t σ H) (j G α ρ ω σ H · O S) P fun d ω1 v G1 α1 H1 e1 O1 r1 P1 => ?_
  obtain ⟨o, e2, P2⟩ := P1.lift
  cases d with
  | int i =>
    cases e2
    exact ⟨i, rep_int.mp (show Rep X.K X.mg G1 (.int i) v from r1), Post.here O1 rfl P2⟩
  | _ => cases e2
def eSl (f : FE D) (lo hi : FE (Option Int)) : FE D := fun ρ ω => (f ρ ω).bind fun d ω1 => (lo ρ ω1).bind fun l ω2 => (hi ρ ω2).bind fun h ω3 => Res.lift (slD l h d) ω3
def rSlB (K : PySem.W.Frag) : V → Option Int → Option Int → Hp → VK → Prop := fun x lo hi H Q => rSlA K x lo hi H Q ∨ rSlL K x lo hi H Q
theorem sl_both : SlR X (rSlB X.K) := sl_tupA.or sl_list
theorem de_slice {e : Expr} {lo hi : Option Expr} {f : FE D} {fl fh : FE (Option Int)} {p2 pos : Pos} (h : De X W e f) (hl : Do X W lo fl) (hh : Do X W hi fh) : De X W (.Subscript e (.Slice lo hi none p2) pos) (eSl f fl fh) := by
  obtain ⟨t, p, j⟩ := h
  obtain ⟨tl, pl, jl⟩ := hl
  obtain ⟨th, ph, jh⟩ := hh
  refine ⟨_, pe_slice sl_both p pl ph, fun G α ρ ω σ H Q O S P => ?_⟩
  refine Post.step (t := t σ H) (j G α ρ ω σ H · O S) P fun d ω1 v G1 α1 H1 e1 O1 r1 P1 => ?_
  refine Post.step (t := tl σ H1) (jl G1 α1 ρ ω1 σ H1 · O1 (S.mono e1)) P1 fun l ω2 l' G2 α2 H2 e2 O2 r2 P2 => ?_
  refine Post.step (t := th σ H2) (jh G2 α2 ρ ω2 σ H2 · O2 ((S.mono e1).mono e2)) P2 fun u ω3 u' G3 α3 H3 e3 O3 r3 P3 => ?_
  cases r2
  cases r3
  obtain ⟨y, e4, P4⟩ := P3.lift
  have r1' : Rep X.K X.mg G3 d v := Rep.mono (e2.g.trans e3.g) _ _ r1
  cases d with
  | tup ds =>
    cases e4
    have q := r1'
    rw [rep_tup] at r1'
    obtain ⟨a, vs, rfl, h1, h2⟩ := r1'
    refine .inl ⟨a, vs, rfl, Same.sqT O3.sub h1, fun z => ?_, fun z p hp => ?_⟩
    · rw [h2.length] at z
      exact Post.here O3 (show Rep X.K X.mg G3 _ _ by rw [cut_whole z]; exact q) P4
    · exact Post.grow O3 (Grow.put O3.sub hp) (show Rep X.K X.mg _ _ _ from rep_newT (H := H3) (O3.sub.free hp) (cut_reps _ _ h2)) P4
  | lst ds =>
    cases e4
    rw [rep_lst] at r1'
    obtain ⟨a, vs, rfl, h1, h2⟩ := r1'
    exact .inr ⟨a, vs, rfl, O3.sub.seq h1, fun p hp => Post.grow O3 (Grow.put O3.sub hp) (show Rep X.K X.mg _ _ _ from rep_newL (H := H3) (O3.sub.free hp) (cut_reps _ _ h2)) P4⟩
  | _ => cases e4

/-! ### a op b op c -/
def eChain (op op' : D → D → Option D) (f g h : FE D) : FE D := fun ρ ω => (f ρ ω).bind fun x ω1 => (g ρ ω1).bind fun y ω2 => match op x y with
  | some (.bl true) => (h ρ ω2).bind fun z ω3 => Res.lift (op' y z) ω3
  | some (.bl false) => .ok (.bl false) ω2
  | _ => .stuck
theorem chain_post {r r' : R2} {op op' : D → D → Option D} {f g h : FE D} {ta tb tc : TE} (B : Bop K mg r op) (B' : Bop K mg r' op')
    (ja : ∀ G α ρ ω σ H Q, Own K mg G α ω H → Slots K mg G α ρ σ → Post K mg (RD K mg) G α H Q (fun c d H' => W c d σ H') (f ρ ω) → ta σ H Q)
    (jb : ∀ G α ρ ω σ H Q, Own K mg G α ω H → Slots K mg G α ρ σ → Post K mg (RD K mg) G α H Q (fun c d H' => W c d σ H') (g ρ ω) → tb σ H Q)
    (jc : ∀ G α ρ ω σ H Q, Own K mg G α ω H → Slots K mg G α ρ σ → Post K mg (RD K mg) G α H Q (fun c d H' => W c d σ H') (h ρ ω) → tc σ H Q)
    (G α ρ ω σ H Q) (O : Own K mg G α ω H) (S : Slots K mg G α ρ σ) (P : Post K mg (RD K mg) G α H Q (fun c d H' => W c d σ H') (eChain op op' f g h ρ ω)) : tChain r r' ta tb tc σ H Q := by
  refine Post.step (t := ta σ H) (ja G α ρ ω σ H · O S) P fun x ω1 v1 G1 α1 H1 e1 O1 r1 P1 => ?_
  refine Post.step (t := tb σ H1) (jb G1 α1 ρ ω1 σ H1 · O1 (S.mono e1)) P1 fun y ω2 v2 G2 α2 H2 e2 O2 r2 P2 => ?_
  cases q : op x y with
  | none => rw [q] at P2; exact P2.elim
  | some d =>
    rw [q] at P2
    cases d with
    | bl b =>
      refine B G2 H2 x y _ v1 v2 _ O2.sub q (Rep.mono e2.g _ _ r1) r2 fun v G3 H3 gr rv => ?_
      refine ⟨b, rep_bl.mp rv, ?_⟩
      have O3 := O2.grow gr
      have e3 : Ext G2 α2 H2 G3 α2 H3 := gr.ext
      cases b with
      | false => exact iteF (Post.here O3 (show Rep K mg G3 _ _ from rep_bl.mpr rfl) (Post.weak e3 P2))
      | true =>
        refine iteT ?_
        refine Post.step (t := tc σ H3) (jc G3 α2 ρ ω2 σ H3 · O3 (((S.mono e1).mono e2).mono e3)) (Post.weak e3 P2) fun z ω4 v4 G4 α4 H4 e4 O4 r4 P4 => ?_
        exact bin_post B' O4 (Rep.mono (e3.g.trans e4.g) _ _ r2) r4 P4
    | _ => exact P2.elim
theorem de_chain {o o' : CmpOp} {op op' : D → D → Option D} {a b c : Expr} {pos : Pos} {f g h : FE D} (c1 : Cmp X o op) (c2 : Cmp X o' op') (ja : De X W a f) (jb : De X W b g) (jc : De X W c h) (hm : lastMarks [o, o'] [b, c] = false := by with_unfolding_all rfl) :
    De X W (.Compare a [o, o'] [b, c] pos) (eChain op op' f g h) := by
  obtain ⟨r, h1, h2⟩ := c1.ex
  obtain ⟨r', h3, h4⟩ := c2.ex
  obtain ⟨ta, pa, ka⟩ := ja
  obtain ⟨tb, pb, kb⟩ := jb
  obtain ⟨tc, pc, kc⟩ := jc
  exact ⟨_, pe_chain h1 h3 pa pb pc hm, chain_post h2 h4 ka kb kc⟩
theorem dt_chain {o o' : CmpOp} {op op' : D → D → Option D} {a b c : Expr} {pos : Pos} {f g h : FE D} (c1 : Cmp X o op) (c2 : Cmp X o' op') (ja : De X W a f) (jb : De X W b g) (jc : De X W c h) (hm : lastMarks [o, o'] [b, c] = false := by with_unfolding_all rfl) :
    Dt X W (.Compare a [o, o'] [b, c] pos) (eTest (eChain op op' f g h)) := by
  obtain ⟨r, h1, h2⟩ := c1.ex
  obtain ⟨r', h3, h4⟩ := c2.ex
  obtain ⟨ta, pa, ka⟩ := ja
  obtain ⟨tb, pb, kb⟩ := jb
  obtain ⟨tc, pc, kc⟩ := jc
  exact ⟨_, pt_chain h1 h3 pa pb pc hm, test_post (chain_post h2 h4 ka kb kc)⟩

/-! ### -a; an item of an own list; a fresh list handed out; code that is not come to -/
def opNeg : D → Option D
  | .int i => some (.int (-i))
  | _ => none
def eUn (op : D → Option D) (f : FE D) : FE D := fun ρ ω => (f ρ ω).bind fun d ω1 => Res.lift (op d) ω1
theorem de_neg {a : Expr} {pos : Pos} {f : FE D} (h : De X W a f) : De X W (.UnaryOp .USub a pos) (eUn opNeg f) := by
  obtain ⟨t, p, j⟩ := h
  refine ⟨_, pe_un un_neg p, fun G α ρ ω σ H Q O S P => ?_⟩
  refine Post.step (t := t σ H) (j G α ρ ω σ H · O S) P fun d ω1 v G1 α1 H1 e1 O1 r1 P1 => ?_
  obtain ⟨y, e2, P2⟩ := P1.lift
  cases d with
  | int i =>
    cases e2
    exact ⟨i, rep_int.mp (show Rep X.K X.mg G1 (.int i) v from r1), Post.here O1 (show Rep X.K X.mg G1 _ _ from rep_int.mpr rfl) P2⟩
  | _ => cases e2
def ixI (ds : List D) : D → Option D
  | .int i => atI ds i
  | _ => none
/-- x[i], x an own list: the list is read behind the index -/
def eIxO (i : Nat) (g : FE D) : FE D := fun ρ ω => match ownK ρ i with
  | none => .stuck
  | some k => (g ρ ω).bind fun z ω1 => match ownL ω1 k with
    | none => .stuck
    | some ds => Res.lift (ixI ds z) ω1
theorem de_ixO (i : Nat) {x : Str} {p1 pos : Pos} {b : Expr} {g : FE D} (jb : De X W b g) (hN : X.N[i]? = some x := by rfl) (hv : Vis X.env.scope x := by first | exact Or.inl rfl | exact Or.inr (Or.inl rfl) | exact Or.inr (Or.inr rfl)) (hd : (x == ("__debug__" : Str)) = false := by decide)
    (hcd : (x == ("__classdict__" : Str)) = false := by decide) (hs : PlainIx b := by exact fun _ _ => rfl) : De X W (.Subscript (.Name x p1) b pos) (eIxO i g) := by
  obtain ⟨tb, pb, kb⟩ := jb
  refine ⟨_, pe_ix ix_list (pe_var hN hv hd hcd) pb hs, fun G α ρ ω σ H Q O S P => ?_⟩
  unfold eIxO at P
  cases q1 : ownK ρ i with
  | none => rw [q1] at P; exact P.elim
  | some kk =>
    rw [q1] at P; dsimp only at P
    obtain ⟨v, h1, a, h2, rfl⟩ := S.val i _ (ownK_eq q1)
    refine ⟨_, h1, ?_⟩
    refine Post.step (t := tb σ H) (kb G α ρ ω σ H · O S) P fun z ω1 v1 G1 α1 H1 e1 O1 r1 P1 => ?_
    cases q3 : ownL ω1 kk with
    | none => rw [q3] at P1; exact P1.elim
    | some ds =>
      rw [q3] at P1; dsimp only at P1
      obtain ⟨y, e2, P2⟩ := P1.lift
      obtain ⟨more, e3, _⟩ := e1.pre
      have h2' : α1[kk]? = some a := by rw [e3, List.getElem?_append_left (List.getElem?_eq_some_iff.mp h2).1]; exact h2
      obtain ⟨_, vs, h5, h6⟩ := O1.obj kk _ a (ownL_eq q3) h2'
      cases z with
      | int n =>
        obtain ⟨u, h7, h8⟩ := atI_reps h6 e2
        exact ⟨a, vs, n, u, rfl, rep_int.mp (show Rep X.K X.mg G1 (.int n) v1 from r1), SqL.of h5, h7, Post.here O1 (show Rep X.K X.mg G1 y u from h8) P2⟩
      | _ => cases e2
def sRetNew (g : FE (List SV)) : FS := fun ρ ω => (g ρ ω).out ρ fun xs ω1 => match allD xs with
  | some ds => if xs.length ≤ lim then .ret (.own ω1.length) (ω1 ++ [some (.lst ds)]) else .stuck
  | none => .stuck
theorem ds_retNew {es : List Expr} {p1 pos : Pos} {g : FE (List SV)} (h : Da X W es g) : Ds X W (.Return (some (.List es p1)) pos) (sRetNew g) := by
  obtain ⟨t, p, k⟩ := h
  refine ⟨_, ps_ret (pe_lst p), fun G α ρ ω σ H D O S P => ?_⟩
  refine PostS.step S (t := t σ H) (k G α ρ ω σ H · O S) P fun xs ω1 vs G1 α1 H1 e1 O1 r1 P1 => ?_
  cases q : allD xs with
  | none => rw [q] at P1; exact P1.elim
  | some ds =>
    rw [q] at P1
    dsimp only at P1
    split at P1
    · rename_i hl
      have hr := allD_reps q r1
      refine ⟨by rw [lim_eq, ← RepVs.length r1]; exact hl, fun a ha => ?_⟩
      obtain ⟨O2, e2⟩ := O1.new (u := .lst vs) (o := .lst ds) ha ⟨vs, upd_same, hr⟩
      refine P1 _ G1 _ _ e2 O2 ⟨a, ?_, rfl⟩
      rw [← O1.len, List.getElem?_append_right (Nat.le_refl _)]
      simp
    · exact P1.elim
def sNever : FS := fun _ _ => .stuck
theorem ds_never {st : Stmt} : Ds X W st sNever := ⟨_, ps_never, fun G α ρ ω σ H D O S P => P.elim⟩
end
end Dl
namespace Dl
open PySem L2
/-! ### comprehensions of two clauses -/
def lcA (tg : FG) (tt : FE Bool) (el : FE D) (ρ : Rho) : List D → List D → Om → Res (List D)
  | [], acc, ω => .ok acc ω
  | d :: ds, acc, ω => match tg d ρ with
    | none => .stuck
    | some ρ1 => match tt ρ1 ω with
      | .ok true ω1 => match el ρ1 ω1 with
        | .ok y ω2 => if acc.length < lim then lcA tg tt el ρ ds (acc ++ [y]) ω2 else .stuck
        | _ => .stuck
      | .ok false ω1 => lcA tg tt el ρ ds acc ω1
      | _ => .stuck
def lc2L (tg : FG) (tt : FE Bool) (it1 : FE (List D)) (tg1 : FG) (tt1 : FE Bool) (el : FE D) (vs1 : List Nat) (ρ : Rho) : List D → List D → Om → Res D
  | [], acc, ω => .ok (.lst acc) ω
  | d :: ds, acc, ω => match tg d ρ with
    | none => .stuck
    | some ρ1 => match tt ρ1 ω with
      | .ok true ω1 => match it1 ρ1 ω1 with
        | .ok es ω2 => match lcA tg1 tt1 el (wipeR ρ1 vs1) es acc ω2 with
          | .ok acc2 ω3 => lc2L tg tt it1 tg1 tt1 el vs1 ρ ds acc2 ω3
          | _ => .stuck
        | _ => .stuck
      | .ok false ω1 => lc2L tg tt it1 tg1 tt1 el vs1 ρ ds acc ω1
      | _ => .stuck
def eLc2 (vs vs1 : List Nat) (it : FE (List D)) (tg : FG) (tt : FE Bool) (it1 : FE (List D)) (tg1 : FG) (tt1 : FE Bool) (el : FE D) : FE D := fun ρ ω => (it ρ ω).bind fun ds ω1 => lc2L tg tt it1 tg1 tt1 el vs1 (wipeR ρ vs) ds [] ω1
section
variable {K : PySem.W.Frag} {mg : MG}
theorem lcIn_post {tg : TG} {fg : FG} {is vs : List Nat} {tt : TT} {ft : FE Bool} {te : TE} {fe : FE D} {J : It} {ds : List D} {G0 H0 G1 H1 : Hp} {α0 α1 : List Addr} {ρ : Rho} {ω1 : Om} {σ : St} {L : Addr} {acc1 : List D} {Nx : Hp → Prop} (hsub : ∀ i ∈ is, i ∈ vs)
    (kg : ∀ G α ρ σ H d v (Q : St → Hp → Prop), Same G H → Slots K mg G α ρ σ → Rep K mg G d v →
      (match fg d ρ with
        | none => False
        | some ρ' => ∀ σ', Slots K mg G α ρ' σ' → (∀ j, j ∉ is → σ'[j]? = σ[j]?) → σ'.length = σ.length → Q σ' H) → tg v σ H Q)
    (kt : ∀ G α ρ ω σ H Q, Own K mg G α ω H → Slots K mg G α ρ σ → Post K mg RB G α H Q (fun _ _ _ => False) (ft ρ ω) → tt σ H Q)
    (ke : ∀ G α ρ ω σ H Q, Own K mg G α ω H → Slots K mg G α ρ σ → Post K mg (RD K mg) G α H Q (fun _ _ _ => False) (fe ρ ω) → te σ H Q)
    (hL : H0 L = none) (wk : WalkD K mg (fun G' _ => Same G1 G') J ds) (B1 : Lies K mg G0 α0 H0 L G1 α1 ω1 acc1 H1) (S : Slots K mg G1 α1 ρ σ)
    (P : match lcA fg ft fe (wipeR ρ vs) ds acc1 ω1 with
      | .ok acc2 ω2 => ∀ G' α' H', Lies K mg G0 α0 H0 L G' α' ω2 acc2 H' → Nx H'
      | _ => False) :
    ∃ Wv : Nat → Nat → Hp → Prop, (∃ m, Wv 0 m H1) ∧ ∀ i m H, Wv i m H →
      (J.stop i H ∧ Nx H) ∨ (J.go i H ∧ ∃ Nx1 : Hp → Prop, (∀ H', Nx1 H' → ∃ m', m' < m ∧ Wv (i + 1) m' H') ∧ ∀ x H', J.yld i H x H' → tg x (L2.wipe σ vs) H' fun σ2 H2 => L2.wipe σ2 vs = L2.wipe σ vs ∧ tt σ2 H2 fun b H3 =>
        if b = true then te σ2 H3 fun y H4 => ∃ acc, H4 L = some (.lst acc) ∧ acc.length < sizeLine ∧ Nx1 (L2.upd H4 L (.lst (acc ++ [y]))) else Nx1 H3) := by
  refine ⟨fun i m H' => m = ds.length - i ∧ i ≤ ds.length ∧ ∃ G α ω acc, Same G1 G ∧ (∃ more, α = α1 ++ more) ∧ Lies K mg G0 α0 H0 L G α ω acc H' ∧ (match lcA fg ft fe (wipeR ρ vs) (ds.drop i) acc ω with
      | .ok acc2 ω2 => ∀ G' α' H', Lies K mg G0 α0 H0 L G' α' ω2 acc2 H' → Nx H'
      | _ => False), ⟨_, rfl, Nat.zero_le _, G1, α1, ω1, acc1, Same.refl _, ⟨[], by simp⟩, B1, P⟩, ?_⟩
  rintro i m H' ⟨rfl, hi, G, α, ω, acc, sg, sp, B, P⟩
  obtain ⟨w1, w2⟩ := wk i G H' B.own.sub sg
  by_cases hlt : i < ds.length
  · refine .inr ?_
    obtain ⟨go, yl⟩ := w1 ds[i] (List.getElem?_eq_getElem hlt)
    refine ⟨go, fun H' => ∃ G α ω acc, Same G1 G ∧ (∃ more, α = α1 ++ more) ∧ Lies K mg G0 α0 H0 L G α ω acc H' ∧ (match lcA fg ft fe (wipeR ρ vs) (ds.drop (i + 1)) acc ω with
      | .ok acc2 ω2 => ∀ G' α' H', Lies K mg G0 α0 H0 L G' α' ω2 acc2 H' → Nx H'
      | _ => False), fun H' q => ⟨ds.length - (i + 1), by omega, rfl, hlt, q⟩, fun x H2 y => ?_⟩
    obtain ⟨G2, gr, r1⟩ := yl x H2 y
    have B2 := B.step (gr.ext (α := α)) (B.own.grow gr)
    rw [List.drop_eq_getElem_cons hlt] at P
    unfold lcA at P
    have sg2 := sg.trans gr.g
    have S1 : Slots K mg G2 α (wipeR ρ vs) (L2.wipe σ vs) := Slots.wipe ⟨S.len, fun i x h => let ⟨v, h1, h2⟩ := S.val i x h; ⟨v, h1, h2.mono sg2 sp⟩⟩ vs
    refine kg G2 α _ _ H2 _ x _ B2.own.sub S1 r1 ?_
    cases q : fg ds[i] (wipeR ρ vs) with
    | none => rw [q] at P; exact P.elim
    | some ρ1 =>
      rw [q] at P
      intro σ2 S2 c2 l2
      refine ⟨wipe_same hsub c2 l2, kt G2 α ρ1 ω σ2 H2 _ B2.own S2 ?_⟩
      dsimp only at P
      cases q2 : ft ρ1 ω with
      | stuck => rw [q2] at P; exact P.elim
      | exc x ω1 => rw [q2] at P; exact P.elim
      | ok b ω2 =>
        rw [q2] at P
        intro b' G3 α3 H3 e3 O3 r3
        cases r3
        have B3 := B2.step e3 O3
        have sp3 : ∃ more, α3 = α1 ++ more := by
          obtain ⟨m1, h1⟩ := sp
          obtain ⟨m2, h2⟩ := e3.pre'
          exact ⟨m1 ++ m2, by rw [h2, h1, List.append_assoc]⟩
        cases b with
        | false => exact iteF ⟨G3, α3, ω2, acc, sg2.trans e3.g, sp3, B3, P⟩
        | true =>
          refine iteT (ke G3 α3 ρ1 ω2 σ2 H3 _ O3 (S2.mono e3) ?_)
          dsimp only at P
          cases q3 : fe ρ1 ω2 with
          | stuck => rw [q3] at P; exact P.elim
          | exc x ω2 => rw [q3] at P; exact P.elim
          | ok yd ω3 =>
            rw [q3] at P
            dsimp only at P
            by_cases hlim : acc.length < lim
            · rw [if_pos hlim] at P
              intro v G4 α4 H4 e4 O4 r4
              have B4 := B3.step e4 O4
              obtain ⟨vsa, h5, h6⟩ := B4.at_
              refine ⟨vsa, h5, by rw [lim_eq, h6.length]; exact hlim, G4, α4, ω3, acc ++ [yd], (sg2.trans e3.g).trans e4.g, ?_, B4.set hL (h6.append (Reps.one r4)), P⟩
              obtain ⟨m1, h1⟩ := sp3
              obtain ⟨m2, h2⟩ := e4.pre'
              exact ⟨m1 ++ m2, by rw [h2, h1, List.append_assoc]⟩
            · rw [if_neg hlim] at P; exact P.elim
  · have e : i = ds.length := by omega
    subst e
    rw [List.drop_length] at P
    exact .inl ⟨w2 (Nat.le_refl _), P G α H' B⟩
theorem lc2_post {tg tg1 : TG} {fg fg1 : FG} {is is1 vs vs1 : List Nat} {tt tt1 : TT} {ft ft1 : FE Bool} {wi1 : TI} {fi1 : FE (List D)} {te : TE} {fe : FE D} {J : It} {ds : List D} {G0 H : Hp} {α0 : List Addr} {ρ : Rho} {ω : Om} {σ : St} {Q : VK} {E : XK} (hsub : ∀ i ∈ is, i ∈ vs) (hsub1 : ∀ i ∈ is1, i ∈ vs1)
    (kg : ∀ G α ρ σ H d v (Q : St → Hp → Prop), Same G H → Slots K mg G α ρ σ → Rep K mg G d v →
      (match fg d ρ with
        | none => False
        | some ρ' => ∀ σ', Slots K mg G α ρ' σ' → (∀ j, j ∉ is → σ'[j]? = σ[j]?) → σ'.length = σ.length → Q σ' H) → tg v σ H Q)
    (kt : ∀ G α ρ ω σ H Q, Own K mg G α ω H → Slots K mg G α ρ σ → Post K mg RB G α H Q (fun _ _ _ => False) (ft ρ ω) → tt σ H Q)
    (ki1 : ∀ G α ρ ω σ H (R : It → Hp → Prop), Own K mg G α ω H → Slots K mg G α ρ σ → Post K mg (RI K mg) G α H R (fun _ _ _ => False) (fi1 ρ ω) → wi1 σ H R)
    (kg1 : ∀ G α ρ σ H d v (Q : St → Hp → Prop), Same G H → Slots K mg G α ρ σ → Rep K mg G d v →
      (match fg1 d ρ with
        | none => False
        | some ρ' => ∀ σ', Slots K mg G α ρ' σ' → (∀ j, j ∉ is1 → σ'[j]? = σ[j]?) → σ'.length = σ.length → Q σ' H) → tg1 v σ H Q)
    (kt1 : ∀ G α ρ ω σ H Q, Own K mg G α ω H → Slots K mg G α ρ σ → Post K mg RB G α H Q (fun _ _ _ => False) (ft1 ρ ω) → tt1 σ H Q)
    (ke : ∀ G α ρ ω σ H Q, Own K mg G α ω H → Slots K mg G α ρ σ → Post K mg (RD K mg) G α H Q (fun _ _ _ => False) (fe ρ ω) → te σ H Q)
    (wk : WalkD K mg (fun G' _ => Same G0 G') J ds) (O : Own K mg G0 α0 ω H) (S : Slots K mg G0 α0 ρ σ) (P : Post K mg (RD K mg) G0 α0 H Q E (lc2L fg ft fi1 fg1 ft1 fe vs1 (wipeR ρ vs) ds [] ω)) (L : Addr) (hL : H L = none) :
    ∃ Wv : Nat → Nat → Hp → Prop, (∃ m, Wv 0 m (L2.upd H L (.lst []))) ∧ ∀ i m H, Wv i m H →
      (J.stop i H ∧ Q (.ref L) H) ∨ (J.go i H ∧ ∃ Nx : Hp → Prop, (∀ H', Nx H' → ∃ m', m' < m ∧ Wv (i + 1) m' H') ∧ ∀ x H', J.yld i H x H' → tg x (L2.wipe σ vs) H' fun σ2 H2 => L2.wipe σ2 vs = L2.wipe σ vs ∧ tt σ2 H2 fun b H3 =>
        if b = true then wi1 σ2 H3 fun J1 H4 => ∃ W1 : Nat → Nat → Hp → Prop, (∃ m, W1 0 m H4) ∧ ∀ j k H, W1 j k H →
          (J1.stop j H ∧ Nx H) ∨ (J1.go j H ∧ ∃ Nx1 : Hp → Prop, (∀ H', Nx1 H' → ∃ k', k' < k ∧ W1 (j + 1) k' H') ∧ ∀ x H', J1.yld j H x H' → tg1 x (L2.wipe σ2 vs1) H' fun σ3 H5 => L2.wipe σ3 vs1 = L2.wipe σ2 vs1 ∧ tt1 σ3 H5 fun b H6 =>
            if b = true then te σ3 H6 fun y H7 => ∃ acc, H7 L = some (.lst acc) ∧ acc.length < sizeLine ∧ Nx1 (L2.upd H7 L (.lst (acc ++ [y]))) else Nx1 H6)
        else Nx H3) := by
  have hnα : L ∉ α0 := O.na hL
  refine ⟨fun i m H' => m = ds.length - i ∧ i ≤ ds.length ∧ ∃ G α ω acc, Lies K mg G0 α0 H L G α ω acc H' ∧ Post K mg (RD K mg) G0 α0 H Q E (lc2L fg ft fi1 fg1 ft1 fe vs1 (wipeR ρ vs) (ds.drop i) acc ω), ⟨_, rfl, Nat.zero_le _, G0, α0, ω, [], ⟨?_, ?_, O.sub.free hL, hnα, [], upd_same, reps_nil.mpr rfl⟩, P⟩, ?_⟩
  · exact (Grow.side (o := .lst []) O.sub hL).ext
  · exact O.grow (Grow.side O.sub hL)
  rintro i m H' ⟨rfl, hi, G, α, ω, acc, B, P⟩
  obtain ⟨w1, w2⟩ := wk i G H' B.own.sub B.ext.g
  by_cases hlt : i < ds.length
  · refine .inr ?_
    obtain ⟨go, yl⟩ := w1 ds[i] (List.getElem?_eq_getElem hlt)
    refine ⟨go, fun H' => ∃ G α ω acc, Lies K mg G0 α0 H L G α ω acc H' ∧ Post K mg (RD K mg) G0 α0 H Q E (lc2L fg ft fi1 fg1 ft1 fe vs1 (wipeR ρ vs) (ds.drop (i + 1)) acc ω), fun H' q => ⟨ds.length - (i + 1), by omega, rfl, hlt, q⟩, fun x H1 y => ?_⟩
    obtain ⟨G1, gr, r1⟩ := yl x H1 y
    have B1 := B.step (gr.ext (α := α)) (B.own.grow gr)
    rw [List.drop_eq_getElem_cons hlt] at P
    unfold lc2L at P
    have S1 : Slots K mg G1 α (wipeR ρ vs) (L2.wipe σ vs) := (S.mono B1.ext).wipe vs
    refine kg G1 α _ _ H1 _ x _ B1.own.sub S1 r1 ?_
    cases q : fg ds[i] (wipeR ρ vs) with
    | none => rw [q] at P; exact P.elim
    | some ρ1 =>
      rw [q] at P
      intro σ2 S2 c2 l2
      refine ⟨wipe_same hsub c2 l2, kt G1 α ρ1 ω σ2 H1 _ B1.own S2 ?_⟩
      dsimp only at P
      cases q2 : ft ρ1 ω with
      | stuck => rw [q2] at P; exact P.elim
      | exc x ω1 => rw [q2] at P; exact P.elim
      | ok b ω1 =>
        rw [q2] at P
        intro b' G2 α2 H2 e2 O2 r2
        cases r2
        have B2 := B1.step e2 O2
        cases b with
        | false => exact iteF ⟨G2, α2, ω1, acc, B2, P⟩
        | true =>
          refine iteT (ki1 G2 α2 ρ1 ω1 σ2 H2 _ O2 (S2.mono e2) ?_)
          dsimp only at P
          cases q3 : fi1 ρ1 ω1 with
          | stuck => rw [q3] at P; exact P.elim
          | exc x ω2 => rw [q3] at P; exact P.elim
          | ok es ω2 =>
            rw [q3] at P
            dsimp only at P
            intro J1 G3 α3 H3 e3 O3 w3
            have B3 := B2.step e3 O3
            refine lcIn_post hsub1 kg1 kt1 ke hL w3 B3 ((S2.mono e2).mono e3) ?_
            cases q4 : lcA fg1 ft1 fe (wipeR ρ1 vs1) es acc ω2 with
            | stuck => rw [q4] at P; exact P.elim
            | exc _ _ => rw [q4] at P; exact P.elim
            | ok acc2 ω3 =>
              rw [q4] at P
              exact fun G' α' H' B' => ⟨G', α', ω3, acc2, B', P⟩
  · have e : i = ds.length := by omega
    subst e
    rw [List.drop_length] at P
    obtain ⟨G', e', O', r'⟩ := B.freeze hL
    exact .inl ⟨w2 (Nat.le_refl _), P _ G' α H' e' O' r'⟩
end
section
variable {X : Cx} {W : WX} {pos : Pos}
theorem lc2_read {K : PySem.W.Frag} {mg : MG} {wi : TI} {vs vs1 is is1 : List Nat} {fi fi1 : FE (List D)} {fg fg1 : FG} {ft ft1 : FE Bool} {fe : FE D} (hsub : ∀ i ∈ is, i ∈ vs) (hsub1 : ∀ i ∈ is1, i ∈ vs1)
    (ki : ∀ G α ρ ω σ H (R : It → Hp → Prop), Own K mg G α ω H → Slots K mg G α ρ σ → Post K mg (RI K mg) G α H R (fun c d H' => W c d σ H') (fi ρ ω) → wi σ H R)
    (G α ρ ω σ H Q) (O : Own K mg G α ω H) (S : Slots K mg G α ρ σ) (P : Post K mg (RD K mg) G α H Q (fun c d H' => W c d σ H') (eLc2 vs vs1 fi fg ft fi1 fg1 ft1 fe ρ ω)) :
    tLc2 wi (tcG K mg is fg) (tcT K mg W0 ft) (tcI K mg W0 fi1) (tcG K mg is1 fg1) (tcT K mg W0 ft1) (tcE K mg W0 fe) vs vs1 σ H Q := by
  refine Post.step (t := wi σ H) (ki G α ρ ω σ H · O S) P fun ds ω1 J G1 α1 H1 e1 O1 w1 P1 => ?_
  intro L hL
  exact lc2_post hsub hsub1 (fun G α ρ σ H d v Q s S r h => ⟨G, α, ρ, d, s, S, r, h⟩) (fun G α ρ ω σ H Q O S P => ⟨G, α, ρ, ω, O, S, P⟩) (fun G α ρ ω σ H Q O S P => ⟨G, α, ρ, ω, O, S, P⟩) (fun G α ρ σ H d v Q s S r h => ⟨G, α, ρ, d, s, S, r, h⟩) (fun G α ρ ω σ H Q O S P => ⟨G, α, ρ, ω, O, S, P⟩) (fun G α ρ ω σ H Q O S P => ⟨G, α, ρ, ω, O, S, P⟩) w1 O1 (S.mono e1) P1 L hL
theorem de_lc2 {elt tg iter tg1 iter1 : Expr} {ifs ifs1 : List Expr} {scope : Scope} {own : List (Str × Nat)} {is is1 vs1 : List Nat} {fi fi1 : FE (List D)} {fg fg1 : FG} {ft ft1 : FE Bool} {fe : FE D} (hc : X.calm = true) (hN : X.N.Nodup) (hi : Di X W tg iter fi) (ok : BlkOk X.N X.env.scope scope own) (hv : ∀ i ∈ vs1, i ∈ own.map (·.2))
    (hg : ∀ (s : Shared) (H : Hp) (C : Addr) (cl : List (Str × Addr)) (fp : List Addr), Dg (X.blk s H scope (compEnvC scope cl C X.env) fp) tg is fg) (ht : ∀ (s : Shared) (H : Hp) (C : Addr) (cl : List (Str × Addr)) (fp : List Addr), Dts (X.blk s H scope (compEnvC scope cl C X.env) fp) W0 ifs ft)
    (hi1 : ∀ (s : Shared) (H : Hp) (C : Addr) (cl : List (Str × Addr)) (fp : List Addr), Di (X.blk s H scope (compEnvC scope cl C X.env) fp) W0 tg1 iter1 fi1)
    (hg1 : ∀ (s : Shared) (H : Hp) (C : Addr) (cl : List (Str × Addr)) (fp : List Addr), Dg (X.blk s H scope (compEnvC scope cl C X.env) fp) tg1 is1 fg1) (ht1 : ∀ (s : Shared) (H : Hp) (C : Addr) (cl : List (Str × Addr)) (fp : List Addr), Dts (X.blk s H scope (compEnvC scope cl C X.env) fp) W0 ifs1 ft1)
    (he : ∀ (s : Shared) (H : Hp) (C : Addr) (cl : List (Str × Addr)) (fp : List Addr), De (X.blk s H scope (compEnvC scope cl C X.env) fp) W0 elt fe) (hsub : ∀ i ∈ is, i ∈ own.map (·.2)) (hsub1 : ∀ i ∈ is1, i ∈ vs1) (hs : ∀ x, foldedSetIterable iter X.env x = pure x := by intro _; rfl) (hs1 : ∀ env x, foldedSetIterable iter1 env x = pure x := by intro _ _; rfl) :
    De X W (.ListComp elt [⟨tg, iter, ifs, 0⟩, ⟨tg1, iter1, ifs1, 0⟩] scope pos) (eLc2 (own.map (·.2)) vs1 fi fg ft fi1 fg1 ft1 fe) := by
  obtain ⟨wi, pi, ki⟩ := hi
  exact ⟨_, pe_lc2 (g := tcG X.K X.mg is fg) (tt := tcT X.K X.mg W0 ft) (wi1 := tcI X.K X.mg W0 fi1) (g1 := tcG X.K X.mg is1 fg1) (tt1 := tcT X.K X.mg W0 ft1) (te := tcE X.K X.mg W0 fe) hc hN pi ok hv (fun s H C cl fp => can_g (hg s H C cl fp)) (fun s H C cl fp => can_ts (ht s H C cl fp)) (fun s H C cl fp => can_i (hi1 s H C cl fp)) (fun s H C cl fp => can_g (hg1 s H C cl fp)) (fun s H C cl fp => can_ts (ht1 s H C cl fp)) (fun s H C cl fp => can_e (he s H C cl fp)) hs hs1, lc2_read hsub hsub1 ki⟩
end
end Dl
namespace Dl
open PySem L2
/-- a def of the text as it stands behind the top -/
structure DefAt (K : PySem.W.Frag) (x qual : Str) (st : Stmt) (f : Addr) (fd : FuncData) (ps : List Str) : Prop where
  fn : Fun K x qual st f fd
  bd : Binds K fd ps []
theorem ask_int {K : PySem.W.Frag} : TyAsk K "int" := fun t ht => kit_ty ((by decide +kernel : ∀ t ∈ tyNames, kitB t "int" = some (isTy t "int")) t ht)
theorem ask_bool {K : PySem.W.Frag} : TyAsk K "bool" := fun t ht => kit_ty ((by decide +kernel : ∀ t ∈ tyNames, kitB t "bool" = some (isTy t "bool")) t ht)
theorem ask_tuple {K : PySem.W.Frag} : TyAsk K "tuple" := fun t ht => kit_ty ((by decide +kernel : ∀ t ∈ tyNames, kitB t "tuple" = some (isTy t "tuple")) t ht)
theorem ask_str {K : PySem.W.Frag} : TyAsk K "str" := fun t ht => kit_ty ((by decide +kernel : ∀ t ∈ tyNames, kitB t "str" = some (isTy t "str")) t ht)
theorem ask_list {K : PySem.W.Frag} : TyAsk K "list" := fun t ht => kit_ty ((by decide +kernel : ∀ t ∈ tyNames, kitB t "list" = some (isTy t "list")) t ht)
/-- what is asked of the law -/
def spLaw (K : PySem.W.Frag) : Sp := fun vs H Q _ => ∃ (a : Addr) (ns : List Int), vs = [.ref a] ∧ SqL K H a (ns.map V.int) ∧ ns.length ≤ 63 ∧ ∀ H', Q (.bl true) H'
theorem law_ok {P : Program} {w : World} {K : PySem.W.Frag} {mg : MG} {base : Heap} {k : Nat} {f : Addr} {fd : FuncData} {ps : List Str} {F : FnP} (hF : ∀ ns : List Int, ns.length ≤ 63 → F [.lst (ns.map D.int)] = some (.ok (.bl true)))
    (ok : FnOk P w K mg base (L2.CX P w) k f fd ps (spP K mg F)) : FnOk P w K mg base (L2.CX P w) k f fd ps (spLaw K) := by
  refine ok.imp fun vs H Q E h => ?_
  obtain ⟨a, ns, rfl, hS, hl, q⟩ := h
  refine ⟨H, [.lst (ns.map D.int)], Same.refl _, Reps.one (rep_lst.mpr ⟨a, _, rfl, hS, reps_ints ns⟩), ?_⟩
  rw [hF ns hl]
  intro v G' H' g r
  rw [rep_bl.mp r]
  exact q H'
theorem walk {l : PySem.W.OpenLaw} {q : Program} {loose : List Str} {XP : (Str → Option Value) → Heap → Prop} {YP : World → Heap → Prop} {d : DefRec} {K : Params → PySem.W.Frag} {k : Nat} {x : Str} (hn : l.most = some 63) (hdf : d.params.defaults = []) (hk : k ≤ 60)
    (hY : ∀ (w : World) (h : Heap), YP w h → (K w.params).In h)
    (F : ∀ (w : World) (mg : Str → Option Value) (fa : Addr) (h : Heap), (K w.params).In h → h.Ns mainGlobals mg → mg d.name = some (.ref fa) →
      ∃ fd : FuncData, (∀ (s : Shared) (u : Value), BindsTo s fd ⟨[u], []⟩ [(x, u)]) ∧ ∀ base : Heap, (K w.params).In base → base.Ns mainGlobals mg → FnOk l.prog w (K w.params) mg base (L2.CX l.prog w) k fa fd [x] (spLaw (K w.params))) :
    PySem.W.WalkO q loose XP YP l.row.toRowW d [] (fun f vs => PySem.call f vs) :=
  L2.walk_of (n := 63) (k := k) (x := x) (CX := fun w => L2.CX l.prog w) (sp := fun w => spLaw (K w.params)) hn (by decide) hdf (Room.mono ⟨rfl, by decide, by decide⟩ hk) hY F (fun _ _ a ns hl _ hS => ⟨a, ns, rfl, hS, hl, fun _ => rfl⟩)
    fun _ _ _ _ _ z => by
      obtain ⟨_, _, _, _, _, _, _, _, _, _, _, _, z⟩ := z
      exact z.elim
end Dl
namespace Dl
open PySem L2
/-! ### running denotations: one lemma a combinator -/
theorem eqD_int (i j : Int) : eqD (.int i) (.int j) = some (i == j) := by
  simp [eqD, toPy, SeqAt.shaped, PyData.canLay0, PyData.depth, PyData.eqv]
theorem eqD_bl (i j : Bool) : eqD (.bl i) (.bl j) = some (i == j) := by
  simp [eqD, toPy, SeqAt.shaped, PyData.canLay0, PyData.depth, PyData.eqv]
theorem eqD_non_non : eqD .non .non = some true := by
  simp [eqD, toPy, SeqAt.shaped, PyData.canLay0, PyData.depth, PyData.eqv]
theorem eqD_str {i j : Str} (hi : PyData.strOk i = true) (hj : PyData.strOk j = true) : eqD (.str i) (.str j) = some (i == j) := by
  simp [eqD, toPy, SeqAt.shaped, PyData.canLay0, PyData.depth, PyData.eqv, hi, hj]
class KtR (β γ : Type) where
  run : β → Om → Res γ
class KtO (β : Type) where
  run : β → Om → Out
class KtB where
  run : Rho → Om → Out
class KtS (β γ : Type) where
  run : β → Res γ
class KtT (β : Type) where
  run : β → Out
class KtC where
  run : Om → Res D
/-- simp does not look into an instance argument: what comes later waits there -/
def bindL {β γ : Type} (r : Res β) [k : KtR β γ] : Res γ := r.bind k.run
def outL {β : Type} (r : Res β) (ρ : Rho) [k : KtO β] : Out := r.out ρ k.run
def obL (r : Out) [k : KtB] : Out := r.bind k.run
section
variable {β γ : Type} {d x y : D} {ds es : List D} {ρ : Rho} {ω : Om} {i j k : Nat}
theorem bind_ok (a : β) (ω : Om) (g : β → Om → Res γ) : @bindL _ _ (Res.ok a ω) ⟨g⟩ = g a ω := rfl
theorem bind_exc (x : Exn) (ω : Om) (g : β → Om → Res γ) : @bindL _ _ (Res.exc x ω) ⟨g⟩ = .exc x ω := rfl
theorem out_ok (a : β) (ω : Om) (ρ : Rho) (g : β → Om → Out) : @outL _ (Res.ok a ω) ρ ⟨g⟩ = g a ω := rfl
theorem out_exc (x : Exn) (ω : Om) (ρ : Rho) (g : β → Om → Out) : @outL _ (Res.exc x ω) ρ ⟨g⟩ = .exc x ρ ω := rfl
theorem lift_some (a : β) (ω : Om) : Res.lift (some a) ω = .ok a ω := rfl
theorem obind_next (ρ : Rho) (ω : Om) (k : Rho → Om → Out) : @obL (Out.next ρ ω) ⟨k⟩ = k ρ ω := rfl
theorem obind_ret (x : SV) (ω : Om) (k : Rho → Om → Out) : @obL (Out.ret x ω) ⟨k⟩ = .ret x ω := rfl
theorem obind_exc (x : Exn) (ρ : Rho) (ω : Om) (k : Rho → Om → Out) : @obL (Out.exc x ρ ω) ⟨k⟩ = .exc x ρ ω := rfl
theorem obind_brk (ρ : Rho) (ω : Om) (k : Rho → Om → Out) : @obL (Out.brk ρ ω) ⟨k⟩ = .brk ρ ω := rfl
theorem obind_cont (ρ : Rho) (ω : Om) (k : Rho → Om → Out) : @obL (Out.cont ρ ω) ⟨k⟩ = .cont ρ ω := rfl
def varR : Option (Option SV) → Om → Res D
  | some (some (.val d)), ω => .ok d ω
  | _, _ => .stuck
def slotR : Option (Option SV) → Om → Res SV
  | some (some x), ω => .ok x ω
  | _, _ => .stuck
theorem eC_run : eC d ρ ω = .ok d ω := rfl
theorem eVar_run : eVar i ρ ω = varR ρ[i]? ω := by unfold eVar varR; split <;> simp_all
theorem varR_run : varR (some (some (.val d))) ω = .ok d ω := rfl
theorem eSlot_run : eSlot i ρ ω = slotR ρ[i]? ω := by unfold eSlot slotR; split <;> simp_all
theorem slotR_run {s : SV} : slotR (some (some s)) ω = .ok s ω := rfl
theorem eBin_run0 (op) (f g : FE D) : eBin op f g ρ ω = (f ρ ω).bind fun x ω1 => (g ρ ω1).bind fun y ω2 => Res.lift (op x y) ω2 := rfl
theorem eBin_run (op) (f g : FE D) : eBin op f g ρ ω = bindL (f ρ ω) (k := ⟨fun x ω1 => bindL (g ρ ω1) (k := ⟨fun y ω2 => Res.lift (op x y) ω2⟩)⟩) := by first | exact eBin_run0 | exact eBin_run0 _ | exact eBin_run0 _ _ | exact eBin_run0 _ _ _ | exact eBin_run0 _ _ _ _ | exact eBin_run0 _ _ _ _ _ | exact eBin_run0 _ _ _ _ _ _ | exact eBin_run0 _ _ _ _ _ _ _ | exact eBin_run0 _ _ _ _ _ _ _ _ | exact eBin_run0 _ _ _ _ _ _ _ _ _
theorem eUn_run0 (op) (f : FE D) : eUn op f ρ ω = (f ρ ω).bind fun x ω1 => Res.lift (op x) ω1 := rfl
theorem eUn_run (op) (f : FE D) : eUn op f ρ ω = bindL (f ρ ω) (k := ⟨fun x ω1 => Res.lift (op x) ω1⟩) := by first | exact eUn_run0 | exact eUn_run0 _ | exact eUn_run0 _ _ | exact eUn_run0 _ _ _ | exact eUn_run0 _ _ _ _ | exact eUn_run0 _ _ _ _ _ | exact eUn_run0 _ _ _ _ _ _ | exact eUn_run0 _ _ _ _ _ _ _ | exact eUn_run0 _ _ _ _ _ _ _ _ | exact eUn_run0 _ _ _ _ _ _ _ _ _
theorem eTest_run0 (f : FE D) : eTest f ρ ω = (f ρ ω).bind fun d ω1 => Res.lift (asBl d) ω1 := rfl
theorem eTest_run (f : FE D) : eTest f ρ ω = bindL (f ρ ω) (k := ⟨fun d ω1 => Res.lift (asBl d) ω1⟩) := by first | exact eTest_run0 | exact eTest_run0 _ | exact eTest_run0 _ _ | exact eTest_run0 _ _ _ | exact eTest_run0 _ _ _ _ | exact eTest_run0 _ _ _ _ _ | exact eTest_run0 _ _ _ _ _ _ | exact eTest_run0 _ _ _ _ _ _ _ | exact eTest_run0 _ _ _ _ _ _ _ _ | exact eTest_run0 _ _ _ _ _ _ _ _ _
theorem asBl_run (b : Bool) : asBl (.bl b) = some b := rfl
theorem eAndT_run0 (f g : FE Bool) : eAndT f g ρ ω = (f ρ ω).bind fun c ω1 => if c = true then g ρ ω1 else .ok false ω1 := rfl
theorem eAndT_run (f g : FE Bool) : eAndT f g ρ ω = bindL (f ρ ω) (k := ⟨fun c ω1 => if c = true then g ρ ω1 else .ok false ω1⟩) := by first | exact eAndT_run0 | exact eAndT_run0 _ | exact eAndT_run0 _ _ | exact eAndT_run0 _ _ _ | exact eAndT_run0 _ _ _ _ | exact eAndT_run0 _ _ _ _ _ | exact eAndT_run0 _ _ _ _ _ _ | exact eAndT_run0 _ _ _ _ _ _ _ | exact eAndT_run0 _ _ _ _ _ _ _ _ | exact eAndT_run0 _ _ _ _ _ _ _ _ _
theorem eOrT_run0 (f g : FE Bool) : eOrT f g ρ ω = (f ρ ω).bind fun c ω1 => if c = true then .ok true ω1 else g ρ ω1 := rfl
theorem eOrT_run (f g : FE Bool) : eOrT f g ρ ω = bindL (f ρ ω) (k := ⟨fun c ω1 => if c = true then .ok true ω1 else g ρ ω1⟩) := by first | exact eOrT_run0 | exact eOrT_run0 _ | exact eOrT_run0 _ _ | exact eOrT_run0 _ _ _ | exact eOrT_run0 _ _ _ _ | exact eOrT_run0 _ _ _ _ _ | exact eOrT_run0 _ _ _ _ _ _ | exact eOrT_run0 _ _ _ _ _ _ _ | exact eOrT_run0 _ _ _ _ _ _ _ _ | exact eOrT_run0 _ _ _ _ _ _ _ _ _
theorem eNotT_run0 (f : FE Bool) : eNotT f ρ ω = (f ρ ω).bind fun c ω1 => .ok (!c) ω1 := rfl
theorem eNotT_run (f : FE Bool) : eNotT f ρ ω = bindL (f ρ ω) (k := ⟨fun c ω1 => .ok (!c) ω1⟩) := by first | exact eNotT_run0 | exact eNotT_run0 _ | exact eNotT_run0 _ _ | exact eNotT_run0 _ _ _ | exact eNotT_run0 _ _ _ _ | exact eNotT_run0 _ _ _ _ _ | exact eNotT_run0 _ _ _ _ _ _ | exact eNotT_run0 _ _ _ _ _ _ _ | exact eNotT_run0 _ _ _ _ _ _ _ _ | exact eNotT_run0 _ _ _ _ _ _ _ _ _
theorem eTrue_run : eTrue ρ ω = .ok true ω := rfl
theorem eAnd_run0 (f g : FE D) : eAnd f g ρ ω = (eTest f ρ ω).bind fun c ω1 => if c = true then g ρ ω1 else .ok (.bl false) ω1 := rfl
theorem eAnd_run (f g : FE D) : eAnd f g ρ ω = bindL (eTest f ρ ω) (k := ⟨fun c ω1 => if c = true then g ρ ω1 else .ok (.bl false) ω1⟩) := by first | exact eAnd_run0 | exact eAnd_run0 _ | exact eAnd_run0 _ _ | exact eAnd_run0 _ _ _ | exact eAnd_run0 _ _ _ _ | exact eAnd_run0 _ _ _ _ _ | exact eAnd_run0 _ _ _ _ _ _ | exact eAnd_run0 _ _ _ _ _ _ _ | exact eAnd_run0 _ _ _ _ _ _ _ _ | exact eAnd_run0 _ _ _ _ _ _ _ _ _
theorem eOr_run0 (f g : FE D) : eOr f g ρ ω = (eTest f ρ ω).bind fun c ω1 => if c = true then .ok (.bl true) ω1 else g ρ ω1 := rfl
theorem eOr_run (f g : FE D) : eOr f g ρ ω = bindL (eTest f ρ ω) (k := ⟨fun c ω1 => if c = true then .ok (.bl true) ω1 else g ρ ω1⟩) := by first | exact eOr_run0 | exact eOr_run0 _ | exact eOr_run0 _ _ | exact eOr_run0 _ _ _ | exact eOr_run0 _ _ _ _ | exact eOr_run0 _ _ _ _ _ | exact eOr_run0 _ _ _ _ _ _ | exact eOr_run0 _ _ _ _ _ _ _ | exact eOr_run0 _ _ _ _ _ _ _ _ | exact eOr_run0 _ _ _ _ _ _ _ _ _
theorem eNot_run0 (f : FE D) : eNot f ρ ω = (eTest f ρ ω).bind fun c ω1 => .ok (.bl (!c)) ω1 := rfl
theorem eNot_run (f : FE D) : eNot f ρ ω = bindL (eTest f ρ ω) (k := ⟨fun c ω1 => .ok (.bl (!c)) ω1⟩) := by first | exact eNot_run0 | exact eNot_run0 _ | exact eNot_run0 _ _ | exact eNot_run0 _ _ _ | exact eNot_run0 _ _ _ _ | exact eNot_run0 _ _ _ _ _ | exact eNot_run0 _ _ _ _ _ _ | exact eNot_run0 _ _ _ _ _ _ _ | exact eNot_run0 _ _ _ _ _ _ _ _ | exact eNot_run0 _ _ _ _ _ _ _ _ _
theorem eIf_run0 (c : FE Bool) (f g : FE D) : eIf c f g ρ ω = (c ρ ω).bind fun b ω1 => if b = true then f ρ ω1 else g ρ ω1 := rfl
theorem eIf_run (c : FE Bool) (f g : FE D) : eIf c f g ρ ω = bindL (c ρ ω) (k := ⟨fun b ω1 => if b = true then f ρ ω1 else g ρ ω1⟩) := by first | exact eIf_run0 | exact eIf_run0 _ | exact eIf_run0 _ _ | exact eIf_run0 _ _ _ | exact eIf_run0 _ _ _ _ | exact eIf_run0 _ _ _ _ _ | exact eIf_run0 _ _ _ _ _ _ | exact eIf_run0 _ _ _ _ _ _ _ | exact eIf_run0 _ _ _ _ _ _ _ _ | exact eIf_run0 _ _ _ _ _ _ _ _ _
theorem aNil_run : aNil ρ ω = .ok [] ω := rfl
theorem aCons_run0 (f : FE SV) (g : FE (List SV)) : aCons f g ρ ω = (f ρ ω).bind fun x ω1 => (g ρ ω1).bind fun xs ω2 => .ok (x :: xs) ω2 := rfl
theorem aCons_run (f : FE SV) (g : FE (List SV)) : aCons f g ρ ω = bindL (f ρ ω) (k := ⟨fun x ω1 => bindL (g ρ ω1) (k := ⟨fun xs ω2 => .ok (x :: xs) ω2⟩)⟩) := by first | exact aCons_run0 | exact aCons_run0 _ | exact aCons_run0 _ _ | exact aCons_run0 _ _ _ | exact aCons_run0 _ _ _ _ | exact aCons_run0 _ _ _ _ _ | exact aCons_run0 _ _ _ _ _ _ | exact aCons_run0 _ _ _ _ _ _ _ | exact aCons_run0 _ _ _ _ _ _ _ _ | exact aCons_run0 _ _ _ _ _ _ _ _ _
theorem aVal_run0 (f : FE D) : aVal f ρ ω = (f ρ ω).bind fun d ω1 => .ok (.val d) ω1 := rfl
theorem aVal_run (f : FE D) : aVal f ρ ω = bindL (f ρ ω) (k := ⟨fun d ω1 => .ok (.val d) ω1⟩) := by first | exact aVal_run0 | exact aVal_run0 _ | exact aVal_run0 _ _ | exact aVal_run0 _ _ _ | exact aVal_run0 _ _ _ _ | exact aVal_run0 _ _ _ _ _ | exact aVal_run0 _ _ _ _ _ _ | exact aVal_run0 _ _ _ _ _ _ _ | exact aVal_run0 _ _ _ _ _ _ _ _ | exact aVal_run0 _ _ _ _ _ _ _ _ _
theorem allD_nil : allD [] = some [] := rfl
theorem allD_cons (xs : List SV) : allD (.val d :: xs) = (allD xs).map (d :: ·) := rfl
def tupR (o : Option (List D)) (n : Nat) : Option D := if n ≤ lim then o.map D.tup else none
def lstR (o : Option (List D)) (n : Nat) : Option D := if n ≤ lim then o.map D.lst else none
theorem eTup_run0 (g : FE (List SV)) : eTup g ρ ω = (g ρ ω).bind fun xs ω1 => Res.lift (tupR (allD xs) xs.length) ω1 := rfl
theorem eTup_run (g : FE (List SV)) : eTup g ρ ω = bindL (g ρ ω) (k := ⟨fun xs ω1 => Res.lift (tupR (allD xs) xs.length) ω1⟩) := by first | exact eTup_run0 | exact eTup_run0 _ | exact eTup_run0 _ _ | exact eTup_run0 _ _ _ | exact eTup_run0 _ _ _ _ | exact eTup_run0 _ _ _ _ _ | exact eTup_run0 _ _ _ _ _ _ | exact eTup_run0 _ _ _ _ _ _ _ | exact eTup_run0 _ _ _ _ _ _ _ _ | exact eTup_run0 _ _ _ _ _ _ _ _ _
theorem eList_run0 (g : FE (List SV)) : eList g ρ ω = (g ρ ω).bind fun xs ω1 => Res.lift (lstR (allD xs) xs.length) ω1 := rfl
theorem eList_run (g : FE (List SV)) : eList g ρ ω = bindL (g ρ ω) (k := ⟨fun xs ω1 => Res.lift (lstR (allD xs) xs.length) ω1⟩) := by first | exact eList_run0 | exact eList_run0 _ | exact eList_run0 _ _ | exact eList_run0 _ _ _ | exact eList_run0 _ _ _ _ | exact eList_run0 _ _ _ _ _ | exact eList_run0 _ _ _ _ _ _ | exact eList_run0 _ _ _ _ _ _ _ | exact eList_run0 _ _ _ _ _ _ _ _ | exact eList_run0 _ _ _ _ _ _ _ _ _
theorem tupR_run {n : Nat} (h : n ≤ lim) : tupR (some ds) n = some (.tup ds) := by unfold tupR; rw [if_pos h]; rfl
theorem lstR_run {n : Nat} (h : n ≤ lim) : lstR (some ds) n = some (.lst ds) := by unfold lstR; rw [if_pos h]; rfl
theorem eLst_run0 (f : FE D) : eLst f ρ ω = (f ρ ω).bind fun d ω1 => Res.lift (asLst d) ω1 := rfl
theorem eLst_run (f : FE D) : eLst f ρ ω = bindL (f ρ ω) (k := ⟨fun d ω1 => Res.lift (asLst d) ω1⟩) := by first | exact eLst_run0 | exact eLst_run0 _ | exact eLst_run0 _ _ | exact eLst_run0 _ _ _ | exact eLst_run0 _ _ _ _ | exact eLst_run0 _ _ _ _ _ | exact eLst_run0 _ _ _ _ _ _ | exact eLst_run0 _ _ _ _ _ _ _ | exact eLst_run0 _ _ _ _ _ _ _ _ | exact eLst_run0 _ _ _ _ _ _ _ _ _
theorem asLst_run : asLst (.lst ds) = some ds := rfl
theorem eCallB_run0 (op) (g : FE (List SV)) : eCallB op g ρ ω = (g ρ ω).bind fun xs ω1 => Res.lift ((allD xs).bind op) ω1 := rfl
theorem eCallB_run (op) (g : FE (List SV)) : eCallB op g ρ ω = bindL (g ρ ω) (k := ⟨fun xs ω1 => Res.lift ((allD xs).bind op) ω1⟩) := by first | exact eCallB_run0 | exact eCallB_run0 _ | exact eCallB_run0 _ _ | exact eCallB_run0 _ _ _ | exact eCallB_run0 _ _ _ _ | exact eCallB_run0 _ _ _ _ _ | exact eCallB_run0 _ _ _ _ _ _ | exact eCallB_run0 _ _ _ _ _ _ _ | exact eCallB_run0 _ _ _ _ _ _ _ _ | exact eCallB_run0 _ _ _ _ _ _ _ _ _
theorem eOnL_run0 (op) (g : FE (List D)) : eOnL op g ρ ω = (g ρ ω).bind fun ds ω1 => Res.lift (op ds) ω1 := rfl
theorem eOnL_run (op) (g : FE (List D)) : eOnL op g ρ ω = bindL (g ρ ω) (k := ⟨fun ds ω1 => Res.lift (op ds) ω1⟩) := by first | exact eOnL_run0 | exact eOnL_run0 _ | exact eOnL_run0 _ _ | exact eOnL_run0 _ _ _ | exact eOnL_run0 _ _ _ _ | exact eOnL_run0 _ _ _ _ _ | exact eOnL_run0 _ _ _ _ _ _ | exact eOnL_run0 _ _ _ _ _ _ _ | exact eOnL_run0 _ _ _ _ _ _ _ _ | exact eOnL_run0 _ _ _ _ _ _ _ _ _
theorem eIsi_run0 (u) (f : FE D) : eIsi u f ρ ω = (f ρ ω).bind fun d ω1 => Res.lift (isiD u d) ω1 := rfl
theorem eIsi_run (u) (f : FE D) : eIsi u f ρ ω = bindL (f ρ ω) (k := ⟨fun d ω1 => Res.lift (isiD u d) ω1⟩) := by first | exact eIsi_run0 | exact eIsi_run0 _ | exact eIsi_run0 _ _ | exact eIsi_run0 _ _ _ | exact eIsi_run0 _ _ _ _ | exact eIsi_run0 _ _ _ _ _ | exact eIsi_run0 _ _ _ _ _ _ | exact eIsi_run0 _ _ _ _ _ _ _ | exact eIsi_run0 _ _ _ _ _ _ _ _ | exact eIsi_run0 _ _ _ _ _ _ _ _ _
theorem eSl_run0 (f : FE D) (lo hi : FE (Option Int)) : eSl f lo hi ρ ω = (f ρ ω).bind fun d ω1 => (lo ρ ω1).bind fun l ω2 => (hi ρ ω2).bind fun h ω3 => Res.lift (slD l h d) ω3 := rfl
theorem eSl_run (f : FE D) (lo hi : FE (Option Int)) : eSl f lo hi ρ ω = bindL (f ρ ω) (k := ⟨fun d ω1 => bindL (lo ρ ω1) (k := ⟨fun l ω2 => bindL (hi ρ ω2) (k := ⟨fun h ω3 => Res.lift (slD l h d) ω3⟩)⟩)⟩) := by first | exact eSl_run0 | exact eSl_run0 _ | exact eSl_run0 _ _ | exact eSl_run0 _ _ _ | exact eSl_run0 _ _ _ _ | exact eSl_run0 _ _ _ _ _ | exact eSl_run0 _ _ _ _ _ _ | exact eSl_run0 _ _ _ _ _ _ _ | exact eSl_run0 _ _ _ _ _ _ _ _ | exact eSl_run0 _ _ _ _ _ _ _ _ _
theorem ePart_run0 (f : FE D) : ePart f ρ ω = (f ρ ω).bind fun d ω1 => Res.lift (asI d) ω1 := rfl
theorem ePart_run (f : FE D) : ePart f ρ ω = bindL (f ρ ω) (k := ⟨fun d ω1 => Res.lift (asI d) ω1⟩) := by first | exact ePart_run0 | exact ePart_run0 _ | exact ePart_run0 _ _ | exact ePart_run0 _ _ _ | exact ePart_run0 _ _ _ _ | exact ePart_run0 _ _ _ _ _ | exact ePart_run0 _ _ _ _ _ _ | exact ePart_run0 _ _ _ _ _ _ _ | exact ePart_run0 _ _ _ _ _ _ _ _ | exact ePart_run0 _ _ _ _ _ _ _ _ _
theorem asI_run (n : Int) : asI (.int n) = some (some n) := rfl
theorem eNoPart_run : eNoPart ρ ω = .ok none ω := rfl
def chR (o : Option D) (ω : Om) (k : Om → Res D) : Res D := match o with
  | some (.bl true) => k ω
  | some (.bl false) => .ok (.bl false) ω
  | _ => .stuck
def chRL (o : Option D) (ω : Om) [k : KtC] : Res D := chR o ω k.run
theorem eChain_run0 (op op') (f g h : FE D) : eChain op op' f g h ρ ω = (f ρ ω).bind fun x ω1 => (g ρ ω1).bind fun y ω2 => chR (op x y) ω2 fun ω2 => (h ρ ω2).bind fun z ω3 => Res.lift (op' y z) ω3 := by
  unfold eChain chR
  rfl
theorem eChain_run (op op') (f g h : FE D) : eChain op op' f g h ρ ω = bindL (f ρ ω) (k := ⟨fun x ω1 => bindL (g ρ ω1) (k := ⟨fun y ω2 => chRL (op x y) ω2 (k := ⟨fun ω2 => bindL (h ρ ω2) (k := ⟨fun z ω3 => Res.lift (op' y z) ω3⟩)⟩)⟩)⟩) := by first | exact eChain_run0 | exact eChain_run0 _ | exact eChain_run0 _ _ | exact eChain_run0 _ _ _ | exact eChain_run0 _ _ _ _ | exact eChain_run0 _ _ _ _ _ | exact eChain_run0 _ _ _ _ _ _ | exact eChain_run0 _ _ _ _ _ _ _ | exact eChain_run0 _ _ _ _ _ _ _ _ | exact eChain_run0 _ _ _ _ _ _ _ _ _
theorem chR_run (b : Bool) (k : Om → Res D) : @chRL (some (.bl b)) ω ⟨k⟩ = if b = true then k ω else .ok (.bl false) ω := by cases b <;> rfl
/-- own lists -/
def ownKR : Option (Option SV) → Option Nat
  | some (some (.own k)) => some k
  | _ => none
def ownLR : Option (Option OD) → Option (List D)
  | some (some (.lst ds)) => some ds
  | _ => none
theorem ownK_run : ownK ρ i = ownKR ρ[i]? := by unfold ownK ownKR; split <;> simp_all
theorem ownKR_run : ownKR (some (some (.own k))) = some k := rfl
theorem ownL_run : ownL ω k = ownLR ω[k]? := by unfold ownL ownLR; split <;> simp_all
theorem ownLR_run : ownLR (some (some (.lst ds))) = some ds := rfl
def someR {β γ : Type} (o : Option β) (k : β → Res γ) : Res γ := match o with
  | none => .stuck
  | some b => k b
def someO {β : Type} (o : Option β) (k : β → Out) : Out := match o with
  | none => .stuck
  | some b => k b
def someRL {β γ : Type} (o : Option β) [k : KtS β γ] : Res γ := someR o k.run
def someOL {β : Type} (o : Option β) [k : KtT β] : Out := someO o k.run
theorem someR_run (b : β) (k : β → Res γ) : @someRL _ _ (some b) ⟨k⟩ = k b := rfl
theorem someO_run (b : β) (k : β → Out) : @someOL _ (some b) ⟨k⟩ = k b := rfl

theorem eIxO_run0 (g : FE D) : eIxO i g ρ ω = someR (ownK ρ i) fun k => (g ρ ω).bind fun z ω1 => someR (ownL ω1 k) fun ds => Res.lift (ixI ds z) ω1 := by
  unfold eIxO someR
  cases ownK ρ i with
  | none => rfl
  | some k =>
    dsimp only
    congr 1
    funext z ω1
    cases ownL ω1 k <;> rfl
theorem eIxO_run (g : FE D) : eIxO i g ρ ω = someRL (ownK ρ i) (k := ⟨fun k => bindL (g ρ ω) (k := ⟨fun z ω1 => someRL (ownL ω1 k) (k := ⟨fun ds => Res.lift (ixI ds z) ω1⟩)⟩)⟩) := by first | exact eIxO_run0 | exact eIxO_run0 _ | exact eIxO_run0 _ _ | exact eIxO_run0 _ _ _ | exact eIxO_run0 _ _ _ _ | exact eIxO_run0 _ _ _ _ _ | exact eIxO_run0 _ _ _ _ _ _ | exact eIxO_run0 _ _ _ _ _ _ _ | exact eIxO_run0 _ _ _ _ _ _ _ _ | exact eIxO_run0 _ _ _ _ _ _ _ _ _
theorem ixI_run (n : Int) : ixI ds (.int n) = atI ds n := rfl
theorem eOwnL_run0 : eOwnL i ρ ω = someR (ownK ρ i) fun k => someR (ownL ω k) fun ds => .ok ds ω := by
  unfold eOwnL ownK someR ownL
  cases ρ[i]? with
  | none => rfl
  | some o =>
    cases o with
    | none => rfl
    | some x =>
      cases x with
      | val d => rfl
      | own k =>
        dsimp only
        cases ω[k]? with
        | none => rfl
        | some o =>
          cases o with
          | none => rfl
          | some u => cases u <;> rfl
theorem eOwnL_run : eOwnL i ρ ω = someRL (ownK ρ i) (k := ⟨fun k => someRL (ownL ω k) (k := ⟨fun ds => .ok ds ω⟩)⟩) := by first | exact eOwnL_run0 | exact eOwnL_run0 _ | exact eOwnL_run0 _ _ | exact eOwnL_run0 _ _ _ | exact eOwnL_run0 _ _ _ _ | exact eOwnL_run0 _ _ _ _ _ | exact eOwnL_run0 _ _ _ _ _ _ | exact eOwnL_run0 _ _ _ _ _ _ _ | exact eOwnL_run0 _ _ _ _ _ _ _ _ | exact eOwnL_run0 _ _ _ _ _ _ _ _ _
/-- statements -/
theorem sNext_run : sNext ρ ω = .next ρ ω := rfl
theorem sSeq_run (f g : FS) : sSeq f g ρ ω = obL (f ρ ω) (k := ⟨g⟩) := rfl
theorem sIf_run0 (c : FE Bool) (f g : FS) : sIf c f g ρ ω = (c ρ ω).out ρ fun b ω1 => if b = true then f ρ ω1 else g ρ ω1 := rfl
theorem sIf_run (c : FE Bool) (f g : FS) : sIf c f g ρ ω = outL (c ρ ω) ρ (k := ⟨fun b ω1 => if b = true then f ρ ω1 else g ρ ω1⟩) := by first | exact sIf_run0 | exact sIf_run0 _ | exact sIf_run0 _ _ | exact sIf_run0 _ _ _ | exact sIf_run0 _ _ _ _ | exact sIf_run0 _ _ _ _ _ | exact sIf_run0 _ _ _ _ _ _ | exact sIf_run0 _ _ _ _ _ _ _ | exact sIf_run0 _ _ _ _ _ _ _ _ | exact sIf_run0 _ _ _ _ _ _ _ _ _
theorem sExpr_run0 (f : FE D) : sExpr f ρ ω = (f ρ ω).out ρ fun _ ω1 => .next ρ ω1 := rfl
theorem sExpr_run (f : FE D) : sExpr f ρ ω = outL (f ρ ω) ρ (k := ⟨fun _ ω1 => .next ρ ω1⟩) := by first | exact sExpr_run0 | exact sExpr_run0 _ | exact sExpr_run0 _ _ | exact sExpr_run0 _ _ _ | exact sExpr_run0 _ _ _ _ | exact sExpr_run0 _ _ _ _ _ | exact sExpr_run0 _ _ _ _ _ _ | exact sExpr_run0 _ _ _ _ _ _ _ | exact sExpr_run0 _ _ _ _ _ _ _ _ | exact sExpr_run0 _ _ _ _ _ _ _ _ _
theorem sRet_run0 (f : FE D) : sRet f ρ ω = (f ρ ω).out ρ fun d ω1 => .ret (.val d) ω1 := rfl
theorem sRet_run (f : FE D) : sRet f ρ ω = outL (f ρ ω) ρ (k := ⟨fun d ω1 => .ret (.val d) ω1⟩) := by first | exact sRet_run0 | exact sRet_run0 _ | exact sRet_run0 _ _ | exact sRet_run0 _ _ _ | exact sRet_run0 _ _ _ _ | exact sRet_run0 _ _ _ _ _ | exact sRet_run0 _ _ _ _ _ _ | exact sRet_run0 _ _ _ _ _ _ _ | exact sRet_run0 _ _ _ _ _ _ _ _ | exact sRet_run0 _ _ _ _ _ _ _ _ _
theorem sRetS_run0 (f : FE SV) : sRetS f ρ ω = (f ρ ω).out ρ fun x ω1 => .ret x ω1 := rfl
theorem sRetS_run (f : FE SV) : sRetS f ρ ω = outL (f ρ ω) ρ (k := ⟨fun x ω1 => .ret x ω1⟩) := by first | exact sRetS_run0 | exact sRetS_run0 _ | exact sRetS_run0 _ _ | exact sRetS_run0 _ _ _ | exact sRetS_run0 _ _ _ _ | exact sRetS_run0 _ _ _ _ _ | exact sRetS_run0 _ _ _ _ _ _ | exact sRetS_run0 _ _ _ _ _ _ _ | exact sRetS_run0 _ _ _ _ _ _ _ _ | exact sRetS_run0 _ _ _ _ _ _ _ _ _
theorem sRetN_run : sRetN ρ ω = .ret (.val .non) ω := rfl
theorem sBreak_run : sBreak ρ ω = .brk ρ ω := rfl
theorem sCont_run : sCont ρ ω = .cont ρ ω := rfl
theorem sAsg_run0 (f : FE D) (tg : FG) : sAsg f tg ρ ω = (f ρ ω).out ρ fun d ω1 => someO (tg d ρ) fun ρ' => .next ρ' ω1 := by
  unfold sAsg someO
  congr 1
  funext d ω1
  cases tg d ρ <;> rfl
theorem sAsg_run (f : FE D) (tg : FG) : sAsg f tg ρ ω = outL (f ρ ω) ρ (k := ⟨fun d ω1 => someOL (tg d ρ) (k := ⟨fun ρ' => .next ρ' ω1⟩)⟩) := by first | exact sAsg_run0 | exact sAsg_run0 _ | exact sAsg_run0 _ _ | exact sAsg_run0 _ _ _ | exact sAsg_run0 _ _ _ _ | exact sAsg_run0 _ _ _ _ _ | exact sAsg_run0 _ _ _ _ _ _ | exact sAsg_run0 _ _ _ _ _ _ _ | exact sAsg_run0 _ _ _ _ _ _ _ _ | exact sAsg_run0 _ _ _ _ _ _ _ _ _
theorem sSetS_run0 (f : FE SV) : sSetS i f ρ ω = (f ρ ω).out ρ fun x ω1 => .next (ρ.set i (some x)) ω1 := rfl
theorem sSetS_run (f : FE SV) : sSetS i f ρ ω = outL (f ρ ω) ρ (k := ⟨fun x ω1 => .next (ρ.set i (some x)) ω1⟩) := by first | exact sSetS_run0 | exact sSetS_run0 _ | exact sSetS_run0 _ _ | exact sSetS_run0 _ _ _ | exact sSetS_run0 _ _ _ _ | exact sSetS_run0 _ _ _ _ _ | exact sSetS_run0 _ _ _ _ _ _ | exact sSetS_run0 _ _ _ _ _ _ _ | exact sSetS_run0 _ _ _ _ _ _ _ _ | exact sSetS_run0 _ _ _ _ _ _ _ _ _
def parR (i j : Nat) (ρ : Rho) (ω : Om) : List SV → Out
  | [x, y] => .next ((ρ.set i (some x)).set j (some y)) ω
  | _ => .stuck
theorem sPar_run0 (f : FE (List SV)) : sPar i j f ρ ω = (f ρ ω).out ρ fun xs ω1 => parR i j ρ ω1 xs := by
  unfold sPar parR; rfl
theorem sPar_run (f : FE (List SV)) : sPar i j f ρ ω = outL (f ρ ω) ρ (k := ⟨fun xs ω1 => parR i j ρ ω1 xs⟩) := by first | exact sPar_run0 | exact sPar_run0 _ | exact sPar_run0 _ _ | exact sPar_run0 _ _ _ | exact sPar_run0 _ _ _ _ | exact sPar_run0 _ _ _ _ _ | exact sPar_run0 _ _ _ _ _ _ | exact sPar_run0 _ _ _ _ _ _ _ | exact sPar_run0 _ _ _ _ _ _ _ _ | exact sPar_run0 _ _ _ _ _ _ _ _ _
theorem parR_run (x y : SV) : parR i j ρ ω [x, y] = .next ((ρ.set i (some x)).set j (some y)) ω := rfl
theorem gN_run : gN i d ρ = some (ρ.set i (some (.val d))) := rfl
theorem gT_run {n : Nat} {g} (h : ds.length = n) : gT n g (.tup ds) ρ = g ds ρ := by unfold gT; dsimp only; rw [if_pos h]
theorem gT_runL {n : Nat} {g} (h : ds.length = n) : gT n g (.lst ds) ρ = g ds ρ := by unfold gT; dsimp only; rw [if_pos h]
theorem gsNil_run : gsNil [] ρ = some ρ := rfl
theorem gsCons_run (f : FG) (g) : gsCons f g (d :: ds) ρ = (f d ρ).bind fun ρ1 => g ds ρ1 := rfl
theorem sFor_run0 (it : FE (List D)) (tg : FG) (b : FS) : sFor it tg b ρ ω = (it ρ ω).out ρ fun ds ω1 => forL tg b ds ρ ω1 := rfl
theorem sFor_run (it : FE (List D)) (tg : FG) (b : FS) : sFor it tg b ρ ω = outL (it ρ ω) ρ (k := ⟨fun ds ω1 => forL tg b ds ρ ω1⟩) := by first | exact sFor_run0 | exact sFor_run0 _ | exact sFor_run0 _ _ | exact sFor_run0 _ _ _ | exact sFor_run0 _ _ _ _ | exact sFor_run0 _ _ _ _ _ | exact sFor_run0 _ _ _ _ _ _ | exact sFor_run0 _ _ _ _ _ _ _ | exact sFor_run0 _ _ _ _ _ _ _ _ | exact sFor_run0 _ _ _ _ _ _ _ _ _
theorem sWhile_run (n) (c : FE Bool) (b : FS) : sWhile n c b ρ ω = whileF c b n ρ ω := rfl
theorem eIt1_run0 (o) (f : FE D) : eIt1 o f ρ ω = (f ρ ω).bind fun d ω1 => Res.lift (o d) ω1 := rfl
theorem eIt1_run (o) (f : FE D) : eIt1 o f ρ ω = bindL (f ρ ω) (k := ⟨fun d ω1 => Res.lift (o d) ω1⟩) := by first | exact eIt1_run0 | exact eIt1_run0 _ | exact eIt1_run0 _ _ | exact eIt1_run0 _ _ _ | exact eIt1_run0 _ _ _ _ | exact eIt1_run0 _ _ _ _ _ | exact eIt1_run0 _ _ _ _ _ _ | exact eIt1_run0 _ _ _ _ _ _ _ | exact eIt1_run0 _ _ _ _ _ _ _ _ | exact eIt1_run0 _ _ _ _ _ _ _ _ _
theorem eIt2_run0 (o) (f g : FE D) : eIt2 o f g ρ ω = (f ρ ω).bind fun d ω1 => (g ρ ω1).bind fun e ω2 => Res.lift (o d e) ω2 := rfl
theorem eIt2_run (o) (f g : FE D) : eIt2 o f g ρ ω = bindL (f ρ ω) (k := ⟨fun d ω1 => bindL (g ρ ω1) (k := ⟨fun e ω2 => Res.lift (o d e) ω2⟩)⟩) := by first | exact eIt2_run0 | exact eIt2_run0 _ | exact eIt2_run0 _ _ | exact eIt2_run0 _ _ _ | exact eIt2_run0 _ _ _ _ | exact eIt2_run0 _ _ _ _ _ | exact eIt2_run0 _ _ _ _ _ _ | exact eIt2_run0 _ _ _ _ _ _ _ | exact eIt2_run0 _ _ _ _ _ _ _ _ | exact eIt2_run0 _ _ _ _ _ _ _ _ _
theorem eIt3_run0 (o) (f g h : FE D) : eIt3 o f g h ρ ω = (f ρ ω).bind fun d ω1 => (g ρ ω1).bind fun e ω2 => (h ρ ω2).bind fun k ω3 => Res.lift (o d e k) ω3 := rfl
theorem eIt3_run (o) (f g h : FE D) : eIt3 o f g h ρ ω = bindL (f ρ ω) (k := ⟨fun d ω1 => bindL (g ρ ω1) (k := ⟨fun e ω2 => bindL (h ρ ω2) (k := ⟨fun k ω3 => Res.lift (o d e k) ω3⟩)⟩)⟩) := by first | exact eIt3_run0 | exact eIt3_run0 _ | exact eIt3_run0 _ _ | exact eIt3_run0 _ _ _ | exact eIt3_run0 _ _ _ _ | exact eIt3_run0 _ _ _ _ _ | exact eIt3_run0 _ _ _ _ _ _ | exact eIt3_run0 _ _ _ _ _ _ _ | exact eIt3_run0 _ _ _ _ _ _ _ _ | exact eIt3_run0 _ _ _ _ _ _ _ _ _
theorem itSeq_lst : itSeq (.lst ds) = some ds := rfl
theorem itSeq_tup : itSeq (.tup ds) = some ds := rfl
theorem itEn_lst : itEn (.lst ds) = some (enumD ds) := rfl
theorem itEn_tup : itEn (.tup ds) = some (enumD ds) := rfl
theorem itZ_lst : itZ (.lst ds) (.lst es) = some (zipD ds es) := rfl
theorem itZ_tup : itZ (.tup ds) (.tup es) = some (zipD ds es) := rfl
theorem eLc_run0 (vs) (it : FE (List D)) (tg) (tt) (el : FE D) : eLc vs it tg tt el ρ ω = (it ρ ω).bind fun ds ω1 => lcL tg tt el (wipeR ρ vs) ds [] ω1 := rfl
theorem eLc_run (vs) (it : FE (List D)) (tg) (tt) (el : FE D) : eLc vs it tg tt el ρ ω = bindL (it ρ ω) (k := ⟨fun ds ω1 => lcL tg tt el (wipeR ρ vs) ds [] ω1⟩) := by first | exact eLc_run0 | exact eLc_run0 _ | exact eLc_run0 _ _ | exact eLc_run0 _ _ _ | exact eLc_run0 _ _ _ _ | exact eLc_run0 _ _ _ _ _ | exact eLc_run0 _ _ _ _ _ _ | exact eLc_run0 _ _ _ _ _ _ _ | exact eLc_run0 _ _ _ _ _ _ _ _ | exact eLc_run0 _ _ _ _ _ _ _ _ _
theorem eLc2_run0 (vs vs1) (it : FE (List D)) (tg tt) (it1 : FE (List D)) (tg1 tt1) (el : FE D) : eLc2 vs vs1 it tg tt it1 tg1 tt1 el ρ ω = (it ρ ω).bind fun ds ω1 => lc2L tg tt it1 tg1 tt1 el vs1 (wipeR ρ vs) ds [] ω1 := rfl
theorem eLc2_run (vs vs1) (it : FE (List D)) (tg tt) (it1 : FE (List D)) (tg1 tt1) (el : FE D) : eLc2 vs vs1 it tg tt it1 tg1 tt1 el ρ ω = bindL (it ρ ω) (k := ⟨fun ds ω1 => lc2L tg tt it1 tg1 tt1 el vs1 (wipeR ρ vs) ds [] ω1⟩) := by first | exact eLc2_run0 | exact eLc2_run0 _ | exact eLc2_run0 _ _ | exact eLc2_run0 _ _ _ | exact eLc2_run0 _ _ _ _ | exact eLc2_run0 _ _ _ _ _ | exact eLc2_run0 _ _ _ _ _ _ | exact eLc2_run0 _ _ _ _ _ _ _ | exact eLc2_run0 _ _ _ _ _ _ _ _ | exact eLc2_run0 _ _ _ _ _ _ _ _ _
theorem wipeR_nil : wipeR ρ [] = ρ := rfl
theorem wipeR_cons (v : Nat) (vs : List Nat) : wipeR ρ (v :: vs) = (wipeR ρ vs).set v none := rfl
def newR (o : Option (List D)) (n i : Nat) (ρ : Rho) (ω : Om) : Out := match o with
  | some ds => if n ≤ lim then .next (ρ.set i (some (.own ω.length))) (ω ++ [some (.lst ds)]) else .stuck
  | none => .stuck
theorem sNewL_run0 (g : FE (List SV)) : sNewL i g ρ ω = (g ρ ω).out ρ fun xs ω1 => newR (allD xs) xs.length i ρ ω1 := by
  unfold sNewL newR; rfl
theorem sNewL_run (g : FE (List SV)) : sNewL i g ρ ω = outL (g ρ ω) ρ (k := ⟨fun xs ω1 => newR (allD xs) xs.length i ρ ω1⟩) := by first | exact sNewL_run0 | exact sNewL_run0 _ | exact sNewL_run0 _ _ | exact sNewL_run0 _ _ _ | exact sNewL_run0 _ _ _ _ | exact sNewL_run0 _ _ _ _ _ | exact sNewL_run0 _ _ _ _ _ _ | exact sNewL_run0 _ _ _ _ _ _ _ | exact sNewL_run0 _ _ _ _ _ _ _ _ | exact sNewL_run0 _ _ _ _ _ _ _ _ _
theorem newR_run {n : Nat} (h : n ≤ lim) : newR (some ds) n i ρ ω = .next (ρ.set i (some (.own ω.length))) (ω ++ [some (.lst ds)]) := by unfold newR; dsimp only; rw [if_pos h]
theorem sApp_run0 (f : FE D) : sApp i f ρ ω = someO (ownK ρ i) fun k => someO (ownL ω k) fun _ => (f ρ ω).out ρ fun d ω1 => someO (ownL ω1 k) fun ds => if ds.length < lim then .next ρ (ω1.set k (some (.lst (ds ++ [d])))) else .stuck := by
  unfold sApp someO
  cases ownK ρ i with
  | none => rfl
  | some k =>
    dsimp only
    cases ownL ω k with
    | none => rfl
    | some _ =>
      dsimp only
      congr 1
      funext d ω1
      cases ownL ω1 k <;> rfl
theorem sApp_run (f : FE D) : sApp i f ρ ω = someOL (ownK ρ i) (k := ⟨fun k => someOL (ownL ω k) (k := ⟨fun _ => outL (f ρ ω) ρ (k := ⟨fun d ω1 => someOL (ownL ω1 k) (k := ⟨fun ds => if ds.length < lim then .next ρ (ω1.set k (some (.lst (ds ++ [d])))) else .stuck⟩)⟩)⟩)⟩) := by first | exact sApp_run0 | exact sApp_run0 _ | exact sApp_run0 _ _ | exact sApp_run0 _ _ _ | exact sApp_run0 _ _ _ _ | exact sApp_run0 _ _ _ _ _ | exact sApp_run0 _ _ _ _ _ _ | exact sApp_run0 _ _ _ _ _ _ _ | exact sApp_run0 _ _ _ _ _ _ _ _ | exact sApp_run0 _ _ _ _ _ _ _ _ _
def setIxR (ds : List D) (d : D) (k : Nat) (ρ : Rho) (ω : Om) : D → Out
  | .int n => someO (ixN ds.length n) fun j => .next ρ (ω.set k (some (.lst (ds.set j d))))
  | _ => .stuck
theorem sSetIx_run0 (fi fe : FE D) : sSetIx i fi fe ρ ω = (fe ρ ω).out ρ fun d ω1 => someO (ownK ρ i) fun k => (fi ρ ω1).out ρ fun z ω2 => someO (ownL ω2 k) fun ds => setIxR ds d k ρ ω2 z := by
  unfold sSetIx someO setIxR
  congr 1
  funext d ω1
  cases ownK ρ i with
  | none => rfl
  | some k =>
    dsimp only
    congr 1
    funext z ω2
    cases z <;> cases ownL ω2 k <;> try rfl
    dsimp only [someO]
    split <;> simp_all
theorem sSetIx_run (fi fe : FE D) : sSetIx i fi fe ρ ω = outL (fe ρ ω) ρ (k := ⟨fun d ω1 => someOL (ownK ρ i) (k := ⟨fun k => outL (fi ρ ω1) ρ (k := ⟨fun z ω2 => someOL (ownL ω2 k) (k := ⟨fun ds => setIxR ds d k ρ ω2 z⟩)⟩)⟩)⟩) := by first | exact sSetIx_run0 | exact sSetIx_run0 _ | exact sSetIx_run0 _ _ | exact sSetIx_run0 _ _ _ | exact sSetIx_run0 _ _ _ _ | exact sSetIx_run0 _ _ _ _ _ | exact sSetIx_run0 _ _ _ _ _ _ | exact sSetIx_run0 _ _ _ _ _ _ _ | exact sSetIx_run0 _ _ _ _ _ _ _ _ | exact sSetIx_run0 _ _ _ _ _ _ _ _ _
theorem setIxR_run0 (n : Int) : setIxR ds d k ρ ω (.int n) = someO (ixN ds.length n) fun j => .next ρ (ω.set k (some (.lst (ds.set j d)))) := rfl
theorem setIxR_run (n : Int) : setIxR ds d k ρ ω (.int n) = someOL (ixN ds.length n) (k := ⟨fun j => .next ρ (ω.set k (some (.lst (ds.set j d))))⟩) := by first | exact setIxR_run0 | exact setIxR_run0 _ | exact setIxR_run0 _ _ | exact setIxR_run0 _ _ _ | exact setIxR_run0 _ _ _ _ | exact setIxR_run0 _ _ _ _ _ | exact setIxR_run0 _ _ _ _ _ _ | exact setIxR_run0 _ _ _ _ _ _ _ | exact setIxR_run0 _ _ _ _ _ _ _ _ | exact setIxR_run0 _ _ _ _ _ _ _ _ _
theorem sRetL_run0 : sRetL i ρ ω = someO (ownK ρ i) fun k => someO (ownL ω k) fun ds => .ret (.val (.lst ds)) (ω.set k none) := by
  unfold sRetL someO
  cases ownK ρ i with
  | none => rfl
  | some k =>
    dsimp only
    cases ownL ω k <;> rfl
theorem sRetL_run : sRetL i ρ ω = someOL (ownK ρ i) (k := ⟨fun k => someOL (ownL ω k) (k := ⟨fun ds => .ret (.val (.lst ds)) (ω.set k none)⟩)⟩) := by first | exact sRetL_run0 | exact sRetL_run0 _ | exact sRetL_run0 _ _ | exact sRetL_run0 _ _ _ | exact sRetL_run0 _ _ _ _ | exact sRetL_run0 _ _ _ _ _ | exact sRetL_run0 _ _ _ _ _ _ | exact sRetL_run0 _ _ _ _ _ _ _ | exact sRetL_run0 _ _ _ _ _ _ _ _ | exact sRetL_run0 _ _ _ _ _ _ _ _ _
def retNewR (o : Option (List D)) (n : Nat) (ω : Om) : Out := match o with
  | some ds => if n ≤ lim then .ret (.own ω.length) (ω ++ [some (.lst ds)]) else .stuck
  | none => .stuck
theorem sRetNew_run0 (g : FE (List SV)) : sRetNew g ρ ω = (g ρ ω).out ρ fun xs ω1 => retNewR (allD xs) xs.length ω1 := by
  unfold sRetNew retNewR; rfl
theorem sRetNew_run (g : FE (List SV)) : sRetNew g ρ ω = outL (g ρ ω) ρ (k := ⟨fun xs ω1 => retNewR (allD xs) xs.length ω1⟩) := by first | exact sRetNew_run0 | exact sRetNew_run0 _ | exact sRetNew_run0 _ _ | exact sRetNew_run0 _ _ _ | exact sRetNew_run0 _ _ _ _ | exact sRetNew_run0 _ _ _ _ _ | exact sRetNew_run0 _ _ _ _ _ _ | exact sRetNew_run0 _ _ _ _ _ _ _ | exact sRetNew_run0 _ _ _ _ _ _ _ _ | exact sRetNew_run0 _ _ _ _ _ _ _ _ _
theorem retNewR_run {n : Nat} (h : n ≤ lim) : retNewR (some ds) n ω = .ret (.own ω.length) (ω ++ [some (.lst ds)]) := by unfold retNewR; dsimp only; rw [if_pos h]
/-- defs -/
def finP : Out → Option (Except Exn D)
  | .ret (.val d) _ => some (.ok d)
  | .next _ _ => some (.ok .non)
  | .exc x _ _ => some (.error x)
  | _ => none
theorem fnP_run {n m : Nat} {fb : FS} (h : ds.length = n) : fnP n m fb ds = finP (fb (rho0 m (ds.map SV.val)) []) := by
  unfold fnP finP; rw [if_pos h]
  all_goals
    cases fb (rho0 m (ds.map SV.val)) [] with
    | ret x _ => cases x <;> rfl
    | _ => rfl
theorem finP_ret : finP (.ret (.val d) ω) = some (.ok d) := rfl
theorem finP_next : finP (.next ρ ω) = some (.ok .non) := rfl
theorem finP_exc (x : Exn) : finP (.exc x ρ ω) = some (.error x) := rfl
def finE (n : Nat) : Out → Res SV
  | .ret (.val d) ω' => .ok (.val d) (ω'.take n)
  | .ret (.own k) ω' => if k < n then .ok (.own k) (ω'.take n) else if k = n then .ok (.own k) (ω'.take (n + 1)) else .stuck
  | .next _ ω' => .ok (.val .non) (ω'.take n)
  | .exc x _ ω' => .exc x (ω'.take n)
  | _ => .stuck
theorem fnE_run {n m : Nat} {fb : FS} {xs : List SV} (h : xs.length = n) : fnE n m fb xs ω = finE ω.length (fb (rho0 m xs) ω) := by
  unfold fnE finE; rw [if_pos h]
  all_goals
    cases fb (rho0 m xs) ω with
    | ret x _ => cases x <;> rfl
    | _ => rfl
theorem finE_ret {n : Nat} : finE n (.ret (.val d) ω) = .ok (.val d) (ω.take n) := rfl
theorem finE_next {n : Nat} : finE n (.next ρ ω) = .ok (.val .non) (ω.take n) := rfl
theorem finE_exc {n : Nat} (x : Exn) : finE n (.exc x ρ ω) = .exc x (ω.take n) := rfl
def callR (r : Option (Except Exn D)) (ω : Om) : Res D := match r with
  | none => .stuck
  | some (.ok d) => .ok d ω
  | some (.error x) => .exc x ω
theorem eCallP_run0 (F : FnP) (g : FE (List SV)) : eCallP F g ρ ω = (g ρ ω).bind fun xs ω1 => callR ((allD xs).bind F) ω1 := by
  unfold eCallP callR
  congr 1
  funext xs ω1
  cases allD xs with
  | none => rfl
  | some ds =>
    dsimp only [Option.bind]
    all_goals
      cases F ds with
      | none => rfl
      | some y => cases y <;> rfl
theorem eCallP_run (F : FnP) (g : FE (List SV)) : eCallP F g ρ ω = bindL (g ρ ω) (k := ⟨fun xs ω1 => callR ((allD xs).bind F) ω1⟩) := by first | exact eCallP_run0 | exact eCallP_run0 _ | exact eCallP_run0 _ _ | exact eCallP_run0 _ _ _ | exact eCallP_run0 _ _ _ _ | exact eCallP_run0 _ _ _ _ _ | exact eCallP_run0 _ _ _ _ _ _ | exact eCallP_run0 _ _ _ _ _ _ _ | exact eCallP_run0 _ _ _ _ _ _ _ _ | exact eCallP_run0 _ _ _ _ _ _ _ _ _
theorem callR_ok : callR (some (.ok d)) ω = .ok d ω := rfl
theorem callR_err (x : Exn) : callR (some (.error x)) ω = .exc x ω := rfl
theorem eCallE_run0 (F : Fn) (g : FE (List SV)) : eCallE F g ρ ω = (g ρ ω).bind F := rfl
theorem eCallE_run (F : Fn) (g : FE (List SV)) : eCallE F g ρ ω = bindL (g ρ ω) (k := ⟨F⟩) := by first | exact eCallE_run0 | exact eCallE_run0 _ | exact eCallE_run0 _ _ | exact eCallE_run0 _ _ _ | exact eCallE_run0 _ _ _ _ | exact eCallE_run0 _ _ _ _ _ | exact eCallE_run0 _ _ _ _ _ _ | exact eCallE_run0 _ _ _ _ _ _ _ | exact eCallE_run0 _ _ _ _ _ _ _ _ | exact eCallE_run0 _ _ _ _ _ _ _ _ _
def valR (x : SV) (ω : Om) : Res D := match x with
  | .val d => .ok d ω
  | .own _ => .stuck
theorem eVal_run0 (f : FE SV) : eVal f ρ ω = (f ρ ω).bind valR := rfl
theorem eVal_run (f : FE SV) : eVal f ρ ω = bindL (f ρ ω) (k := ⟨valR⟩) := by first | exact eVal_run0 | exact eVal_run0 _ | exact eVal_run0 _ _ | exact eVal_run0 _ _ _ | exact eVal_run0 _ _ _ _ | exact eVal_run0 _ _ _ _ _ | exact eVal_run0 _ _ _ _ _ _ | exact eVal_run0 _ _ _ _ _ _ _ | exact eVal_run0 _ _ _ _ _ _ _ _ | exact eVal_run0 _ _ _ _ _ _ _ _ _
theorem valR_run : valR (.val d) ω = .ok d ω := rfl
def makeR (r : Res SV) (ω : Om) : Res D := match r with
  | .ok (.val .non) [some (.ins c' fs)] => .ok (.obj c' fs) ω
  | .exc x _ => .exc x ω
  | _ => .stuck
theorem eMake_run0 (c : Str) (F : Fn) (g : FE (List SV)) : eMake c F g ρ ω = (g ρ ω).bind fun xs ω1 => someR (allD xs) fun ds => makeR (F (.own 0 :: ds.map SV.val) [some (.ins c [])]) ω1 := by
  unfold eMake someR makeR
  congr 1
  funext xs ω1
  cases allD xs <;> rfl
theorem eMake_run (c : Str) (F : Fn) (g : FE (List SV)) : eMake c F g ρ ω = bindL (g ρ ω) (k := ⟨fun xs ω1 => someRL (allD xs) (k := ⟨fun ds => makeR (F (.own 0 :: ds.map SV.val) [some (.ins c [])]) ω1⟩)⟩) := by first | exact eMake_run0 | exact eMake_run0 _ | exact eMake_run0 _ _ | exact eMake_run0 _ _ _ | exact eMake_run0 _ _ _ _ | exact eMake_run0 _ _ _ _ _ | exact eMake_run0 _ _ _ _ _ _ | exact eMake_run0 _ _ _ _ _ _ _ | exact eMake_run0 _ _ _ _ _ _ _ _ | exact eMake_run0 _ _ _ _ _ _ _ _ _
theorem makeR_ok {c : Str} {fs : List (Str × D)} : makeR (.ok (.val .non) [some (.ins c fs)]) ω = .ok (.obj c fs) ω := rfl
theorem makeR_exc (x : Exn) (ω' : Om) : makeR (.exc x ω') ω = .exc x ω := rfl
theorem eFld_run0 (c f : Str) (fe : FE D) : eFld c f fe ρ ω = (fe ρ ω).bind fun d ω1 => Res.lift (fldD c f d) ω1 := rfl
theorem eFld_run (c f : Str) (fe : FE D) : eFld c f fe ρ ω = bindL (fe ρ ω) (k := ⟨fun d ω1 => Res.lift (fldD c f d) ω1⟩) := by first | exact eFld_run0 | exact eFld_run0 _ | exact eFld_run0 _ _ | exact eFld_run0 _ _ _ | exact eFld_run0 _ _ _ _ | exact eFld_run0 _ _ _ _ _ | exact eFld_run0 _ _ _ _ _ _ | exact eFld_run0 _ _ _ _ _ _ _ | exact eFld_run0 _ _ _ _ _ _ _ _ | exact eFld_run0 _ _ _ _ _ _ _ _ _
theorem fldD_run {c f : Str} {fs : List (Str × D)} : fldD c f (.obj c fs) = fs.lookup f := by simp [fldD]
/-! operators -/
theorem opAdd_int (i j : Int) : opAdd (.int i) (.int j) = some (.int (i + j)) := rfl
theorem opAdd_tup (h : ds.length + es.length ≤ lim) : opAdd (.tup ds) (.tup es) = some (.tup (ds ++ es)) := by simp only [opAdd]; rw [if_pos h]
theorem opI_run (p) (i j : Int) : opI p (.int i) (.int j) = (p i j).map D.int := rfl
theorem opB_run (p) (i j : Int) : opB p (.int i) (.int j) = some (.bl (p i j)) := rfl
theorem opMulA_int (i j : Int) : opMulA (.int i) (.int j) = opMul (.int i) (.int j) := rfl
theorem opEq_run : opEq x y = (eqD x y).map D.bl := rfl
theorem opNe_run : opNe x y = (eqD x y).map fun b => D.bl (!b) := rfl
theorem opIsN_run : opIsN x .non = some (.bl (isNon x)) := rfl
theorem opNotN_run : opNotN x .non = some (.bl (!isNon x)) := rfl
theorem opIx_tup (i : Int) : opIx (.tup ds) (.int i) = atI ds i := rfl
theorem opIx_lst (i : Int) : opIx (.lst ds) (.int i) = atI ds i := rfl
theorem opNeg_run (i : Int) : opNeg (.int i) = some (.int (-i)) := rfl
theorem oLen_tup : oLen [.tup ds] = some (.int ds.length) := rfl
theorem oLen_lst : oLen [.lst ds] = some (.int ds.length) := rfl
theorem oInt_int (i : Int) : oInt [.int i] = some (.int i) := rfl
theorem oInt_bl (b : Bool) : oInt [.bl b] = some (.int (if b then 1 else 0)) := rfl
theorem oTuple_tup : oTuple [.tup ds] = some (.tup ds) := rfl
theorem oTuple_lst : oTuple [.lst ds] = some (.tup ds) := rfl
theorem oList_tup : oList [.tup ds] = some (.lst ds) := rfl
theorem oList_lst : oList [.lst ds] = some (.lst ds) := rfl
theorem oTupleL_run : oTupleL ds = some (.tup ds) := rfl
theorem oListL_run : oListL ds = some (.lst ds) := rfl
theorem oLenL_run : oLenL ds = some (.int ds.length) := rfl
theorem ixN_nat {n j : Nat} (h : j < n) : ixN n (j : Int) = some j := by
  unfold ixN
  rw [if_pos (by omega), if_pos (by omega)]
  simp
theorem atI_get' {α : Type} {xs : List α} {i : Int} (h0 : 0 ≤ i) : atI xs i = xs[i.toNat]? := by
  unfold atI ixN
  rw [if_pos h0]
  split
  · rfl
  · rw [List.getElem?_eq_none (by omega)]; rfl
theorem atI_lit {α : Type} {xs : List α} (n : Nat) : atI xs (OfNat.ofNat n) = xs[n]? := atI_get' (xs := xs) (i := ((n : Nat) : Int)) (by omega)
end
section
variable {α : Type}
theorem atI_0 (x0 : α) (xs : List α) : atI (x0 :: xs) 0 = some x0 := by rw [atI_get' (by omega)]; rfl
theorem atI_1 (x0 x1 : α) (xs : List α) : atI (x0 :: x1 :: xs) 1 = some x1 := by rw [atI_get' (by omega)]; rfl
theorem atI_2 (x0 x1 x2 : α) (xs : List α) : atI (x0 :: x1 :: x2 :: xs) 2 = some x2 := by rw [atI_get' (by omega)]; rfl
theorem atI_3 (x0 x1 x2 x3 : α) (xs : List α) : atI (x0 :: x1 :: x2 :: x3 :: xs) 3 = some x3 := by rw [atI_get' (by omega)]; rfl
theorem atI_4 (x0 x1 x2 x3 x4 : α) (xs : List α) : atI (x0 :: x1 :: x2 :: x3 :: x4 :: xs) 4 = some x4 := by rw [atI_get' (by omega)]; rfl
theorem atI_5 (x0 x1 x2 x3 x4 x5 : α) (xs : List α) : atI (x0 :: x1 :: x2 :: x3 :: x4 :: x5 :: xs) 5 = some x5 := by rw [atI_get' (by omega)]; rfl
theorem atI_6 (x0 x1 x2 x3 x4 x5 x6 : α) (xs : List α) : atI (x0 :: x1 :: x2 :: x3 :: x4 :: x5 :: x6 :: xs) 6 = some x6 := by rw [atI_get' (by omega)]; rfl
theorem atI_7 (x0 x1 x2 x3 x4 x5 x6 x7 : α) (xs : List α) : atI (x0 :: x1 :: x2 :: x3 :: x4 :: x5 :: x6 :: x7 :: xs) 7 = some x7 := by rw [atI_get' (by omega)]; rfl
theorem atI_8 (x0 x1 x2 x3 x4 x5 x6 x7 x8 : α) (xs : List α) : atI (x0 :: x1 :: x2 :: x3 :: x4 :: x5 :: x6 :: x7 :: x8 :: xs) 8 = some x8 := by rw [atI_get' (by omega)]; rfl
theorem ixN_1_0 : ixN 1 0 = some 0 := rfl
theorem ixN_2_0 : ixN 2 0 = some 0 := rfl
theorem ixN_2_1 : ixN 2 1 = some 1 := rfl
theorem ixN_3_0 : ixN 3 0 = some 0 := rfl
theorem ixN_3_1 : ixN 3 1 = some 1 := rfl
theorem ixN_3_2 : ixN 3 2 = some 2 := rfl
theorem ixN_4_0 : ixN 4 0 = some 0 := rfl
theorem ixN_4_1 : ixN 4 1 = some 1 := rfl
theorem ixN_4_2 : ixN 4 2 = some 2 := rfl
theorem ixN_4_3 : ixN 4 3 = some 3 := rfl
theorem ixN_5_0 : ixN 5 0 = some 0 := rfl
theorem ixN_5_1 : ixN 5 1 = some 1 := rfl
theorem ixN_5_2 : ixN 5 2 = some 2 := rfl
theorem ixN_5_3 : ixN 5 3 = some 3 := rfl
theorem ixN_5_4 : ixN 5 4 = some 4 := rfl
end
theorem isi_int_non  : isiD "int" .non = some (.bl false) := by simp [isiD, tyD, isTy]
theorem isi_int_bl (b : Bool) : isiD "int" (.bl b) = some (.bl true) := by simp [isiD, tyD, isTy]
theorem isi_int_int (i : Int) : isiD "int" (.int i) = some (.bl true) := by simp [isiD, tyD, isTy]
theorem isi_int_str (x : Str) : isiD "int" (.str x) = some (.bl false) := by simp [isiD, tyD, isTy]
theorem isi_int_tup (ds : List D) : isiD "int" (.tup ds) = some (.bl false) := by simp [isiD, tyD, isTy]
theorem isi_int_lst (ds : List D) : isiD "int" (.lst ds) = some (.bl false) := by simp [isiD, tyD, isTy]
theorem isi_bool_non  : isiD "bool" .non = some (.bl false) := by simp [isiD, tyD, isTy]
theorem isi_bool_bl (b : Bool) : isiD "bool" (.bl b) = some (.bl true) := by simp [isiD, tyD, isTy]
theorem isi_bool_int (i : Int) : isiD "bool" (.int i) = some (.bl false) := by simp [isiD, tyD, isTy]
theorem isi_bool_str (x : Str) : isiD "bool" (.str x) = some (.bl false) := by simp [isiD, tyD, isTy]
theorem isi_bool_tup (ds : List D) : isiD "bool" (.tup ds) = some (.bl false) := by simp [isiD, tyD, isTy]
theorem isi_bool_lst (ds : List D) : isiD "bool" (.lst ds) = some (.bl false) := by simp [isiD, tyD, isTy]
theorem isi_tuple_non  : isiD "tuple" .non = some (.bl false) := by simp [isiD, tyD, isTy]
theorem isi_tuple_bl (b : Bool) : isiD "tuple" (.bl b) = some (.bl false) := by simp [isiD, tyD, isTy]
theorem isi_tuple_int (i : Int) : isiD "tuple" (.int i) = some (.bl false) := by simp [isiD, tyD, isTy]
theorem isi_tuple_str (x : Str) : isiD "tuple" (.str x) = some (.bl false) := by simp [isiD, tyD, isTy]
theorem isi_tuple_tup (ds : List D) : isiD "tuple" (.tup ds) = some (.bl true) := by simp [isiD, tyD, isTy]
theorem isi_tuple_lst (ds : List D) : isiD "tuple" (.lst ds) = some (.bl false) := by simp [isiD, tyD, isTy]
theorem isi_str_non  : isiD "str" .non = some (.bl false) := by simp [isiD, tyD, isTy]
theorem isi_str_bl (b : Bool) : isiD "str" (.bl b) = some (.bl false) := by simp [isiD, tyD, isTy]
theorem isi_str_int (i : Int) : isiD "str" (.int i) = some (.bl false) := by simp [isiD, tyD, isTy]
theorem isi_str_str (x : Str) : isiD "str" (.str x) = some (.bl true) := by simp [isiD, tyD, isTy]
theorem isi_str_tup (ds : List D) : isiD "str" (.tup ds) = some (.bl false) := by simp [isiD, tyD, isTy]
theorem isi_str_lst (ds : List D) : isiD "str" (.lst ds) = some (.bl false) := by simp [isiD, tyD, isTy]
theorem isi_list_non  : isiD "list" .non = some (.bl false) := by simp [isiD, tyD, isTy]
theorem isi_list_bl (b : Bool) : isiD "list" (.bl b) = some (.bl false) := by simp [isiD, tyD, isTy]
theorem isi_list_int (i : Int) : isiD "list" (.int i) = some (.bl false) := by simp [isiD, tyD, isTy]
theorem isi_list_str (x : Str) : isiD "list" (.str x) = some (.bl false) := by simp [isiD, tyD, isTy]
theorem isi_list_tup (ds : List D) : isiD "list" (.tup ds) = some (.bl false) := by simp [isiD, tyD, isTy]
theorem isi_list_lst (ds : List D) : isiD "list" (.lst ds) = some (.bl true) := by simp [isiD, tyD, isTy]
theorem isNon_non  : isNon .non = true := rfl
theorem isNon_bl (b : Bool) : isNon (.bl b) = false := rfl
theorem isNon_int (i : Int) : isNon (.int i) = false := rfl
theorem isNon_str (x : Str) : isNon (.str x) = false := rfl
theorem isNon_tup (ds : List D) : isNon (.tup ds) = false := rfl
theorem isNon_lst (ds : List D) : isNon (.lst ds) = false := rfl
/-! loops -/
/-- what must hold of an end -/
theorem forL_rule {tg : FG} {b : FS} {ds : List D} {ρ : Rho} {ω : Om} (P : Nat → Rho → Om → Prop) (R : Out → Prop) (h0 : P 0 ρ ω)
    (hs : ∀ i d ρ ω, ds[i]? = some d → P i ρ ω → ∃ ρ1, tg d ρ = some ρ1 ∧ (match b ρ1 ω with
      | .next ρ2 ω2 => P (i + 1) ρ2 ω2
      | .cont ρ2 ω2 => P (i + 1) ρ2 ω2
      | .brk ρ2 ω2 => R (.next ρ2 ω2)
      | .ret x ω2 => R (.ret x ω2)
      | .exc x ρ2 ω2 => R (.exc x ρ2 ω2)
      | .stuck => False))
    (hd : ∀ ρ ω, P ds.length ρ ω → R (.next ρ ω)) : R (forL tg b ds ρ ω) := by
  suffices H : ∀ (n i : Nat) (ρ : Rho) (ω : Om), n = ds.length - i → i ≤ ds.length → P i ρ ω → R (forL tg b (ds.drop i) ρ ω) from H _ 0 ρ ω rfl (Nat.zero_le _) h0
  intro n
  induction n with
  | zero =>
    intro i ρ ω hn hi p
    have : i = ds.length := by omega
    subst this
    rw [List.drop_length]
    exact hd ρ ω p
  | succ n ih =>
    intro i ρ ω hn hi p
    have hlt : i < ds.length := by omega
    rw [List.drop_eq_getElem_cons hlt]
    obtain ⟨ρ1, e1, h⟩ := hs i ds[i] ρ ω (List.getElem?_eq_getElem hlt) p
    unfold forL
    rw [e1]
    dsimp only
    cases q : b ρ1 ω with
    | next ρ2 ω2 => rw [q] at h; exact ih (i + 1) ρ2 ω2 (by omega) hlt h
    | cont ρ2 ω2 => rw [q] at h; exact ih (i + 1) ρ2 ω2 (by omega) hlt h
    | brk ρ2 ω2 => rw [q] at h; exact h
    | ret x ω2 => rw [q] at h; exact h
    | exc x ρ2 ω2 => rw [q] at h; exact h
    | stuck => rw [q] at h; exact h.elim
theorem forL_all {tg : FG} {b : FS} {ds : List D} {ρ : Rho} {ω : Om} (P : Nat → Rho → Om → Prop) (h0 : P 0 ρ ω)
    (hs : ∀ i d ρ ω, ds[i]? = some d → P i ρ ω → ∃ ρ1 ρ2 ω2, tg d ρ = some ρ1 ∧ b ρ1 ω = .next ρ2 ω2 ∧ P (i + 1) ρ2 ω2) : ∃ ρ' ω', forL tg b ds ρ ω = .next ρ' ω' ∧ P ds.length ρ' ω' := by
  refine forL_rule P (fun o => ∃ ρ' ω', o = .next ρ' ω' ∧ P ds.length ρ' ω') h0 (fun i d ρ ω hd p => ?_) fun ρ ω p => ⟨ρ, ω, rfl, p⟩
  obtain ⟨ρ1, ρ2, ω2, h1, h2, h3⟩ := hs i d ρ ω hd p
  exact ⟨ρ1, h1, by rw [h2]; exact h3⟩
/-- a loop that seeks: g tells what is handed back -/
theorem forL_find {tg : FG} {b : FS} {ρ : Rho} {ω : Om} (P : Rho → Prop) (g : D → Option D) : ∀ (ds : List D) (ρ : Rho), P ρ →
    (∀ d ∈ ds, ∀ ρ, P ρ → ∃ ρ1, tg d ρ = some ρ1 ∧ (match g d with
      | some x => b ρ1 ω = .ret (.val x) ω
      | none => ∃ ρ2, b ρ1 ω = .next ρ2 ω ∧ P ρ2)) →
    (match ds.findSome? g with
      | some x => forL tg b ds ρ ω = .ret (.val x) ω
      | none => ∃ ρ', forL tg b ds ρ ω = .next ρ' ω ∧ P ρ')
  | [], ρ, p, _ => ⟨ρ, rfl, p⟩
  | d :: ds, ρ, p, h => by
    obtain ⟨ρ1, h1, h2⟩ := h d List.mem_cons_self ρ p
    rw [List.findSome?_cons]
    unfold forL
    rw [h1]
    cases q : g d with
    | some x => rw [q] at h2; dsimp only at h2 ⊢; rw [h2]
    | none =>
      rw [q] at h2
      obtain ⟨ρ2, h3, p2⟩ := h2
      dsimp only
      rw [h3]
      exact forL_find (ρ := ρ) P g ds ρ2 p2 fun d' hd' => h d' (List.mem_cons_of_mem _ hd')
/-- a comprehension of plain elements -/
theorem lcL_pure {tg : FG} {tt : FE Bool} {el : FE D} {ρ : Rho} {ω : Om} (g : D → Option D) : ∀ (ds acc : List D), acc.length + ds.length ≤ lim →
    (∀ d ∈ ds, ∃ ρ1, tg d ρ = some ρ1 ∧ (match g d with
      | some y => tt ρ1 ω = .ok true ω ∧ el ρ1 ω = .ok y ω
      | none => tt ρ1 ω = .ok false ω)) → lcL tg tt el ρ ds acc ω = .ok (.lst (acc ++ ds.filterMap g)) ω
  | [], acc, _, _ => by unfold lcL; simp
  | d :: ds, acc, hl, h => by
    obtain ⟨ρ1, h1, h2⟩ := h d List.mem_cons_self
    rw [List.length_cons] at hl
    unfold lcL
    rw [h1]
    dsimp only
    cases q : g d with
    | some y =>
      rw [q] at h2
      obtain ⟨h3, h4⟩ := h2
      rw [h3]
      dsimp only
      rw [h4]
      dsimp only
      rw [if_pos (by omega), lcL_pure g ds (acc ++ [y]) (by simp; omega) fun d' hd' => h d' (List.mem_cons_of_mem _ hd')]
      simp [q]
    | none =>
      rw [q] at h2
      rw [h2]
      dsimp only
      rw [lcL_pure g ds acc (by omega) fun d' hd' => h d' (List.mem_cons_of_mem _ hd')]
      simp [q]
theorem lcA_pure {tg : FG} {tt : FE Bool} {el : FE D} {ρ : Rho} {ω : Om} (g : D → Option D) : ∀ (ds acc : List D), acc.length + ds.length ≤ lim →
    (∀ d ∈ ds, ∃ ρ1, tg d ρ = some ρ1 ∧ (match g d with
      | some y => tt ρ1 ω = .ok true ω ∧ el ρ1 ω = .ok y ω
      | none => tt ρ1 ω = .ok false ω)) → lcA tg tt el ρ ds acc ω = .ok (acc ++ ds.filterMap g) ω
  | [], acc, _, _ => by unfold lcA; simp
  | d :: ds, acc, hl, h => by
    obtain ⟨ρ1, h1, h2⟩ := h d List.mem_cons_self
    rw [List.length_cons] at hl
    unfold lcA
    rw [h1]
    dsimp only
    cases q : g d with
    | some y =>
      rw [q] at h2
      obtain ⟨h3, h4⟩ := h2
      rw [h3]
      dsimp only
      rw [h4]
      dsimp only
      rw [if_pos (by omega), lcA_pure g ds (acc ++ [y]) (by simp; omega) fun d' hd' => h d' (List.mem_cons_of_mem _ hd')]
      simp [q]
    | none =>
      rw [q] at h2
      rw [h2]
      dsimp only
      rw [lcA_pure g ds acc (by omega) fun d' hd' => h d' (List.mem_cons_of_mem _ hd')]
      simp [q]
/-- of two clauses: g tells the inner list, of which all are taken that h tells -/
theorem lc2_pure {tg : FG} {tt : FE Bool} {it1 : FE (List D)} {tg1 : FG} {tt1 : FE Bool} {el : FE D} {vs1 : List Nat} {ρ : Rho} {ω : Om} (g : D → List D) (h : D → D → Option D) : ∀ (ds acc : List D), (∀ pre, pre ≤ (ds.map fun d => (g d).length).sum → acc.length + pre ≤ lim) →
    (∀ d ∈ ds, ∃ ρ1, tg d ρ = some ρ1 ∧ tt ρ1 ω = .ok true ω ∧ it1 ρ1 ω = .ok (g d) ω ∧ ∀ e ∈ g d, ∃ ρ2, tg1 e (wipeR ρ1 vs1) = some ρ2 ∧ (match h d e with
      | some y => tt1 ρ2 ω = .ok true ω ∧ el ρ2 ω = .ok y ω
      | none => tt1 ρ2 ω = .ok false ω)) → lc2L tg tt it1 tg1 tt1 el vs1 ρ ds acc ω = .ok (.lst (acc ++ ds.flatMap fun d => (g d).filterMap (h d))) ω
  | [], acc, _, _ => by unfold lc2L; simp
  | d :: ds, acc, hl, hd => by
    obtain ⟨ρ1, h1, h2, h3, h4⟩ := hd d List.mem_cons_self
    unfold lc2L
    rw [h1]
    dsimp only
    rw [h2]
    dsimp only
    rw [h3]
    dsimp only
    have hl' := hl ((g d).length + (ds.map fun d => (g d).length).sum) (by simp)
    rw [lcA_pure (h d) (g d) acc (by omega) h4]
    dsimp only
    have hfl : ((g d).filterMap (h d)).length ≤ (g d).length := List.length_filterMap_le _ _
    rw [lc2_pure g h ds _ (fun pre hp => by have := hl ((g d).length + pre) (by simp; omega); simp; omega) fun d' hd' => hd d' (List.mem_cons_of_mem _ hd')]
    simp
end Dl
namespace Dl
open PySem L2
/-! ### a comparison whose right side is an own list -/
def eBinO (op : D → D → Option D) (f : FE D) (g : FE (List D)) : FE D := fun ρ ω => (f ρ ω).bind fun x ω1 => (g ρ ω1).bind fun ds ω2 => Res.lift (op x (.lst ds)) ω2
def GivesB (op : D → D → Option D) : Prop := ∀ x y d, op x y = some d → ∃ b, d = .bl b
theorem givesB_eq : GivesB opEq := fun x y d h => by
  unfold opEq at h
  cases q : eqD x y with
  | none => rw [q] at h; cases h
  | some b => rw [q] at h; cases h; exact ⟨_, rfl⟩
theorem givesB_ne : GivesB opNe := fun x y d h => by
  unfold opNe at h
  cases q : eqD x y with
  | none => rw [q] at h; cases h
  | some b => rw [q] at h; cases h; exact ⟨_, rfl⟩
section
variable {X : Cx} {W : WX} {a b : Expr} {pos : Pos} {f : FE D} {g : FE (List D)}
theorem tOpO_post {r : R2} {op : D → D → Option D} {ta tb : TE} (B : Bop X.K X.mg r op) (hb : GivesB op)
    (ka : ∀ G α ρ ω σ H Q, Own X.K X.mg G α ω H → Slots X.K X.mg G α ρ σ → Post X.K X.mg (RD X.K X.mg) G α H Q (fun c d H' => W c d σ H') (f ρ ω) → ta σ H Q)
    (kb : ∀ G α ρ ω σ H Q, Own X.K X.mg G α ω H → Slots X.K X.mg G α ρ σ → Post X.K X.mg (RL X.K X.mg) G α H Q (fun c d H' => W c d σ H') (g ρ ω) → tb σ H Q) :
    ∀ G α ρ ω σ H Q, Own X.K X.mg G α ω H → Slots X.K X.mg G α ρ σ → Post X.K X.mg (RD X.K X.mg) G α H Q (fun c d H' => W c d σ H') (eBinO op f g ρ ω) → tOp r ta tb σ H Q := by
  intro G α ρ ω σ H Q O S P
  refine Post.step (t := ta σ H) (ka G α ρ ω σ H · O S) P fun x ω1 v1 G1 α1 H1 e1 O1 r1 P1 => ?_
  refine Post.step (t := tb σ H1) (kb G1 α1 ρ ω1 σ H1 · O1 (S.mono e1)) P1 fun ds ω2 v2 G2 α2 H2 e2 O2 r2 P2 => ?_
  obtain ⟨d, e, P3⟩ := P2.lift
  obtain ⟨bb, rfl⟩ := hb _ _ _ e
  obtain ⟨c, vs, rfl, h1, h2⟩ := r2
  have r1' : Rep X.K X.mg G2 x v1 := Rep.mono e2.g _ _ r1
  refine B H2 H2 x (.lst ds) _ v1 _ _ (Same.refl _) e (Rep.mono O2.sub _ _ r1') (rep_lst.mpr ⟨c, vs, rfl, h1, Reps.mono O2.sub _ _ h2⟩) fun v G' H' gr q => ?_
  have g2 : Grow G2 H2 G2 H' := ⟨Same.refl _, gr.h, O2.sub.trans gr.h, fun _ _ z => .inl z⟩
  exact Post.grow O2 g2 (rep_bl.mpr (rep_bl.mp q)) P3
theorem de_cO {o : CmpOp} {op : D → D → Option D} (hc : Cmp X o op) (hb : GivesB op) (ja : De X W a f) (jb : Dl X W b g) (hm : behindInMarks o b = false := by first | exact nomark _ | rfl) : De X W (.Compare a [o] [b] pos) (eBinO op f g) := by
  obtain ⟨r, h1, h2⟩ := hc.ex
  obtain ⟨ta, pa, ka⟩ := ja
  obtain ⟨tb, pb, kb⟩ := jb
  exact ⟨_, pe_cmpR h1 pa pb hm, tOpO_post h2 hb ka kb⟩
theorem dt_cO {o : CmpOp} {op : D → D → Option D} (hc : Cmp X o op) (hb : GivesB op) (ja : De X W a f) (jb : Dl X W b g) (hm : behindInMarks o b = false := by first | exact nomark _ | rfl) : Dt X W (.Compare a [o] [b] pos) (eTest (eBinO op f g)) := by
  obtain ⟨r, h1, h2⟩ := hc.ex
  obtain ⟨ta, pa, ka⟩ := ja
  obtain ⟨tb, pb, kb⟩ := jb
  exact ⟨_, pt_cmpR h1 pa pb hm, test_post (tOpO_post h2 hb ka kb)⟩
theorem eBinO_run (op : D → D → Option D) {ρ : Rho} {ω : Om} : eBinO op f g ρ ω = bindL (f ρ ω) (k := ⟨fun x ω1 => bindL (g ρ ω1) (k := ⟨fun ds ω2 => Res.lift (op x (.lst ds)) ω2⟩)⟩) := rfl
end
end Dl
namespace Dl
open PySem L2
/-! ### plain data is equal to itself -/
def dOk : Nat → D → Bool
  | _, .non => true
  | _, .bl _ => true
  | _, .int _ => true
  | _, .str x => PyData.strOk x
  | n + 1, .tup ds => ds.all (dOk n)
  | n + 1, .lst ds => ds.all (dOk n)
  | _, _ => false
mutual
theorem eqv_refl : ∀ p : PyData, PyData.canLay0 p = true → PyData.eqv p p = true
  | .none, _ => by simp [PyData.eqv]
  | .bool b, _ => by simp [PyData.eqv]
  | .int b, _ => by simp [PyData.eqv]
  | .str x, _ => by simp [PyData.eqv]
  | .list xs, h => by
    unfold PyData.canLay0 at h
    unfold PyData.eqv
    exact eqvAll_refl xs h
  | .tuple xs, h => by
    unfold PyData.canLay0 at h
    unfold PyData.eqv
    exact eqvAll_refl xs h
  | .dict _, h => by simp [PyData.canLay0] at h
theorem eqvAll_refl : ∀ ps : List PyData, PyData.canLayAll0 ps = true → PyData.eqvAll ps ps = true
  | [], _ => by simp [PyData.eqvAll]
  | p :: ps, h => by
    unfold PyData.canLayAll0 at h
    rw [Bool.and_eq_true] at h
    unfold PyData.eqvAll
    rw [eqv_refl p h.1, eqvAll_refl ps h.2]; rfl
end
theorem toPys_ok {n : Nat} (ih : ∀ d, dOk n d = true → ∃ p, toPy d = some p ∧ PyData.canLay0 p = true ∧ PyData.depth p ≤ n) : ∀ ds : List D, ds.all (dOk n) = true → ∃ ps, toPys ds = some ps ∧ PyData.canLayAll0 ps = true ∧ PyData.depthAll ps ≤ n
  | [], _ => ⟨[], by simp [toPys], by simp [PyData.canLayAll0], by simp [PyData.depthAll]⟩
  | d :: ds, h => by
    rw [List.all_cons, Bool.and_eq_true] at h
    obtain ⟨p, e, h1, h2⟩ := ih d h.1
    obtain ⟨ps, e', h1', h2'⟩ := toPys_ok ih ds h.2
    refine ⟨p :: ps, by simp [toPys, e, e'], by simp [PyData.canLayAll0, h1, h1'], ?_⟩
    unfold PyData.depthAll
    omega
theorem toPy_ok : ∀ (n : Nat) (d : D), dOk n d = true → ∃ p, toPy d = some p ∧ PyData.canLay0 p = true ∧ PyData.depth p ≤ n
  | _, .non, _ => ⟨.none, by simp [toPy], by simp [PyData.canLay0], by simp [PyData.depth]⟩
  | _, .bl b, _ => ⟨.bool b, by simp [toPy], by simp [PyData.canLay0], by simp [PyData.depth]⟩
  | _, .int b, _ => ⟨.int b, by simp [toPy], by simp [PyData.canLay0], by simp [PyData.depth]⟩
  | _, .str x, h => ⟨.str x, by simp [toPy], by simpa [PyData.canLay0, dOk] using h, by simp [PyData.depth]⟩
  | n + 1, .tup ds, h => by
    obtain ⟨ps, e, h1, h2⟩ := toPys_ok (toPy_ok n) ds (by simpa [dOk] using h)
    exact ⟨.tuple ps, by simp [toPy, e], by simpa [PyData.canLay0] using h1, by unfold PyData.depth; omega⟩
  | n + 1, .lst ds, h => by
    obtain ⟨ps, e, h1, h2⟩ := toPys_ok (toPy_ok n) ds (by simpa [dOk] using h)
    exact ⟨.list ps, by simp [toPy, e], by simpa [PyData.canLay0] using h1, by unfold PyData.depth; omega⟩
  | 0, .tup _, h => by simp [dOk] at h
  | 0, .lst _, h => by simp [dOk] at h
  | 0, .obj _ _, h => by simp [dOk] at h
  | _ + 1, .obj _ _, h => by simp [dOk] at h
theorem eqD_refl {d : D} (n : Nat) (h : dOk n d = true) (hn : n ≤ 64) : eqD d d = some true := by
  obtain ⟨p, e, h1, h2⟩ := toPy_ok n d h
  unfold eqD
  rw [e]
  have hs : SeqAt.shaped p = true := by unfold SeqAt.shaped; rw [h1, decide_eq_true (Nat.le_trans h2 hn)]; rfl
  simp [hs, eqv_refl p h1]
end Dl
namespace Dl
open PySem L2

/-! ### raise -/
abbrev veMro : List Value := [.type "ValueError", .type "Exception", .type "BaseException", .type "object"]
/-- an own error class without __init__ -/
structure ErrC (K : PySem.W.Frag) (mg : MG) (x : Str) (C : Addr) : Prop where
  gl : mg x = some (.ref C)
  ex : PySem.W.excIn K C veMro "ValueError.__new__" = true
  kp : PySem.W.keepIn K (.ref C) = true
  sb : PySem.W.subIn K (.ref C) (.type "BaseException") = some true
  ty : PySem.W.typeIn K (.ref C) = some (.type "type")
/-- one with __init__ -/
structure ErrI (K : PySem.W.Frag) (mg : MG) (x : Str) (C f : Addr) : Prop where
  gl : mg x = some (.ref C)
  ox : OexC K C
  ini : PySem.W.findIn K (.ref C) "__init__" = some (some (.ref f))
  fn : PySem.W.typeIn K (.ref f) = some (.type "function")
section
variable {X : Cx} {W : WX} {x : Str} {p pos pos' : Pos} {C : Addr}
theorem pmk_err0 (T : ErrC X.K X.mg x C) (hg : Gl X x) (hdb : (x == ("__debug__" : Str)) = false := by decide) : PMk X (.Call (.Name x p) [] [] pos) (fun _ H Q => Q (.ref C) none H) := by
  intro pins s σ H Q I h
  refine wpAny_Call_Name_kw (ld_glob I hg T.gl ?_ hdb)
  refine PySem.W.callWith_K0 I.kIn T.kp ?_
  show wpAny _ _ (call (.ref C) []) _ _ _
  obtain ⟨bm, N, nm, qn, bs, hdct, sn, sub, ab, col, dd, k0, k1, k2, k3, k5, mN, hC, hN, hni, Y⟩ := exc_obj I.kIn T.ex
  refine wpAny_call_exc_subT PySem.F.excBase_ValueError Y hC hN hni (fun h' e hm => ?_) (by rw [sizeLine_eq]; decide)
  exact mk_of I hm (raises_own T.sb T.ty) h (I.hok.gone hm.new)
def sRaise (x : Str) : FS := fun ρ ω => .exc ⟨x, []⟩ ρ ω
theorem ds_raise (tk : Takes X W) (T : ErrC X.K X.mg x C) (hc : X.calm = true := by rfl) (hg : Gl X x := by rfl) (hdb : (x == ("__debug__" : Str)) = false := by decide) : Ds X W (.Raise (some (.Call (.Name x p) [] [] pos')) none pos) (sRaise x) :=
  ⟨_, ps_raise hc tk (pmk_err0 T hg hdb), fun G α ρ ω σ H D O S P => P (.ref C) none σ G α H Ext.refl O S ⟨C, T.gl, rfl, .inl ⟨rfl, rfl⟩⟩⟩

/-! ### raise X(a, ..), X's __init__ storing its arguments -/
def spIni (C : Addr) : List Str → Sp
  | [f] => fun vs H Q _ => ∃ a v, vs = [.ref a, v] ∧ H a = some (exo a C none) ∧ ∀ dx, H dx = none → dx ≠ a → Q .non (L2.upd (L2.upd H dx (exd dx [(f, v)])) a (exo a C (some dx)))
  | [f, g] => fun vs H Q _ => ∃ a v u, vs = [.ref a, v, u] ∧ H a = some (exo a C none) ∧ ∀ dx, H dx = none → dx ≠ a → Q .non (L2.upd (L2.upd (L2.upd H dx (exd dx [(f, v)])) a (exo a C (some dx))) dx (exd dx [(g, u), (f, v)]))
  | _ => fun _ _ _ _ => False
def sRaiseI (x : Str) (fls : List Str) (g : FE (List SV)) : FS := fun ρ ω => (g ρ ω).out ρ fun xs ω1 => match allD xs with
  | some ds => if ds.length = fls.length then .exc ⟨x, (fls.zip ds).reverse⟩ ρ ω1 else .stuck
  | none => .stuck
theorem upd_xd {H : Hp} {a dx : Addr} {o1 o2 o3 u : HO} (ha : H a = none) (ne : dx ≠ a) : L2.upd (L2.del (L2.upd (L2.upd (L2.upd H a o1) dx o2) a o3) a) dx u = L2.upd H dx u := by
  funext b
  by_cases h1 : b = dx
  · subst h1; rw [upd_same, upd_same]
  · rw [upd_ne h1, upd_ne h1]
    by_cases h2 : b = a
    · subst h2; rw [del_same, ha]
    · rw [del_ne h2, upd_ne h2, upd_ne h1, upd_ne h2]
theorem upd_xd2 {H : Hp} {a dx : Addr} {o1 o2 o3 o4 u : HO} (ha : H a = none) (ne : dx ≠ a) : L2.upd (L2.del (L2.upd (L2.upd (L2.upd (L2.upd H a o1) dx o2) a o3) dx o4) a) dx u = L2.upd H dx u := by
  funext b
  by_cases h1 : b = dx
  · subst h1; rw [upd_same, upd_same]
  · rw [upd_ne h1, upd_ne h1]
    by_cases h2 : b = a
    · subst h2; rw [del_same, ha]
    · rw [del_ne h2, upd_ne h1, upd_ne h2, upd_ne h1, upd_ne h2]
variable {f : Addr} {k : Nat} {fd : FuncData} {ps fls : List Str} {e : Expr} {es : List Expr} {g : FE (List SV)}
theorem ini_post {sp : Sp} {K : PySem.W.Frag} {mg : MG} {G H : Hp} {α : List Addr} {ω : Om} {vs : List V} {ds : List D} {Q : XK} (hsp : sp = spIni C fls) (hl : ds.length = fls.length) (h2 : fls.length = 1 ∨ fls.length = 2) (O : Own K mg G α ω H) (r : Reps K mg G ds vs)
    (hQ : ∀ dx fvs, H dx = none → RepF K mg (L2.upd G dx (.xd fvs)) (fls.zip ds).reverse fvs → Q (.ref C) (some dx) (L2.upd H dx (.xd fvs))) :
    vs.length ≤ 1000 ∧ ∀ a, H a = none → sp (.ref a :: (vs ++ [])) (L2.upd H a (exo a C none))
      (fun v H2 => v = .non ∧ ∃ (d : Addr) (fs : List (Str × V)), H2 a = some (exo a C (some d)) ∧ H2 d = some (exd d fs) ∧ H d = none ∧ Q (.ref C) (some d) (L2.upd (L2.del H2 a) d (.xd fs))) (fun _ _ _ => False) := by
  subst hsp
  have hv := r.length
  refine ⟨by omega, fun a ha => ?_⟩
  rw [List.append_nil]
  match fls, ds, hl, h2 with
  | [f1], [d1], _, _ =>
    obtain ⟨v1, rfl, r1⟩ := reps1 r
    refine ⟨a, v1, rfl, upd_same, fun dx hx ne => ⟨rfl, dx, [(f1, v1)], upd_same, ?_, ?_, ?_⟩⟩
    · rw [upd_ne ne, upd_same]
    · rw [upd_ne ne] at hx; exact hx
    · rw [upd_ne ne] at hx
      rw [upd_xd ha ne]
      exact hQ dx _ hx (repF_cons.mpr ⟨v1, [], rfl, Rep.mono (Same.upd (O.sub.free hx)) _ _ r1, repF_nil.mpr rfl⟩)
  | [f1, f2], [d1, d2], _, _ =>
    obtain ⟨v1, v2, rfl, r1, r2⟩ := reps2 r
    refine ⟨a, v1, v2, rfl, upd_same, fun dx hx ne => ⟨rfl, dx, [(f2, v2), (f1, v1)], ?_, upd_same, ?_, ?_⟩⟩
    · rw [upd_ne (Ne.symm ne), upd_same]
    · rw [upd_ne ne] at hx; exact hx
    · rw [upd_ne ne] at hx
      rw [upd_xd2 ha ne]
      have s := Same.upd (H := G) (p := dx) (o := .xd [(f2, v2), (f1, v1)]) (O.sub.free hx)
      exact hQ dx _ hx (repF_cons.mpr ⟨v2, _, rfl, Rep.mono s _ _ r2, repF_cons.mpr ⟨v1, [], rfl, Rep.mono s _ _ r1, repF_nil.mpr rfl⟩⟩)
  | [], _, _, .inl z => simp at z
  | [], _, _, .inr z => simp at z
theorem ds_raiseI (tk : Takes X W) (T : ErrI X.K X.mg x C f) (F : FnOk X.prog X.w X.K X.mg X.base (L2.CX X.prog X.w) k f fd ps (spIni C fls)) (hr : Room (k + 1) X.A) (hb : Binds X.K fd ps []) (h : Da X W (e :: es) g) (h2 : fls.length = 1 ∨ fls.length = 2 := by decide) (hc : X.calm = true := by rfl) (hg : Gl X x := by rfl)
    (hdb : (x == ("__debug__" : Str)) = false := by decide) (he : starEach (e :: es) X.env = (false, eval e X.env) :: starEach es X.env := by rfl) (hpl : (backTo pos' (starEach es X.env)).any (·.1) = false := by rfl) :
    Ds X W (.Raise (some (.Call (.Name x p) (e :: es) [] pos')) none pos) (sRaiseI x fls g) := by
  obtain ⟨t, q, j⟩ := h
  refine ⟨_, ps_raise hc tk (pmk_oex (dvs := []) T.ox T.ini T.fn F hr hb .nil (passes_call tk fun _ _ _ _ z => z.elim) hg T.gl q hdb he hpl), fun G α ρ ω σ H D O S P => ?_⟩
  refine PostS.step S (t := t σ H) (j G α ρ ω σ H · O S) P fun xs ω1 vs G1 α1 H1 e1 O1 r1 P1 => ?_
  cases q1 : allD xs with
  | none => rw [q1] at P1; exact P1.elim
  | some ds =>
    rw [q1] at P1
    dsimp only at P1
    split at P1
    · rename_i hl
      refine ini_post (C := C) (Q := fun cls d H' => W cls d σ H') rfl hl h2 O1 (allD_reps q1 r1) fun dx fvs hx rf => ?_
      have gr := Grow.put (o := HO.xd fvs) O1.sub hx
      exact P1 (.ref C) (some dx) σ _ α1 _ gr.ext (O1.grow gr) ((S.mono e1).mono (gr.ext (α := α1))) ⟨C, T.gl, rfl, .inr ⟨dx, fvs, rfl, upd_same, rf⟩⟩
    · exact P1.elim
end
section
variable {P : Program} {w : World} {K : PySem.W.Frag} {mg : MG} {base : Heap}
/-- the __init__ that stores one argument, and two -/
theorem ini_ok1 {x qual : Str} {st : Stmt} {f C : Addr} {fd : FuncData} {fl a1 : Str} {p1 p2 p3 p4 : Pos} (F : Fun K x qual st f fd) (S : FnScope ["self", a1] ["self", a1] (defScope st)) (ox : OexC K C) (no : PySem.W.findIn K (.ref C) fl = some none)
    (hb : defBody st = [.Assign [.Attribute (.Name "self" p1) fl p2] (.Name a1 p3) p4])
    (hp : ∀ (cdv : Value) (A : Around) (outer : List Env) (s : Shared) (H : Hp) (E : XK), ∃ te, PS (cxOf (L2.CX P w) P w K mg base ["self", a1] qual (defScope st) f cdv A outer s H E) (.Assign [.Attribute (.Name "self" p1) fl p2] (.Name a1 p3) p4) (tOst K fl (tVar 0) (tVar te)) ∧ te = 1) :
    FnOk P w K mg base (L2.CX P w) 1 f fd ["self", a1] (spIni C [fl]) := by
  refine F.okX (k := 0) S (fun vs H Q E h => ?_) (fun cdv A outer s H vs Q E hr h => ?_)
  · obtain ⟨a, v, rfl, _⟩ := h; rfl
  · obtain ⟨a, v, rfl, ha, q⟩ := h
    obtain ⟨_, t, rfl⟩ := hp cdv A outer s H E
    rw [hb]
    refine ⟨_, pss_one t, v, rfl, .ref a, rfl, a, C, rfl, ox, no, .inl ⟨ha, fun dx h1 h2 => q dx h1 h2⟩⟩
theorem ini_ok2 {x qual : Str} {st : Stmt} {f C : Addr} {fd : FuncData} {fl fl2 a1 a2 : Str} {p1 p2 p3 p4 p5 p6 p7 p8 : Pos} (F : Fun K x qual st f fd) (S : FnScope ["self", a1, a2] ["self", a1, a2] (defScope st)) (ox : OexC K C) (no : PySem.W.findIn K (.ref C) fl = some none) (no2 : PySem.W.findIn K (.ref C) fl2 = some none)
    (hb : defBody st = [.Assign [.Attribute (.Name "self" p1) fl p2] (.Name a1 p3) p4, .Assign [.Attribute (.Name "self" p5) fl2 p6] (.Name a2 p7) p8])
    (hp : ∀ (cdv : Value) (A : Around) (outer : List Env) (s : Shared) (H : Hp) (E : XK), ∃ te, PS (cxOf (L2.CX P w) P w K mg base ["self", a1, a2] qual (defScope st) f cdv A outer s H E) (.Assign [.Attribute (.Name "self" p1) fl p2] (.Name a1 p3) p4) (tOst K fl (tVar 0) (tVar te)) ∧ te = 1)
    (hp2 : ∀ (cdv : Value) (A : Around) (outer : List Env) (s : Shared) (H : Hp) (E : XK), ∃ te, PS (cxOf (L2.CX P w) P w K mg base ["self", a1, a2] qual (defScope st) f cdv A outer s H E) (.Assign [.Attribute (.Name "self" p5) fl2 p6] (.Name a2 p7) p8) (tOst K fl2 (tVar 0) (tVar te)) ∧ te = 2) :
    FnOk P w K mg base (L2.CX P w) 1 f fd ["self", a1, a2] (spIni C [fl, fl2]) := by
  refine F.okX (k := 0) S (fun vs H Q E h => ?_) (fun cdv A outer s H vs Q E hr h => ?_)
  · obtain ⟨a, v, u, rfl, _⟩ := h; rfl
  · obtain ⟨a, v, u, rfl, ha, q⟩ := h
    obtain ⟨_, t, rfl⟩ := hp cdv A outer s H E
    obtain ⟨_, t2, rfl⟩ := hp2 cdv A outer s H E
    rw [hb]
    refine ⟨_, pss_cons t (pss_one t2), v, rfl, .ref a, rfl, a, C, rfl, ox, no, .inl ⟨ha, fun dx h1 h2 => ?_⟩⟩
    exact ⟨u, rfl, .ref a, rfl, a, C, rfl, ox, no2, .inr ⟨dx, [(fl, v)], upd_same, by rw [upd_ne h2, upd_same], by show 1 ≤ 900; decide, q dx h1 h2⟩⟩
end
end Dl
namespace Dl
open PySem L2 PySem.Spec PyProof.Rows

/-! ### several clauses, each with a name -/
abbrev TSu := Addr → Value → Option Addr → TS
def wAll (K : PySem.W.Frag) (Wo : WX) (D : Ends) (i : Nat) : List (Value × TSu) → WX
  | [] => Wo
  | (c, ts) :: r => fun cls d σ H => ∃ b, PySem.W.exmOne K cls c = some b ∧
      (b = true → ∀ a, H a = none → ts a cls d ⟨fun σ' H' => D.nx (σ'.set i none) H', D.rt, fun σ' H' => D.bk (σ'.set i none) H', fun σ' H' => D.ct (σ'.set i none) H'⟩ (σ.set i (some (.ref a))) H) ∧ (b = false → wAll K Wo D i r cls d σ H)
abbrev SuAt (X : Cx) (b : List Stmt) (ts : TSu) : Prop := ∀ (a : Addr) (oe : Obj) (cls : Value) (d : Option Addr) (pn : List (Addr × Obj)), Zc cls d oe → (∃ vs, oe.data = .fields vs) → PSs (X.suite a ((a, oe) :: pn)) b (ts a cls d)
inductive Cls1 (X : Cx) (n : Str) : List ExceptHandler → List (Value × TSu) → Prop
  | nil : Cls1 X n [] []
  | cons {x : Str} {c : Value} {ts : TSu} {b : Stmt} {su : List Stmt} {p1 p2 : Pos} {hds : List ExceptHandler} {l : List (Value × TSu)} (hc : Names X x c) (hsu : SuAt X (b :: su) ts) (r : Cls1 X n hds l) :
      Cls1 X n (.ExceptHandler (some (.Name x p1)) (some n) (b :: su) p2 :: hds) ((c, ts) :: l)
section
variable {X : Cx} {n : Str} {i : Nat} {body : List Stmt} {h₀ : ExceptHandler} {hds : List ExceptHandler} {l : List (Value × TSu)} {pos : Pos} {tb : WX → TS} {Wo : WX}
theorem ps_try_all (hs : X.stack = X.env :: X.outer) (hf : X.env.frame = some X.env.locals) (hN : X.N.Nodup) (hi : X.N[i]? = some n) (hln : X.env.kindOf n = some .local) (tk : Takes X Wo)
    (hb : ∀ (W : WX) (pn : List (Addr × Obj)) (xe : Value → Shared → Prop), Takes (X.tr pn xe) W → PassesOwn (model X.prog X.w) X.A X.env xe → PSs (X.tr pn xe) body (tb W))
    (hh : Cls1 X n (h₀ :: hds) l) : PS X (.Try body (h₀ :: hds) [] [] pos) (fun D σ H => tb (wAll X.K Wo D i l) D σ H) := by
  refine ⟨fun pins s σ H D I h => ?_⟩
  have ok := I.ok
  have hfr : X.A.frames = some (X.env :: X.outer) := by rw [ok.frames, hs]
  refine wpAny_Try_except ?_
  refine wpAny_mono ((hb (wAll X.K Wo D i l) (X.pn ++ pins) (fun e s1 => wpAny (model X.prog X.w) X.A (noteFrame e X.env) (fun _ s2 => wpAny (model X.prog X.w) X.A (setFlight e none) (fun _ s3 =>
    wpAny (model X.prog X.w) X.A (handleBy e X.env (h₀ :: hds)) (SP X pins D) X.xe s3) X.xe s2) X.xe s1) (fun u s' xx => ?_) PassesOwn.looking).run [] s σ H D (I.toTry _) h) (fun f s1 q => ?_) (fun e s1 he => he)
  · obtain ⟨a, B, sI, pins', σ1, H1, cls, d, rfl, J0, nb, up, sky, na, os, ag, w⟩ := xx
    have J : Inv X pins σ1 H1 sI := J0.ofTry ok
    rw [hs] at sky
    show wpAny (model X.prog X.w) X.A (noteFrame (.ref a) X.env) _ _ _
    refine Sky.land Zc.steady hfr hf sky fun h3 fl3 up3 => ?_
    have J3 : Inv X pins σ1 H1 { s' with heap := h3 } := J.landed nb fl3.1 (up.trans up3) os ag
    obtain ⟨oe3, vs3, he3, hz3, hd3⟩ := fl3.there
    have nfr : a ∉ frs (X.env :: X.outer) := fun hm => by
      obtain ⟨_, o', e', hnf⟩ := fl3.2.2.1.mem hm
      rw [he3] at e'; cases e'
      exact hnf _ hd3
    have nL : a ≠ X.env.locals := fun z => nfr (List.mem_filterMap.mpr ⟨X.env, List.mem_cons_self, by rw [hf, z]⟩)
    have nF : a ∉ X.fs := fun hm => by
      obtain ⟨e, he, q⟩ := List.mem_filterMap.mp hm
      exact nfr (List.mem_filterMap.mpr ⟨e, List.mem_cons_of_mem _ he, q⟩)
    have S3 := J3.suite he3 hd3 na nL nF
    have go : ∀ {hs1 : List ExceptHandler} {l1 : List (Value × TSu)}, Cls1 X n hs1 l1 → wAll X.K Wo D i l1 cls d σ1 H1 → wpAny (model X.prog X.w) X.A (handleBy (.ref a) X.env hs1) (SP X pins D) X.xe { s' with heap := h3 } := by
      intro hs1 l1 hk
      induction hk with
      | nil =>
        intro w
        refine wpAny_handleBy_nil ?_
        obtain ⟨k1, k2, k3, oe, vs, T, oT, ts', he, hz, hd, h1, hr⟩ := id fl3
        unfold PySem.passOn
        refine wpAny_bind (wpAny_field he hd h1 ?_)
        rw [if_neg (by simp)]
        have fin : wpAny (model X.prog X.w) X.A (setFlight (.ref a) X.env.frame) (fun _ s4 => wpAny (model X.prog X.w) X.A (throw (.ref a) : Sem Flow) (SP X pins D) X.xe s4) X.xe { s' with heap := h3 } := by
          rw [hf]
          refine HandSPX.setFlight_upZ fl3 fun h4 hh4 up4 => wpAny_throw (tk _ _ ?_)
          exact ⟨a, B, sI, pins, σ1, H1, cls, d, rfl, J, nb, (up.trans up3).trans up4, .inr (.inr (by rw [hs]; exact hh4)), na, os, ag, w⟩
        first | exact wpAny_bind (wpAny_pure (wpAny_bind fin)) | exact wpAny_bind fin
      | @cons x c ts b su p1 p2 hds2 l2 hc hsu r ih =>
        intro w
        obtain ⟨t, ht, yes, no⟩ := w
        refine wpAny_handleBy_cons (codeAny_handlers_test ?_) (by intro q; cases q)
        have LT : PySem.W.Looks (model X.prog X.w) h3 (typeOf (.ref a)) cls := fun A Q E s k q => wpAny_typeOf_ref (k _ _ he3) (by rw [hz3.1]; exact q)
        have LM := PySem.W.exm_one (M := model X.prog X.w) (J3.kIn) LT ht
        have test : ∀ {Q E : Value → Shared → Prop}, Q c { s' with heap := h3 } → wpAny (model X.prog X.w) (X.A.mark (some (.ref a))) (eval (.Name x p1) X.env) Q E { s' with heap := h3 } := fun {Q E} q => by
          obtain ⟨hg, hdbg, hm | ⟨hm, hv, hnn⟩⟩ := hc
          · exact ld_glob (X := X.suite a ((a, oe3) :: (X.pn ++ pins))) S3 hg hm q hdbg
          · exact ld_blt (X := X.suite a ((a, oe3) :: (X.pn ++ pins))) S3 hg hm hv q hnn hdbg
        refine test (LM.here ?_)
        cases t with
        | true =>
          refine codeAny_handlers_suite_as ?_
          refine HandSPX.lands_againZ fl3 fun h4 fl4 up4 => ?_
          have J4 : Inv X pins σ1 H1 { s' with heap := h4 } := J.landed nb fl4.1 ((up.trans up3).trans up4) os ag
          obtain ⟨oe4, vs4, he4, hz4, hd4⟩ := fl4.there
          have S4 := J4.suite he4 hd4 na nL nF
          refine store_ok (X := X.suite a ((a, oe4) :: (X.pn ++ pins))) (v := .ref a) S4 hN hi (.inl hln) rfl (fun s5 S5 => ?_) (.inr hln)
          refine wpAny_mono ((hsu a oe4 cls d (X.pn ++ pins) hz4 ⟨_, hd4⟩).run [] s5 _ H1 _ S5 (yes rfl a na)) (fun f s6 q => ?_) (fun _ _ z => False.elim z)
          have end_ : ∀ {σ6 : L2.St} {H6 : Hp} {Q : Shared → Prop}, Inv (X.suite a ((a, oe4) :: (X.pn ++ pins))) [] σ6 H6 s6 → (∀ s7, Inv X pins (σ6.set i none) H6 s7 → Q s7) →
              wpAny (model X.prog X.w) X.A (do bindName X.env n .none; unbindBehindTheSuite X.env n p2) (fun _ s7 => Q s7) X.xe s6 := fun {σ6 H6 Q} S6 hq => gone_ok (S6.unsuite ok) hN hi hln hq
          cases f with
          | next => obtain ⟨σ6, H6, S6, q6⟩ := q; exact end_ S6 fun s7 J7 => ⟨_, _, J7, q6⟩
          | brk => obtain ⟨σ6, H6, S6, q6⟩ := q; exact end_ S6 fun s7 J7 => ⟨_, _, J7, q6⟩
          | cont => obtain ⟨σ6, H6, S6, q6⟩ := q; exact end_ S6 fun s7 J7 => ⟨_, _, J7, q6⟩
          | ret u => obtain ⟨v6, σ6, H6, S6, r6, q6⟩ := q; exact end_ S6 fun s7 J7 => ⟨_, _, _, J7, r6, q6⟩
        | false =>
          show wpAny _ X.A (handleBy (.ref a) X.env hds2) _ _ _
          exact ih (no rfl)
    exact go hh w
  · cases f with
    | next => obtain ⟨σ1, H1, J1, q⟩ := q; exact wpAny_execs_nil ⟨σ1, H1, J1.ofTry ok, q⟩
    | brk => obtain ⟨σ1, H1, J1, q⟩ := q; exact ⟨σ1, H1, J1.ofTry ok, q⟩
    | cont => obtain ⟨σ1, H1, J1, q⟩ := q; exact ⟨σ1, H1, J1.ofTry ok, q⟩
    | ret u => obtain ⟨v, σ1, H1, J1, r, q⟩ := q; exact ⟨v, σ1, H1, J1.ofTry ok, r, q⟩
end

/-! ### the denotation -/
/-- which error is caught by which clause -/
def subX (x c : Str) : Bool := x == c || c == "StripError" || c == "ValueError"
def unbind (i : Nat) : Out → Out
  | .next ρ ω => .next (ρ.set i none) ω
  | .brk ρ ω => .brk (ρ.set i none) ω
  | .cont ρ ω => .cont (ρ.set i none) ω
  | .ret x ω => .ret x ω
  | _ => .stuck
def tryH (i : Nat) (x : Exn) (ρ : Rho) (ω : Om) : List (Str × (Exn → FS)) → Out
  | [] => .exc x ρ ω
  | (c, f) :: r => if subX x.cls c = true then unbind i (f x (ρ.set i none) ω) else tryH i x ρ ω r
def tryO (nms : List Str) (i : Nat) (hs : List (Str × (Exn → FS))) : Out → Out
  | .exc x ρ ω => if nms.contains x.cls = true ∧ i < ρ.length then tryH i x ρ ω hs else .stuck
  | o => o
def sTry (nms : List Str) (i : Nat) (b : FS) (hs : List (Str × (Exn → FS))) : FS := fun ρ ω => tryO nms i hs (b ρ ω)
def tSu (K : PySem.W.Frag) (mg : MG) (nms : List Str) (i : Nat) (f : Exn → FS) : TSu := fun a cls d D σ H => ∃ G α ρ ω x, nms.contains x.cls = true ∧ Own K mg G α ω H ∧ Slots K mg G α ρ σ ∧ σ[i]? = some (some (.ref a)) ∧ RepX K mg G x cls d ∧ PostS K mg G α H D W0 (f x ρ ω)
def SuOk (X : Cx) (nms : List Str) (i : Nat) (b : List Stmt) (f : Exn → FS) : Prop := SuAt X b (tSu X.K X.mg nms i f)
/-- what the top says of the error classes: those that may fly, and one that a clause names -/
def Catches (K : PySem.W.Frag) (mg : MG) (nms : List Str) (c : Str) (C : Addr) : Prop := ∀ n ∈ nms, ∃ D, mg n = some (.ref D) ∧ PySem.W.exmOne K (.ref D) (.ref C) = some (subX n c)
inductive Hds (X : Cx) (nms : List Str) (n : Str) (i : Nat) : List ExceptHandler → List (Str × (Exn → FS)) → Prop
  | nil : Hds X nms n i [] []
  | cons {x : Str} {C : Addr} {f : Exn → FS} {b : Stmt} {su : List Stmt} {p1 p2 : Pos} {hds : List ExceptHandler} {l : List (Str × (Exn → FS))} (hg : Gl X x) (hd : (x == ("__debug__" : Str)) = false) (hm : X.mg x = some (.ref C)) (hx : Catches X.K X.mg nms x C) (hsu : SuOk X nms i (b :: su) f) (r : Hds X nms n i hds l) :
      Hds X nms n i (.ExceptHandler (some (.Name x p1)) (some n) (b :: su) p2 :: hds) ((x, f) :: l)
section
variable {X : Cx} {W : WX} {n : Str} {i : Nat} {nms : List Str} {body : List Stmt} {h₀ : ExceptHandler} {hds : List ExceptHandler} {l : List (Str × (Exn → FS))} {pos : Pos} {fb : FS}
theorem Slots.setA {K : PySem.W.Frag} {mg : MG} {G : Hp} {α : List Addr} {ρ : Rho} {σ : L2.St} (S : Slots K mg G α ρ σ) (i : Nat) (v : Option V) : Slots K mg G α (ρ.set i none) (σ.set i v) := by
  refine ⟨by rw [List.length_set, List.length_set]; exact S.len, fun j x h => ?_⟩
  by_cases e : i = j
  · subst e
    rw [List.getElem?_set] at h
    simp at h
  · rw [List.getElem?_set_ne e] at h
    obtain ⟨v, h1, h2⟩ := S.val j x h
    exact ⟨v, by rw [List.getElem?_set_ne e]; exact h1, h2⟩
def tBody (K : PySem.W.Frag) (mg : MG) (f : FS) (W : WX) : TS := fun D σ H => ∃ G α ρ ω, Own K mg G α ω H ∧ Slots K mg G α ρ σ ∧ PostS K mg G α H D W (f ρ ω)
theorem can_ss (h : Dss X W body fb) : PSs X body (tBody X.K X.mg fb W) := by
  obtain ⟨t, p, k⟩ := h
  exact ⟨fun pins s σ H D I ⟨G, α, ρ, ω, O, S, P⟩ => p.run pins s σ H D I (k G α ρ ω σ H D O S P)⟩
theorem unbind_post {K : PySem.W.Frag} {mg : MG} {G H : Hp} {α : List Addr} {D : Ends} : ∀ {o : Out}, PostS K mg G α H D W (unbind i o) →
    PostS K mg G α H ⟨fun σ' H' => D.nx (σ'.set i none) H', D.rt, fun σ' H' => D.bk (σ'.set i none) H', fun σ' H' => D.ct (σ'.set i none) H'⟩ W0 o
  | .stuck, h => h
  | .exc _ _ _, h => h.elim
  | .next ρ ω, h => fun σ' G' α' H' e O S => h _ G' α' H' e O (S.setA i none)
  | .brk ρ ω, h => fun σ' G' α' H' e O S => h _ G' α' H' e O (S.setA i none)
  | .cont ρ ω, h => fun σ' G' α' H' e O S => h _ G' α' H' e O (S.setA i none)
  | .ret x ω, h => h
def lTs (K : PySem.W.Frag) (mg : MG) (nms : List Str) (i : Nat) : List (Str × (Exn → FS)) → List (Value × TSu)
  | [] => []
  | (c, f) :: r => ((mg c).getD .none, tSu K mg nms i f) :: lTs K mg nms i r
theorem Hds.cls {hds : List ExceptHandler} {l : List (Str × (Exn → FS))} (h : Hds X nms n i hds l) : Cls1 X n hds (lTs X.K X.mg nms i l) := by
  induction h with
  | nil => exact .nil
  | cons hg hd hm hx hsu r ih =>
    unfold lTs
    rw [hm]
    exact .cons ⟨hg, hd, .inl hm⟩ hsu ih
theorem hds_post {D : Ends} {x : Exn} {cls : Value} {dd : Option Addr} {G H : Hp} {α : List Addr} {ρ : Rho} {ω : Om} {σ : L2.St} (hil : i < ρ.length) (hn : nms.contains x.cls = true) (O : Own X.K X.mg G α ω H) (S : Slots X.K X.mg G α ρ σ) (r : RepX X.K X.mg G x cls dd) {hds : List ExceptHandler} {l : List (Str × (Exn → FS))} (h : Hds X nms n i hds l)
    (P : PostS X.K X.mg G α H D W (tryH i x ρ ω l)) : wAll X.K W D i (lTs X.K X.mg nms i l) cls dd σ H := by
  induction h with
  | nil => exact P cls dd σ G α H Ext.refl O S r
  | @cons c C f b su p1 p2 hds l hg hd hm hx hsu t ih =>
    unfold lTs wAll
    obtain ⟨E, hE, hs⟩ := hx x.cls (List.contains_iff_mem.mp hn)
    obtain ⟨E', hE', rfl, r'⟩ := id r
    rw [hE'] at hE; cases hE
    refine ⟨_, by rw [hm]; exact hs, fun hb a ha => ?_, fun hb => ?_⟩
    · unfold tryH at P
      rw [if_pos hb] at P
      refine ⟨G, α, ρ.set i none, ω, x, hn, O, S.setA i _, ?_, r, unbind_post P⟩
      rw [List.getElem?_set_self (by rw [S.len]; exact hil)]
    · unfold tryH at P
      rw [if_neg (by rw [hb]; decide)] at P
      exact ih P
theorem ds_try (tk : Takes X W) (hs : X.stack = X.env :: X.outer := by rfl) (hf : X.env.frame = some X.env.locals := by rfl) (hN : X.N.Nodup) (hi : X.N[i]? = some n := by rfl) (hln : X.env.kindOf n = some .local := by rfl)
    (hb : ∀ (W : WX) (pn : List (Addr × Obj)) (xe : Value → Shared → Prop), Takes (X.tr pn xe) W → PassesOwn (model X.prog X.w) X.A X.env xe → Dss (X.tr pn xe) W body fb)
    (hh : Hds X nms n i (h₀ :: hds) l) : Ds X W (.Try body (h₀ :: hds) [] [] pos) (sTry nms i fb l) := by
  refine ⟨_, ps_try_all (tb := tBody X.K X.mg fb) hs hf hN hi hln tk (fun W' pn xe tk' hp => can_ss (hb W' pn xe tk' hp)) hh.cls, fun G α ρ ω σ H D O S P => ⟨G, α, ρ, ω, O, S, ?_⟩⟩
  unfold sTry at P
  cases q : fb ρ ω with
  | stuck => rw [q] at P; exact P
  | next _ _ => rw [q] at P; exact P
  | brk _ _ => rw [q] at P; exact P
  | cont _ _ => rw [q] at P; exact P
  | ret _ _ => rw [q] at P; exact P
  | exc x ρ1 ω1 =>
    rw [q] at P
    unfold tryO at P
    intro c dd σ' G' α' H' e O' S' r
    by_cases hn : nms.contains x.cls = true ∧ i < ρ1.length
    · dsimp only at P
      rw [if_pos hn] at P
      exact hds_post hn.2 hn.1 O' S' r hh (PostS.weak e P)
    · dsimp only at P
      rw [if_neg hn] at P
      exact P.elim
end
end Dl
namespace Dl
open PySem L2

/-! ### what the top says of the error classes -/
structure ErrX (K : PySem.W.Frag) (mg : MG) (x : Str) (C : Addr) : Prop where
  gl : mg x = some (.ref C)
  xc : ExcC K C
  ty : PySem.W.typeIn K (.ref C) = some (.type "type")
  self : PySem.W.subIn K (.ref C) (.ref C) = some true
section
variable {K : PySem.W.Frag} {mg : MG} {x c : Str} {C D : Addr} {nms : List Str}
theorem ErrX.exm (T : ErrX K mg c C) {b : Bool} (h : PySem.W.subIn K (.ref D) (.ref C) = some b) : PySem.W.exmOne K (.ref D) (.ref C) = some b := PySem.W.exm_ref T.xc.hs T.xc.hd T.ty h
theorem ErrX.kit (T : ErrX K mg c C) {b : Bool} (h : PySem.W.subIn K (.ref D) (.ref C) = some b) : PySem.W.kitOne K (.ref D) (.ref C) = some b := by
  obtain ⟨cd, hc, _⟩ := PySem.W.any_some T.xc.hd
  have e2 : ((PySem.W.clsIn K C).isSome && PySem.W.typeIn K (.ref C) == some (.type "type")) = true := by rw [hc, T.ty] <;> rfl
  unfold PySem.W.kitOne
  by_cases e : ((Value.ref D == Value.ref C) = true)
  · rw [if_pos e]
    have := Value.ref.inj (beq_iff_eq.mp e)
    subst this
    rw [T.self] at h
    exact h
  · rw [if_neg e]
    unfold PySem.W.kitCls
    dsimp only
    rw [if_pos e2]
    exact h
theorem catches_nil : Catches K mg [] c C := fun n h => by cases h
theorem catches_cons (T : ErrX K mg c C) (N : ErrX K mg x D) (h : PySem.W.subIn K (.ref D) (.ref C) = some (subX x c)) (r : Catches K mg nms c C) : Catches K mg (x :: nms) c C := fun n hn => by
  rcases List.mem_cons.mp hn with rfl | hn
  · exact ⟨D, N.gl, T.exm h⟩
  · exact r n hn
/-- isinstance of a caught error -/
def Isx (K : PySem.W.Frag) (mg : MG) (nms : List Str) (c : Str) (C : Value) : Prop := ∀ n ∈ nms, ∃ D, mg n = some (.ref D) ∧ ExcC K D ∧ PySem.W.kitOne K (.ref D) C = some (subX n c)
theorem isx_nil {v : Value} : Isx K mg [] c v := fun n h => by cases h
theorem isx_cons (T : ErrX K mg c C) (N : ErrX K mg x D) (h : PySem.W.subIn K (.ref D) (.ref C) = some (subX x c)) (r : Isx K mg nms c (.ref C)) : Isx K mg (x :: nms) c (.ref C) := fun n hn => by
  rcases List.mem_cons.mp hn with rfl | hn
  · exact ⟨D, N.gl, N.xc, T.kit h⟩
  · exact r n hn
theorem isx_consV (N : ErrX K mg x D) (h : PySem.W.subIn K (.ref D) (.type "ValueError") = some true) (r : Isx K mg nms "ValueError" (.type "ValueError")) : Isx K mg (x :: nms) "ValueError" (.type "ValueError") := fun n hn => by
  rcases List.mem_cons.mp hn with rfl | hn
  · refine ⟨D, N.gl, N.xc, ?_⟩
    have e : subX n "ValueError" = true := by unfold subX; simp
    rw [e]
    unfold PySem.W.kitOne
    rw [if_neg (by simp)]
    unfold PySem.W.kitCls
    dsimp only
    rw [if_pos (by decide +kernel)]
    exact h
  · exact r n hn
end
/-- isinstance(e, c), e held by the suite, with fields or without -/
def rIsX (K : PySem.W.Frag) (a : Addr) (cls : Value) (d : Option Addr) : List V → Hp → VK → Prop := fun xs H Q => ∃ (c : V) (cv : Value) (D : Addr) (b : Bool), xs = [.ref a, c] ∧ (∀ u, RelV c u → u = cv) ∧ cls = .ref D ∧ ExcC K D ∧ PySem.W.kitOne K (.ref D) cv = some b ∧
  (d = none ∨ ∃ dd fs, d = some dd ∧ H dd = some (.xd fs)) ∧ Q (.bl b) H
theorem call_isX {X : Cx} {a : Addr} {cls : Value} {d : Option Addr} {oe : Obj} {pn : List (Addr × Obj)} (hz : Zc cls d oe) (hf : ∃ vs, oe.data = .fields vs) : CallR (X.suite a ((a, oe) :: pn)) (.builtin "isinstance") (rIsX X.K a cls d) := by
  intro pins s σ H xs us Q I r h
  obtain ⟨c, cv, D, b, rfl, hcv, rfl, C, e, hd, q⟩ := h
  cases r with
  | cons rx rr =>
    cases rr with
    | cons rt rr =>
      cases rr
      cases rx
      have ec := hcv _ rt
      subst ec
      obtain ⟨hget, _⟩ := I.pin (a, oe) (List.mem_append.mpr (.inl List.mem_cons_self))
      obtain ⟨vs, hv⟩ := hf
      have hcl : (PySem.W.clsIn X.K D).isSome = true := by
        obtain ⟨cd, hc, _⟩ := PySem.W.any_some C.hd
        rw [hc]; rfl
      have J : ∃ od, PySem.W.InstAt s.heap a oe D od := by
        rcases hd with rfl | ⟨dd, fs, rfl, hx⟩
        · refine ⟨none, ?_⟩
          obtain ⟨oc, od, oda, osl⟩ := oe
          obtain ⟨h1, h2⟩ := hz
          dsimp only at h1 h2 hv
          subst h1 h2 hv
          exact ⟨hget, rfl, rfl, trivial⟩
        · have hk : ObjOk X.prog X.w H s.heap dd (.xd fs) := I.hok dd _ hx
          obtain ⟨mA, hns, hr⟩ := hk
          obtain ⟨od, ho, hl⟩ := lookIn_ns hns
          exact ⟨some od, hget, hz.1, by unfold PySem.W.notCls; rw [hv] <;> rfl, by rw [hz.2]; exact ho⟩
      obtain ⟨od, J⟩ := J
      exact PySem.W.kia_one (PySem.W.kitx_exc hcl C.hg C.hk C.hs C.ha C.hn C.ht C.hm) I.kIn J e (fun z => nomatch z) fun tk => ⟨.bl b, H, I.kept (t' := tk) fun _ _ z => z, rfl, q⟩

/-! ### expressions in a suite -/
theorem Res.bind_assoc {β γ δ : Type} (r : Res β) (f : β → Om → Res γ) (g : γ → Om → Res δ) : (r.bind f).bind g = r.bind fun b ω => (f b ω).bind g := by cases r <;> rfl
def tDx (K : PySem.W.Frag) (mg : MG) (nms : List Str) (i : Nat) (f : Exn → FE D) (a : Addr) (cls : Value) (d : Option Addr) : TE := fun σ H Q => ∃ G α ρ ω x, nms.contains x.cls = true ∧ Own K mg G α ω H ∧ Slots K mg G α ρ σ ∧ σ[i]? = some (some (.ref a)) ∧ RepX K mg G x cls d ∧ Post K mg (RD K mg) G α H Q (fun _ _ _ => False) (f x ρ ω)
def Dx (X : Cx) (nms : List Str) (i : Nat) (e : Expr) (f : Exn → FE D) : Prop := ∀ (a : Addr) (oe : Obj) (cls : Value) (d : Option Addr) (pn : List (Addr × Obj)), Zc cls d oe → (∃ vs, oe.data = .fields vs) → PE (X.suite a ((a, oe) :: pn)) e (tDx X.K X.mg nms i f a cls d)
def tDxA (K : PySem.W.Frag) (mg : MG) (nms : List Str) (i : Nat) (f : Exn → FE (List SV)) (a : Addr) (cls : Value) (d : Option Addr) : TA := fun σ H Q => ∃ G α ρ ω x, nms.contains x.cls = true ∧ Own K mg G α ω H ∧ Slots K mg G α ρ σ ∧ σ[i]? = some (some (.ref a)) ∧ RepX K mg G x cls d ∧ Post K mg (RA K mg) G α H Q (fun _ _ _ => False) (f x ρ ω)
def DxA (X : Cx) (nms : List Str) (i : Nat) (es : List Expr) (f : Exn → FE (List SV)) : Prop := ∀ (a : Addr) (oe : Obj) (cls : Value) (d : Option Addr) (pn : List (Addr × Obj)), Zc cls d oe → (∃ vs, oe.data = .fields vs) → PA (X.suite a ((a, oe) :: pn)) es (tDxA X.K X.mg nms i f a cls d)
theorem RepX.mono {K : PySem.W.Frag} {mg : MG} {G G1 : Hp} {x : Exn} {cls : Value} {d : Option Addr} (s : Same G G1) (r : RepX K mg G x cls d) : RepX K mg G1 x cls d := by
  obtain ⟨C, h1, h2, h3 | ⟨dd, fvs, h3, h4, h5⟩⟩ := r
  · exact ⟨C, h1, h2, .inl h3⟩
  · exact ⟨C, h1, h2, .inr ⟨dd, fvs, h3, s _ _ h4, RepF.mono s _ _ h5⟩⟩
section
variable {X : Cx} {nms : List Str} {i : Nat} {e a b c : Expr} {es : List Expr} {pos p p1 p2 : Pos} {n s : Str}
theorem dx_of {f : FE D} (h : ∀ (a : Addr) (oe : Obj) (pn : List (Addr × Obj)), De (X.suite a ((a, oe) :: pn)) W0 e f) : Dx X nms i e (fun _ => f) := by
  intro a oe cls d pn hz hf
  obtain ⟨t, q, k⟩ := h a oe pn
  exact ⟨fun pins s σ H Q I ⟨G, α, ρ, ω, x, hn, O, S, hi, r, P⟩ => q.run pins s σ H Q I (k G α ρ ω σ H Q O S P)⟩
/-- isinstance(e, S) -/
def eIsx (s : Str) (x : Exn) : FE D := fun _ ω => .ok (.bl (subX x.cls s)) ω
theorem dx_isi {C : Addr} (hi : X.mg "isinstance" = none) (hs : X.mg s = some (.ref C)) (T : Isx X.K X.mg nms s (.ref C)) (hN : X.N[i]? = some n := by rfl) (hv : Vis X.env.scope n := by first | exact Or.inl rfl | exact Or.inr (Or.inl rfl) | exact Or.inr (Or.inr rfl)) (hd : (n == ("__debug__" : Str)) = false := by decide) (hcd : (n == ("__classdict__" : Str)) = false := by decide)
    (hgs : Gl X s := by rfl) (hds : (s == ("__debug__" : Str)) = false := by decide) (hg : Gl X "isinstance" := by rfl) (he : starEach [.Name n p1, .Name s p2] X.env = (false, eval (.Name n p1) X.env) :: starEach [.Name s p2] X.env := by rfl) (he2 : starEach [.Name s p2] X.env = (false, eval (.Name s p2) X.env) :: starEach [] X.env := by rfl)
    (hpl : (backTo pos (starEach [.Name s p2] X.env)).any (·.1) = false := by rfl) (hvi : bootBuiltins "isinstance" = some (.builtin "isinstance") := by decide +kernel) : Dx X nms i (.Call (.Name "isinstance" p) [.Name n p1, .Name s p2] [] pos) (eIsx s) := by
  intro a oe cls d pn hz hf
  have q := pe_callB (X := X.suite a ((a, oe) :: pn)) (p := p) (pos := pos) (call_isX hz hf) hg hi hvi (pa_cons (pe_var (pos := p1) hN hv hd hcd) (pa_cons (pe_glob (v := .ref C) (pos := p2) hgs hs rfl hds) pa_nil he2) he) (by decide) (by decide) he hpl
  refine ⟨fun pins st σ H Q I ⟨G, α, ρ, ω, x, hn, O, S, hi, r, P⟩ => q.run pins st σ H Q I ?_⟩
  obtain ⟨D, hD, xc, kt⟩ := T x.cls (List.contains_iff_mem.mp hn)
  obtain ⟨D', hD', rfl, r'⟩ := id r
  rw [hD'] at hD; cases hD
  refine ⟨.ref a, hi, .ref C, .ref C, _, _, rfl, fun u hu => hu, rfl, xc, kt, ?_, Post.here O (show Rep X.K X.mg G _ _ from rep_bl.mpr rfl) P⟩
  rcases r' with ⟨_, h⟩ | ⟨dd, fvs, h, h2, _⟩
  · exact .inl h
  · exact .inr ⟨dd, fvs, h, O.sub _ _ h2⟩
theorem dx_isiV (hi : X.mg "isinstance" = none) (hs : X.mg "ValueError" = none) (T : Isx X.K X.mg nms "ValueError" (.type "ValueError")) (hN : X.N[i]? = some n := by rfl) (hv : Vis X.env.scope n := by first | exact Or.inl rfl | exact Or.inr (Or.inl rfl) | exact Or.inr (Or.inr rfl)) (hd : (n == ("__debug__" : Str)) = false := by decide) (hcd : (n == ("__classdict__" : Str)) = false := by decide)
    (hgs : Gl X "ValueError" := by rfl) (hg : Gl X "isinstance" := by rfl) (he : starEach [.Name n p1, .Name "ValueError" p2] X.env = (false, eval (.Name n p1) X.env) :: starEach [.Name "ValueError" p2] X.env := by rfl) (he2 : starEach [.Name "ValueError" p2] X.env = (false, eval (.Name "ValueError" p2) X.env) :: starEach [] X.env := by rfl)
    (hpl : (backTo pos (starEach [.Name "ValueError" p2] X.env)).any (·.1) = false := by rfl) (hvi : bootBuiltins "isinstance" = some (.builtin "isinstance") := by decide +kernel) (hve : bootBuiltins "ValueError" = some (.type "ValueError") := by decide +kernel) : Dx X nms i (.Call (.Name "isinstance" p) [.Name n p1, .Name "ValueError" p2] [] pos) (eIsx "ValueError") := by
  intro a oe cls d pn hz hf
  have q := pe_callB (X := X.suite a ((a, oe) :: pn)) (p := p) (pos := pos) (call_isX hz hf) hg hi hvi (pa_cons (pe_var (pos := p1) hN hv hd hcd) (pa_cons (pe_bltn (v := .ty "ValueError") (pos := p2) hgs hs hve rfl (by decide) (by decide)) pa_nil he2) he) (by decide) (by decide) he hpl
  refine ⟨fun pins st σ H Q I ⟨G, α, ρ, ω, x, hn, O, S, hi, r, P⟩ => q.run pins st σ H Q I ?_⟩
  obtain ⟨D, hD, xc, kt⟩ := T x.cls (List.contains_iff_mem.mp hn)
  obtain ⟨D', hD', rfl, r'⟩ := id r
  rw [hD'] at hD; cases hD
  refine ⟨.ref a, hi, .ty "ValueError", .type "ValueError", _, _, rfl, fun u hu => hu, rfl, xc, kt, ?_, Post.here O (show Rep X.K X.mg G _ _ from rep_bl.mpr rfl) P⟩
  rcases r' with ⟨_, h⟩ | ⟨dd, fvs, h, h2, _⟩
  · exact .inl h
  · exact .inr ⟨dd, fvs, h, O.sub _ _ h2⟩
/-- e.f -/
def eXf (c f : Str) (x : Exn) : FE D := fun _ ω => if x.cls = c then Res.lift (x.fs.lookup f) ω else .stuck
structure XfD (K : PySem.W.Frag) (mg : MG) (c f : Str) (C : Addr) : Prop where
  gl : mg c = some (.ref C)
  xf : XfC K C
  no : PySem.W.findIn K (.ref C) f = some none
theorem dx_fld {C : Addr} {c f : Str} (T : XfD X.K X.mg c f C) (hN : X.N[i]? = some n := by rfl) (hv : Vis X.env.scope n := by first | exact Or.inl rfl | exact Or.inr (Or.inl rfl) | exact Or.inr (Or.inr rfl)) (hd : (n == ("__debug__" : Str)) = false := by decide) (hcd : (n == ("__classdict__" : Str)) = false := by decide)
    (hb : attributeBase (.Name n p1) f X.env (eval (.Name n p1) X.env) = eval (.Name n p1) X.env := by rfl) : Dx X nms i (.Attribute (.Name n p1) f pos) (eXf c f) := by
  intro a oe cls d pn hz hf
  have q := pe_xf (X := X) (a := a) (pos := pos) (pn := pn) T.xf T.no hz hf (pe_var (X := X.suite a ((a, oe) :: pn)) (pos := p1) hN hv hd hcd) hb
  refine ⟨fun pins st σ H Q I ⟨G, α, ρ, ω, x, hn, O, S, hi, r, P⟩ => q.run pins st σ H Q I ?_⟩
  unfold eXf at P
  split at P
  · rename_i hc
    obtain ⟨D', hD', rfl, r'⟩ := id r
    rw [hc, T.gl] at hD'; cases hD'
    obtain ⟨v, e1, P⟩ := P.lift
    rcases r' with ⟨h, _⟩ | ⟨dd, fvs, h, h2, h3⟩
    · rw [h] at e1; cases e1
    · obtain ⟨u, h4, h5⟩ := h3.look e1
      exact ⟨.ref a, hi, rfl, rfl, dd, fvs, u, h, O.sub _ _ h2, h4, Post.here O (show Rep X.K X.mg G _ _ from h5) P⟩
  · exact P.elim
theorem dx_if {fc fa fb : Exn → FE D} (hc : Dx X nms i c fc) (ha : Dx X nms i a fa) (hb : Dx X nms i b fb) (hcv : ∀ whole, isTrue c X.env whole = (do let v ← whole; standAt c.pos; holding [v] (truthy v)) := by intro _; rfl) : Dx X nms i (.IfExp c a b pos) (fun x => eIf (eTest (fc x)) (fa x) (fb x)) := by
  intro ad oe cls d pn hz hf
  have q := pe_ifExp (pos := pos) (pt_val (hc ad oe cls d pn hz hf) hcv) (ha ad oe cls d pn hz hf) (hb ad oe cls d pn hz hf)
  refine ⟨fun pins st σ H Q I ⟨G, α, ρ, ω, x, hn, O, S, hi, r, P⟩ => q.run pins st σ H Q I ?_⟩
  unfold eIf eTest at P
  dsimp only at P
  rw [Res.bind_assoc] at P
  refine Post.step (t := tDx X.K X.mg nms i fc ad cls d σ H) (R := RD X.K X.mg) (fun Q P => ⟨G, α, ρ, ω, x, hn, O, S, hi, r, P⟩) P fun y ω1 v1 G1 α1 H1 e1 O1 r1 P1 => ?_
  cases y with
  | bl k =>
    have r2 : Rep X.K X.mg G1 (.bl k) v1 := r1
    rw [rep_bl] at r2
    refine ⟨k, r2, ?_⟩
    cases k with
    | true => exact iteT ⟨G1, α1, ρ, ω1, x, hn, O1, S.mono e1, hi, r.mono e1.g, P1⟩
    | false => exact iteF ⟨G1, α1, ρ, ω1, x, hn, O1, S.mono e1, hi, r.mono e1.g, P1⟩
  | _ => exact P1.elim
theorem dxa_nil : DxA X nms i [] (fun _ => aNil) := by
  intro ad oe cls d pn hz hf
  exact ⟨fun pos pins st σ H Q I ⟨G, α, ρ, ω, x, hn, O, S, hi, r, P⟩ => (pa_nil (X := X.suite ad ((ad, oe) :: pn))).run pos pins st σ H Q I (Post.here O .nil P)⟩
theorem dxa_cons {f : Exn → FE D} {g : Exn → FE (List SV)} (h : Dx X nms i e f) (h2 : DxA X nms i es g) (hs : starEach (e :: es) X.env = (false, eval e X.env) :: starEach es X.env := by rfl) : DxA X nms i (e :: es) (fun x => aCons (aVal (f x)) (g x)) := by
  intro ad oe cls d pn hz hf
  have q := pa_cons (X := X.suite ad ((ad, oe) :: pn)) (h ad oe cls d pn hz hf) (h2 ad oe cls d pn hz hf) hs
  refine ⟨fun pos pins st σ H Q I ⟨G, α, ρ, ω, x, hn, O, S, hi, r, P⟩ => q.run pos pins st σ H Q I ?_⟩
  unfold aCons aVal at P
  dsimp only at P
  rw [Res.bind_assoc] at P
  refine Post.step (t := tDx X.K X.mg nms i f ad cls d σ H) (R := RD X.K X.mg) (fun Q P => ⟨G, α, ρ, ω, x, hn, O, S, hi, r, P⟩) P fun y ω1 v1 G1 α1 H1 e1 O1 r1 P1 => ?_
  refine Post.step (t := tDxA X.K X.mg nms i g ad cls d σ H1) (fun Q P => ⟨G1, α1, ρ, ω1, x, hn, O1, S.mono e1, hi, r.mono e1.g, P⟩) P1 fun ys ω2 v2 G2 α2 H2 e2 O2 r2 P2 => ?_
  exact Post.here O2 (.cons (show RepV X.K X.mg G2 α2 (.val y) v1 from Rep.mono e2.g _ _ r1) r2) P2
theorem dx_lst {g : Exn → FE (List SV)} (h : DxA X nms i es g) : Dx X nms i (.List es pos) (fun x => eList (g x)) := by
  intro ad oe cls d pn hz hf
  have q := pe_lst (pos := pos) (h ad oe cls d pn hz hf)
  refine ⟨fun pins st σ H Q I ⟨G, α, ρ, ω, x, hn, O, S, hi, r, P⟩ => q.run pins st σ H Q I ?_⟩
  unfold eList at P
  refine Post.step (t := tDxA X.K X.mg nms i g ad cls d σ H) (fun Q P => ⟨G, α, ρ, ω, x, hn, O, S, hi, r, P⟩) P fun xs ω1 vs G1 α1 H1 e1 O1 r1 P1 => ?_
  obtain ⟨d, e2, P2⟩ := P1.lift
  split at e2
  · rename_i hl
    cases q : allD xs with
    | none => rw [q] at e2; cases e2
    | some ds =>
      rw [q] at e2; cases e2
      have hr := allD_reps q r1
      refine ⟨by rw [lim_eq, ← RepVs.length r1]; exact hl, fun p hp => ?_⟩
      exact Post.grow O1 (Grow.put O1.sub hp) (rep_newL (H := H1) (O1.sub.free hp) hr) P2
  · cases e2
theorem dx_not {f : Exn → FE D} (h : Dx X nms i a f) : Dx X nms i (.UnaryOp .Not a pos) (fun x => eNot (f x)) := by
  intro ad oe cls d pn hz hf
  have q := pe_not (pos := pos) (h ad oe cls d pn hz hf)
  refine ⟨fun pins st σ H Q I ⟨G, α, ρ, ω, x, hn, O, S, hi, r, P⟩ => q.run pins st σ H Q I ?_⟩
  unfold eNot eTest at P
  dsimp only at P
  rw [Res.bind_assoc] at P
  refine Post.step (t := tDx X.K X.mg nms i f ad cls d σ H) (R := RD X.K X.mg) (fun Q P => ⟨G, α, ρ, ω, x, hn, O, S, hi, r, P⟩) P fun y ω1 v1 G1 α1 H1 e1 O1 r1 P1 => ?_
  cases y with
  | bl k =>
    have r2 : Rep X.K X.mg G1 (.bl k) v1 := r1
    rw [rep_bl] at r2
    exact ⟨k, r2, Post.here O1 (show Rep X.K X.mg G1 _ _ from rep_bl.mpr rfl) P1⟩
  | _ => exact P1.elim
/-- the suite: one name is set -/
theorem su_set {j : Nat} {y : Str} {f : Exn → FE D} {p' : Pos} (h : Dx X nms i e f) (hN : X.N.Nodup) (hj : X.N[j]? = some y := by rfl) (hx : Loc X.env.scope y := by first | exact Or.inl rfl | exact Or.inr rfl) (hs : swapsWith e (some (.Name y p')) pos.line X.env = pure false := by rfl)
    (hw : X.fn y = true ∨ X.env.scope.names.lookup y = some .local := by first | exact .inl rfl | exact .inr rfl) : SuOk X nms i [.Assign [.Name y p'] e pos] (fun x => sSet j (f x)) := by
  intro ad oe cls d pn hz hf
  have q := pss_one (ps_set (X := X.suite ad ((ad, oe) :: pn)) (pos := pos) (pos' := p') hN hj hx (h ad oe cls d pn hz hf) hs hw)
  refine ⟨fun pins st σ H E I ⟨G, α, ρ, ω, x, hn, O, S, hi, r, P⟩ => q.run pins st σ H E I ?_⟩
  refine PostS.step S (t := tDx X.K X.mg nms i f ad cls d σ H) (fun Q P => ⟨G, α, ρ, ω, x, hn, O, S, hi, r, P⟩) P fun y ω1 v1 G1 α1 H1 e1 O1 r1 P1 => ?_
  exact P1.here_nx O1 ((S.mono e1).set j (x := .val y) r1)
end
end Dl
namespace Dl
open PySem L2
theorem pss_never {X : Cx} {b : List Stmt} : PSs X b (fun _ _ _ => False) := ⟨fun _ _ _ _ _ _ h => h.elim⟩
theorem dss_never {X : Cx} {W : WX} {b : List Stmt} : Dss X W b sNever := ⟨_, pss_never, fun G α ρ ω σ H D O S P => P.elim⟩
end Dl
namespace Dl
open PySem L2
section
variable {X : Cx} {W : WX} {pos : Pos}
def sPar3 (i j l : Nat) (f : FE (List SV)) : FS := fun ρ ω => (f ρ ω).out ρ fun xs ω1 => match xs with
  | [x, y, z] => .next (((ρ.set i (some x)).set j (some y)).set l (some z)) ω1
  | _ => .stuck
theorem ds_par3 {i j l : Nat} {x y z : Str} {a b c : Expr} {fa : FE (List SV)} {px py pz pt : Pos} {kt k2 pt2} (hc : X.calm = true) (hN : X.N.Nodup) (hd : i ≠ j ∧ i ≠ l ∧ j ≠ l) (ha : Da X W [a, b, c] fa)
    (hw : swappedStores [.Tuple [.Name x px, .Name y py, .Name z pz] kt pt] (.Tuple [a, b, c] k2 pt2) X.env = pure (some [x, y, z]))
    (hi : X.N[i]? = some x := by rfl) (hj : X.N[j]? = some y := by rfl) (hl : X.N[l]? = some z := by rfl)
    (hx : X.env.scope.names.lookup x = some .local := by rfl) (hy : X.env.scope.names.lookup y = some .local := by rfl) (hz : X.env.scope.names.lookup z = some .local := by rfl)
    (hs : swapsWithSole [.Tuple [.Name x px, .Name y py, .Name z pz] kt pt] (.Tuple [a, b, c] k2 pt2) pos.line X.env = pure false := by rfl) :
    Ds X W (.Assign [.Tuple [.Name x px, .Name y py, .Name z pz] kt pt] (.Tuple [a, b, c] k2 pt2) pos) (sPar3 i j l fa) := by
  obtain ⟨t, p, k⟩ := ha
  refine ⟨_, ps_par3 hc hN hi hj hl hd.1 hd.2.1 hd.2.2 hx hy hz p hw hs, fun G α ρ ω σ H D O S P => ?_⟩
  refine PostS.step S (t := t σ H) (k G α ρ ω σ H · O S) P fun xs ω1 vs G1 α1 H1 e1 O1 r1 P1 => ?_
  match xs, vs, r1, P1 with
  | [x, y, z], _, .cons q1 (.cons q2 (.cons q3 .nil)), P1 => exact ⟨_, _, _, rfl, P1.here_nx O1 ((((S.mono e1).set i q1).set j q2).set l q3)⟩
  | [], _, _, P1 => exact P1.elim
  | [_], _, _, P1 => exact P1.elim
  | [_, _], _, _, P1 => exact P1.elim
  | _ :: _ :: _ :: _ :: _, _, _, P1 => exact P1.elim
/-- a list display that the def keeps as its own -/
def eNewL (g : FE (List SV)) : FE SV := fun ρ ω => (g ρ ω).bind fun xs ω1 => match allD xs with
  | some ds => if xs.length ≤ lim then .ok (.own ω1.length) (ω1 ++ [some (.lst ds)]) else .stuck
  | none => .stuck
theorem dv_newL {es : List Expr} {g : FE (List SV)} (h : Da X W es g) : Dv X W (.List es pos) (eNewL g) := by
  obtain ⟨t, p, k⟩ := h
  refine ⟨_, pe_lst p, fun G α ρ ω σ H Q O S P => ?_⟩
  refine Post.step (t := t σ H) (k G α ρ ω σ H · O S) P fun xs ω1 vs G1 α1 H1 e1 O1 r1 P1 => ?_
  cases q : allD xs with
  | none => rw [q] at P1; exact P1.elim
  | some ds =>
    rw [q] at P1
    dsimp only at P1
    split at P1
    · rename_i hl
      have hr := allD_reps q r1
      refine ⟨by rw [lim_eq, ← RepVs.length r1]; exact hl, fun a ha => ?_⟩
      obtain ⟨O2, e2⟩ := O1.new (u := .lst vs) (o := .lst ds) ha ⟨vs, upd_same, hr⟩
      refine P1 _ G1 _ _ e2 O2 ⟨a, ?_, rfl⟩
      rw [← O1.len, List.getElem?_append_right (Nat.le_refl _)]
      simp
    · exact P1.elim
end
end Dl
namespace Dl
open PySem L2
/-- the class's object as the rule for own __init__ wants it -/
def oexB (K : PySem.W.Frag) (C : Addr) : Bool := match K.lookup C with
  | some ⟨.type "type", _, .cls cd, sl⟩ => (match cd.mro, sl.toList with
    | .ref C' :: bm, [_, _, _, _, some (.builtin n), _] => C' == C && (n == "ValueError.__new__" && (!cd.hasDel && (cd.hasDict && PySem.HandSPX.refsVE bm)))
    | _, _ => false)
  | _ => false
theorem oexB_ok {K : PySem.W.Frag} {C : Addr} (h : oexB K C = true) : ∃ nm q N bs bm sn sub ab col dd k0 k1 k2 k3 k5, K.lookup C = some (excClassObj nm q C N bs bm true sn sub ab col dd k0 k1 k2 k3 k5 "ValueError.__new__") ∧ PySem.HandSPX.refsVE bm = true := by
  unfold oexB at h
  split at h
  · rename_i dd cd sl ho
    split at h
    · rename_i C' bm k0 k1 k2 k3 n k5 hm hs
      simp only [Bool.and_eq_true, beq_iff_eq, Bool.not_eq_true'] at h
      obtain ⟨rfl, rfl, hdel, hdct, hr⟩ := h
      obtain ⟨nm, bs, mro, ns, qn, hd, sn, sub, ab, col, del⟩ := cd
      dsimp only at hm hdel hdct
      subst hm hdel hdct
      have hsl : sl = #[k0, k1, k2, k3, some (.builtin "ValueError.__new__"), k5] := by
        obtain ⟨l⟩ := sl
        simp only at hs
        rw [hs]
      subst hsl
      exact ⟨nm, qn, ns, bs, bm, sn, sub, ab, col, dd, k0, k1, k2, k3, k5, ho, hr⟩
    · cases h
  · cases h
theorem isFn_ty {K : PySem.W.Frag} {v : Value} (h : PySem.W.isFn K v = true) : PySem.W.typeIn K v = some (.type "function") := beq_iff_eq.mp h
end Dl
namespace Dl
open PySem L2
section
variable {d x y : D} {ds es : List D} {ρ : Rho} {ω : Om} {i j k : Nat}
theorem tup_0 : tupR (some ds) 0 = some (.tup ds) := tupR_run (by decide)
theorem lst_0 : lstR (some ds) 0 = some (.lst ds) := lstR_run (by decide)
theorem tup_1 : tupR (some ds) 1 = some (.tup ds) := tupR_run (by decide)
theorem lst_1 : lstR (some ds) 1 = some (.lst ds) := lstR_run (by decide)
theorem tup_2 : tupR (some ds) 2 = some (.tup ds) := tupR_run (by decide)
theorem lst_2 : lstR (some ds) 2 = some (.lst ds) := lstR_run (by decide)
theorem tup_3 : tupR (some ds) 3 = some (.tup ds) := tupR_run (by decide)
theorem lst_3 : lstR (some ds) 3 = some (.lst ds) := lstR_run (by decide)
theorem tup_4 : tupR (some ds) 4 = some (.tup ds) := tupR_run (by decide)
theorem lst_4 : lstR (some ds) 4 = some (.lst ds) := lstR_run (by decide)
theorem tup_5 : tupR (some ds) 5 = some (.tup ds) := tupR_run (by decide)
theorem lst_5 : lstR (some ds) 5 = some (.lst ds) := lstR_run (by decide)
theorem tup_6 : tupR (some ds) 6 = some (.tup ds) := tupR_run (by decide)
theorem lst_6 : lstR (some ds) 6 = some (.lst ds) := lstR_run (by decide)
theorem tup_7 : tupR (some ds) 7 = some (.tup ds) := tupR_run (by decide)
theorem lst_7 : lstR (some ds) 7 = some (.lst ds) := lstR_run (by decide)
theorem tup_8 : tupR (some ds) 8 = some (.tup ds) := tupR_run (by decide)
theorem lst_8 : lstR (some ds) 8 = some (.lst ds) := lstR_run (by decide)
theorem tup_9 : tupR (some ds) 9 = some (.tup ds) := tupR_run (by decide)
theorem lst_9 : lstR (some ds) 9 = some (.lst ds) := lstR_run (by decide)
theorem tup_10 : tupR (some ds) 10 = some (.tup ds) := tupR_run (by decide)
theorem lst_10 : lstR (some ds) 10 = some (.lst ds) := lstR_run (by decide)
theorem tup_11 : tupR (some ds) 11 = some (.tup ds) := tupR_run (by decide)
theorem lst_11 : lstR (some ds) 11 = some (.lst ds) := lstR_run (by decide)
theorem tup_12 : tupR (some ds) 12 = some (.tup ds) := tupR_run (by decide)
theorem lst_12 : lstR (some ds) 12 = some (.lst ds) := lstR_run (by decide)
theorem new_0 : newR (some ds) 0 i ρ ω = .next (ρ.set i (some (.own ω.length))) (ω ++ [some (.lst ds)]) := newR_run (by decide)
theorem new_1 : newR (some ds) 1 i ρ ω = .next (ρ.set i (some (.own ω.length))) (ω ++ [some (.lst ds)]) := newR_run (by decide)
theorem new_2 : newR (some ds) 2 i ρ ω = .next (ρ.set i (some (.own ω.length))) (ω ++ [some (.lst ds)]) := newR_run (by decide)
theorem new_3 : newR (some ds) 3 i ρ ω = .next (ρ.set i (some (.own ω.length))) (ω ++ [some (.lst ds)]) := newR_run (by decide)
theorem new_4 : newR (some ds) 4 i ρ ω = .next (ρ.set i (some (.own ω.length))) (ω ++ [some (.lst ds)]) := newR_run (by decide)
theorem new_5 : newR (some ds) 5 i ρ ω = .next (ρ.set i (some (.own ω.length))) (ω ++ [some (.lst ds)]) := newR_run (by decide)
theorem sRaise_run (c : Str) : sRaise c ρ ω = .exc ⟨c, []⟩ ρ ω := rfl
def raiseIR (c : Str) (fls : List Str) (ρ : Rho) (ω : Om) : Option (List D) → Out
  | some ds => if ds.length = fls.length then .exc ⟨c, (fls.zip ds).reverse⟩ ρ ω else .stuck
  | none => .stuck
theorem sRaiseI_run (c : Str) (fls : List Str) (g : FE (List SV)) : sRaiseI c fls g ρ ω = outL (g ρ ω) ρ (k := ⟨fun xs ω1 => raiseIR c fls ρ ω1 (allD xs)⟩) := by
  unfold sRaiseI outL raiseIR
  cases g ρ ω <;> rfl
theorem raiseI_run1 (c f : Str) : raiseIR c [f] ρ ω (some [d]) = .exc ⟨c, [(f, d)]⟩ ρ ω := rfl
theorem raiseI_run2 (c f g : Str) : raiseIR c [f, g] ρ ω (some [d, x]) = .exc ⟨c, [(g, x), (f, d)]⟩ ρ ω := rfl
theorem sTry_run (nms : List Str) (b : FS) (hs : List (Str × (Exn → FS))) : sTry nms i b hs ρ ω = tryO nms i hs (b ρ ω) := rfl
section
variable {nms : List Str} {hs : List (Str × (Exn → FS))}
theorem tryO_next : tryO nms i hs (.next ρ ω) = .next ρ ω := rfl
theorem tryO_ret {v : SV} : tryO nms i hs (.ret v ω) = .ret v ω := rfl
theorem tryO_exc {c : Str} {fs : List (Str × D)} (h : nms.contains c = true) (hi : i < ρ.length) : tryO nms i hs (.exc ⟨c, fs⟩ ρ ω) = tryH i ⟨c, fs⟩ ρ ω hs := by
  unfold tryO; dsimp only; rw [if_pos ⟨h, hi⟩]
theorem tryH_yes {c e : Str} {fs : List (Str × D)} {f : Exn → FS} (h : subX c e = true) : tryH i ⟨c, fs⟩ ρ ω ((e, f) :: hs) = unbind i (f ⟨c, fs⟩ (ρ.set i none) ω) := by
  unfold tryH; rw [if_pos h]
theorem tryH_no {c e : Str} {fs : List (Str × D)} {f : Exn → FS} (h : subX c e = false) : tryH i ⟨c, fs⟩ ρ ω ((e, f) :: hs) = tryH i ⟨c, fs⟩ ρ ω hs := by
  conv => lhs; unfold tryH
  rw [if_neg (by rw [h]; decide)]
theorem tryH_nil {e : Exn} : tryH i e ρ ω [] = .exc e ρ ω := rfl
theorem unbind_next : unbind i (.next ρ ω) = .next (ρ.set i none) ω := rfl
theorem unbind_ret {v : SV} : unbind i (.ret v ω) = .ret v ω := rfl
end
theorem eIsx_run (s : Str) (e : Exn) : eIsx s e ρ ω = .ok (.bl (subX e.cls s)) ω := rfl
theorem eXf_run {c f : Str} {fs : List (Str × D)} : eXf c f ⟨c, fs⟩ ρ ω = Res.lift (fs.lookup f) ω := by unfold eXf; rw [if_pos rfl]
def par3R (i j l : Nat) (ρ : Rho) (ω : Om) : List SV → Out
  | [x, y, z] => .next (((ρ.set i (some x)).set j (some y)).set l (some z)) ω
  | _ => .stuck
theorem sPar3_run {l : Nat} (f : FE (List SV)) : sPar3 i j l f ρ ω = outL (f ρ ω) ρ (k := ⟨fun xs ω1 => par3R i j l ρ ω1 xs⟩) := by
  unfold sPar3 outL
  cases f ρ ω with
  | stuck => rfl
  | exc _ _ => rfl
  | ok xs ω1 =>
    show (match xs with | [x, y, z] => _ | _ => _) = par3R i j l ρ ω1 xs
    unfold par3R
    rfl
theorem par3R_run {l : Nat} (x y z : SV) : par3R i j l ρ ω [x, y, z] = .next (((ρ.set i (some x)).set j (some y)).set l (some z)) ω := rfl
def newLR (n : Nat) (ω : Om) : Option (List D) → Res SV
  | some ds => if n ≤ lim then .ok (.own ω.length) (ω ++ [some (.lst ds)]) else .stuck
  | none => .stuck
theorem eNewL_run (g : FE (List SV)) : eNewL g ρ ω = bindL (g ρ ω) (k := ⟨fun xs ω1 => newLR xs.length ω1 (allD xs)⟩) := by
  unfold eNewL bindL newLR
  cases g ρ ω <;> rfl
theorem newLR_run {n : Nat} (h : n ≤ lim) : newLR n ω (some ds) = .ok (.own ω.length) (ω ++ [some (.lst ds)]) := by unfold newLR; dsimp only; rw [if_pos h]
theorem newLR_0 : newLR 0 ω (some ds) = .ok (.own ω.length) (ω ++ [some (.lst ds)]) := newLR_run (by decide)
theorem newLR_1 : newLR 1 ω (some ds) = .ok (.own ω.length) (ω ++ [some (.lst ds)]) := newLR_run (by decide)
theorem outL_exc_raise : True := trivial
end
section
variable {tg : FG} {b : FS} {d : D} {ds : List D} {ρ ρ1 ρ2 : Rho} {ω ω2 : Om}
theorem forL_nil : forL tg b [] ρ ω = .next ρ ω := rfl
theorem forL_next (h : tg d ρ = some ρ1) (h2 : b ρ1 ω = .next ρ2 ω2) : forL tg b (d :: ds) ρ ω = forL tg b ds ρ2 ω2 := by
  conv => lhs; unfold forL
  rw [h]; dsimp only; rw [h2]
theorem forL_exc {x : Exn} (h : tg d ρ = some ρ1) (h2 : b ρ1 ω = .exc x ρ2 ω2) : forL tg b (d :: ds) ρ ω = .exc x ρ2 ω2 := by
  conv => lhs; unfold forL
  rw [h]; dsimp only; rw [h2]
theorem forL_ret {x : SV} (h : tg d ρ = some ρ1) (h2 : b ρ1 ω = .ret x ω2) : forL tg b (d :: ds) ρ ω = .ret x ω2 := by
  conv => lhs; unfold forL
  rw [h]; dsimp only; rw [h2]
end
end Dl
namespace Pk
open PySem Dl
def f__law_draws : FS :=
  (sRetNew (aCons (aVal (eCallB oList (aCons (aVal (eVar 0)) aNil))) (aCons (aVal (eC (.int 0))) (aCons (aVal (eC (.int 0))) (aCons (aVal (eC (.int 7))) aNil)))))
def F__law_draws : Fn := fnE 1 1 f__law_draws
def f__law_can : FS :=
  (sRet (eAnd (eIx (eVar 0) (eC (.int 2))) (eBin opNe (eIx (eVar 0) (eC (.int 0))) (eIx (eVar 0) (eC (.int 1))))))
def F__law_can : FnP := fnP 1 1 f__law_can
def f__law_places : FS :=
  (sSeq (sNewL 2 aNil)
    (sSeq (sFor (eIt1 itR1 (eCallB oLen (aCons (aVal (eVar 0)) aNil))) (gN 3)
    (sSeq (sApp 2 (eTup (aCons (aVal (eVar 3)) (aCons (aVal (eC (.bl false))) aNil))))
    (sIf (eTest (eCallP F__law_can (aCons (aVal (eVar 1)) aNil))) (sApp 2 (eTup (aCons (aVal (eVar 3)) (aCons (aVal (eC (.bl true))) aNil)))) sNext)))
    (sRetL 2)))
def F__law_places : FnP := fnP 2 4 f__law_places
def f__law_pick : FS :=
  (sSeq (sIf (eTest (eBin opEq (eIxO 0 (eC (.int 2))) (eC (.int 0)))) (sIf (eTest (eBin opLt (eIxO 0 (eC (.int 1))) (eCallB oLen (aCons (aVal (eIxO 0 (eC (.int 0)))) aNil)))) (sSeq (sSet 3 (eIx (eIxO 0 (eC (.int 0))) (eIxO 0 (eC (.int 1)))))
    (sSeq (sSetIx 0 (eC (.int 1)) (eBin opAdd (eIxO 0 (eC (.int 1))) (eC (.int 1))))
    (sIf (eTest (eBin opGe (eVar 3) (eBin opPow (eC (.int 10)) (eC (.int 18))))) (sSetIx 0 (eC (.int 2)) (eVar 3)) (sSetIx 0 (eC (.int 3)) (eBin opMod (eCallB oInt (aCons (aVal (eBin opAdd (eBin opAdd (eBin opMulA (eIxO 0 (eC (.int 3))) (eC (.int 48271))) (eBin opMulA (eVar 3) (eC (.int 69621)))) (eC (.int 11)))) aNil)) (eC (.int 2147483647))))))) (sSetIx 0 (eC (.int 3)) (eBin opMod (eCallB oInt (aCons (aVal (eBin opAdd (eBin opMulA (eIxO 0 (eC (.int 3))) (eC (.int 48271))) (eC (.int 7)))) aNil)) (eC (.int 2147483647))))) sNext)
    (sSeq (sIf (eTest (eBin opGt (eIxO 0 (eC (.int 2))) (eC (.int 0)))) (sSeq (sSet 2 (eBin opMod (eCallB oInt (aCons (aVal (eIxO 0 (eC (.int 2)))) aNil)) (eVar 1)))
    (sSeq (sSetIx 0 (eC (.int 2)) (eBin opDiv (eIxO 0 (eC (.int 2))) (eVar 1)))
    (sRet (eVar 2)))) sNext)
    (sRet (eBin opMod (eBin opMod (eCallB oInt (aCons (aVal (eBin opMulA (eIxO 0 (eC (.int 3))) (eC (.int 16807)))) aNil)) (eC (.int 2147483629))) (eVar 1)))))
def F__law_pick : Fn := fnE 2 4 f__law_pick
def f__law_body : FS :=
  (sSeq (sPar 3 4 (aCons (aVal (eIx (eVar 1) (eC (.int 0)))) (aCons (aVal (eIx (eVar 1) (eC (.int 1)))) aNil)))
    (sSeq (sIf (eTest (eIx (eVar 2) (eC (.int 1)))) (sPar 3 4 (aCons (aVal (eVar 4)) (aCons (aVal (eVar 3)) aNil))) sNext)
    (sRet (eList (aCons (aVal (eBin opSub (eIx (eVar 0) (eIx (eVar 2) (eC (.int 0)))) (eVar 3))) (aCons (aVal (eBin opAdd (eIx (eVar 0) (eIx (eVar 2) (eC (.int 0)))) (eVar 4))) aNil))))))
def F__law_body : FnP := fnP 3 5 f__law_body
def f__law_meet : FS :=
  (sSeq (sIf (eTest (eBin opGt (eIx (eIx (eVar 2) (eVar 3)) (eC (.int 0))) (eIx (eIx (eVar 2) (eVar 4)) (eC (.int 0))))) (sPar 3 4 (aCons (aVal (eVar 4)) (aCons (aVal (eVar 3)) aNil))) sNext)
    (sSeq (sSet 5 (eCallP F__law_body (aCons (aVal (eVar 0)) (aCons (aVal (eIx (eVar 1) (eVar 3))) (aCons (aVal (eIx (eVar 2) (eVar 3))) aNil)))))
    (sRet (eBin opGt (eIx (eVar 5) (eC (.int 1))) (eIx (eCallP F__law_body (aCons (aVal (eVar 0)) (aCons (aVal (eIx (eVar 1) (eVar 4))) (aCons (aVal (eIx (eVar 2) (eVar 4))) aNil)))) (eC (.int 0)))))))
def F__law_meet : FnP := fnP 5 6 f__law_meet
def f__law_fault : FS :=
  (sSeq (sSet 3 (eLc [4] (eIt1 itR1 (eCallB oLen (aCons (aVal (eVar 2)) aNil))) (gN 4) (eTest (eBin opNotN (eIx (eVar 2) (eVar 4)) (eC .non))) (eVar 4)))
    (sSeq (sFor (eIt1 itSeq (eVar 3)) (gN 4)
    (sIf (eAndT (eTest (eIx (eIx (eVar 2) (eVar 4)) (eC (.int 1)))) (eNotT (eTest (eCallP F__law_can (aCons (aVal (eIx (eVar 1) (eVar 4))) aNil))))) (sRet (eTup (aCons (aVal (eC (.str "turn"))) (aCons (aVal (eVar 4)) aNil)))) sNext))
    (sSeq (sFor (eIt1 itSeq (eVar 3)) (gN 5)
    (sFor (eIt1 itSeq (eVar 3)) (gN 6)
    (sIf (eAndT (eTest (eBin opLt (eVar 5) (eVar 6))) (eTest (eBin opEq (eIx (eIx (eVar 2) (eVar 5)) (eC (.int 0))) (eIx (eIx (eVar 2) (eVar 6)) (eC (.int 0)))))) (sRet (eTup (aCons (aVal (eC (.str "socket"))) (aCons (aVal (eVar 5)) (aCons (aVal (eVar 6)) aNil))))) sNext)))
    (sSeq (sFor (eIt1 itSeq (eVar 3)) (gN 5)
    (sFor (eIt1 itSeq (eVar 3)) (gN 6)
    (sIf (eAndT (eTest (eBin opLt (eVar 5) (eVar 6))) (eTest (eCallP F__law_meet (aCons (aVal (eVar 0)) (aCons (aVal (eVar 1)) (aCons (aVal (eVar 2)) (aCons (aVal (eVar 5)) (aCons (aVal (eVar 6)) aNil)))))))) (sRet (eTup (aCons (aVal (eC (.str "overlap"))) (aCons (aVal (eVar 5)) (aCons (aVal (eVar 6)) aNil))))) sNext)))
    (sRet (eC .non))))))
def F__law_fault : FnP := fnP 3 7 f__law_fault
def f__law_part : FS :=
  (sSeq (sSet 3 (eBin opMulA (eTup (aCons (aVal (eC .non)) aNil)) (eCallB oLen (aCons (aVal (eVar 2)) aNil))))
    (sSeq (sFor (eIt1 itR1 (eCallB oLen (aCons (aVal (eVar 2)) aNil))) (gN 4)
    (sSeq (sSet 5 (eCallP F__law_places (aCons (aVal (eVar 1)) (aCons (aVal (eIx (eVar 2) (eVar 4))) aNil))))
    (sSeq (sSet 6 (eIx (eVar 5) (eVal (eCallE F__law_pick (aCons (eSlot 0) (aCons (aVal (eCallB oLen (aCons (aVal (eVar 5)) aNil))) aNil))))))
    (sSeq (sSet 7 (eBin opAdd (eBin opAdd (eSl (eVar 3) eNoPart (ePart (eVar 4))) (eTup (aCons (aVal (eVar 6)) aNil))) (eSl (eVar 3) (ePart (eBin opAdd (eVar 4) (eC (.int 1)))) eNoPart)))
    (sIf (eAndT (eTest (eBin opGt (eVal (eCallE F__law_pick (aCons (eSlot 0) (aCons (aVal (eC (.int 4))) aNil)))) (eC (.int 0)))) (eTest (eBin opIsN (eCallP F__law_fault (aCons (aVal (eVar 1)) (aCons (aVal (eVar 2)) (aCons (aVal (eVar 7)) aNil)))) (eC .non)))) (sSet 3 (eVar 7)) sNext)))))
    (sRet (eVar 3))))
def F__law_part : Fn := fnE 3 8 f__law_part
def f__law_sockets : FS :=
  (sSeq (sPar 3 4 (aCons (aVal (eTup aNil)) (aCons (aVal (eVal (eCallE F__law_pick (aCons (eSlot 0) (aCons (aVal (eC (.int 20))) aNil))))) aNil)))
    (sSeq (sFor (eIt1 itR1 (eBin opAdd (eC (.int 1)) (eVal (eCallE F__law_pick (aCons (eSlot 0) (aCons (aVal (eVar 1)) aNil)))))) (gN 2)
    (sSeq (sIf (eTest (eBin opLe (eVar 4) (eC (.int 300)))) (sSet 3 (eBin opAdd (eVar 3) (eTup (aCons (aVal (eVar 4)) aNil)))) sNext)
    (sSet 4 (eBin opAdd (eVar 4) (eIx (eList (aCons (aVal (eC (.int 30))) (aCons (aVal (eBin opAdd (eC (.int 1)) (eVal (eCallE F__law_pick (aCons (eSlot 0) (aCons (aVal (eC (.int 40))) aNil)))))) (aCons (aVal (eC (.int 20))) aNil)))) (eVal (eCallE F__law_pick (aCons (eSlot 0) (aCons (aVal (eC (.int 3))) aNil)))))))))
    (sRet (eVar 3))))
def F__law_sockets : Fn := fnE 2 5 f__law_sockets
def f__law_plug : FS :=
  (sSeq (sPar 1 2 (aCons (aVal (eIx (eList (aCons (aVal (eC (.int 0))) (aCons (aVal (eC (.int 5))) (aCons (aVal (eC (.int 10))) (aCons (aVal (eC (.int 15))) (aCons (aVal (eC (.int 20))) (aCons (aVal (eC (.int 30))) (aCons (aVal (eC (.int 40))) (aCons (aVal (eC (.int 60))) aNil))))))))) (eVal (eCallE F__law_pick (aCons (eSlot 0) (aCons (aVal (eC (.int 8))) aNil)))))) (aCons (aVal (eVal (eCallE F__law_pick (aCons (eSlot 0) (aCons (aVal (eC (.int 41))) aNil))))) aNil)))
    (sRet (eTup (aCons (aVal (eVar 1)) (aCons (aVal (eIx (eList (aCons (aVal (eVar 2)) (aCons (aVal (eC (.int 15))) (aCons (aVal (eVar 1)) aNil)))) (eVal (eCallE F__law_pick (aCons (eSlot 0) (aCons (aVal (eC (.int 3))) aNil)))))) (aCons (aVal (eBin opEq (eVal (eCallE F__law_pick (aCons (eSlot 0) (aCons (aVal (eC (.int 2))) aNil)))) (eC (.int 0)))) aNil))))))
def F__law_plug : Fn := fnE 1 3 f__law_plug
def f__law_plugs : FS :=
  (sRet (eCallB oTuple (aCons (aVal (eLc [2] (eIt1 itR1 (eBin opAdd (eC (.int 1)) (eVal (eCallE F__law_pick (aCons (eSlot 0) (aCons (aVal (eVar 1)) aNil)))))) (gN 2) eTrue (eVal (eCallE F__law_plug (aCons (eSlot 0) aNil))))) aNil)))
def F__law_plugs : Fn := fnE 2 3 f__law_plugs
def f_is_from : FS :=
  (sRet (eAnd (eIsi "int" (eVar 0)) (eAnd (eNot (eIsi "bool" (eVar 0))) (eChain opLe opLe (eVar 1) (eVar 0) (eVar 2)))))
def F_is_from : FnP := fnP 3 3 f_is_from
def f_is_plug : FS :=
  (sSeq (sIf (eOrT (eNotT (eTest (eIsi "tuple" (eVar 0)))) (eOrT (eTest (eBin opNe (eCallB oLen (aCons (aVal (eVar 0)) aNil)) (eC (.int 3)))) (eNotT (eTest (eOnL oAllL (eLst (eLc [1] (eIt1 itSeq (eSl (eVar 0) eNoPart (ePart (eC (.int 2))))) (gN 1) eTrue (eCallP F_is_from (aCons (aVal (eVar 1)) (aCons (aVal (eC (.int 0))) (aCons (aVal (eC (.int 60))) aNil))))))))))) (sRet (eC (.bl false))) sNext)
    (sRet (eIsi "bool" (eIx (eVar 0) (eC (.int 2))))))
def F_is_plug : FnP := fnP 1 2 f_is_plug
def f_check_plugs : FS :=
  (sSeq (sIf (eOrT (eNotT (eTest (eIsi "tuple" (eVar 0)))) (eNotT (eTest (eChain opLe opLe (eC (.int 1)) (eCallB oLen (aCons (aVal (eVar 0)) aNil)) (eVar 1))))) sNever sNext)
    (sFor (eIt1 itEn (eVar 0)) (gT 2 (gsCons (gN 2) (gsCons (gN 3) gsNil)))
    (sIf (eNotT (eTest (eCallP F_is_plug (aCons (aVal (eVar 3)) aNil)))) sNever sNext)))
def F_check_plugs : FnP := fnP 2 4 f_check_plugs
def f_is_place : FS :=
  (sSeq (sIf (eOrT (eNotT (eTest (eIsi "tuple" (eVar 1)))) (eTest (eBin opNe (eCallB oLen (aCons (aVal (eVar 1)) aNil)) (eC (.int 2))))) (sRet (eC (.bl false))) sNext)
    (sRet (eAnd (eCallP F_is_from (aCons (aVal (eIx (eVar 1) (eC (.int 0)))) (aCons (aVal (eC (.int 0))) (aCons (aVal (eBin opSub (eCallB oLen (aCons (aVal (eFld "Strip" "rows" (eVar 0))) aNil)) (eC (.int 1)))) aNil)))) (eIsi "bool" (eIx (eVar 1) (eC (.int 1)))))))
def F_is_place : FnP := fnP 2 2 f_is_place
def f_check_plan : FS :=
  (sSeq (sExpr (eCallP F_check_plugs (aCons (aVal (eVar 1)) (aCons (aVal (eC (.int 5))) aNil))))
    (sSeq (sIf (eOrT (eNotT (eTest (eIsi "tuple" (eVar 2)))) (eTest (eBin opNe (eCallB oLen (aCons (aVal (eVar 2)) aNil)) (eCallB oLen (aCons (aVal (eVar 1)) aNil))))) sNever sNext)
    (sIf (eNotT (eTest (eOnL oAllL (eLst (eLc [3] (eIt1 itSeq (eVar 2)) (gN 3) eTrue (eOr (eBin opIsN (eVar 3) (eC .non)) (eCallP F_is_place (aCons (aVal (eVar 0)) (aCons (aVal (eVar 3)) aNil))))))))) sNever sNext)))
def F_check_plan : FnP := fnP 3 4 f_check_plan
def f_pairs_of : FS :=
  (sSeq (sSet 1 (eLc [2, 3] (eIt1 itEn (eVar 0)) (gT 2 (gsCons (gN 2) (gsCons (gN 3) gsNil))) (eTest (eBin opNotN (eVar 3) (eC .non))) (eVar 2)))
    (sRet (eLc2 [4, 5] [5] (eIt1 itSeq (eVar 1)) (gN 4) eTrue (eIt1 itSeq (eVar 1)) (gN 5) (eTest (eBin opLt (eVar 4) (eVar 5))) (eTup (aCons (aVal (eVar 4)) (aCons (aVal (eVar 5)) aNil))))))
def F_pairs_of : FnP := fnP 1 6 f_pairs_of
def f_sides : FS :=
  (sRet (eIf (eTest (eVar 1)) (eTup (aCons (aVal (eIx (eVar 0) (eC (.int 1)))) (aCons (aVal (eIx (eVar 0) (eC (.int 0)))) aNil))) (eSl (eVar 0) eNoPart (ePart (eC (.int 2))))))
def F_sides : FnP := fnP 2 2 f_sides
def f_body : FS :=
  (sSeq (sAsg (eCallP F_sides (aCons (aVal (eVar 1)) (aCons (aVal (eIx (eVar 2) (eC (.int 1)))) aNil))) (gT 2 (gsCons (gN 3) (gsCons (gN 4) gsNil))))
    (sRet (eTup (aCons (aVal (eBin opSub (eIx (eFld "Strip" "rows" (eVar 0)) (eIx (eVar 2) (eC (.int 0)))) (eVar 3))) (aCons (aVal (eBin opAdd (eIx (eFld "Strip" "rows" (eVar 0)) (eIx (eVar 2) (eC (.int 0)))) (eVar 4))) aNil)))))
def F_body : FnP := fnP 3 5 f_body
def f_are_apart : FS :=
  (sSeq (sPar 5 6 (aCons (aVal (eCallP F_body (aCons (aVal (eVar 0)) (aCons (aVal (eVar 1)) (aCons (aVal (eVar 2)) aNil))))) (aCons (aVal (eCallP F_body (aCons (aVal (eVar 0)) (aCons (aVal (eVar 3)) (aCons (aVal (eVar 4)) aNil))))) aNil)))
    (sRet (eIf (eTest (eBin opLt (eIx (eVar 2) (eC (.int 0))) (eIx (eVar 4) (eC (.int 0))))) (eBin opLe (eIx (eVar 5) (eC (.int 1))) (eIx (eVar 6) (eC (.int 0)))) (eBin opLe (eIx (eVar 6) (eC (.int 1))) (eIx (eVar 5) (eC (.int 0)))))))
def F_are_apart : FnP := fnP 5 7 f_are_apart
def f_can_turn : FS :=
  (sRet (eAnd (eIx (eVar 0) (eC (.int 2))) (eBin opNe (eIx (eVar 0) (eC (.int 0))) (eIx (eVar 0) (eC (.int 1))))))
def F_can_turn : FnP := fnP 1 1 f_can_turn
def f_fault_of : FS :=
  (sSeq (sFor (eIt1 itEn (eVar 2)) (gT 2 (gsCons (gN 3) (gsCons (gN 4) gsNil)))
    (sIf (eAndT (eTest (eBin opNotN (eVar 4) (eC .non))) (eAndT (eTest (eIx (eVar 4) (eC (.int 1)))) (eNotT (eTest (eCallP F_can_turn (aCons (aVal (eIx (eVar 1) (eVar 3))) aNil)))))) (sRet (eTup (aCons (aVal (eC (.str "turn"))) (aCons (aVal (eVar 3)) aNil)))) sNext))
    (sSeq (sFor (eIt1 itSeq (eCallP F_pairs_of (aCons (aVal (eVar 2)) aNil))) (gT 2 (gsCons (gN 5) (gsCons (gN 6) gsNil)))
    (sIf (eTest (eBin opEq (eIx (eIx (eVar 2) (eVar 5)) (eC (.int 0))) (eIx (eIx (eVar 2) (eVar 6)) (eC (.int 0))))) (sRet (eTup (aCons (aVal (eC (.str "socket"))) (aCons (aVal (eVar 5)) (aCons (aVal (eVar 6)) aNil))))) sNext))
    (sSeq (sFor (eIt1 itSeq (eCallP F_pairs_of (aCons (aVal (eVar 2)) aNil))) (gT 2 (gsCons (gN 5) (gsCons (gN 6) gsNil)))
    (sIf (eNotT (eTest (eCallP F_are_apart (aCons (aVal (eVar 0)) (aCons (aVal (eIx (eVar 1) (eVar 5))) (aCons (aVal (eIx (eVar 2) (eVar 5))) (aCons (aVal (eIx (eVar 1) (eVar 6))) (aCons (aVal (eIx (eVar 2) (eVar 6))) aNil)))))))) (sRet (eTup (aCons (aVal (eC (.str "overlap"))) (aCons (aVal (eVar 5)) (aCons (aVal (eVar 6)) aNil))))) sNext))
    (sRet (eC .non)))))
def F_fault_of : FnP := fnP 3 7 f_fault_of
def f_judge : FS :=
  (sSeq (sExpr (eCallP F_check_plan (aCons (aVal (eVar 0)) (aCons (aVal (eVar 1)) (aCons (aVal (eVar 2)) aNil)))))
    (sRet (eCallP F_fault_of (aCons (aVal (eVar 0)) (aCons (aVal (eVar 1)) (aCons (aVal (eVar 2)) aNil))))))
def F_judge : FnP := fnP 3 3 f_judge
def f_Strip_d__init_d_ : FS :=
  (sSeq (sIf (eOrT (eNotT (eTest (eIsi "tuple" (eVar 1)))) (eNotT (eTest (eChain opLe opLe (eC (.int 1)) (eCallB oLen (aCons (aVal (eVar 1)) aNil)) (eC (.int 9)))))) sNever sNext)
    (sSeq (sIf (eNotT (eTest (eOnL oAllL (eLst (eLc [2] (eIt1 itSeq (eVar 1)) (gN 2) eTrue (eCallP F_is_from (aCons (aVal (eVar 2)) (aCons (aVal (eC (.int 0))) (aCons (aVal (eC (.int 300))) aNil))))))))) sNever sNext)
    (sSeq (sIf (eNotT (eTest (eOnL oAllL (eLst (eLc [2, 3] (eIt2 itZ (eVar 1) (eSl (eVar 1) (ePart (eC (.int 1))) eNoPart)) (gT 2 (gsCons (gN 2) (gsCons (gN 3) gsNil))) eTrue (eBin opLt (eVar 2) (eVar 3))))))) sNever sNext)
    (sFldO 0 "Strip" "rows" (eVar 1)))))
def F_Strip_d__init_d_ : Fn := fnE 2 4 f_Strip_d__init_d_
def f_law : FS :=
  (sSeq (sSetS 1 (eCallE F__law_draws (aCons (aVal (eVar 0)) aNil)))
    (sSeq (sFor (eIt1 itR1 (eC (.int 5))) (gN 2)
    (sSeq (sPar 4 5 (aCons (aVal (eVal (eCallE F__law_sockets (aCons (eSlot 1) (aCons (aVal (eC (.int 9))) aNil))))) (aCons (aVal (eVal (eCallE F__law_plugs (aCons (eSlot 1) (aCons (aVal (eC (.int 5))) aNil))))) aNil)))
    (sSeq (sSet 3 (eVal (eCallE F__law_part (aCons (eSlot 1) (aCons (aVal (eVar 4)) (aCons (aVal (eVar 5)) aNil))))))
    (sSeq (sIf (eTest (eBin opGt (eVal (eCallE F__law_pick (aCons (eSlot 1) (aCons (aVal (eC (.int 3))) aNil)))) (eC (.int 0)))) (sSeq (sSet 6 (eVal (eCallE F__law_pick (aCons (eSlot 1) (aCons (aVal (eCallB oLen (aCons (aVal (eVar 5)) aNil))) aNil)))))
    (sSeq (sSet 7 (eIx (eList (aCons (aVal (eC .non)) (aCons (aVal (eTup (aCons (aVal (eVal (eCallE F__law_pick (aCons (eSlot 1) (aCons (aVal (eCallB oLen (aCons (aVal (eVar 4)) aNil))) aNil))))) (aCons (aVal (eBin opEq (eVal (eCallE F__law_pick (aCons (eSlot 1) (aCons (aVal (eC (.int 2))) aNil)))) (eC (.int 0)))) aNil)))) aNil))) (eCallB oInt (aCons (aVal (eBin opGt (eVal (eCallE F__law_pick (aCons (eSlot 1) (aCons (aVal (eC (.int 5))) aNil)))) (eC (.int 0)))) aNil))))
    (sSet 3 (eBin opAdd (eBin opAdd (eSl (eVar 3) eNoPart (ePart (eVar 6))) (eTup (aCons (aVal (eVar 7)) aNil))) (eSl (eVar 3) (ePart (eBin opAdd (eVar 6) (eC (.int 1)))) eNoPart))))) sNext)
    (sIf (eTest (eBin opNe (eCallP F_judge (aCons (aVal (eMake "Strip" F_Strip_d__init_d_ (aCons (aVal (eVar 4)) aNil))) (aCons (aVal (eVar 5)) (aCons (aVal (eVar 3)) aNil)))) (eCallP F__law_fault (aCons (aVal (eVar 4)) (aCons (aVal (eVar 5)) (aCons (aVal (eVar 3)) aNil)))))) (sRet (eC (.bl false))) sNext)))))
    (sRet (eC (.bl true)))))
def F_law : FnP := fnP 1 8 f_law
def f_check_right : FS :=
  (sSeq (sExpr (eCallP F_check_plan (aCons (aVal (eVar 0)) (aCons (aVal (eVar 1)) (aCons (aVal (eVar 2)) aNil)))))
    (sIf (eTest (eBin opNotN (eCallP F_fault_of (aCons (aVal (eVar 0)) (aCons (aVal (eVar 1)) (aCons (aVal (eVar 2)) aNil)))) (eC .non))) sNever sNext))
def F_check_right : FnP := fnP 3 3 f_check_right
def f_words_of : FS :=
  (sSeq (sSet 3 (eLc [8] (eIt1 itSeq (eVar 2)) (gN 8) (eTest (eBin opNotN (eVar 8) (eC .non))) (eIx (eVar 8) (eC (.int 0)))))
    (sSeq (sSet 4 (eLc [9, 8] (eIt2 itZ (eVar 1) (eVar 2)) (gT 2 (gsCons (gN 9) (gsCons (gN 8) gsNil))) (eTest (eBin opNotN (eVar 8) (eC .non))) (eCallP F_body (aCons (aVal (eVar 0)) (aCons (aVal (eVar 9)) (aCons (aVal (eVar 8)) aNil))))))
    (sSeq (sNewL 5 aNil)
    (sSeq (sFor (eIt1 itEn (eFld "Strip" "rows" (eVar 0))) (gT 2 (gsCons (gN 6) (gsCons (gN 7) gsNil)))
    (sIf (eTest (eBin (opIn false) (eVar 6) (eVar 3))) (sApp 5 (eC (.str "used"))) (sApp 5 (eIf (eTest (eOnL oAnyL (eLst (eLc [10, 11] (eIt1 itSeq (eVar 4)) (gT 2 (gsCons (gN 10) (gsCons (gN 11) gsNil))) eTrue (eChain opLt opLt (eVar 10) (eVar 7) (eVar 11)))))) (eC (.str "covered")) (eC (.str "free"))))))
    (sRetL 5)))))
def F_words_of : FnP := fnP 3 12 f_words_of
def f_words : FS :=
  (sSeq (sExpr (eCallP F_check_right (aCons (aVal (eVar 0)) (aCons (aVal (eVar 1)) (aCons (aVal (eVar 2)) aNil)))))
    (sRet (eCallP F_words_of (aCons (aVal (eVar 0)) (aCons (aVal (eVar 1)) (aCons (aVal (eVar 2)) aNil))))))
def F_words : FnP := fnP 3 3 f_words
def f__law_words : FS :=
  (sSeq (sNewL 3 aNil)
    (sSeq (sFor (eIt1 itR1 (eCallB oLen (aCons (aVal (eVar 0)) aNil))) (gN 4)
    (sSeq (sSet 5 (eC (.str "free")))
    (sSeq (sFor (eIt1 itR1 (eCallB oLen (aCons (aVal (eVar 2)) aNil))) (gN 6)
    (sIf (eTest (eBin opNotN (eIx (eVar 2) (eVar 6)) (eC .non))) (sSeq (sAsg (eCallP F__law_body (aCons (aVal (eVar 0)) (aCons (aVal (eIx (eVar 1) (eVar 6))) (aCons (aVal (eIx (eVar 2) (eVar 6))) aNil)))) (gT 2 (gsCons (gN 7) (gsCons (gN 8) gsNil))))
    (sIf (eTest (eBin opEq (eIx (eIx (eVar 2) (eVar 6)) (eC (.int 0))) (eVar 4))) (sSet 5 (eC (.str "used"))) (sIf (eAndT (eTest (eChain opLt opLt (eVar 7) (eIx (eVar 0) (eVar 4)) (eVar 8))) (eTest (eBin opEq (eVar 5) (eC (.str "free"))))) (sSet 5 (eC (.str "covered"))) sNext))) sNext))
    (sApp 3 (eVar 5)))))
    (sRetL 3)))
def F__law_words : FnP := fnP 3 9 f__law_words
def f_check_plug : FS :=
  (sIf (eNotT (eTest (eCallP F_is_plug (aCons (aVal (eVar 0)) aNil)))) sNever sNext)
def F_check_plug : FnP := fnP 1 1 f_check_plug
def f_stands_of : FS :=
  (sRet (eIf (eTest (eCallP F_can_turn (aCons (aVal (eVar 0)) aNil))) (eList (aCons (aVal (eC (.bl false))) (aCons (aVal (eC (.bl true))) aNil))) (eList (aCons (aVal (eC (.bl false))) aNil))))
def F_stands_of : FnP := fnP 1 1 f_stands_of
def f_places_of : FS :=
  (sRet (eLc2 [2, 3] [3] (eIt1 itR1 (eCallB oLen (aCons (aVal (eFld "Strip" "rows" (eVar 0))) aNil))) (gN 2) eTrue (eIt1 itSeq (eCallP F_stands_of (aCons (aVal (eVar 1)) aNil))) (gN 3) eTrue (eTup (aCons (aVal (eVar 2)) (aCons (aVal (eVar 3)) aNil)))))
def F_places_of : FnP := fnP 2 4 f_places_of
def f_rooms : FS :=
  (sSeq (sExpr (eCallP F_check_right (aCons (aVal (eVar 0)) (aCons (aVal (eVar 1)) (aCons (aVal (eVar 2)) aNil)))))
    (sSeq (sExpr (eCallP F_check_plug (aCons (aVal (eVar 3)) aNil)))
    (sSeq (sSet 4 (eLc [6] (eIt1 itSeq (eVar 2)) (gN 6) (eTest (eBin opNotN (eVar 6) (eC .non))) (eIx (eVar 6) (eC (.int 0)))))
    (sSeq (sNewL 5 aNil)
    (sSeq (sFor (eIt1 itSeq (eCallP F_places_of (aCons (aVal (eVar 0)) (aCons (aVal (eVar 3)) aNil)))) (gN 6)
    (sSeq (sSet 7 (eLc [8, 9] (eIt2 itZ (eVar 1) (eVar 2)) (gT 2 (gsCons (gN 8) (gsCons (gN 9) gsNil))) (eTest (eBin opNotN (eVar 9) (eC .non))) (eTup (aCons (aVal (eVar 8)) (aCons (aVal (eVar 9)) aNil)))))
    (sIf (eAndT (eTest (eBin (opIn true) (eIx (eVar 6) (eC (.int 0))) (eVar 4))) (eTest (eOnL oAllL (eLst (eLc [8, 9] (eIt1 itSeq (eVar 7)) (gT 2 (gsCons (gN 8) (gsCons (gN 9) gsNil))) eTrue (eCallP F_are_apart (aCons (aVal (eVar 0)) (aCons (aVal (eVar 3)) (aCons (aVal (eVar 6)) (aCons (aVal (eVar 8)) (aCons (aVal (eVar 9)) aNil))))))))))) (sApp 5 (eVar 6)) sNext)))
    (sRetL 5))))))
def F_rooms : FnP := fnP 4 10 f_rooms
def f_law_2 : FS :=
  (sSeq (sSetS 1 (eCallE F__law_draws (aCons (aVal (eVar 0)) aNil)))
    (sSeq (sFor (eIt1 itR1 (eC (.int 4))) (gN 2)
    (sSeq (sPar 6 7 (aCons (aVal (eVal (eCallE F__law_sockets (aCons (eSlot 1) (aCons (aVal (eC (.int 9))) aNil))))) (aCons (aVal (eVal (eCallE F__law_plugs (aCons (eSlot 1) (aCons (aVal (eC (.int 5))) aNil))))) aNil)))
    (sSeq (sPar 8 9 (aCons (aVal (eVal (eCallE F__law_part (aCons (eSlot 1) (aCons (aVal (eVar 6)) (aCons (aVal (eVar 7)) aNil)))))) (aCons (aVal (eVal (eCallE F__law_plug (aCons (eSlot 1) aNil)))) aNil)))
    (sSeq (sSet 3 (eMake "Strip" F_Strip_d__init_d_ (aCons (aVal (eVar 6)) aNil)))
    (sSeq (sIf (eTest (eBin opNe (eCallP F_words (aCons (aVal (eVar 3)) (aCons (aVal (eVar 7)) (aCons (aVal (eVar 8)) aNil)))) (eCallP F__law_words (aCons (aVal (eVar 6)) (aCons (aVal (eVar 7)) (aCons (aVal (eVar 8)) aNil)))))) (sRet (eC (.bl false))) sNext)
    (sSeq (sNewL 4 aNil)
    (sSeq (sFor (eIt1 itSeq (eCallP F__law_places (aCons (aVal (eVar 6)) (aCons (aVal (eVar 9)) aNil)))) (gN 5)
    (sIf (eTest (eBin opIsN (eCallP F__law_fault (aCons (aVal (eVar 6)) (aCons (aVal (eBin opAdd (eVar 7) (eTup (aCons (aVal (eVar 9)) aNil)))) (aCons (aVal (eBin opAdd (eVar 8) (eTup (aCons (aVal (eVar 5)) aNil)))) aNil)))) (eC .non))) (sApp 4 (eVar 5)) sNext))
    (sIf (eTest (eBinO opNe (eCallP F_rooms (aCons (aVal (eVar 3)) (aCons (aVal (eVar 7)) (aCons (aVal (eVar 8)) (aCons (aVal (eVar 9)) aNil))))) (eOwnL 4))) (sRet (eC (.bl false))) sNext))))))))
    (sRet (eC (.bl true)))))
def F_law_2 : FnP := fnP 1 10 f_law_2
def lc_Strip_d__init_d__2_1 : FE D :=
  (eLc [2] (eIt1 itSeq (eVar 1)) (gN 2) eTrue (eCallP F_is_from (aCons (aVal (eVar 2)) (aCons (aVal (eC (.int 0))) (aCons (aVal (eC (.int 300))) aNil)))))
def lc_Strip_d__init_d__2_2 : FE D :=
  (eLc [2, 3] (eIt2 itZ (eVar 1) (eSl (eVar 1) (ePart (eC (.int 1))) eNoPart)) (gT 2 (gsCons (gN 2) (gsCons (gN 3) gsNil))) eTrue (eBin opLt (eVar 2) (eVar 3)))
def f_Strip_d__init_d__2 : FS :=
  (sSeq (sIf (eOrT (eNotT (eTest (eIsi "tuple" (eVar 1)))) (eNotT (eTest (eChain opLe opLe (eC (.int 1)) (eCallB oLen (aCons (aVal (eVar 1)) aNil)) (eC (.int 9)))))) (sRaise "BadSockets") sNext)
    (sSeq (sIf (eNotT (eTest (eOnL oAllL (eLst lc_Strip_d__init_d__2_1)))) (sRaise "BadSockets") sNext)
    (sSeq (sIf (eNotT (eTest (eOnL oAllL (eLst lc_Strip_d__init_d__2_2)))) (sRaise "BadSockets") sNext)
    (sFldO 0 "Strip" "rows" (eVar 1)))))
def F_Strip_d__init_d__2 : Fn := fnE 2 4 f_Strip_d__init_d__2
def bd_check_plugs_2_1 : FS :=
  (sIf (eNotT (eTest (eCallP F_is_plug (aCons (aVal (eVar 3)) aNil)))) (sRaiseI "BadPlugs" ["index"] (aCons (aVal (eVar 2)) aNil)) sNext)
def f_check_plugs_2 : FS :=
  (sSeq (sIf (eOrT (eNotT (eTest (eIsi "tuple" (eVar 0)))) (eNotT (eTest (eChain opLe opLe (eC (.int 1)) (eCallB oLen (aCons (aVal (eVar 0)) aNil)) (eVar 1))))) (sRaiseI "BadPlugs" ["index"] (aCons (aVal (eC .non)) aNil)) sNext)
    (sFor (eIt1 itEn (eVar 0)) (gT 2 (gsCons (gN 2) (gsCons (gN 3) gsNil)))
    bd_check_plugs_2_1))
def F_check_plugs_2 : FnP := fnP 2 4 f_check_plugs_2
def lc_check_plan_2_1 : FE D :=
  (eLc [3] (eIt1 itSeq (eVar 2)) (gN 3) eTrue (eOr (eBin opIsN (eVar 3) (eC .non)) (eCallP F_is_place (aCons (aVal (eVar 0)) (aCons (aVal (eVar 3)) aNil)))))
def f_check_plan_2 : FS :=
  (sSeq (sExpr (eCallP F_check_plugs_2 (aCons (aVal (eVar 1)) (aCons (aVal (eC (.int 5))) aNil))))
    (sSeq (sIf (eOrT (eNotT (eTest (eIsi "tuple" (eVar 2)))) (eTest (eBin opNe (eCallB oLen (aCons (aVal (eVar 2)) aNil)) (eCallB oLen (aCons (aVal (eVar 1)) aNil))))) (sRaise "BadPlan") sNext)
    (sIf (eNotT (eTest (eOnL oAllL (eLst lc_check_plan_2_1)))) (sRaise "BadPlan") sNext)))
def F_check_plan_2 : FnP := fnP 3 4 f_check_plan_2
def f_judge_2 : FS :=
  (sSeq (sExpr (eCallP F_check_plan_2 (aCons (aVal (eVar 0)) (aCons (aVal (eVar 1)) (aCons (aVal (eVar 2)) aNil)))))
    (sRet (eCallP F_fault_of (aCons (aVal (eVar 0)) (aCons (aVal (eVar 1)) (aCons (aVal (eVar 2)) aNil))))))
def F_judge_2 : FnP := fnP 3 3 f_judge_2
def f_check_right_2 : FS :=
  (sSeq (sExpr (eCallP F_check_plan_2 (aCons (aVal (eVar 0)) (aCons (aVal (eVar 1)) (aCons (aVal (eVar 2)) aNil)))))
    (sIf (eTest (eBin opNotN (eCallP F_fault_of (aCons (aVal (eVar 0)) (aCons (aVal (eVar 1)) (aCons (aVal (eVar 2)) aNil)))) (eC .non))) (sRaise "NotRight") sNext))
def F_check_right_2 : FnP := fnP 3 3 f_check_right_2
def f_words_c : FS :=
  (sSeq (sExpr (eCallP F_check_right_2 (aCons (aVal (eVar 0)) (aCons (aVal (eVar 1)) (aCons (aVal (eVar 2)) aNil)))))
    sNever)
def F_words_c : FnP := fnP 3 3 f_words_c
def f_check_plug_2 : FS :=
  (sIf (eNotT (eTest (eCallP F_is_plug (aCons (aVal (eVar 0)) aNil)))) (sRaise "BadPlug") sNext)
def F_check_plug_2 : FnP := fnP 1 1 f_check_plug_2
def f_rooms_c : FS :=
  (sSeq (sExpr (eCallP F_check_right_2 (aCons (aVal (eVar 0)) (aCons (aVal (eVar 1)) (aCons (aVal (eVar 2)) aNil)))))
    (sSeq (sExpr (eCallP F_check_plug_2 (aCons (aVal (eVar 3)) aNil)))
    sNever))
def F_rooms_c : FnP := fnP 4 10 f_rooms_c
def f_make_room_c : FS :=
  (sSeq (sExpr (eCallP F_check_right_2 (aCons (aVal (eVar 0)) (aCons (aVal (eVar 1)) (aCons (aVal (eVar 2)) aNil)))))
    (sSeq (sExpr (eCallP F_check_plug_2 (aCons (aVal (eVar 3)) aNil)))
    sNever))
def F_make_room_c : FnP := fnP 4 15 f_make_room_c
def f_count_plans_c : FS :=
  (sSeq (sExpr (eCallP F_check_plugs_2 (aCons (aVal (eVar 1)) (aCons (aVal (eC (.int 5))) aNil))))
    sNever)
def F_count_plans_c : FnP := fnP 2 2 f_count_plans_c
def f_least_plan_c : FS :=
  (sSeq (sExpr (eCallP F_check_plugs_2 (aCons (aVal (eVar 1)) (aCons (aVal (eC (.int 5))) aNil))))
    sNever)
def F_least_plan_c : FnP := fnP 2 2 f_least_plan_c
def f_most_together_c : FS :=
  (sSeq (sExpr (eCallP F_check_plugs_2 (aCons (aVal (eVar 1)) (aCons (aVal (eC (.int 5))) aNil))))
    sNever)
def F_most_together_c : FnP := fnP 2 5 f_most_together_c
def f_bars_c : FS :=
  (sSeq (sExpr (eCallP F_check_plugs_2 (aCons (aVal (eVar 1)) (aCons (aVal (eC (.int 5))) aNil))))
    sNever)
def F_bars_c : FnP := fnP 2 8 f_bars_c
def f_paper_c : FS :=
  (sSeq (sExpr (eCallP F_check_plugs_2 (aCons (aVal (eVar 1)) (aCons (aVal (eC (.int 5))) aNil))))
    sNever)
def F_paper_c : FnP := fnP 2 4 f_paper_c
def f__law_asked : FS :=
  (sSeq (sIf (eTest (eBin opEq (eVar 2) (eC (.int 4)))) (sRet (eCallP F_count_plans_c (aCons (aVal (eVar 0)) (aCons (aVal (eVar 1)) aNil)))) sNext)
    (sSeq (sIf (eTest (eBin opEq (eVar 2) (eC (.int 5)))) (sRet (eCallP F_least_plan_c (aCons (aVal (eVar 0)) (aCons (aVal (eVar 1)) aNil)))) sNext)
    (sSeq (sIf (eTest (eBin opEq (eVar 2) (eC (.int 6)))) (sRet (eCallP F_most_together_c (aCons (aVal (eVar 0)) (aCons (aVal (eVar 1)) aNil)))) sNext)
    (sRet (eIf (eTest (eBin opEq (eVar 2) (eC (.int 7)))) (eCallP F_bars_c (aCons (aVal (eVar 0)) (aCons (aVal (eVar 1)) aNil))) (eCallP F_paper_c (aCons (aVal (eVar 0)) (aCons (aVal (eVar 1)) aNil))))))))
def F__law_asked : FnP := fnP 3 3 f__law_asked
def tr__law_told_there_1 : FS :=
  (sIf (eTest (eBin opEq (eVar 4) (eC (.int 0)))) (sSet 5 (eCallP F_judge_2 (aCons (aVal (eVar 0)) (aCons (aVal (eVar 1)) (aCons (aVal (eVar 2)) aNil))))) (sIf (eTest (eBin opEq (eVar 4) (eC (.int 1)))) (sSet 5 (eCallP F_words_c (aCons (aVal (eVar 0)) (aCons (aVal (eVar 1)) (aCons (aVal (eVar 2)) aNil))))) (sIf (eTest (eBin opEq (eVar 4) (eC (.int 2)))) (sSet 5 (eCallP F_rooms_c (aCons (aVal (eVar 0)) (aCons (aVal (eVar 1)) (aCons (aVal (eVar 2)) (aCons (aVal (eVar 3)) aNil)))))) (sIf (eTest (eBin opEq (eVar 4) (eC (.int 3)))) (sSet 5 (eCallP F_make_room_c (aCons (aVal (eVar 0)) (aCons (aVal (eVar 1)) (aCons (aVal (eVar 2)) (aCons (aVal (eVar 3)) aNil)))))) (sSet 5 (eCallP F__law_asked (aCons (aVal (eVar 0)) (aCons (aVal (eVar 1)) (aCons (aVal (eVar 4)) aNil)))))))))
def f__law_told_there : FS :=
  (sSeq (sSet 5 (eC .non))
    (sSeq (sTry ["BadSockets", "BadPlug", "BadPlan", "NotRight", "BadPlugs"] 6 tr__law_told_there_1 [("BadPlugs", fun x => sSet 5 ((fun x => eIf (eTest ((eIsx "StripError") x)) ((fun x => eList ((fun x => aCons (aVal ((fun _ => (eC (.str "plugs"))) x)) ((fun x => aCons (aVal ((eXf "BadPlugs" "index") x)) ((fun _ => aNil) x)) x)) x)) x) ((fun _ => (eC (.str "another"))) x)) x)), ("BadPlan", fun x => sSet 5 ((fun x => eIf (eTest ((eIsx "StripError") x)) ((fun _ => (eC (.str "plan"))) x) ((fun _ => (eC (.str "another"))) x)) x)), ("NotRight", fun x => sSet 5 ((fun x => eIf (eTest ((eIsx "StripError") x)) ((fun _ => (eC (.str "right"))) x) ((fun _ => (eC (.str "another"))) x)) x)), ("BadPlug", fun x => sSet 5 ((fun x => eIf (eTest ((eIsx "StripError") x)) ((fun _ => (eC (.str "plug"))) x) ((fun _ => (eC (.str "another"))) x)) x))])
    (sRet (eVar 5))))
def F__law_told_there : FnP := fnP 5 7 f__law_told_there
def f__law_odd_plug : FS :=
  (sSeq (sSet 1 (eList (aCons (aVal (eC .non)) (aCons (aVal (eTup (aCons (aVal (eC (.int 1))) (aCons (aVal (eC (.int 2))) aNil)))) (aCons (aVal (eList (aCons (aVal (eC (.int 1))) (aCons (aVal (eC (.int 2))) (aCons (aVal (eC (.bl true))) aNil))))) (aCons (aVal (eTup (aCons (aVal (eC (.int 1))) (aCons (aVal (eC (.int 2))) (aCons (aVal (eC (.int 1))) aNil))))) (aCons (aVal (eTup (aCons (aVal (eC (.int 61))) (aCons (aVal (eC (.int 0))) (aCons (aVal (eC (.bl true))) aNil))))) (aCons (aVal (eTup (aCons (aVal (eC (.int 0))) (aCons (aVal (eUn opNeg (eC (.int 1)))) (aCons (aVal (eC (.bl false))) aNil))))) (aCons (aVal (eTup (aCons (aVal (eC (.bl true))) (aCons (aVal (eC (.int 0))) (aCons (aVal (eC (.bl false))) aNil))))) (aCons (aVal (eTup (aCons (aVal (eC (.int 0))) (aCons (aVal (eC (.int 0))) (aCons (aVal (eC .non)) aNil))))) (aCons (aVal (eC (.str "plug"))) aNil)))))))))))
    (sRet (eIx (eVar 1) (eVal (eCallE F__law_pick (aCons (eSlot 0) (aCons (aVal (eC (.int 9))) aNil)))))))
def F__law_odd_plug : Fn := fnE 1 2 f__law_odd_plug
def bd_law_3_1 : FS :=
  (sSeq (sPar3 8 9 6 (aCons (aVal (eVal (eCallE F__law_sockets (aCons (eSlot 1) (aCons (aVal (eC (.int 6))) aNil))))) (aCons (aVal (eVal (eCallE F__law_plugs (aCons (eSlot 1) (aCons (aVal (eC (.int 4))) aNil))))) (aCons (aVal (eVal (eCallE F__law_pick (aCons (eSlot 1) (aCons (aVal (eC (.int 9))) aNil))))) aNil))))
    (sSeq (sPar 10 11 (aCons (aVal (eMake "Strip" F_Strip_d__init_d__2 (aCons (aVal (eVar 8)) aNil))) (aCons (aVal (eVal (eCallE F__law_pick (aCons (eSlot 1) (aCons (aVal (eCallB oLen (aCons (aVal (eVar 9)) aNil))) aNil))))) aNil)))
    (sSeq (sSet 3 (eBin opAdd (eBin opAdd (eSl (eVar 9) eNoPart (ePart (eVar 11))) (eTup (aCons (aVal (eVal (eCallE F__law_odd_plug (aCons (eSlot 1) aNil)))) aNil))) (eSl (eVar 9) (ePart (eBin opAdd (eVar 11) (eC (.int 1)))) eNoPart)))
    (sSeq (sIf (eTest (eBin opNe (eCallP F__law_told_there (aCons (aVal (eVar 10)) (aCons (aVal (eVar 3)) (aCons (aVal (eC .non)) (aCons (aVal (eC .non)) (aCons (aVal (eVar 6)) aNil)))))) (eList (aCons (aVal (eC (.str "plugs"))) (aCons (aVal (eVar 11)) aNil))))) (sRet (eC (.bl false))) sNext)
    (sSeq (sSet 4 (eIx (eList (aCons (aVal (eC .non)) (aCons (aVal (eTup aNil)) (aCons (aVal (eCallB oList (aCons (aVal (eVar 9)) aNil))) (aCons (aVal (eBin opMulA (eTup (aCons (aVal (eTup (aCons (aVal (eC (.int 0))) (aCons (aVal (eC (.int 0))) (aCons (aVal (eC (.bl true))) aNil))))) aNil)) (eC (.int 6)))) (aCons (aVal (eC (.str "plugs"))) aNil)))))) (eVal (eCallE F__law_pick (aCons (eSlot 1) (aCons (aVal (eC (.int 5))) aNil))))))
    (sSeq (sIf (eTest (eBin opNe (eCallP F__law_told_there (aCons (aVal (eVar 10)) (aCons (aVal (eVar 4)) (aCons (aVal (eC .non)) (aCons (aVal (eC .non)) (aCons (aVal (eVar 6)) aNil)))))) (eList (aCons (aVal (eC (.str "plugs"))) (aCons (aVal (eC .non)) aNil))))) (sRet (eC (.bl false))) sNext)
    (sSeq (sPar 12 6 (aCons (aVal (eVal (eCallE F__law_part (aCons (eSlot 1) (aCons (aVal (eVar 8)) (aCons (aVal (eVar 9)) aNil)))))) (aCons (aVal (eVal (eCallE F__law_pick (aCons (eSlot 1) (aCons (aVal (eC (.int 4))) aNil))))) aNil)))
    (sSeq (sSet 5 (eList (aCons (aVal (eC (.int 5))) (aCons (aVal (eTup (aCons (aVal (eC (.int 0))) aNil))) (aCons (aVal (eTup (aCons (aVal (eC (.int 0))) (aCons (aVal (eC (.int 0))) aNil)))) (aCons (aVal (eTup (aCons (aVal (eCallB oLen (aCons (aVal (eVar 8)) aNil))) (aCons (aVal (eC (.bl false))) aNil)))) (aCons (aVal (eTup (aCons (aVal (eUn opNeg (eC (.int 1)))) (aCons (aVal (eC (.bl false))) aNil)))) (aCons (aVal (eTup (aCons (aVal (eC (.bl true))) (aCons (aVal (eC (.bl false))) aNil)))) (aCons (aVal (eList (aCons (aVal (eC (.int 0))) (aCons (aVal (eC (.bl false))) aNil)))) (aCons (aVal (eTup (aCons (aVal (eC (.int 0))) (aCons (aVal (eC (.bl false))) (aCons (aVal (eC (.int 0))) aNil))))) (aCons (aVal (eC (.str "0"))) aNil)))))))))))
    (sSeq (sSet 4 (eList (aCons (aVal (eC .non)) (aCons (aVal (eCallB oList (aCons (aVal (eVar 12)) aNil))) (aCons (aVal (eBin opAdd (eVar 12) (eTup (aCons (aVal (eC .non)) aNil)))) (aCons (aVal (eSl (eVar 12) (ePart (eC (.int 1))) eNoPart)) (aCons (aVal (eBin opAdd (eBin opAdd (eSl (eVar 12) eNoPart (ePart (eVar 11))) (eTup (aCons (aVal (eIx (eVar 5) (eVal (eCallE F__law_pick (aCons (eSlot 1) (aCons (aVal (eC (.int 9))) aNil)))))) aNil))) (eSl (eVar 12) (ePart (eBin opAdd (eVar 11) (eC (.int 1)))) eNoPart))) aNil)))))))
    (sSeq (sIf (eTest (eBin opNe (eCallP F__law_told_there (aCons (aVal (eVar 10)) (aCons (aVal (eVar 9)) (aCons (aVal (eIx (eVar 4) (eVal (eCallE F__law_pick (aCons (eSlot 1) (aCons (aVal (eC (.int 5))) aNil)))))) (aCons (aVal (eC .non)) (aCons (aVal (eVar 6)) aNil)))))) (eC (.str "plan")))) (sRet (eC (.bl false))) sNext)
    (sSeq (sSet 6 (eBin opAdd (eC (.int 1)) (eVal (eCallE F__law_pick (aCons (eSlot 1) (aCons (aVal (eC (.int 3))) aNil))))))
    (sSeq (sSet 7 (eBin opMulA (eTup (aCons (aVal (eTup (aCons (aVal (eC (.int 0))) (aCons (aVal (eC (.bl false))) aNil)))) aNil)) (eC (.int 2))))
    (sSeq (sIf (eTest (eBin opNe (eCallP F__law_told_there (aCons (aVal (eVar 10)) (aCons (aVal (eBin opMulA (eTup (aCons (aVal (eTup (aCons (aVal (eC (.int 1))) (aCons (aVal (eC (.int 1))) (aCons (aVal (eC (.bl true))) aNil))))) aNil)) (eC (.int 2)))) (aCons (aVal (eVar 7)) (aCons (aVal (eC .non)) (aCons (aVal (eVar 6)) aNil)))))) (eC (.str "right")))) (sRet (eC (.bl false))) sNext)
    (sIf (eTest (eBin opNe (eCallP F__law_told_there (aCons (aVal (eVar 10)) (aCons (aVal (eVar 9)) (aCons (aVal (eVar 12)) (aCons (aVal (eVal (eCallE F__law_odd_plug (aCons (eSlot 1) aNil)))) (aCons (aVal (eBin opAdd (eC (.int 2)) (eVal (eCallE F__law_pick (aCons (eSlot 1) (aCons (aVal (eC (.int 2))) aNil)))))) aNil)))))) (eC (.str "plug")))) (sRet (eC (.bl false))) sNext))))))))))))))
def f_law_3 : FS :=
  (sSeq (sSetS 1 (eCallE F__law_draws (aCons (aVal (eVar 0)) aNil)))
    (sSeq (sFor (eIt1 itR1 (eC (.int 4))) (gN 2)
    bd_law_3_1)
    (sRet (eC (.bl true)))))
def F_law_3 : FnP := fnP 1 13 f_law_3
end Pk
namespace Pk
open PySem Dl L2
local macro_rules
  | `(tactic| push_cast [$xs,*]) => `(tactic| simp -implicitDefEqProofs only [↓eC_run, ↓eVar_run, ↓eSlot_run, ↓eBin_run, ↓eUn_run, ↓eTest_run, ↓eAndT_run, ↓eOrT_run, ↓eNotT_run, ↓eTrue_run, ↓eAnd_run, ↓eOr_run, ↓eNot_run, ↓eIf_run, ↓aNil_run, ↓aCons_run, ↓aVal_run, ↓eTup_run, ↓eList_run, ↓eLst_run, ↓eCallB_run, ↓eOnL_run, ↓eIsi_run, ↓eSl_run, ↓ePart_run, ↓eNoPart_run, ↓eChain_run, ↓eIxO_run, ↓eOwnL_run, ↓sNext_run, ↓sSeq_run, ↓sIf_run, ↓sExpr_run, ↓sRet_run, ↓sRetS_run, ↓sRetN_run, ↓sBreak_run, ↓sCont_run, ↓sAsg_run, ↓sSetS_run, ↓sPar_run, ↓sFor_run, ↓sWhile_run, ↓eIt1_run, ↓eIt2_run, ↓eIt3_run, ↓eLc_run, ↓eLc2_run, ↓sNewL_run, ↓sApp_run, ↓sSetIx_run, ↓sRetL_run, ↓sRetNew_run, ↓eCallP_run, ↓eCallE_run, ↓eVal_run, ↓eMake_run, ↓eFld_run, ↓sRaise_run, ↓sRaiseI_run, ↓sTry_run, ↓eIsx_run, ↓sPar3_run, ↓eNewL_run, bind_ok, bind_exc, out_ok, out_exc, lift_some, obind_next, obind_ret, obind_exc, obind_brk, obind_cont, varR_run, slotR_run, asBl_run, allD_nil, allD_cons, asLst_run, asI_run, chR_run, ownK_run, ownKR_run, ownL_run, ownLR_run, someR_run, someO_run, ixI_run, parR_run, gN_run, gsNil_run, gsCons_run, itSeq_lst, itSeq_tup, itEn_lst, itEn_tup, itZ_lst, itZ_tup, wipeR_nil, wipeR_cons, setIxR_run, finP_ret, finP_next, finP_exc, finE_ret, finE_next, finE_exc, callR_ok, callR_err, valR_run, makeR_ok, makeR_exc, opAdd_int, opI_run, opB_run, opMulA_int, opEq_run, opNe_run, opIsN_run, opNotN_run, opIx_tup, opIx_lst, opNeg_run, oLen_tup, oLen_lst, oInt_int, oInt_bl, oTuple_tup, oTuple_lst, oList_tup, oList_lst, oTupleL_run, oListL_run, oLenL_run, isi_int_non, isi_int_bl, isi_int_int, isi_int_str, isi_int_tup, isi_int_lst, isi_bool_non, isi_bool_bl, isi_bool_int, isi_bool_str, isi_bool_tup, isi_bool_lst, isi_tuple_non, isi_tuple_bl, isi_tuple_int, isi_tuple_str, isi_tuple_tup, isi_tuple_lst, isi_str_non, isi_str_bl, isi_str_int, isi_str_str, isi_str_tup, isi_str_lst, isi_list_non, isi_list_bl, isi_list_int, isi_list_str, isi_list_tup, isi_list_lst, atI_0, atI_1, atI_2, atI_3, atI_4, atI_5, atI_6, atI_7, atI_8, ixN_1_0, ixN_2_0, ixN_2_1, ixN_3_0, ixN_3_1, ixN_3_2, ixN_4_0, ixN_4_1, ixN_4_2, ixN_4_3, ixN_5_0, ixN_5_1, ixN_5_2, ixN_5_3, ixN_5_4, eqD_int, eqD_bl, eqD_non_non, isNon_non, isNon_bl, isNon_int, isNon_str, isNon_tup, isNon_lst, Option.map_some, Option.map_none, Option.bind_some, List.getElem?_cons_zero, List.getElem?_cons_succ, List.set_cons_zero, List.set_cons_succ, List.map_cons, List.map_nil, List.length_cons, List.length_nil, List.cons_append, List.nil_append, rho0, List.replicate, List.take_succ_cons, List.take_zero, List.take_nil, List.take_length, and_self, Bool.false_eq_true, Bool.not_true, Bool.not_false, decide_true, decide_false, raiseI_run1, raiseI_run2, tryO_next, tryO_ret, tryH_nil, unbind_next, unbind_ret, eXf_run, par3R_run, newLR_0, newLR_1, tup_0, lst_0, tup_1, lst_1, tup_2, lst_2, tup_3, lst_3, tup_4, lst_4, tup_5, lst_5, tup_6, lst_6, tup_7, lst_7, tup_8, lst_8, tup_9, lst_9, tup_10, lst_10, tup_11, lst_11, tup_12, lst_12, new_0, new_1, new_2, new_3, new_4, new_5, ↓reduceIte, Nat.reduceAdd, $xs,*])
  | `(tactic| push_cast [$xs,*] at $h:ident) => `(tactic| simp -implicitDefEqProofs only [↓eC_run, ↓eVar_run, ↓eSlot_run, ↓eBin_run, ↓eUn_run, ↓eTest_run, ↓eAndT_run, ↓eOrT_run, ↓eNotT_run, ↓eTrue_run, ↓eAnd_run, ↓eOr_run, ↓eNot_run, ↓eIf_run, ↓aNil_run, ↓aCons_run, ↓aVal_run, ↓eTup_run, ↓eList_run, ↓eLst_run, ↓eCallB_run, ↓eOnL_run, ↓eIsi_run, ↓eSl_run, ↓ePart_run, ↓eNoPart_run, ↓eChain_run, ↓eIxO_run, ↓eOwnL_run, ↓sNext_run, ↓sSeq_run, ↓sIf_run, ↓sExpr_run, ↓sRet_run, ↓sRetS_run, ↓sRetN_run, ↓sBreak_run, ↓sCont_run, ↓sAsg_run, ↓sSetS_run, ↓sPar_run, ↓sFor_run, ↓sWhile_run, ↓eIt1_run, ↓eIt2_run, ↓eIt3_run, ↓eLc_run, ↓eLc2_run, ↓sNewL_run, ↓sApp_run, ↓sSetIx_run, ↓sRetL_run, ↓sRetNew_run, ↓eCallP_run, ↓eCallE_run, ↓eVal_run, ↓eMake_run, ↓eFld_run, ↓sRaise_run, ↓sRaiseI_run, ↓sTry_run, ↓eIsx_run, ↓sPar3_run, ↓eNewL_run, bind_ok, bind_exc, out_ok, out_exc, lift_some, obind_next, obind_ret, obind_exc, obind_brk, obind_cont, varR_run, slotR_run, asBl_run, allD_nil, allD_cons, asLst_run, asI_run, chR_run, ownK_run, ownKR_run, ownL_run, ownLR_run, someR_run, someO_run, ixI_run, parR_run, gN_run, gsNil_run, gsCons_run, itSeq_lst, itSeq_tup, itEn_lst, itEn_tup, itZ_lst, itZ_tup, wipeR_nil, wipeR_cons, setIxR_run, finP_ret, finP_next, finP_exc, finE_ret, finE_next, finE_exc, callR_ok, callR_err, valR_run, makeR_ok, makeR_exc, opAdd_int, opI_run, opB_run, opMulA_int, opEq_run, opNe_run, opIsN_run, opNotN_run, opIx_tup, opIx_lst, opNeg_run, oLen_tup, oLen_lst, oInt_int, oInt_bl, oTuple_tup, oTuple_lst, oList_tup, oList_lst, oTupleL_run, oListL_run, oLenL_run, isi_int_non, isi_int_bl, isi_int_int, isi_int_str, isi_int_tup, isi_int_lst, isi_bool_non, isi_bool_bl, isi_bool_int, isi_bool_str, isi_bool_tup, isi_bool_lst, isi_tuple_non, isi_tuple_bl, isi_tuple_int, isi_tuple_str, isi_tuple_tup, isi_tuple_lst, isi_str_non, isi_str_bl, isi_str_int, isi_str_str, isi_str_tup, isi_str_lst, isi_list_non, isi_list_bl, isi_list_int, isi_list_str, isi_list_tup, isi_list_lst, atI_0, atI_1, atI_2, atI_3, atI_4, atI_5, atI_6, atI_7, atI_8, ixN_1_0, ixN_2_0, ixN_2_1, ixN_3_0, ixN_3_1, ixN_3_2, ixN_4_0, ixN_4_1, ixN_4_2, ixN_4_3, ixN_5_0, ixN_5_1, ixN_5_2, ixN_5_3, ixN_5_4, eqD_int, eqD_bl, eqD_non_non, isNon_non, isNon_bl, isNon_int, isNon_str, isNon_tup, isNon_lst, Option.map_some, Option.map_none, Option.bind_some, List.getElem?_cons_zero, List.getElem?_cons_succ, List.set_cons_zero, List.set_cons_succ, List.map_cons, List.map_nil, List.length_cons, List.length_nil, List.cons_append, List.nil_append, rho0, List.replicate, List.take_succ_cons, List.take_zero, List.take_nil, List.take_length, and_self, Bool.false_eq_true, Bool.not_true, Bool.not_false, decide_true, decide_false, raiseI_run1, raiseI_run2, tryO_next, tryO_ret, tryH_nil, unbind_next, unbind_ret, eXf_run, par3R_run, newLR_0, newLR_1, tup_0, lst_0, tup_1, lst_1, tup_2, lst_2, tup_3, lst_3, tup_4, lst_4, tup_5, lst_5, tup_6, lst_6, tup_7, lst_7, tup_8, lst_8, tup_9, lst_9, tup_10, lst_10, tup_11, lst_11, tup_12, lst_12, new_0, new_1, new_2, new_3, new_4, new_5, ↓reduceIte, Nat.reduceAdd, $xs,*] at $h:ident)
/-! ### the draws -/
def rowD (ns : List Int) (a b c : Int) : List D := [.lst (ns.map D.int), .int a, .int b, .int c]
structure RowOk (a b c : Int) : Prop where
  a0 : 0 ≤ a
  b0 : 0 ≤ b
  c0 : 0 ≤ c
  c1 : c < 2147483647
/-- the store: the draws' row first, then rest -/
def IsRow (ns : List Int) (rest ω : Om) : Prop := ∃ a b c, RowOk a b c ∧ ω = some (.lst (rowD ns a b c)) :: rest
theorem pick_pos (ns : List Int) (rest : Om) (a b c m : Int) (hb0 : 0 < b) (hm : 0 < m ∧ m < 1073741824) : F__law_pick [.own 0, .val (.int m)] (some (.lst (rowD ns a b c)) :: rest) = .ok (.val (.int (b % m))) (some (.lst (rowD ns a (b / m) c)) :: rest) := by
  have h1 : (b == 0) = false := by simp; omega
  have h2 : decide (0 < b) = true := by simp; omega
  unfold F__law_pick
  rw [fnE_run (by rfl)]
  unfold f__law_pick rowD
  push_cast [h1, h2, hm.1, hm.2]
theorem pick_end (ns : List Int) (rest : Om) (a c m : Int) (ha : ¬ a < ns.length) (hc : 0 ≤ c ∧ c < 2147483647) (hm : 0 < m) : ∃ c', 0 ≤ c' ∧ c' < 2147483647 ∧
    F__law_pick [.own 0, .val (.int m)] (some (.lst (rowD ns a 0 c)) :: rest) = .ok (.val (.int (c' * 16807 % 2147483629 % m))) (some (.lst (rowD ns a 0 c')) :: rest) := by
  refine ⟨(c * 48271 + 7) % 2147483647, Int.emod_nonneg _ (by decide), Int.emod_lt_of_pos _ (by decide), ?_⟩
  have g : ∀ x y : Int, (-bnd < x ∧ x < bnd ∨ -bnd < y ∧ y < bnd) → (if -bnd < x ∧ x < bnd ∨ -bnd < y ∧ y < bnd then some (x * y) else none) = some (x * y) := fun x y h => if_pos h
  have g1 : (-bnd < c ∧ c < bnd ∨ -bnd < (48271 : Int) ∧ (48271 : Int) < bnd) := .inr ⟨by decide, by decide⟩
  have g2 : ∀ z : Int, (-bnd < z ∧ z < bnd ∨ -bnd < (16807 : Int) ∧ (16807 : Int) < bnd) := fun _ => .inr ⟨by decide, by decide⟩
  have h1 : decide (a < (ns.length : Int)) = false := by simp; omega
  unfold F__law_pick
  rw [fnE_run (by rfl)]
  unfold f__law_pick rowD
  have e1 : decide ((0 : Int) < 0) = false := rfl
  have e2 : ((0 : Int) == 0) = true := rfl
  have e3 : (0 : Int) < 2147483647 := by decide
  have e4 : (0 : Int) < 2147483629 := by decide
  push_cast [List.length_map, h1, e1, e2, g1, g2, e3, e4, hm]
theorem pick_big (ns : List Int) (rest : Om) (j : Nat) (z c m : Int) (hz : ns[j]? = some z) (hb : 1000000000000000000 ≤ z) (hm : 0 < m ∧ m < 1073741824) :
    F__law_pick [.own 0, .val (.int m)] (some (.lst (rowD ns j 0 c)) :: rest) = .ok (.val (.int (z % m))) (some (.lst (rowD ns (j + 1) (z / m) c)) :: rest) := by
  have hl : j < ns.length := (List.getElem?_eq_some_iff.mp hz).1
  have h1 : decide ((j : Int) < (ns.length : Int)) = true := by simp; omega
  have h2 : atI (ns.map D.int) (j : Int) = some (.int z) := by rw [atI_get' (by omega)]; simp [hz]
  have h3 : decide ((10 : Int) ^ Int.toNat 18 ≤ z) = true := by
    have : (10 : Int) ^ Int.toNat 18 = 1000000000000000000 := by decide
    rw [this]; simp; exact hb
  have h4 : decide (0 < z) = true := by simp; omega
  have g0 : (0 : Int) ≤ 18 ∧ (18 : Int) ≤ 1000000 ∧ (10 : Int).natAbs < 18446744073709551616 := by decide
  unfold F__law_pick
  rw [fnE_run (by rfl)]
  unfold f__law_pick rowD
  have e2 : ((0 : Int) == 0) = true := rfl
  push_cast [List.length_map, h1, h2, h3, h4, e2, g0, hm.1, hm.2]
theorem pick_small (ns : List Int) (rest : Om) (j : Nat) (z c m : Int) (hz : ns[j]? = some z) (hb : ¬ 1000000000000000000 ≤ z) (hc : 0 ≤ c ∧ c < 2147483647) (hm : 0 < m) : ∃ c', 0 ≤ c' ∧ c' < 2147483647 ∧
    F__law_pick [.own 0, .val (.int m)] (some (.lst (rowD ns j 0 c)) :: rest) = .ok (.val (.int (c' * 16807 % 2147483629 % m))) (some (.lst (rowD ns (j + 1) 0 c')) :: rest) := by
  refine ⟨(c * 48271 + z * 69621 + 11) % 2147483647, Int.emod_nonneg _ (by decide), Int.emod_lt_of_pos _ (by decide), ?_⟩
  have hl : j < ns.length := (List.getElem?_eq_some_iff.mp hz).1
  have h1 : decide ((j : Int) < (ns.length : Int)) = true := by simp; omega
  have h2 : atI (ns.map D.int) (j : Int) = some (.int z) := by rw [atI_get' (by omega)]; simp [hz]
  have h3 : decide ((10 : Int) ^ Int.toNat 18 ≤ z) = false := by
    have : (10 : Int) ^ Int.toNat 18 = 1000000000000000000 := by decide
    rw [this]; simp; omega
  have g0 : (0 : Int) ≤ 18 ∧ (18 : Int) ≤ 1000000 ∧ (10 : Int).natAbs < 18446744073709551616 := by decide
  have g1 : ∀ z : Int, (-bnd < z ∧ z < bnd ∨ -bnd < (48271 : Int) ∧ (48271 : Int) < bnd) := fun _ => .inr ⟨by decide, by decide⟩
  have g3 : ∀ z : Int, (-bnd < z ∧ z < bnd ∨ -bnd < (69621 : Int) ∧ (69621 : Int) < bnd) := fun _ => .inr ⟨by decide, by decide⟩
  have g2 : ∀ z : Int, (-bnd < z ∧ z < bnd ∨ -bnd < (16807 : Int) ∧ (16807 : Int) < bnd) := fun _ => .inr ⟨by decide, by decide⟩
  unfold F__law_pick
  rw [fnE_run (by rfl)]
  unfold f__law_pick rowD
  have e1 : decide ((0 : Int) < 0) = false := rfl
  have e2 : ((0 : Int) == 0) = true := rfl
  have e3 : (0 : Int) < 2147483647 := by decide
  have e4 : (0 : Int) < 2147483629 := by decide
  push_cast [List.length_map, h1, h2, h3, e1, e2, g0, g1, g2, g3, e3, e4, hm]
/-- what a draw is -/
theorem pick {ns : List Int} {rest ω : Om} {m : Int} (h : IsRow ns rest ω) (hm : 0 < m) (hm' : m < 1073741824) : ∃ r ω', IsRow ns rest ω' ∧ 0 ≤ r ∧ r < m ∧ F__law_pick [.own 0, .val (.int m)] ω = .ok (.val (.int r)) ω' := by
  obtain ⟨a, b, c, k, rfl⟩ := h
  by_cases hb : 0 < b
  · exact ⟨_, _, ⟨a, b / m, c, ⟨k.a0, Int.ediv_nonneg k.b0 (by omega), k.c0, k.c1⟩, rfl⟩, Int.emod_nonneg _ (by omega), Int.emod_lt_of_pos _ hm, pick_pos ns rest a b c m hb ⟨hm, hm'⟩⟩
  · have : b = 0 := by have := k.b0; omega
    subst this
    by_cases ha : a < ns.length
    · obtain ⟨j, rfl⟩ : ∃ j : Nat, a = j := ⟨a.toNat, by have := k.a0; omega⟩
      have hj : j < ns.length := by omega
      have hz : ns[j]? = some ns[j] := List.getElem?_eq_getElem hj
      by_cases hb : 1000000000000000000 ≤ ns[j]
      · exact ⟨_, _, ⟨j + 1, ns[j] / m, c, ⟨by omega, Int.ediv_nonneg (by omega) (by omega), k.c0, k.c1⟩, rfl⟩, Int.emod_nonneg _ (by omega), Int.emod_lt_of_pos _ hm, pick_big ns rest j ns[j] c m hz hb ⟨hm, hm'⟩⟩
      · obtain ⟨c', h1, h2, h3⟩ := pick_small ns rest j ns[j] c m hz hb ⟨k.c0, k.c1⟩ hm
        exact ⟨_, _, ⟨j + 1, 0, c', ⟨by omega, by omega, h1, h2⟩, rfl⟩, Int.emod_nonneg _ (by omega), Int.emod_lt_of_pos _ hm, h3⟩
    · obtain ⟨c', h1, h2, h3⟩ := pick_end ns rest a c m ha ⟨k.c0, k.c1⟩ hm
      exact ⟨_, _, ⟨a, 0, c', ⟨k.a0, by omega, h1, h2⟩, rfl⟩, Int.emod_nonneg _ (by omega), Int.emod_lt_of_pos _ hm, h3⟩
theorem draws (ns : List Int) (rest : Om) : ∃ ω', IsRow ns rest (ω' ++ rest) ∧ True := ⟨[some (.lst (rowD ns 0 0 7))], ⟨0, 0, 7, ⟨by decide, by decide, by decide, by decide⟩, rfl⟩, trivial⟩
theorem draws_run (ns : List Int) : F__law_draws [.val (.lst (ns.map D.int))] [] = .ok (.own 0) [some (.lst (rowD ns 0 0 7))] := by
  unfold F__law_draws
  rw [fnE_run (by rfl)]
  unfold f__law_draws rowD
  push_cast [retNewR_run (show 4 ≤ lim by decide)]
  rfl
theorem draws_row (ns : List Int) : IsRow ns [] [some (.lst (rowD ns 0 0 7))] := ⟨0, 0, 7, ⟨by decide, by decide, by decide, by decide⟩, rfl⟩
theorem row_take {ns : List Int} {rest ω ω' : Om} (h : IsRow ns rest ω) (h' : IsRow ns rest ω') : List.take (List.length ω) ω' = ω' := by
  obtain ⟨_, _, _, _, rfl⟩ := h
  obtain ⟨_, _, _, _, rfl⟩ := h'
  simp
theorem itR1_run {j : Int} (h : 0 ≤ j) (h' : j < 1000000) : itR1 (.int j) = some (rngD 0 j) := by
  unfold itR1
  exact if_pos (by show -4611686018427387904 ≤ j ∧ j < 4611686018427387904; constructor <;> omega)
theorem rngD_len (lo hi : Int) : (rngD lo hi).length = (hi - lo).toNat := by simp [rngD]
theorem rngD_get {lo hi : Int} {i : Nat} {d : D} (h : (rngD lo hi)[i]? = some d) : d = .int (lo + i) ∧ lo + i < hi := by
  unfold rngD at h
  rw [List.getElem?_map] at h
  by_cases hi' : i < (hi - lo).toNat
  · rw [List.getElem?_range hi'] at h
    cases h
    exact ⟨rfl, by omega⟩
  · rw [List.getElem?_eq_none (by simpa using hi')] at h
    cases h
structure Socks (s : List Int) : Prop where
  ne : s ≠ []
  asc : s.Pairwise (· < ·)
  rg : ∀ x ∈ s, 0 ≤ x ∧ x ≤ 300
/-- what a turn of _law_sockets keeps -/
structure SockInv (i : Nat) (s : List Int) (here : Int) : Prop where
  h0 : 0 ≤ here
  first : i = 0 → here ≤ 300
  ne : i ≠ 0 → s ≠ []
  asc : s.Pairwise (· < ·)
  rg : ∀ x ∈ s, 0 ≤ x ∧ x ≤ 300 ∧ x < here
  len : s.length ≤ i
theorem SockInv.add {i : Nat} {s : List Int} {here k : Int} (h : SockInv i s here) (hk : 0 < k) (hl : here ≤ 300) : SockInv (i + 1) (s ++ [here]) (here + k) := by
  refine ⟨by have := h.h0; omega, by omega, by simp, ?_, fun x hx => ?_, by simp; have := h.len; omega⟩
  · rw [List.pairwise_append]
    exact ⟨h.asc, by simp, fun a ha b hb => by simp at hb; subst hb; exact (h.rg a ha).2.2⟩
  · rcases List.mem_append.mp hx with hx | hx
    · have := h.rg x hx; omega
    · simp at hx; subst hx; have := h.h0; omega
theorem SockInv.skip {i : Nat} {s : List Int} {here k : Int} (h : SockInv i s here) (hk : 0 < k) (hl : ¬ here ≤ 300) : SockInv (i + 1) s (here + k) := by
  have hi : i ≠ 0 := fun z => hl (h.first z)
  exact ⟨by have := h.h0; omega, by omega, fun _ => h.ne hi, h.asc, fun x hx => by have := h.rg x hx; omega, by have := h.len; omega⟩
theorem atI_three {x y z : D} {r : Int} (h0 : 0 ≤ r) (h : r < 3) : ∃ d, atI [x, y, z] r = some d ∧ (d = x ∨ d = y ∨ d = z) := by
  have : r = 0 ∨ r = 1 ∨ r = 2 := by omega
  rcases this with rfl | rfl | rfl
  · exact ⟨x, rfl, .inl rfl⟩
  · exact ⟨y, rfl, .inr (.inl rfl)⟩
  · exact ⟨z, rfl, .inr (.inr rfl)⟩
theorem sockets {ns : List Int} {rest ω : Om} {most : Int} (h : IsRow ns rest ω) (hm : 0 < most) (hm' : most ≤ 1000) : ∃ socks ω', IsRow ns rest ω' ∧ Socks socks ∧ (socks.length : Int) ≤ most ∧
    F__law_sockets [.own 0, .val (.int most)] ω = .ok (.val (.tup (socks.map D.int))) ω' := by
  obtain ⟨r1, ω1, w1, a1, b1, e1⟩ := pick (m := 20) h (by decide) (by decide)
  obtain ⟨r2, ω2, w2, a2, b2, e2⟩ := pick (m := most) w1 hm (by omega)
  unfold F__law_sockets
  rw [fnE_run (by rfl)]
  unfold f__law_sockets
  push_cast [e1, e2, tupR_run (show 0 ≤ lim by decide), itR1_run (show 0 ≤ 1 + r2 by omega) (by omega)]
  generalize hb : sSeq _ _ = body
  obtain ⟨ρ', ω', e, hi, x2, socks, here, rfl, w, S⟩ := forL_all (tg := gN 2) (b := body) (ds := rngD 0 (1 + r2)) (ω := ω2) (ρ := [some (SV.own 0), some (SV.val (D.int most)), none, some (SV.val (D.tup [])), some (SV.val (D.int r1))])
    (fun i ρ ω => i ≤ (1 + r2).toNat ∧ ∃ x2 socks here, ρ = [some (SV.own 0), some (SV.val (D.int most)), x2, some (SV.val (D.tup (socks.map D.int))), some (SV.val (D.int here))] ∧ IsRow ns rest ω ∧ SockInv i socks here)
    ⟨by omega, none, [], r1, rfl, w2, ⟨a1, by omega, by omega, List.Pairwise.nil, by simp, by simp⟩⟩ (by
    rintro i d ρ ω' hd ⟨hi, x2, socks, here, rfl, w, S⟩
    obtain ⟨rfl, hlt⟩ := rngD_get hd
    obtain ⟨r3, ω3, w3, a3, b3, e3⟩ := pick (m := 40) w (by decide) (by decide)
    obtain ⟨r4, ω4, w4, a4, b4, e4⟩ := pick (m := 3) w3 (by decide) (by decide)
    obtain ⟨d, e5, hd5⟩ := atI_three (x := .int 30) (y := .int (1 + r3)) (z := .int 20) a4 b4
    obtain ⟨k, rfl, hk⟩ : ∃ k : Int, d = .int k ∧ 0 < k := by
      rcases hd5 with rfl | rfl | rfl
      · exact ⟨_, rfl, by decide⟩
      · exact ⟨_, rfl, by omega⟩
      · exact ⟨_, rfl, by decide⟩
    subst hb
    have hl : socks.length + 1 ≤ lim := by have := S.len; show _ ≤ 16777216; omega
    by_cases h3 : here ≤ 300
    · have h3' : decide (here ≤ 300) = true := decide_eq_true h3
      refine ⟨_, _, ω4, rfl, ?_, by omega, some (SV.val (D.int (0 + i))), socks ++ [here], here + k, rfl, w4, S.add hk h3⟩
      push_cast [h3', tupR_run (show 1 ≤ lim by decide), opAdd_tup (ds := socks.map D.int) (es := [D.int here]) (by simpa using hl), e3, e4, e5, lstR_run (show 3 ≤ lim by decide), List.map_append]
    · have h3' : decide (here ≤ 300) = false := decide_eq_false h3
      refine ⟨_, _, ω4, rfl, ?_, by omega, some (SV.val (D.int (0 + i))), socks, here + k, rfl, w4, S.skip hk h3⟩
      push_cast [h3', e3, e4, e5, lstR_run (show 3 ≤ lim by decide)])
  rw [rngD_len] at S
  refine ⟨socks, ω', w, ⟨S.ne (by omega), S.asc, fun x hx => by have := S.rg x hx; omega⟩, by have := S.len; omega, ?_⟩
  push_cast [e, row_take h w]
/-! ### plugs, places, plans as plain things -/
abbrev Plug := Int × Int × Bool
abbrev Place := Nat × Bool
abbrev Plan := List (Option Place)
def encP (p : Plug) : D := .tup [.int p.1, .int p.2.1, .bl p.2.2]
def encL (p : Place) : D := .tup [.int p.1, .bl p.2]
def encO : Option Place → D
  | none => .non
  | some p => encL p
structure PlugOk (p : Plug) : Prop where
  l0 : 0 ≤ p.1
  l1 : p.1 ≤ 60
  r0 : 0 ≤ p.2.1
  r1 : p.2.1 ≤ 60
def plugsD (ps : List Plug) : D := .tup (ps.map encP)
def planD (pl : Plan) : D := .tup (pl.map encO)
def socksD (s : List Int) : D := .tup (s.map D.int)
def stripD (s : List Int) : D := .obj "Strip" [("rows", socksD s)]
def canT (p : Plug) : Bool := p.2.2 && !(p.1 == p.2.1)
def sideL (p : Plug) (t : Bool) : Int := if t then p.2.1 else p.1
def sideR (p : Plug) (t : Bool) : Int := if t then p.1 else p.2.1
def bBeg (s : List Int) (p : Plug) (pl : Place) : Int := s.getD pl.1 0 - sideL p pl.2
def bEnd (s : List Int) (p : Plug) (pl : Place) : Int := s.getD pl.1 0 + sideR p pl.2
def apart (s : List Int) (p : Plug) (a : Place) (q : Plug) (b : Place) : Bool :=
  if a.1 < b.1 then decide (bEnd s p a ≤ bBeg s q b) else decide (bEnd s q b ≤ bBeg s p a)
theorem atI_map {α : Type} (f : α → D) {xs : List α} {i : Nat} {x : α} (h : xs[i]? = some x) : atI (xs.map f) (i : Int) = some (f x) := by
  rw [atI_get' (by omega)]; simp [h]
/-! drawn plugs -/
theorem eight (r : Int) (h0 : 0 ≤ r) (h : r < 8) : ∃ z : Int, atI [D.int 0, D.int 5, D.int 10, D.int 15, D.int 20, D.int 30, D.int 40, D.int 60] r = some (.int z) ∧ 0 ≤ z ∧ z ≤ 60 := by
  have : r = 0 ∨ r = 1 ∨ r = 2 ∨ r = 3 ∨ r = 4 ∨ r = 5 ∨ r = 6 ∨ r = 7 := by omega
  rcases this with rfl | rfl | rfl | rfl | rfl | rfl | rfl | rfl <;> exact ⟨_, rfl, by decide, by decide⟩
theorem plug {ns : List Int} {rest ω : Om} (h : IsRow ns rest ω) : ∃ p ω', IsRow ns rest ω' ∧ PlugOk p ∧ F__law_plug [.own 0] ω = .ok (.val (encP p)) ω' := by
  obtain ⟨r1, ω1, w1, a1, b1, e1⟩ := pick (m := 8) h (by decide) (by decide)
  obtain ⟨r2, ω2, w2, a2, b2, e2⟩ := pick (m := 41) w1 (by decide) (by decide)
  obtain ⟨r3, ω3, w3, a3, b3, e3⟩ := pick (m := 3) w2 (by decide) (by decide)
  obtain ⟨r4, ω4, w4, a4, b4, e4⟩ := pick (m := 2) w3 (by decide) (by decide)
  obtain ⟨z, ez, z0, z1⟩ := eight r1 a1 b1
  obtain ⟨d, ed, hd⟩ := atI_three (x := .int r2) (y := .int 15) (z := .int z) a3 b3
  obtain ⟨y, rfl, y0, y1⟩ : ∃ y : Int, d = .int y ∧ 0 ≤ y ∧ y ≤ 60 := by
    rcases hd with rfl | rfl | rfl
    · exact ⟨_, rfl, by omega, by omega⟩
    · exact ⟨_, rfl, by decide, by decide⟩
    · exact ⟨_, rfl, z0, z1⟩
  refine ⟨(z, y, r4 == 0), ω4, w4, ⟨z0, z1, y0, y1⟩, ?_⟩
  unfold F__law_plug
  rw [fnE_run (by rfl)]
  unfold f__law_plug
  push_cast [e1, e2, e3, e4, ez, ed, lstR_run (show 8 ≤ lim by decide), lstR_run (show 3 ≤ lim by decide), tupR_run (show 3 ≤ lim by decide), row_take h w4]
  rfl
/-- a comprehension whose element draws -/
theorem lcL_draw {tg : FG} {tt : FE Bool} {el : FE D} {ρ : Rho} (I : Om → Prop) (Q : D → Prop) : ∀ (ds acc : List D) (ω : Om), I ω → acc.length + ds.length ≤ lim →
    (∀ d ∈ ds, ∀ ω, I ω → ∃ ρ1 y ω', tg d ρ = some ρ1 ∧ tt ρ1 ω = .ok true ω ∧ el ρ1 ω = .ok y ω' ∧ I ω' ∧ Q y) → ∃ ys ω', lcL tg tt el ρ ds acc ω = .ok (.lst (acc ++ ys)) ω' ∧ I ω' ∧ ys.length = ds.length ∧ ∀ y ∈ ys, Q y
  | [], acc, ω, hI, _, _ => ⟨[], ω, by unfold lcL; simp, hI, rfl, by simp⟩
  | d :: ds, acc, ω, hI, hl, h => by
    obtain ⟨ρ1, y, ω1, h1, h2, h3, h4, h5⟩ := h d List.mem_cons_self ω hI
    rw [List.length_cons] at hl
    obtain ⟨ys, ω2, g1, g2, g3, g4⟩ := lcL_draw I Q ds (acc ++ [y]) ω1 h4 (by simp; omega) fun d' hd' => h d' (List.mem_cons_of_mem _ hd')
    refine ⟨y :: ys, ω2, ?_, g2, by simp [g3], fun z hz => ?_⟩
    · unfold lcL
      rw [h1]
      dsimp only
      rw [h2]
      dsimp only
      rw [h3]
      dsimp only
      rw [if_pos (by omega), g1]
      simp
    · rcases List.mem_cons.mp hz with rfl | hz
      · exact h5
      · exact g4 z hz
theorem enc_list {α : Type} (f : α → D) (P : α → Prop) : ∀ ys : List D, (∀ y ∈ ys, ∃ p, y = f p ∧ P p) → ∃ ps : List α, ys = ps.map f ∧ ∀ p ∈ ps, P p
  | [], _ => ⟨[], rfl, by simp⟩
  | y :: ys, h => by
    obtain ⟨p, rfl, hp⟩ := h y List.mem_cons_self
    obtain ⟨ps, rfl, hps⟩ := enc_list f P ys fun z hz => h z (List.mem_cons_of_mem _ hz)
    exact ⟨p :: ps, rfl, fun q hq => by
      rcases List.mem_cons.mp hq with rfl | hq
      · exact hp
      · exact hps q hq⟩
theorem plugs {ns : List Int} {rest ω : Om} {most : Int} (h : IsRow ns rest ω) (hm : 0 < most) (hm' : most ≤ 1000) : ∃ ps ω', IsRow ns rest ω' ∧ (∀ p ∈ ps, PlugOk p) ∧ ps ≠ [] ∧ (ps.length : Int) ≤ most ∧
    F__law_plugs [.own 0, .val (.int most)] ω = .ok (.val (plugsD ps)) ω' := by
  obtain ⟨r, ω1, w1, a1, b1, e1⟩ := pick (m := most) h hm (by omega)
  obtain ⟨ys, ω2, e2, w2, hl, hy⟩ := lcL_draw (tg := gN 2) (tt := eTrue) (el := eVal (eCallE F__law_plug (aCons (eSlot 0) aNil))) (ρ := [some (SV.own 0), some (SV.val (D.int most)), none]) (IsRow ns rest) (fun y => ∃ p, y = encP p ∧ PlugOk p)
    (rngD 0 (1 + r)) [] ω1 w1 (by rw [rngD_len]; simp only [List.length_nil]; show _ ≤ 16777216; omega) (fun d _ ω w => by
      obtain ⟨p, ω', w', hp, e⟩ := plug w
      refine ⟨_, encP p, ω', rfl, rfl, ?_, w', p, rfl, hp⟩
      push_cast [e])
  obtain ⟨ps, rfl, hps⟩ := enc_list encP PlugOk ys hy
  rw [List.length_map, rngD_len] at hl
  refine ⟨ps, ω2, w2, hps, fun z => ?_, by omega, ?_⟩
  · subst z; simp at hl; omega
  · unfold F__law_plugs
    rw [fnE_run (by rfl)]
    unfold f__law_plugs
    push_cast [e1, itR1_run (show 0 ≤ 1 + r by omega) (by omega), e2, row_take h w2]
    rfl
/-! ### the program's small defs -/
theorem can_turn_run (p : Plug) : F_can_turn [encP p] = some (.ok (.bl (canT p))) := by
  obtain ⟨l, r, t⟩ := p
  unfold F_can_turn
  rw [fnP_run (by rfl)]
  unfold f_can_turn encP canT
  cases t <;> push_cast [] <;> rfl
theorem law_can_run (p : Plug) : F__law_can [encP p] = some (.ok (.bl (canT p))) := by
  obtain ⟨l, r, t⟩ := p
  unfold F__law_can
  rw [fnP_run (by rfl)]
  unfold f__law_can encP canT
  cases t <;> push_cast [] <;> rfl
theorem is_from_run (v lo hi : Int) : F_is_from [.int v, .int lo, .int hi] = some (.ok (.bl (decide (lo ≤ v ∧ v ≤ hi)))) := by
  unfold F_is_from
  rw [fnP_run (by rfl)]
  unfold f_is_from
  by_cases h1 : lo ≤ v
  · by_cases h2 : v ≤ hi
    · push_cast [decide_eq_true h1, decide_eq_true h2, decide_eq_true (And.intro h1 h2)]
    · push_cast [decide_eq_true h1, decide_eq_false h2, decide_eq_false (fun z : lo ≤ v ∧ v ≤ hi => h2 z.2)]
  · push_cast [decide_eq_false h1, decide_eq_false (fun z : lo ≤ v ∧ v ≤ hi => h1 z.1)]
theorem sides_run (p : Plug) (t : Bool) : F_sides [encP p, .bl t] = some (.ok (.tup [.int (sideL p t), .int (sideR p t)])) := by
  obtain ⟨l, r, u⟩ := p
  unfold F_sides
  rw [fnP_run (by rfl)]
  unfold f_sides encP sideL sideR
  cases t
  · push_cast []
    rfl
  · push_cast [tupR_run (show 2 ≤ lim by decide)]
theorem body_run {s : List Int} {p : Plug} {pl : Place} (h : pl.1 < s.length) : F_body [stripD s, encP p, encL pl] = some (.ok (.tup [.int (bBeg s p pl), .int (bEnd s p pl)])) := by
  obtain ⟨k, t⟩ := pl
  have e : atI (s.map D.int) (k : Int) = some (.int (s.getD k 0)) := atI_map D.int (by simp [List.getD, List.getElem?_eq_getElem h])
  have e2 : fldD "Strip" "rows" (stripD s) = some (socksD s) := by simp [fldD, stripD]
  unfold F_body
  rw [fnP_run (by rfl)]
  unfold f_body encL bBeg bEnd
  push_cast [sides_run, gT_run (show ([D.int (sideL p t), D.int (sideR p t)]).length = 2 by rfl), e2, socksD, e, tupR_run (show 2 ≤ lim by decide)]
theorem apart_run {s : List Int} {p q : Plug} {a b : Place} (ha : a.1 < s.length) (hb : b.1 < s.length) : F_are_apart [stripD s, encP p, encL a, encP q, encL b] = some (.ok (.bl (apart s p a q b))) := by
  have e1 := body_run (p := p) ha
  have e2 := body_run (p := q) hb
  obtain ⟨i, t⟩ := a
  obtain ⟨j, u⟩ := b
  unfold F_are_apart
  rw [fnP_run (by rfl)]
  unfold f_are_apart apart
  unfold encL at *
  by_cases h : (i : Int) < j
  · have h' : i < j := by omega
    push_cast [e1, e2, decide_eq_true h, h']
  · have h' : ¬ i < j := by omega
    push_cast [e1, e2, decide_eq_false h, h']
/-! ### the checks that pass -/
theorem asBls_true : ∀ n, asBls (List.replicate n (D.bl true)) = some (List.replicate n true)
  | 0 => rfl
  | n + 1 => by rw [List.replicate_succ, asBls, asBls_true n]; rfl
theorem all_rep (n : Nat) : (List.replicate n true).all id = true := by simp
theorem oAllL_true (n : Nat) : oAllL (List.replicate n (D.bl true)) = some (.bl true) := by
  unfold oAllL
  rw [asBls_true]
  show some (D.bl ((List.replicate n true).all id)) = _
  rw [all_rep]
/-- a comprehension of tests that all hold -/
theorem lcL_true {tg : FG} {el : FE D} {ρ : Rho} {ω : Om} {ds : List D} (hl : ds.length ≤ lim) (h : ∀ d ∈ ds, ∃ ρ1, tg d ρ = some ρ1 ∧ el ρ1 ω = .ok (.bl true) ω) : lcL tg eTrue el ρ ds [] ω = .ok (.lst (List.replicate ds.length (D.bl true))) ω := by
  rw [lcL_pure (fun _ => some (D.bl true)) ds [] (by simpa using hl) (fun d hd => by
    obtain ⟨ρ1, h1, h2⟩ := h d hd
    exact ⟨ρ1, h1, rfl, h2⟩)]
  simp [List.filterMap_eq_map, List.map_const']
theorem is_plug_run {p : Plug} (h : PlugOk p) : F_is_plug [encP p] = some (.ok (.bl true)) := by
  obtain ⟨l, r, t⟩ := p
  have e1 : F_is_from [.int l, .int 0, .int 60] = some (.ok (.bl true)) := by rw [is_from_run, decide_eq_true ⟨h.l0, h.l1⟩]
  have e2 : F_is_from [.int r, .int 0, .int 60] = some (.ok (.bl true)) := by rw [is_from_run, decide_eq_true ⟨h.r0, h.r1⟩]
  have e3 : slD none (some 2) (.tup [.int l, .int r, .bl t]) = some (.tup [.int l, .int r]) := rfl
  have e4 : ((((0 + 1 + 1 + 1 : Nat) : Int)) == 3) = true := rfl
  have e5 : lcL (gN 1) eTrue (eCallP F_is_from (aCons (aVal (eVar 1)) (aCons (aVal (eC (.int 0))) (aCons (aVal (eC (.int 60))) aNil)))) [some (.val (.tup [.int l, .int r, .bl t])), none] [.int l, .int r] [] [] = .ok (.lst [.bl true, .bl true]) [] :=
    lcL_true (ds := [.int l, .int r]) (by show 2 ≤ lim; decide) (fun d hd => by
      refine ⟨_, rfl, ?_⟩
      simp only [List.mem_cons, List.not_mem_nil, or_false] at hd
      rcases hd with rfl | rfl
      · push_cast [e1]
      · push_cast [e2])
  have e6 : oAllL [.bl true, .bl true] = some (.bl true) := rfl
  unfold F_is_plug
  rw [fnP_run (by rfl)]
  unfold f_is_plug encP
  have e7 : ((3 : Nat) : Int) = 3 := rfl
  push_cast [e3, e4, e5, e6, e7, beq_self_eq_true]
theorem enum_get {ds : List D} {i : Nat} {d : D} (h : (enumD ds)[i]? = some d) : ∃ e, ds[i]? = some e ∧ d = .tup [.int i, e] := by
  unfold enumD at h
  rw [List.getElem?_mapIdx] at h
  cases q : ds[i]? with
  | none => rw [q] at h; cases h
  | some e => rw [q] at h; cases h; exact ⟨e, rfl, rfl⟩
theorem check_plugs_run {ps : List Plug} {most : Int} (h : ∀ p ∈ ps, PlugOk p) (hne : ps ≠ []) (hl : (ps.length : Int) ≤ most) : F_check_plugs [plugsD ps, .int most] = some (.ok .non) := by
  unfold F_check_plugs
  rw [fnP_run (by rfl)]
  unfold f_check_plugs plugsD
  have h1 : decide ((1 : Int) ≤ (ps.length : Int)) = true := by
    have : ps.length ≠ 0 := fun z => hne (List.eq_nil_of_length_eq_zero z)
    simp; omega
  push_cast [List.length_map, h1, decide_eq_true hl]
  obtain ⟨ρ', ω', e, x2, x3, rfl, rfl⟩ := forL_all (tg := gT 2 (gsCons (gN 2) (gsCons (gN 3) gsNil))) (b := sIf (eNotT (eTest (eCallP F_is_plug (aCons (aVal (eVar 3)) aNil)))) sNever sNext) (ds := enumD (ps.map encP)) (ω := []) (ρ := [some (.val (.tup (ps.map encP))), some (.val (.int most)), none, none])
    (fun _ ρ ω => ∃ x2 x3, ρ = [some (.val (.tup (ps.map encP))), some (.val (.int most)), x2, x3] ∧ ω = []) ⟨none, none, rfl, rfl⟩ (by
      rintro i d ρ ω hd ⟨x2, x3, rfl, rfl⟩
      obtain ⟨e, he, rfl⟩ := enum_get hd
      rw [List.getElem?_map] at he
      cases q : ps[i]? with
      | none => rw [q] at he; cases he
      | some p =>
        rw [q] at he; cases he
        refine ⟨_, _, [], rfl, ?_, some (.val (.int i)), some (.val (encP p)), rfl, rfl⟩
        push_cast [is_plug_run (h p (List.mem_of_getElem? q))])
  push_cast [e]
theorem fld_rows (s : List Int) : fldD "Strip" "rows" (stripD s) = some (socksD s) := by simp [fldD, stripD]
theorem is_place_run {s : List Int} {pl : Place} (h : pl.1 < s.length) : F_is_place [stripD s, encL pl] = some (.ok (.bl true)) := by
  obtain ⟨k, t⟩ := pl
  have e1 : F_is_from [.int k, .int 0, .int ((s.length : Int) - 1)] = some (.ok (.bl true)) := by rw [is_from_run, decide_eq_true ⟨by omega, by omega⟩]
  have e7 : ((2 : Nat) : Int) = 2 := rfl
  unfold F_is_place
  rw [fnP_run (by rfl)]
  unfold f_is_place encL
  push_cast [fld_rows, socksD, List.length_map, e1, e7, beq_self_eq_true]
def PlanOk (n : Nat) (plan : Plan) : Prop := ∀ pl, some pl ∈ plan → pl.1 < n
theorem check_plan_run {s : List Int} {ps : List Plug} {plan : Plan} (h : ∀ p ∈ ps, PlugOk p) (hne : ps ≠ []) (hl : (ps.length : Int) ≤ 5) (hlen : plan.length = ps.length) (hp : PlanOk s.length plan) : F_check_plan [stripD s, plugsD ps, planD plan] = some (.ok .non) := by
  unfold F_check_plan
  rw [fnP_run (by rfl)]
  unfold f_check_plan
  have e5 : lcL (gN 3) eTrue (eOr (eBin opIsN (eVar 3) (eC .non)) (eCallP F_is_place (aCons (aVal (eVar 0)) (aCons (aVal (eVar 3)) aNil)))) [some (.val (stripD s)), some (.val (plugsD ps)), some (.val (planD plan)), none] (plan.map encO) [] [] = .ok (.lst (List.replicate (plan.map encO).length (.bl true))) [] :=
    lcL_true (by rw [List.length_map, hlen]; show _ ≤ 16777216; omega) (fun d hd => by
      refine ⟨_, rfl, ?_⟩
      obtain ⟨o, ho, rfl⟩ := List.mem_map.mp hd
      cases o with
      | none => push_cast [encO]
      | some pl =>
        have e := is_place_run (s := s) (pl := pl) (hp pl ho)
        have e' : isNon (encL pl) = false := rfl
        push_cast [encO, e, e'])
  have e6 : oLen [planD plan] = some (.int ps.length) := by unfold planD; rw [oLen_tup, List.length_map, hlen]
  have e7 : oLen [plugsD ps] = some (.int ps.length) := by unfold plugsD; rw [oLen_tup, List.length_map]
  have e8 : isiD "tuple" (planD plan) = some (.bl true) := isi_tuple_tup _
  have e9 : itSeq (planD plan) = some (plan.map encO) := rfl
  push_cast [check_plugs_run h hne hl, e5, e6, e7, e8, e9, oAllL_true, beq_self_eq_true]
/-! Strip(..) -/
theorem zip_tail : ∀ (s : List Int), s.Pairwise (· < ·) → ∀ d ∈ zipD (s.map D.int) ((s.map D.int).drop 1), ∃ a b : Int, d = .tup [.int a, .int b] ∧ a < b
  | [], _, d, hd => by simp [zipD] at hd
  | [x], _, d, hd => by simp [zipD] at hd
  | x :: y :: s, h, d, hd => by
    rw [List.pairwise_cons] at h
    have : zipD ((x :: y :: s).map D.int) (((x :: y :: s).map D.int).drop 1) = pairD (.int x) (.int y) :: zipD ((y :: s).map D.int) (((y :: s).map D.int).drop 1) := rfl
    rw [this] at hd
    rcases List.mem_cons.mp hd with rfl | hd
    · exact ⟨x, y, rfl, h.1 y (by simp)⟩
    · exact zip_tail (y :: s) h.2 d hd
theorem cut1 (ds : List D) : slD (some 1) none (.tup ds) = some (.tup (ds.drop 1)) := by
  show some (D.tup (cutD ds (some 1) none)) = some (D.tup (ds.drop 1))
  congr 2
  unfold cutD
  have : HT.sIx ds.length 0 (some 1) = min 1 ds.length := HT.sIx_nat _ _ 1
  rw [this, HT.sIx_none]
  cases ds with
  | nil => rfl
  | cons x xs =>
    have : min 1 (x :: xs).length = 1 := by simp
    rw [this]
    simp
theorem strip_init {s : List Int} (h : Socks s) (hl : s.length ≤ 9) : F_Strip_d__init_d_ [.own 0, .val (socksD s)] [some (.ins "Strip" [])] = .ok (.val .non) [some (.ins "Strip" [("rows", socksD s)])] := by
  have h1 : decide ((1 : Int) ≤ (s.length : Int)) = true := by
    have : s.length ≠ 0 := fun z => h.ne (List.eq_nil_of_length_eq_zero z)
    simp; omega
  have h2 : decide ((s.length : Int) ≤ 9) = true := by simp; omega
  have e5 : lcL (gN 2) eTrue (eCallP F_is_from (aCons (aVal (eVar 2)) (aCons (aVal (eC (.int 0))) (aCons (aVal (eC (.int 300))) aNil)))) [some (.own 0), some (.val (socksD s)), none, none] (s.map D.int) [] [some (.ins "Strip" [])] = .ok (.lst (List.replicate (s.map D.int).length (.bl true))) [some (.ins "Strip" [])] :=
    lcL_true (by rw [List.length_map]; show _ ≤ 16777216; omega) (fun d hd => by
      refine ⟨_, rfl, ?_⟩
      obtain ⟨x, hx, rfl⟩ := List.mem_map.mp hd
      have e : F_is_from [.int x, .int 0, .int 300] = some (.ok (.bl true)) := by rw [is_from_run, decide_eq_true (h.rg x hx)]
      push_cast [e])
  have e6 : lcL (gT 2 (gsCons (gN 2) (gsCons (gN 3) gsNil))) eTrue (eBin opLt (eVar 2) (eVar 3)) [some (.own 0), some (.val (socksD s)), none, none] (zipD (s.map D.int) ((s.map D.int).drop 1)) [] [some (.ins "Strip" [])] = .ok (.lst (List.replicate (zipD (s.map D.int) ((s.map D.int).drop 1)).length (.bl true))) [some (.ins "Strip" [])] :=
    lcL_true (by unfold zipD; rw [List.length_zipWith, List.length_map]; show _ ≤ 16777216; omega) (fun d hd => by
      obtain ⟨a, b, rfl, hab⟩ := zip_tail s h.asc d hd
      refine ⟨_, rfl, ?_⟩
      push_cast [decide_eq_true hab])
  unfold F_Strip_d__init_d_
  rw [fnE_run (by rfl)]
  unfold f_Strip_d__init_d_
  have e7 : oLen [socksD s] = some (.int s.length) := by unfold socksD; rw [oLen_tup, List.length_map]
  have e8 : isiD "tuple" (socksD s) = some (.bl true) := isi_tuple_tup _
  have e9 : itSeq (socksD s) = some (s.map D.int) := rfl
  have e10 : slD (some 1) none (socksD s) = some (.tup ((s.map D.int).drop 1)) := cut1 _
  have e11 : ∀ x, itZ (socksD s) (.tup x) = some (zipD (s.map D.int) x) := fun x => rfl
  push_cast [h1, h2, e5, e6, e7, e8, e9, e10, e11, oAllL_true]
  rfl
/-! ### the plugs that stand, pairs of them -/
def hereF : Nat → Plan → List Nat
  | _, [] => []
  | k, none :: r => hereF (k + 1) r
  | k, some _ :: r => k :: hereF (k + 1) r
def here (plan : Plan) : List Nat := hereF 0 plan
theorem mem_hereF : ∀ {plan : Plan} {k i : Nat}, i ∈ hereF k plan → ∃ j pl, i = k + j ∧ plan[j]? = some (some pl)
  | [], k, i, h => by simp [hereF] at h
  | none :: r, k, i, h => by
    obtain ⟨j, pl, rfl, e⟩ := mem_hereF (plan := r) (k := k + 1) h
    exact ⟨j + 1, pl, by omega, by simpa using e⟩
  | some q :: r, k, i, h => by
    rcases List.mem_cons.mp (show i ∈ k :: hereF (k + 1) r from h) with rfl | h
    · exact ⟨0, q, by omega, rfl⟩
    · obtain ⟨j, pl, rfl, e⟩ := mem_hereF (plan := r) (k := k + 1) h
      exact ⟨j + 1, pl, by omega, by simpa using e⟩
theorem mem_here {plan : Plan} {i : Nat} (h : i ∈ here plan) : ∃ pl, plan[i]? = some (some pl) := by
  obtain ⟨j, pl, rfl, e⟩ := mem_hereF h
  exact ⟨pl, by simpa using e⟩
theorem hereF_len : ∀ (plan : Plan) (k : Nat), (hereF k plan).length ≤ plan.length
  | [], k => by simp [hereF]
  | none :: r, k => by have := hereF_len r (k + 1); show (hereF (k + 1) r).length ≤ r.length + 1; omega
  | some _ :: r, k => by have := hereF_len r (k + 1); show (k :: hereF (k + 1) r).length ≤ r.length + 1; simp; omega
def nD (i : Nat) : D := .int (i : Int)
def hereD (plan : Plan) : List D := (here plan).map nD
def gEn : D → Option D
  | .tup [.int i, o] => if isNon o then none else some (.int i)
  | _ => none
theorem here_enum : ∀ (plan : Plan) (k : Nat), ((plan.map encO).mapIdx fun i d => pairI (i + k) d).filterMap gEn = (hereF k plan).map nD
  | [], k => rfl
  | none :: r, k => by
    rw [List.map_cons, List.mapIdx_cons, List.filterMap_cons]
    have e : gEn (pairI (0 + k) (encO none)) = none := rfl
    rw [e]
    have ih := here_enum r (k + 1)
    have : (fun (i : Nat) (d : D) => pairI (i + 1 + k) d) = fun i d => pairI (i + (k + 1)) d := by funext i d; congr 1; omega
    rw [this]
    exact ih
  | some q :: r, k => by
    rw [List.map_cons, List.mapIdx_cons, List.filterMap_cons]
    have e : gEn (pairI (0 + k) (encO (some q))) = some (nD k) := by rw [Nat.zero_add]; rfl
    rw [e]
    have ih := here_enum r (k + 1)
    have : (fun (i : Nat) (d : D) => pairI (i + 1 + k) d) = fun i d => pairI (i + (k + 1)) d := by funext i d; congr 1; omega
    rw [this]
    show nD k :: _ = nD k :: _
    rw [ih]
theorem here_en (plan : Plan) : (enumD (plan.map encO)).filterMap gEn = hereD plan := by
  have := here_enum plan 0
  exact this
def isSt (o : Option (Option Place)) (d : D) : Option D := match o with
  | some (some _) => some d
  | _ => none
theorem here_range : ∀ (plan : Plan) (k : Nat), (List.range plan.length).filterMap (fun i => isSt plan[i]? (nD (k + i))) = (hereF k plan).map nD
  | [], k => rfl
  | o :: r, k => by
    rw [List.length_cons, List.range_succ_eq_map, List.filterMap_cons, List.filterMap_map]
    have ih := here_range r (k + 1)
    have e : (fun i => isSt (o :: r)[i]? (nD (k + i))) ∘ Nat.succ = fun i => isSt r[i]? (nD (k + 1 + i)) := by
      funext i
      simp only [Function.comp, Nat.succ_eq_add_one, List.getElem?_cons_succ]
      have : k + (i + 1) = k + 1 + i := by omega
      rw [this]
    rw [e, ih]
    cases o with
    | none => rfl
    | some q => rfl
def pairsN (plan : Plan) : List (Nat × Nat) := (here plan).flatMap fun a => (here plan).filterMap fun b => if a < b then some (a, b) else none
def pD (p : Nat × Nat) : D := .tup [nD p.1, nD p.2]
theorem mem_pairs {plan : Plan} {p : Nat × Nat} (h : p ∈ pairsN plan) : (∃ x, plan[p.1]? = some (some x)) ∧ (∃ y, plan[p.2]? = some (some y)) ∧ p.1 < p.2 := by
  unfold pairsN at h
  rw [List.mem_flatMap] at h
  obtain ⟨a, ha, h⟩ := h
  rw [List.mem_filterMap] at h
  obtain ⟨b, hb, h⟩ := h
  split at h
  · rename_i hab
    cases h
    exact ⟨mem_here ha, mem_here hb, hab⟩
  · cases h
theorem lt_nD {a b : Nat} : decide ((a : Int) < (b : Int)) = decide (a < b) := by
  by_cases h : a < b
  · rw [decide_eq_true h, decide_eq_true (by omega)]
  · rw [decide_eq_false h, decide_eq_false (by omega)]
theorem sum_const {α : Type} (c : Nat) : ∀ l : List α, (l.map fun _ => c).sum = l.length * c
  | [] => by simp
  | x :: l => by rw [List.map_cons, List.sum_cons, sum_const c l, List.length_cons, Nat.succ_mul]; omega
theorem pairs_run {plan : Plan} (hl : plan.length ≤ 100) : F_pairs_of [planD plan] = some (.ok (.lst ((pairsN plan).map pD))) := by
  have hh : (here plan).length ≤ 100 := Nat.le_trans (hereF_len plan 0) hl
  have e1 : lcL (gT 2 (gsCons (gN 2) (gsCons (gN 3) gsNil))) (eTest (eBin opNotN (eVar 3) (eC .non))) (eVar 2) [some (.val (planD plan)), none, none, none, none, none] (enumD (plan.map encO)) [] [] = .ok (.lst (hereD plan)) [] := by
    rw [lcL_pure gEn _ [] (by simp only [List.length_nil, enumD, List.length_mapIdx, List.length_map]; show _ ≤ 16777216; omega), here_en]
    · rfl
    intro d hd
    obtain ⟨i, hi⟩ := List.mem_iff_getElem?.mp hd
    obtain ⟨e, he, rfl⟩ := enum_get hi
    refine ⟨_, rfl, ?_⟩
    rw [List.getElem?_map] at he
    cases q : plan[i]? with
    | none => rw [q] at he; cases he
    | some o =>
      rw [q] at he; cases he
      cases o with
      | none => show _ = _; push_cast [encO]
      | some pl => exact ⟨by push_cast [encO, encL], by push_cast [encO, encL]⟩
  have e2 : lc2L (gN 4) eTrue (eIt1 itSeq (eVar 1)) (gN 5) (eTest (eBin opLt (eVar 4) (eVar 5))) (eTup (aCons (aVal (eVar 4)) (aCons (aVal (eVar 5)) aNil))) [5] [some (.val (planD plan)), some (.val (.lst (hereD plan))), none, none, none, none] (hereD plan) [] [] = .ok (.lst ((pairsN plan).map pD)) [] := by
    rw [lc2_pure (fun _ => hereD plan) (fun d e => match d, e with
      | .int a, .int b => if a < b then some (.tup [.int a, .int b]) else none
      | _, _ => none) _ []]
    · have : (hereD plan).flatMap (fun d => (hereD plan).filterMap fun e => match d, e with
          | .int a, .int b => if a < b then some (D.tup [.int a, .int b]) else none
          | _, _ => none) = (pairsN plan).map pD := by
        unfold pairsN hereD
        rw [List.flatMap_map, List.map_flatMap]
        congr 1
        funext a
        rw [List.filterMap_map, List.map_filterMap]
        congr 1
        funext b
        simp only [Function.comp, nD]
        by_cases h : a < b
        · rw [if_pos (show (a : Int) < b by omega), if_pos h]; rfl
        · rw [if_neg (show ¬ (a : Int) < b by omega), if_neg h]; rfl
      rw [this]; rfl
    · intro pre hp
      have : ((hereD plan).map fun _ => (hereD plan).length).sum = (here plan).length * (here plan).length := by
        rw [sum_const]; simp [hereD]
      rw [this] at hp
      have h2 : (here plan).length * (here plan).length ≤ 100 * 100 := Nat.mul_le_mul hh hh
      simp only [List.length_nil]
      show _ ≤ 16777216
      omega
    · intro d hd
      obtain ⟨a, ha, rfl⟩ := List.mem_map.mp hd
      refine ⟨_, rfl, rfl, by push_cast [], fun e he => ?_⟩
      obtain ⟨b, hb, rfl⟩ := List.mem_map.mp he
      refine ⟨_, rfl, ?_⟩
      simp only [nD]
      by_cases h : (a : Int) < b
      · rw [if_pos h]
        exact ⟨by push_cast [decide_eq_true h], by push_cast [tupR_run (show 2 ≤ lim by decide)]⟩
      · rw [if_neg h]
        show _ = _
        push_cast [decide_eq_false h]
  unfold F_pairs_of
  rw [fnP_run (by rfl)]
  unfold f_pairs_of
  have e3 : itEn (planD plan) = some (enumD (plan.map encO)) := rfl
  push_cast [e3, e1, e2]
/-! ### faults -/
def turnG (ps : List Plug) (plan : Plan) (i : Nat) : Option D := match plan[i]?, ps[i]? with
  | some (some pl), some p => if pl.2 && !canT p then some (.tup [.str "turn", nD i]) else none
  | _, _ => none
def sockG (plan : Plan) (p : Nat × Nat) : Option D := match plan[p.1]?, plan[p.2]? with
  | some (some x), some (some y) => if x.1 = y.1 then some (.tup [.str "socket", nD p.1, nD p.2]) else none
  | _, _ => none
def overG (s : List Int) (ps : List Plug) (plan : Plan) (p : Nat × Nat) : Option D := match plan[p.1]?, plan[p.2]?, ps[p.1]?, ps[p.2]? with
  | some (some x), some (some y), some a, some b => if apart s a x b y then none else some (.tup [.str "overlap", nD p.1, nD p.2])
  | _, _, _, _ => none
def orD (o : Option D) (d : D) : D := o.getD d
def fault (s : List Int) (ps : List Plug) (plan : Plan) : D :=
  orD ((here plan).findSome? (turnG ps plan)) (orD ((pairsN plan).findSome? (sockG plan)) (orD ((pairsN plan).findSome? (overG s ps plan)) .non))
theorem turn_enum {g1 : D → Option D} {g2 : Nat → Option D} : ∀ (plan : Plan) (k : Nat), (∀ j pl, plan[j]? = some (some pl) → g1 (pairI (k + j) (encO (some pl))) = g2 (k + j)) → (∀ i, g1 (pairI i .non) = none) →
    ((plan.map encO).mapIdx fun i d => pairI (i + k) d).findSome? g1 = (hereF k plan).findSome? g2
  | [], k, _, _ => rfl
  | o :: r, k, h1, h2 => by
    rw [List.map_cons, List.mapIdx_cons, List.findSome?_cons]
    have ih := turn_enum (g1 := g1) (g2 := g2) r (k + 1) (fun j pl e => by
      have := h1 (j + 1) pl (by simpa using e)
      rw [show k + (j + 1) = k + 1 + j by omega] at this
      exact this) h2
    have : (fun (i : Nat) (d : D) => pairI (i + 1 + k) d) = fun i d => pairI (i + (k + 1)) d := by funext i d; congr 1; omega
    rw [this, ih]
    cases o with
    | none =>
      have e : g1 (pairI (0 + k) (encO none)) = none := h2 _
      rw [e]; rfl
    | some q =>
      have e := h1 0 q rfl
      rw [Nat.zero_add]
      rw [Nat.add_zero] at e
      rw [e]
      show _ = List.findSome? g2 (k :: hereF (k + 1) r)
      rw [List.findSome?_cons]
/-- the seeking loop over enumerate(plan) -/
def gTurn (ps : List Plug) : D → Option D
  | .tup [.int i, .tup [.int _, .bl t]] => if t && !(match ps[i.toNat]? with | some p => canT p | none => true) then some (.tup [.str "turn", .int i]) else none
  | _ => none
theorem getP {ps : List Plug} {i : Nat} {p : Plug} (h : ps[i]? = some p) : atI (ps.map encP) (i : Int) = some (encP p) := atI_map encP h
theorem getO {plan : Plan} {i : Nat} {o : Option Place} (h : plan[i]? = some o) : atI (plan.map encO) (i : Int) = some (encO o) := atI_map encO h
theorem eq_sock (a b : Nat) : ((a : Int) == (b : Int)) = decide (a = b) := by
  by_cases h : a = b
  · subst h; simp
  · rw [decide_eq_false h, beq_eq_false_iff_ne]; omega
theorem fault_run {s : List Int} {ps : List Plug} {plan : Plan} (hlen : plan.length = ps.length) (hp : PlanOk s.length plan) (hl : plan.length ≤ 100) : F_fault_of [stripD s, plugsD ps, planD plan] = some (.ok (fault s ps plan)) := by
  have getp : ∀ {i : Nat} {o : Option Place}, plan[i]? = some o → ∃ p, ps[i]? = some p := fun {i o} h => by
    have := (List.getElem?_eq_some_iff.mp h).1
    exact ⟨ps[i]'(by omega), List.getElem?_eq_getElem (by omega)⟩
  unfold F_fault_of
  rw [fnP_run (by rfl)]
  unfold f_fault_of
  have e3 : itEn (planD plan) = some (enumD (plan.map encO)) := rfl
  push_cast [e3]
  -- the first loop
  have L1 := forL_find (ρ := []) (tg := gT 2 (gsCons (gN 3) (gsCons (gN 4) gsNil))) (b := sIf (eAndT (eTest (eBin opNotN (eVar 4) (eC .non))) (eAndT (eTest (eIx (eVar 4) (eC (.int 1)))) (eNotT (eTest (eCallP F_can_turn (aCons (aVal (eIx (eVar 1) (eVar 3))) aNil)))))) (sRet (eTup (aCons (aVal (eC (.str "turn"))) (aCons (aVal (eVar 3)) aNil)))) sNext) (ω := [])
    (fun ρ => ∃ x3 x4, ρ = [some (.val (stripD s)), some (.val (plugsD ps)), some (.val (planD plan)), x3, x4, none, none]) (gTurn ps) (enumD (plan.map encO)) [some (.val (stripD s)), some (.val (plugsD ps)), some (.val (planD plan)), none, none, none, none] ⟨none, none, rfl⟩ (by
      rintro d hd ρ ⟨x3, x4, rfl⟩
      obtain ⟨i, hi⟩ := List.mem_iff_getElem?.mp hd
      obtain ⟨e, he, rfl⟩ := enum_get hi
      rw [List.getElem?_map] at he
      cases q : plan[i]? with
      | none => rw [q] at he; cases he
      | some o =>
        rw [q] at he; cases he
        obtain ⟨p, hp'⟩ := getp q
        refine ⟨_, rfl, ?_⟩
        cases o with
        | none =>
          refine ⟨[some (.val (stripD s)), some (.val (plugsD ps)), some (.val (planD plan)), some (.val (.int i)), some (.val .non), none, none], ?_, _, _, rfl⟩
          push_cast [encO]
        | some pl =>
          obtain ⟨k, t⟩ := pl
          have eg : gTurn ps (.tup [.int i, encO (some (k, t))]) = if t && !canT p then some (.tup [.str "turn", .int i]) else none := by
            show (if t && !(match ps[((i : Nat) : Int).toNat]? with | some p => canT p | none => true) then some (D.tup [.str "turn", .int (i : Int)]) else none) = _
            rw [Int.toNat_natCast, hp']
          rw [eg]
          have ep : opIx (plugsD ps) (.int i) = some (encP p) := by unfold plugsD; rw [opIx_tup]; exact getP hp'
          cases t with
          | false =>
            refine ⟨[some (.val (stripD s)), some (.val (plugsD ps)), some (.val (planD plan)), some (.val (.int i)), some (.val (encL (k, false))), none, none], ?_, _, _, rfl⟩
            push_cast [encO, encL]
          | true =>
            cases hc : canT p with
            | true =>
              refine ⟨[some (.val (stripD s)), some (.val (plugsD ps)), some (.val (planD plan)), some (.val (.int i)), some (.val (encL (k, true))), none, none], ?_, _, _, rfl⟩
              push_cast [encO, encL, ep, can_turn_run, hc]
            | false =>
              show _ = _
              push_cast [encO, encL, ep, can_turn_run, hc, tupR_run (show 2 ≤ lim by decide)])
  have E1 : (enumD (plan.map encO)).findSome? (gTurn ps) = (here plan).findSome? (turnG ps plan) := by
    refine turn_enum (g1 := gTurn ps) (g2 := turnG ps plan) plan 0 (fun j pl e => ?_) (fun i => rfl)
    obtain ⟨p, hp'⟩ := getp e
    obtain ⟨k, t⟩ := pl
    unfold turnG
    rw [Nat.zero_add, e, hp']
    show (if t && !(match ps[((j : Nat) : Int).toNat]? with | some p => canT p | none => true) then some (D.tup [.str "turn", .int (j : Int)]) else none) = _
    rw [Int.toNat_natCast, hp']
    rfl
  rw [E1] at L1
  unfold fault
  cases f1 : (here plan).findSome? (turnG ps plan) with
  | some d =>
    rw [f1] at L1
    dsimp only at L1
    push_cast [L1]
    rfl
  | none =>
    rw [f1] at L1
    obtain ⟨ρ1, L1, x3, x4, rfl⟩ := L1
    push_cast [L1, pairs_run hl]
    -- the second loop
    have L2' := forL_find (ρ := []) (tg := gT 2 (gsCons (gN 5) (gsCons (gN 6) gsNil))) (b := sIf (eTest (eBin opEq (eIx (eIx (eVar 2) (eVar 5)) (eC (.int 0))) (eIx (eIx (eVar 2) (eVar 6)) (eC (.int 0))))) (sRet (eTup (aCons (aVal (eC (.str "socket"))) (aCons (aVal (eVar 5)) (aCons (aVal (eVar 6)) aNil))))) sNext) (ω := [])
      (fun ρ => ∃ x5 x6, ρ = [some (.val (stripD s)), some (.val (plugsD ps)), some (.val (planD plan)), x3, x4, x5, x6]) (fun d => match d with
        | .tup [.int a, .int b] => sockG plan (a.toNat, b.toNat)
        | _ => none) ((pairsN plan).map pD) [some (.val (stripD s)), some (.val (plugsD ps)), some (.val (planD plan)), x3, x4, none, none] ⟨none, none, rfl⟩ (by
        rintro d hd ρ ⟨x5, x6, rfl⟩
        obtain ⟨⟨a, b⟩, hab, rfl⟩ := List.mem_map.mp hd
        obtain ⟨⟨x, hx⟩, ⟨y, hy⟩, _⟩ := mem_pairs hab
        refine ⟨_, rfl, ?_⟩
        have ea : opIx (planD plan) (.int a) = some (encL x) := by unfold planD; rw [opIx_tup]; exact getO hx
        have eb : opIx (planD plan) (.int b) = some (encL y) := by unfold planD; rw [opIx_tup]; exact getO hy
        have eg : sockG plan (((a : Nat) : Int).toNat, ((b : Nat) : Int).toNat) = if x.1 = y.1 then some (.tup [.str "socket", nD a, nD b]) else none := by
          unfold sockG; simp only [Int.toNat_natCast]; rw [hx, hy]
        simp only [pD, nD, eg]
        by_cases h : x.1 = y.1
        · rw [if_pos h]
          show _ = _
          push_cast [ea, eb, encL, eq_sock, decide_eq_true h, tupR_run (show 3 ≤ lim by decide)]
        · rw [if_neg h]
          refine ⟨[some (.val (stripD s)), some (.val (plugsD ps)), some (.val (planD plan)), x3, x4, some (.val (.int a)), some (.val (.int b))], ?_, _, _, rfl⟩
          push_cast [ea, eb, encL, eq_sock, decide_eq_false h])
    have fm : ∀ (g : Nat × Nat → Option D), ((pairsN plan).map pD).findSome? (fun d => match d with
        | .tup [.int a, .int b] => g (a.toNat, b.toNat)
        | _ => none) = (pairsN plan).findSome? g := fun g => by
      rw [List.findSome?_map]
      congr 1
    rw [fm] at L2'
    cases f2 : (pairsN plan).findSome? (sockG plan) with
    | some d =>
      rw [f2] at L2'
      dsimp only at L2'
      have e := L2'
      push_cast [e]
      rfl
    | none =>
      rw [f2] at L2'
      obtain ⟨ρ2, e, x5, x6, rfl⟩ := L2'
      push_cast [e, pairs_run hl]
      have L3 := forL_find (ρ := []) (tg := gT 2 (gsCons (gN 5) (gsCons (gN 6) gsNil))) (b := sIf (eNotT (eTest (eCallP F_are_apart (aCons (aVal (eVar 0)) (aCons (aVal (eIx (eVar 1) (eVar 5))) (aCons (aVal (eIx (eVar 2) (eVar 5))) (aCons (aVal (eIx (eVar 1) (eVar 6))) (aCons (aVal (eIx (eVar 2) (eVar 6))) aNil)))))))) (sRet (eTup (aCons (aVal (eC (.str "overlap"))) (aCons (aVal (eVar 5)) (aCons (aVal (eVar 6)) aNil))))) sNext) (ω := [])
        (fun ρ => ∃ x5 x6, ρ = [some (.val (stripD s)), some (.val (plugsD ps)), some (.val (planD plan)), x3, x4, x5, x6]) (fun d => match d with
          | .tup [.int a, .int b] => overG s ps plan (a.toNat, b.toNat)
          | _ => none) ((pairsN plan).map pD) [some (.val (stripD s)), some (.val (plugsD ps)), some (.val (planD plan)), x3, x4, x5, x6] ⟨x5, x6, rfl⟩ (by
          rintro d hd ρ ⟨x5, x6, rfl⟩
          obtain ⟨⟨a, b⟩, hab, rfl⟩ := List.mem_map.mp hd
          obtain ⟨⟨x, hx⟩, ⟨y, hy⟩, _⟩ := mem_pairs hab
          obtain ⟨p, hpa⟩ := getp hx
          obtain ⟨q, hqb⟩ := getp hy
          refine ⟨_, rfl, ?_⟩
          have ea : opIx (planD plan) (.int a) = some (encL x) := by unfold planD; rw [opIx_tup]; exact getO hx
          have eb : opIx (planD plan) (.int b) = some (encL y) := by unfold planD; rw [opIx_tup]; exact getO hy
          have ep : opIx (plugsD ps) (.int a) = some (encP p) := by unfold plugsD; rw [opIx_tup]; exact getP hpa
          have eq : opIx (plugsD ps) (.int b) = some (encP q) := by unfold plugsD; rw [opIx_tup]; exact getP hqb
          have eg : overG s ps plan (((a : Nat) : Int).toNat, ((b : Nat) : Int).toNat) = if apart s p x q y then none else some (.tup [.str "overlap", nD a, nD b]) := by
            unfold overG; simp only [Int.toNat_natCast]; rw [hx, hy, hpa, hqb]
          have er := apart_run (s := s) (p := p) (q := q) (a := x) (b := y) (hp x (List.mem_of_getElem? hx)) (hp y (List.mem_of_getElem? hy))
          simp only [pD, nD, eg]
          cases h : apart s p x q y with
          | false =>
            show _ = _
            push_cast [ea, eb, ep, eq, er, h, tupR_run (show 3 ≤ lim by decide)]
          | true =>
            refine ⟨[some (.val (stripD s)), some (.val (plugsD ps)), some (.val (planD plan)), x3, x4, some (.val (.int a)), some (.val (.int b))], ?_, _, _, rfl⟩
            push_cast [ea, eb, ep, eq, er, h])
      rw [fm] at L3
      cases f3 : (pairsN plan).findSome? (overG s ps plan) with
      | some d =>
        rw [f3] at L3
        dsimp only at L3
        have e := L3
        push_cast [e]
        rfl
      | none =>
        rw [f3] at L3
        obtain ⟨ρ3, e, y5, y6, rfl⟩ := L3
        push_cast [e]
        rfl
theorem judge_run {s : List Int} {ps : List Plug} {plan : Plan} (h : ∀ p ∈ ps, PlugOk p) (hne : ps ≠ []) (hl : (ps.length : Int) ≤ 5) (hlen : plan.length = ps.length) (hp : PlanOk s.length plan) : F_judge [stripD s, plugsD ps, planD plan] = some (.ok (fault s ps plan)) := by
  unfold F_judge
  rw [fnP_run (by rfl)]
  unfold f_judge
  push_cast [check_plan_run h hne hl hlen hp, fault_run hlen hp (show plan.length ≤ 100 by omega)]
/-! ### the law's own fault -/
theorem law_body_run {s : List Int} {p : Plug} {pl : Place} (h : pl.1 < s.length) : F__law_body [socksD s, encP p, encL pl] = some (.ok (.lst [.int (bBeg s p pl), .int (bEnd s p pl)])) := by
  obtain ⟨k, t⟩ := pl
  obtain ⟨l, r, u⟩ := p
  have e : atI (s.map D.int) (k : Int) = some (.int (s.getD k 0)) := atI_map D.int (by simp [List.getD, List.getElem?_eq_getElem h])
  unfold F__law_body
  rw [fnP_run (by rfl)]
  unfold f__law_body encL encP bBeg bEnd sideL sideR
  cases t
  · push_cast [socksD, e, lstR_run (show 2 ≤ lim by decide)]
  · push_cast [socksD, e, lstR_run (show 2 ≤ lim by decide)]
def meetB (s : List Int) (p : Plug) (a : Place) (q : Plug) (b : Place) : Bool :=
  if b.1 < a.1 then decide (bBeg s p a < bEnd s q b) else decide (bBeg s q b < bEnd s p a)
theorem meet_apart {s : List Int} {p q : Plug} {a b : Place} (h : a.1 ≠ b.1) : meetB s p a q b = !apart s p a q b := by
  unfold meetB apart
  by_cases h1 : a.1 < b.1
  · rw [if_pos h1, if_neg (by omega)]
    by_cases h2 : bEnd s p a ≤ bBeg s q b
    · rw [decide_eq_true h2, decide_eq_false (by omega)]; rfl
    · rw [decide_eq_false h2, decide_eq_true (by omega)]; rfl
  · rw [if_neg h1, if_pos (by omega)]
    by_cases h2 : bEnd s q b ≤ bBeg s p a
    · rw [decide_eq_true h2, decide_eq_false (by omega)]; rfl
    · rw [decide_eq_false h2, decide_eq_true (by omega)]; rfl
theorem law_meet_run {s : List Int} {ps : List Plug} {plan : Plan} {i j : Nat} {x y : Place} {p q : Plug} (hx : plan[i]? = some (some x)) (hy : plan[j]? = some (some y)) (hpi : ps[i]? = some p) (hqj : ps[j]? = some q) (ax : x.1 < s.length) (ay : y.1 < s.length) :
    F__law_meet [socksD s, plugsD ps, planD plan, .int i, .int j] = some (.ok (.bl (meetB s p x q y))) := by
  have ea : opIx (planD plan) (.int i) = some (encL x) := by unfold planD; rw [opIx_tup]; exact getO hx
  have eb : opIx (planD plan) (.int j) = some (encL y) := by unfold planD; rw [opIx_tup]; exact getO hy
  have ep : opIx (plugsD ps) (.int i) = some (encP p) := by unfold plugsD; rw [opIx_tup]; exact getP hpi
  have eq : opIx (plugsD ps) (.int j) = some (encP q) := by unfold plugsD; rw [opIx_tup]; exact getP hqj
  have b1 := law_body_run (p := p) ax
  have b2 := law_body_run (p := q) ay
  obtain ⟨k, t⟩ := x
  obtain ⟨l, u⟩ := y
  unfold F__law_meet
  rw [fnP_run (by rfl)]
  unfold f__law_meet meetB
  unfold encL at *
  by_cases h : (l : Int) < k
  · have h' : l < k := by omega
    push_cast [ea, eb, ep, eq, b1, b2, decide_eq_true h, h']
  · have h' : ¬ l < k := by omega
    push_cast [ea, eb, ep, eq, b1, b2, decide_eq_false h, h']
theorem find_pairs {β : Type} (g : Nat × Nat → Option β) (ks : List Nat) : ∀ l : List Nat, (l.flatMap fun a => ks.filterMap fun b => if a < b then some (a, b) else none).findSome? g = l.findSome? fun a => ks.findSome? fun b => if a < b then g (a, b) else none
  | [] => rfl
  | a :: l => by
    rw [List.flatMap_cons, List.findSome?_append, find_pairs g ks l, List.findSome?_cons]
    have : (ks.filterMap fun b => if a < b then some (a, b) else none).findSome? g = ks.findSome? fun b => if a < b then g (a, b) else none := by
      induction ks with
      | nil => rfl
      | cons b ks ih =>
        rw [List.filterMap_cons, List.findSome?_cons]
        by_cases h : a < b
        · simp only [h, if_true, List.findSome?_cons]
          rw [ih]
        · simp only [h, if_false]
          exact ih
    rw [this]
    cases ks.findSome? fun b => if a < b then g (a, b) else none <;> rfl
theorem find_congr {α β : Type} {f g : α → Option β} : ∀ (l : List α), (∀ a ∈ l, f a = g a) → l.findSome? f = l.findSome? g
  | [], _ => rfl
  | a :: l, h => by
    rw [List.findSome?_cons, List.findSome?_cons, h a List.mem_cons_self, find_congr l fun b hb => h b (List.mem_cons_of_mem _ hb)]
theorem find_none {α β : Type} {f : α → Option β} : ∀ (l : List α), l.findSome? f = none → ∀ a ∈ l, f a = none
  | [], _, a, ha => by cases ha
  | b :: l, h, a, ha => by
    rw [List.findSome?_cons] at h
    cases q : f b with
    | some x => rw [q] at h; cases h
    | none =>
      rw [q] at h
      rcases List.mem_cons.mp ha with rfl | ha
      · exact q
      · exact find_none l h a ha
def meetG (s : List Int) (ps : List Plug) (plan : Plan) (p : Nat × Nat) : Option D := match plan[p.1]?, plan[p.2]?, ps[p.1]?, ps[p.2]? with
  | some (some x), some (some y), some a, some b => if meetB s a x b y then some (.tup [.str "overlap", nD p.1, nD p.2]) else none
  | _, _, _, _ => none
theorem meet_over {s : List Int} {ps : List Plug} {plan : Plan} {p : Nat × Nat} (h : sockG plan p = none) : meetG s ps plan p = overG s ps plan p := by
  unfold meetG overG
  unfold sockG at h
  cases e1 : plan[p.1]? with
  | none => rfl
  | some o1 => cases o1 with
    | none => rfl
    | some x => cases e2 : plan[p.2]? with
      | none => rfl
      | some o2 => cases o2 with
        | none => rfl
        | some y => cases e3 : ps[p.1]? with
          | none => rfl
          | some a => cases e4 : ps[p.2]? with
            | none => rfl
            | some b =>
              rw [e1, e2] at h
              dsimp only at h ⊢
              have hne : x.1 ≠ y.1 := fun z => by rw [if_pos z] at h; cases h
              rw [meet_apart hne]
              cases apart s a x b y <;> rfl
def natOf : D → Nat
  | .int i => i.toNat
  | _ => 0
theorem natOf_nD (i : Nat) : natOf (nD i) = i := by simp [natOf, nD]
def Finds (P : Rho → Prop) (g : D → Option D) (tg : FG) (b : FS) (ds : List D) (ρ : Rho) (ω : Om) : Prop := match ds.findSome? g with
  | some x => forL tg b ds ρ ω = .ret (.val x) ω
  | none => ∃ ρ', forL tg b ds ρ ω = .next ρ' ω ∧ P ρ'
theorem law_here_lc {s : List Int} {ps : List Plug} {plan : Plan} (hlen : plan.length = ps.length) (hp : PlanOk s.length plan) (hl : plan.length ≤ 100) : lcL (gN 4) (eTest (eBin opNotN (eIx (eVar 2) (eVar 4)) (eC .non))) (eVar 4) [some (.val (socksD s)), some (.val (plugsD ps)), some (.val (planD plan)), none, none, none, none] (rngD 0 plan.length) [] [] = .ok (.lst (hereD plan)) [] := by
  have getp : ∀ {i : Nat} {o : Option Place}, plan[i]? = some o → ∃ p, ps[i]? = some p := fun {i o} h => by
    have := (List.getElem?_eq_some_iff.mp h).1
    exact ⟨ps[i]'(by omega), List.getElem?_eq_getElem (by omega)⟩
  have ixO : ∀ {i : Nat} {o : Option Place}, plan[i]? = some o → opIx (planD plan) (.int i) = some (encO o) := fun {i o} h => by unfold planD; rw [opIx_tup]; exact getO h
  have ixP : ∀ {i : Nat} {p : Plug}, ps[i]? = some p → opIx (plugsD ps) (.int i) = some (encP p) := fun {i p} h => by unfold plugsD; rw [opIx_tup]; exact getP h
  rw [lcL_pure (fun d => isSt plan[natOf d]? d) _ [] (by rw [rngD_len]; simp only [List.length_nil]; show _ ≤ 16777216; omega)]
  · have : (rngD 0 plan.length).filterMap (fun d => isSt plan[natOf d]? d) = hereD plan := by
      have h := here_range plan 0
      have hr : rngD 0 (plan.length : Int) = (List.range plan.length).map nD := by
        unfold rngD nD
        rw [show ((plan.length : Int) - 0).toNat = plan.length by omega]
        congr 1
        funext i
        simp
      rw [hr, List.filterMap_map]
      unfold hereD here
      rw [← h]
      congr 1
      funext i
      simp only [Function.comp, natOf_nD, Nat.zero_add]
    rw [this]; rfl
  · intro d hd
    obtain ⟨i, hi⟩ := List.mem_iff_getElem?.mp hd
    obtain ⟨rfl, hi'⟩ := rngD_get hi
    have hin : i < plan.length := by omega
    refine ⟨_, rfl, ?_⟩
    have e : (0 : Int) + (i : Int) = (i : Int) := by omega
    rw [e]
    cases q : plan[i]? with
    | none => exact absurd q (by simp [List.getElem?_eq_getElem hin])
    | some o =>
      have := ixO q
      have q' : plan[natOf (.int (i : Int))]? = some o := by rw [show natOf (.int (i : Int)) = i from natOf_nD i]; exact q
      rw [q']
      cases o with
      | none => show _ = _; push_cast [this, encO]
      | some pl => exact ⟨by push_cast [this, encO, encL], by push_cast []⟩
theorem law_turn_loop {s : List Int} {ps : List Plug} {plan : Plan} (hlen : plan.length = ps.length) (hp : PlanOk s.length plan) (hl : plan.length ≤ 100) : Finds (fun ρ => ∃ x4, ρ = [some (.val (socksD s)), some (.val (plugsD ps)), some (.val (planD plan)), some (.val (.lst (hereD plan))), x4, none, none]) (fun d => turnG ps plan (natOf d)) (gN 4) (sIf (eAndT (eTest (eIx (eIx (eVar 2) (eVar 4)) (eC (.int 1)))) (eNotT (eTest (eCallP F__law_can (aCons (aVal (eIx (eVar 1) (eVar 4))) aNil))))) (sRet (eTup (aCons (aVal (eC (.str "turn"))) (aCons (aVal (eVar 4)) aNil)))) sNext) (hereD plan) [some (.val (socksD s)), some (.val (plugsD ps)), some (.val (planD plan)), some (.val (.lst (hereD plan))), none, none, none] [] := by
  have getp : ∀ {i : Nat} {o : Option Place}, plan[i]? = some o → ∃ p, ps[i]? = some p := fun {i o} h => by
    have := (List.getElem?_eq_some_iff.mp h).1
    exact ⟨ps[i]'(by omega), List.getElem?_eq_getElem (by omega)⟩
  have ixO : ∀ {i : Nat} {o : Option Place}, plan[i]? = some o → opIx (planD plan) (.int i) = some (encO o) := fun {i o} h => by unfold planD; rw [opIx_tup]; exact getO h
  have ixP : ∀ {i : Nat} {p : Plug}, ps[i]? = some p → opIx (plugsD ps) (.int i) = some (encP p) := fun {i p} h => by unfold plugsD; rw [opIx_tup]; exact getP h
  refine forL_find (ρ := []) _ _ _ _ ⟨none, rfl⟩ ?_
  rintro d hd ρ ⟨x4, rfl⟩
  obtain ⟨i, hi, rfl⟩ := List.mem_map.mp hd
  obtain ⟨pl, hpl⟩ := mem_here hi
  obtain ⟨p, hpp⟩ := getp hpl
  refine ⟨_, rfl, ?_⟩
  have a1 := ixO hpl
  have a2 := ixP hpp
  rw [natOf_nD]
  have eg : turnG ps plan i = if pl.2 && !canT p then some (.tup [.str "turn", nD i]) else none := by unfold turnG; rw [hpl, hpp]
  rw [eg]
  obtain ⟨k, t⟩ := pl
  unfold nD
  cases t with
  | false =>
    refine ⟨[some (.val (socksD s)), some (.val (plugsD ps)), some (.val (planD plan)), some (.val (.lst (hereD plan))), some (.val (.int i)), none, none], ?_, _, rfl⟩
    push_cast [a1, encO, encL]
  | true =>
    cases hc : canT p with
    | true =>
      refine ⟨[some (.val (socksD s)), some (.val (plugsD ps)), some (.val (planD plan)), some (.val (.lst (hereD plan))), some (.val (.int i)), none, none], ?_, _, rfl⟩
      push_cast [a1, a2, encO, encL, law_can_run, hc]
    | false =>
      show _ = _
      push_cast [a1, a2, encO, encL, law_can_run, hc, tupR_run (show 2 ≤ lim by decide)]
theorem law_sock_loop {s : List Int} {ps : List Plug} {plan : Plan} (hlen : plan.length = ps.length) (hp : PlanOk s.length plan) (hl : plan.length ≤ 100) {x4 : Option SV} : Finds (fun ρ => ∃ x5 x6, ρ = [some (.val (socksD s)), some (.val (plugsD ps)), some (.val (planD plan)), some (.val (.lst (hereD plan))), x4, x5, x6]) (fun d => (hereD plan).findSome? fun e => if natOf d < natOf e then sockG plan (natOf d, natOf e) else none) (gN 5) (sFor (eIt1 itSeq (eVar 3)) (gN 6)
      (sIf (eAndT (eTest (eBin opLt (eVar 5) (eVar 6))) (eTest (eBin opEq (eIx (eIx (eVar 2) (eVar 5)) (eC (.int 0))) (eIx (eIx (eVar 2) (eVar 6)) (eC (.int 0)))))) (sRet (eTup (aCons (aVal (eC (.str "socket"))) (aCons (aVal (eVar 5)) (aCons (aVal (eVar 6)) aNil))))) sNext)) (hereD plan) [some (.val (socksD s)), some (.val (plugsD ps)), some (.val (planD plan)), some (.val (.lst (hereD plan))), x4, none, none] [] := by
  have getp : ∀ {i : Nat} {o : Option Place}, plan[i]? = some o → ∃ p, ps[i]? = some p := fun {i o} h => by
    have := (List.getElem?_eq_some_iff.mp h).1
    exact ⟨ps[i]'(by omega), List.getElem?_eq_getElem (by omega)⟩
  have ixO : ∀ {i : Nat} {o : Option Place}, plan[i]? = some o → opIx (planD plan) (.int i) = some (encO o) := fun {i o} h => by unfold planD; rw [opIx_tup]; exact getO h
  have ixP : ∀ {i : Nat} {p : Plug}, ps[i]? = some p → opIx (plugsD ps) (.int i) = some (encP p) := fun {i p} h => by unfold plugsD; rw [opIx_tup]; exact getP h
  refine forL_find (ρ := []) _ _ _ _ ⟨none, none, rfl⟩ ?_
  rintro d hd ρ ⟨x5, x6, rfl⟩
  obtain ⟨a, ha, rfl⟩ := List.mem_map.mp hd
  obtain ⟨x, hx⟩ := mem_here ha
  refine ⟨_, rfl, ?_⟩
  push_cast []
  have a1 := ixO hx
  have L := forL_find (ρ := []) (tg := gN 6) (b := (sIf (eAndT (eTest (eBin opLt (eVar 5) (eVar 6))) (eTest (eBin opEq (eIx (eIx (eVar 2) (eVar 5)) (eC (.int 0))) (eIx (eIx (eVar 2) (eVar 6)) (eC (.int 0)))))) (sRet (eTup (aCons (aVal (eC (.str "socket"))) (aCons (aVal (eVar 5)) (aCons (aVal (eVar 6)) aNil))))) sNext)) (ω := [])
    (fun ρ => ∃ x6, ρ = [some (.val (socksD s)), some (.val (plugsD ps)), some (.val (planD plan)), some (.val (.lst (hereD plan))), x4, some (.val (nD a)), x6]) (fun e => if natOf (nD a) < natOf e then sockG plan (natOf (nD a), natOf e) else none) (hereD plan) [some (.val (socksD s)), some (.val (plugsD ps)), some (.val (planD plan)), some (.val (.lst (hereD plan))), x4, some (.val (nD a)), x6] ⟨x6, rfl⟩ (by
      rintro d hd ρ ⟨x6, rfl⟩
      obtain ⟨b, hb, rfl⟩ := List.mem_map.mp hd
      obtain ⟨y, hy⟩ := mem_here hb
      have a2 := ixO hy
      refine ⟨_, rfl, ?_⟩
      simp only [natOf_nD]
      have eg : sockG plan (a, b) = if x.1 = y.1 then some (.tup [.str "socket", nD a, nD b]) else none := by unfold sockG; dsimp only; rw [hx, hy]
      rw [eg]
      unfold nD
      by_cases hab : a < b
      · rw [if_pos hab]
        by_cases h : x.1 = y.1
        · rw [if_pos h]
          show _ = _
          push_cast [a1, a2, encO, encL, lt_nD, decide_eq_true hab, eq_sock, decide_eq_true h, tupR_run (show 3 ≤ lim by decide)]
        · rw [if_neg h]
          refine ⟨[some (.val (socksD s)), some (.val (plugsD ps)), some (.val (planD plan)), some (.val (.lst (hereD plan))), x4, some (.val (.int a)), some (.val (.int b))], ?_, _, rfl⟩
          push_cast [a1, a2, encO, encL, lt_nD, decide_eq_true hab, eq_sock, decide_eq_false h]
      · rw [if_neg hab]
        refine ⟨[some (.val (socksD s)), some (.val (plugsD ps)), some (.val (planD plan)), some (.val (.lst (hereD plan))), x4, some (.val (.int a)), some (.val (.int b))], ?_, _, rfl⟩
        push_cast [a1, a2, encO, encL, lt_nD, decide_eq_false hab])
  cases q : (hereD plan).findSome? (fun e => if natOf (nD a) < natOf e then sockG plan (natOf (nD a), natOf e) else none) with
  | some x => rw [q] at L; exact L
  | none =>
    rw [q] at L
    obtain ⟨ρ', L, x6', rfl⟩ := L
    exact ⟨_, L, _, _, rfl⟩
theorem law_over_loop {s : List Int} {ps : List Plug} {plan : Plan} (hlen : plan.length = ps.length) (hp : PlanOk s.length plan) (hl : plan.length ≤ 100) {x4 : Option SV} {x5 : Option SV} {x6 : Option SV} : Finds (fun ρ => ∃ x5 x6, ρ = [some (.val (socksD s)), some (.val (plugsD ps)), some (.val (planD plan)), some (.val (.lst (hereD plan))), x4, x5, x6]) (fun d => (hereD plan).findSome? fun e => if natOf d < natOf e then meetG s ps plan (natOf d, natOf e) else none) (gN 5) (sFor (eIt1 itSeq (eVar 3)) (gN 6)
        (sIf (eAndT (eTest (eBin opLt (eVar 5) (eVar 6))) (eTest (eCallP F__law_meet (aCons (aVal (eVar 0)) (aCons (aVal (eVar 1)) (aCons (aVal (eVar 2)) (aCons (aVal (eVar 5)) (aCons (aVal (eVar 6)) aNil)))))))) (sRet (eTup (aCons (aVal (eC (.str "overlap"))) (aCons (aVal (eVar 5)) (aCons (aVal (eVar 6)) aNil))))) sNext)) (hereD plan) [some (.val (socksD s)), some (.val (plugsD ps)), some (.val (planD plan)), some (.val (.lst (hereD plan))), x4, x5, x6] [] := by
  have getp : ∀ {i : Nat} {o : Option Place}, plan[i]? = some o → ∃ p, ps[i]? = some p := fun {i o} h => by
    have := (List.getElem?_eq_some_iff.mp h).1
    exact ⟨ps[i]'(by omega), List.getElem?_eq_getElem (by omega)⟩
  have ixO : ∀ {i : Nat} {o : Option Place}, plan[i]? = some o → opIx (planD plan) (.int i) = some (encO o) := fun {i o} h => by unfold planD; rw [opIx_tup]; exact getO h
  have ixP : ∀ {i : Nat} {p : Plug}, ps[i]? = some p → opIx (plugsD ps) (.int i) = some (encP p) := fun {i p} h => by unfold plugsD; rw [opIx_tup]; exact getP h
  refine forL_find (ρ := []) _ _ _ _ ⟨x5, x6, rfl⟩ ?_
  rintro d hd ρ ⟨x5, x6, rfl⟩
  obtain ⟨a, ha, rfl⟩ := List.mem_map.mp hd
  obtain ⟨x, hx⟩ := mem_here ha
  obtain ⟨p, hpa⟩ := getp hx
  refine ⟨_, rfl, ?_⟩
  push_cast []
  have L := forL_find (ρ := []) (tg := gN 6) (b := (sIf (eAndT (eTest (eBin opLt (eVar 5) (eVar 6))) (eTest (eCallP F__law_meet (aCons (aVal (eVar 0)) (aCons (aVal (eVar 1)) (aCons (aVal (eVar 2)) (aCons (aVal (eVar 5)) (aCons (aVal (eVar 6)) aNil)))))))) (sRet (eTup (aCons (aVal (eC (.str "overlap"))) (aCons (aVal (eVar 5)) (aCons (aVal (eVar 6)) aNil))))) sNext)) (ω := [])
    (fun ρ => ∃ x6, ρ = [some (.val (socksD s)), some (.val (plugsD ps)), some (.val (planD plan)), some (.val (.lst (hereD plan))), x4, some (.val (nD a)), x6]) (fun e => if natOf (nD a) < natOf e then meetG s ps plan (natOf (nD a), natOf e) else none) (hereD plan) [some (.val (socksD s)), some (.val (plugsD ps)), some (.val (planD plan)), some (.val (.lst (hereD plan))), x4, some (.val (nD a)), x6] ⟨x6, rfl⟩ (by
      rintro d hd ρ ⟨x6, rfl⟩
      obtain ⟨b, hb, rfl⟩ := List.mem_map.mp hd
      obtain ⟨y, hy⟩ := mem_here hb
      obtain ⟨q, hqb⟩ := getp hy
      have em := law_meet_run (s := s) hx hy hpa hqb (hp x (List.mem_of_getElem? hx)) (hp y (List.mem_of_getElem? hy))
      refine ⟨_, rfl, ?_⟩
      simp only [natOf_nD]
      have eg : meetG s ps plan (a, b) = if meetB s p x q y then some (.tup [.str "overlap", nD a, nD b]) else none := by unfold meetG; dsimp only; rw [hx, hy, hpa, hqb]
      rw [eg]
      unfold nD
      by_cases hab : a < b
      · rw [if_pos hab]
        cases h : meetB s p x q y with
        | true =>
          show _ = _
          push_cast [em, h, lt_nD, decide_eq_true hab, tupR_run (show 3 ≤ lim by decide)]
        | false =>
          refine ⟨[some (.val (socksD s)), some (.val (plugsD ps)), some (.val (planD plan)), some (.val (.lst (hereD plan))), x4, some (.val (.int a)), some (.val (.int b))], ?_, _, rfl⟩
          push_cast [em, h, lt_nD, decide_eq_true hab]
      · rw [if_neg hab]
        refine ⟨[some (.val (socksD s)), some (.val (plugsD ps)), some (.val (planD plan)), some (.val (.lst (hereD plan))), x4, some (.val (.int a)), some (.val (.int b))], ?_, _, rfl⟩
        push_cast [lt_nD, decide_eq_false hab])
  cases q : (hereD plan).findSome? (fun e => if natOf (nD a) < natOf e then meetG s ps plan (natOf (nD a), natOf e) else none) with
  | some x => rw [q] at L; exact L
  | none =>
    rw [q] at L
    obtain ⟨ρ', L, x6', rfl⟩ := L
    exact ⟨_, L, _, _, rfl⟩
theorem find_here (plan : Plan) (g : Nat → Option D) : (hereD plan).findSome? (fun d => g (natOf d)) = (here plan).findSome? g := by
  unfold hereD
  rw [List.findSome?_map]
  exact find_congr _ fun i _ => congrArg g (natOf_nD i)
theorem find_both (plan : Plan) (g : Nat × Nat → Option D) : (hereD plan).findSome? (fun d => (hereD plan).findSome? fun e => if natOf d < natOf e then g (natOf d, natOf e) else none) = (pairsN plan).findSome? g := by
  unfold pairsN
  rw [find_pairs, ← find_here]
  exact find_congr _ fun d _ => find_here plan fun e => if natOf d < e then g (natOf d, e) else none
theorem law_here_set {s : List Int} {ps : List Plug} {plan : Plan} (hlen : plan.length = ps.length) (hp : PlanOk s.length plan) (hl : plan.length ≤ 100) :
    sSet 3 (eLc [4] (eIt1 itR1 (eCallB oLen (aCons (aVal (eVar 2)) aNil))) (gN 4) (eTest (eBin opNotN (eIx (eVar 2) (eVar 4)) (eC .non))) (eVar 4)) [some (.val (socksD s)), some (.val (plugsD ps)), some (.val (planD plan)), none, none, none, none] [] =
      .next [some (.val (socksD s)), some (.val (plugsD ps)), some (.val (planD plan)), some (.val (.lst (hereD plan))), none, none, none] [] := by
  have e0 : oLen [planD plan] = some (.int plan.length) := by unfold planD; rw [oLen_tup, List.length_map]
  have e2 : itR1 (.int (plan.length : Int)) = some (rngD 0 plan.length) := itR1_run (by omega) (by omega)
  have e3 : (eIt1 itR1 (eCallB oLen (aCons (aVal (eVar 2)) aNil))) [some (.val (socksD s)), some (.val (plugsD ps)), some (.val (planD plan)), none, none, none, none] [] = .ok (rngD 0 plan.length) [] := by
    have v : (eVar 2) [some (.val (socksD s)), some (.val (plugsD ps)), some (.val (planD plan)), none, none, none, none] [] = .ok (planD plan) [] := rfl
    rw [eIt1_run, eCallB_run, aCons_run, aVal_run, v, bind_ok, bind_ok, aNil_run, bind_ok, bind_ok, allD_cons, allD_nil, Option.map_some, Option.bind_some, e0, lift_some, bind_ok, e2, lift_some]
  have e1 := law_here_lc (s := s) hlen hp hl
  unfold sSet
  rw [sAsg_run, eLc_run, e3, bind_ok]
  have w : wipeR [some (SV.val (socksD s)), some (.val (plugsD ps)), some (.val (planD plan)), none, none, none, none] [4] = [some (.val (socksD s)), some (.val (plugsD ps)), some (.val (planD plan)), none, none, none, none] := rfl
  rw [w, e1]
  rfl
theorem law_fault_run {s : List Int} {ps : List Plug} {plan : Plan} (hlen : plan.length = ps.length) (hp : PlanOk s.length plan) (hl : plan.length ≤ 100) : F__law_fault [socksD s, plugsD ps, planD plan] = some (.ok (fault s ps plan)) := by
  have getp : ∀ {i : Nat} {o : Option Place}, plan[i]? = some o → ∃ p, ps[i]? = some p := fun {i o} h => by
    have := (List.getElem?_eq_some_iff.mp h).1
    exact ⟨ps[i]'(by omega), List.getElem?_eq_getElem (by omega)⟩
  have ixO : ∀ {i : Nat} {o : Option Place}, plan[i]? = some o → opIx (planD plan) (.int i) = some (encO o) := fun {i o} h => by unfold planD; rw [opIx_tup]; exact getO h
  have ixP : ∀ {i : Nat} {p : Plug}, ps[i]? = some p → opIx (plugsD ps) (.int i) = some (encP p) := fun {i p} h => by unfold plugsD; rw [opIx_tup]; exact getP h
  unfold F__law_fault
  rw [fnP_run (by rfl)]
  unfold f__law_fault
  rw [show rho0 7 (List.map SV.val [socksD s, plugsD ps, planD plan]) = [some (.val (socksD s)), some (.val (plugsD ps)), some (.val (planD plan)), none, none, none, none] from rfl, sSeq_run, law_here_set hlen hp hl, obind_next, sSeq_run, sFor_run, eIt1_run, show (eVar 3) [some (.val (socksD s)), some (.val (plugsD ps)), some (.val (planD plan)), some (.val (.lst (hereD plan))), none, none, none] [] = .ok (.lst (hereD plan)) [] from rfl, bind_ok, itSeq_lst, lift_some, out_ok]
  have L1 := law_turn_loop (s := s)  hlen hp hl
  unfold Finds at L1
  rw [find_here] at L1
  unfold fault
  cases f1 : (here plan).findSome? (turnG ps plan) with
  | some d =>
    rw [f1] at L1
    dsimp only at L1
    push_cast [L1]
    try rfl
  | none =>
    rw [f1] at L1
    obtain ⟨ρ1, L1, x4, rfl⟩ := L1
    push_cast [L1]
    have L2' := law_sock_loop (s := s) (x4 := x4) hlen hp hl
    unfold Finds at L2'
    rw [find_both] at L2'
    cases f2 : (pairsN plan).findSome? (sockG plan) with
    | some d =>
      rw [f2] at L2'
      dsimp only at L2'
      have e := L2'
      push_cast [e]
      rfl
    | none =>
      rw [f2] at L2'
      obtain ⟨ρ2, e, x5, x6, rfl⟩ := L2'
      push_cast [e]
      have L3 := law_over_loop (s := s) (x4 := x4) (x5 := x5) (x6 := x6) hlen hp hl
      unfold Finds at L3
      rw [find_both, find_congr _ fun p hp => meet_over (find_none _ f2 p hp)] at L3
      cases f3 : (pairsN plan).findSome? (overG s ps plan) with
      | some d =>
        rw [f3] at L3
        dsimp only at L3
        have e := L3
        push_cast [e]
        rfl
      | none =>
        rw [f3] at L3
        obtain ⟨ρ3, e, y5, y6, rfl⟩ := L3
        push_cast [e]
        rfl
/-! ### places, and a drawn plan -/
theorem rng_len {ρ : Rho} {ω : Om} {i : Nat} {d : D} {n : Nat} (hv : eVar i ρ ω = .ok d ω) (e0 : oLen [d] = some (.int (n : Int))) (h : n < 1000000) :
    eIt1 itR1 (eCallB oLen (aCons (aVal (eVar i)) aNil)) ρ ω = .ok (rngD 0 n) ω := by
  have e2 : itR1 (.int (n : Int)) = some (rngD 0 n) := itR1_run (by omega) (by omega)
  rw [eIt1_run, eCallB_run, aCons_run, aVal_run, hv, bind_ok, bind_ok, aNil_run, bind_ok, bind_ok, allD_cons, allD_nil, Option.map_some, Option.bind_some, e0, lift_some, bind_ok, e2, lift_some]
theorem len_socks (s : List Int) : oLen [socksD s] = some (.int s.length) := by unfold socksD; rw [oLen_tup, List.length_map]
theorem len_plugs (s : List Plug) : oLen [plugsD s] = some (.int s.length) := by unfold plugsD; rw [oLen_tup, List.length_map]
theorem len_plan (s : Plan) : oLen [planD s] = some (.int s.length) := by unfold planD; rw [oLen_tup, List.length_map]
theorem law_places_run {s : List Int} (p : Plug) (h0 : 0 < s.length) (hl : s.length ≤ 100) : ∃ L : List Place, F__law_places [socksD s, encP p] = some (.ok (.lst (L.map encL))) ∧ L ≠ [] ∧ L.length ≤ 2 * s.length ∧ ∀ pl ∈ L, pl.1 < s.length := by
  unfold F__law_places
  rw [fnP_run (by rfl)]
  unfold f__law_places
  rw [show rho0 4 (List.map SV.val [socksD s, encP p]) = [some (.val (socksD s)), some (.val (encP p)), none, none] from rfl, sSeq_run, show sNewL 2 aNil [some (.val (socksD s)), some (.val (encP p)), none, none] [] = .next [some (.val (socksD s)), some (.val (encP p)), some (.own 0), none] [some (.lst [])] from rfl,
    obind_next, sSeq_run, sFor_run, rng_len (d := socksD s) rfl (len_socks s) (by omega), out_ok]
  generalize hb : sSeq _ (sIf _ _ _) = body
  obtain ⟨ρ', ω', e, L, x3, rfl, rfl, g1, g2, g3⟩ := forL_all (tg := gN 3) (b := body) (ds := rngD 0 s.length) (ω := [some (.lst [])]) (ρ := [some (.val (socksD s)), some (.val (encP p)), some (.own 0), none])
    (fun i ρ ω => ∃ (L : List Place) (x3 : Option SV), ρ = [some (.val (socksD s)), some (.val (encP p)), some (.own 0), x3] ∧ ω = [some (.lst (L.map encL))] ∧ (0 < i → L ≠ []) ∧ L.length ≤ 2 * i ∧ ∀ pl ∈ L, pl.1 < i)
    ⟨[], none, rfl, rfl, by simp, by simp, by simp⟩ (by
    rintro i d ρ ω hd ⟨L, x3, rfl, rfl, g1, g2, g3⟩
    obtain ⟨rfl, hlt⟩ := rngD_get hd
    subst hb
    have hz : (0 : Int) + (i : Int) = (i : Int) := by omega
    rw [hz]
    have hll : (L.map encL).length < lim := by rw [List.length_map]; show _ < 16777216; omega
    have hll2 : (L.map encL ++ [D.tup [.int (i : Int), .bl false]]).length < lim := by rw [List.length_append, List.length_map]; show _ + 1 < 16777216; omega
    cases hc : canT p with
    | true =>
      refine ⟨_, [some (.val (socksD s)), some (.val (encP p)), some (.own 0), some (.val (.int i))], [some (.lst ((L ++ [(i, false), (i, true)]).map encL))], rfl, ?_, L ++ [(i, false), (i, true)], _, rfl, rfl, by simp, by simp; omega, fun pl hpl => ?_⟩
      · push_cast [hll, tupR_run (show 2 ≤ lim by decide), law_can_run, hc, if_pos hll, if_pos hll2]
        simp [encL]
      · rcases List.mem_append.mp hpl with h | h
        · have := g3 pl h; omega
        · simp at h; rcases h with rfl | rfl <;> simp
    | false =>
      refine ⟨_, [some (.val (socksD s)), some (.val (encP p)), some (.own 0), some (.val (.int i))], [some (.lst ((L ++ [(i, false)]).map encL))], rfl, ?_, L ++ [(i, false)], _, rfl, rfl, by simp, by simp; omega, fun pl hpl => ?_⟩
      · push_cast [hll, tupR_run (show 2 ≤ lim by decide), law_can_run, hc, if_pos hll]
        simp [encL]
      · rcases List.mem_append.mp hpl with h | h
        · have := g3 pl h; omega
        · simp at h; rcases h with rfl; simp)
  rw [rngD_len] at g1 g2 g3
  have hn : ((s.length : Int) - 0).toNat = s.length := by omega
  rw [hn] at g1 g2 g3
  refine ⟨L, ?_, g1 h0, g2, g3⟩
  rw [e]
  push_cast []
/-! slices -/
theorem cut_lo (ds : List D) (k : Nat) : slD none (some (k : Int)) (.tup ds) = some (.tup (ds.take k)) := by
  show some (D.tup (cutD ds none (some (k : Int)))) = _
  unfold cutD
  rw [HT.sIx_none, HT.sIx_nat]
  simp only [List.drop_zero, Nat.sub_zero]
  congr 2
  by_cases h : k ≤ ds.length
  · rw [Nat.min_eq_left h]
  · rw [Nat.min_eq_right (by omega), List.take_of_length_le (Nat.le_refl _), List.take_of_length_le (by omega)]
theorem cut_hi (ds : List D) (k : Nat) : slD (some ((k : Int) + 1)) none (.tup ds) = some (.tup (ds.drop (k + 1))) := by
  show some (D.tup (cutD ds (some ((k : Int) + 1)) none)) = _
  unfold cutD
  rw [HT.sIx_none, show ((k : Int) + 1) = ((k + 1 : Nat) : Int) by omega, HT.sIx_nat]
  congr 2
  by_cases h : k + 1 ≤ ds.length
  · rw [Nat.min_eq_left h, List.take_of_length_le (by simp)]
  · rw [Nat.min_eq_right (by omega), List.drop_of_length_le (Nat.le_refl _), List.drop_of_length_le (show ds.length ≤ k + 1 by omega)]; simp
def setP (plan : Plan) (k : Nat) (o : Option Place) : Plan := plan.take k ++ [o] ++ plan.drop (k + 1)
theorem setP_len {plan : Plan} {k : Nat} {o : Option Place} (h : k < plan.length) : (setP plan k o).length = plan.length := by
  unfold setP
  simp only [List.length_append, List.length_take, List.length_drop, List.length_cons, List.length_nil]
  omega
theorem setP_ok {plan : Plan} {k n : Nat} {o : Option Place} (h : PlanOk n plan) (ho : ∀ pl, o = some pl → pl.1 < n) : PlanOk n (setP plan k o) := by
  intro pl hpl
  unfold setP at hpl
  rcases List.mem_append.mp hpl with hpl | hpl
  · rcases List.mem_append.mp hpl with hpl | hpl
    · exact h pl (List.mem_of_mem_take hpl)
    · simp at hpl; exact ho pl hpl.symm
  · exact h pl (List.mem_of_mem_drop hpl)
theorem setP_enc (plan : Plan) (k : Nat) (o : Option Place) : (setP plan k o).map encO = (plan.map encO).take k ++ [encO o] ++ (plan.map encO).drop (k + 1) := by
  unfold setP
  rw [List.map_append, List.map_append, List.map_take, List.map_drop]; rfl
theorem rep_flat (n : Nat) : (List.replicate n [D.non]).flatten = List.replicate n D.non := by
  induction n with
  | zero => rfl
  | succ n ih => rw [List.replicate_succ, List.flatten_cons, ih]; rfl
theorem mul_non {n : Nat} (h0 : 0 < n) (hl : n ≤ 100) : opMulA (.tup [.non]) (.int (n : Int)) = some (planD (List.replicate n none)) := by
  have e : planD (List.replicate n none) = .tup (List.replicate n D.non) := by unfold planD; rw [List.map_replicate]; rfl
  rw [e]
  unfold opMulA
  dsimp only
  by_cases h1 : (n : Int) = 1
  · rw [if_pos h1]
    have : n = 1 := by omega
    subst this; rfl
  · rw [if_neg h1, if_pos ⟨by simp, by omega, by omega, by simp⟩, Int.toNat_natCast, rep_flat]
/-- the row that puts a place into a plan -/
theorem put_run {plan : Plan} {k : Nat} {d : D} {o : Option Place} (hd : d = encO o) (hk : k < plan.length) (hl : plan.length ≤ 100) {i j m : Nat} {ρ : Rho} {ω : Om} (hi : eVar i ρ ω = .ok (planD plan) ω) (hj : eVar j ρ ω = .ok (.int (k : Int)) ω) (hm : eVar m ρ ω = .ok d ω) :
    (eBin opAdd (eBin opAdd (eSl (eVar i) eNoPart (ePart (eVar j))) (eTup (aCons (aVal (eVar m)) aNil))) (eSl (eVar i) (ePart (eBin opAdd (eVar j) (eC (.int 1)))) eNoPart)) ρ ω = .ok (planD (setP plan k o)) ω := by
  subst hd
  have a1 : (eSl (eVar i) eNoPart (ePart (eVar j))) ρ ω = .ok (.tup ((plan.map encO).take k)) ω := by
    rw [eSl_run, hi, bind_ok, eNoPart_run, bind_ok, ePart_run, hj, bind_ok, asI_run, lift_some, bind_ok]
    unfold planD
    rw [cut_lo, lift_some]
  have a2 : (eSl (eVar i) (ePart (eBin opAdd (eVar j) (eC (.int 1)))) eNoPart) ρ ω = .ok (.tup ((plan.map encO).drop (k + 1))) ω := by
    rw [eSl_run, hi, bind_ok, ePart_run, eBin_run, hj, bind_ok, eC_run, bind_ok, opAdd_int, lift_some, bind_ok, asI_run, lift_some, bind_ok, eNoPart_run, bind_ok]
    unfold planD
    rw [cut_hi, lift_some]
  have a3 : (eTup (aCons (aVal (eVar m)) aNil)) ρ ω = .ok (.tup [encO o]) ω := by
    rw [eTup_run, aCons_run, aVal_run, hm, bind_ok, bind_ok, aNil_run, bind_ok, bind_ok, allD_cons, allD_nil, Option.map_some, tupR_run (n := [SV.val (encO o)].length) (show 1 ≤ lim by decide), lift_some]
  have l1 : ((plan.map encO).take k).length ≤ 100 := by simp only [List.length_take, List.length_map]; omega
  have l2 : ((plan.map encO).drop (k + 1)).length ≤ 100 := by simp only [List.length_drop, List.length_map]; omega
  rw [eBin_run, eBin_run, a1, bind_ok, a3, bind_ok, opAdd_tup (show ((plan.map encO).take k).length + 1 ≤ 16777216 by omega), lift_some, bind_ok, a2, bind_ok,
    opAdd_tup (show ((plan.map encO).take k ++ [encO o]).length + ((plan.map encO).drop (k + 1)).length ≤ 16777216 by rw [List.length_append]; simp only [List.length_cons, List.length_nil]; omega), lift_some, ← setP_enc]
  rfl
theorem sSet_run {i : Nat} {f : FE D} {ρ : Rho} {ω : Om} : sSet i f ρ ω = outL (f ρ ω) ρ (k := ⟨fun d ω1 => .next (ρ.set i (some (.val d))) ω1⟩) := by
  unfold sSet
  rw [sAsg_run]
  rfl
theorem isNon_fault_dec (d : D) : isNon d = true ∨ isNon d = false := by cases isNon d <;> simp
theorem hereF_nones : ∀ (n k : Nat), hereF k (List.replicate n none) = []
  | 0, k => rfl
  | n + 1, k => by rw [List.replicate_succ]; exact hereF_nones n (k + 1)
theorem fault_nones (s : List Int) (ps : List Plug) (n : Nat) : isNon (fault s ps (List.replicate n none)) = true := by
  have h : here (List.replicate n none) = [] := hereF_nones n 0
  unfold fault pairsN
  rw [h]
  rfl
theorem law_part_run {ns : List Int} {rest ω : Om} {s : List Int} {ps : List Plug} (h : IsRow ns rest ω) (hs0 : 0 < s.length) (hs : s.length ≤ 100) (hp0 : 0 < ps.length) (hpl : ps.length ≤ 100) :
    ∃ plan ω', IsRow ns rest ω' ∧ plan.length = ps.length ∧ PlanOk s.length plan ∧ isNon (fault s ps plan) = true ∧ F__law_part [.own 0, .val (socksD s), .val (plugsD ps)] ω = .ok (.val (planD plan)) ω' := by
  unfold F__law_part
  rw [fnE_run (by rfl)]
  unfold f__law_part
  have hm : (eBin opMulA (eTup (aCons (aVal (eC .non)) aNil)) (eCallB oLen (aCons (aVal (eVar 2)) aNil))) [some (.own 0), some (.val (socksD s)), some (.val (plugsD ps)), none, none, none, none, none] ω = .ok (planD (List.replicate ps.length none)) ω := by
    have a3 : (eTup (aCons (aVal (eC .non)) aNil)) [some (.own 0), some (.val (socksD s)), some (.val (plugsD ps)), none, none, none, none, none] ω = .ok (.tup [.non]) ω := by
      rw [eTup_run, aCons_run, aVal_run, eC_run, bind_ok, bind_ok, aNil_run, bind_ok, bind_ok, allD_cons, allD_nil, Option.map_some, tupR_run (n := [SV.val .non].length) (show 1 ≤ lim by decide), lift_some]
    have v : (eVar 2) [some (.own 0), some (.val (socksD s)), some (.val (plugsD ps)), none, none, none, none, none] ω = .ok (plugsD ps) ω := rfl
    rw [eBin_run, a3, bind_ok, eCallB_run, aCons_run, aVal_run, v, bind_ok, bind_ok, aNil_run, bind_ok, bind_ok, allD_cons, allD_nil, Option.map_some, Option.bind_some, len_plugs, lift_some, bind_ok, mul_non hp0 hpl, lift_some]
  rw [show rho0 8 [SV.own 0, .val (socksD s), .val (plugsD ps)] = [some (.own 0), some (.val (socksD s)), some (.val (plugsD ps)), none, none, none, none, none] from rfl, sSeq_run, sSet_run, hm, out_ok, obind_next,
    show List.set [some (SV.own 0), some (.val (socksD s)), some (.val (plugsD ps)), none, none, none, none, none] 3 (some (SV.val (planD (List.replicate ps.length none)))) = [some (SV.own 0), some (.val (socksD s)), some (.val (plugsD ps)), some (SV.val (planD (List.replicate ps.length none))), none, none, none, none] from rfl,
    sSeq_run, sFor_run, rng_len (d := plugsD ps) rfl (len_plugs ps) (by omega), out_ok]
  generalize hb : sSeq (sSet 5 _) _ = body
  obtain ⟨ρ', ω', e, w, plan, x4, x5, x6, x7, rfl, g1, g2, g3⟩ := forL_all (tg := gN 4) (b := body) (ds := rngD 0 ps.length) (ω := ω) (ρ := [some (SV.own 0), some (.val (socksD s)), some (.val (plugsD ps)), some (SV.val (planD (List.replicate ps.length none))), none, none, none, none])
    (fun i ρ ω => IsRow ns rest ω ∧ ∃ (plan : Plan) (x4 x5 x6 x7 : Option SV), ρ = [some (SV.own 0), some (.val (socksD s)), some (.val (plugsD ps)), some (SV.val (planD plan)), x4, x5, x6, x7] ∧ plan.length = ps.length ∧ PlanOk s.length plan ∧ isNon (fault s ps plan) = true)
    ⟨h, _, none, none, none, none, rfl, by simp, fun pl hpl => by simp at hpl, fault_nones s ps _⟩ (by
    rintro i d ρ ω hd ⟨w, plan, x4, x5, x6, x7, rfl, g1, g2, g3⟩
    obtain ⟨rfl, hlt⟩ := rngD_get hd
    subst hb
    have hz : (0 : Int) + (i : Int) = (i : Int) := by omega
    rw [hz]
    have hi : i < ps.length := by omega
    have ep : opIx (plugsD ps) (.int i) = some (encP ps[i]) := by unfold plugsD; rw [opIx_tup]; exact getP (List.getElem?_eq_getElem hi)
    obtain ⟨L, e1, L0, L1, L2'⟩ := law_places_run (s := s) ps[i] hs0 hs
    have hL0 : 0 < L.length := by cases L with
      | nil => exact absurd rfl L0
      | cons _ _ => simp
    obtain ⟨r1, ω1, w1, a1, b1, e2⟩ := pick (m := (L.length : Int)) w (by omega) (by omega)
    obtain ⟨r2, ω2, w2, a2, b2, e3⟩ := pick (m := 4) w1 (by decide) (by decide)
    have hr : r1.toNat < L.length := by omega
    have e4 : opIx (.lst (L.map encL)) (.int r1) = some (encL L[r1.toNat]) := by
      rw [opIx_lst]
      have := atI_map encL (List.getElem?_eq_getElem hr)
      rw [Int.toNat_of_nonneg a1] at this
      exact this
    have e5 : oLen [D.lst (L.map encL)] = some (.int L.length) := by rw [oLen_lst, List.length_map]
    have hpl' : (L[r1.toNat]).1 < s.length := L2' _ (List.getElem_mem hr)
    have s1 : (sSet 5 (eCallP F__law_places (aCons (aVal (eVar 1)) (aCons (aVal (eIx (eVar 2) (eVar 4))) aNil)))) [some (SV.own 0), some (.val (socksD s)), some (.val (plugsD ps)), some (SV.val (planD plan)), some (.val (.int i)), x5, x6, x7] ω =
        .next [some (SV.own 0), some (.val (socksD s)), some (.val (plugsD ps)), some (SV.val (planD plan)), some (.val (.int i)), some (.val (.lst (L.map encL))), x6, x7] ω := by
      push_cast [ep, e1]
    have s2 : (sSet 6 (eIx (eVar 5) (eVal (eCallE F__law_pick (aCons (eSlot 0) (aCons (aVal (eCallB oLen (aCons (aVal (eVar 5)) aNil))) aNil)))))) [some (SV.own 0), some (.val (socksD s)), some (.val (plugsD ps)), some (SV.val (planD plan)), some (.val (.int i)), some (.val (.lst (L.map encL))), x6, x7] ω =
        .next [some (SV.own 0), some (.val (socksD s)), some (.val (plugsD ps)), some (SV.val (planD plan)), some (.val (.int i)), some (.val (.lst (L.map encL))), some (.val (encL L[r1.toNat])), x7] ω1 := by
      push_cast [e5, e2, e4]
    have s3 := put_run (d := encL L[r1.toNat]) (o := some L[r1.toNat]) (plan := plan) (k := i) (i := 3) (j := 4) (m := 6) (ω := ω1) (ρ := [some (SV.own 0), some (.val (socksD s)), some (.val (plugsD ps)), some (SV.val (planD plan)), some (.val (.int i)), some (.val (.lst (L.map encL))), some (.val (encL L[r1.toNat])), x7]) rfl (by omega) (by omega) rfl rfl rfl
    have k1 : (setP plan i (some L[r1.toNat])).length = ps.length := by rw [setP_len (by omega), g1]
    have k2 : PlanOk s.length (setP plan i (some L[r1.toNat])) := setP_ok g2 fun pl e => by cases e; exact hpl'
    have s4 := law_fault_run (s := s) (ps := ps) (plan := setP plan i (some L[r1.toNat])) k1 k2 (by omega)
    refine ⟨[some (SV.own 0), some (.val (socksD s)), some (.val (plugsD ps)), some (SV.val (planD plan)), some (.val (.int i)), x5, x6, x7], ?_⟩
    by_cases hc : 0 < r2 ∧ isNon (fault s ps (setP plan i (some L[r1.toNat]))) = true
    · refine ⟨[some (SV.own 0), some (.val (socksD s)), some (.val (plugsD ps)), some (SV.val (planD (setP plan i (some L[r1.toNat])))), some (.val (.int i)), some (.val (.lst (L.map encL))), some (.val (encL L[r1.toNat])), some (SV.val (planD (setP plan i (some L[r1.toNat]))))], ω2, rfl, ?_, w2, _, _, _, _, _, rfl, k1, k2, hc.2⟩
      rw [sSeq_run, s1, obind_next, sSeq_run, s2, obind_next, sSeq_run, sSet_run, s3, out_ok, obind_next]
      push_cast [e3, decide_eq_true hc.1, s4, hc.2]
    · refine ⟨[some (SV.own 0), some (.val (socksD s)), some (.val (plugsD ps)), some (SV.val (planD plan)), some (.val (.int i)), some (.val (.lst (L.map encL))), some (.val (encL L[r1.toNat])), some (SV.val (planD (setP plan i (some L[r1.toNat]))))], ω2, rfl, ?_, w2, _, _, _, _, _, rfl, g1, g2, g3⟩
      rw [sSeq_run, s1, obind_next, sSeq_run, s2, obind_next, sSeq_run, sSet_run, s3, out_ok, obind_next]
      by_cases h1 : 0 < r2
      · have h2 : isNon (fault s ps (setP plan i (some L[r1.toNat]))) = false := by
          rcases isNon_fault_dec (fault s ps (setP plan i (some L[r1.toNat]))) with z | z
          · exact absurd ⟨h1, z⟩ hc
          · exact z
        push_cast [e3, decide_eq_true h1, s4, h2]
      · push_cast [e3, decide_eq_false h1])
  refine ⟨plan, ω', w, g1, g2, g3, ?_⟩
  rw [e]
  push_cast [row_take h w]
/-! ### equality of faults -/
theorem eqD_fault (s : List Int) (ps : List Plug) (plan : Plan) : eqD (fault s ps plan) (fault s ps plan) = some true := by
  have t2 : ∀ (x : Str) (i : Nat), PyData.strOk x = true → eqD (.tup [.str x, nD i]) (.tup [.str x, nD i]) = some true := fun x i hx => by
    simp [eqD, toPy, toPys, SeqAt.shaped, PyData.canLay0, PyData.canLayAll0, PyData.depth, PyData.depthAll, PyData.eqv, PyData.eqvAll, nD, hx]
  have t3 : ∀ (x : Str) (i j : Nat), PyData.strOk x = true → eqD (.tup [.str x, nD i, nD j]) (.tup [.str x, nD i, nD j]) = some true := fun x i j hx => by
    simp [eqD, toPy, toPys, SeqAt.shaped, PyData.canLay0, PyData.canLayAll0, PyData.depth, PyData.depthAll, PyData.eqv, PyData.eqvAll, nD, hx]
  unfold fault
  cases f1 : (here plan).findSome? (turnG ps plan) with
  | some d =>
    obtain ⟨i, hi, hd⟩ := List.exists_of_findSome?_eq_some f1
    unfold turnG at hd
    split at hd
    · split at hd
      · cases hd; exact t2 _ _ (by decide +kernel)
      · cases hd
    · cases hd
  | none =>
    cases f2 : (pairsN plan).findSome? (sockG plan) with
    | some d =>
      obtain ⟨i, hi, hd⟩ := List.exists_of_findSome?_eq_some f2
      unfold sockG at hd
      split at hd
      · split at hd
        · cases hd; exact t3 _ _ _ (by decide +kernel)
        · cases hd
      · cases hd
    | none =>
      cases f3 : (pairsN plan).findSome? (overG s ps plan) with
      | some d =>
        obtain ⟨i, hi, hd⟩ := List.exists_of_findSome?_eq_some f3
        unfold overG at hd
        split at hd
        · split at hd
          · cases hd
          · cases hd; exact t3 _ _ _ (by decide +kernel)
        · cases hd
      | none => exact eqD_non_non
abbrev badPlugs (d : D) : Exn := ⟨"BadPlugs", [("index", d)]⟩
abbrev bare (c : Str) : Exn := ⟨c, []⟩
/-! ### comprehensions of tests -/
theorem lcL_bools {tg : FG} {el : FE D} {ρ : Rho} {ω : Om} (f : D → Bool) {ds : List D} (hl : ds.length ≤ lim) (h : ∀ d ∈ ds, ∃ ρ1, tg d ρ = some ρ1 ∧ el ρ1 ω = .ok (.bl (f d)) ω) : lcL tg eTrue el ρ ds [] ω = .ok (.lst (ds.map fun d => .bl (f d))) ω := by
  rw [lcL_pure (fun d => some (.bl (f d))) ds [] (by simpa using hl)]
  · rw [List.nil_append, ← List.filterMap_eq_map]; rfl
  · intro d hd
    obtain ⟨ρ1, h1, h2⟩ := h d hd
    exact ⟨ρ1, h1, rfl, h2⟩
theorem asBls_mapQ {α : Type} (f : α → Bool) : ∀ l : List α, asBls (l.map fun a => D.bl (f a)) = some (l.map f)
  | [] => rfl
  | a :: l => by
    show (asBls (l.map fun a => D.bl (f a))).map (f a :: ·) = _
    rw [asBls_mapQ f l]; rfl
theorem all_mapQ {α : Type} (f : α → Bool) (l : List α) : oAllL (l.map fun a => D.bl (f a)) = some (.bl (l.all f)) := by
  unfold oAllL
  rw [asBls_mapQ]
  show some (D.bl ((l.map f).all id)) = _
  rw [List.all_map]; rfl
/-! ### check_plugs -/
theorem enum_cons (d : D) (ds : List D) (k : Nat) : ((d :: ds).mapIdx fun i e => pairI (k + i) e) = pairI k d :: ds.mapIdx fun i e => pairI (k + 1 + i) e := by
  rw [List.mapIdx_cons]
  congr 1
  apply List.mapIdx_eq_mapIdx_iff.mpr
  intro i hi
  rw [Nat.add_assoc, Nat.add_comm 1 i]
theorem enum_zero (ds : List D) : enumD ds = ds.mapIdx fun i e => pairI (0 + i) e := by
  unfold enumD
  apply List.mapIdx_eq_mapIdx_iff.mpr
  intro i hi
  rw [Nat.zero_add]
theorem check_bd_ok {v m d : D} {k : Nat} (h : F_is_plug [d] = some (.ok (.bl true))) : bd_check_plugs_2_1 [some (SV.val (v)), some (SV.val (m)), some (SV.val (.int (k : Int))), some (SV.val (d))] [] = .next [some (SV.val (v)), some (SV.val (m)), some (SV.val (.int (k : Int))), some (SV.val (d))] [] := by
  unfold bd_check_plugs_2_1
  push_cast [h]
theorem check_bd_bad {v m d : D} {k : Nat} (h : F_is_plug [d] = some (.ok (.bl false))) : bd_check_plugs_2_1 [some (SV.val (v)), some (SV.val (m)), some (SV.val (.int (k : Int))), some (SV.val (d))] [] = .exc (badPlugs (.int (k : Int))) [some (SV.val (v)), some (SV.val (m)), some (SV.val (.int (k : Int))), some (SV.val (d))] [] := by
  unfold bd_check_plugs_2_1
  push_cast [h]
abbrev tgEn (i j : Nat) : FG := gT 2 (gsCons (gN i) (gsCons (gN j) gsNil))
theorem tgEn_run {v m d : D} {x y : Option SV} {k : Nat} : tgEn 2 3 (pairI k d) [some (SV.val (v)), some (SV.val (m)), x, y] = some [some (SV.val (v)), some (SV.val (m)), some (SV.val (.int (k : Int))), some (SV.val (d))] := rfl
theorem check_loop_bad {v m bad : D} {post : List D} (hb : F_is_plug [bad] = some (.ok (.bl false))) : ∀ (pre : List D) (k : Nat) (x y : Option SV), (∀ d ∈ pre, F_is_plug [d] = some (.ok (.bl true))) →
    ∃ ρ', forL (tgEn 2 3) bd_check_plugs_2_1 ((pre ++ bad :: post).mapIdx fun i e => pairI (k + i) e) [some (SV.val (v)), some (SV.val (m)), x, y] [] = .exc (badPlugs (.int ((k + pre.length : Nat) : Int))) ρ' []
  | [], k, x, y, _ => by
    rw [List.nil_append, enum_cons]
    exact ⟨_, forL_exc tgEn_run (check_bd_bad hb)⟩
  | d :: pre, k, x, y, h => by
    rw [List.cons_append, enum_cons, forL_next tgEn_run (check_bd_ok (h d List.mem_cons_self))]
    obtain ⟨ρ', e⟩ := check_loop_bad (post := post) hb pre (k + 1) (some (.val (.int (k : Int)))) (some (.val d)) fun d' hd => h d' (List.mem_cons_of_mem _ hd)
    refine ⟨ρ', e.trans ?_⟩
    rw [List.length_cons, Nat.add_right_comm, Nat.add_assoc]
theorem check_loop_ok {v m : D} : ∀ (pre : List D) (k : Nat) (x y : Option SV), (∀ d ∈ pre, F_is_plug [d] = some (.ok (.bl true))) →
    ∃ ρ', forL (tgEn 2 3) bd_check_plugs_2_1 (pre.mapIdx fun i e => pairI (k + i) e) [some (SV.val (v)), some (SV.val (m)), x, y] [] = .next ρ' []
  | [], k, x, y, _ => ⟨_, rfl⟩
  | d :: pre, k, x, y, h => by
    rw [enum_cons, forL_next tgEn_run (check_bd_ok (h d List.mem_cons_self))]
    exact check_loop_ok pre (k + 1) _ _ fun d' hd => h d' (List.mem_cons_of_mem _ hd)
theorem check_plugs_bad {pre post : List D} {bad : D} {most : Int} (hpre : ∀ d ∈ pre, F_is_plug [d] = some (.ok (.bl true))) (hb : F_is_plug [bad] = some (.ok (.bl false))) (hl : ((pre ++ bad :: post).length : Int) ≤ most) :
    F_check_plugs_2 [.tup (pre ++ bad :: post), .int most] = some (.error (badPlugs (.int (pre.length : Int)))) := by
  unfold F_check_plugs_2
  rw [fnP_run (by rfl)]
  unfold f_check_plugs_2
  have h1 : decide ((1 : Int) ≤ ((pre ++ bad :: post).length : Int)) = true := by simp; omega
  have h2 : decide (((pre ++ bad :: post).length : Int) ≤ most) = true := decide_eq_true hl
  obtain ⟨ρ', e⟩ := check_loop_bad (v := .tup (pre ++ bad :: post)) (m := .int most) (post := post) hb pre 0 none none hpre
  rw [← enum_zero, Nat.zero_add] at e
  push_cast [h1, h2, e]
theorem check_plugs_ok2 {ps : List Plug} {most : Int} (h : ∀ p ∈ ps, PlugOk p) (hne : ps ≠ []) (hl : (ps.length : Int) ≤ most) : F_check_plugs_2 [plugsD ps, .int most] = some (.ok .non) := by
  unfold F_check_plugs_2
  rw [fnP_run (by rfl)]
  unfold f_check_plugs_2 plugsD
  have h1 : decide ((1 : Int) ≤ (ps.length : Int)) = true := by
    cases ps with
    | nil => exact absurd rfl hne
    | cons a b => simp; omega
  have h2 : decide ((ps.length : Int) ≤ most) = true := decide_eq_true hl
  obtain ⟨ρ', e⟩ := check_loop_ok (v := .tup (ps.map encP)) (m := .int most) (ps.map encP) 0 none none (fun d hd => by
    obtain ⟨p, hp, rfl⟩ := List.mem_map.mp hd
    exact is_plug_run (h p hp))
  rw [← enum_zero] at e
  push_cast [List.length_map, h1, h2, e]
/-! ### errors go through -/
section
variable {S P V U : D} {x : Exn}
theorem plan_err (h : F_check_plugs_2 [P, .int 5] = some (.error x)) : F_check_plan_2 [S, P, V] = some (.error x) := by
  unfold F_check_plan_2; rw [fnP_run (by rfl)]; unfold f_check_plan_2
  push_cast [h]
theorem judge_err (h : F_check_plan_2 [S, P, V] = some (.error x)) : F_judge_2 [S, P, V] = some (.error x) := by
  unfold F_judge_2; rw [fnP_run (by rfl)]; unfold f_judge_2
  push_cast [h]
theorem right_err (h : F_check_plan_2 [S, P, V] = some (.error x)) : F_check_right_2 [S, P, V] = some (.error x) := by
  unfold F_check_right_2; rw [fnP_run (by rfl)]; unfold f_check_right_2
  push_cast [h]
theorem words_err (h : F_check_right_2 [S, P, V] = some (.error x)) : F_words_c [S, P, V] = some (.error x) := by
  unfold F_words_c; rw [fnP_run (by rfl)]; unfold f_words_c
  push_cast [h]
theorem rooms_err (h : F_check_right_2 [S, P, V] = some (.error x)) : F_rooms_c [S, P, V, U] = some (.error x) := by
  unfold F_rooms_c; rw [fnP_run (by rfl)]; unfold f_rooms_c
  push_cast [h]
theorem make_err (h : F_check_right_2 [S, P, V] = some (.error x)) : F_make_room_c [S, P, V, U] = some (.error x) := by
  unfold F_make_room_c; rw [fnP_run (by rfl)]; unfold f_make_room_c
  push_cast [h]
theorem rooms_errU (h : F_check_right_2 [S, P, V] = some (.ok .non)) (h2 : F_check_plug_2 [U] = some (.error x)) : F_rooms_c [S, P, V, U] = some (.error x) := by
  unfold F_rooms_c; rw [fnP_run (by rfl)]; unfold f_rooms_c
  push_cast [h, h2]
theorem make_errU (h : F_check_right_2 [S, P, V] = some (.ok .non)) (h2 : F_check_plug_2 [U] = some (.error x)) : F_make_room_c [S, P, V, U] = some (.error x) := by
  unfold F_make_room_c; rw [fnP_run (by rfl)]; unfold f_make_room_c
  push_cast [h, h2]
theorem asked_err {w : Int} (h0 : 4 ≤ w) (h9 : w < 9) (h : F_check_plugs_2 [P, .int 5] = some (.error x)) : F__law_asked [S, P, .int w] = some (.error x) := by
  have e1 : F_count_plans_c [S, P] = some (.error x) := by unfold F_count_plans_c; rw [fnP_run (by rfl)]; unfold f_count_plans_c; push_cast [h]
  have e2 : F_least_plan_c [S, P] = some (.error x) := by unfold F_least_plan_c; rw [fnP_run (by rfl)]; unfold f_least_plan_c; push_cast [h]
  have e3 : F_most_together_c [S, P] = some (.error x) := by unfold F_most_together_c; rw [fnP_run (by rfl)]; unfold f_most_together_c; push_cast [h]
  have e4 : F_bars_c [S, P] = some (.error x) := by unfold F_bars_c; rw [fnP_run (by rfl)]; unfold f_bars_c; push_cast [h]
  have e5 : F_paper_c [S, P] = some (.error x) := by unfold F_paper_c; rw [fnP_run (by rfl)]; unfold f_paper_c; push_cast [h]
  unfold F__law_asked; rw [fnP_run (by rfl)]; unfold f__law_asked
  have : w = 4 ∨ w = 5 ∨ w = 6 ∨ w = 7 ∨ w = 8 := by omega
  rcases this with rfl | rfl | rfl | rfl | rfl
  all_goals push_cast [e1, e2, e3, e4, e5, Int.reduceBEq]
abbrev toldR (S P V U : D) (w : Int) : Rho := [some (SV.val (S)), some (SV.val (P)), some (SV.val (V)), some (SV.val (U)), some (SV.val (.int w)), some (SV.val (.non)), none]
theorem tr_plugs {w : Int} (h0 : 0 ≤ w) (h9 : w < 9) (h : F_check_plugs_2 [P, .int 5] = some (.error x)) : tr__law_told_there_1 (toldR S P V U w) [] = .exc x (toldR S P V U w) [] := by
  unfold tr__law_told_there_1
  have p := plan_err (S := S) (V := V) h
  have q := right_err p
  by_cases h4 : 4 ≤ w
  · have a := asked_err (S := S) h4 h9 h
    have z0 : (w == 0) = false := by simp; omega
    have z1 : (w == 1) = false := by simp; omega
    have z2 : (w == 2) = false := by simp; omega
    have z3 : (w == 3) = false := by simp; omega
    push_cast [z0, z1, z2, z3, a]
  · have : w = 0 ∨ w = 1 ∨ w = 2 ∨ w = 3 := by omega
    rcases this with rfl | rfl | rfl | rfl
    all_goals push_cast [judge_err p, words_err q, rooms_err (U := U) q, make_err (U := U) q, Int.reduceBEq]
theorem tr_plan {w : Int} (h0 : 0 ≤ w) (h4 : w < 4) (p : F_check_plan_2 [S, P, V] = some (.error x)) : tr__law_told_there_1 (toldR S P V U w) [] = .exc x (toldR S P V U w) [] := by
  unfold tr__law_told_there_1
  have q := right_err p
  have : w = 0 ∨ w = 1 ∨ w = 2 ∨ w = 3 := by omega
  rcases this with rfl | rfl | rfl | rfl
  all_goals push_cast [judge_err p, words_err q, rooms_err (U := U) q, make_err (U := U) q, Int.reduceBEq]
theorem tr_right {w : Int} (h0 : 1 ≤ w) (h4 : w < 4) (q : F_check_right_2 [S, P, V] = some (.error x)) : tr__law_told_there_1 (toldR S P V U w) [] = .exc x (toldR S P V U w) [] := by
  unfold tr__law_told_there_1
  have : w = 1 ∨ w = 2 ∨ w = 3 := by omega
  rcases this with rfl | rfl | rfl
  all_goals push_cast [words_err q, rooms_err (U := U) q, make_err (U := U) q, Int.reduceBEq]
theorem tr_plug {w : Int} (h0 : 2 ≤ w) (h4 : w < 4) (q : F_check_right_2 [S, P, V] = some (.ok .non)) (u : F_check_plug_2 [U] = some (.error x)) : tr__law_told_there_1 (toldR S P V U w) [] = .exc x (toldR S P V U w) [] := by
  unfold tr__law_told_there_1
  have : w = 2 ∨ w = 3 := by omega
  rcases this with rfl | rfl
  all_goals push_cast [rooms_errU q u, make_errU q u, Int.reduceBEq]
end
/-! ### what the law hears -/
section
variable {S P V U : D} {w : Int}
theorem told_plugs {d : D} (h : tr__law_told_there_1 (toldR S P V U w) [] = .exc (badPlugs d) (toldR S P V U w) []) : F__law_told_there [S, P, V, U, .int w] = some (.ok (.lst [.str "plugs", d])) := by
  unfold F__law_told_there; rw [fnP_run (by rfl)]; unfold f__law_told_there
  have s1 : subX "BadPlugs" "BadPlugs" = true := by decide +kernel
  have s2 : subX "BadPlugs" "StripError" = true := by decide +kernel
  push_cast [h]
  rw [tryO_exc (c := "BadPlugs"), tryH_yes s1]
  · push_cast [s2, List.lookup, beq_self_eq_true]
  · decide +kernel
  · show 6 < 7; decide
theorem told_plan (h : tr__law_told_there_1 (toldR S P V U w) [] = .exc (bare "BadPlan") (toldR S P V U w) []) : F__law_told_there [S, P, V, U, .int w] = some (.ok (.str "plan")) := by
  unfold F__law_told_there; rw [fnP_run (by rfl)]; unfold f__law_told_there
  have s1 : subX "BadPlan" "BadPlugs" = false := by decide +kernel
  have s2 : subX "BadPlan" "BadPlan" = true := by decide +kernel
  have s3 : subX "BadPlan" "StripError" = true := by decide +kernel
  push_cast [h]
  rw [tryO_exc (c := "BadPlan"), tryH_no s1, tryH_yes s2]
  · push_cast [s3]
  · decide +kernel
  · show 6 < 7; decide
theorem told_right (h : tr__law_told_there_1 (toldR S P V U w) [] = .exc (bare "NotRight") (toldR S P V U w) []) : F__law_told_there [S, P, V, U, .int w] = some (.ok (.str "right")) := by
  unfold F__law_told_there; rw [fnP_run (by rfl)]; unfold f__law_told_there
  have s1 : subX "NotRight" "BadPlugs" = false := by decide +kernel
  have s2 : subX "NotRight" "BadPlan" = false := by decide +kernel
  have s3 : subX "NotRight" "NotRight" = true := by decide +kernel
  have s4 : subX "NotRight" "StripError" = true := by decide +kernel
  push_cast [h]
  rw [tryO_exc (c := "NotRight"), tryH_no s1, tryH_no s2, tryH_yes s3]
  · push_cast [s4]
  · decide +kernel
  · show 6 < 7; decide
theorem told_plug (h : tr__law_told_there_1 (toldR S P V U w) [] = .exc (bare "BadPlug") (toldR S P V U w) []) : F__law_told_there [S, P, V, U, .int w] = some (.ok (.str "plug")) := by
  unfold F__law_told_there; rw [fnP_run (by rfl)]; unfold f__law_told_there
  have s1 : subX "BadPlug" "BadPlugs" = false := by decide +kernel
  have s2 : subX "BadPlug" "BadPlan" = false := by decide +kernel
  have s3 : subX "BadPlug" "NotRight" = false := by decide +kernel
  have s4 : subX "BadPlug" "BadPlug" = true := by decide +kernel
  have s5 : subX "BadPlug" "StripError" = true := by decide +kernel
  push_cast [h]
  rw [tryO_exc (c := "BadPlug"), tryH_no s1, tryH_no s2, tryH_no s3, tryH_yes s4]
  · push_cast [s5]
  · decide +kernel
  · show 6 < 7; decide
end
theorem atI_mem {xs : List D} {r : Int} (h0 : 0 ≤ r) (h : r < xs.length) : ∃ d, d ∈ xs ∧ atI xs r = some d := by
  have hl : r.toNat < xs.length := by omega
  exact ⟨xs[r.toNat], List.getElem_mem hl, by rw [atI_get' h0, List.getElem?_eq_getElem hl]⟩
/-! ### a strip -/
theorem strip_init2 {s : List Int} (h : Socks s) (hl : s.length ≤ 9) : F_Strip_d__init_d__2 [.own 0, .val (socksD s)] [some (.ins "Strip" [])] = .ok (.val .non) [some (.ins "Strip" [("rows", socksD s)])] := by
  have h1 : decide ((1 : Int) ≤ (s.length : Int)) = true := by
    have : s.length ≠ 0 := fun z => h.ne (List.eq_nil_of_length_eq_zero z)
    simp; omega
  have h2 : decide ((s.length : Int) ≤ 9) = true := by simp; omega
  have e9 : itSeq (socksD s) = some (s.map D.int) := rfl
  have e10 : slD (some 1) none (socksD s) = some (.tup ((s.map D.int).drop 1)) := cut1 _
  have e11 : ∀ x, itZ (socksD s) (.tup x) = some (zipD (s.map D.int) x) := fun x => rfl
  have e5 : lc_Strip_d__init_d__2_1 [some (SV.own 0), some (SV.val (socksD s)), none, none] [some (.ins "Strip" [])] = .ok (.lst (List.replicate (s.map D.int).length (.bl true))) [some (.ins "Strip" [])] := by
    unfold lc_Strip_d__init_d__2_1
    push_cast [e9]
    exact lcL_true (by rw [List.length_map]; show _ ≤ 16777216; omega) (fun d hd => by
      refine ⟨_, rfl, ?_⟩
      obtain ⟨x, hx, rfl⟩ := List.mem_map.mp hd
      have e : F_is_from [.int x, .int 0, .int 300] = some (.ok (.bl true)) := by rw [is_from_run, decide_eq_true (h.rg x hx)]
      push_cast [e])
  have e6 : lc_Strip_d__init_d__2_2 [some (SV.own 0), some (SV.val (socksD s)), none, none] [some (.ins "Strip" [])] = .ok (.lst (List.replicate (zipD (s.map D.int) ((s.map D.int).drop 1)).length (.bl true))) [some (.ins "Strip" [])] := by
    unfold lc_Strip_d__init_d__2_2
    push_cast [e10, e11]
    exact lcL_true (by unfold zipD; rw [List.length_zipWith, List.length_map]; show _ ≤ 16777216; omega) (fun d hd => by
      obtain ⟨a, b, rfl, hab⟩ := zip_tail s h.asc d hd
      refine ⟨_, rfl, ?_⟩
      push_cast [decide_eq_true hab])
  unfold F_Strip_d__init_d__2
  rw [fnE_run (by rfl)]
  unfold f_Strip_d__init_d__2
  have e7 : oLen [socksD s] = some (.int s.length) := by unfold socksD; rw [oLen_tup, List.length_map]
  have e8 : isiD "tuple" (socksD s) = some (.bl true) := isi_tuple_tup _
  push_cast [h1, h2, e5, e6, e7, e8, oAllL_true]
  rfl
/-! ### odd plugs -/
def oddP : List D := [.non, .tup [.int 1, .int 2], .lst [.int 1, .int 2, .bl true], .tup [.int 1, .int 2, .int 1], .tup [.int 61, .int 0, .bl true], .tup [.int 0, .int (-1), .bl false], .tup [.bl true, .int 0, .bl false], .tup [.int 0, .int 0, .non], .str "plug"]
theorem oddP_bad {d : D} (h : d ∈ oddP) : F_is_plug [d] = some (.ok (.bl false)) := by
  unfold oddP at h
  simp only [List.mem_cons, List.not_mem_nil, or_false] at h
  rcases h with rfl | rfl | rfl | rfl | rfl | rfl | rfl | rfl | rfl <;> rfl
theorem odd_plug {ns : List Int} {rest ω : Om} (h : IsRow ns rest ω) : ∃ d ω', IsRow ns rest ω' ∧ d ∈ oddP ∧ F__law_odd_plug [.own 0] ω = .ok (.val d) ω' := by
  obtain ⟨r, ω1, w1, a1, b1, e1⟩ := pick (m := 9) h (by decide) (by decide)
  obtain ⟨d, hd, e2⟩ := atI_mem (xs := oddP) a1 b1
  refine ⟨d, ω1, w1, hd, ?_⟩
  unfold F__law_odd_plug
  rw [fnE_run (by rfl)]
  unfold f__law_odd_plug
  unfold oddP at e2
  push_cast [e1, e2, row_take h w1]
theorem check_plug_bad {d : D} (h : F_is_plug [d] = some (.ok (.bl false))) : F_check_plug_2 [d] = some (.error (bare "BadPlug")) := by
  unfold F_check_plug_2; rw [fnP_run (by rfl)]; unfold f_check_plug_2
  push_cast [h]
theorem check_plug_ok {p : Plug} (h : PlugOk p) : F_check_plug_2 [encP p] = some (.ok .non) := by
  unfold F_check_plug_2; rw [fnP_run (by rfl)]; unfold f_check_plug_2
  push_cast [is_plug_run h]
/-! ### plans -/
section
variable {s : List Int} {ps : List Plug} {plan : Plan}
structure PlsOk (ps : List Plug) : Prop where
  ok : ∀ p ∈ ps, PlugOk p
  ne : ps ≠ []
  len : ps.length ≤ 5
theorem PlsOk.chk (h : PlsOk ps) : F_check_plugs_2 [plugsD ps, .int 5] = some (.ok .non) := check_plugs_ok2 h.ok h.ne (by have := h.len; omega)
theorem plan_notT {V : D} (h : PlsOk ps) (hv : isiD "tuple" V = some (.bl false)) : F_check_plan_2 [stripD s, plugsD ps, V] = some (.error (bare "BadPlan")) := by
  unfold F_check_plan_2; rw [fnP_run (by rfl)]; unfold f_check_plan_2
  push_cast [h.chk, hv]
theorem plan_len {ds : List D} (h : PlsOk ps) (hl : ds.length ≠ ps.length) : F_check_plan_2 [stripD s, plugsD ps, .tup ds] = some (.error (bare "BadPlan")) := by
  unfold F_check_plan_2; rw [fnP_run (by rfl)]; unfold f_check_plan_2
  have e : ((ds.length : Int) == (ps.length : Int)) = false := by
    rw [beq_eq_false_iff_ne]; omega
  push_cast [h.chk, len_plugs, e]
theorem plan_all {ds : List D} (g : D → Bool) (h : PlsOk ps) (hl : ds.length = ps.length) (hg : ∀ d ∈ ds, isNon d = true ∨ F_is_place [stripD s, d] = some (.ok (.bl (g d)))) :
    F_check_plan_2 [stripD s, plugsD ps, .tup ds] = if ds.all (fun d => isNon d || g d) = true then some (.ok .non) else some (.error (bare "BadPlan")) := by
  unfold F_check_plan_2; rw [fnP_run (by rfl)]; unfold f_check_plan_2
  have e : ((ds.length : Int) == (ps.length : Int)) = true := by rw [beq_iff_eq]; omega
  have c : lc_check_plan_2_1 [some (SV.val (stripD s)), some (SV.val (plugsD ps)), some (SV.val (.tup ds)), none] [] = .ok (.lst (ds.map fun d => .bl (isNon d || g d))) [] := by
    unfold lc_check_plan_2_1
    push_cast []
    refine lcL_bools (fun d => isNon d || g d) (by have := h.len; show _ ≤ 16777216; omega) fun d hd => ⟨_, rfl, ?_⟩
    cases hn : isNon d with
    | true => push_cast [hn, Bool.true_or]
    | false =>
      have q := (hg d hd).resolve_left (by rw [hn]; decide)
      push_cast [hn, Bool.false_or, q]
  have t : isiD "tuple" (.tup ds) = some (.bl true) := isi_tuple_tup _
  cases q : ds.all (fun d => isNon d || g d) with
  | true => push_cast [h.chk, len_plugs, e, c, all_mapQ, q]
  | false => push_cast [h.chk, len_plugs, e, c, all_mapQ, q]
theorem plan_ok2 (h : PlsOk ps) (hlen : plan.length = ps.length) (hp : PlanOk s.length plan) : F_check_plan_2 [stripD s, plugsD ps, planD plan] = some (.ok .non) := by
  have := plan_all (s := s) (ds := plan.map encO) (fun _ => true) h (by rw [List.length_map]; exact hlen) (fun d hd => by
    obtain ⟨o, ho, rfl⟩ := List.mem_map.mp hd
    cases o with
    | none => exact .inl rfl
    | some pl => exact .inr (is_place_run (hp pl ho)))
  rw [if_pos (by simp)] at this
  exact this
theorem right_ok2 (h : PlsOk ps) (hlen : plan.length = ps.length) (hp : PlanOk s.length plan) (hf : isNon (fault s ps plan) = true) : F_check_right_2 [stripD s, plugsD ps, planD plan] = some (.ok .non) := by
  unfold F_check_right_2; rw [fnP_run (by rfl)]; unfold f_check_right_2
  have f := fault_run (s := s) hlen hp (by have := h.len; omega)
  push_cast [plan_ok2 h hlen hp, f, hf]
theorem right_bad2 (h : PlsOk ps) (hlen : plan.length = ps.length) (hp : PlanOk s.length plan) (hf : isNon (fault s ps plan) = false) : F_check_right_2 [stripD s, plugsD ps, planD plan] = some (.error (bare "NotRight")) := by
  unfold F_check_right_2; rw [fnP_run (by rfl)]; unfold f_check_right_2
  have f := fault_run (s := s) hlen hp (by have := h.len; omega)
  push_cast [plan_ok2 h hlen hp, f, hf]
/-- places that are none -/
def oddL (s : List Int) : List D := [.int 5, .tup [.int 0], .tup [.int 0, .int 0], .tup [.int (s.length : Int), .bl false], .tup [.int (-1), .bl false], .tup [.bl true, .bl false], .lst [.int 0, .bl false], .tup [.int 0, .bl false, .int 0], .str "0"]
theorem oddL_bad {d : D} (h : d ∈ oddL s) : F_is_place [stripD s, d] = some (.ok (.bl false)) ∧ isNon d = false := by
  unfold oddL at h
  simp only [List.mem_cons, List.not_mem_nil, or_false] at h
  have n2 : F_is_from [.int (s.length : Int), .int 0, .int ((s.length : Int) - 1)] = some (.ok (.bl false)) := by rw [is_from_run, decide_eq_false (by omega)]
  have n3 : F_is_from [.int (-1), .int 0, .int ((s.length : Int) - 1)] = some (.ok (.bl false)) := by rw [is_from_run, decide_eq_false (by omega)]
  have n4 : F_is_from [.bl true, .int 0, .int ((s.length : Int) - 1)] = some (.ok (.bl false)) := rfl
  have n5 : ∃ b, F_is_from [.int 0, .int 0, .int ((s.length : Int) - 1)] = some (.ok (.bl b)) := ⟨_, is_from_run _ _ _⟩
  have e7 : ((2 : Nat) : Int) = 2 := rfl
  rcases h with rfl | rfl | rfl | rfl | rfl | rfl | rfl | rfl | rfl
  · exact ⟨rfl, rfl⟩
  · exact ⟨rfl, rfl⟩
  · refine ⟨?_, rfl⟩
    obtain ⟨b, hb⟩ := n5
    unfold F_is_place; rw [fnP_run (by rfl)]; unfold f_is_place
    cases b <;> push_cast [fld_rows, socksD, List.length_map, hb, e7, beq_self_eq_true]
  · refine ⟨?_, rfl⟩
    unfold F_is_place; rw [fnP_run (by rfl)]; unfold f_is_place
    push_cast [fld_rows, socksD, List.length_map, n2, e7, beq_self_eq_true]
  · refine ⟨?_, rfl⟩
    unfold F_is_place; rw [fnP_run (by rfl)]; unfold f_is_place
    push_cast [fld_rows, socksD, List.length_map, n3, e7, beq_self_eq_true]
  · refine ⟨?_, rfl⟩
    unfold F_is_place; rw [fnP_run (by rfl)]; unfold f_is_place
    push_cast [fld_rows, socksD, List.length_map, n4, e7, beq_self_eq_true]
  · exact ⟨rfl, rfl⟩
  · exact ⟨rfl, rfl⟩
  · exact ⟨rfl, rfl⟩
end
theorem opNe_refl {d : D} (n : Nat) (h : dOk n d = true) (hn : n ≤ 64) : opNe d d = some (.bl false) := by
  unfold opNe; rw [eqD_refl n h hn]; rfl
theorem dOk_pl (i : Int) : dOk 3 (.lst [.str "plugs", .int i]) = true := by
  have h : dOk 2 (.str "plugs") = true := by decide +kernel
  have h2 : dOk 2 (.int i) = true := by unfold dOk; rfl
  show (dOk 2 (.str "plugs") && (dOk 2 (.int i) && true)) = true
  rw [h, h2]; rfl
theorem Socks.pos {s : List Int} (h : Socks s) : 0 < s.length := by
  rcases Nat.eq_zero_or_pos s.length with z | z
  · exact absurd (List.eq_nil_of_length_eq_zero z) h.ne
  · exact z
theorem PlsOk.pos {ps : List Plug} (h : PlsOk ps) : 0 < ps.length := by
  rcases Nat.eq_zero_or_pos ps.length with z | z
  · exact absurd (List.eq_nil_of_length_eq_zero z) h.ne
  · exact z
def sixD : D := .tup (List.replicate 6 (.tup [.int 0, .int 0, .bl true]))
/-- odd values in the place of plugs -/
theorem oddV_bad {ps : List Plug} {d : D} (h : d ∈ [D.non, .tup [], .lst (ps.map encP), sixD, .str "plugs"]) : F_check_plugs_2 [d, .int 5] = some (.error (badPlugs .non)) := by
  simp only [List.mem_cons, List.not_mem_nil, or_false] at h
  rcases h with rfl | rfl | rfl | rfl | rfl <;> rfl
/-- a plug in the place of another -/
theorem wrong_bad {ps : List Plug} {k : Nat} {d : D} (h : PlsOk ps) (hk : k < ps.length) (hd : d ∈ oddP) : F_check_plugs_2 [.tup ((ps.map encP).take k ++ [d] ++ (ps.map encP).drop (k + 1)), .int 5] = some (.error (badPlugs (.int (k : Int)))) := by
  have e := check_plugs_bad (pre := (ps.map encP).take k) (post := (ps.map encP).drop (k + 1)) (most := 5) (fun d hd => by
    obtain ⟨p, hp, rfl⟩ := List.mem_map.mp (List.mem_of_mem_take hd)
    exact is_plug_run (h.ok p hp)) (oddP_bad hd) (by
    have := h.len
    simp only [List.length_append, List.length_take, List.length_cons, List.length_drop, List.length_map]
    omega)
  rw [List.append_assoc]
  have hl : ((ps.map encP).take k).length = k := by rw [List.length_take, List.length_map]; omega
  rw [hl] at e
  exact e
/-- odd plans -/
theorem oddPl_bad {s : List Int} {ps : List Plug} {plan : Plan} {k : Nat} {d V : D} (h : PlsOk ps) (hlen : plan.length = ps.length) (hp : PlanOk s.length plan) (hk : k < ps.length) (hd : d ∈ oddL s)
    (hV : V ∈ [D.non, .lst (plan.map encO), .tup (plan.map encO ++ [.non]), .tup ((plan.map encO).drop 1), .tup ((plan.map encO).take k ++ [d] ++ (plan.map encO).drop (k + 1))]) : F_check_plan_2 [stripD s, plugsD ps, V] = some (.error (bare "BadPlan")) := by
  have h0 := h.pos
  simp only [List.mem_cons, List.not_mem_nil, or_false] at hV
  rcases hV with rfl | rfl | rfl | rfl | rfl
  · exact plan_notT h rfl
  · exact plan_notT h rfl
  · exact plan_len h (by simp only [List.length_append, List.length_map, List.length_cons, List.length_nil]; omega)
  · exact plan_len h (by simp only [List.length_drop, List.length_map]; omega)
  · obtain ⟨b1, b2⟩ := oddL_bad hd
    have inO : ∀ e : D, e ∈ plan.map encO → isNon e = true ∨ ∃ pl, e = encL pl ∧ pl.1 < s.length := fun e he => by
      obtain ⟨o, ho, rfl⟩ := List.mem_map.mp he
      cases o with
      | none => exact .inl rfl
      | some pl => exact .inr ⟨pl, rfl, hp pl ho⟩
    have key : ∀ e ∈ (plan.map encO).take k ++ [d] ++ (plan.map encO).drop (k + 1), isNon e = true ∨ ∃ b, F_is_place [stripD s, e] = some (.ok (.bl b)) := fun e he => by
      rcases List.mem_append.mp he with he | he
      · rcases List.mem_append.mp he with he | he
        · rcases inO e (List.mem_of_mem_take he) with z | ⟨pl, rfl, hl⟩
          · exact .inl z
          · exact .inr ⟨_, is_place_run hl⟩
        · rw [List.mem_singleton.mp he]; exact .inr ⟨_, b1⟩
      · rcases inO e (List.mem_of_mem_drop he) with z | ⟨pl, rfl, hl⟩
        · exact .inl z
        · exact .inr ⟨_, is_place_run hl⟩
    have a := plan_all (s := s) (ds := (plan.map encO).take k ++ [d] ++ (plan.map encO).drop (k + 1)) (fun e => match F_is_place [stripD s, e] with | some (.ok (.bl b)) => b | _ => false) h (by
      simp only [List.length_append, List.length_take, List.length_cons, List.length_nil, List.length_drop, List.length_map]; omega) (fun e he => by
      rcases key e he with z | ⟨b, z⟩
      · exact .inl z
      · exact .inr (by rw [z]))
    rw [if_neg] at a
    · exact a
    · intro z
      have := List.all_eq_true.mp z d (by simp)
      rw [b1, b2] at this
      cases this
theorem mul6 : opMulA (.tup [.tup [.int 0, .int 0, .bl true]]) (.int 6) = some sixD := rfl
theorem mul2L : opMulA (.tup [.tup [.int 0, .bl false]]) (.int 2) = some (planD [some (0, false), some (0, false)]) := rfl
theorem mul2P : opMulA (.tup [.tup [.int 1, .int 1, .bl true]]) (.int 2) = some (plugsD [(1, 1, true), (1, 1, true)]) := rfl
theorem worse_bad {s : List Int} (h : 0 < s.length) : F_check_right_2 [stripD s, plugsD [(1, 1, true), (1, 1, true)], planD [some (0, false), some (0, false)]] = some (.error (bare "NotRight")) := by
  refine right_bad2 ⟨fun p hp => ?_, by decide, by decide⟩ rfl (fun pl hp => ?_) rfl
  · simp only [List.mem_cons, List.not_mem_nil, or_false] at hp
    rcases hp with rfl | rfl <;> exact ⟨by decide, by decide, by decide, by decide⟩
  · simp only [List.mem_cons, List.not_mem_nil, or_false, Option.some.injEq] at hp
    rcases hp with rfl | rfl <;> exact h
theorem turn_run {ns : List Int} {ω : Om} {d : D} (x3 x4 x5 x6 x7 x8 x9 x10 x11 x12 : Option SV) (w : IsRow ns [] ω) : ∃ ω' y3 y4 y5 y6 y7 y8 y9 y10 y11 y12, IsRow ns [] ω' ∧
    bd_law_3_1 [some (SV.val (.lst (ns.map D.int))), some (SV.own 0), some (SV.val (d)), x3, x4, x5, x6, x7, x8, x9, x10, x11, x12] ω
      = .next [some (SV.val (.lst (ns.map D.int))), some (SV.own 0), some (SV.val (d)), y3, y4, y5, y6, y7, y8, y9, y10, y11, y12] ω' := by
  obtain ⟨s, ω1, w1, hS, hs6, e1⟩ := sockets (most := 6) w (by decide) (by decide)
  obtain ⟨ps, ω2, w2, hp1, hp0, hp4, e2⟩ := plugs (most := 4) w1 (by decide) (by decide)
  have hP : PlsOk ps := ⟨hp1, hp0, by omega⟩
  obtain ⟨r3, ω3, w3, a3, b3, e3⟩ := pick (m := 9) w2 (by decide) (by decide)
  have e1' : F__law_sockets [.own 0, .val (.int 6)] ω = .ok (.val (socksD s)) ω1 := e1
  have e2' : F__law_plugs [.own 0, .val (.int 4)] ω1 = .ok (.val (plugsD ps)) ω2 := e2
  have hpp := hP.pos
  obtain ⟨r4, ω4, w4, a4, b4, e4⟩ := pick (m := (ps.length : Int)) w3 (by omega) (by omega)
  obtain ⟨k, rfl⟩ : ∃ k : Nat, r4 = k := ⟨r4.toNat, by omega⟩
  have hk : k < ps.length := by omega
  obtain ⟨o5, ω5, w5, h5, e5⟩ := odd_plug w4
  obtain ⟨r6, ω6, w6, a6, b6, e6⟩ := pick (m := 5) w5 (by decide) (by decide)
  obtain ⟨V6, h6, e6'⟩ := atI_mem (xs := [D.non, .tup [], .lst (ps.map encP), sixD, .str "plugs"]) a6 b6
  obtain ⟨plan, ω7, w7, g1, g2, g3, e7⟩ := law_part_run w6 hS.pos (by omega) hpp (by omega)
  obtain ⟨r8, ω8, w8, a8, b8, e8⟩ := pick (m := 4) w7 (by decide) (by decide)
  obtain ⟨r9, ω9, w9, a9, b9, e9⟩ := pick (m := 9) w8 (by decide) (by decide)
  obtain ⟨L9, h9, e9'⟩ := atI_mem (xs := oddL s) a9 b9
  obtain ⟨r10, ω10, w10, a10, b10, e10⟩ := pick (m := 5) w9 (by decide) (by decide)
  obtain ⟨V10, h10, e10'⟩ := atI_mem (xs := [D.non, .lst (plan.map encO), .tup (plan.map encO ++ [.non]), .tup ((plan.map encO).drop 1), .tup ((plan.map encO).take k ++ [L9] ++ (plan.map encO).drop (k + 1))]) a10 b10
  obtain ⟨r11, ω11, w11, a11, b11, e11⟩ := pick (m := 3) w10 (by decide) (by decide)
  obtain ⟨o12, ω12, w12, h12, e12⟩ := odd_plug w11
  obtain ⟨r13, ω13, w13, a13, b13, e13⟩ := pick (m := 2) w12 (by decide) (by decide)
  have t1 := told_plugs (tr_plugs (S := stripD s) (V := .non) (U := .non) a3 b3 (wrong_bad hP hk h5))
  have t2 := told_plugs (tr_plugs (S := stripD s) (V := .non) (U := .non) a3 b3 (oddV_bad h6))
  have t3 := told_plan (tr_plan (U := .non) a8 b8 (oddPl_bad hP g1 g2 hk h9 h10))
  have t4 := told_right (tr_right (U := .non) (w := 1 + r11) (by omega) (by omega) (worse_bad hS.pos))
  have t5 := told_plug (tr_plug (w := 2 + r13) (by omega) (by omega) (right_ok2 hP g1 g2 g3) (check_plug_bad (oddP_bad h12)))
  have n1 : eqD (.lst [.str "plugs", .int (k : Int)]) (.lst [.str "plugs", .int (k : Int)]) = some true := eqD_refl 3 (dOk_pl _) (by decide)
  have n2 : eqD (.lst [.str "plugs", .non]) (.lst [.str "plugs", .non]) = some true := eqD_refl 3 (by decide +kernel) (by decide)
  have n3 : eqD (.str "plan") (.str "plan") = some true := eqD_refl 3 (by decide +kernel) (by decide)
  have n4 : eqD (.str "right") (.str "right") = some true := eqD_refl 3 (by decide +kernel) (by decide)
  have n5 : eqD (.str "plug") (.str "plug") = some true := eqD_refl 3 (by decide +kernel) (by decide)
  have m1 := strip_init2 hS (by omega)
  have pl := hP.len
  have c1 : slD none (some (k : Int)) (plugsD ps) = some (.tup ((ps.map encP).take k)) := cut_lo _ _
  have c2 : slD (some ((k : Int) + 1)) none (plugsD ps) = some (.tup ((ps.map encP).drop (k + 1))) := cut_hi _ _
  have c3 : slD none (some (k : Int)) (planD plan) = some (.tup ((plan.map encO).take k)) := cut_lo _ _
  have c4 : slD (some ((k : Int) + 1)) none (planD plan) = some (.tup ((plan.map encO).drop (k + 1))) := cut_hi _ _
  have c5 : slD (some 1) none (planD plan) = some (.tup ((plan.map encO).drop 1)) := cut1 _
  have l1 : oList [plugsD ps] = some (.lst (ps.map encP)) := rfl
  have l2 : oList [planD plan] = some (.lst (plan.map encO)) := rfl
  have d1 : opAdd (.tup ((ps.map encP).take k)) (.tup [o5]) = some (.tup ((ps.map encP).take k ++ [o5])) := opAdd_tup (by
    simp only [List.length_take, List.length_map, List.length_cons, List.length_nil]; show _ ≤ 16777216; omega)
  have d2 : opAdd (.tup ((ps.map encP).take k ++ [o5])) (.tup ((ps.map encP).drop (k + 1))) = some (.tup ((ps.map encP).take k ++ [o5] ++ (ps.map encP).drop (k + 1))) := opAdd_tup (by
    simp only [List.length_append, List.length_take, List.length_drop, List.length_map, List.length_cons, List.length_nil]; show _ ≤ 16777216; omega)
  have d3 : opAdd (.tup ((plan.map encO).take k)) (.tup [L9]) = some (.tup ((plan.map encO).take k ++ [L9])) := opAdd_tup (by
    simp only [List.length_take, List.length_map, List.length_cons, List.length_nil]; show _ ≤ 16777216; omega)
  have d4 : opAdd (.tup ((plan.map encO).take k ++ [L9])) (.tup ((plan.map encO).drop (k + 1))) = some (.tup ((plan.map encO).take k ++ [L9] ++ (plan.map encO).drop (k + 1))) := opAdd_tup (by
    simp only [List.length_append, List.length_take, List.length_drop, List.length_map, List.length_cons, List.length_nil]; show _ ≤ 16777216; omega)
  have d5 : opAdd (planD plan) (.tup [.non]) = some (.tup (plan.map encO ++ [.non])) := opAdd_tup (by
    simp only [List.length_map, List.length_cons, List.length_nil]; show _ ≤ 16777216; omega)
  unfold oddL at e9'
  have st : D.obj "Strip" [("rows", socksD s)] = stripD s := rfl
  refine ⟨ω13, some (.val (.tup ((ps.map encP).take k ++ [o5] ++ (ps.map encP).drop (k + 1)))), some (.val (.lst [D.non, .lst (plan.map encO), .tup (plan.map encO ++ [.non]), .tup ((plan.map encO).drop 1), .tup ((plan.map encO).take k ++ [L9] ++ (plan.map encO).drop (k + 1))])), some (.val (.lst (oddL s))), some (.val (.int (1 + r11))),
    some (.val (planD [some (0, false), some (0, false)])), some (.val (socksD s)), some (.val (plugsD ps)), some (.val (stripD s)), some (.val (.int (k : Int))), some (.val (planD plan)), w13, ?_⟩
  unfold oddL
  unfold bd_law_3_1
  push_cast [e1', e2', e3, m1, st, len_plugs, e4, c1, e5, d1, c2, d2, t1, n1, l1, mul6, e6, e6', t2, n2, e7, e8, len_socks, l2, d5, c5, c3, e9, e9', d3, c4, d4, e10, e10', t3, n3, e11, mul2L, mul2P, t4, n4, e12, e13, t5, n5]
theorem law_true_3 (ns : List Int) : F_law_3 [.lst (ns.map D.int)] = some (.ok (.bl true)) := by
  unfold F_law_3
  rw [fnP_run (by rfl)]
  unfold f_law_3
  have h4 : itR1 (.int 4) = some (rngD 0 4) := itR1_run (by decide) (by decide)
  obtain ⟨ρ', ω', e, w, x2, x3, x4, x5, x6, x7, x8, x9, x10, x11, x12, rfl⟩ := forL_all (tg := gN 2) (b := bd_law_3_1) (ds := rngD 0 4) (ω := [some (.lst (rowD ns 0 0 7))]) (ρ := [some (SV.val (.lst (ns.map D.int))), some (SV.own 0), none, none, none, none, none, none, none, none, none, none, none])
    (fun i ρ ω => IsRow ns [] ω ∧ ∃ (x2 x3 x4 x5 x6 x7 x8 x9 x10 x11 x12 : Option SV), ρ = [some (SV.val (.lst (ns.map D.int))), some (SV.own 0), x2, x3, x4, x5, x6, x7, x8, x9, x10, x11, x12])
    ⟨draws_row ns, none, none, none, none, none, none, none, none, none, none, none, rfl⟩ (by
    rintro i d ρ ω hd ⟨w, x2, x3, x4, x5, x6, x7, x8, x9, x10, x11, x12, rfl⟩
    obtain ⟨ω', y3, y4, y5, y6, y7, y8, y9, y10, y11, y12, w', e⟩ := turn_run (d := d) x3 x4 x5 x6 x7 x8 x9 x10 x11 x12 w
    exact ⟨_, _, ω', rfl, e, w', _, _, _, _, _, _, _, _, _, _, _, rfl⟩)
  push_cast [draws_run, h4, e]
end Pk
namespace K03
open PySem L2 Dl
def topS (i : Nat) : Stmt := PySem.Challenge.pw_plugstrip_k03_values_refused.main.body.getD i (.Pass ⟨0, 0, 0, 0⟩)
abbrev s_BadPlugs_d__init_d_ : Stmt := inClass (topS 7) 0
abbrev N_BadPlugs_d__init_d_ : List Str := ["self", "index"]
theorem sc_BadPlugs_d__init_d_ : FnScope N_BadPlugs_d__init_d_ ["self", "index"] (defScope s_BadPlugs_d__init_d_) := ⟨rfl, rfl, rfl, by decide +kernel, rfl, by decide +kernel, by decide +kernel⟩
abbrev s__law_draws : Stmt := topS 62
abbrev N__law_draws : List Str := ["_law_script"]
theorem sc__law_draws : FnScope N__law_draws ["_law_script"] (defScope s__law_draws) := ⟨rfl, rfl, rfl, by decide +kernel, rfl, by decide +kernel, by decide +kernel⟩
abbrev s__law_pick : Stmt := topS 63
abbrev N__law_pick : List Str := ["_law_row", "_law_many", "_law_found", "_law_cell"]
theorem sc__law_pick : FnScope N__law_pick ["_law_row", "_law_many"] (defScope s__law_pick) := ⟨rfl, rfl, rfl, by decide +kernel, rfl, by decide +kernel, by decide +kernel⟩
abbrev s__law_sockets : Stmt := topS 64
abbrev N__law_sockets : List Str := ["_law_row", "_law_most", "_law_k", "_law_found", "_law_here"]
theorem sc__law_sockets : FnScope N__law_sockets ["_law_row", "_law_most"] (defScope s__law_sockets) := ⟨rfl, rfl, rfl, by decide +kernel, rfl, by decide +kernel, by decide +kernel⟩
abbrev s__law_plug : Stmt := topS 65
abbrev N__law_plug : List Str := ["_law_row", "_law_left", "_law_right"]
theorem sc__law_plug : FnScope N__law_plug ["_law_row"] (defScope s__law_plug) := ⟨rfl, rfl, rfl, by decide +kernel, rfl, by decide +kernel, by decide +kernel⟩
abbrev s__law_plugs : Stmt := topS 66
abbrev N__law_plugs : List Str := ["_law_row", "_law_most", "_law_k"]
theorem sc__law_plugs : FnScope N__law_plugs ["_law_row", "_law_most"] (defScope s__law_plugs) := ⟨rfl, rfl, rfl, by decide +kernel, rfl, by decide +kernel, by decide +kernel⟩
abbrev s_is_from : Stmt := topS 13
abbrev N_is_from : List Str := ["value", "low", "high"]
theorem sc_is_from : FnScope N_is_from ["value", "low", "high"] (defScope s_is_from) := ⟨rfl, rfl, rfl, by decide +kernel, rfl, by decide +kernel, by decide +kernel⟩
abbrev s_Strip_d__init_d_ : Stmt := inClass (topS 14) 0
abbrev N_Strip_d__init_d_ : List Str := ["self", "sockets", "one", "other"]
theorem sc_Strip_d__init_d_ : FnScope N_Strip_d__init_d_ ["self", "sockets"] (defScope s_Strip_d__init_d_) := ⟨rfl, rfl, rfl, by decide +kernel, rfl, by decide +kernel, by decide +kernel⟩
abbrev s_is_plug : Stmt := topS 15
abbrev N_is_plug : List Str := ["value", "one"]
theorem sc_is_plug : FnScope N_is_plug ["value"] (defScope s_is_plug) := ⟨rfl, rfl, rfl, by decide +kernel, rfl, by decide +kernel, by decide +kernel⟩
abbrev s_check_plugs : Stmt := topS 17
abbrev N_check_plugs : List Str := ["value", "most", "index", "plug"]
theorem sc_check_plugs : FnScope N_check_plugs ["value", "most"] (defScope s_check_plugs) := ⟨rfl, rfl, rfl, by decide +kernel, rfl, by decide +kernel, by decide +kernel⟩
abbrev s_is_place : Stmt := topS 21
abbrev N_is_place : List Str := ["strip", "value"]
theorem sc_is_place : FnScope N_is_place ["strip", "value"] (defScope s_is_place) := ⟨rfl, rfl, rfl, by decide +kernel, rfl, by decide +kernel, by decide +kernel⟩
abbrev s_check_plan : Stmt := topS 22
abbrev N_check_plan : List Str := ["strip", "plugs", "value", "place"]
theorem sc_check_plan : FnScope N_check_plan ["strip", "plugs", "value"] (defScope s_check_plan) := ⟨rfl, rfl, rfl, by decide +kernel, rfl, by decide +kernel, by decide +kernel⟩
abbrev s_can_turn : Stmt := topS 18
abbrev N_can_turn : List Str := ["plug"]
theorem sc_can_turn : FnScope N_can_turn ["plug"] (defScope s_can_turn) := ⟨rfl, rfl, rfl, by decide +kernel, rfl, by decide +kernel, by decide +kernel⟩
abbrev s_pairs_of : Stmt := topS 25
abbrev N_pairs_of : List Str := ["plan", "here", "index", "place", "one", "other"]
theorem sc_pairs_of : FnScope N_pairs_of ["plan"] (defScope s_pairs_of) := ⟨rfl, rfl, rfl, by decide +kernel, rfl, by decide +kernel, by decide +kernel⟩
abbrev s_sides : Stmt := topS 19
abbrev N_sides : List Str := ["plug", "turned"]
theorem sc_sides : FnScope N_sides ["plug", "turned"] (defScope s_sides) := ⟨rfl, rfl, rfl, by decide +kernel, rfl, by decide +kernel, by decide +kernel⟩
abbrev s_body : Stmt := topS 23
abbrev N_body : List Str := ["strip", "plug", "place", "left", "right"]
theorem sc_body : FnScope N_body ["strip", "plug", "place"] (defScope s_body) := ⟨rfl, rfl, rfl, by decide +kernel, rfl, by decide +kernel, by decide +kernel⟩
abbrev s_are_apart : Stmt := topS 24
abbrev N_are_apart : List Str := ["strip", "one", "first", "other", "second", "a", "b"]
theorem sc_are_apart : FnScope N_are_apart ["strip", "one", "first", "other", "second"] (defScope s_are_apart) := ⟨rfl, rfl, rfl, by decide +kernel, rfl, by decide +kernel, by decide +kernel⟩
abbrev s_fault_of : Stmt := topS 26
abbrev N_fault_of : List Str := ["strip", "plugs", "plan", "index", "place", "one", "other"]
theorem sc_fault_of : FnScope N_fault_of ["strip", "plugs", "plan"] (defScope s_fault_of) := ⟨rfl, rfl, rfl, by decide +kernel, rfl, by decide +kernel, by decide +kernel⟩
abbrev s_judge : Stmt := topS 27
abbrev N_judge : List Str := ["strip", "plugs", "plan"]
theorem sc_judge : FnScope N_judge ["strip", "plugs", "plan"] (defScope s_judge) := ⟨rfl, rfl, rfl, by decide +kernel, rfl, by decide +kernel, by decide +kernel⟩
abbrev s_check_right : Stmt := topS 55
abbrev N_check_right : List Str := ["strip", "plugs", "plan"]
theorem sc_check_right : FnScope N_check_right ["strip", "plugs", "plan"] (defScope s_check_right) := ⟨rfl, rfl, rfl, by decide +kernel, rfl, by decide +kernel, by decide +kernel⟩
abbrev s_words : Stmt := topS 57
abbrev N_words : List Str := ["strip", "plugs", "plan"]
theorem sc_words : FnScope N_words ["strip", "plugs", "plan"] (defScope s_words) := ⟨rfl, rfl, rfl, by decide +kernel, rfl, by decide +kernel, by decide +kernel⟩
abbrev s_check_plug : Stmt := topS 16
abbrev N_check_plug : List Str := ["value"]
theorem sc_check_plug : FnScope N_check_plug ["value"] (defScope s_check_plug) := ⟨rfl, rfl, rfl, by decide +kernel, rfl, by decide +kernel, by decide +kernel⟩
abbrev s_rooms : Stmt := topS 58
abbrev N_rooms : List Str := ["strip", "plugs", "plan", "plug", "used", "found", "place", "rows", "other", "there"]
theorem sc_rooms : FnScope N_rooms ["strip", "plugs", "plan", "plug"] (defScope s_rooms) := ⟨rfl, rfl, rfl, by decide +kernel, rfl, by decide +kernel, by decide +kernel⟩
abbrev s_make_room : Stmt := topS 59
abbrev N_make_room : List Str := ["strip", "plugs", "plan", "plug", "wanted", "size", "every", "here", "found", "some", "fixed", "told", "index", "place", "at"]
theorem sc_make_room : FnScope N_make_room ["strip", "plugs", "plan", "plug"] (defScope s_make_room) := ⟨rfl, rfl, rfl, by decide +kernel, rfl, by decide +kernel, by decide +kernel⟩
abbrev s_count_plans : Stmt := topS 36
abbrev N_count_plans : List Str := ["strip", "plugs"]
theorem sc_count_plans : FnScope N_count_plans ["strip", "plugs"] (defScope s_count_plans) := ⟨rfl, rfl, rfl, by decide +kernel, rfl, by decide +kernel, by decide +kernel⟩
abbrev s_least_plan : Stmt := topS 37
abbrev N_least_plan : List Str := ["strip", "plugs"]
theorem sc_least_plan : FnScope N_least_plan ["strip", "plugs"] (defScope s_least_plan) := ⟨rfl, rfl, rfl, by decide +kernel, rfl, by decide +kernel, by decide +kernel⟩
abbrev s_most_together : Stmt := topS 40
abbrev N_most_together : List Str := ["strip", "plugs", "size", "found", "some"]
theorem sc_most_together : FnScope N_most_together ["strip", "plugs"] (defScope s_most_together) := ⟨rfl, rfl, rfl, by decide +kernel, rfl, by decide +kernel, by decide +kernel⟩
abbrev s_bars : Stmt := topS 41
abbrev N_bars : List Str := ["strip", "plugs", "found", "size", "some", "inside", "one", "index"]
theorem sc_bars : FnScope N_bars ["strip", "plugs"] (defScope s_bars) := ⟨rfl, rfl, rfl, by decide +kernel, rfl, by decide +kernel, by decide +kernel⟩
abbrev s_paper : Stmt := topS 50
abbrev N_paper : List Str := ["strip", "plugs", "plan", "rows"]
theorem sc_paper : FnScope N_paper ["strip", "plugs"] (defScope s_paper) := ⟨rfl, rfl, rfl, by decide +kernel, rfl, by decide +kernel, by decide +kernel⟩
abbrev s__law_asked : Stmt := topS 74
abbrev N__law_asked : List Str := ["_law_strip", "_law_plugs_here", "_law_which"]
theorem sc__law_asked : FnScope N__law_asked ["_law_strip", "_law_plugs_here", "_law_which"] (defScope s__law_asked) := ⟨rfl, rfl, rfl, by decide +kernel, rfl, by decide +kernel, by decide +kernel⟩
abbrev s__law_told_there : Stmt := topS 75
abbrev N__law_told_there : List Str := ["_law_strip", "_law_plugs_here", "_law_plan", "_law_plug_here", "_law_which", "_law_told_there_here", "e"]
theorem sc__law_told_there : FnScope N__law_told_there ["_law_strip", "_law_plugs_here", "_law_plan", "_law_plug_here", "_law_which"] (defScope s__law_told_there) := ⟨rfl, rfl, rfl, by decide +kernel, rfl, by decide +kernel, by decide +kernel⟩
abbrev s__law_can : Stmt := topS 67
abbrev N__law_can : List Str := ["_law_plug_here"]
theorem sc__law_can : FnScope N__law_can ["_law_plug_here"] (defScope s__law_can) := ⟨rfl, rfl, rfl, by decide +kernel, rfl, by decide +kernel, by decide +kernel⟩
abbrev s__law_places : Stmt := topS 71
abbrev N__law_places : List Str := ["_law_sockets_here", "_law_plug_here", "_law_found", "_law_socket"]
theorem sc__law_places : FnScope N__law_places ["_law_sockets_here", "_law_plug_here"] (defScope s__law_places) := ⟨rfl, rfl, rfl, by decide +kernel, rfl, by decide +kernel, by decide +kernel⟩
abbrev s__law_body : Stmt := topS 68
abbrev N__law_body : List Str := ["_law_sockets_here", "_law_plug_here", "_law_place", "_law_left", "_law_right"]
theorem sc__law_body : FnScope N__law_body ["_law_sockets_here", "_law_plug_here", "_law_place"] (defScope s__law_body) := ⟨rfl, rfl, rfl, by decide +kernel, rfl, by decide +kernel, by decide +kernel⟩
abbrev s__law_meet : Stmt := topS 69
abbrev N__law_meet : List Str := ["_law_sockets_here", "_law_plugs_here", "_law_plan", "_law_one", "_law_other", "_law_first"]
theorem sc__law_meet : FnScope N__law_meet ["_law_sockets_here", "_law_plugs_here", "_law_plan", "_law_one", "_law_other"] (defScope s__law_meet) := ⟨rfl, rfl, rfl, by decide +kernel, rfl, by decide +kernel, by decide +kernel⟩
abbrev s__law_fault : Stmt := topS 70
abbrev N__law_fault : List Str := ["_law_sockets_here", "_law_plugs_here", "_law_plan", "_law_here", "_law_k", "_law_one", "_law_other"]
theorem sc__law_fault : FnScope N__law_fault ["_law_sockets_here", "_law_plugs_here", "_law_plan"] (defScope s__law_fault) := ⟨rfl, rfl, rfl, by decide +kernel, rfl, by decide +kernel, by decide +kernel⟩
abbrev s__law_part : Stmt := topS 72
abbrev N__law_part : List Str := ["_law_row", "_law_sockets_here", "_law_plugs_here", "_law_plan", "_law_k", "_law_places_here", "_law_place", "_law_later"]
theorem sc__law_part : FnScope N__law_part ["_law_row", "_law_sockets_here", "_law_plugs_here"] (defScope s__law_part) := ⟨rfl, rfl, rfl, by decide +kernel, rfl, by decide +kernel, by decide +kernel⟩
abbrev s__law_odd_plug : Stmt := topS 73
abbrev N__law_odd_plug : List Str := ["_law_row", "_law_odd"]
theorem sc__law_odd_plug : FnScope N__law_odd_plug ["_law_row"] (defScope s__law_odd_plug) := ⟨rfl, rfl, rfl, by decide +kernel, rfl, by decide +kernel, by decide +kernel⟩
abbrev s_law : Stmt := topS 76
abbrev N_law : List Str := ["_law_script", "_law_row", "_law_turn", "_law_wrong", "_law_odd", "_law_place", "_law_which", "_law_worse", "_law_sockets_here", "_law_plugs_here", "_law_strip", "_law_spot", "_law_plan"]
theorem sc_law : FnScope N_law ["_law_script"] (defScope s_law) := ⟨rfl, rfl, rfl, by decide +kernel, rfl, by decide +kernel, by decide +kernel⟩
structure Env (K : PySem.W.Frag) (mg : MG) where
  a_BadPlugs_d__init_d_ : Addr
  d_BadPlugs_d__init_d_ : FuncData
  h_BadPlugs_d__init_d_ : DefAt K "__init__" "BadPlugs.__init__" s_BadPlugs_d__init_d_ a_BadPlugs_d__init_d_ d_BadPlugs_d__init_d_ ["self", "index"]
  a__law_draws : Addr
  d__law_draws : FuncData
  h__law_draws : DefAt K "_law_draws" "_law_draws" s__law_draws a__law_draws d__law_draws ["_law_script"]
  l__law_draws : mg "_law_draws" = some (.ref a__law_draws)
  a__law_pick : Addr
  d__law_pick : FuncData
  h__law_pick : DefAt K "_law_pick" "_law_pick" s__law_pick a__law_pick d__law_pick ["_law_row", "_law_many"]
  l__law_pick : mg "_law_pick" = some (.ref a__law_pick)
  a__law_sockets : Addr
  d__law_sockets : FuncData
  h__law_sockets : DefAt K "_law_sockets" "_law_sockets" s__law_sockets a__law_sockets d__law_sockets ["_law_row", "_law_most"]
  l__law_sockets : mg "_law_sockets" = some (.ref a__law_sockets)
  a__law_plug : Addr
  d__law_plug : FuncData
  h__law_plug : DefAt K "_law_plug" "_law_plug" s__law_plug a__law_plug d__law_plug ["_law_row"]
  l__law_plug : mg "_law_plug" = some (.ref a__law_plug)
  a__law_plugs : Addr
  d__law_plugs : FuncData
  h__law_plugs : DefAt K "_law_plugs" "_law_plugs" s__law_plugs a__law_plugs d__law_plugs ["_law_row", "_law_most"]
  l__law_plugs : mg "_law_plugs" = some (.ref a__law_plugs)
  a_is_from : Addr
  d_is_from : FuncData
  h_is_from : DefAt K "is_from" "is_from" s_is_from a_is_from d_is_from ["value", "low", "high"]
  l_is_from : mg "is_from" = some (.ref a_is_from)
  a_Strip_d__init_d_ : Addr
  d_Strip_d__init_d_ : FuncData
  h_Strip_d__init_d_ : DefAt K "__init__" "Strip.__init__" s_Strip_d__init_d_ a_Strip_d__init_d_ d_Strip_d__init_d_ ["self", "sockets"]
  a_is_plug : Addr
  d_is_plug : FuncData
  h_is_plug : DefAt K "is_plug" "is_plug" s_is_plug a_is_plug d_is_plug ["value"]
  l_is_plug : mg "is_plug" = some (.ref a_is_plug)
  a_check_plugs : Addr
  d_check_plugs : FuncData
  h_check_plugs : DefAt K "check_plugs" "check_plugs" s_check_plugs a_check_plugs d_check_plugs ["value", "most"]
  l_check_plugs : mg "check_plugs" = some (.ref a_check_plugs)
  a_is_place : Addr
  d_is_place : FuncData
  h_is_place : DefAt K "is_place" "is_place" s_is_place a_is_place d_is_place ["strip", "value"]
  l_is_place : mg "is_place" = some (.ref a_is_place)
  a_check_plan : Addr
  d_check_plan : FuncData
  h_check_plan : DefAt K "check_plan" "check_plan" s_check_plan a_check_plan d_check_plan ["strip", "plugs", "value"]
  l_check_plan : mg "check_plan" = some (.ref a_check_plan)
  a_can_turn : Addr
  d_can_turn : FuncData
  h_can_turn : DefAt K "can_turn" "can_turn" s_can_turn a_can_turn d_can_turn ["plug"]
  l_can_turn : mg "can_turn" = some (.ref a_can_turn)
  a_pairs_of : Addr
  d_pairs_of : FuncData
  h_pairs_of : DefAt K "pairs_of" "pairs_of" s_pairs_of a_pairs_of d_pairs_of ["plan"]
  l_pairs_of : mg "pairs_of" = some (.ref a_pairs_of)
  a_sides : Addr
  d_sides : FuncData
  h_sides : DefAt K "sides" "sides" s_sides a_sides d_sides ["plug", "turned"]
  l_sides : mg "sides" = some (.ref a_sides)
  a_body : Addr
  d_body : FuncData
  h_body : DefAt K "body" "body" s_body a_body d_body ["strip", "plug", "place"]
  l_body : mg "body" = some (.ref a_body)
  a_are_apart : Addr
  d_are_apart : FuncData
  h_are_apart : DefAt K "are_apart" "are_apart" s_are_apart a_are_apart d_are_apart ["strip", "one", "first", "other", "second"]
  l_are_apart : mg "are_apart" = some (.ref a_are_apart)
  a_fault_of : Addr
  d_fault_of : FuncData
  h_fault_of : DefAt K "fault_of" "fault_of" s_fault_of a_fault_of d_fault_of ["strip", "plugs", "plan"]
  l_fault_of : mg "fault_of" = some (.ref a_fault_of)
  a_judge : Addr
  d_judge : FuncData
  h_judge : DefAt K "judge" "judge" s_judge a_judge d_judge ["strip", "plugs", "plan"]
  l_judge : mg "judge" = some (.ref a_judge)
  a_check_right : Addr
  d_check_right : FuncData
  h_check_right : DefAt K "check_right" "check_right" s_check_right a_check_right d_check_right ["strip", "plugs", "plan"]
  l_check_right : mg "check_right" = some (.ref a_check_right)
  a_words : Addr
  d_words : FuncData
  h_words : DefAt K "words" "words" s_words a_words d_words ["strip", "plugs", "plan"]
  l_words : mg "words" = some (.ref a_words)
  a_check_plug : Addr
  d_check_plug : FuncData
  h_check_plug : DefAt K "check_plug" "check_plug" s_check_plug a_check_plug d_check_plug ["value"]
  l_check_plug : mg "check_plug" = some (.ref a_check_plug)
  a_rooms : Addr
  d_rooms : FuncData
  h_rooms : DefAt K "rooms" "rooms" s_rooms a_rooms d_rooms ["strip", "plugs", "plan", "plug"]
  l_rooms : mg "rooms" = some (.ref a_rooms)
  a_make_room : Addr
  d_make_room : FuncData
  h_make_room : DefAt K "make_room" "make_room" s_make_room a_make_room d_make_room ["strip", "plugs", "plan", "plug"]
  l_make_room : mg "make_room" = some (.ref a_make_room)
  a_count_plans : Addr
  d_count_plans : FuncData
  h_count_plans : DefAt K "count_plans" "count_plans" s_count_plans a_count_plans d_count_plans ["strip", "plugs"]
  l_count_plans : mg "count_plans" = some (.ref a_count_plans)
  a_least_plan : Addr
  d_least_plan : FuncData
  h_least_plan : DefAt K "least_plan" "least_plan" s_least_plan a_least_plan d_least_plan ["strip", "plugs"]
  l_least_plan : mg "least_plan" = some (.ref a_least_plan)
  a_most_together : Addr
  d_most_together : FuncData
  h_most_together : DefAt K "most_together" "most_together" s_most_together a_most_together d_most_together ["strip", "plugs"]
  l_most_together : mg "most_together" = some (.ref a_most_together)
  a_bars : Addr
  d_bars : FuncData
  h_bars : DefAt K "bars" "bars" s_bars a_bars d_bars ["strip", "plugs"]
  l_bars : mg "bars" = some (.ref a_bars)
  a_paper : Addr
  d_paper : FuncData
  h_paper : DefAt K "paper" "paper" s_paper a_paper d_paper ["strip", "plugs"]
  l_paper : mg "paper" = some (.ref a_paper)
  a__law_asked : Addr
  d__law_asked : FuncData
  h__law_asked : DefAt K "_law_asked" "_law_asked" s__law_asked a__law_asked d__law_asked ["_law_strip", "_law_plugs_here", "_law_which"]
  l__law_asked : mg "_law_asked" = some (.ref a__law_asked)
  a__law_told_there : Addr
  d__law_told_there : FuncData
  h__law_told_there : DefAt K "_law_told_there" "_law_told_there" s__law_told_there a__law_told_there d__law_told_there ["_law_strip", "_law_plugs_here", "_law_plan", "_law_plug_here", "_law_which"]
  l__law_told_there : mg "_law_told_there" = some (.ref a__law_told_there)
  a__law_can : Addr
  d__law_can : FuncData
  h__law_can : DefAt K "_law_can" "_law_can" s__law_can a__law_can d__law_can ["_law_plug_here"]
  l__law_can : mg "_law_can" = some (.ref a__law_can)
  a__law_places : Addr
  d__law_places : FuncData
  h__law_places : DefAt K "_law_places" "_law_places" s__law_places a__law_places d__law_places ["_law_sockets_here", "_law_plug_here"]
  l__law_places : mg "_law_places" = some (.ref a__law_places)
  a__law_body : Addr
  d__law_body : FuncData
  h__law_body : DefAt K "_law_body" "_law_body" s__law_body a__law_body d__law_body ["_law_sockets_here", "_law_plug_here", "_law_place"]
  l__law_body : mg "_law_body" = some (.ref a__law_body)
  a__law_meet : Addr
  d__law_meet : FuncData
  h__law_meet : DefAt K "_law_meet" "_law_meet" s__law_meet a__law_meet d__law_meet ["_law_sockets_here", "_law_plugs_here", "_law_plan", "_law_one", "_law_other"]
  l__law_meet : mg "_law_meet" = some (.ref a__law_meet)
  a__law_fault : Addr
  d__law_fault : FuncData
  h__law_fault : DefAt K "_law_fault" "_law_fault" s__law_fault a__law_fault d__law_fault ["_law_sockets_here", "_law_plugs_here", "_law_plan"]
  l__law_fault : mg "_law_fault" = some (.ref a__law_fault)
  a__law_part : Addr
  d__law_part : FuncData
  h__law_part : DefAt K "_law_part" "_law_part" s__law_part a__law_part d__law_part ["_law_row", "_law_sockets_here", "_law_plugs_here"]
  l__law_part : mg "_law_part" = some (.ref a__law_part)
  a__law_odd_plug : Addr
  d__law_odd_plug : FuncData
  h__law_odd_plug : DefAt K "_law_odd_plug" "_law_odd_plug" s__law_odd_plug a__law_odd_plug d__law_odd_plug ["_law_row"]
  l__law_odd_plug : mg "_law_odd_plug" = some (.ref a__law_odd_plug)
  a_law : Addr
  d_law : FuncData
  h_law : DefAt K "law" "law" s_law a_law d_law ["_law_script"]
  l_law : mg "law" = some (.ref a_law)
  c_Strip : Addr
  k_Strip : ClsD K mg "Strip" c_Strip
  m_Strip : Mk K c_Strip a_Strip_d__init_d_
  c_BadPlan : Addr
  c_BadPlug : Addr
  c_BadPlugs : Addr
  c_BadSockets : Addr
  c_NotRight : Addr
  c_StripError : Addr
  r_BadPlan : ErrC K mg "BadPlan" c_BadPlan
  r_BadPlug : ErrC K mg "BadPlug" c_BadPlug
  r_BadSockets : ErrC K mg "BadSockets" c_BadSockets
  r_NotRight : ErrC K mg "NotRight" c_NotRight
  r_BadPlugs : ErrI K mg "BadPlugs" c_BadPlugs a_BadPlugs_d__init_d_
  no_BadPlugs_index : PySem.W.findIn K (.ref c_BadPlugs) "index" = some none
  x_BadPlan : ErrX K mg "BadPlan" c_BadPlan
  x_BadPlug : ErrX K mg "BadPlug" c_BadPlug
  x_BadPlugs : ErrX K mg "BadPlugs" c_BadPlugs
  x_BadSockets : ErrX K mg "BadSockets" c_BadSockets
  x_NotRight : ErrX K mg "NotRight" c_NotRight
  x_StripError : ErrX K mg "StripError" c_StripError
  s_BadPlan_BadPlan : PySem.W.subIn K (.ref c_BadPlan) (.ref c_BadPlan) = some (subX "BadPlan" "BadPlan")
  s_BadPlan_BadPlug : PySem.W.subIn K (.ref c_BadPlan) (.ref c_BadPlug) = some (subX "BadPlan" "BadPlug")
  s_BadPlan_BadPlugs : PySem.W.subIn K (.ref c_BadPlan) (.ref c_BadPlugs) = some (subX "BadPlan" "BadPlugs")
  s_BadPlan_NotRight : PySem.W.subIn K (.ref c_BadPlan) (.ref c_NotRight) = some (subX "BadPlan" "NotRight")
  s_BadPlan_StripError : PySem.W.subIn K (.ref c_BadPlan) (.ref c_StripError) = some (subX "BadPlan" "StripError")
  s_BadPlug_BadPlan : PySem.W.subIn K (.ref c_BadPlug) (.ref c_BadPlan) = some (subX "BadPlug" "BadPlan")
  s_BadPlug_BadPlug : PySem.W.subIn K (.ref c_BadPlug) (.ref c_BadPlug) = some (subX "BadPlug" "BadPlug")
  s_BadPlug_BadPlugs : PySem.W.subIn K (.ref c_BadPlug) (.ref c_BadPlugs) = some (subX "BadPlug" "BadPlugs")
  s_BadPlug_NotRight : PySem.W.subIn K (.ref c_BadPlug) (.ref c_NotRight) = some (subX "BadPlug" "NotRight")
  s_BadPlug_StripError : PySem.W.subIn K (.ref c_BadPlug) (.ref c_StripError) = some (subX "BadPlug" "StripError")
  s_BadPlugs_BadPlan : PySem.W.subIn K (.ref c_BadPlugs) (.ref c_BadPlan) = some (subX "BadPlugs" "BadPlan")
  s_BadPlugs_BadPlug : PySem.W.subIn K (.ref c_BadPlugs) (.ref c_BadPlug) = some (subX "BadPlugs" "BadPlug")
  s_BadPlugs_BadPlugs : PySem.W.subIn K (.ref c_BadPlugs) (.ref c_BadPlugs) = some (subX "BadPlugs" "BadPlugs")
  s_BadPlugs_NotRight : PySem.W.subIn K (.ref c_BadPlugs) (.ref c_NotRight) = some (subX "BadPlugs" "NotRight")
  s_BadPlugs_StripError : PySem.W.subIn K (.ref c_BadPlugs) (.ref c_StripError) = some (subX "BadPlugs" "StripError")
  s_BadSockets_BadPlan : PySem.W.subIn K (.ref c_BadSockets) (.ref c_BadPlan) = some (subX "BadSockets" "BadPlan")
  s_BadSockets_BadPlug : PySem.W.subIn K (.ref c_BadSockets) (.ref c_BadPlug) = some (subX "BadSockets" "BadPlug")
  s_BadSockets_BadPlugs : PySem.W.subIn K (.ref c_BadSockets) (.ref c_BadPlugs) = some (subX "BadSockets" "BadPlugs")
  s_BadSockets_NotRight : PySem.W.subIn K (.ref c_BadSockets) (.ref c_NotRight) = some (subX "BadSockets" "NotRight")
  s_BadSockets_StripError : PySem.W.subIn K (.ref c_BadSockets) (.ref c_StripError) = some (subX "BadSockets" "StripError")
  s_NotRight_BadPlan : PySem.W.subIn K (.ref c_NotRight) (.ref c_BadPlan) = some (subX "NotRight" "BadPlan")
  s_NotRight_BadPlug : PySem.W.subIn K (.ref c_NotRight) (.ref c_BadPlug) = some (subX "NotRight" "BadPlug")
  s_NotRight_BadPlugs : PySem.W.subIn K (.ref c_NotRight) (.ref c_BadPlugs) = some (subX "NotRight" "BadPlugs")
  s_NotRight_NotRight : PySem.W.subIn K (.ref c_NotRight) (.ref c_NotRight) = some (subX "NotRight" "NotRight")
  s_NotRight_StripError : PySem.W.subIn K (.ref c_NotRight) (.ref c_StripError) = some (subX "NotRight" "StripError")
  f_BadPlugs_index : XfD K mg "BadPlugs" "index" c_BadPlugs
  n_Strip_rows : NoAttr K c_Strip "rows"
  b_all : mg "all" = none
  b_bool : mg "bool" = none
  b_enumerate : mg "enumerate" = none
  b_int : mg "int" = none
  b_isinstance : mg "isinstance" = none
  b_len : mg "len" = none
  b_list : mg "list" = none
  b_range : mg "range" = none
  b_tuple : mg "tuple" = none
  b_zip : mg "zip" = none
  t_MOST_AT : Tok
  g_MOST_AT : mg "MOST_AT" = some (.int (300) t_MOST_AT)
  t_MOST_PLUGS : Tok
  g_MOST_PLUGS : mg "MOST_PLUGS" = some (.int (5) t_MOST_PLUGS)
  t_MOST_SIDE : Tok
  g_MOST_SIDE : mg "MOST_SIDE" = some (.int (60) t_MOST_SIDE)
  t_MOST_SOCKETS : Tok
  g_MOST_SOCKETS : mg "MOST_SOCKETS" = some (.int (9) t_MOST_SOCKETS)
theorem ok_BadPlugs_d__init_d_ {P : Program} {w : World} {K : PySem.W.Frag} {mg : MG} {base : Heap} (T : Env K mg) : FnOk P w K mg base (L2.CX P w) 1 T.a_BadPlugs_d__init_d_ T.d_BadPlugs_d__init_d_ ["self", "index"] (spIni T.c_BadPlugs ["index"]) :=
  ini_ok1 T.h_BadPlugs_d__init_d_.fn sc_BadPlugs_d__init_d_ T.r_BadPlugs.ox T.no_BadPlugs_index rfl (fun _ _ _ _ _ _ => ⟨_, ps_ost (pe_var (i := 0) rfl (.inl rfl)) (pe_var (i := 1) rfl (.inl rfl)), rfl⟩)
theorem ok__law_draws {P : Program} {w : World} {K : PySem.W.Frag} {mg : MG} {base : Heap} (T : Env K mg) : FnOk P w K mg base (L2.CX P w) 1 T.a__law_draws T.d__law_draws ["_law_script"] (spE K mg Pk.F__law_draws) := by
  refine fn_okE (k := 0) T.h__law_draws.fn sc__law_draws rfl fun cdv A outer s H E hr => ?_
  have tk : Takes (cxOf (L2.CX P w) P w K mg base N__law_draws "_law_draws" (defScope s__law_draws) T.a__law_draws cdv A outer s H E) (fun c d _ H' => E c d H') := takes_of rfl rfl rfl rfl
  exact (dss_one (ds_retNew (da_val (de_callTy T.b_list call_list_of cop_list (da_val (de_var 0) da_nil)) (da_val de_int (da_val de_int (da_val de_int da_nil))))))
theorem ok__law_pick {P : Program} {w : World} {K : PySem.W.Frag} {mg : MG} {base : Heap} (T : Env K mg) : FnOk P w K mg base (L2.CX P w) 1 T.a__law_pick T.d__law_pick ["_law_row", "_law_many"] (spE K mg Pk.F__law_pick) := by
  refine fn_okE (k := 0) T.h__law_pick.fn sc__law_pick rfl fun cdv A outer s H E hr => ?_
  have tk : Takes (cxOf (L2.CX P w) P w K mg base N__law_pick "_law_pick" (defScope s__law_pick) T.a__law_pick cdv A outer s H E) (fun c d _ H' => E c d H') := takes_of rfl rfl rfl rfl
  exact (dss_cons (ds_if (dt_c (cmp_eq hr) (de_ixO 0 de_int) de_int) (dss_one (ds_if (dt_c cmp_lt (de_ixO 0 de_int) (de_callB T.b_len call_len cop_len (da_val (de_ixO 0 de_int) da_nil))) (dss_cons (ds_set (i := 3) sc__law_pick.nd (de_sub1 (de_ixO 0 de_int) (de_ixO 0 de_int)))
      (dss_cons (ds_setIx 0 de_int (de_add (de_ixO 0 de_int) de_int))
      (dss_one (ds_if (dt_c cmp_ge (de_var 3) (de_pow de_int de_int)) (dss_one (ds_setIx 0 de_int (de_var 3))) (dss_one (ds_setIx 0 de_int (de_mod (de_callTy T.b_int call_int1 cop_int (da_val (de_add (de_add (de_mulA (de_ixO 0 de_int) de_int) (de_mulA (de_var 3) de_int)) de_int) da_nil)) de_int))))))) (dss_one (ds_setIx 0 de_int (de_mod (de_callTy T.b_int call_int1 cop_int (da_val (de_add (de_mulA (de_ixO 0 de_int) de_int) de_int) da_nil)) de_int))))) dss_nil)
      (dss_cons (ds_if (dt_c cmp_gt (de_ixO 0 de_int) de_int) (dss_cons (ds_set (i := 2) sc__law_pick.nd (de_mod (de_callTy T.b_int call_int1 cop_int (da_val (de_ixO 0 de_int) da_nil)) (de_var 1)))
      (dss_cons (ds_setIx 0 de_int (de_div (de_ixO 0 de_int) (de_var 1)))
      (dss_one (ds_ret (de_var 2))))) dss_nil)
      (dss_one (ds_ret (de_mod (de_mod (de_callTy T.b_int call_int1 cop_int (da_val (de_mulA (de_ixO 0 de_int) de_int) da_nil)) de_int) (de_var 1))))))
theorem ok__law_sockets {P : Program} {w : World} {K : PySem.W.Frag} {mg : MG} {base : Heap} (T : Env K mg) : FnOk P w K mg base (L2.CX P w) 2 T.a__law_sockets T.d__law_sockets ["_law_row", "_law_most"] (spE K mg Pk.F__law_sockets) := by
  have G__law_pick := ok__law_pick (P := P) (w := w) (base := base) T
  refine fn_okE (k := 1) T.h__law_sockets.fn sc__law_sockets rfl fun cdv A outer s H E hr => ?_
  have tk : Takes (cxOf (L2.CX P w) P w K mg base N__law_sockets "_law_sockets" (defScope s__law_sockets) T.a__law_sockets cdv A outer s H E) (fun c d _ H' => E c d H') := takes_of rfl rfl rfl rfl
  exact (dss_cons (ds_par (i := 3) (j := 4) rfl sc__law_sockets.nd (by decide) (da_val (de_tup da_nil) (da_val (de_val (dv_callE tk (hr.mono (by decide)) ⟨G__law_pick, T.l__law_pick, T.h__law_pick.fn.kp, T.h__law_pick.bd⟩ (da_cons (dv_var 0) (da_val de_int da_nil)))) da_nil)) (by rfl))
      (dss_cons (ds_for (passes_of rfl) rfl (di_range1 T.b_range (de_add de_int (de_val (dv_callE tk (hr.mono (by decide)) ⟨G__law_pick, T.l__law_pick, T.h__law_pick.fn.kp, T.h__law_pick.bd⟩ (da_cons (dv_var 0) (da_val (de_var 1) da_nil)))))) (dg_name (i := 2) sc__law_sockets.nd)
      (dss_cons (ds_if (dt_c cmp_le (de_var 4) de_int) (dss_one (ds_set (i := 3) sc__law_sockets.nd (de_add (de_var 3) (de_tup (da_val (de_var 4) da_nil))))) dss_nil)
      (dss_one (ds_set (i := 4) sc__law_sockets.nd (de_add (de_var 4) (de_sub1 (de_lst (da_val de_int (da_val (de_add de_int (de_val (dv_callE tk (hr.mono (by decide)) ⟨G__law_pick, T.l__law_pick, T.h__law_pick.fn.kp, T.h__law_pick.bd⟩ (da_cons (dv_var 0) (da_val de_int da_nil))))) (da_val de_int da_nil)))) (de_val (dv_callE tk (hr.mono (by decide)) ⟨G__law_pick, T.l__law_pick, T.h__law_pick.fn.kp, T.h__law_pick.bd⟩ (da_cons (dv_var 0) (da_val de_int da_nil))))))))))
      (dss_one (ds_ret (de_var 3)))))
theorem ok__law_plug {P : Program} {w : World} {K : PySem.W.Frag} {mg : MG} {base : Heap} (T : Env K mg) : FnOk P w K mg base (L2.CX P w) 2 T.a__law_plug T.d__law_plug ["_law_row"] (spE K mg Pk.F__law_plug) := by
  have G__law_pick := ok__law_pick (P := P) (w := w) (base := base) T
  refine fn_okE (k := 1) T.h__law_plug.fn sc__law_plug rfl fun cdv A outer s H E hr => ?_
  have tk : Takes (cxOf (L2.CX P w) P w K mg base N__law_plug "_law_plug" (defScope s__law_plug) T.a__law_plug cdv A outer s H E) (fun c d _ H' => E c d H') := takes_of rfl rfl rfl rfl
  exact (dss_cons (ds_par (i := 1) (j := 2) rfl sc__law_plug.nd (by decide) (da_val (de_sub1 (de_lst (da_val de_int (da_val de_int (da_val de_int (da_val de_int (da_val de_int (da_val de_int (da_val de_int (da_val de_int da_nil))))))))) (de_val (dv_callE tk (hr.mono (by decide)) ⟨G__law_pick, T.l__law_pick, T.h__law_pick.fn.kp, T.h__law_pick.bd⟩ (da_cons (dv_var 0) (da_val de_int da_nil))))) (da_val (de_val (dv_callE tk (hr.mono (by decide)) ⟨G__law_pick, T.l__law_pick, T.h__law_pick.fn.kp, T.h__law_pick.bd⟩ (da_cons (dv_var 0) (da_val de_int da_nil)))) da_nil)) (by rfl))
      (dss_one (ds_ret (de_tup (da_val (de_var 1) (da_val (de_sub1 (de_lst (da_val (de_var 2) (da_val de_int (da_val (de_var 1) da_nil)))) (de_val (dv_callE tk (hr.mono (by decide)) ⟨G__law_pick, T.l__law_pick, T.h__law_pick.fn.kp, T.h__law_pick.bd⟩ (da_cons (dv_var 0) (da_val de_int da_nil))))) (da_val (de_c (cmp_eq hr) (de_val (dv_callE tk (hr.mono (by decide)) ⟨G__law_pick, T.l__law_pick, T.h__law_pick.fn.kp, T.h__law_pick.bd⟩ (da_cons (dv_var 0) (da_val de_int da_nil)))) de_int) da_nil)))))))
theorem ok__law_plugs {P : Program} {w : World} {K : PySem.W.Frag} {mg : MG} {base : Heap} (T : Env K mg) : FnOk P w K mg base (L2.CX P w) 3 T.a__law_plugs T.d__law_plugs ["_law_row", "_law_most"] (spE K mg Pk.F__law_plugs) := by
  have G__law_pick := ok__law_pick (P := P) (w := w) (base := base) T
  have G__law_plug := ok__law_plug (P := P) (w := w) (base := base) T
  refine fn_okE (k := 2) T.h__law_plugs.fn sc__law_plugs rfl fun cdv A outer s H E hr => ?_
  have tk : Takes (cxOf (L2.CX P w) P w K mg base N__law_plugs "_law_plugs" (defScope s__law_plugs) T.a__law_plugs cdv A outer s H E) (fun c d _ H' => E c d H') := takes_of rfl rfl rfl rfl
  exact (dss_one (ds_ret (de_callTy T.b_tuple call_tuple_of cop_tuple (da_val (de_lc (own := [("_law_k", 2)]) rfl sc__law_plugs.nd (di_range1 T.b_range (de_add de_int (de_val (dv_callE tk (hr.mono (by decide)) ⟨G__law_pick, T.l__law_pick, T.h__law_pick.fn.kp, T.h__law_pick.bd⟩ (da_cons (dv_var 0) (da_val (de_var 1) da_nil)))))) (blkOk_by (own := [("_law_k", 2)]) (N := N__law_plugs) (sc := defScope s__law_plugs) (by decide +kernel)) (fun _ _ _ _ _ => (dg_name (i := 2) sc__law_plugs.nd)) (fun _ _ _ _ _ => dts_nil) (fun _ _ _ _ _ => (de_val (dv_callE takes0 (hr.mono (by decide)) ⟨G__law_plug, T.l__law_plug, T.h__law_plug.fn.kp, T.h__law_plug.bd⟩ (da_cons (dv_var 0) da_nil)))) (by decide)) da_nil))))
theorem ok_is_from {P : Program} {w : World} {K : PySem.W.Frag} {mg : MG} {base : Heap} (T : Env K mg) : FnOk P w K mg base (L2.CX P w) 1 T.a_is_from T.d_is_from ["value", "low", "high"] (spP K mg Pk.F_is_from) := by
  refine fn_okP (k := 0) T.h_is_from.fn sc_is_from rfl fun cdv A outer s H E hr => ?_
  have tk : Takes (cxOf (L2.CX P w) P w K mg base N_is_from "is_from" (defScope s_is_from) T.a_is_from cdv A outer s H E) (fun c d _ H' => E c d H') := takes_of rfl rfl rfl rfl
  exact (dss_one (ds_ret (de_and (de_isi T.b_isinstance T.b_int ask_int (de_var 0)) (de_and (de_not (de_isi T.b_isinstance T.b_bool ask_bool (de_var 0))) (de_one (de_chain cmp_le cmp_le (de_var 1) (de_var 0) (de_var 2)))))))
theorem ok_Strip_d__init_d_ {P : Program} {w : World} {K : PySem.W.Frag} {mg : MG} {base : Heap} (T : Env K mg) : FnOk P w K mg base (L2.CX P w) 2 T.a_Strip_d__init_d_ T.d_Strip_d__init_d_ ["self", "sockets"] (spE K mg Pk.F_Strip_d__init_d__2) := by
  have G_is_from := ok_is_from (P := P) (w := w) (base := base) T
  refine fn_okE (k := 1) T.h_Strip_d__init_d_.fn sc_Strip_d__init_d_ rfl fun cdv A outer s H E hr => ?_
  have tk : Takes (cxOf (L2.CX P w) P w K mg base N_Strip_d__init_d_ "Strip.__init__" (defScope s_Strip_d__init_d_) T.a_Strip_d__init_d_ cdv A outer s H E) (fun c d _ H' => E c d H') := takes_of rfl rfl rfl rfl
  exact (dss_cons (ds_if (dt_w (dw_or (dt_not (dt_val (de_isi T.b_isinstance T.b_tuple ask_tuple (de_var 1)))) (dw_or1 (dt_not (dt_chain cmp_le cmp_le de_int (de_callB T.b_len call_len cop_len (da_val (de_var 1) da_nil)) (de_globI T.g_MOST_SOCKETS)))))) (dss_one (ds_raise tk T.r_BadSockets)) dss_nil)
      (dss_cons (ds_if (dt_not (dt_val (de_callBL T.b_all (cr_all rfl) copL_all (dl_of (de_lc (own := [("one", 2)]) rfl sc_Strip_d__init_d_.nd (di_seq (de_var 1)) (blkOk_by (own := [("one", 2)]) (N := N_Strip_d__init_d_) (sc := defScope s_Strip_d__init_d_) (by decide +kernel)) (fun _ _ _ _ _ => (dg_name (i := 2) sc_Strip_d__init_d_.nd)) (fun _ _ _ _ _ => dts_nil) (fun _ _ _ _ _ => (de_call takes0 (hr.mono (by decide)) ⟨G_is_from, T.l_is_from, T.h_is_from.fn.kp, T.h_is_from.bd⟩ (da_val (de_var 2) (da_val de_int (da_val (de_globI T.g_MOST_AT) da_nil))))) (by decide)))))) (dss_one (ds_raise tk T.r_BadSockets)) dss_nil)
      (dss_cons (ds_if (dt_not (dt_val (de_callBL T.b_all (cr_all rfl) copL_all (dl_of (de_lc (own := [("one", 2), ("other", 3)]) rfl sc_Strip_d__init_d_.nd (di_zip T.b_zip (de_var 1) (de_slice (de_var 1) (do_some de_int) do_none)) (blkOk_by (own := [("one", 2), ("other", 3)]) (N := N_Strip_d__init_d_) (sc := defScope s_Strip_d__init_d_) (by decide +kernel)) (fun _ _ _ _ _ => (dg_tup rfl (dgs_cons (dg_name (i := 2) sc_Strip_d__init_d_.nd) (dgs_cons (dg_name (i := 3) sc_Strip_d__init_d_.nd) dgs_nil)))) (fun _ _ _ _ _ => dts_nil) (fun _ _ _ _ _ => (de_c cmp_lt (de_var 2) (de_var 3))) (by decide)))))) (dss_one (ds_raise tk T.r_BadSockets)) dss_nil)
      (dss_one (ds_fldO 0 T.k_Strip T.n_Strip_rows (de_var 1))))))
theorem ok_is_plug {P : Program} {w : World} {K : PySem.W.Frag} {mg : MG} {base : Heap} (T : Env K mg) : FnOk P w K mg base (L2.CX P w) 2 T.a_is_plug T.d_is_plug ["value"] (spP K mg Pk.F_is_plug) := by
  have G_is_from := ok_is_from (P := P) (w := w) (base := base) T
  refine fn_okP (k := 1) T.h_is_plug.fn sc_is_plug rfl fun cdv A outer s H E hr => ?_
  have tk : Takes (cxOf (L2.CX P w) P w K mg base N_is_plug "is_plug" (defScope s_is_plug) T.a_is_plug cdv A outer s H E) (fun c d _ H' => E c d H') := takes_of rfl rfl rfl rfl
  exact (dss_cons (ds_if (dt_w (dw_or (dt_not (dt_val (de_isi T.b_isinstance T.b_tuple ask_tuple (de_var 0)))) (dw_or (dt_c (cmp_ne hr) (de_callB T.b_len call_len cop_len (da_val (de_var 0) da_nil)) de_int) (dw_or1 (dt_not (dt_val (de_callBL T.b_all (cr_all rfl) copL_all (dl_of (de_lc (own := [("one", 1)]) rfl sc_is_plug.nd (di_seq (de_slice (de_var 0) do_none (do_some de_int))) (blkOk_by (own := [("one", 1)]) (N := N_is_plug) (sc := defScope s_is_plug) (by decide +kernel)) (fun _ _ _ _ _ => (dg_name (i := 1) sc_is_plug.nd)) (fun _ _ _ _ _ => dts_nil) (fun _ _ _ _ _ => (de_call takes0 (hr.mono (by decide)) ⟨G_is_from, T.l_is_from, T.h_is_from.fn.kp, T.h_is_from.bd⟩ (da_val (de_var 1) (da_val de_int (da_val (de_globI T.g_MOST_SIDE) da_nil))))) (by decide)))))))))) (dss_one (ds_ret de_bl)) dss_nil)
      (dss_one (ds_ret (de_isi T.b_isinstance T.b_bool ask_bool (de_sub1 (de_var 0) de_int)))))
theorem ok_check_plugs {P : Program} {w : World} {K : PySem.W.Frag} {mg : MG} {base : Heap} (T : Env K mg) : FnOk P w K mg base (L2.CX P w) 3 T.a_check_plugs T.d_check_plugs ["value", "most"] (spP K mg Pk.F_check_plugs_2) := by
  have G_BadPlugs_d__init_d_ := ok_BadPlugs_d__init_d_ (P := P) (w := w) (base := base) T
  have G_is_plug := ok_is_plug (P := P) (w := w) (base := base) T
  refine fn_okP (k := 2) T.h_check_plugs.fn sc_check_plugs rfl fun cdv A outer s H E hr => ?_
  have tk : Takes (cxOf (L2.CX P w) P w K mg base N_check_plugs "check_plugs" (defScope s_check_plugs) T.a_check_plugs cdv A outer s H E) (fun c d _ H' => E c d H') := takes_of rfl rfl rfl rfl
  exact (dss_cons (ds_if (dt_w (dw_or (dt_not (dt_val (de_isi T.b_isinstance T.b_tuple ask_tuple (de_var 0)))) (dw_or1 (dt_not (dt_chain cmp_le cmp_le de_int (de_callB T.b_len call_len cop_len (da_val (de_var 0) da_nil)) (de_var 1)))))) (dss_one (ds_raiseI (fls := ["index"]) tk T.r_BadPlugs G_BadPlugs_d__init_d_ (hr.mono (by decide)) T.h_BadPlugs_d__init_d_.bd (da_val de_non da_nil))) dss_nil)
      (dss_one (ds_for (passes_of rfl) rfl (di_enum T.b_enumerate (de_var 0)) (dg_tup rfl (dgs_cons (dg_name (i := 2) sc_check_plugs.nd) (dgs_cons (dg_name (i := 3) sc_check_plugs.nd) dgs_nil)))
      (dss_one (ds_if (dt_not (dt_val (de_call tk (hr.mono (by decide)) ⟨G_is_plug, T.l_is_plug, T.h_is_plug.fn.kp, T.h_is_plug.bd⟩ (da_val (de_var 3) da_nil)))) (dss_one (ds_raiseI (fls := ["index"]) tk T.r_BadPlugs G_BadPlugs_d__init_d_ (hr.mono (by decide)) T.h_BadPlugs_d__init_d_.bd (da_val (de_var 2) da_nil))) dss_nil)))))
theorem ok_is_place {P : Program} {w : World} {K : PySem.W.Frag} {mg : MG} {base : Heap} (T : Env K mg) : FnOk P w K mg base (L2.CX P w) 2 T.a_is_place T.d_is_place ["strip", "value"] (spP K mg Pk.F_is_place) := by
  have G_is_from := ok_is_from (P := P) (w := w) (base := base) T
  refine fn_okP (k := 1) T.h_is_place.fn sc_is_place rfl fun cdv A outer s H E hr => ?_
  have tk : Takes (cxOf (L2.CX P w) P w K mg base N_is_place "is_place" (defScope s_is_place) T.a_is_place cdv A outer s H E) (fun c d _ H' => E c d H') := takes_of rfl rfl rfl rfl
  exact (dss_cons (ds_if (dt_w (dw_or (dt_not (dt_val (de_isi T.b_isinstance T.b_tuple ask_tuple (de_var 1)))) (dw_or1 (dt_c (cmp_ne hr) (de_callB T.b_len call_len cop_len (da_val (de_var 1) da_nil)) de_int)))) (dss_one (ds_ret de_bl)) dss_nil)
      (dss_one (ds_ret (de_and (de_call tk (hr.mono (by decide)) ⟨G_is_from, T.l_is_from, T.h_is_from.fn.kp, T.h_is_from.bd⟩ (da_val (de_sub1 (de_var 1) de_int) (da_val de_int (da_val (de_sub (de_callB T.b_len call_len cop_len (da_val (de_fld T.k_Strip T.n_Strip_rows (de_var 0)) da_nil)) de_int) da_nil)))) (de_one (de_isi T.b_isinstance T.b_bool ask_bool (de_sub1 (de_var 1) de_int)))))))
theorem ok_check_plan {P : Program} {w : World} {K : PySem.W.Frag} {mg : MG} {base : Heap} (T : Env K mg) : FnOk P w K mg base (L2.CX P w) 4 T.a_check_plan T.d_check_plan ["strip", "plugs", "value"] (spP K mg Pk.F_check_plan_2) := by
  have G_check_plugs := ok_check_plugs (P := P) (w := w) (base := base) T
  have G_is_place := ok_is_place (P := P) (w := w) (base := base) T
  refine fn_okP (k := 3) T.h_check_plan.fn sc_check_plan rfl fun cdv A outer s H E hr => ?_
  have tk : Takes (cxOf (L2.CX P w) P w K mg base N_check_plan "check_plan" (defScope s_check_plan) T.a_check_plan cdv A outer s H E) (fun c d _ H' => E c d H') := takes_of rfl rfl rfl rfl
  exact (dss_cons (ds_expr (de_call tk (hr.mono (by decide)) ⟨G_check_plugs, T.l_check_plugs, T.h_check_plugs.fn.kp, T.h_check_plugs.bd⟩ (da_val (de_var 1) (da_val (de_globI T.g_MOST_PLUGS) da_nil))))
      (dss_cons (ds_if (dt_w (dw_or (dt_not (dt_val (de_isi T.b_isinstance T.b_tuple ask_tuple (de_var 2)))) (dw_or1 (dt_c (cmp_ne hr) (de_callB T.b_len call_len cop_len (da_val (de_var 2) da_nil)) (de_callB T.b_len call_len cop_len (da_val (de_var 1) da_nil)))))) (dss_one (ds_raise tk T.r_BadPlan)) dss_nil)
      (dss_one (ds_if (dt_not (dt_val (de_callBL T.b_all (cr_all rfl) copL_all (dl_of (de_lc (own := [("place", 3)]) rfl sc_check_plan.nd (di_seq (de_var 2)) (blkOk_by (own := [("place", 3)]) (N := N_check_plan) (sc := defScope s_check_plan) (by decide +kernel)) (fun _ _ _ _ _ => (dg_name (i := 3) sc_check_plan.nd)) (fun _ _ _ _ _ => dts_nil) (fun _ _ _ _ _ => (de_or (de_c cmp_isN (de_var 3) de_non) (de_one (de_call takes0 (hr.mono (by decide)) ⟨G_is_place, T.l_is_place, T.h_is_place.fn.kp, T.h_is_place.bd⟩ (da_val (de_var 0) (da_val (de_var 3) da_nil)))))) (by decide)))))) (dss_one (ds_raise tk T.r_BadPlan)) dss_nil))))
theorem ok_can_turn {P : Program} {w : World} {K : PySem.W.Frag} {mg : MG} {base : Heap} (T : Env K mg) : FnOk P w K mg base (L2.CX P w) 1 T.a_can_turn T.d_can_turn ["plug"] (spP K mg Pk.F_can_turn) := by
  refine fn_okP (k := 0) T.h_can_turn.fn sc_can_turn rfl fun cdv A outer s H E hr => ?_
  have tk : Takes (cxOf (L2.CX P w) P w K mg base N_can_turn "can_turn" (defScope s_can_turn) T.a_can_turn cdv A outer s H E) (fun c d _ H' => E c d H') := takes_of rfl rfl rfl rfl
  exact (dss_one (ds_ret (de_and (de_sub1 (de_var 0) de_int) (de_one (de_c (cmp_ne hr) (de_sub1 (de_var 0) de_int) (de_sub1 (de_var 0) de_int))))))
theorem ok_pairs_of {P : Program} {w : World} {K : PySem.W.Frag} {mg : MG} {base : Heap} (T : Env K mg) : FnOk P w K mg base (L2.CX P w) 1 T.a_pairs_of T.d_pairs_of ["plan"] (spP K mg Pk.F_pairs_of) := by
  refine fn_okP (k := 0) T.h_pairs_of.fn sc_pairs_of rfl fun cdv A outer s H E hr => ?_
  have tk : Takes (cxOf (L2.CX P w) P w K mg base N_pairs_of "pairs_of" (defScope s_pairs_of) T.a_pairs_of cdv A outer s H E) (fun c d _ H' => E c d H') := takes_of rfl rfl rfl rfl
  exact (dss_cons (ds_set (i := 1) sc_pairs_of.nd (de_lc (own := [("index", 2), ("place", 3)]) rfl sc_pairs_of.nd (di_enum T.b_enumerate (de_var 0)) (blkOk_by (own := [("index", 2), ("place", 3)]) (N := N_pairs_of) (sc := defScope s_pairs_of) (by decide +kernel)) (fun _ _ _ _ _ => (dg_tup rfl (dgs_cons (dg_name (i := 2) sc_pairs_of.nd) (dgs_cons (dg_name (i := 3) sc_pairs_of.nd) dgs_nil)))) (fun _ _ _ _ _ => (dts_one (dt_c cmp_notN (de_var 3) de_non))) (fun _ _ _ _ _ => (de_var 2)) (by decide)))
      (dss_one (ds_ret (de_lc2 (own := [("one", 4), ("other", 5)]) (vs1 := [5]) rfl sc_pairs_of.nd (di_seq (de_var 1)) (blkOk_by (own := [("one", 4), ("other", 5)]) (N := N_pairs_of) (sc := defScope s_pairs_of) (by decide +kernel)) (by decide) (fun _ _ _ _ _ => (dg_name (i := 4) sc_pairs_of.nd)) (fun _ _ _ _ _ => dts_nil) (fun _ _ _ _ _ => (di_seq (de_var 1))) (fun _ _ _ _ _ => (dg_name (i := 5) sc_pairs_of.nd)) (fun _ _ _ _ _ => (dts_one (dt_c cmp_lt (de_var 4) (de_var 5)))) (fun _ _ _ _ _ => (de_tup (da_val (de_var 4) (da_val (de_var 5) da_nil)))) (by decide) (by decide)))))
theorem ok_sides {P : Program} {w : World} {K : PySem.W.Frag} {mg : MG} {base : Heap} (T : Env K mg) : FnOk P w K mg base (L2.CX P w) 1 T.a_sides T.d_sides ["plug", "turned"] (spP K mg Pk.F_sides) := by
  refine fn_okP (k := 0) T.h_sides.fn sc_sides rfl fun cdv A outer s H E hr => ?_
  have tk : Takes (cxOf (L2.CX P w) P w K mg base N_sides "sides" (defScope s_sides) T.a_sides cdv A outer s H E) (fun c d _ H' => E c d H') := takes_of rfl rfl rfl rfl
  exact (dss_one (ds_ret (de_if (dt_val (de_var 1)) (de_tup (da_val (de_sub1 (de_var 0) de_int) (da_val (de_sub1 (de_var 0) de_int) da_nil))) (de_slice (de_var 0) do_none (do_some de_int)))))
theorem ok_body {P : Program} {w : World} {K : PySem.W.Frag} {mg : MG} {base : Heap} (T : Env K mg) : FnOk P w K mg base (L2.CX P w) 2 T.a_body T.d_body ["strip", "plug", "place"] (spP K mg Pk.F_body) := by
  have G_sides := ok_sides (P := P) (w := w) (base := base) T
  refine fn_okP (k := 1) T.h_body.fn sc_body rfl fun cdv A outer s H E hr => ?_
  have tk : Takes (cxOf (L2.CX P w) P w K mg base N_body "body" (defScope s_body) T.a_body cdv A outer s H E) (fun c d _ H' => E c d H') := takes_of rfl rfl rfl rfl
  exact (dss_cons (ds_asg (de_call tk (hr.mono (by decide)) ⟨G_sides, T.l_sides, T.h_sides.fn.kp, T.h_sides.bd⟩ (da_val (de_var 1) (da_val (de_sub1 (de_var 2) de_int) da_nil))) (dg_tup rfl (dgs_cons (dg_name (i := 3) sc_body.nd) (dgs_cons (dg_name (i := 4) sc_body.nd) dgs_nil))))
      (dss_one (ds_ret (de_tup (da_val (de_sub (de_sub1 (de_fld T.k_Strip T.n_Strip_rows (de_var 0)) (de_sub1 (de_var 2) de_int)) (de_var 3)) (da_val (de_add (de_sub1 (de_fld T.k_Strip T.n_Strip_rows (de_var 0)) (de_sub1 (de_var 2) de_int)) (de_var 4)) da_nil))))))
theorem ok_are_apart {P : Program} {w : World} {K : PySem.W.Frag} {mg : MG} {base : Heap} (T : Env K mg) : FnOk P w K mg base (L2.CX P w) 3 T.a_are_apart T.d_are_apart ["strip", "one", "first", "other", "second"] (spP K mg Pk.F_are_apart) := by
  have G_body := ok_body (P := P) (w := w) (base := base) T
  refine fn_okP (k := 2) T.h_are_apart.fn sc_are_apart rfl fun cdv A outer s H E hr => ?_
  have tk : Takes (cxOf (L2.CX P w) P w K mg base N_are_apart "are_apart" (defScope s_are_apart) T.a_are_apart cdv A outer s H E) (fun c d _ H' => E c d H') := takes_of rfl rfl rfl rfl
  exact (dss_cons (ds_par (i := 5) (j := 6) rfl sc_are_apart.nd (by decide) (da_val (de_call tk (hr.mono (by decide)) ⟨G_body, T.l_body, T.h_body.fn.kp, T.h_body.bd⟩ (da_val (de_var 0) (da_val (de_var 1) (da_val (de_var 2) da_nil)))) (da_val (de_call tk (hr.mono (by decide)) ⟨G_body, T.l_body, T.h_body.fn.kp, T.h_body.bd⟩ (da_val (de_var 0) (da_val (de_var 3) (da_val (de_var 4) da_nil)))) da_nil)) (by rfl))
      (dss_one (ds_ret (de_if (dt_c cmp_lt (de_sub1 (de_var 2) de_int) (de_sub1 (de_var 4) de_int)) (de_c cmp_le (de_sub1 (de_var 5) de_int) (de_sub1 (de_var 6) de_int)) (de_c cmp_le (de_sub1 (de_var 6) de_int) (de_sub1 (de_var 5) de_int))))))
theorem ok_fault_of {P : Program} {w : World} {K : PySem.W.Frag} {mg : MG} {base : Heap} (T : Env K mg) : FnOk P w K mg base (L2.CX P w) 4 T.a_fault_of T.d_fault_of ["strip", "plugs", "plan"] (spP K mg Pk.F_fault_of) := by
  have G_are_apart := ok_are_apart (P := P) (w := w) (base := base) T
  have G_can_turn := ok_can_turn (P := P) (w := w) (base := base) T
  have G_pairs_of := ok_pairs_of (P := P) (w := w) (base := base) T
  refine fn_okP (k := 3) T.h_fault_of.fn sc_fault_of rfl fun cdv A outer s H E hr => ?_
  have tk : Takes (cxOf (L2.CX P w) P w K mg base N_fault_of "fault_of" (defScope s_fault_of) T.a_fault_of cdv A outer s H E) (fun c d _ H' => E c d H') := takes_of rfl rfl rfl rfl
  exact (dss_cons (ds_for (passes_of rfl) rfl (di_enum T.b_enumerate (de_var 2)) (dg_tup rfl (dgs_cons (dg_name (i := 3) sc_fault_of.nd) (dgs_cons (dg_name (i := 4) sc_fault_of.nd) dgs_nil)))
      (dss_one (ds_if (dt_w (dw_and (dt_c cmp_notN (de_var 4) de_non) (dw_and (dt_val (de_sub1 (de_var 4) de_int)) (dw_and1 (dt_not (dt_val (de_call tk (hr.mono (by decide)) ⟨G_can_turn, T.l_can_turn, T.h_can_turn.fn.kp, T.h_can_turn.bd⟩ (da_val (de_sub1 (de_var 1) (de_var 3)) da_nil)))))))) (dss_one (ds_ret (de_tup (da_val de_str (da_val (de_var 3) da_nil))))) dss_nil)))
      (dss_cons (ds_for (passes_of rfl) rfl (di_seq (de_call tk (hr.mono (by decide)) ⟨G_pairs_of, T.l_pairs_of, T.h_pairs_of.fn.kp, T.h_pairs_of.bd⟩ (da_val (de_var 2) da_nil))) (dg_tup rfl (dgs_cons (dg_name (i := 5) sc_fault_of.nd) (dgs_cons (dg_name (i := 6) sc_fault_of.nd) dgs_nil)))
      (dss_one (ds_if (dt_c (cmp_eq hr) (de_sub1 (de_sub1 (de_var 2) (de_var 5)) de_int) (de_sub1 (de_sub1 (de_var 2) (de_var 6)) de_int)) (dss_one (ds_ret (de_tup (da_val de_str (da_val (de_var 5) (da_val (de_var 6) da_nil)))))) dss_nil)))
      (dss_cons (ds_for (passes_of rfl) rfl (di_seq (de_call tk (hr.mono (by decide)) ⟨G_pairs_of, T.l_pairs_of, T.h_pairs_of.fn.kp, T.h_pairs_of.bd⟩ (da_val (de_var 2) da_nil))) (dg_tup rfl (dgs_cons (dg_name (i := 5) sc_fault_of.nd) (dgs_cons (dg_name (i := 6) sc_fault_of.nd) dgs_nil)))
      (dss_one (ds_if (dt_not (dt_val (de_call tk (hr.mono (by decide)) ⟨G_are_apart, T.l_are_apart, T.h_are_apart.fn.kp, T.h_are_apart.bd⟩ (da_val (de_var 0) (da_val (de_sub1 (de_var 1) (de_var 5)) (da_val (de_sub1 (de_var 2) (de_var 5)) (da_val (de_sub1 (de_var 1) (de_var 6)) (da_val (de_sub1 (de_var 2) (de_var 6)) da_nil)))))))) (dss_one (ds_ret (de_tup (da_val de_str (da_val (de_var 5) (da_val (de_var 6) da_nil)))))) dss_nil)))
      (dss_one (ds_ret de_non)))))
theorem ok_judge {P : Program} {w : World} {K : PySem.W.Frag} {mg : MG} {base : Heap} (T : Env K mg) : FnOk P w K mg base (L2.CX P w) 5 T.a_judge T.d_judge ["strip", "plugs", "plan"] (spP K mg Pk.F_judge_2) := by
  have G_check_plan := ok_check_plan (P := P) (w := w) (base := base) T
  have G_fault_of := ok_fault_of (P := P) (w := w) (base := base) T
  refine fn_okP (k := 4) T.h_judge.fn sc_judge rfl fun cdv A outer s H E hr => ?_
  have tk : Takes (cxOf (L2.CX P w) P w K mg base N_judge "judge" (defScope s_judge) T.a_judge cdv A outer s H E) (fun c d _ H' => E c d H') := takes_of rfl rfl rfl rfl
  exact (dss_cons (ds_expr (de_call tk (hr.mono (by decide)) ⟨G_check_plan, T.l_check_plan, T.h_check_plan.fn.kp, T.h_check_plan.bd⟩ (da_val (de_var 0) (da_val (de_var 1) (da_val (de_var 2) da_nil)))))
      (dss_one (ds_ret (de_call tk (hr.mono (by decide)) ⟨G_fault_of, T.l_fault_of, T.h_fault_of.fn.kp, T.h_fault_of.bd⟩ (da_val (de_var 0) (da_val (de_var 1) (da_val (de_var 2) da_nil)))))))
theorem ok_check_right {P : Program} {w : World} {K : PySem.W.Frag} {mg : MG} {base : Heap} (T : Env K mg) : FnOk P w K mg base (L2.CX P w) 5 T.a_check_right T.d_check_right ["strip", "plugs", "plan"] (spP K mg Pk.F_check_right_2) := by
  have G_check_plan := ok_check_plan (P := P) (w := w) (base := base) T
  have G_fault_of := ok_fault_of (P := P) (w := w) (base := base) T
  refine fn_okP (k := 4) T.h_check_right.fn sc_check_right rfl fun cdv A outer s H E hr => ?_
  have tk : Takes (cxOf (L2.CX P w) P w K mg base N_check_right "check_right" (defScope s_check_right) T.a_check_right cdv A outer s H E) (fun c d _ H' => E c d H') := takes_of rfl rfl rfl rfl
  exact (dss_cons (ds_expr (de_call tk (hr.mono (by decide)) ⟨G_check_plan, T.l_check_plan, T.h_check_plan.fn.kp, T.h_check_plan.bd⟩ (da_val (de_var 0) (da_val (de_var 1) (da_val (de_var 2) da_nil)))))
      (dss_one (ds_if (dt_c cmp_notN (de_call tk (hr.mono (by decide)) ⟨G_fault_of, T.l_fault_of, T.h_fault_of.fn.kp, T.h_fault_of.bd⟩ (da_val (de_var 0) (da_val (de_var 1) (da_val (de_var 2) da_nil)))) de_non) (dss_one (ds_raise tk T.r_NotRight)) dss_nil)))
theorem ok_words {P : Program} {w : World} {K : PySem.W.Frag} {mg : MG} {base : Heap} (T : Env K mg) : FnOk P w K mg base (L2.CX P w) 6 T.a_words T.d_words ["strip", "plugs", "plan"] (spP K mg Pk.F_words_c) := by
  have G_check_right := ok_check_right (P := P) (w := w) (base := base) T
  refine fn_okP (k := 5) T.h_words.fn sc_words rfl fun cdv A outer s H E hr => ?_
  have tk : Takes (cxOf (L2.CX P w) P w K mg base N_words "words" (defScope s_words) T.a_words cdv A outer s H E) (fun c d _ H' => E c d H') := takes_of rfl rfl rfl rfl
  exact (dss_cons (ds_expr (de_call tk (hr.mono (by decide)) ⟨G_check_right, T.l_check_right, T.h_check_right.fn.kp, T.h_check_right.bd⟩ (da_val (de_var 0) (da_val (de_var 1) (da_val (de_var 2) da_nil)))))
      dss_never)
theorem ok_check_plug {P : Program} {w : World} {K : PySem.W.Frag} {mg : MG} {base : Heap} (T : Env K mg) : FnOk P w K mg base (L2.CX P w) 3 T.a_check_plug T.d_check_plug ["value"] (spP K mg Pk.F_check_plug_2) := by
  have G_is_plug := ok_is_plug (P := P) (w := w) (base := base) T
  refine fn_okP (k := 2) T.h_check_plug.fn sc_check_plug rfl fun cdv A outer s H E hr => ?_
  have tk : Takes (cxOf (L2.CX P w) P w K mg base N_check_plug "check_plug" (defScope s_check_plug) T.a_check_plug cdv A outer s H E) (fun c d _ H' => E c d H') := takes_of rfl rfl rfl rfl
  exact (dss_one (ds_if (dt_not (dt_val (de_call tk (hr.mono (by decide)) ⟨G_is_plug, T.l_is_plug, T.h_is_plug.fn.kp, T.h_is_plug.bd⟩ (da_val (de_var 0) da_nil)))) (dss_one (ds_raise tk T.r_BadPlug)) dss_nil))
theorem ok_rooms {P : Program} {w : World} {K : PySem.W.Frag} {mg : MG} {base : Heap} (T : Env K mg) : FnOk P w K mg base (L2.CX P w) 6 T.a_rooms T.d_rooms ["strip", "plugs", "plan", "plug"] (spP K mg Pk.F_rooms_c) := by
  have G_check_plug := ok_check_plug (P := P) (w := w) (base := base) T
  have G_check_right := ok_check_right (P := P) (w := w) (base := base) T
  refine fn_okP (k := 5) T.h_rooms.fn sc_rooms rfl fun cdv A outer s H E hr => ?_
  have tk : Takes (cxOf (L2.CX P w) P w K mg base N_rooms "rooms" (defScope s_rooms) T.a_rooms cdv A outer s H E) (fun c d _ H' => E c d H') := takes_of rfl rfl rfl rfl
  exact (dss_cons (ds_expr (de_call tk (hr.mono (by decide)) ⟨G_check_right, T.l_check_right, T.h_check_right.fn.kp, T.h_check_right.bd⟩ (da_val (de_var 0) (da_val (de_var 1) (da_val (de_var 2) da_nil)))))
      (dss_cons (ds_expr (de_call tk (hr.mono (by decide)) ⟨G_check_plug, T.l_check_plug, T.h_check_plug.fn.kp, T.h_check_plug.bd⟩ (da_val (de_var 3) da_nil)))
      dss_never))
theorem ok_make_room {P : Program} {w : World} {K : PySem.W.Frag} {mg : MG} {base : Heap} (T : Env K mg) : FnOk P w K mg base (L2.CX P w) 6 T.a_make_room T.d_make_room ["strip", "plugs", "plan", "plug"] (spP K mg Pk.F_make_room_c) := by
  have G_check_plug := ok_check_plug (P := P) (w := w) (base := base) T
  have G_check_right := ok_check_right (P := P) (w := w) (base := base) T
  refine fn_okP (k := 5) T.h_make_room.fn sc_make_room rfl fun cdv A outer s H E hr => ?_
  have tk : Takes (cxOf (L2.CX P w) P w K mg base N_make_room "make_room" (defScope s_make_room) T.a_make_room cdv A outer s H E) (fun c d _ H' => E c d H') := takes_of rfl rfl rfl rfl
  exact (dss_cons (ds_expr (de_call tk (hr.mono (by decide)) ⟨G_check_right, T.l_check_right, T.h_check_right.fn.kp, T.h_check_right.bd⟩ (da_val (de_var 0) (da_val (de_var 1) (da_val (de_var 2) da_nil)))))
      (dss_cons (ds_expr (de_call tk (hr.mono (by decide)) ⟨G_check_plug, T.l_check_plug, T.h_check_plug.fn.kp, T.h_check_plug.bd⟩ (da_val (de_var 3) da_nil)))
      dss_never))
theorem ok_count_plans {P : Program} {w : World} {K : PySem.W.Frag} {mg : MG} {base : Heap} (T : Env K mg) : FnOk P w K mg base (L2.CX P w) 4 T.a_count_plans T.d_count_plans ["strip", "plugs"] (spP K mg Pk.F_count_plans_c) := by
  have G_check_plugs := ok_check_plugs (P := P) (w := w) (base := base) T
  refine fn_okP (k := 3) T.h_count_plans.fn sc_count_plans rfl fun cdv A outer s H E hr => ?_
  have tk : Takes (cxOf (L2.CX P w) P w K mg base N_count_plans "count_plans" (defScope s_count_plans) T.a_count_plans cdv A outer s H E) (fun c d _ H' => E c d H') := takes_of rfl rfl rfl rfl
  exact (dss_cons (ds_expr (de_call tk (hr.mono (by decide)) ⟨G_check_plugs, T.l_check_plugs, T.h_check_plugs.fn.kp, T.h_check_plugs.bd⟩ (da_val (de_var 1) (da_val (de_globI T.g_MOST_PLUGS) da_nil))))
      dss_never)
theorem ok_least_plan {P : Program} {w : World} {K : PySem.W.Frag} {mg : MG} {base : Heap} (T : Env K mg) : FnOk P w K mg base (L2.CX P w) 4 T.a_least_plan T.d_least_plan ["strip", "plugs"] (spP K mg Pk.F_least_plan_c) := by
  have G_check_plugs := ok_check_plugs (P := P) (w := w) (base := base) T
  refine fn_okP (k := 3) T.h_least_plan.fn sc_least_plan rfl fun cdv A outer s H E hr => ?_
  have tk : Takes (cxOf (L2.CX P w) P w K mg base N_least_plan "least_plan" (defScope s_least_plan) T.a_least_plan cdv A outer s H E) (fun c d _ H' => E c d H') := takes_of rfl rfl rfl rfl
  exact (dss_cons (ds_expr (de_call tk (hr.mono (by decide)) ⟨G_check_plugs, T.l_check_plugs, T.h_check_plugs.fn.kp, T.h_check_plugs.bd⟩ (da_val (de_var 1) (da_val (de_globI T.g_MOST_PLUGS) da_nil))))
      dss_never)
theorem ok_most_together {P : Program} {w : World} {K : PySem.W.Frag} {mg : MG} {base : Heap} (T : Env K mg) : FnOk P w K mg base (L2.CX P w) 4 T.a_most_together T.d_most_together ["strip", "plugs"] (spP K mg Pk.F_most_together_c) := by
  have G_check_plugs := ok_check_plugs (P := P) (w := w) (base := base) T
  refine fn_okP (k := 3) T.h_most_together.fn sc_most_together rfl fun cdv A outer s H E hr => ?_
  have tk : Takes (cxOf (L2.CX P w) P w K mg base N_most_together "most_together" (defScope s_most_together) T.a_most_together cdv A outer s H E) (fun c d _ H' => E c d H') := takes_of rfl rfl rfl rfl
  exact (dss_cons (ds_expr (de_call tk (hr.mono (by decide)) ⟨G_check_plugs, T.l_check_plugs, T.h_check_plugs.fn.kp, T.h_check_plugs.bd⟩ (da_val (de_var 1) (da_val (de_globI T.g_MOST_PLUGS) da_nil))))
      dss_never)
theorem ok_bars {P : Program} {w : World} {K : PySem.W.Frag} {mg : MG} {base : Heap} (T : Env K mg) : FnOk P w K mg base (L2.CX P w) 4 T.a_bars T.d_bars ["strip", "plugs"] (spP K mg Pk.F_bars_c) := by
  have G_check_plugs := ok_check_plugs (P := P) (w := w) (base := base) T
  refine fn_okP (k := 3) T.h_bars.fn sc_bars rfl fun cdv A outer s H E hr => ?_
  have tk : Takes (cxOf (L2.CX P w) P w K mg base N_bars "bars" (defScope s_bars) T.a_bars cdv A outer s H E) (fun c d _ H' => E c d H') := takes_of rfl rfl rfl rfl
  exact (dss_cons (ds_expr (de_call tk (hr.mono (by decide)) ⟨G_check_plugs, T.l_check_plugs, T.h_check_plugs.fn.kp, T.h_check_plugs.bd⟩ (da_val (de_var 1) (da_val (de_globI T.g_MOST_PLUGS) da_nil))))
      dss_never)
theorem ok_paper {P : Program} {w : World} {K : PySem.W.Frag} {mg : MG} {base : Heap} (T : Env K mg) : FnOk P w K mg base (L2.CX P w) 4 T.a_paper T.d_paper ["strip", "plugs"] (spP K mg Pk.F_paper_c) := by
  have G_check_plugs := ok_check_plugs (P := P) (w := w) (base := base) T
  refine fn_okP (k := 3) T.h_paper.fn sc_paper rfl fun cdv A outer s H E hr => ?_
  have tk : Takes (cxOf (L2.CX P w) P w K mg base N_paper "paper" (defScope s_paper) T.a_paper cdv A outer s H E) (fun c d _ H' => E c d H') := takes_of rfl rfl rfl rfl
  exact (dss_cons (ds_expr (de_call tk (hr.mono (by decide)) ⟨G_check_plugs, T.l_check_plugs, T.h_check_plugs.fn.kp, T.h_check_plugs.bd⟩ (da_val (de_var 1) (da_val (de_globI T.g_MOST_PLUGS) da_nil))))
      dss_never)
theorem ok__law_asked {P : Program} {w : World} {K : PySem.W.Frag} {mg : MG} {base : Heap} (T : Env K mg) : FnOk P w K mg base (L2.CX P w) 5 T.a__law_asked T.d__law_asked ["_law_strip", "_law_plugs_here", "_law_which"] (spP K mg Pk.F__law_asked) := by
  have G_bars := ok_bars (P := P) (w := w) (base := base) T
  have G_count_plans := ok_count_plans (P := P) (w := w) (base := base) T
  have G_least_plan := ok_least_plan (P := P) (w := w) (base := base) T
  have G_most_together := ok_most_together (P := P) (w := w) (base := base) T
  have G_paper := ok_paper (P := P) (w := w) (base := base) T
  refine fn_okP (k := 4) T.h__law_asked.fn sc__law_asked rfl fun cdv A outer s H E hr => ?_
  have tk : Takes (cxOf (L2.CX P w) P w K mg base N__law_asked "_law_asked" (defScope s__law_asked) T.a__law_asked cdv A outer s H E) (fun c d _ H' => E c d H') := takes_of rfl rfl rfl rfl
  exact (dss_cons (ds_if (dt_c (cmp_eq hr) (de_var 2) de_int) (dss_one (ds_ret (de_call tk (hr.mono (by decide)) ⟨G_count_plans, T.l_count_plans, T.h_count_plans.fn.kp, T.h_count_plans.bd⟩ (da_val (de_var 0) (da_val (de_var 1) da_nil))))) dss_nil)
      (dss_cons (ds_if (dt_c (cmp_eq hr) (de_var 2) de_int) (dss_one (ds_ret (de_call tk (hr.mono (by decide)) ⟨G_least_plan, T.l_least_plan, T.h_least_plan.fn.kp, T.h_least_plan.bd⟩ (da_val (de_var 0) (da_val (de_var 1) da_nil))))) dss_nil)
      (dss_cons (ds_if (dt_c (cmp_eq hr) (de_var 2) de_int) (dss_one (ds_ret (de_call tk (hr.mono (by decide)) ⟨G_most_together, T.l_most_together, T.h_most_together.fn.kp, T.h_most_together.bd⟩ (da_val (de_var 0) (da_val (de_var 1) da_nil))))) dss_nil)
      (dss_one (ds_ret (de_if (dt_c (cmp_eq hr) (de_var 2) de_int) (de_call tk (hr.mono (by decide)) ⟨G_bars, T.l_bars, T.h_bars.fn.kp, T.h_bars.bd⟩ (da_val (de_var 0) (da_val (de_var 1) da_nil))) (de_call tk (hr.mono (by decide)) ⟨G_paper, T.l_paper, T.h_paper.fn.kp, T.h_paper.bd⟩ (da_val (de_var 0) (da_val (de_var 1) da_nil)))))))))
theorem ok__law_told_there {P : Program} {w : World} {K : PySem.W.Frag} {mg : MG} {base : Heap} (T : Env K mg) : FnOk P w K mg base (L2.CX P w) 7 T.a__law_told_there T.d__law_told_there ["_law_strip", "_law_plugs_here", "_law_plan", "_law_plug_here", "_law_which"] (spP K mg Pk.F__law_told_there) := by
  have G__law_asked := ok__law_asked (P := P) (w := w) (base := base) T
  have G_judge := ok_judge (P := P) (w := w) (base := base) T
  have G_make_room := ok_make_room (P := P) (w := w) (base := base) T
  have G_rooms := ok_rooms (P := P) (w := w) (base := base) T
  have G_words := ok_words (P := P) (w := w) (base := base) T
  refine fn_okP (k := 6) T.h__law_told_there.fn sc__law_told_there rfl fun cdv A outer s H E hr => ?_
  have tk : Takes (cxOf (L2.CX P w) P w K mg base N__law_told_there "_law_told_there" (defScope s__law_told_there) T.a__law_told_there cdv A outer s H E) (fun c d _ H' => E c d H') := takes_of rfl rfl rfl rfl
  exact (dss_cons (ds_set (i := 5) sc__law_told_there.nd de_non)
      (dss_cons (ds_try (nms := ["BadSockets", "BadPlug", "BadPlan", "NotRight", "BadPlugs"]) (i := 6) (hN := sc__law_told_there.nd) tk (hb := fun _ _ _ tk1 hp1 => (dss_one (ds_if (dt_c (cmp_eq hr) (de_var 4) de_int) (dss_one (ds_set (i := 5) sc__law_told_there.nd (de_call tk1 (hr.mono (by decide)) ⟨G_judge, T.l_judge, T.h_judge.fn.kp, T.h_judge.bd⟩ (da_val (de_var 0) (da_val (de_var 1) (da_val (de_var 2) da_nil)))))) (dss_one (ds_if (dt_c (cmp_eq hr) (de_var 4) de_int) (dss_one (ds_set (i := 5) sc__law_told_there.nd (de_call tk1 (hr.mono (by decide)) ⟨G_words, T.l_words, T.h_words.fn.kp, T.h_words.bd⟩ (da_val (de_var 0) (da_val (de_var 1) (da_val (de_var 2) da_nil)))))) (dss_one (ds_if (dt_c (cmp_eq hr) (de_var 4) de_int) (dss_one (ds_set (i := 5) sc__law_told_there.nd (de_call tk1 (hr.mono (by decide)) ⟨G_rooms, T.l_rooms, T.h_rooms.fn.kp, T.h_rooms.bd⟩ (da_val (de_var 0) (da_val (de_var 1) (da_val (de_var 2) (da_val (de_var 3) da_nil))))))) (dss_one (ds_if (dt_c (cmp_eq hr) (de_var 4) de_int) (dss_one (ds_set (i := 5) sc__law_told_there.nd (de_call tk1 (hr.mono (by decide)) ⟨G_make_room, T.l_make_room, T.h_make_room.fn.kp, T.h_make_room.bd⟩ (da_val (de_var 0) (da_val (de_var 1) (da_val (de_var 2) (da_val (de_var 3) da_nil))))))) (dss_one (ds_set (i := 5) sc__law_told_there.nd (de_call tk1 (hr.mono (by decide)) ⟨G__law_asked, T.l__law_asked, T.h__law_asked.fn.kp, T.h__law_asked.bd⟩ (da_val (de_var 0) (da_val (de_var 1) (da_val (de_var 4) da_nil)))))))))))))))
      (hh := (.cons rfl (by decide) T.x_BadPlugs.gl (catches_cons T.x_BadPlugs T.x_BadSockets T.s_BadSockets_BadPlugs (catches_cons T.x_BadPlugs T.x_BadPlug T.s_BadPlug_BadPlugs (catches_cons T.x_BadPlugs T.x_BadPlan T.s_BadPlan_BadPlugs (catches_cons T.x_BadPlugs T.x_NotRight T.s_NotRight_BadPlugs (catches_cons T.x_BadPlugs T.x_BadPlugs T.s_BadPlugs_BadPlugs catches_nil))))) (su_set (j := 5) (dx_if (dx_isi T.b_isinstance T.x_StripError.gl (isx_cons T.x_StripError T.x_BadSockets T.s_BadSockets_StripError (isx_cons T.x_StripError T.x_BadPlug T.s_BadPlug_StripError (isx_cons T.x_StripError T.x_BadPlan T.s_BadPlan_StripError (isx_cons T.x_StripError T.x_NotRight T.s_NotRight_StripError (isx_cons T.x_StripError T.x_BadPlugs T.s_BadPlugs_StripError isx_nil)))))) (dx_lst (dxa_cons (dx_of fun _ _ _ => de_str) (dxa_cons (dx_fld T.f_BadPlugs_index) dxa_nil))) (dx_of fun _ _ _ => de_str)) sc__law_told_there.nd) (.cons rfl (by decide) T.x_BadPlan.gl (catches_cons T.x_BadPlan T.x_BadSockets T.s_BadSockets_BadPlan (catches_cons T.x_BadPlan T.x_BadPlug T.s_BadPlug_BadPlan (catches_cons T.x_BadPlan T.x_BadPlan T.s_BadPlan_BadPlan (catches_cons T.x_BadPlan T.x_NotRight T.s_NotRight_BadPlan (catches_cons T.x_BadPlan T.x_BadPlugs T.s_BadPlugs_BadPlan catches_nil))))) (su_set (j := 5) (dx_if (dx_isi T.b_isinstance T.x_StripError.gl (isx_cons T.x_StripError T.x_BadSockets T.s_BadSockets_StripError (isx_cons T.x_StripError T.x_BadPlug T.s_BadPlug_StripError (isx_cons T.x_StripError T.x_BadPlan T.s_BadPlan_StripError (isx_cons T.x_StripError T.x_NotRight T.s_NotRight_StripError (isx_cons T.x_StripError T.x_BadPlugs T.s_BadPlugs_StripError isx_nil)))))) (dx_of fun _ _ _ => de_str) (dx_of fun _ _ _ => de_str)) sc__law_told_there.nd) (.cons rfl (by decide) T.x_NotRight.gl (catches_cons T.x_NotRight T.x_BadSockets T.s_BadSockets_NotRight (catches_cons T.x_NotRight T.x_BadPlug T.s_BadPlug_NotRight (catches_cons T.x_NotRight T.x_BadPlan T.s_BadPlan_NotRight (catches_cons T.x_NotRight T.x_NotRight T.s_NotRight_NotRight (catches_cons T.x_NotRight T.x_BadPlugs T.s_BadPlugs_NotRight catches_nil))))) (su_set (j := 5) (dx_if (dx_isi T.b_isinstance T.x_StripError.gl (isx_cons T.x_StripError T.x_BadSockets T.s_BadSockets_StripError (isx_cons T.x_StripError T.x_BadPlug T.s_BadPlug_StripError (isx_cons T.x_StripError T.x_BadPlan T.s_BadPlan_StripError (isx_cons T.x_StripError T.x_NotRight T.s_NotRight_StripError (isx_cons T.x_StripError T.x_BadPlugs T.s_BadPlugs_StripError isx_nil)))))) (dx_of fun _ _ _ => de_str) (dx_of fun _ _ _ => de_str)) sc__law_told_there.nd) (.cons rfl (by decide) T.x_BadPlug.gl (catches_cons T.x_BadPlug T.x_BadSockets T.s_BadSockets_BadPlug (catches_cons T.x_BadPlug T.x_BadPlug T.s_BadPlug_BadPlug (catches_cons T.x_BadPlug T.x_BadPlan T.s_BadPlan_BadPlug (catches_cons T.x_BadPlug T.x_NotRight T.s_NotRight_BadPlug (catches_cons T.x_BadPlug T.x_BadPlugs T.s_BadPlugs_BadPlug catches_nil))))) (su_set (j := 5) (dx_if (dx_isi T.b_isinstance T.x_StripError.gl (isx_cons T.x_StripError T.x_BadSockets T.s_BadSockets_StripError (isx_cons T.x_StripError T.x_BadPlug T.s_BadPlug_StripError (isx_cons T.x_StripError T.x_BadPlan T.s_BadPlan_StripError (isx_cons T.x_StripError T.x_NotRight T.s_NotRight_StripError (isx_cons T.x_StripError T.x_BadPlugs T.s_BadPlugs_StripError isx_nil)))))) (dx_of fun _ _ _ => de_str) (dx_of fun _ _ _ => de_str)) sc__law_told_there.nd) .nil))))))
      (dss_one (ds_ret (de_var 5)))))
theorem ok__law_can {P : Program} {w : World} {K : PySem.W.Frag} {mg : MG} {base : Heap} (T : Env K mg) : FnOk P w K mg base (L2.CX P w) 1 T.a__law_can T.d__law_can ["_law_plug_here"] (spP K mg Pk.F__law_can) := by
  refine fn_okP (k := 0) T.h__law_can.fn sc__law_can rfl fun cdv A outer s H E hr => ?_
  have tk : Takes (cxOf (L2.CX P w) P w K mg base N__law_can "_law_can" (defScope s__law_can) T.a__law_can cdv A outer s H E) (fun c d _ H' => E c d H') := takes_of rfl rfl rfl rfl
  exact (dss_one (ds_ret (de_and (de_sub1 (de_var 0) de_int) (de_one (de_c (cmp_ne hr) (de_sub1 (de_var 0) de_int) (de_sub1 (de_var 0) de_int))))))
theorem ok__law_places {P : Program} {w : World} {K : PySem.W.Frag} {mg : MG} {base : Heap} (T : Env K mg) : FnOk P w K mg base (L2.CX P w) 2 T.a__law_places T.d__law_places ["_law_sockets_here", "_law_plug_here"] (spP K mg Pk.F__law_places) := by
  have G__law_can := ok__law_can (P := P) (w := w) (base := base) T
  refine fn_okP (k := 1) T.h__law_places.fn sc__law_places rfl fun cdv A outer s H E hr => ?_
  have tk : Takes (cxOf (L2.CX P w) P w K mg base N__law_places "_law_places" (defScope s__law_places) T.a__law_places cdv A outer s H E) (fun c d _ H' => E c d H') := takes_of rfl rfl rfl rfl
  exact (dss_cons (ds_newL (i := 2) sc__law_places.nd da_nil)
      (dss_cons (ds_for (passes_of rfl) rfl (di_range1 T.b_range (de_callB T.b_len call_len cop_len (da_val (de_var 0) da_nil))) (dg_name (i := 3) sc__law_places.nd)
      (dss_cons (ds_app 2 (de_tup (da_val (de_var 3) (da_val de_bl da_nil))))
      (dss_one (ds_if (dt_val (de_call tk (hr.mono (by decide)) ⟨G__law_can, T.l__law_can, T.h__law_can.fn.kp, T.h__law_can.bd⟩ (da_val (de_var 1) da_nil))) (dss_one (ds_app 2 (de_tup (da_val (de_var 3) (da_val de_bl da_nil))))) dss_nil))))
      (dss_one (ds_retL 2))))
theorem ok__law_body {P : Program} {w : World} {K : PySem.W.Frag} {mg : MG} {base : Heap} (T : Env K mg) : FnOk P w K mg base (L2.CX P w) 1 T.a__law_body T.d__law_body ["_law_sockets_here", "_law_plug_here", "_law_place"] (spP K mg Pk.F__law_body) := by
  refine fn_okP (k := 0) T.h__law_body.fn sc__law_body rfl fun cdv A outer s H E hr => ?_
  have tk : Takes (cxOf (L2.CX P w) P w K mg base N__law_body "_law_body" (defScope s__law_body) T.a__law_body cdv A outer s H E) (fun c d _ H' => E c d H') := takes_of rfl rfl rfl rfl
  exact (dss_cons (ds_par (i := 3) (j := 4) rfl sc__law_body.nd (by decide) (da_val (de_sub1 (de_var 1) de_int) (da_val (de_sub1 (de_var 1) de_int) da_nil)) (by rfl))
      (dss_cons (ds_if (dt_val (de_sub1 (de_var 2) de_int)) (dss_one (ds_par (i := 3) (j := 4) rfl sc__law_body.nd (by decide) (da_val (de_var 4) (da_val (de_var 3) da_nil)) (by rfl))) dss_nil)
      (dss_one (ds_ret (de_lst (da_val (de_sub (de_sub1 (de_var 0) (de_sub1 (de_var 2) de_int)) (de_var 3)) (da_val (de_add (de_sub1 (de_var 0) (de_sub1 (de_var 2) de_int)) (de_var 4)) da_nil)))))))
theorem ok__law_meet {P : Program} {w : World} {K : PySem.W.Frag} {mg : MG} {base : Heap} (T : Env K mg) : FnOk P w K mg base (L2.CX P w) 2 T.a__law_meet T.d__law_meet ["_law_sockets_here", "_law_plugs_here", "_law_plan", "_law_one", "_law_other"] (spP K mg Pk.F__law_meet) := by
  have G__law_body := ok__law_body (P := P) (w := w) (base := base) T
  refine fn_okP (k := 1) T.h__law_meet.fn sc__law_meet rfl fun cdv A outer s H E hr => ?_
  have tk : Takes (cxOf (L2.CX P w) P w K mg base N__law_meet "_law_meet" (defScope s__law_meet) T.a__law_meet cdv A outer s H E) (fun c d _ H' => E c d H') := takes_of rfl rfl rfl rfl
  exact (dss_cons (ds_if (dt_c cmp_gt (de_sub1 (de_sub1 (de_var 2) (de_var 3)) de_int) (de_sub1 (de_sub1 (de_var 2) (de_var 4)) de_int)) (dss_one (ds_par (i := 3) (j := 4) rfl sc__law_meet.nd (by decide) (da_val (de_var 4) (da_val (de_var 3) da_nil)) (by rfl))) dss_nil)
      (dss_cons (ds_set (i := 5) sc__law_meet.nd (de_call tk (hr.mono (by decide)) ⟨G__law_body, T.l__law_body, T.h__law_body.fn.kp, T.h__law_body.bd⟩ (da_val (de_var 0) (da_val (de_sub1 (de_var 1) (de_var 3)) (da_val (de_sub1 (de_var 2) (de_var 3)) da_nil)))))
      (dss_one (ds_ret (de_c cmp_gt (de_sub1 (de_var 5) de_int) (de_sub1 (de_call tk (hr.mono (by decide)) ⟨G__law_body, T.l__law_body, T.h__law_body.fn.kp, T.h__law_body.bd⟩ (da_val (de_var 0) (da_val (de_sub1 (de_var 1) (de_var 4)) (da_val (de_sub1 (de_var 2) (de_var 4)) da_nil)))) de_int))))))
theorem ok__law_fault {P : Program} {w : World} {K : PySem.W.Frag} {mg : MG} {base : Heap} (T : Env K mg) : FnOk P w K mg base (L2.CX P w) 3 T.a__law_fault T.d__law_fault ["_law_sockets_here", "_law_plugs_here", "_law_plan"] (spP K mg Pk.F__law_fault) := by
  have G__law_can := ok__law_can (P := P) (w := w) (base := base) T
  have G__law_meet := ok__law_meet (P := P) (w := w) (base := base) T
  refine fn_okP (k := 2) T.h__law_fault.fn sc__law_fault rfl fun cdv A outer s H E hr => ?_
  have tk : Takes (cxOf (L2.CX P w) P w K mg base N__law_fault "_law_fault" (defScope s__law_fault) T.a__law_fault cdv A outer s H E) (fun c d _ H' => E c d H') := takes_of rfl rfl rfl rfl
  exact (dss_cons (ds_setLc (i := 3) (own := [("_law_k", 4)]) rfl sc__law_fault.nd (sw_true rfl rfl rfl (by decide +kernel)) (di_range1 T.b_range (de_callB T.b_len call_len cop_len (da_val (de_var 2) da_nil))) (blkOk_by (own := [("_law_k", 4)]) (N := N__law_fault) (sc := defScope s__law_fault) (by decide +kernel)) (fun _ _ _ _ _ => (dg_name (i := 4) sc__law_fault.nd)) (fun _ _ _ _ _ => (dts_one (dt_c cmp_notN (de_sub1 (de_var 2) (de_var 4)) de_non))) (fun _ _ _ _ _ => (de_var 4)) (by decide))
      (dss_cons (ds_for (passes_of rfl) rfl (di_seq (de_var 3)) (dg_name (i := 4) sc__law_fault.nd)
      (dss_one (ds_if (dt_w (dw_and (dt_val (de_sub1 (de_sub1 (de_var 2) (de_var 4)) de_int)) (dw_and1 (dt_not (dt_val (de_call tk (hr.mono (by decide)) ⟨G__law_can, T.l__law_can, T.h__law_can.fn.kp, T.h__law_can.bd⟩ (da_val (de_sub1 (de_var 1) (de_var 4)) da_nil))))))) (dss_one (ds_ret (de_tup (da_val de_str (da_val (de_var 4) da_nil))))) dss_nil)))
      (dss_cons (ds_for (passes_of rfl) rfl (di_seq (de_var 3)) (dg_name (i := 5) sc__law_fault.nd)
      (dss_one (ds_for (passes_of rfl) rfl (di_seq (de_var 3)) (dg_name (i := 6) sc__law_fault.nd)
      (dss_one (ds_if (dt_w (dw_and (dt_c cmp_lt (de_var 5) (de_var 6)) (dw_and1 (dt_c (cmp_eq hr) (de_sub1 (de_sub1 (de_var 2) (de_var 5)) de_int) (de_sub1 (de_sub1 (de_var 2) (de_var 6)) de_int))))) (dss_one (ds_ret (de_tup (da_val de_str (da_val (de_var 5) (da_val (de_var 6) da_nil)))))) dss_nil)))))
      (dss_cons (ds_for (passes_of rfl) rfl (di_seq (de_var 3)) (dg_name (i := 5) sc__law_fault.nd)
      (dss_one (ds_for (passes_of rfl) rfl (di_seq (de_var 3)) (dg_name (i := 6) sc__law_fault.nd)
      (dss_one (ds_if (dt_w (dw_and (dt_c cmp_lt (de_var 5) (de_var 6)) (dw_and1 (dt_val (de_call tk (hr.mono (by decide)) ⟨G__law_meet, T.l__law_meet, T.h__law_meet.fn.kp, T.h__law_meet.bd⟩ (da_val (de_var 0) (da_val (de_var 1) (da_val (de_var 2) (da_val (de_var 5) (da_val (de_var 6) da_nil)))))))))) (dss_one (ds_ret (de_tup (da_val de_str (da_val (de_var 5) (da_val (de_var 6) da_nil)))))) dss_nil)))))
      (dss_one (ds_ret de_non))))))
theorem ok__law_part {P : Program} {w : World} {K : PySem.W.Frag} {mg : MG} {base : Heap} (T : Env K mg) : FnOk P w K mg base (L2.CX P w) 4 T.a__law_part T.d__law_part ["_law_row", "_law_sockets_here", "_law_plugs_here"] (spE K mg Pk.F__law_part) := by
  have G__law_fault := ok__law_fault (P := P) (w := w) (base := base) T
  have G__law_pick := ok__law_pick (P := P) (w := w) (base := base) T
  have G__law_places := ok__law_places (P := P) (w := w) (base := base) T
  refine fn_okE (k := 3) T.h__law_part.fn sc__law_part rfl fun cdv A outer s H E hr => ?_
  have tk : Takes (cxOf (L2.CX P w) P w K mg base N__law_part "_law_part" (defScope s__law_part) T.a__law_part cdv A outer s H E) (fun c d _ H' => E c d H') := takes_of rfl rfl rfl rfl
  exact (dss_cons (ds_set (i := 3) sc__law_part.nd (de_mulA (de_tup (da_val de_non da_nil)) (de_callB T.b_len call_len cop_len (da_val (de_var 2) da_nil))))
      (dss_cons (ds_for (passes_of rfl) rfl (di_range1 T.b_range (de_callB T.b_len call_len cop_len (da_val (de_var 2) da_nil))) (dg_name (i := 4) sc__law_part.nd)
      (dss_cons (ds_set (i := 5) sc__law_part.nd (de_call tk (hr.mono (by decide)) ⟨G__law_places, T.l__law_places, T.h__law_places.fn.kp, T.h__law_places.bd⟩ (da_val (de_var 1) (da_val (de_sub1 (de_var 2) (de_var 4)) da_nil))))
      (dss_cons (ds_set (i := 6) sc__law_part.nd (de_sub1 (de_var 5) (de_val (dv_callE tk (hr.mono (by decide)) ⟨G__law_pick, T.l__law_pick, T.h__law_pick.fn.kp, T.h__law_pick.bd⟩ (da_cons (dv_var 0) (da_val (de_callB T.b_len call_len cop_len (da_val (de_var 5) da_nil)) da_nil))))))
      (dss_cons (ds_set (i := 7) sc__law_part.nd (de_add (de_add (de_slice (de_var 3) do_none (do_some (de_var 4))) (de_tup (da_val (de_var 6) da_nil))) (de_slice (de_var 3) (do_some (de_add (de_var 4) de_int)) do_none)))
      (dss_one (ds_if (dt_w (dw_and (dt_c cmp_gt (de_val (dv_callE tk (hr.mono (by decide)) ⟨G__law_pick, T.l__law_pick, T.h__law_pick.fn.kp, T.h__law_pick.bd⟩ (da_cons (dv_var 0) (da_val de_int da_nil)))) de_int) (dw_and1 (dt_c cmp_isN (de_call tk (hr.mono (by decide)) ⟨G__law_fault, T.l__law_fault, T.h__law_fault.fn.kp, T.h__law_fault.bd⟩ (da_val (de_var 1) (da_val (de_var 2) (da_val (de_var 7) da_nil)))) de_non)))) (dss_one (ds_set (i := 3) sc__law_part.nd (de_var 7))) dss_nil))))))
      (dss_one (ds_ret (de_var 3)))))
theorem ok__law_odd_plug {P : Program} {w : World} {K : PySem.W.Frag} {mg : MG} {base : Heap} (T : Env K mg) : FnOk P w K mg base (L2.CX P w) 2 T.a__law_odd_plug T.d__law_odd_plug ["_law_row"] (spE K mg Pk.F__law_odd_plug) := by
  have G__law_pick := ok__law_pick (P := P) (w := w) (base := base) T
  refine fn_okE (k := 1) T.h__law_odd_plug.fn sc__law_odd_plug rfl fun cdv A outer s H E hr => ?_
  have tk : Takes (cxOf (L2.CX P w) P w K mg base N__law_odd_plug "_law_odd_plug" (defScope s__law_odd_plug) T.a__law_odd_plug cdv A outer s H E) (fun c d _ H' => E c d H') := takes_of rfl rfl rfl rfl
  exact (dss_cons (ds_set (i := 1) sc__law_odd_plug.nd (de_lst (da_val de_non (da_val (de_tup (da_val de_int (da_val de_int da_nil))) (da_val (de_lst (da_val de_int (da_val de_int (da_val de_bl da_nil)))) (da_val (de_tup (da_val de_int (da_val de_int (da_val de_int da_nil)))) (da_val (de_tup (da_val de_int (da_val de_int (da_val de_bl da_nil)))) (da_val (de_tup (da_val de_int (da_val (de_neg de_int) (da_val de_bl da_nil)))) (da_val (de_tup (da_val de_bl (da_val de_int (da_val de_bl da_nil)))) (da_val (de_tup (da_val de_int (da_val de_int (da_val de_non da_nil)))) (da_val de_str da_nil)))))))))))
      (dss_one (ds_ret (de_sub1 (de_var 1) (de_val (dv_callE tk (hr.mono (by decide)) ⟨G__law_pick, T.l__law_pick, T.h__law_pick.fn.kp, T.h__law_pick.bd⟩ (da_cons (dv_var 0) (da_val de_int da_nil))))))))
theorem ok_law {P : Program} {w : World} {K : PySem.W.Frag} {mg : MG} {base : Heap} (T : Env K mg) : FnOk P w K mg base (L2.CX P w) 8 T.a_law T.d_law ["_law_script"] (spP K mg Pk.F_law_3) := by
  have G_Strip_d__init_d_ := ok_Strip_d__init_d_ (P := P) (w := w) (base := base) T
  have G__law_draws := ok__law_draws (P := P) (w := w) (base := base) T
  have G__law_odd_plug := ok__law_odd_plug (P := P) (w := w) (base := base) T
  have G__law_part := ok__law_part (P := P) (w := w) (base := base) T
  have G__law_pick := ok__law_pick (P := P) (w := w) (base := base) T
  have G__law_plugs := ok__law_plugs (P := P) (w := w) (base := base) T
  have G__law_sockets := ok__law_sockets (P := P) (w := w) (base := base) T
  have G__law_told_there := ok__law_told_there (P := P) (w := w) (base := base) T
  refine fn_okP (k := 7) T.h_law.fn sc_law rfl fun cdv A outer s H E hr => ?_
  have tk : Takes (cxOf (L2.CX P w) P w K mg base N_law "law" (defScope s_law) T.a_law cdv A outer s H E) (fun c d _ H' => E c d H') := takes_of rfl rfl rfl rfl
  exact (dss_cons (ds_setS (i := 1) sc_law.nd (dv_callE tk (hr.mono (by decide)) ⟨G__law_draws, T.l__law_draws, T.h__law_draws.fn.kp, T.h__law_draws.bd⟩ (da_val (de_var 0) da_nil)))
      (dss_cons (ds_for (passes_of rfl) rfl (di_range1 T.b_range de_int) (dg_name (i := 2) sc_law.nd)
      (dss_cons (ds_par3 (i := 8) (j := 9) (l := 6) rfl sc_law.nd (by decide) (da_val (de_val (dv_callE tk (hr.mono (by decide)) ⟨G__law_sockets, T.l__law_sockets, T.h__law_sockets.fn.kp, T.h__law_sockets.bd⟩ (da_cons (dv_var 1) (da_val de_int da_nil)))) (da_val (de_val (dv_callE tk (hr.mono (by decide)) ⟨G__law_plugs, T.l__law_plugs, T.h__law_plugs.fn.kp, T.h__law_plugs.bd⟩ (da_cons (dv_var 1) (da_val de_int da_nil)))) (da_val (de_val (dv_callE tk (hr.mono (by decide)) ⟨G__law_pick, T.l__law_pick, T.h__law_pick.fn.kp, T.h__law_pick.bd⟩ (da_cons (dv_var 1) (da_val de_int da_nil)))) da_nil))) (by rfl))
      (dss_cons (ds_par (i := 10) (j := 11) rfl sc_law.nd (by decide) (da_val (de_make tk (hr.mono (by decide)) T.m_Strip G_Strip_d__init_d_ T.k_Strip.gl T.h_Strip_d__init_d_.bd (da_val (de_var 8) da_nil)) (da_val (de_val (dv_callE tk (hr.mono (by decide)) ⟨G__law_pick, T.l__law_pick, T.h__law_pick.fn.kp, T.h__law_pick.bd⟩ (da_cons (dv_var 1) (da_val (de_callB T.b_len call_len cop_len (da_val (de_var 9) da_nil)) da_nil)))) da_nil)) (by rfl))
      (dss_cons (ds_set (i := 3) sc_law.nd (de_add (de_add (de_slice (de_var 9) do_none (do_some (de_var 11))) (de_tup (da_val (de_val (dv_callE tk (hr.mono (by decide)) ⟨G__law_odd_plug, T.l__law_odd_plug, T.h__law_odd_plug.fn.kp, T.h__law_odd_plug.bd⟩ (da_cons (dv_var 1) da_nil))) da_nil))) (de_slice (de_var 9) (do_some (de_add (de_var 11) de_int)) do_none)))
      (dss_cons (ds_if (dt_c (cmp_ne hr) (de_call tk (hr.mono (by decide)) ⟨G__law_told_there, T.l__law_told_there, T.h__law_told_there.fn.kp, T.h__law_told_there.bd⟩ (da_val (de_var 10) (da_val (de_var 3) (da_val de_non (da_val de_non (da_val (de_var 6) da_nil)))))) (de_lst (da_val de_str (da_val (de_var 11) da_nil)))) (dss_one (ds_ret de_bl)) dss_nil)
      (dss_cons (ds_set (i := 4) sc_law.nd (de_sub1 (de_lst (da_val de_non (da_val (de_tup da_nil) (da_val (de_callTy T.b_list call_list_of cop_list (da_val (de_var 9) da_nil)) (da_val (de_mulA (de_tup (da_val (de_tup (da_val de_int (da_val de_int (da_val de_bl da_nil)))) da_nil)) de_int) (da_val de_str da_nil)))))) (de_val (dv_callE tk (hr.mono (by decide)) ⟨G__law_pick, T.l__law_pick, T.h__law_pick.fn.kp, T.h__law_pick.bd⟩ (da_cons (dv_var 1) (da_val de_int da_nil))))))
      (dss_cons (ds_if (dt_c (cmp_ne hr) (de_call tk (hr.mono (by decide)) ⟨G__law_told_there, T.l__law_told_there, T.h__law_told_there.fn.kp, T.h__law_told_there.bd⟩ (da_val (de_var 10) (da_val (de_var 4) (da_val de_non (da_val de_non (da_val (de_var 6) da_nil)))))) (de_lst (da_val de_str (da_val de_non da_nil)))) (dss_one (ds_ret de_bl)) dss_nil)
      (dss_cons (ds_par (i := 12) (j := 6) rfl sc_law.nd (by decide) (da_val (de_val (dv_callE tk (hr.mono (by decide)) ⟨G__law_part, T.l__law_part, T.h__law_part.fn.kp, T.h__law_part.bd⟩ (da_cons (dv_var 1) (da_val (de_var 8) (da_val (de_var 9) da_nil))))) (da_val (de_val (dv_callE tk (hr.mono (by decide)) ⟨G__law_pick, T.l__law_pick, T.h__law_pick.fn.kp, T.h__law_pick.bd⟩ (da_cons (dv_var 1) (da_val de_int da_nil)))) da_nil)) (by rfl))
      (dss_cons (ds_set (i := 5) sc_law.nd (de_lst (da_val de_int (da_val (de_tup (da_val de_int da_nil)) (da_val (de_tup (da_val de_int (da_val de_int da_nil))) (da_val (de_tup (da_val (de_callB T.b_len call_len cop_len (da_val (de_var 8) da_nil)) (da_val de_bl da_nil))) (da_val (de_tup (da_val (de_neg de_int) (da_val de_bl da_nil))) (da_val (de_tup (da_val de_bl (da_val de_bl da_nil))) (da_val (de_lst (da_val de_int (da_val de_bl da_nil))) (da_val (de_tup (da_val de_int (da_val de_bl (da_val de_int da_nil)))) (da_val de_str da_nil)))))))))))
      (dss_cons (ds_set (i := 4) sc_law.nd (de_lst (da_val de_non (da_val (de_callTy T.b_list call_list_of cop_list (da_val (de_var 12) da_nil)) (da_val (de_add (de_var 12) (de_tup (da_val de_non da_nil))) (da_val (de_slice (de_var 12) (do_some de_int) do_none) (da_val (de_add (de_add (de_slice (de_var 12) do_none (do_some (de_var 11))) (de_tup (da_val (de_sub1 (de_var 5) (de_val (dv_callE tk (hr.mono (by decide)) ⟨G__law_pick, T.l__law_pick, T.h__law_pick.fn.kp, T.h__law_pick.bd⟩ (da_cons (dv_var 1) (da_val de_int da_nil))))) da_nil))) (de_slice (de_var 12) (do_some (de_add (de_var 11) de_int)) do_none)) da_nil)))))))
      (dss_cons (ds_if (dt_c (cmp_ne hr) (de_call tk (hr.mono (by decide)) ⟨G__law_told_there, T.l__law_told_there, T.h__law_told_there.fn.kp, T.h__law_told_there.bd⟩ (da_val (de_var 10) (da_val (de_var 9) (da_val (de_sub1 (de_var 4) (de_val (dv_callE tk (hr.mono (by decide)) ⟨G__law_pick, T.l__law_pick, T.h__law_pick.fn.kp, T.h__law_pick.bd⟩ (da_cons (dv_var 1) (da_val de_int da_nil))))) (da_val de_non (da_val (de_var 6) da_nil)))))) de_str) (dss_one (ds_ret de_bl)) dss_nil)
      (dss_cons (ds_set (i := 6) sc_law.nd (de_add de_int (de_val (dv_callE tk (hr.mono (by decide)) ⟨G__law_pick, T.l__law_pick, T.h__law_pick.fn.kp, T.h__law_pick.bd⟩ (da_cons (dv_var 1) (da_val de_int da_nil))))))
      (dss_cons (ds_set (i := 7) sc_law.nd (de_mulA (de_tup (da_val (de_tup (da_val de_int (da_val de_bl da_nil))) da_nil)) de_int))
      (dss_cons (ds_if (dt_c (cmp_ne hr) (de_call tk (hr.mono (by decide)) ⟨G__law_told_there, T.l__law_told_there, T.h__law_told_there.fn.kp, T.h__law_told_there.bd⟩ (da_val (de_var 10) (da_val (de_mulA (de_tup (da_val (de_tup (da_val de_int (da_val de_int (da_val de_bl da_nil)))) da_nil)) de_int) (da_val (de_var 7) (da_val de_non (da_val (de_var 6) da_nil)))))) de_str) (dss_one (ds_ret de_bl)) dss_nil)
      (dss_one (ds_if (dt_c (cmp_ne hr) (de_call tk (hr.mono (by decide)) ⟨G__law_told_there, T.l__law_told_there, T.h__law_told_there.fn.kp, T.h__law_told_there.bd⟩ (da_val (de_var 10) (da_val (de_var 9) (da_val (de_var 12) (da_val (de_val (dv_callE tk (hr.mono (by decide)) ⟨G__law_odd_plug, T.l__law_odd_plug, T.h__law_odd_plug.fn.kp, T.h__law_odd_plug.bd⟩ (da_cons (dv_var 1) da_nil))) (da_val (de_add de_int (de_val (dv_callE tk (hr.mono (by decide)) ⟨G__law_pick, T.l__law_pick, T.h__law_pick.fn.kp, T.h__law_pick.bd⟩ (da_cons (dv_var 1) (da_val de_int da_nil))))) da_nil)))))) de_str) (dss_one (ds_ret de_bl)) dss_nil))))))))))))))))
      (dss_one (ds_ret de_bl))))
end K03
namespace K03
open PySem L2 Dl
theorem all_mk {l : PySem.W.OpenLaw} {w : World} {K : PySem.W.Frag} {h : Heap} {mg : Str → Option Value} {fa : Addr} (X : K.In h) (G : h.Ns mainGlobals mg) (hfa : mg "law" = some (.ref fa))
    {c_Strip : Addr}
    {c_BadPlan : Addr}
    {c_BadPlug : Addr}
    {c_BadPlugs : Addr}
    {c_BadSockets : Addr}
    {c_NotRight : Addr}
    {c_StripError : Addr}
    {f0 : Addr} {od0 an0 : Option Addr} {sl0 : Array (Option Value)} {oc0 kV0 dc0 pm0 cd0 ct0 : Value}
    {f1 : Addr} {od1 an1 : Option Addr} {sl1 : Array (Option Value)} {oc1 kV1 dc1 pm1 cd1 ct1 : Value}
    {f2 : Addr} {od2 an2 : Option Addr} {sl2 : Array (Option Value)} {oc2 kV2 dc2 pm2 cd2 ct2 : Value}
    {f3 : Addr} {od3 an3 : Option Addr} {sl3 : Array (Option Value)} {oc3 kV3 dc3 pm3 cd3 ct3 : Value}
    {f4 : Addr} {od4 an4 : Option Addr} {sl4 : Array (Option Value)} {oc4 kV4 dc4 pm4 cd4 ct4 : Value}
    {f5 : Addr} {od5 an5 : Option Addr} {sl5 : Array (Option Value)} {oc5 kV5 dc5 pm5 cd5 ct5 : Value}
    {f6 : Addr} {od6 an6 : Option Addr} {sl6 : Array (Option Value)} {oc6 kV6 dc6 pm6 cd6 ct6 : Value}
    {f7 : Addr} {od7 an7 : Option Addr} {sl7 : Array (Option Value)} {oc7 kV7 dc7 pm7 cd7 ct7 : Value}
    {f8 : Addr} {od8 an8 : Option Addr} {sl8 : Array (Option Value)} {oc8 kV8 dc8 pm8 cd8 ct8 : Value}
    {f9 : Addr} {od9 an9 : Option Addr} {sl9 : Array (Option Value)} {oc9 kV9 dc9 pm9 cd9 ct9 : Value}
    {f10 : Addr} {od10 an10 : Option Addr} {sl10 : Array (Option Value)} {oc10 kV10 dc10 pm10 cd10 ct10 : Value}
    {f11 : Addr} {od11 an11 : Option Addr} {sl11 : Array (Option Value)} {oc11 kV11 dc11 pm11 cd11 ct11 : Value}
    {f12 : Addr} {od12 an12 : Option Addr} {sl12 : Array (Option Value)} {oc12 kV12 dc12 pm12 cd12 ct12 : Value}
    {f13 : Addr} {od13 an13 : Option Addr} {sl13 : Array (Option Value)} {oc13 kV13 dc13 pm13 cd13 ct13 : Value}
    {f14 : Addr} {od14 an14 : Option Addr} {sl14 : Array (Option Value)} {oc14 kV14 dc14 pm14 cd14 ct14 : Value}
    {f15 : Addr} {od15 an15 : Option Addr} {sl15 : Array (Option Value)} {oc15 kV15 dc15 pm15 cd15 ct15 : Value}
    {f16 : Addr} {od16 an16 : Option Addr} {sl16 : Array (Option Value)} {oc16 kV16 dc16 pm16 cd16 ct16 : Value}
    {f17 : Addr} {od17 an17 : Option Addr} {sl17 : Array (Option Value)} {oc17 kV17 dc17 pm17 cd17 ct17 : Value}
    {f18 : Addr} {od18 an18 : Option Addr} {sl18 : Array (Option Value)} {oc18 kV18 dc18 pm18 cd18 ct18 : Value}
    {f19 : Addr} {od19 an19 : Option Addr} {sl19 : Array (Option Value)} {oc19 kV19 dc19 pm19 cd19 ct19 : Value}
    {f20 : Addr} {od20 an20 : Option Addr} {sl20 : Array (Option Value)} {oc20 kV20 dc20 pm20 cd20 ct20 : Value}
    {f21 : Addr} {od21 an21 : Option Addr} {sl21 : Array (Option Value)} {oc21 kV21 dc21 pm21 cd21 ct21 : Value}
    {f22 : Addr} {od22 an22 : Option Addr} {sl22 : Array (Option Value)} {oc22 kV22 dc22 pm22 cd22 ct22 : Value}
    {f23 : Addr} {od23 an23 : Option Addr} {sl23 : Array (Option Value)} {oc23 kV23 dc23 pm23 cd23 ct23 : Value}
    {f24 : Addr} {od24 an24 : Option Addr} {sl24 : Array (Option Value)} {oc24 kV24 dc24 pm24 cd24 ct24 : Value}
    {f25 : Addr} {od25 an25 : Option Addr} {sl25 : Array (Option Value)} {oc25 kV25 dc25 pm25 cd25 ct25 : Value}
    {f26 : Addr} {od26 an26 : Option Addr} {sl26 : Array (Option Value)} {oc26 kV26 dc26 pm26 cd26 ct26 : Value}
    {f27 : Addr} {od27 an27 : Option Addr} {sl27 : Array (Option Value)} {oc27 kV27 dc27 pm27 cd27 ct27 : Value}
    {f28 : Addr} {od28 an28 : Option Addr} {sl28 : Array (Option Value)} {oc28 kV28 dc28 pm28 cd28 ct28 : Value}
    {f29 : Addr} {od29 an29 : Option Addr} {sl29 : Array (Option Value)} {oc29 kV29 dc29 pm29 cd29 ct29 : Value}
    {f30 : Addr} {od30 an30 : Option Addr} {sl30 : Array (Option Value)} {oc30 kV30 dc30 pm30 cd30 ct30 : Value}
    {f31 : Addr} {od31 an31 : Option Addr} {sl31 : Array (Option Value)} {oc31 kV31 dc31 pm31 cd31 ct31 : Value}
    {f32 : Addr} {od32 an32 : Option Addr} {sl32 : Array (Option Value)} {oc32 kV32 dc32 pm32 cd32 ct32 : Value}
    {f33 : Addr} {od33 an33 : Option Addr} {sl33 : Array (Option Value)} {oc33 kV33 dc33 pm33 cd33 ct33 : Value}
    {f34 : Addr} {od34 an34 : Option Addr} {sl34 : Array (Option Value)} {oc34 kV34 dc34 pm34 cd34 ct34 : Value}
    {f35 : Addr} {od35 an35 : Option Addr} {sl35 : Array (Option Value)} {oc35 kV35 dc35 pm35 cd35 ct35 : Value}
    {f36 : Addr} {od36 an36 : Option Addr} {sl36 : Array (Option Value)} {oc36 kV36 dc36 pm36 cd36 ct36 : Value}
    {f37 : Addr} {od37 an37 : Option Addr} {sl37 : Array (Option Value)} {oc37 kV37 dc37 pm37 cd37 ct37 : Value}
    {f38 : Addr} {od38 an38 : Option Addr} {sl38 : Array (Option Value)} {oc38 kV38 dc38 pm38 cd38 ct38 : Value}
    {t_MOST_AT : Tok}
    {t_MOST_PLUGS : Tok}
    {t_MOST_SIDE : Tok}
    {t_MOST_SOCKETS : Tok}
    (aC_Strip : PySem.W.nsIn K mainGlobals "Strip" = some (some (.ref c_Strip)))
    (aE_BadPlan : PySem.W.nsIn K mainGlobals "BadPlan" = some (some (.ref c_BadPlan)))
    (aE_BadPlug : PySem.W.nsIn K mainGlobals "BadPlug" = some (some (.ref c_BadPlug)))
    (aE_BadPlugs : PySem.W.nsIn K mainGlobals "BadPlugs" = some (some (.ref c_BadPlugs)))
    (aE_BadSockets : PySem.W.nsIn K mainGlobals "BadSockets" = some (some (.ref c_BadSockets)))
    (aE_NotRight : PySem.W.nsIn K mainGlobals "NotRight" = some (some (.ref c_NotRight)))
    (aE_StripError : PySem.W.nsIn K mainGlobals "StripError" = some (some (.ref c_StripError)))
    (a0 : PySem.W.findIn K (.ref c_BadPlugs) "__init__" = some (some (.ref f0)))
    (i0 : PySem.W.isFn K (.ref f0) = true)
    (l0 : K.lookup f0 = some ⟨oc0, od0, .func (PySem.W.fnOf "__init__" "BadPlugs.__init__" (defArgs s_BadPlugs_d__init_d_) (defBody s_BadPlugs_d__init_d_) (defScope s_BadPlugs_d__init_d_) .none kV0 dc0 pm0 an0 cd0 ct0), sl0⟩)
    (c0 : PySem.W.codeIn K cd0 "BadPlugs.__init__" = true)
    (k0 : PySem.W.keepIn K (.ref f0) = true)
    (a1 : PySem.W.nsIn K mainGlobals "_law_draws" = some (some (.ref f1)))
    (l1 : K.lookup f1 = some ⟨oc1, od1, .func (PySem.W.fnOf "_law_draws" "_law_draws" (defArgs s__law_draws) (defBody s__law_draws) (defScope s__law_draws) .none kV1 dc1 pm1 an1 cd1 ct1), sl1⟩)
    (c1 : PySem.W.codeIn K cd1 "_law_draws" = true)
    (k1 : PySem.W.keepIn K (.ref f1) = true)
    (a2 : PySem.W.nsIn K mainGlobals "_law_pick" = some (some (.ref f2)))
    (l2 : K.lookup f2 = some ⟨oc2, od2, .func (PySem.W.fnOf "_law_pick" "_law_pick" (defArgs s__law_pick) (defBody s__law_pick) (defScope s__law_pick) .none kV2 dc2 pm2 an2 cd2 ct2), sl2⟩)
    (c2 : PySem.W.codeIn K cd2 "_law_pick" = true)
    (k2 : PySem.W.keepIn K (.ref f2) = true)
    (a3 : PySem.W.nsIn K mainGlobals "_law_sockets" = some (some (.ref f3)))
    (l3 : K.lookup f3 = some ⟨oc3, od3, .func (PySem.W.fnOf "_law_sockets" "_law_sockets" (defArgs s__law_sockets) (defBody s__law_sockets) (defScope s__law_sockets) .none kV3 dc3 pm3 an3 cd3 ct3), sl3⟩)
    (c3 : PySem.W.codeIn K cd3 "_law_sockets" = true)
    (k3 : PySem.W.keepIn K (.ref f3) = true)
    (a4 : PySem.W.nsIn K mainGlobals "_law_plug" = some (some (.ref f4)))
    (l4 : K.lookup f4 = some ⟨oc4, od4, .func (PySem.W.fnOf "_law_plug" "_law_plug" (defArgs s__law_plug) (defBody s__law_plug) (defScope s__law_plug) .none kV4 dc4 pm4 an4 cd4 ct4), sl4⟩)
    (c4 : PySem.W.codeIn K cd4 "_law_plug" = true)
    (k4 : PySem.W.keepIn K (.ref f4) = true)
    (a5 : PySem.W.nsIn K mainGlobals "_law_plugs" = some (some (.ref f5)))
    (l5 : K.lookup f5 = some ⟨oc5, od5, .func (PySem.W.fnOf "_law_plugs" "_law_plugs" (defArgs s__law_plugs) (defBody s__law_plugs) (defScope s__law_plugs) .none kV5 dc5 pm5 an5 cd5 ct5), sl5⟩)
    (c5 : PySem.W.codeIn K cd5 "_law_plugs" = true)
    (k5 : PySem.W.keepIn K (.ref f5) = true)
    (a6 : PySem.W.nsIn K mainGlobals "is_from" = some (some (.ref f6)))
    (l6 : K.lookup f6 = some ⟨oc6, od6, .func (PySem.W.fnOf "is_from" "is_from" (defArgs s_is_from) (defBody s_is_from) (defScope s_is_from) .none kV6 dc6 pm6 an6 cd6 ct6), sl6⟩)
    (c6 : PySem.W.codeIn K cd6 "is_from" = true)
    (k6 : PySem.W.keepIn K (.ref f6) = true)
    (a7 : PySem.W.findIn K (.ref c_Strip) "__init__" = some (some (.ref f7)))
    (i7 : PySem.W.isFn K (.ref f7) = true)
    (l7 : K.lookup f7 = some ⟨oc7, od7, .func (PySem.W.fnOf "__init__" "Strip.__init__" (defArgs s_Strip_d__init_d_) (defBody s_Strip_d__init_d_) (defScope s_Strip_d__init_d_) .none kV7 dc7 pm7 an7 cd7 ct7), sl7⟩)
    (c7 : PySem.W.codeIn K cd7 "Strip.__init__" = true)
    (k7 : PySem.W.keepIn K (.ref f7) = true)
    (a8 : PySem.W.nsIn K mainGlobals "is_plug" = some (some (.ref f8)))
    (l8 : K.lookup f8 = some ⟨oc8, od8, .func (PySem.W.fnOf "is_plug" "is_plug" (defArgs s_is_plug) (defBody s_is_plug) (defScope s_is_plug) .none kV8 dc8 pm8 an8 cd8 ct8), sl8⟩)
    (c8 : PySem.W.codeIn K cd8 "is_plug" = true)
    (k8 : PySem.W.keepIn K (.ref f8) = true)
    (a9 : PySem.W.nsIn K mainGlobals "check_plugs" = some (some (.ref f9)))
    (l9 : K.lookup f9 = some ⟨oc9, od9, .func (PySem.W.fnOf "check_plugs" "check_plugs" (defArgs s_check_plugs) (defBody s_check_plugs) (defScope s_check_plugs) .none kV9 dc9 pm9 an9 cd9 ct9), sl9⟩)
    (c9 : PySem.W.codeIn K cd9 "check_plugs" = true)
    (k9 : PySem.W.keepIn K (.ref f9) = true)
    (a10 : PySem.W.nsIn K mainGlobals "is_place" = some (some (.ref f10)))
    (l10 : K.lookup f10 = some ⟨oc10, od10, .func (PySem.W.fnOf "is_place" "is_place" (defArgs s_is_place) (defBody s_is_place) (defScope s_is_place) .none kV10 dc10 pm10 an10 cd10 ct10), sl10⟩)
    (c10 : PySem.W.codeIn K cd10 "is_place" = true)
    (k10 : PySem.W.keepIn K (.ref f10) = true)
    (a11 : PySem.W.nsIn K mainGlobals "check_plan" = some (some (.ref f11)))
    (l11 : K.lookup f11 = some ⟨oc11, od11, .func (PySem.W.fnOf "check_plan" "check_plan" (defArgs s_check_plan) (defBody s_check_plan) (defScope s_check_plan) .none kV11 dc11 pm11 an11 cd11 ct11), sl11⟩)
    (c11 : PySem.W.codeIn K cd11 "check_plan" = true)
    (k11 : PySem.W.keepIn K (.ref f11) = true)
    (a12 : PySem.W.nsIn K mainGlobals "can_turn" = some (some (.ref f12)))
    (l12 : K.lookup f12 = some ⟨oc12, od12, .func (PySem.W.fnOf "can_turn" "can_turn" (defArgs s_can_turn) (defBody s_can_turn) (defScope s_can_turn) .none kV12 dc12 pm12 an12 cd12 ct12), sl12⟩)
    (c12 : PySem.W.codeIn K cd12 "can_turn" = true)
    (k12 : PySem.W.keepIn K (.ref f12) = true)
    (a13 : PySem.W.nsIn K mainGlobals "pairs_of" = some (some (.ref f13)))
    (l13 : K.lookup f13 = some ⟨oc13, od13, .func (PySem.W.fnOf "pairs_of" "pairs_of" (defArgs s_pairs_of) (defBody s_pairs_of) (defScope s_pairs_of) .none kV13 dc13 pm13 an13 cd13 ct13), sl13⟩)
    (c13 : PySem.W.codeIn K cd13 "pairs_of" = true)
    (k13 : PySem.W.keepIn K (.ref f13) = true)
    (a14 : PySem.W.nsIn K mainGlobals "sides" = some (some (.ref f14)))
    (l14 : K.lookup f14 = some ⟨oc14, od14, .func (PySem.W.fnOf "sides" "sides" (defArgs s_sides) (defBody s_sides) (defScope s_sides) .none kV14 dc14 pm14 an14 cd14 ct14), sl14⟩)
    (c14 : PySem.W.codeIn K cd14 "sides" = true)
    (k14 : PySem.W.keepIn K (.ref f14) = true)
    (a15 : PySem.W.nsIn K mainGlobals "body" = some (some (.ref f15)))
    (l15 : K.lookup f15 = some ⟨oc15, od15, .func (PySem.W.fnOf "body" "body" (defArgs s_body) (defBody s_body) (defScope s_body) .none kV15 dc15 pm15 an15 cd15 ct15), sl15⟩)
    (c15 : PySem.W.codeIn K cd15 "body" = true)
    (k15 : PySem.W.keepIn K (.ref f15) = true)
    (a16 : PySem.W.nsIn K mainGlobals "are_apart" = some (some (.ref f16)))
    (l16 : K.lookup f16 = some ⟨oc16, od16, .func (PySem.W.fnOf "are_apart" "are_apart" (defArgs s_are_apart) (defBody s_are_apart) (defScope s_are_apart) .none kV16 dc16 pm16 an16 cd16 ct16), sl16⟩)
    (c16 : PySem.W.codeIn K cd16 "are_apart" = true)
    (k16 : PySem.W.keepIn K (.ref f16) = true)
    (a17 : PySem.W.nsIn K mainGlobals "fault_of" = some (some (.ref f17)))
    (l17 : K.lookup f17 = some ⟨oc17, od17, .func (PySem.W.fnOf "fault_of" "fault_of" (defArgs s_fault_of) (defBody s_fault_of) (defScope s_fault_of) .none kV17 dc17 pm17 an17 cd17 ct17), sl17⟩)
    (c17 : PySem.W.codeIn K cd17 "fault_of" = true)
    (k17 : PySem.W.keepIn K (.ref f17) = true)
    (a18 : PySem.W.nsIn K mainGlobals "judge" = some (some (.ref f18)))
    (l18 : K.lookup f18 = some ⟨oc18, od18, .func (PySem.W.fnOf "judge" "judge" (defArgs s_judge) (defBody s_judge) (defScope s_judge) .none kV18 dc18 pm18 an18 cd18 ct18), sl18⟩)
    (c18 : PySem.W.codeIn K cd18 "judge" = true)
    (k18 : PySem.W.keepIn K (.ref f18) = true)
    (a19 : PySem.W.nsIn K mainGlobals "check_right" = some (some (.ref f19)))
    (l19 : K.lookup f19 = some ⟨oc19, od19, .func (PySem.W.fnOf "check_right" "check_right" (defArgs s_check_right) (defBody s_check_right) (defScope s_check_right) .none kV19 dc19 pm19 an19 cd19 ct19), sl19⟩)
    (c19 : PySem.W.codeIn K cd19 "check_right" = true)
    (k19 : PySem.W.keepIn K (.ref f19) = true)
    (a20 : PySem.W.nsIn K mainGlobals "words" = some (some (.ref f20)))
    (l20 : K.lookup f20 = some ⟨oc20, od20, .func (PySem.W.fnOf "words" "words" (defArgs s_words) (defBody s_words) (defScope s_words) .none kV20 dc20 pm20 an20 cd20 ct20), sl20⟩)
    (c20 : PySem.W.codeIn K cd20 "words" = true)
    (k20 : PySem.W.keepIn K (.ref f20) = true)
    (a21 : PySem.W.nsIn K mainGlobals "check_plug" = some (some (.ref f21)))
    (l21 : K.lookup f21 = some ⟨oc21, od21, .func (PySem.W.fnOf "check_plug" "check_plug" (defArgs s_check_plug) (defBody s_check_plug) (defScope s_check_plug) .none kV21 dc21 pm21 an21 cd21 ct21), sl21⟩)
    (c21 : PySem.W.codeIn K cd21 "check_plug" = true)
    (k21 : PySem.W.keepIn K (.ref f21) = true)
    (a22 : PySem.W.nsIn K mainGlobals "rooms" = some (some (.ref f22)))
    (l22 : K.lookup f22 = some ⟨oc22, od22, .func (PySem.W.fnOf "rooms" "rooms" (defArgs s_rooms) (defBody s_rooms) (defScope s_rooms) .none kV22 dc22 pm22 an22 cd22 ct22), sl22⟩)
    (c22 : PySem.W.codeIn K cd22 "rooms" = true)
    (k22 : PySem.W.keepIn K (.ref f22) = true)
    (a23 : PySem.W.nsIn K mainGlobals "make_room" = some (some (.ref f23)))
    (l23 : K.lookup f23 = some ⟨oc23, od23, .func (PySem.W.fnOf "make_room" "make_room" (defArgs s_make_room) (defBody s_make_room) (defScope s_make_room) .none kV23 dc23 pm23 an23 cd23 ct23), sl23⟩)
    (c23 : PySem.W.codeIn K cd23 "make_room" = true)
    (k23 : PySem.W.keepIn K (.ref f23) = true)
    (a24 : PySem.W.nsIn K mainGlobals "count_plans" = some (some (.ref f24)))
    (l24 : K.lookup f24 = some ⟨oc24, od24, .func (PySem.W.fnOf "count_plans" "count_plans" (defArgs s_count_plans) (defBody s_count_plans) (defScope s_count_plans) .none kV24 dc24 pm24 an24 cd24 ct24), sl24⟩)
    (c24 : PySem.W.codeIn K cd24 "count_plans" = true)
    (k24 : PySem.W.keepIn K (.ref f24) = true)
    (a25 : PySem.W.nsIn K mainGlobals "least_plan" = some (some (.ref f25)))
    (l25 : K.lookup f25 = some ⟨oc25, od25, .func (PySem.W.fnOf "least_plan" "least_plan" (defArgs s_least_plan) (defBody s_least_plan) (defScope s_least_plan) .none kV25 dc25 pm25 an25 cd25 ct25), sl25⟩)
    (c25 : PySem.W.codeIn K cd25 "least_plan" = true)
    (k25 : PySem.W.keepIn K (.ref f25) = true)
    (a26 : PySem.W.nsIn K mainGlobals "most_together" = some (some (.ref f26)))
    (l26 : K.lookup f26 = some ⟨oc26, od26, .func (PySem.W.fnOf "most_together" "most_together" (defArgs s_most_together) (defBody s_most_together) (defScope s_most_together) .none kV26 dc26 pm26 an26 cd26 ct26), sl26⟩)
    (c26 : PySem.W.codeIn K cd26 "most_together" = true)
    (k26 : PySem.W.keepIn K (.ref f26) = true)
    (a27 : PySem.W.nsIn K mainGlobals "bars" = some (some (.ref f27)))
    (l27 : K.lookup f27 = some ⟨oc27, od27, .func (PySem.W.fnOf "bars" "bars" (defArgs s_bars) (defBody s_bars) (defScope s_bars) .none kV27 dc27 pm27 an27 cd27 ct27), sl27⟩)
    (c27 : PySem.W.codeIn K cd27 "bars" = true)
    (k27 : PySem.W.keepIn K (.ref f27) = true)
    (a28 : PySem.W.nsIn K mainGlobals "paper" = some (some (.ref f28)))
    (l28 : K.lookup f28 = some ⟨oc28, od28, .func (PySem.W.fnOf "paper" "paper" (defArgs s_paper) (defBody s_paper) (defScope s_paper) .none kV28 dc28 pm28 an28 cd28 ct28), sl28⟩)
    (c28 : PySem.W.codeIn K cd28 "paper" = true)
    (k28 : PySem.W.keepIn K (.ref f28) = true)
    (a29 : PySem.W.nsIn K mainGlobals "_law_asked" = some (some (.ref f29)))
    (l29 : K.lookup f29 = some ⟨oc29, od29, .func (PySem.W.fnOf "_law_asked" "_law_asked" (defArgs s__law_asked) (defBody s__law_asked) (defScope s__law_asked) .none kV29 dc29 pm29 an29 cd29 ct29), sl29⟩)
    (c29 : PySem.W.codeIn K cd29 "_law_asked" = true)
    (k29 : PySem.W.keepIn K (.ref f29) = true)
    (a30 : PySem.W.nsIn K mainGlobals "_law_told_there" = some (some (.ref f30)))
    (l30 : K.lookup f30 = some ⟨oc30, od30, .func (PySem.W.fnOf "_law_told_there" "_law_told_there" (defArgs s__law_told_there) (defBody s__law_told_there) (defScope s__law_told_there) .none kV30 dc30 pm30 an30 cd30 ct30), sl30⟩)
    (c30 : PySem.W.codeIn K cd30 "_law_told_there" = true)
    (k30 : PySem.W.keepIn K (.ref f30) = true)
    (a31 : PySem.W.nsIn K mainGlobals "_law_can" = some (some (.ref f31)))
    (l31 : K.lookup f31 = some ⟨oc31, od31, .func (PySem.W.fnOf "_law_can" "_law_can" (defArgs s__law_can) (defBody s__law_can) (defScope s__law_can) .none kV31 dc31 pm31 an31 cd31 ct31), sl31⟩)
    (c31 : PySem.W.codeIn K cd31 "_law_can" = true)
    (k31 : PySem.W.keepIn K (.ref f31) = true)
    (a32 : PySem.W.nsIn K mainGlobals "_law_places" = some (some (.ref f32)))
    (l32 : K.lookup f32 = some ⟨oc32, od32, .func (PySem.W.fnOf "_law_places" "_law_places" (defArgs s__law_places) (defBody s__law_places) (defScope s__law_places) .none kV32 dc32 pm32 an32 cd32 ct32), sl32⟩)
    (c32 : PySem.W.codeIn K cd32 "_law_places" = true)
    (k32 : PySem.W.keepIn K (.ref f32) = true)
    (a33 : PySem.W.nsIn K mainGlobals "_law_body" = some (some (.ref f33)))
    (l33 : K.lookup f33 = some ⟨oc33, od33, .func (PySem.W.fnOf "_law_body" "_law_body" (defArgs s__law_body) (defBody s__law_body) (defScope s__law_body) .none kV33 dc33 pm33 an33 cd33 ct33), sl33⟩)
    (c33 : PySem.W.codeIn K cd33 "_law_body" = true)
    (k33 : PySem.W.keepIn K (.ref f33) = true)
    (a34 : PySem.W.nsIn K mainGlobals "_law_meet" = some (some (.ref f34)))
    (l34 : K.lookup f34 = some ⟨oc34, od34, .func (PySem.W.fnOf "_law_meet" "_law_meet" (defArgs s__law_meet) (defBody s__law_meet) (defScope s__law_meet) .none kV34 dc34 pm34 an34 cd34 ct34), sl34⟩)
    (c34 : PySem.W.codeIn K cd34 "_law_meet" = true)
    (k34 : PySem.W.keepIn K (.ref f34) = true)
    (a35 : PySem.W.nsIn K mainGlobals "_law_fault" = some (some (.ref f35)))
    (l35 : K.lookup f35 = some ⟨oc35, od35, .func (PySem.W.fnOf "_law_fault" "_law_fault" (defArgs s__law_fault) (defBody s__law_fault) (defScope s__law_fault) .none kV35 dc35 pm35 an35 cd35 ct35), sl35⟩)
    (c35 : PySem.W.codeIn K cd35 "_law_fault" = true)
    (k35 : PySem.W.keepIn K (.ref f35) = true)
    (a36 : PySem.W.nsIn K mainGlobals "_law_part" = some (some (.ref f36)))
    (l36 : K.lookup f36 = some ⟨oc36, od36, .func (PySem.W.fnOf "_law_part" "_law_part" (defArgs s__law_part) (defBody s__law_part) (defScope s__law_part) .none kV36 dc36 pm36 an36 cd36 ct36), sl36⟩)
    (c36 : PySem.W.codeIn K cd36 "_law_part" = true)
    (k36 : PySem.W.keepIn K (.ref f36) = true)
    (a37 : PySem.W.nsIn K mainGlobals "_law_odd_plug" = some (some (.ref f37)))
    (l37 : K.lookup f37 = some ⟨oc37, od37, .func (PySem.W.fnOf "_law_odd_plug" "_law_odd_plug" (defArgs s__law_odd_plug) (defBody s__law_odd_plug) (defScope s__law_odd_plug) .none kV37 dc37 pm37 an37 cd37 ct37), sl37⟩)
    (c37 : PySem.W.codeIn K cd37 "_law_odd_plug" = true)
    (k37 : PySem.W.keepIn K (.ref f37) = true)
    (a38 : PySem.W.nsIn K mainGlobals "law" = some (some (.ref f38)))
    (l38 : K.lookup f38 = some ⟨oc38, od38, .func (PySem.W.fnOf "law" "law" (defArgs s_law) (defBody s_law) (defScope s_law) .none kV38 dc38 pm38 an38 cd38 ct38), sl38⟩)
    (c38 : PySem.W.codeIn K cd38 "law" = true)
    (k38 : PySem.W.keepIn K (.ref f38) = true)
    (pg_Strip : PySem.W.plainGet K c_Strip Str.empty = true)
    (hd_Strip : PySem.W.hasDictIn K c_Strip = true)
    (po_Strip : PySem.W.plainOver K c_Strip = true)
    (sa_Strip : PySem.W.findIn K (.ref c_Strip) "__setattr__" = some (some (.builtin "object.__setattr__")))
    (mk_Strip : PySem.W.makesIn K c_Strip = true)
    (kc_Strip : PySem.W.keepIn K (.ref c_Strip) = true)
    (ex_BadPlan : PySem.W.excIn K c_BadPlan veMro "ValueError.__new__" = true)
    (ex_BadPlug : PySem.W.excIn K c_BadPlug veMro "ValueError.__new__" = true)
    (ex_BadSockets : PySem.W.excIn K c_BadSockets veMro "ValueError.__new__" = true)
    (ex_NotRight : PySem.W.excIn K c_NotRight veMro "ValueError.__new__" = true)
    (kp_BadPlan : PySem.W.keepIn K (.ref c_BadPlan) = true)
    (sb_BadPlan : PySem.W.subIn K (.ref c_BadPlan) (.type "BaseException") = some true)
    (ty_BadPlan : PySem.W.typeIn K (.ref c_BadPlan) = some (.type "type"))
    (kp_BadPlug : PySem.W.keepIn K (.ref c_BadPlug) = true)
    (sb_BadPlug : PySem.W.subIn K (.ref c_BadPlug) (.type "BaseException") = some true)
    (ty_BadPlug : PySem.W.typeIn K (.ref c_BadPlug) = some (.type "type"))
    (kp_BadPlugs : PySem.W.keepIn K (.ref c_BadPlugs) = true)
    (sb_BadPlugs : PySem.W.subIn K (.ref c_BadPlugs) (.type "BaseException") = some true)
    (ty_BadPlugs : PySem.W.typeIn K (.ref c_BadPlugs) = some (.type "type"))
    (kp_BadSockets : PySem.W.keepIn K (.ref c_BadSockets) = true)
    (sb_BadSockets : PySem.W.subIn K (.ref c_BadSockets) (.type "BaseException") = some true)
    (ty_BadSockets : PySem.W.typeIn K (.ref c_BadSockets) = some (.type "type"))
    (kp_NotRight : PySem.W.keepIn K (.ref c_NotRight) = true)
    (sb_NotRight : PySem.W.subIn K (.ref c_NotRight) (.type "BaseException") = some true)
    (ty_NotRight : PySem.W.typeIn K (.ref c_NotRight) = some (.type "type"))
    (ox_BadPlugs : oexB K c_BadPlugs = true)
    (osa_BadPlugs : PySem.W.findIn K (.ref c_BadPlugs) "__setattr__" = some (some (.builtin "object.__setattr__")))
    (en_BadPlugs_index : PySem.W.findIn K (.ref c_BadPlugs) "index" = some none)
    (xsp : PySem.W.specialIn K (.builtin "object.__class__") "__get__" = some (some (.builtin "getset_descriptor.__get__")))
    (xtk : PySem.W.takesIn K (.builtin "object.__class__") = some true)
    (xg_BadPlan : PySem.W.findIn K (.ref c_BadPlan) "__getattribute__" = some (some (.builtin "BaseException.__getattribute__")))
    (xk_BadPlan : PySem.W.findIn K (.ref c_BadPlan) "__getattr__" = some none)
    (xs_BadPlan : PySem.W.subIn K (.ref c_BadPlan) (.type "BaseException") = some true)
    (xd_BadPlan : PySem.W.hasDictIn K c_BadPlan = true)
    (xa_BadPlan : PySem.W.findIn K (.ref c_BadPlan) "__class__" = some (some (.builtin "object.__class__")))
    (xm_BadPlan : PySem.W.mroIn K c_BadPlan (.type "object") = some true)
    (xt_BadPlan : PySem.W.typeIn K (.ref c_BadPlan) = some (.type "type"))
    (xx_BadPlan : PySem.W.subIn K (.ref c_BadPlan) (.ref c_BadPlan) = some true)
    (xg_BadPlug : PySem.W.findIn K (.ref c_BadPlug) "__getattribute__" = some (some (.builtin "BaseException.__getattribute__")))
    (xk_BadPlug : PySem.W.findIn K (.ref c_BadPlug) "__getattr__" = some none)
    (xs_BadPlug : PySem.W.subIn K (.ref c_BadPlug) (.type "BaseException") = some true)
    (xd_BadPlug : PySem.W.hasDictIn K c_BadPlug = true)
    (xa_BadPlug : PySem.W.findIn K (.ref c_BadPlug) "__class__" = some (some (.builtin "object.__class__")))
    (xm_BadPlug : PySem.W.mroIn K c_BadPlug (.type "object") = some true)
    (xt_BadPlug : PySem.W.typeIn K (.ref c_BadPlug) = some (.type "type"))
    (xx_BadPlug : PySem.W.subIn K (.ref c_BadPlug) (.ref c_BadPlug) = some true)
    (xg_BadPlugs : PySem.W.findIn K (.ref c_BadPlugs) "__getattribute__" = some (some (.builtin "BaseException.__getattribute__")))
    (xk_BadPlugs : PySem.W.findIn K (.ref c_BadPlugs) "__getattr__" = some none)
    (xs_BadPlugs : PySem.W.subIn K (.ref c_BadPlugs) (.type "BaseException") = some true)
    (xd_BadPlugs : PySem.W.hasDictIn K c_BadPlugs = true)
    (xa_BadPlugs : PySem.W.findIn K (.ref c_BadPlugs) "__class__" = some (some (.builtin "object.__class__")))
    (xm_BadPlugs : PySem.W.mroIn K c_BadPlugs (.type "object") = some true)
    (xt_BadPlugs : PySem.W.typeIn K (.ref c_BadPlugs) = some (.type "type"))
    (xx_BadPlugs : PySem.W.subIn K (.ref c_BadPlugs) (.ref c_BadPlugs) = some true)
    (xg_BadSockets : PySem.W.findIn K (.ref c_BadSockets) "__getattribute__" = some (some (.builtin "BaseException.__getattribute__")))
    (xk_BadSockets : PySem.W.findIn K (.ref c_BadSockets) "__getattr__" = some none)
    (xs_BadSockets : PySem.W.subIn K (.ref c_BadSockets) (.type "BaseException") = some true)
    (xd_BadSockets : PySem.W.hasDictIn K c_BadSockets = true)
    (xa_BadSockets : PySem.W.findIn K (.ref c_BadSockets) "__class__" = some (some (.builtin "object.__class__")))
    (xm_BadSockets : PySem.W.mroIn K c_BadSockets (.type "object") = some true)
    (xt_BadSockets : PySem.W.typeIn K (.ref c_BadSockets) = some (.type "type"))
    (xx_BadSockets : PySem.W.subIn K (.ref c_BadSockets) (.ref c_BadSockets) = some true)
    (xg_NotRight : PySem.W.findIn K (.ref c_NotRight) "__getattribute__" = some (some (.builtin "BaseException.__getattribute__")))
    (xk_NotRight : PySem.W.findIn K (.ref c_NotRight) "__getattr__" = some none)
    (xs_NotRight : PySem.W.subIn K (.ref c_NotRight) (.type "BaseException") = some true)
    (xd_NotRight : PySem.W.hasDictIn K c_NotRight = true)
    (xa_NotRight : PySem.W.findIn K (.ref c_NotRight) "__class__" = some (some (.builtin "object.__class__")))
    (xm_NotRight : PySem.W.mroIn K c_NotRight (.type "object") = some true)
    (xt_NotRight : PySem.W.typeIn K (.ref c_NotRight) = some (.type "type"))
    (xx_NotRight : PySem.W.subIn K (.ref c_NotRight) (.ref c_NotRight) = some true)
    (xg_StripError : PySem.W.findIn K (.ref c_StripError) "__getattribute__" = some (some (.builtin "BaseException.__getattribute__")))
    (xk_StripError : PySem.W.findIn K (.ref c_StripError) "__getattr__" = some none)
    (xs_StripError : PySem.W.subIn K (.ref c_StripError) (.type "BaseException") = some true)
    (xd_StripError : PySem.W.hasDictIn K c_StripError = true)
    (xa_StripError : PySem.W.findIn K (.ref c_StripError) "__class__" = some (some (.builtin "object.__class__")))
    (xm_StripError : PySem.W.mroIn K c_StripError (.type "object") = some true)
    (xt_StripError : PySem.W.typeIn K (.ref c_StripError) = some (.type "type"))
    (xx_StripError : PySem.W.subIn K (.ref c_StripError) (.ref c_StripError) = some true)
    (su_BadPlan_BadPlan : PySem.W.subIn K (.ref c_BadPlan) (.ref c_BadPlan) = some true)
    (su_BadPlan_BadPlug : PySem.W.subIn K (.ref c_BadPlan) (.ref c_BadPlug) = some false)
    (su_BadPlan_BadPlugs : PySem.W.subIn K (.ref c_BadPlan) (.ref c_BadPlugs) = some false)
    (su_BadPlan_NotRight : PySem.W.subIn K (.ref c_BadPlan) (.ref c_NotRight) = some false)
    (su_BadPlan_StripError : PySem.W.subIn K (.ref c_BadPlan) (.ref c_StripError) = some true)
    (su_BadPlug_BadPlan : PySem.W.subIn K (.ref c_BadPlug) (.ref c_BadPlan) = some false)
    (su_BadPlug_BadPlug : PySem.W.subIn K (.ref c_BadPlug) (.ref c_BadPlug) = some true)
    (su_BadPlug_BadPlugs : PySem.W.subIn K (.ref c_BadPlug) (.ref c_BadPlugs) = some false)
    (su_BadPlug_NotRight : PySem.W.subIn K (.ref c_BadPlug) (.ref c_NotRight) = some false)
    (su_BadPlug_StripError : PySem.W.subIn K (.ref c_BadPlug) (.ref c_StripError) = some true)
    (su_BadPlugs_BadPlan : PySem.W.subIn K (.ref c_BadPlugs) (.ref c_BadPlan) = some false)
    (su_BadPlugs_BadPlug : PySem.W.subIn K (.ref c_BadPlugs) (.ref c_BadPlug) = some false)
    (su_BadPlugs_BadPlugs : PySem.W.subIn K (.ref c_BadPlugs) (.ref c_BadPlugs) = some true)
    (su_BadPlugs_NotRight : PySem.W.subIn K (.ref c_BadPlugs) (.ref c_NotRight) = some false)
    (su_BadPlugs_StripError : PySem.W.subIn K (.ref c_BadPlugs) (.ref c_StripError) = some true)
    (su_BadSockets_BadPlan : PySem.W.subIn K (.ref c_BadSockets) (.ref c_BadPlan) = some false)
    (su_BadSockets_BadPlug : PySem.W.subIn K (.ref c_BadSockets) (.ref c_BadPlug) = some false)
    (su_BadSockets_BadPlugs : PySem.W.subIn K (.ref c_BadSockets) (.ref c_BadPlugs) = some false)
    (su_BadSockets_NotRight : PySem.W.subIn K (.ref c_BadSockets) (.ref c_NotRight) = some false)
    (su_BadSockets_StripError : PySem.W.subIn K (.ref c_BadSockets) (.ref c_StripError) = some true)
    (su_NotRight_BadPlan : PySem.W.subIn K (.ref c_NotRight) (.ref c_BadPlan) = some false)
    (su_NotRight_BadPlug : PySem.W.subIn K (.ref c_NotRight) (.ref c_BadPlug) = some false)
    (su_NotRight_BadPlugs : PySem.W.subIn K (.ref c_NotRight) (.ref c_BadPlugs) = some false)
    (su_NotRight_NotRight : PySem.W.subIn K (.ref c_NotRight) (.ref c_NotRight) = some true)
    (su_NotRight_StripError : PySem.W.subIn K (.ref c_NotRight) (.ref c_StripError) = some true)
    (xf_BadPlugs_index : PySem.W.findIn K (.ref c_BadPlugs) "index" = some none)
    (no_Strip_rows : PySem.W.findIn K (.ref c_Strip) "rows" = some none)
    (z_all : PySem.W.nsIn K mainGlobals "all" = some none)
    (z_bool : PySem.W.nsIn K mainGlobals "bool" = some none)
    (z_enumerate : PySem.W.nsIn K mainGlobals "enumerate" = some none)
    (z_int : PySem.W.nsIn K mainGlobals "int" = some none)
    (z_isinstance : PySem.W.nsIn K mainGlobals "isinstance" = some none)
    (z_len : PySem.W.nsIn K mainGlobals "len" = some none)
    (z_list : PySem.W.nsIn K mainGlobals "list" = some none)
    (z_range : PySem.W.nsIn K mainGlobals "range" = some none)
    (z_tuple : PySem.W.nsIn K mainGlobals "tuple" = some none)
    (z_zip : PySem.W.nsIn K mainGlobals "zip" = some none)
    (y_MOST_AT : PySem.W.nsIn K mainGlobals "MOST_AT" = some (some (.int (300) t_MOST_AT)))
    (y_MOST_PLUGS : PySem.W.nsIn K mainGlobals "MOST_PLUGS" = some (some (.int (5) t_MOST_PLUGS)))
    (y_MOST_SIDE : PySem.W.nsIn K mainGlobals "MOST_SIDE" = some (some (.int (60) t_MOST_SIDE)))
    (y_MOST_SOCKETS : PySem.W.nsIn K mainGlobals "MOST_SOCKETS" = some (some (.int (9) t_MOST_SOCKETS)))
    : ∃ fd : FuncData, (∀ (s : Shared) (v : Value), BindsTo s fd ⟨[v], []⟩ [("_law_script", v)]) ∧ ∀ base : Heap, K.In base → base.Ns mainGlobals mg → FnOk l.prog w K mg base (L2.CX l.prog w) 8 fa fd ["_law_script"] (spLaw K) := by
  have e := hfa.symm.trans (PySem.W.mg_of X G a38)
  cases e
  have F0 := fun_mk (st := s_BadPlugs_d__init_d_) l0 c0 k0
  have B0 := F0.binds (ps := ["self", "index"]) fun _ _ _ _ _ _ us hl => match us, hl with | [_, _], _ => rfl
  have F1 := fun_mk (st := s__law_draws) l1 c1 k1
  have B1 := F1.binds (ps := ["_law_script"]) fun _ _ _ _ _ _ us hl => match us, hl with | [_], _ => rfl
  have F2 := fun_mk (st := s__law_pick) l2 c2 k2
  have B2 := F2.binds (ps := ["_law_row", "_law_many"]) fun _ _ _ _ _ _ us hl => match us, hl with | [_, _], _ => rfl
  have F3 := fun_mk (st := s__law_sockets) l3 c3 k3
  have B3 := F3.binds (ps := ["_law_row", "_law_most"]) fun _ _ _ _ _ _ us hl => match us, hl with | [_, _], _ => rfl
  have F4 := fun_mk (st := s__law_plug) l4 c4 k4
  have B4 := F4.binds (ps := ["_law_row"]) fun _ _ _ _ _ _ us hl => match us, hl with | [_], _ => rfl
  have F5 := fun_mk (st := s__law_plugs) l5 c5 k5
  have B5 := F5.binds (ps := ["_law_row", "_law_most"]) fun _ _ _ _ _ _ us hl => match us, hl with | [_, _], _ => rfl
  have F6 := fun_mk (st := s_is_from) l6 c6 k6
  have B6 := F6.binds (ps := ["value", "low", "high"]) fun _ _ _ _ _ _ us hl => match us, hl with | [_, _, _], _ => rfl
  have F7 := fun_mk (st := s_Strip_d__init_d_) l7 c7 k7
  have B7 := F7.binds (ps := ["self", "sockets"]) fun _ _ _ _ _ _ us hl => match us, hl with | [_, _], _ => rfl
  have F8 := fun_mk (st := s_is_plug) l8 c8 k8
  have B8 := F8.binds (ps := ["value"]) fun _ _ _ _ _ _ us hl => match us, hl with | [_], _ => rfl
  have F9 := fun_mk (st := s_check_plugs) l9 c9 k9
  have B9 := F9.binds (ps := ["value", "most"]) fun _ _ _ _ _ _ us hl => match us, hl with | [_, _], _ => rfl
  have F10 := fun_mk (st := s_is_place) l10 c10 k10
  have B10 := F10.binds (ps := ["strip", "value"]) fun _ _ _ _ _ _ us hl => match us, hl with | [_, _], _ => rfl
  have F11 := fun_mk (st := s_check_plan) l11 c11 k11
  have B11 := F11.binds (ps := ["strip", "plugs", "value"]) fun _ _ _ _ _ _ us hl => match us, hl with | [_, _, _], _ => rfl
  have F12 := fun_mk (st := s_can_turn) l12 c12 k12
  have B12 := F12.binds (ps := ["plug"]) fun _ _ _ _ _ _ us hl => match us, hl with | [_], _ => rfl
  have F13 := fun_mk (st := s_pairs_of) l13 c13 k13
  have B13 := F13.binds (ps := ["plan"]) fun _ _ _ _ _ _ us hl => match us, hl with | [_], _ => rfl
  have F14 := fun_mk (st := s_sides) l14 c14 k14
  have B14 := F14.binds (ps := ["plug", "turned"]) fun _ _ _ _ _ _ us hl => match us, hl with | [_, _], _ => rfl
  have F15 := fun_mk (st := s_body) l15 c15 k15
  have B15 := F15.binds (ps := ["strip", "plug", "place"]) fun _ _ _ _ _ _ us hl => match us, hl with | [_, _, _], _ => rfl
  have F16 := fun_mk (st := s_are_apart) l16 c16 k16
  have B16 := F16.binds (ps := ["strip", "one", "first", "other", "second"]) fun _ _ _ _ _ _ us hl => match us, hl with | [_, _, _, _, _], _ => rfl
  have F17 := fun_mk (st := s_fault_of) l17 c17 k17
  have B17 := F17.binds (ps := ["strip", "plugs", "plan"]) fun _ _ _ _ _ _ us hl => match us, hl with | [_, _, _], _ => rfl
  have F18 := fun_mk (st := s_judge) l18 c18 k18
  have B18 := F18.binds (ps := ["strip", "plugs", "plan"]) fun _ _ _ _ _ _ us hl => match us, hl with | [_, _, _], _ => rfl
  have F19 := fun_mk (st := s_check_right) l19 c19 k19
  have B19 := F19.binds (ps := ["strip", "plugs", "plan"]) fun _ _ _ _ _ _ us hl => match us, hl with | [_, _, _], _ => rfl
  have F20 := fun_mk (st := s_words) l20 c20 k20
  have B20 := F20.binds (ps := ["strip", "plugs", "plan"]) fun _ _ _ _ _ _ us hl => match us, hl with | [_, _, _], _ => rfl
  have F21 := fun_mk (st := s_check_plug) l21 c21 k21
  have B21 := F21.binds (ps := ["value"]) fun _ _ _ _ _ _ us hl => match us, hl with | [_], _ => rfl
  have F22 := fun_mk (st := s_rooms) l22 c22 k22
  have B22 := F22.binds (ps := ["strip", "plugs", "plan", "plug"]) fun _ _ _ _ _ _ us hl => match us, hl with | [_, _, _, _], _ => rfl
  have F23 := fun_mk (st := s_make_room) l23 c23 k23
  have B23 := F23.binds (ps := ["strip", "plugs", "plan", "plug"]) fun _ _ _ _ _ _ us hl => match us, hl with | [_, _, _, _], _ => rfl
  have F24 := fun_mk (st := s_count_plans) l24 c24 k24
  have B24 := F24.binds (ps := ["strip", "plugs"]) fun _ _ _ _ _ _ us hl => match us, hl with | [_, _], _ => rfl
  have F25 := fun_mk (st := s_least_plan) l25 c25 k25
  have B25 := F25.binds (ps := ["strip", "plugs"]) fun _ _ _ _ _ _ us hl => match us, hl with | [_, _], _ => rfl
  have F26 := fun_mk (st := s_most_together) l26 c26 k26
  have B26 := F26.binds (ps := ["strip", "plugs"]) fun _ _ _ _ _ _ us hl => match us, hl with | [_, _], _ => rfl
  have F27 := fun_mk (st := s_bars) l27 c27 k27
  have B27 := F27.binds (ps := ["strip", "plugs"]) fun _ _ _ _ _ _ us hl => match us, hl with | [_, _], _ => rfl
  have F28 := fun_mk (st := s_paper) l28 c28 k28
  have B28 := F28.binds (ps := ["strip", "plugs"]) fun _ _ _ _ _ _ us hl => match us, hl with | [_, _], _ => rfl
  have F29 := fun_mk (st := s__law_asked) l29 c29 k29
  have B29 := F29.binds (ps := ["_law_strip", "_law_plugs_here", "_law_which"]) fun _ _ _ _ _ _ us hl => match us, hl with | [_, _, _], _ => rfl
  have F30 := fun_mk (st := s__law_told_there) l30 c30 k30
  have B30 := F30.binds (ps := ["_law_strip", "_law_plugs_here", "_law_plan", "_law_plug_here", "_law_which"]) fun _ _ _ _ _ _ us hl => match us, hl with | [_, _, _, _, _], _ => rfl
  have F31 := fun_mk (st := s__law_can) l31 c31 k31
  have B31 := F31.binds (ps := ["_law_plug_here"]) fun _ _ _ _ _ _ us hl => match us, hl with | [_], _ => rfl
  have F32 := fun_mk (st := s__law_places) l32 c32 k32
  have B32 := F32.binds (ps := ["_law_sockets_here", "_law_plug_here"]) fun _ _ _ _ _ _ us hl => match us, hl with | [_, _], _ => rfl
  have F33 := fun_mk (st := s__law_body) l33 c33 k33
  have B33 := F33.binds (ps := ["_law_sockets_here", "_law_plug_here", "_law_place"]) fun _ _ _ _ _ _ us hl => match us, hl with | [_, _, _], _ => rfl
  have F34 := fun_mk (st := s__law_meet) l34 c34 k34
  have B34 := F34.binds (ps := ["_law_sockets_here", "_law_plugs_here", "_law_plan", "_law_one", "_law_other"]) fun _ _ _ _ _ _ us hl => match us, hl with | [_, _, _, _, _], _ => rfl
  have F35 := fun_mk (st := s__law_fault) l35 c35 k35
  have B35 := F35.binds (ps := ["_law_sockets_here", "_law_plugs_here", "_law_plan"]) fun _ _ _ _ _ _ us hl => match us, hl with | [_, _, _], _ => rfl
  have F36 := fun_mk (st := s__law_part) l36 c36 k36
  have B36 := F36.binds (ps := ["_law_row", "_law_sockets_here", "_law_plugs_here"]) fun _ _ _ _ _ _ us hl => match us, hl with | [_, _, _], _ => rfl
  have F37 := fun_mk (st := s__law_odd_plug) l37 c37 k37
  have B37 := F37.binds (ps := ["_law_row"]) fun _ _ _ _ _ _ us hl => match us, hl with | [_], _ => rfl
  have F38 := fun_mk (st := s_law) l38 c38 k38
  have B38 := F38.binds (ps := ["_law_script"]) fun _ _ _ _ _ _ us hl => match us, hl with | [_], _ => rfl
  let T : Env K mg := { a_BadPlugs_d__init_d_ := f0, d_BadPlugs_d__init_d_ := _, h_BadPlugs_d__init_d_ := ⟨F0, B0⟩, a__law_draws := f1, d__law_draws := _, h__law_draws := ⟨F1, B1⟩, l__law_draws := PySem.W.mg_of X G a1, a__law_pick := f2, d__law_pick := _, h__law_pick := ⟨F2, B2⟩, l__law_pick := PySem.W.mg_of X G a2, a__law_sockets := f3, d__law_sockets := _, h__law_sockets := ⟨F3, B3⟩, l__law_sockets := PySem.W.mg_of X G a3, a__law_plug := f4, d__law_plug := _, h__law_plug := ⟨F4, B4⟩, l__law_plug := PySem.W.mg_of X G a4, a__law_plugs := f5, d__law_plugs := _, h__law_plugs := ⟨F5, B5⟩, l__law_plugs := PySem.W.mg_of X G a5, a_is_from := f6, d_is_from := _, h_is_from := ⟨F6, B6⟩, l_is_from := PySem.W.mg_of X G a6, a_Strip_d__init_d_ := f7, d_Strip_d__init_d_ := _, h_Strip_d__init_d_ := ⟨F7, B7⟩, a_is_plug := f8, d_is_plug := _, h_is_plug := ⟨F8, B8⟩, l_is_plug := PySem.W.mg_of X G a8, a_check_plugs := f9, d_check_plugs := _, h_check_plugs := ⟨F9, B9⟩, l_check_plugs := PySem.W.mg_of X G a9, a_is_place := f10, d_is_place := _, h_is_place := ⟨F10, B10⟩, l_is_place := PySem.W.mg_of X G a10, a_check_plan := f11, d_check_plan := _, h_check_plan := ⟨F11, B11⟩, l_check_plan := PySem.W.mg_of X G a11, a_can_turn := f12, d_can_turn := _, h_can_turn := ⟨F12, B12⟩, l_can_turn := PySem.W.mg_of X G a12, a_pairs_of := f13, d_pairs_of := _, h_pairs_of := ⟨F13, B13⟩, l_pairs_of := PySem.W.mg_of X G a13, a_sides := f14, d_sides := _, h_sides := ⟨F14, B14⟩, l_sides := PySem.W.mg_of X G a14, a_body := f15, d_body := _, h_body := ⟨F15, B15⟩, l_body := PySem.W.mg_of X G a15, a_are_apart := f16, d_are_apart := _, h_are_apart := ⟨F16, B16⟩, l_are_apart := PySem.W.mg_of X G a16, a_fault_of := f17, d_fault_of := _, h_fault_of := ⟨F17, B17⟩, l_fault_of := PySem.W.mg_of X G a17, a_judge := f18, d_judge := _, h_judge := ⟨F18, B18⟩, l_judge := PySem.W.mg_of X G a18, a_check_right := f19, d_check_right := _, h_check_right := ⟨F19, B19⟩, l_check_right := PySem.W.mg_of X G a19, a_words := f20, d_words := _, h_words := ⟨F20, B20⟩, l_words := PySem.W.mg_of X G a20, a_check_plug := f21, d_check_plug := _, h_check_plug := ⟨F21, B21⟩, l_check_plug := PySem.W.mg_of X G a21, a_rooms := f22, d_rooms := _, h_rooms := ⟨F22, B22⟩, l_rooms := PySem.W.mg_of X G a22, a_make_room := f23, d_make_room := _, h_make_room := ⟨F23, B23⟩, l_make_room := PySem.W.mg_of X G a23, a_count_plans := f24, d_count_plans := _, h_count_plans := ⟨F24, B24⟩, l_count_plans := PySem.W.mg_of X G a24, a_least_plan := f25, d_least_plan := _, h_least_plan := ⟨F25, B25⟩, l_least_plan := PySem.W.mg_of X G a25, a_most_together := f26, d_most_together := _, h_most_together := ⟨F26, B26⟩, l_most_together := PySem.W.mg_of X G a26, a_bars := f27, d_bars := _, h_bars := ⟨F27, B27⟩, l_bars := PySem.W.mg_of X G a27, a_paper := f28, d_paper := _, h_paper := ⟨F28, B28⟩, l_paper := PySem.W.mg_of X G a28, a__law_asked := f29, d__law_asked := _, h__law_asked := ⟨F29, B29⟩, l__law_asked := PySem.W.mg_of X G a29, a__law_told_there := f30, d__law_told_there := _, h__law_told_there := ⟨F30, B30⟩, l__law_told_there := PySem.W.mg_of X G a30, a__law_can := f31, d__law_can := _, h__law_can := ⟨F31, B31⟩, l__law_can := PySem.W.mg_of X G a31, a__law_places := f32, d__law_places := _, h__law_places := ⟨F32, B32⟩, l__law_places := PySem.W.mg_of X G a32, a__law_body := f33, d__law_body := _, h__law_body := ⟨F33, B33⟩, l__law_body := PySem.W.mg_of X G a33, a__law_meet := f34, d__law_meet := _, h__law_meet := ⟨F34, B34⟩, l__law_meet := PySem.W.mg_of X G a34, a__law_fault := f35, d__law_fault := _, h__law_fault := ⟨F35, B35⟩, l__law_fault := PySem.W.mg_of X G a35, a__law_part := f36, d__law_part := _, h__law_part := ⟨F36, B36⟩, l__law_part := PySem.W.mg_of X G a36, a__law_odd_plug := f37, d__law_odd_plug := _, h__law_odd_plug := ⟨F37, B37⟩, l__law_odd_plug := PySem.W.mg_of X G a37, a_law := fa, d_law := _, h_law := ⟨F38, B38⟩, l_law := PySem.W.mg_of X G a38, c_Strip := c_Strip, k_Strip := ⟨PySem.W.mg_of X G aC_Strip, ⟨pg_Strip, hd_Strip, po_Strip, sa_Strip⟩⟩, c_BadPlan := c_BadPlan, c_BadPlug := c_BadPlug, c_BadPlugs := c_BadPlugs, c_BadSockets := c_BadSockets, c_NotRight := c_NotRight, c_StripError := c_StripError, r_BadPlan := ⟨PySem.W.mg_of X G aE_BadPlan, ex_BadPlan, kp_BadPlan, sb_BadPlan, ty_BadPlan⟩, r_BadPlug := ⟨PySem.W.mg_of X G aE_BadPlug, ex_BadPlug, kp_BadPlug, sb_BadPlug, ty_BadPlug⟩, r_BadSockets := ⟨PySem.W.mg_of X G aE_BadSockets, ex_BadSockets, kp_BadSockets, sb_BadSockets, ty_BadSockets⟩, r_NotRight := ⟨PySem.W.mg_of X G aE_NotRight, ex_NotRight, kp_NotRight, sb_NotRight, ty_NotRight⟩, r_BadPlugs := ⟨PySem.W.mg_of X G aE_BadPlugs, ⟨oexB_ok ox_BadPlugs, osa_BadPlugs, sb_BadPlugs, ty_BadPlugs, kp_BadPlugs⟩, a0, isFn_ty i0⟩, no_BadPlugs_index := en_BadPlugs_index, x_BadPlan := ⟨PySem.W.mg_of X G aE_BadPlan, ⟨xg_BadPlan, xk_BadPlan, xs_BadPlan, xd_BadPlan, xa_BadPlan, xsp, xtk, xm_BadPlan⟩, xt_BadPlan, xx_BadPlan⟩, x_BadPlug := ⟨PySem.W.mg_of X G aE_BadPlug, ⟨xg_BadPlug, xk_BadPlug, xs_BadPlug, xd_BadPlug, xa_BadPlug, xsp, xtk, xm_BadPlug⟩, xt_BadPlug, xx_BadPlug⟩, x_BadPlugs := ⟨PySem.W.mg_of X G aE_BadPlugs, ⟨xg_BadPlugs, xk_BadPlugs, xs_BadPlugs, xd_BadPlugs, xa_BadPlugs, xsp, xtk, xm_BadPlugs⟩, xt_BadPlugs, xx_BadPlugs⟩, x_BadSockets := ⟨PySem.W.mg_of X G aE_BadSockets, ⟨xg_BadSockets, xk_BadSockets, xs_BadSockets, xd_BadSockets, xa_BadSockets, xsp, xtk, xm_BadSockets⟩, xt_BadSockets, xx_BadSockets⟩, x_NotRight := ⟨PySem.W.mg_of X G aE_NotRight, ⟨xg_NotRight, xk_NotRight, xs_NotRight, xd_NotRight, xa_NotRight, xsp, xtk, xm_NotRight⟩, xt_NotRight, xx_NotRight⟩, x_StripError := ⟨PySem.W.mg_of X G aE_StripError, ⟨xg_StripError, xk_StripError, xs_StripError, xd_StripError, xa_StripError, xsp, xtk, xm_StripError⟩, xt_StripError, xx_StripError⟩, s_BadPlan_BadPlan := su_BadPlan_BadPlan.trans (by rw [show subX "BadPlan" "BadPlan" = true from by decide +kernel]), s_BadPlan_BadPlug := su_BadPlan_BadPlug.trans (by rw [show subX "BadPlan" "BadPlug" = false from by decide +kernel]), s_BadPlan_BadPlugs := su_BadPlan_BadPlugs.trans (by rw [show subX "BadPlan" "BadPlugs" = false from by decide +kernel]), s_BadPlan_NotRight := su_BadPlan_NotRight.trans (by rw [show subX "BadPlan" "NotRight" = false from by decide +kernel]), s_BadPlan_StripError := su_BadPlan_StripError.trans (by rw [show subX "BadPlan" "StripError" = true from by decide +kernel]), s_BadPlug_BadPlan := su_BadPlug_BadPlan.trans (by rw [show subX "BadPlug" "BadPlan" = false from by decide +kernel]), s_BadPlug_BadPlug := su_BadPlug_BadPlug.trans (by rw [show subX "BadPlug" "BadPlug" = true from by decide +kernel]), s_BadPlug_BadPlugs := su_BadPlug_BadPlugs.trans (by rw [show subX "BadPlug" "BadPlugs" = false from by decide +kernel]), s_BadPlug_NotRight := su_BadPlug_NotRight.trans (by rw [show subX "BadPlug" "NotRight" = false from by decide +kernel]), s_BadPlug_StripError := su_BadPlug_StripError.trans (by rw [show subX "BadPlug" "StripError" = true from by decide +kernel]), s_BadPlugs_BadPlan := su_BadPlugs_BadPlan.trans (by rw [show subX "BadPlugs" "BadPlan" = false from by decide +kernel]), s_BadPlugs_BadPlug := su_BadPlugs_BadPlug.trans (by rw [show subX "BadPlugs" "BadPlug" = false from by decide +kernel]), s_BadPlugs_BadPlugs := su_BadPlugs_BadPlugs.trans (by rw [show subX "BadPlugs" "BadPlugs" = true from by decide +kernel]), s_BadPlugs_NotRight := su_BadPlugs_NotRight.trans (by rw [show subX "BadPlugs" "NotRight" = false from by decide +kernel]), s_BadPlugs_StripError := su_BadPlugs_StripError.trans (by rw [show subX "BadPlugs" "StripError" = true from by decide +kernel]), s_BadSockets_BadPlan := su_BadSockets_BadPlan.trans (by rw [show subX "BadSockets" "BadPlan" = false from by decide +kernel]), s_BadSockets_BadPlug := su_BadSockets_BadPlug.trans (by rw [show subX "BadSockets" "BadPlug" = false from by decide +kernel]), s_BadSockets_BadPlugs := su_BadSockets_BadPlugs.trans (by rw [show subX "BadSockets" "BadPlugs" = false from by decide +kernel]), s_BadSockets_NotRight := su_BadSockets_NotRight.trans (by rw [show subX "BadSockets" "NotRight" = false from by decide +kernel]), s_BadSockets_StripError := su_BadSockets_StripError.trans (by rw [show subX "BadSockets" "StripError" = true from by decide +kernel]), s_NotRight_BadPlan := su_NotRight_BadPlan.trans (by rw [show subX "NotRight" "BadPlan" = false from by decide +kernel]), s_NotRight_BadPlug := su_NotRight_BadPlug.trans (by rw [show subX "NotRight" "BadPlug" = false from by decide +kernel]), s_NotRight_BadPlugs := su_NotRight_BadPlugs.trans (by rw [show subX "NotRight" "BadPlugs" = false from by decide +kernel]), s_NotRight_NotRight := su_NotRight_NotRight.trans (by rw [show subX "NotRight" "NotRight" = true from by decide +kernel]), s_NotRight_StripError := su_NotRight_StripError.trans (by rw [show subX "NotRight" "StripError" = true from by decide +kernel]), f_BadPlugs_index := ⟨PySem.W.mg_of X G aE_BadPlugs, ⟨xg_BadPlugs, xk_BadPlugs, xs_BadPlugs, xd_BadPlugs⟩, xf_BadPlugs_index⟩, m_Strip := ⟨mk_Strip, a7, i7, kc_Strip⟩, n_Strip_rows := no_Strip_rows, b_all := PySem.W.mg_none_of X G z_all, b_bool := PySem.W.mg_none_of X G z_bool, b_enumerate := PySem.W.mg_none_of X G z_enumerate, b_int := PySem.W.mg_none_of X G z_int, b_isinstance := PySem.W.mg_none_of X G z_isinstance, b_len := PySem.W.mg_none_of X G z_len, b_list := PySem.W.mg_none_of X G z_list, b_range := PySem.W.mg_none_of X G z_range, b_tuple := PySem.W.mg_none_of X G z_tuple, b_zip := PySem.W.mg_none_of X G z_zip, t_MOST_AT := t_MOST_AT, g_MOST_AT := PySem.W.mg_of X G y_MOST_AT, t_MOST_PLUGS := t_MOST_PLUGS, g_MOST_PLUGS := PySem.W.mg_of X G y_MOST_PLUGS, t_MOST_SIDE := t_MOST_SIDE, g_MOST_SIDE := PySem.W.mg_of X G y_MOST_SIDE, t_MOST_SOCKETS := t_MOST_SOCKETS, g_MOST_SOCKETS := PySem.W.mg_of X G y_MOST_SOCKETS }
  exact ⟨T.d_law, fun s v => .of_eq rfl, fun base _ _ => law_ok (fun ns _ => Pk.law_true_3 ns) (ok_law T)⟩
end K03
open PySem PySem.W PyProof.Rows
set_option maxRecDepth 100000 in
set_option maxHeartbeats 0 in
theorem PySem.Challenge.cw_plugstrip_k03_values_refused_holds : PySem.Challenge.rw_plugstrip_k03_values_refused.Holds := by
  w_on; o_law; k_head; (case hw => w_witness2)
  k_fill
  refine Dl.walk (l := PySem.Challenge.rw_plugstrip_k03_values_refused) (k := 8) (x := "_law_script") rfl rfl (by decide) (fun w h Y => PySem.W.kIn_of Y) ?F
  case F =>
    intro w mg fa h KX G hmg
    refine' K03.all_mk KX G hmg ?aC_Strip ?aE_BadPlan ?aE_BadPlug ?aE_BadPlugs ?aE_BadSockets ?aE_NotRight ?aE_StripError ?a0 ?i0 ?l0 ?c0 ?k0 ?a1 ?l1 ?c1 ?k1 ?a2 ?l2 ?c2 ?k2 ?a3 ?l3 ?c3 ?k3 ?a4 ?l4 ?c4 ?k4 ?a5 ?l5 ?c5 ?k5 ?a6 ?l6 ?c6 ?k6 ?a7 ?i7 ?l7 ?c7 ?k7 ?a8 ?l8 ?c8 ?k8 ?a9 ?l9 ?c9 ?k9 ?a10 ?l10 ?c10 ?k10 ?a11 ?l11 ?c11 ?k11 ?a12 ?l12 ?c12 ?k12 ?a13 ?l13 ?c13 ?k13 ?a14 ?l14 ?c14 ?k14 ?a15 ?l15 ?c15 ?k15 ?a16 ?l16 ?c16 ?k16 ?a17 ?l17 ?c17 ?k17 ?a18 ?l18 ?c18 ?k18 ?a19 ?l19 ?c19 ?k19 ?a20 ?l20 ?c20 ?k20 ?a21 ?l21 ?c21 ?k21 ?a22 ?l22 ?c22 ?k22 ?a23 ?l23 ?c23 ?k23 ?a24 ?l24 ?c24 ?k24 ?a25 ?l25 ?c25 ?k25 ?a26 ?l26 ?c26 ?k26 ?a27 ?l27 ?c27 ?k27 ?a28 ?l28 ?c28 ?k28 ?a29 ?l29 ?c29 ?k29 ?a30 ?l30 ?c30 ?k30 ?a31 ?l31 ?c31 ?k31 ?a32 ?l32 ?c32 ?k32 ?a33 ?l33 ?c33 ?k33 ?a34 ?l34 ?c34 ?k34 ?a35 ?l35 ?c35 ?k35 ?a36 ?l36 ?c36 ?k36 ?a37 ?l37 ?c37 ?k37 ?a38 ?l38 ?c38 ?k38 ?pg_Strip ?hd_Strip ?po_Strip ?sa_Strip ?mk_Strip ?kc_Strip ?ex_BadPlan ?ex_BadPlug ?ex_BadSockets ?ex_NotRight ?kp_BadPlan ?sb_BadPlan ?ty_BadPlan ?kp_BadPlug ?sb_BadPlug ?ty_BadPlug ?kp_BadPlugs ?sb_BadPlugs ?ty_BadPlugs ?kp_BadSockets ?sb_BadSockets ?ty_BadSockets ?kp_NotRight ?sb_NotRight ?ty_NotRight ?ox_BadPlugs ?osa_BadPlugs ?en_BadPlugs_index ?xsp ?xtk ?xg_BadPlan ?xk_BadPlan ?xs_BadPlan ?xd_BadPlan ?xa_BadPlan ?xm_BadPlan ?xt_BadPlan ?xx_BadPlan ?xg_BadPlug ?xk_BadPlug ?xs_BadPlug ?xd_BadPlug ?xa_BadPlug ?xm_BadPlug ?xt_BadPlug ?xx_BadPlug ?xg_BadPlugs ?xk_BadPlugs ?xs_BadPlugs ?xd_BadPlugs ?xa_BadPlugs ?xm_BadPlugs ?xt_BadPlugs ?xx_BadPlugs ?xg_BadSockets ?xk_BadSockets ?xs_BadSockets ?xd_BadSockets ?xa_BadSockets ?xm_BadSockets ?xt_BadSockets ?xx_BadSockets ?xg_NotRight ?xk_NotRight ?xs_NotRight ?xd_NotRight ?xa_NotRight ?xm_NotRight ?xt_NotRight ?xx_NotRight ?xg_StripError ?xk_StripError ?xs_StripError ?xd_StripError ?xa_StripError ?xm_StripError ?xt_StripError ?xx_StripError ?su_BadPlan_BadPlan ?su_BadPlan_BadPlug ?su_BadPlan_BadPlugs ?su_BadPlan_NotRight ?su_BadPlan_StripError ?su_BadPlug_BadPlan ?su_BadPlug_BadPlug ?su_BadPlug_BadPlugs ?su_BadPlug_NotRight ?su_BadPlug_StripError ?su_BadPlugs_BadPlan ?su_BadPlugs_BadPlug ?su_BadPlugs_BadPlugs ?su_BadPlugs_NotRight ?su_BadPlugs_StripError ?su_BadSockets_BadPlan ?su_BadSockets_BadPlug ?su_BadSockets_BadPlugs ?su_BadSockets_NotRight ?su_BadSockets_StripError ?su_NotRight_BadPlan ?su_NotRight_BadPlug ?su_NotRight_BadPlugs ?su_NotRight_NotRight ?su_NotRight_StripError ?xf_BadPlugs_index ?no_Strip_rows ?z_all ?z_bool ?z_enumerate ?z_int ?z_isinstance ?z_len ?z_list ?z_range ?z_tuple ?z_zip ?y_MOST_AT ?y_MOST_PLUGS ?y_MOST_SIDE ?y_MOST_SOCKETS
    (case aC_Strip => k_is)
    (case aE_BadPlan => k_is)
    (case aE_BadPlug => k_is)
    (case aE_BadPlugs => k_is)
    (case aE_BadSockets => k_is)
    (case aE_NotRight => k_is)
    (case aE_StripError => k_is)
    (case a0 => k_is)
    (case i0 => k_is)
    (case l0 => k_is)
    (case c0 => k_is)
    (case k0 => k_is)
    (case a1 => k_is)
    (case l1 => k_is)
    (case c1 => k_is)
    (case k1 => k_is)
    (case a2 => k_is)
    (case l2 => k_is)
    (case c2 => k_is)
    (case k2 => k_is)
    (case a3 => k_is)
    (case l3 => k_is)
    (case c3 => k_is)
    (case k3 => k_is)
    (case a4 => k_is)
    (case l4 => k_is)
    (case c4 => k_is)
    (case k4 => k_is)
    (case a5 => k_is)
    (case l5 => k_is)
    (case c5 => k_is)
    (case k5 => k_is)
    (case a6 => k_is)
    (case l6 => k_is)
    (case c6 => k_is)
    (case k6 => k_is)
    (case a7 => k_is)
    (case i7 => k_is)
    (case l7 => k_is)
    (case c7 => k_is)
    (case k7 => k_is)
    (case a8 => k_is)
    (case l8 => k_is)
    (case c8 => k_is)
    (case k8 => k_is)
    (case a9 => k_is)
    (case l9 => k_is)
    (case c9 => k_is)
    (case k9 => k_is)
    (case a10 => k_is)
    (case l10 => k_is)
    (case c10 => k_is)
    (case k10 => k_is)
    (case a11 => k_is)
    (case l11 => k_is)
    (case c11 => k_is)
    (case k11 => k_is)
    (case a12 => k_is)
    (case l12 => k_is)
    (case c12 => k_is)
    (case k12 => k_is)
    (case a13 => k_is)
    (case l13 => k_is)
    (case c13 => k_is)
    (case k13 => k_is)
    (case a14 => k_is)
    (case l14 => k_is)
    (case c14 => k_is)
    (case k14 => k_is)
    (case a15 => k_is)
    (case l15 => k_is)
    (case c15 => k_is)
    (case k15 => k_is)
    (case a16 => k_is)
    (case l16 => k_is)
    (case c16 => k_is)
    (case k16 => k_is)
    (case a17 => k_is)
    (case l17 => k_is)
    (case c17 => k_is)
    (case k17 => k_is)
    (case a18 => k_is)
    (case l18 => k_is)
    (case c18 => k_is)
    (case k18 => k_is)
    (case a19 => k_is)
    (case l19 => k_is)
    (case c19 => k_is)
    (case k19 => k_is)
    (case a20 => k_is)
    (case l20 => k_is)
    (case c20 => k_is)
    (case k20 => k_is)
    (case a21 => k_is)
    (case l21 => k_is)
    (case c21 => k_is)
    (case k21 => k_is)
    (case a22 => k_is)
    (case l22 => k_is)
    (case c22 => k_is)
    (case k22 => k_is)
    (case a23 => k_is)
    (case l23 => k_is)
    (case c23 => k_is)
    (case k23 => k_is)
    (case a24 => k_is)
    (case l24 => k_is)
    (case c24 => k_is)
    (case k24 => k_is)
    (case a25 => k_is)
    (case l25 => k_is)
    (case c25 => k_is)
    (case k25 => k_is)
    (case a26 => k_is)
    (case l26 => k_is)
    (case c26 => k_is)
    (case k26 => k_is)
    (case a27 => k_is)
    (case l27 => k_is)
    (case c27 => k_is)
    (case k27 => k_is)
    (case a28 => k_is)
    (case l28 => k_is)
    (case c28 => k_is)
    (case k28 => k_is)
    (case a29 => k_is)
    (case l29 => k_is)
    (case c29 => k_is)
    (case k29 => k_is)
    (case a30 => k_is)
    (case l30 => k_is)
    (case c30 => k_is)
    (case k30 => k_is)
    (case a31 => k_is)
    (case l31 => k_is)
    (case c31 => k_is)
    (case k31 => k_is)
    (case a32 => k_is)
    (case l32 => k_is)
    (case c32 => k_is)
    (case k32 => k_is)
    (case a33 => k_is)
    (case l33 => k_is)
    (case c33 => k_is)
    (case k33 => k_is)
    (case a34 => k_is)
    (case l34 => k_is)
    (case c34 => k_is)
    (case k34 => k_is)
    (case a35 => k_is)
    (case l35 => k_is)
    (case c35 => k_is)
    (case k35 => k_is)
    (case a36 => k_is)
    (case l36 => k_is)
    (case c36 => k_is)
    (case k36 => k_is)
    (case a37 => k_is)
    (case l37 => k_is)
    (case c37 => k_is)
    (case k37 => k_is)
    (case a38 => k_is)
    (case l38 => k_is)
    (case c38 => k_is)
    (case k38 => k_is)
    (case pg_Strip => k_is)
    (case hd_Strip => k_is)
    (case po_Strip => k_is)
    (case sa_Strip => k_is)
    (case mk_Strip => k_is)
    (case kc_Strip => k_is)
    (case ex_BadPlan => k_exc)
    (case ex_BadPlug => k_exc)
    (case ex_BadSockets => k_exc)
    (case ex_NotRight => k_exc)
    (case kp_BadPlan => k_is)
    (case sb_BadPlan => k_is)
    (case ty_BadPlan => k_is)
    (case kp_BadPlug => k_is)
    (case sb_BadPlug => k_is)
    (case ty_BadPlug => k_is)
    (case kp_BadPlugs => k_is)
    (case sb_BadPlugs => k_is)
    (case ty_BadPlugs => k_is)
    (case kp_BadSockets => k_is)
    (case sb_BadSockets => k_is)
    (case ty_BadSockets => k_is)
    (case kp_NotRight => k_is)
    (case sb_NotRight => k_is)
    (case ty_NotRight => k_is)
    (case ox_BadPlugs => (first | exact Eq.refl true | decide +kernel))
    (case osa_BadPlugs => k_is)
    (case en_BadPlugs_index => k_is)
    (case xsp => k_is)
    (case xtk => k_is)
    (case xg_BadPlan => k_is)
    (case xk_BadPlan => k_is)
    (case xs_BadPlan => k_is)
    (case xd_BadPlan => k_is)
    (case xa_BadPlan => k_is)
    (case xm_BadPlan => k_is)
    (case xt_BadPlan => k_is)
    (case xx_BadPlan => k_is)
    (case xg_BadPlug => k_is)
    (case xk_BadPlug => k_is)
    (case xs_BadPlug => k_is)
    (case xd_BadPlug => k_is)
    (case xa_BadPlug => k_is)
    (case xm_BadPlug => k_is)
    (case xt_BadPlug => k_is)
    (case xx_BadPlug => k_is)
    (case xg_BadPlugs => k_is)
    (case xk_BadPlugs => k_is)
    (case xs_BadPlugs => k_is)
    (case xd_BadPlugs => k_is)
    (case xa_BadPlugs => k_is)
    (case xm_BadPlugs => k_is)
    (case xt_BadPlugs => k_is)
    (case xx_BadPlugs => k_is)
    (case xg_BadSockets => k_is)
    (case xk_BadSockets => k_is)
    (case xs_BadSockets => k_is)
    (case xd_BadSockets => k_is)
    (case xa_BadSockets => k_is)
    (case xm_BadSockets => k_is)
    (case xt_BadSockets => k_is)
    (case xx_BadSockets => k_is)
    (case xg_NotRight => k_is)
    (case xk_NotRight => k_is)
    (case xs_NotRight => k_is)
    (case xd_NotRight => k_is)
    (case xa_NotRight => k_is)
    (case xm_NotRight => k_is)
    (case xt_NotRight => k_is)
    (case xx_NotRight => k_is)
    (case xg_StripError => k_is)
    (case xk_StripError => k_is)
    (case xs_StripError => k_is)
    (case xd_StripError => k_is)
    (case xa_StripError => k_is)
    (case xm_StripError => k_is)
    (case xt_StripError => k_is)
    (case xx_StripError => k_is)
    (case su_BadPlan_BadPlan => k_is)
    (case su_BadPlan_BadPlug => k_is)
    (case su_BadPlan_BadPlugs => k_is)
    (case su_BadPlan_NotRight => k_is)
    (case su_BadPlan_StripError => k_is)
    (case su_BadPlug_BadPlan => k_is)
    (case su_BadPlug_BadPlug => k_is)
    (case su_BadPlug_BadPlugs => k_is)
    (case su_BadPlug_NotRight => k_is)
    (case su_BadPlug_StripError => k_is)
    (case su_BadPlugs_BadPlan => k_is)
    (case su_BadPlugs_BadPlug => k_is)
    (case su_BadPlugs_BadPlugs => k_is)
    (case su_BadPlugs_NotRight => k_is)
    (case su_BadPlugs_StripError => k_is)
    (case su_BadSockets_BadPlan => k_is)
    (case su_BadSockets_BadPlug => k_is)
    (case su_BadSockets_BadPlugs => k_is)
    (case su_BadSockets_NotRight => k_is)
    (case su_BadSockets_StripError => k_is)
    (case su_NotRight_BadPlan => k_is)
    (case su_NotRight_BadPlug => k_is)
    (case su_NotRight_BadPlugs => k_is)
    (case su_NotRight_NotRight => k_is)
    (case su_NotRight_StripError => k_is)
    (case xf_BadPlugs_index => k_is)
    (case no_Strip_rows => k_is)
    (case z_all => k_is)
    (case z_bool => k_is)
    (case z_enumerate => k_is)
    (case z_int => k_is)
    (case z_isinstance => k_is)
    (case z_len => k_is)
    (case z_list => k_is)
    (case z_range => k_is)
    (case z_tuple => k_is)
    (case z_zip => k_is)
    (case y_MOST_AT => k_is)
    (case y_MOST_PLUGS => k_is)
    (case y_MOST_SIDE => k_is)
    (case y_MOST_SOCKETS => k_is)
