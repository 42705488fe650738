import PyProof.Rows.All
import Wide.All
import OpenK.AllK
import Wide.FinOn
import HandS.ForMost
import HandS.ForExc
import HandS.Exc
import HandS.TupAny
import HandS.IsInst
import HandS.CallSlots
import KE.KDictKeyed
import KE.KDictWalk
import HandS.Deep
import HandS.Zip
import KE.GoesMore
import KE.GoesEnum
import HandS.NoneIn
import HandS.Property
import HandS.TupMul
import HandS.TryMany
import HandS.ExcIs
import HandS.ExcField
import HandS.ExcInit
import HandS.Small
import KE.KExcIs
import HandS.Style
import HandS.Dict
import HandS.Iter
import KE.KDictOf
import KE.KDictDisplayH
import KE.KDictCopyH
import PyProof.DictUpdate
import HandS.More
import HandS.WordsDict
import HandS.Star
import KE.SortData
import KE.DataMinMax
import HandS.Conv
import KE.DataEq
import HandS.OwnEq
import PyProof.ListMulAny
import PyProof.Rows.ListMulArg
import PyProof.InstEq
import PyProof.EqKinds
import HandS.DictComp
import KE.LtData
import KE.DataMinKey
import HandS.SortKw
import HandS.SetFor
import HandS.SortInts
import PyProof.SumWalkG
import HandS.ExcCtx
import HandS.SuiteRaise
import HandS.ExcInitHot
import HandS.HotCalls
import HandS.RaiseFrom
import HandS.ExcValue
import HandS.Text
import PyProof.StrOps2
import PySem.Challenge.RW_plugstrip_k17_texts_refused
set_option Elab.async false
set_option linter.all false
set_option maxRecDepth 100000
set_option maxHeartbeats 4000000
namespace Dl
open PySem L2
inductive D where
  | non | bl (b : Bool) | int (i : Int) | str (x : Str)
  | tup (ds : List D) | lst (ds : List D)
  | obj (c : Str) (fs : List (Str × D))
  | dcK (kvs : List (Key × D)) | dcN (kvs : List (D × D))
def nk : D → NestedKey
  | .int i => .num i
  | .bl b => .num (if b = true then 1 else 0)
  | .str x => .text x
  | .tup ds => .tup (nks ds)
  | _ => .none
where nks : List D → List NestedKey
  | [] => []
  | d :: ds => nk d :: nks ds
def keyOk : Nat → D → Bool
  | _, .int _ => true
  | _, .bl _ => true
  | n + 1, .tup ds => keyOks n ds
  | _, _ => false
where keyOks : Nat → List D → Bool
  | _, [] => true
  | n, d :: ds => keyOk n d && keyOks n ds
structure Exn where
  cls : Str
  fs : List (Str × D)
inductive OD where
  | lst (ds : List D)
  | ins (c : Str) (fs : List (Str × D))
  | dcK (kvs : List (Key × D))
  | dcN (kvs : List (D × D))
inductive SV where
  | val (d : D) | own (k : Nat) | exc (x : Exn)
abbrev Om := List (Option OD)
abbrev Rho := List (Option SV)
inductive Res (β : Type) where
  | stuck | ok (a : β) (ω : Om) | exc (x : Exn) (ω : Om)
def Res.bind {β γ : Type} (r : Res β) (g : β → Om → Res γ) : Res γ := match r with
  | .stuck => .stuck
  | .ok a ω => g a ω
  | .exc x ω => .exc x ω
def Res.lift {β : Type} (o : Option β) (ω : Om) : Res β := match o with
  | some b => .ok b ω
  | none => .stuck
abbrev MG := Str → Option Value
mutual
def hashN : NestedKey → Int
  | .num i => hashInt i
  | .tup ks => reduceHash (Builtin.Tuple.tupleHashOf (hashNs ks))
  | _ => 0
def hashNs : List NestedKey → List Int
  | [] => []
  | k :: ks => hashN k :: hashNs ks
end
def dnAt (a : Addr) (ep : Nat) (es : List (NestedKey × Addr × V)) (h : Heap) : Prop := (a == sysModules) = false ∧ es.length ≤ sizeLine ∧ (es.map (·.1)).Nodup ∧ ∃ xs : List (NestedKey × Addr × Value), Paired (fun e x => e.1 = x.1 ∧ e.2.1 = x.2.1 ∧ RelV e.2.2 x.2.2) es xs ∧
  ∃ o ens, h.get? a = some o ∧ o.ExactDict ∧ o.data = .dict ens ep ∧ ens.toList = xs.map fun x => ⟨hashN x.1, .ref x.2.1, x.2.2⟩
def dnO (a : Addr) (ep : Nat) (es : List (NestedKey × Addr × V)) : HO := .ext (dnAt a ep es)
mutual
def Rep (K : PySem.W.Frag) (mg : MG) (G : Hp) : D → V → Prop
  | .non, v => v = .non
  | .bl b, v => v = .bl b
  | .int i, v => v = .int i
  | .str x, v => v = .str x
  | .tup ds, v => ∃ a vs, v = .ref a ∧ SqT K G a vs ∧ Reps K mg G ds vs
  | .lst ds, v => ∃ a vs, v = .ref a ∧ SqL K G a vs ∧ Reps K mg G ds vs
  | .obj c fs, v => ∃ a C dx fvs, v = .ref a ∧ mg c = some (.ref C) ∧ G a = some (.ins C dx fvs) ∧ RepF K mg G fs fvs
  | .dcK kvs, v => ∃ a kv, v = .ref a ∧ G a = some (.dK kv) ∧ RepK K mg G kvs kv
  | .dcN kvs, v => ∃ a ep es, v = .ref a ∧ G a = some (dnO a ep es) ∧ RepN K mg G kvs es
def RepK (K : PySem.W.Frag) (mg : MG) (G : Hp) : List (Key × D) → List (Key × V) → Prop
  | [], vs => vs = []
  | (k, d) :: ds, vs => ∃ v r, vs = (k, v) :: r ∧ Rep K mg G d v ∧ RepK K mg G ds r
def RepN (K : PySem.W.Frag) (mg : MG) (G : Hp) : List (D × D) → List (NestedKey × Addr × V) → Prop
  | [], vs => vs = []
  | (k, d) :: ds, vs => ∃ b v r, vs = (nk k, b, v) :: r ∧ keyOk 8 k = true ∧ Rep K mg G k (.ref b) ∧ Rep K mg G d v ∧ RepN K mg G ds r
def Reps (K : PySem.W.Frag) (mg : MG) (G : Hp) : List D → List V → Prop
  | [], vs => vs = []
  | d :: ds, vs => ∃ v r, vs = v :: r ∧ Rep K mg G d v ∧ Reps K mg G ds r
def RepF (K : PySem.W.Frag) (mg : MG) (G : Hp) : List (Str × D) → List (Str × V) → Prop
  | [], vs => vs = []
  | (f, d) :: ds, vs => ∃ v r, vs = (f, v) :: r ∧ Rep K mg G d v ∧ RepF K mg G ds r
end
section
variable {K : PySem.W.Frag} {mg : MG} {G G' H H' : Hp}
theorem Same.sqT {a : Addr} {xs : List V} (e : Same H H') (h : SqT K H a xs) : SqT K H' a xs := by
  rcases h with (h | ⟨o, h⟩) | h
  · exact .inl (.inl (e _ _ h))
  · exact .inl (.inr ⟨o, e _ _ h⟩)
  · exact .inr h
mutual
theorem Rep.mono (s : Same G G') : ∀ (d : D) (v : V), Rep K mg G d v → Rep K mg G' d v
  | .non, _, h => by unfold Rep at *; exact h
  | .bl _, _, h => by unfold Rep at *; exact h
  | .int _, _, h => by unfold Rep at *; exact h
  | .str _, _, h => by unfold Rep at *; exact h
  | .tup ds, _, h => by
    unfold Rep at *
    obtain ⟨a, vs, e, q, r⟩ := h
    exact ⟨a, vs, e, Same.sqT s q, Reps.mono s ds vs r⟩
  | .lst ds, _, h => by
    unfold Rep at *
    obtain ⟨a, vs, e, q, r⟩ := h
    exact ⟨a, vs, e, s.seq q, Reps.mono s ds vs r⟩
  | .obj c fs, _, h => by
    unfold Rep at *
    obtain ⟨a, C, dx, fvs, e, m, q, r⟩ := h
    exact ⟨a, C, dx, fvs, e, m, s _ _ q, RepF.mono s fs fvs r⟩
  | .dcK kvs, _, h => by
    unfold Rep at *
    obtain ⟨a, kv, e, q, r⟩ := h
    exact ⟨a, kv, e, s _ _ q, RepK.mono s kvs kv r⟩
  | .dcN kvs, _, h => by
    unfold Rep at *
    obtain ⟨a, ep, es, e, q, r⟩ := h
    exact ⟨a, ep, es, e, s _ _ q, RepN.mono s kvs es r⟩
theorem RepK.mono (s : Same G G') : ∀ (ds : List (Key × D)) (vs : List (Key × V)), RepK K mg G ds vs → RepK K mg G' ds vs
  | [], _, h => by unfold RepK at *; exact h
  | (k, d) :: ds, _, h => by
    unfold RepK at *
    obtain ⟨v, r, e, h1, h2⟩ := h
    exact ⟨v, r, e, Rep.mono s d v h1, RepK.mono s ds r h2⟩
theorem RepN.mono (s : Same G G') : ∀ (ds : List (D × D)) (vs : List (NestedKey × Addr × V)), RepN K mg G ds vs → RepN K mg G' ds vs
  | [], _, h => by unfold RepN at *; exact h
  | (k, d) :: ds, _, h => by
    unfold RepN at *
    obtain ⟨b, v, r, e, ok, h1, h2, h3⟩ := h
    exact ⟨b, v, r, e, ok, Rep.mono s k _ h1, Rep.mono s d v h2, RepN.mono s ds r h3⟩
theorem Reps.mono (s : Same G G') : ∀ (ds : List D) (vs : List V), Reps K mg G ds vs → Reps K mg G' ds vs
  | [], _, h => by unfold Reps at *; exact h
  | d :: ds, _, h => by
    unfold Reps at *
    obtain ⟨v, r, e, h1, h2⟩ := h
    exact ⟨v, r, e, Rep.mono s d v h1, Reps.mono s ds r h2⟩
theorem RepF.mono (s : Same G G') : ∀ (ds : List (Str × D)) (vs : List (Str × V)), RepF K mg G ds vs → RepF K mg G' ds vs
  | [], _, h => by unfold RepF at *; exact h
  | (f, d) :: ds, _, h => by
    unfold RepF at *
    obtain ⟨v, r, e, h1, h2⟩ := h
    exact ⟨v, r, e, Rep.mono s d v h1, RepF.mono s ds r h2⟩
end
theorem rep_non {v : V} : Rep K mg G .non v ↔ v = .non := by unfold Rep; exact Iff.rfl
theorem rep_bl {v : V} {b : Bool} : Rep K mg G (.bl b) v ↔ v = .bl b := by unfold Rep; exact Iff.rfl
theorem rep_int {v : V} {b : Int} : Rep K mg G (.int b) v ↔ v = .int b := by unfold Rep; exact Iff.rfl
theorem rep_str {v : V} {b : Str} : Rep K mg G (.str b) v ↔ v = .str b := by unfold Rep; exact Iff.rfl
theorem rep_tup {v : V} {ds : List D} : Rep K mg G (.tup ds) v ↔ ∃ a vs, v = .ref a ∧ SqT K G a vs ∧ Reps K mg G ds vs := by rw [Rep]
theorem rep_lst {v : V} {ds : List D} : Rep K mg G (.lst ds) v ↔ ∃ a vs, v = .ref a ∧ SqL K G a vs ∧ Reps K mg G ds vs := by rw [Rep]
theorem rep_obj {v : V} {c : Str} {fs : List (Str × D)} : Rep K mg G (.obj c fs) v ↔ ∃ a C dx fvs, v = .ref a ∧ mg c = some (.ref C) ∧ G a = some (.ins C dx fvs) ∧ RepF K mg G fs fvs := by rw [Rep]
theorem rep_dcK {v : V} {kvs : List (Key × D)} : Rep K mg G (.dcK kvs) v ↔ ∃ a kv, v = .ref a ∧ G a = some (.dK kv) ∧ RepK K mg G kvs kv := by rw [Rep]
theorem rep_dcN {v : V} {kvs : List (D × D)} : Rep K mg G (.dcN kvs) v ↔ ∃ a ep es, v = .ref a ∧ G a = some (dnO a ep es) ∧ RepN K mg G kvs es := by rw [Rep]
theorem reps_nil {vs : List V} : Reps K mg G [] vs ↔ vs = [] := by rw [Reps]
theorem reps_cons {vs : List V} {d : D} {ds : List D} : Reps K mg G (d :: ds) vs ↔ ∃ v r, vs = v :: r ∧ Rep K mg G d v ∧ Reps K mg G ds r := by rw [Reps]
theorem repF_nil {vs : List (Str × V)} : RepF K mg G [] vs ↔ vs = [] := by rw [RepF]
theorem repF_cons {vs : List (Str × V)} {f : Str} {d : D} {ds : List (Str × D)} : RepF K mg G ((f, d) :: ds) vs ↔ ∃ v r, vs = (f, v) :: r ∧ Rep K mg G d v ∧ RepF K mg G ds r := by rw [RepF]
theorem Reps.length : ∀ {ds : List D} {vs : List V}, Reps K mg G ds vs → vs.length = ds.length
  | [], vs, h => by rw [reps_nil] at h; rw [h]; rfl
  | d :: ds, vs, h => by
    rw [reps_cons] at h
    obtain ⟨v, r, e, _, h2⟩ := h
    rw [e, List.length_cons, List.length_cons, Reps.length h2]
theorem Reps.get : ∀ {ds : List D} {vs : List V} {i : Nat} {d : D}, Reps K mg G ds vs → ds[i]? = some d → ∃ v, vs[i]? = some v ∧ Rep K mg G d v
  | [], _, i, d, _, e => by simp at e
  | d :: ds, vs, 0, d', h, e => by
    rw [reps_cons] at h
    obtain ⟨v, r, rfl, h1, _⟩ := h
    simp at e; subst e
    exact ⟨v, rfl, h1⟩
  | d :: ds, vs, i + 1, d', h, e => by
    rw [reps_cons] at h
    obtain ⟨v, r, rfl, _, h2⟩ := h
    obtain ⟨w, h3, h4⟩ := Reps.get (i := i) (d := d') h2 (by simpa using e)
    exact ⟨w, by simpa using h3, h4⟩
theorem Reps.append : ∀ {ds es : List D} {vs us : List V}, Reps K mg G ds vs → Reps K mg G es us → Reps K mg G (ds ++ es) (vs ++ us)
  | [], _, _, _, h, q => by rw [reps_nil] at h; subst h; exact q
  | d :: ds, es, vs, us, h, q => by
    rw [reps_cons] at h
    obtain ⟨v, r, rfl, h1, h2⟩ := h
    rw [List.cons_append, reps_cons]
    exact ⟨v, r ++ us, rfl, h1, Reps.append h2 q⟩
theorem Reps.take : ∀ {ds : List D} {vs : List V} (n : Nat), Reps K mg G ds vs → Reps K mg G (ds.take n) (vs.take n)
  | _, _, 0, _ => by rw [List.take_zero, List.take_zero, reps_nil]
  | [], vs, n + 1, h => by rw [reps_nil] at h; subst h; rw [List.take_nil, List.take_nil, reps_nil]
  | d :: ds, vs, n + 1, h => by
    rw [reps_cons] at h
    obtain ⟨v, r, rfl, h1, h2⟩ := h
    rw [List.take_succ_cons, List.take_succ_cons, reps_cons]
    exact ⟨v, _, rfl, h1, Reps.take n h2⟩
theorem Reps.drop : ∀ {ds : List D} {vs : List V} (n : Nat), Reps K mg G ds vs → Reps K mg G (ds.drop n) (vs.drop n)
  | _, _, 0, h => by rw [List.drop_zero, List.drop_zero]; exact h
  | [], vs, n + 1, h => by rw [reps_nil] at h; subst h; rw [List.drop_nil, List.drop_nil, reps_nil]
  | d :: ds, vs, n + 1, h => by
    rw [reps_cons] at h
    obtain ⟨v, r, rfl, h1, h2⟩ := h
    rw [List.drop_succ_cons, List.drop_succ_cons]
    exact Reps.drop n h2
theorem Reps.set {d : D} {v : V} (h : Rep K mg G d v) : ∀ {ds : List D} {vs : List V} (i : Nat), Reps K mg G ds vs → Reps K mg G (ds.set i d) (vs.set i v)
  | [], vs, i, q => by rw [reps_nil] at q; subst q; rw [List.set_nil, List.set_nil, reps_nil]
  | e :: ds, vs, 0, q => by
    rw [reps_cons] at q
    obtain ⟨w, r, rfl, h1, h2⟩ := q
    rw [List.set_cons_zero, List.set_cons_zero, reps_cons]
    exact ⟨v, r, rfl, h, h2⟩
  | e :: ds, vs, i + 1, q => by
    rw [reps_cons] at q
    obtain ⟨w, r, rfl, h1, h2⟩ := q
    rw [List.set_cons_succ, List.set_cons_succ, reps_cons]
    exact ⟨w, _, rfl, h1, Reps.set h i h2⟩
theorem Reps.one {d : D} {v : V} (h : Rep K mg G d v) : Reps K mg G [d] [v] := by
  rw [reps_cons]; exact ⟨v, [], rfl, h, by rw [reps_nil]⟩
theorem reps_ints : ∀ (ns : List Int), Reps K mg G (ns.map D.int) (ns.map V.int)
  | [] => by rw [List.map_nil, reps_nil]; rfl
  | n :: ns => by
    rw [List.map_cons, reps_cons]
    exact ⟨_, _, rfl, rep_int.mpr rfl, reps_ints ns⟩
theorem RepF.look : ∀ {fs : List (Str × D)} {vs : List (Str × V)} {f : Str} {d : D}, RepF K mg G fs vs → fs.lookup f = some d → ∃ v, vs.lookup f = some v ∧ Rep K mg G d v
  | [], _, f, d, _, e => by simp at e
  | (g, x) :: fs, vs, f, d, h, e => by
    rw [repF_cons] at h
    obtain ⟨v, r, rfl, h1, h2⟩ := h
    rw [List.lookup_cons] at e ⊢
    cases q : (f == g) with
    | true => rw [q] at e; cases e; exact ⟨v, rfl, h1⟩
    | false => rw [q] at e; exact RepF.look h2 e
theorem RepF.no : ∀ {fs : List (Str × D)} {vs : List (Str × V)} {f : Str}, RepF K mg G fs vs → fs.lookup f = none → vs.lookup f = none
  | [], _, f, h, e => by rw [repF_nil] at h; subst h; rfl
  | (g, x) :: fs, vs, f, h, e => by
    rw [repF_cons] at h
    obtain ⟨v, r, rfl, h1, h2⟩ := h
    rw [List.lookup_cons] at e ⊢
    cases q : (f == g) with
    | true => rw [q] at e; cases e
    | false => rw [q] at e; exact RepF.no h2 e
theorem RepF.length : ∀ {fs : List (Str × D)} {vs : List (Str × V)}, RepF K mg G fs vs → vs.length = fs.length
  | [], _, h => by rw [repF_nil] at h; rw [h]; rfl
  | (g, x) :: fs, vs, h => by
    rw [repF_cons] at h
    obtain ⟨v, r, rfl, h1, h2⟩ := h
    rw [List.length_cons, List.length_cons, RepF.length h2]
def putD (f : Str) (d : D) : List (Str × D) → List (Str × D)
  | [] => [(f, d)]
  | (g, x) :: r => if g = f then (f, d) :: r else (g, x) :: putD f d r
end
def exV (cls : Value) (d : Option Addr) (a : Addr) : HO := .ext fun h => ∃ (oe : Obj) (vs : Array Value), h.get? a = some oe ∧ Zc cls d oe ∧ oe.data = .fields vs
section
variable (K : PySem.W.Frag) (mg : MG)
def OwnAt (G H : Hp) (a : Addr) : OD → Prop
  | .lst ds => ∃ vs, H a = some (.lst vs) ∧ Reps K mg G ds vs
  | .ins c fs => ∃ C dx fvs, mg c = some (.ref C) ∧ H a = some (.ins C dx fvs) ∧ RepF K mg G fs fvs
  | .dcK kvs => ∃ kv, H a = some (.dK kv) ∧ RepK K mg G kvs kv
  | .dcN kvs => ∃ ep es, H a = some (dnO a ep es) ∧ RepN K mg G kvs es
structure Own (G : Hp) (α : List Addr) (ω : Om) (H : Hp) : Prop where
  sub : Same G H
  len : α.length = ω.length
  nd : α.Nodup
  ex : ∀ a ∈ α, ∃ o, H a = some o
  obj : ∀ (k : Nat) o a, ω[k]? = some (some o) → α[k]? = some a → G a = none ∧ OwnAt K mg G H a o
def RepX (G : Hp) (x : Exn) (c : Value) (dd : Option Addr) : Prop :=
  ∃ C, mg x.cls = some (.ref C) ∧ c = .ref C ∧ ((x.fs = [] ∧ dd = none) ∨ ∃ d fvs, dd = some d ∧ G d = some (.xd fvs) ∧ RepF K mg G x.fs fvs)
def RepV (G : Hp) (α : List Addr) : SV → V → Prop
  | .val d, v => Rep K mg G d v
  | .own k, v => ∃ a, α[k]? = some a ∧ v = .ref a
  | .exc x, v => ∃ a cls d, v = .ref a ∧ G a = some (exV cls d a) ∧ RepX K mg G x cls d
def RepVs (G : Hp) (α : List Addr) : List SV → List V → Prop := Paired (RepV K mg G α)
structure Slots (G : Hp) (α : List Addr) (ρ : Rho) (σ : St) : Prop where
  len : σ.length = ρ.length
  val : ∀ (i : Nat) x, ρ[i]? = some (some x) → ∃ v, σ[i]? = some (some v) ∧ RepV K mg G α x v
end
structure Ext (G : Hp) (α : List Addr) (H G' : Hp) (α' : List Addr) (H' : Hp) : Prop where
  g : Same G G'
  new : ∀ a o, G' a = some o → G a = some o ∨ H a = none ∨ a ∈ α
  keep : ∀ a o, H a = some o → a ∉ α → H' a = some o
  live : ∀ a o, H a = some o → ∃ o', H' a = some o'
  pre : ∃ more, α' = α ++ more ∧ ∀ a ∈ more, H a = none
structure Grow (G H G' H' : Hp) : Prop where
  g : Same G G'
  h : Same H H'
  s : Same G' H'
  new : ∀ a o, G' a = some o → G a = some o ∨ H a = none
section
variable {K : PySem.W.Frag} {mg : MG} {G G1 G2 H H1 H2 : Hp} {α α1 α2 : List Addr} {ω : Om}
theorem Ext.refl : Ext G α H G α H := ⟨Same.refl _, fun _ _ h => .inl h, fun _ _ h _ => h, fun _ o h => ⟨o, h⟩, [], by simp, by simp⟩
theorem Ext.trans (a : Ext G α H G1 α1 H1) (b : Ext G1 α1 H1 G2 α2 H2) : Ext G α H G2 α2 H2 := by
  obtain ⟨m1, e1, n1⟩ := a.pre
  obtain ⟨m2, e2, n2⟩ := b.pre
  have dead : ∀ x, H1 x = none → H x = none := fun x hx => by
    cases q : H x with
    | none => rfl
    | some o => obtain ⟨o', q'⟩ := a.live x o q; rw [hx] at q'; cases q'
  refine ⟨a.g.trans b.g, fun x o h => ?_, fun x o h n => ?_, fun x o h => ?_, m1 ++ m2, by rw [e2, e1, List.append_assoc], fun x hx => ?_⟩
  · rcases b.new x o h with h | h | h
    · exact a.new x o h
    · exact .inr (.inl (dead x h))
    · rw [e1] at h
      rcases List.mem_append.mp h with h | h
      · exact .inr (.inr h)
      · exact .inr (.inl (n1 x h))
  · refine b.keep x o (a.keep x o h n) fun z => ?_
    rw [e1] at z
    rcases List.mem_append.mp z with z | z
    · exact n z
    · rw [n1 x z] at h; cases h
  · obtain ⟨o', h'⟩ := a.live x o h
    exact b.live x o' h'
  · rcases List.mem_append.mp hx with z | z
    · exact n1 x z
    · exact dead x (n2 x z)
theorem Grow.refl (s : Same G H) : Grow G H G H := ⟨Same.refl _, Same.refl _, s, fun _ _ h => .inl h⟩
theorem Grow.trans (a : Grow G H G1 H1) (b : Grow G1 H1 G2 H2) : Grow G H G2 H2 :=
  ⟨a.g.trans b.g, a.h.trans b.h, b.s, fun x o h => (b.new x o h).elim (a.new x o) fun z => .inr (a.h.free z)⟩
theorem Same.upd {p : Addr} {o : HO} (h : H p = none) : Same H (L2.upd H p o) := fun b u e => by rw [upd_ne (ne_of_none e h)]; exact e
theorem Grow.put {p : Addr} {o : HO} (s : Same G H) (h : H p = none) : Grow G H (L2.upd G p o) (L2.upd H p o) := by
  have hg := s.free h
  refine ⟨Same.upd hg, Same.upd h, fun b u e => ?_, fun a u e => ?_⟩
  · by_cases q : b = p
    · subst q; rw [upd_same] at e ⊢; exact e
    · rw [upd_ne q] at e ⊢; exact s b u e
  · by_cases q : a = p
    · subst q; exact .inr h
    · rw [upd_ne q] at e; exact .inl e
theorem Grow.side {p : Addr} {o : HO} (s : Same G H) (h : H p = none) : Grow G H G (L2.upd H p o) :=
  ⟨Same.refl _, Same.upd h, s.trans (Same.upd h), fun _ _ e => .inl e⟩
theorem OwnAt.mono {a : Addr} (sg : Same G G1) (e : H1 a = H a) : ∀ {o : OD}, OwnAt K mg G H a o → OwnAt K mg G1 H1 a o
  | .lst ds, ⟨vs, h1, h2⟩ => ⟨vs, e.trans h1, Reps.mono sg _ _ h2⟩
  | .ins c fs, ⟨C, dx, fvs, m, h1, h2⟩ => ⟨C, dx, fvs, m, e.trans h1, RepF.mono sg _ _ h2⟩
  | .dcK kvs, ⟨kv, h1, h2⟩ => ⟨kv, e.trans h1, RepK.mono sg _ _ h2⟩
  | .dcN kvs, ⟨ep, es, h1, h2⟩ => ⟨ep, es, e.trans h1, RepN.mono sg _ _ h2⟩
theorem OwnAt.there {a : Addr} : ∀ {o : OD}, OwnAt K mg G H a o → ∃ u, H a = some u
  | .lst ds, ⟨vs, h1, h2⟩ => ⟨_, h1⟩
  | .ins c fs, ⟨C, dx, fvs, m, h1, h2⟩ => ⟨_, h1⟩
  | .dcK kvs, ⟨kv, h1, h2⟩ => ⟨_, h1⟩
  | .dcN kvs, ⟨ep, es, h1, h2⟩ => ⟨_, h1⟩
theorem Own.grow (O : Own K mg G α ω H) (g : Grow G H G1 H1) : Own K mg G1 α ω H1 := by
  refine ⟨g.s, O.len, O.nd, fun a ha => let ⟨o, h⟩ := O.ex a ha; ⟨o, g.h a o h⟩, fun k o a h1 h2 => ?_⟩
  obtain ⟨n, q⟩ := O.obj k o a h1 h2
  obtain ⟨u, hu⟩ := q.there
  refine ⟨?_, q.mono g.g ((g.h a u hu).trans hu.symm)⟩
  cases z : G1 a with
  | none => rfl
  | some w =>
    rcases g.new a w z with y | y
    · rw [n] at y; cases y
    · rw [hu] at y; cases y
theorem Grow.ext (g : Grow G H G1 H1) : Ext G α H G1 α H1 :=
  ⟨g.g, fun a o h => (g.new a o h).elim .inl fun z => .inr (.inl z), fun a o h _ => g.h a o h, fun a o h => ⟨o, g.h a o h⟩, [], by simp, by simp⟩
theorem RepX.mono {K : PySem.W.Frag} {mg : MG} {G G1 : Hp} {x : Exn} {cls : Value} {d : Option Addr} (s : Same G G1) (r : RepX K mg G x cls d) : RepX K mg G1 x cls d := by
  obtain ⟨C, h1, h2, h3 | ⟨dd, fvs, h3, h4, h5⟩⟩ := r
  · exact ⟨C, h1, h2, .inl h3⟩
  · exact ⟨C, h1, h2, .inr ⟨dd, fvs, h3, s _ _ h4, RepF.mono s _ _ h5⟩⟩
theorem RepV.mono (s : Same G G1) (p : ∃ more, α1 = α ++ more) : ∀ {x : SV} {v : V}, RepV K mg G α x v → RepV K mg G1 α1 x v
  | .val d, v, h => Rep.mono s d v h
  | .own k, v, ⟨a, h1, h2⟩ => by
    obtain ⟨m, rfl⟩ := p
    refine ⟨a, ?_, h2⟩
    rw [List.getElem?_append_left (List.getElem?_eq_some_iff.mp h1).1]
    exact h1
  | .exc x, v, ⟨a, cls, d, h1, h2, h3⟩ => ⟨a, cls, d, h1, s _ _ h2, RepX.mono s h3⟩
theorem Ext.pre' (e : Ext G α H G1 α1 H1) : ∃ more, α1 = α ++ more := let ⟨m, h, _⟩ := e.pre; ⟨m, h⟩
theorem Slots.mono {ρ : Rho} {σ : St} (S : Slots K mg G α ρ σ) (e : Ext G α H G1 α1 H1) : Slots K mg G1 α1 ρ σ :=
  ⟨S.len, fun i x h => let ⟨v, h1, h2⟩ := S.val i x h; ⟨v, h1, h2.mono e.g e.pre'⟩⟩
theorem RepVs.mono (s : Same G G1) (p : ∃ more, α1 = α ++ more) : ∀ {xs : List SV} {vs : List V}, RepVs K mg G α xs vs → RepVs K mg G1 α1 xs vs
  | _, _, .nil => .nil
  | _, _, .cons h t => .cons (h.mono s p) (RepVs.mono s p t)
theorem Slots.set {ρ : Rho} {σ : St} {x : SV} {v : V} (S : Slots K mg G α ρ σ) (i : Nat) (h : RepV K mg G α x v) : Slots K mg G α (ρ.set i (some x)) (σ.set i (some v)) := by
  refine ⟨by simp [S.len], fun j y e => ?_⟩
  by_cases q : i = j
  · subst q
    by_cases hl : i < ρ.length
    · rw [List.getElem?_set_self hl] at e
      cases e
      exact ⟨v, List.getElem?_set_self (by rw [S.len]; exact hl), h⟩
    · rw [List.getElem?_eq_none (by simp; omega)] at e; cases e
  · rw [List.getElem?_set_ne q] at e
    obtain ⟨w, h1, h2⟩ := S.val j y e
    exact ⟨w, by rw [List.getElem?_set_ne q]; exact h1, h2⟩
end
end Dl
namespace Dl
open PySem L2
section
variable (K : PySem.W.Frag) (mg : MG)
def Post {β γ : Type} (R : Hp → List Addr → Hp → β → γ → Prop) (G : Hp) (α : List Addr) (H : Hp) (Q : γ → Hp → Prop) (E : XK) : Res β → Prop
  | .stuck => False
  | .ok b ω' => ∀ v G' α' H', Ext G α H G' α' H' → Own K mg G' α' ω' H' → R G' α' H' b v → Q v H'
  | .exc x ω' => ∀ c dd G' α' H', Ext G α H G' α' H' → Own K mg G' α' ω' H' → RepX K mg G' x c dd → E c dd H'
def RD : Hp → List Addr → Hp → D → V → Prop := fun G _ _ d v => Rep K mg G d v
def RS : Hp → List Addr → Hp → SV → V → Prop := fun G α _ x v => RepV K mg G α x v
def RL : Hp → List Addr → Hp → List D → V → Prop := fun G _ H ds v => ∃ a vs, v = .ref a ∧ SqL K H a vs ∧ Reps K mg G ds vs
def RB : Hp → List Addr → Hp → Bool → Bool → Prop := fun _ _ _ b c => b = c
def RA : Hp → List Addr → Hp → List SV → List V → Prop := fun G α _ xs vs => RepVs K mg G α xs vs
end
section
variable {K : PySem.W.Frag} {mg : MG} {β γ β2 γ2 : Type} {R : Hp → List Addr → Hp → β → γ → Prop} {R2 : Hp → List Addr → Hp → β2 → γ2 → Prop}
  {G G1 H H1 : Hp} {α α1 : List Addr} {Q Q1 : γ → Hp → Prop} {Q2 : γ2 → Hp → Prop} {E : XK} {ω : Om}
theorem Post.weak {r : Res β} (e : Ext G α H G1 α1 H1) (h : Post K mg R G α H Q E r) : Post K mg R G1 α1 H1 Q E r := by
  cases r with
  | stuck => exact h
  | ok b ω' => exact fun v G' α' H' e' O q => h v G' α' H' (e.trans e') O q
  | exc x ω' => exact fun c dd G' α' H' e' O q => h c dd G' α' H' (e.trans e') O q
theorem Post.step {t : (γ → Hp → Prop) → Prop} {r : Res β} {g : β → Om → Res β2} (J : ∀ Q, Post K mg R G α H Q E r → t Q) (h : Post K mg R2 G α H Q2 E (r.bind g))
    (k : ∀ b ω1 v G' α' H', Ext G α H G' α' H' → Own K mg G' α' ω1 H' → R G' α' H' b v → Post K mg R2 G' α' H' Q2 E (g b ω1) → Q1 v H') : t Q1 := by
  cases r with
  | stuck => exact h.elim
  | ok b ω' => exact J Q1 fun v G' α' H' e O q => k b ω' v G' α' H' e O q (h.weak e)
  | exc x ω' => exact J Q1 h
theorem Post.grow {b : β} {v : γ} (O : Own K mg G α ω H) (g : Grow G H G1 H1) (q : R G1 α H1 b v) (h : Post K mg R G α H Q E (.ok b ω)) : Q v H1 :=
  h v G1 α H1 g.ext (O.grow g) q
theorem Post.here {b : β} {v : γ} (O : Own K mg G α ω H) (q : R G α H b v) (h : Post K mg R G α H Q E (.ok b ω)) : Q v H :=
  h v G α H Ext.refl O q
theorem Post.lift {o : Option β} (h : Post K mg R G α H Q E (Res.lift o ω)) : ∃ b, o = some b ∧ Post K mg R G α H Q E (.ok b ω) := by
  cases o with
  | none => exact h.elim
  | some b => exact ⟨b, rfl, h⟩
end
abbrev FE (β : Type) := Rho → Om → Res β
def Je {β : Type} (R : PySem.W.Frag → MG → Hp → List Addr → Hp → β → V → Prop) (X : Cx) (W : WX) (e : Expr) (f : FE β) : Prop :=
  ∃ t, PE X e t ∧ ∀ G α ρ ω σ H Q, Own X.K X.mg G α ω H → Slots X.K X.mg G α ρ σ → Post X.K X.mg (R X.K X.mg) G α H Q (fun c d H' => W c d σ H') (f ρ ω) → t σ H Q
abbrev De (X : Cx) (W : WX) (e : Expr) (f : FE D) : Prop := Je RD X W e f
abbrev Dv (X : Cx) (W : WX) (e : Expr) (f : FE SV) : Prop := Je RS X W e f
abbrev Dl (X : Cx) (W : WX) (e : Expr) (f : FE (List D)) : Prop := Je RL X W e f
def Dt (X : Cx) (W : WX) (e : Expr) (f : FE Bool) : Prop :=
  ∃ t, PT X e t ∧ ∀ G α ρ ω σ H Q, Own X.K X.mg G α ω H → Slots X.K X.mg G α ρ σ → Post X.K X.mg RB G α H Q (fun c d H' => W c d σ H') (f ρ ω) → t σ H Q
def Dw (X : Cx) (W : WX) (e : Expr) (f : FE Bool) : Prop :=
  ∃ t, PW X e t ∧ ∀ G α ρ ω σ H Q, Own X.K X.mg G α ω H → Slots X.K X.mg G α ρ σ → Post X.K X.mg RB G α H Q (fun c d H' => W c d σ H') (f ρ ω) → t σ H Q
def Da (X : Cx) (W : WX) (es : List Expr) (f : FE (List SV)) : Prop :=
  ∃ t, PA X es t ∧ ∀ G α ρ ω σ H Q, Own X.K X.mg G α ω H → Slots X.K X.mg G α ρ σ → Post X.K X.mg (RA X.K X.mg) G α H Q (fun c d H' => W c d σ H') (f ρ ω) → t σ H Q
def eC (d : D) : FE D := fun _ ω => .ok d ω
def eVar (i : Nat) : FE D := fun ρ ω => match ρ[i]? with
  | some (some (.val d)) => .ok d ω
  | _ => .stuck
def eSlot (i : Nat) : FE SV := fun ρ ω => match ρ[i]? with
  | some (some x) => .ok x ω
  | _ => .stuck
def eOwnL (i : Nat) : FE (List D) := fun ρ ω => match ρ[i]? with
  | some (some (.own k)) => match ω[k]? with
    | some (some (.lst ds)) => .ok ds ω
    | _ => .stuck
  | _ => .stuck
section
variable {X : Cx} {W : WX} {a b c e : Expr} {pos : Pos}
theorem de_of {v : V} {d : D} (h : PE X e (tC v)) (r : ∀ G, Rep X.K X.mg G d v) : De X W e (eC d) :=
  ⟨_, h, fun G α ρ ω σ H Q O S P => Post.here O (r G) P⟩
theorem de_int {i : Int} {j} : De X W (.Constant (.int i) j pos) (eC (.int i)) := de_of pe_int fun _ => rep_int.mpr rfl
theorem de_bl {b : Bool} {j} : De X W (.Constant (.bool b) j pos) (eC (.bl b)) := de_of pe_bl fun _ => rep_bl.mpr rfl
theorem de_non {j} : De X W (.Constant .none j pos) (eC .non) := de_of pe_non fun _ => rep_non.mpr rfl
theorem de_str {x : Str} {j} : De X W (.Constant (.str x) j pos) (eC (.str x)) := de_of pe_str fun _ => rep_str.mpr rfl
theorem de_globI {x : Str} {i : Int} {t : Tok} (hm : X.mg x = some (.int i t)) (hg : Gl X x := by rfl) (hd : (x == ("__debug__" : Str)) = false := by decide) : De X W (.Name x pos) (eC (.int i)) :=
  de_of (pe_glob (v := .int i) hg hm ⟨t, rfl⟩ hd) fun _ => rep_int.mpr rfl
theorem de_globS {x y : Str} {t : Tok} (hm : X.mg x = some (.str y t)) (hg : Gl X x := by rfl) (hd : (x == ("__debug__" : Str)) = false := by decide) : De X W (.Name x pos) (eC (.str y)) :=
  de_of (pe_glob (v := .str y) hg hm ⟨t, rfl⟩ hd) fun _ => rep_str.mpr rfl
theorem dv_var (i : Nat) {x : Str} (hN : X.N[i]? = some x := by rfl) (hv : Vis X.env.scope x := by first | exact Or.inl rfl | exact Or.inr (Or.inl rfl) | exact Or.inr (Or.inr rfl)) (hd : (x == ("__debug__" : Str)) = false := by decide)
    (hcd : (x == ("__classdict__" : Str)) = false := by decide) : Dv X W (.Name x pos) (eSlot i) := by
  refine ⟨_, pe_var hN hv hd hcd, fun G α ρ ω σ H Q O S P => ?_⟩
  unfold eSlot at P
  split at P
  · rename_i y hy
    obtain ⟨v, h1, h2⟩ := S.val i y hy
    exact ⟨v, h1, Post.here O h2 P⟩
  · exact P.elim
theorem de_var (i : Nat) {x : Str} (hN : X.N[i]? = some x := by rfl) (hv : Vis X.env.scope x := by first | exact Or.inl rfl | exact Or.inr (Or.inl rfl) | exact Or.inr (Or.inr rfl)) (hd : (x == ("__debug__" : Str)) = false := by decide)
    (hcd : (x == ("__classdict__" : Str)) = false := by decide) : De X W (.Name x pos) (eVar i) := by
  refine ⟨_, pe_var hN hv hd hcd, fun G α ρ ω σ H Q O S P => ?_⟩
  unfold eVar at P
  split at P
  · rename_i y hy
    obtain ⟨v, h1, h2⟩ := S.val i _ hy
    exact ⟨v, h1, Post.here O h2 P⟩
  · exact P.elim
theorem dl_var (i : Nat) {x : Str} (hN : X.N[i]? = some x := by rfl) (hv : Vis X.env.scope x := by first | exact Or.inl rfl | exact Or.inr (Or.inl rfl) | exact Or.inr (Or.inr rfl)) (hd : (x == ("__debug__" : Str)) = false := by decide)
    (hcd : (x == ("__classdict__" : Str)) = false := by decide) : Dl X W (.Name x pos) (eOwnL i) := by
  refine ⟨_, pe_var hN hv hd hcd, fun G α ρ ω σ H Q O S P => ?_⟩
  unfold eOwnL at P
  split at P
  · rename_i k hk
    split at P
    · rename_i ds hds
      obtain ⟨v, h1, a, h2, rfl⟩ := S.val i _ hk
      obtain ⟨_, vs, h3, h4⟩ := O.obj k _ a hds h2
      exact ⟨_, h1, Post.here O ⟨a, vs, rfl, SqL.of h3, h4⟩ P⟩
    · exact P.elim
  · exact P.elim
def asLst : D → Option (List D)
  | .lst ds => some ds
  | _ => none
def eLst (f : FE D) : FE (List D) := fun ρ ω => (f ρ ω).bind fun d ω1 => Res.lift (asLst d) ω1
theorem dl_of {f : FE D} (h : De X W e f) : Dl X W e (eLst f) := by
  obtain ⟨t, p, j⟩ := h
  refine ⟨t, p, fun G α ρ ω σ H Q O S P => ?_⟩
  refine Post.step (t := t σ H) (j G α ρ ω σ H · O S) P fun d ω1 v G1 α1 H1 e1 O1 r1 P1 => ?_
  obtain ⟨ds, e2, P2⟩ := P1.lift
  cases d with
  | lst ds' =>
    cases e2
    have r1' : Rep X.K X.mg G1 (.lst ds) v := r1
    rw [rep_lst] at r1'
    obtain ⟨a, vs, e3, q, r⟩ := r1'
    exact Post.here O1 ⟨a, vs, e3, O1.sub.seq q, r⟩ P2
  | _ => cases e2
def Bop (K : PySem.W.Frag) (mg : MG) (r : R2) (op : D → D → Option D) : Prop :=
  ∀ G H x y d v1 v2 Q, Same G H → op x y = some d → Rep K mg G x v1 → Rep K mg G y v2 → (∀ v G' H', Grow G H G' H' → Rep K mg G' d v → Q v H') → r v1 v2 H Q
def eBin (op : D → D → Option D) (f g : FE D) : FE D := fun ρ ω => (f ρ ω).bind fun x ω1 => (g ρ ω1).bind fun y ω2 => Res.lift (op x y) ω2
theorem bin_post {r : R2} {op : D → D → Option D} {K : PySem.W.Frag} {mg : MG} {G H : Hp} {α : List Addr} {ω : Om} {Q : VK} {E : XK} {x y : D} {v1 v2 : V} (B : Bop K mg r op) (O : Own K mg G α ω H) (r1 : Rep K mg G x v1) (r2 : Rep K mg G y v2)
    (P : Post K mg (RD K mg) G α H Q E (Res.lift (op x y) ω)) : r v1 v2 H Q := by
  obtain ⟨d, e, P⟩ := P.lift
  exact B G H x y d v1 v2 Q O.sub e r1 r2 fun v G' H' g q => Post.grow O g q P
theorem tOp_post {r : R2} {op : D → D → Option D} {f g : FE D} {ta tb : TE} {K : PySem.W.Frag} {mg : MG} (B : Bop K mg r op)
    (ja : ∀ G α ρ ω σ H Q, Own K mg G α ω H → Slots K mg G α ρ σ → Post K mg (RD K mg) G α H Q (fun c d H' => W c d σ H') (f ρ ω) → ta σ H Q)
    (jb : ∀ G α ρ ω σ H Q, Own K mg G α ω H → Slots K mg G α ρ σ → Post K mg (RD K mg) G α H Q (fun c d H' => W c d σ H') (g ρ ω) → tb σ H Q)
    (G α ρ ω σ H Q) (O : Own K mg G α ω H) (S : Slots K mg G α ρ σ) (P : Post K mg (RD K mg) G α H Q (fun c d H' => W c d σ H') (eBin op f g ρ ω)) : tOp r ta tb σ H Q := by
  refine Post.step (t := ta σ H) (ja G α ρ ω σ H · O S) P fun x ω1 v1 G1 α1 H1 e1 O1 r1 P1 => ?_
  refine Post.step (t := tb σ H1) (jb G1 α1 ρ ω1 σ H1 · O1 (S.mono e1)) P1 fun y ω2 v2 G2 α2 H2 e2 O2 r2 P2 => ?_
  exact bin_post B O2 (Rep.mono e2.g _ _ r1) r2 P2
theorem de_bin {o : Operator} {r : R2} {op : D → D → Option D} {f g : FE D} (ho : OpR X (binaryOp o) r) (B : Bop X.K X.mg r op) (ja : De X W a f) (jb : De X W b g) : De X W (.BinOp a o b pos) (eBin op f g) := by
  obtain ⟨ta, pa, ka⟩ := ja
  obtain ⟨tb, pb, kb⟩ := jb
  exact ⟨_, pe_op ho pa pb, tOp_post B ka kb⟩
theorem de_cmp {o : CmpOp} {r : R2} {op : D → D → Option D} {f g : FE D} (ho : OpR X (compareOp o) r) (B : Bop X.K X.mg r op) (ja : De X W a f) (jb : De X W b g) (hm : behindInMarks o b = false := by first | exact nomark _ | rfl) : De X W (.Compare a [o] [b] pos) (eBin op f g) := by
  obtain ⟨ta, pa, ka⟩ := ja
  obtain ⟨tb, pb, kb⟩ := jb
  exact ⟨_, pe_cmpR ho pa pb hm, tOp_post B ka kb⟩
theorem de_ix {r : R2} {op : D → D → Option D} {f g : FE D} (ho : IxR X r) (B : Bop X.K X.mg r op) (ja : De X W a f) (jb : De X W b g) (hs : PlainIx b := by exact fun _ _ => rfl) : De X W (.Subscript a b pos) (eBin op f g) := by
  obtain ⟨ta, pa, ka⟩ := ja
  obtain ⟨tb, pb, kb⟩ := jb
  exact ⟨_, pe_ix ho pa pb hs, tOp_post B ka kb⟩
def asBl : D → Option Bool
  | .bl b => some b
  | _ => none
def eTest (f : FE D) : FE Bool := fun ρ ω => (f ρ ω).bind fun d ω1 => Res.lift (asBl d) ω1
theorem test_post {t : TE} {f : FE D} {K : PySem.W.Frag} {mg : MG} (j : ∀ G α ρ ω σ H Q, Own K mg G α ω H → Slots K mg G α ρ σ → Post K mg (RD K mg) G α H Q (fun c d H' => W c d σ H') (f ρ ω) → t σ H Q)
    (G α ρ ω σ H Q) (O : Own K mg G α ω H) (S : Slots K mg G α ρ σ) (P : Post K mg RB G α H Q (fun c d H' => W c d σ H') (eTest f ρ ω)) : t σ H fun x H' => ∃ k, x = .bl k ∧ Q k H' := by
  refine Post.step (t := t σ H) (j G α ρ ω σ H · O S) P fun x ω1 v1 G1 α1 H1 e1 O1 r1 P1 => ?_
  obtain ⟨k, e2, P2⟩ := P1.lift
  cases x with
  | bl k' =>
    cases e2
    have r1' : Rep K mg G1 (.bl k) v1 := r1
    rw [rep_bl] at r1'
    exact ⟨k, r1', Post.here O1 rfl P2⟩
  | _ => cases e2
theorem dt_cmp {o : CmpOp} {r : R2} {op : D → D → Option D} {f g : FE D} (ho : OpR X (compareOp o) r) (B : Bop X.K X.mg r op) (ja : De X W a f) (jb : De X W b g) (hm : behindInMarks o b = false := by first | exact nomark _ | rfl) : Dt X W (.Compare a [o] [b] pos) (eTest (eBin op f g)) := by
  obtain ⟨ta, pa, ka⟩ := ja
  obtain ⟨tb, pb, kb⟩ := jb
  exact ⟨_, pt_cmpR ho pa pb hm, test_post (tOp_post B ka kb)⟩
theorem dt_val {f : FE D} (j : De X W e f) (he : ∀ whole, isTrue e X.env whole = (do let v ← whole; standAt e.pos; holding [v] (truthy v)) := by intro _; rfl) : Dt X W e (eTest f) := by
  obtain ⟨t, p, k⟩ := j
  exact ⟨_, pt_val p he, test_post k⟩
def eAndT (f g : FE Bool) : FE Bool := fun ρ ω => (f ρ ω).bind fun c ω1 => if c = true then g ρ ω1 else .ok false ω1
def eOrT (f g : FE Bool) : FE Bool := fun ρ ω => (f ρ ω).bind fun c ω1 => if c = true then .ok true ω1 else g ρ ω1
def eNotT (f : FE Bool) : FE Bool := fun ρ ω => (f ρ ω).bind fun c ω1 => .ok (!c) ω1
variable {rest : List Expr}
theorem dw_and1 {f : FE Bool} (h : Dt X W a f) : Dw X W (.BoolOp .And [a] pos) f := let ⟨t, p, k⟩ := h; ⟨t, pw_and1 p, k⟩
theorem dw_or1 {f : FE Bool} (h : Dt X W a f) : Dw X W (.BoolOp .Or [a] pos) f := let ⟨t, p, k⟩ := h; ⟨t, pw_or1 p, k⟩
theorem dw_and {f g : FE Bool} (h : Dt X W a f) (h2 : Dw X W (.BoolOp .And (b :: rest) pos) g) : Dw X W (.BoolOp .And (a :: b :: rest) pos) (eAndT f g) := by
  obtain ⟨ta, pa, ka⟩ := h
  obtain ⟨tb, pb, kb⟩ := h2
  refine ⟨_, pw_and pa pb, fun G α ρ ω σ H Q O S P => ?_⟩
  refine Post.step (t := ta σ H) (ka G α ρ ω σ H · O S) P fun x ω1 v1 G1 α1 H1 e1 O1 r1 P1 => ?_
  cases r1
  cases x with
  | true => exact iteT (kb G1 α1 ρ ω1 σ H1 Q O1 (S.mono e1) P1)
  | false => exact iteF (Post.here O1 rfl P1)
theorem dw_or {f g : FE Bool} (h : Dt X W a f) (h2 : Dw X W (.BoolOp .Or (b :: rest) pos) g) : Dw X W (.BoolOp .Or (a :: b :: rest) pos) (eOrT f g) := by
  obtain ⟨ta, pa, ka⟩ := h
  obtain ⟨tb, pb, kb⟩ := h2
  refine ⟨_, pw_or pa pb, fun G α ρ ω σ H Q O S P => ?_⟩
  refine Post.step (t := ta σ H) (ka G α ρ ω σ H · O S) P fun x ω1 v1 G1 α1 H1 e1 O1 r1 P1 => ?_
  cases r1
  cases x with
  | true => exact iteT (Post.here O1 rfl P1)
  | false => exact iteF (kb G1 α1 ρ ω1 σ H1 Q O1 (S.mono e1) P1)
theorem dt_w {f : FE Bool} (h : Dw X W e f) : Dt X W e f := let ⟨t, p, k⟩ := h; ⟨t, p.pt, k⟩
theorem dt_not {f : FE Bool} (h : Dt X W a f) : Dt X W (.UnaryOp .Not a pos) (eNotT f) := by
  obtain ⟨ta, pa, ka⟩ := h
  refine ⟨_, pt_not pa, fun G α ρ ω σ H Q O S P => ?_⟩
  refine Post.step (t := ta σ H) (ka G α ρ ω σ H · O S) P fun x ω1 v1 G1 α1 H1 e1 O1 r1 P1 => ?_
  cases r1
  exact Post.here O1 rfl P1
def eAnd (f g : FE D) : FE D := fun ρ ω => (eTest f ρ ω).bind fun c ω1 => if c = true then g ρ ω1 else .ok (.bl false) ω1
def eOr (f g : FE D) : FE D := fun ρ ω => (eTest f ρ ω).bind fun c ω1 => if c = true then .ok (.bl true) ω1 else g ρ ω1
def eNot (f : FE D) : FE D := fun ρ ω => (eTest f ρ ω).bind fun c ω1 => .ok (.bl (!c)) ω1
theorem de_one {op} {f : FE D} (h : De X W a f) : De X W (.BoolOp op [a] pos) f := let ⟨t, p, k⟩ := h; ⟨t, pe_one p, k⟩
theorem de_and {f g : FE D} (h : De X W a f) (h2 : De X W (.BoolOp .And (b :: rest) pos) g) : De X W (.BoolOp .And (a :: b :: rest) pos) (eAnd f g) := by
  obtain ⟨ta, pa, ka⟩ := h
  obtain ⟨tb, pb, kb⟩ := h2
  refine ⟨_, pe_and pa pb, fun G α ρ ω σ H Q O S P => ?_⟩
  refine Post.step (t := fun Q => ta σ H fun x H' => ∃ k, x = .bl k ∧ Q k H') (Q1 := fun c H1 => if c = true then tb σ H1 Q else Q (.bl false) H1) (test_post ka G α ρ ω σ H · O S) P ?_
  intro x ω1 v1 G1 α1 H1 e1 O1 r1 P1
  cases r1
  cases x with
  | true => exact iteT (kb G1 α1 ρ ω1 σ H1 Q O1 (S.mono e1) P1)
  | false => exact iteF (Post.here O1 (rep_bl.mpr rfl) P1)
theorem de_or {f g : FE D} (h : De X W a f) (h2 : De X W (.BoolOp .Or (b :: rest) pos) g) : De X W (.BoolOp .Or (a :: b :: rest) pos) (eOr f g) := by
  obtain ⟨ta, pa, ka⟩ := h
  obtain ⟨tb, pb, kb⟩ := h2
  refine ⟨_, pe_or pa pb, fun G α ρ ω σ H Q O S P => ?_⟩
  refine Post.step (t := fun Q => ta σ H fun x H' => ∃ k, x = .bl k ∧ Q k H') (Q1 := fun c H1 => if c = true then Q (.bl true) H1 else tb σ H1 Q) (test_post ka G α ρ ω σ H · O S) P ?_
  intro x ω1 v1 G1 α1 H1 e1 O1 r1 P1
  cases r1
  cases x with
  | true => exact iteT (Post.here O1 (rep_bl.mpr rfl) P1)
  | false => exact iteF (kb G1 α1 ρ ω1 σ H1 Q O1 (S.mono e1) P1)
theorem de_not {f : FE D} (h : De X W a f) : De X W (.UnaryOp .Not a pos) (eNot f) := by
  obtain ⟨ta, pa, ka⟩ := h
  refine ⟨_, pe_not pa, fun G α ρ ω σ H Q O S P => ?_⟩
  refine Post.step (t := fun Q => ta σ H fun x H' => ∃ k, x = .bl k ∧ Q k H') (Q1 := fun c H1 => Q (.bl (!c)) H1) (test_post ka G α ρ ω σ H · O S) P ?_
  intro x ω1 v1 G1 α1 H1 e1 O1 r1 P1
  cases r1
  exact Post.here O1 (rep_bl.mpr rfl) P1
def eIf (c : FE Bool) (f g : FE D) : FE D := fun ρ ω => (c ρ ω).bind fun b ω1 => if b = true then f ρ ω1 else g ρ ω1
theorem de_if {fc : FE Bool} {f g : FE D} (hc : Dt X W c fc) (h : De X W a f) (h2 : De X W b g) : De X W (.IfExp c a b pos) (eIf fc f g) := by
  obtain ⟨tc, pc, kc⟩ := hc
  obtain ⟨ta, pa, ka⟩ := h
  obtain ⟨tb, pb, kb⟩ := h2
  refine ⟨_, pe_ifExp pc pa pb, fun G α ρ ω σ H Q O S P => ?_⟩
  refine Post.step (t := tc σ H) (kc G α ρ ω σ H · O S) P fun x ω1 v1 G1 α1 H1 e1 O1 r1 P1 => ?_
  cases r1
  cases x with
  | true => exact iteT (ka G1 α1 ρ ω1 σ H1 Q O1 (S.mono e1) P1)
  | false => exact iteF (kb G1 α1 ρ ω1 σ H1 Q O1 (S.mono e1) P1)
def aNil : FE (List SV) := fun _ ω => .ok [] ω
def aCons (f : FE SV) (g : FE (List SV)) : FE (List SV) := fun ρ ω => (f ρ ω).bind fun x ω1 => (g ρ ω1).bind fun xs ω2 => .ok (x :: xs) ω2
def aVal (f : FE D) : FE SV := fun ρ ω => (f ρ ω).bind fun d ω1 => .ok (.val d) ω1
theorem dv_of {f : FE D} (h : De X W e f) : Dv X W e (aVal f) := by
  obtain ⟨t, p, j⟩ := h
  refine ⟨t, p, fun G α ρ ω σ H Q O S P => ?_⟩
  exact Post.step (t := t σ H) (j G α ρ ω σ H · O S) P fun d ω1 v G1 α1 H1 e1 O1 r1 P1 => Post.here (R := RS X.K X.mg) (b := SV.val d) O1 r1 P1
theorem da_nil : Da X W [] aNil := ⟨_, pa_nil, fun G α ρ ω σ H Q O S P => Post.here O .nil P⟩
theorem da_cons {es : List Expr} {f : FE SV} {g : FE (List SV)} (h : Dv X W e f) (h2 : Da X W es g) (hs : starEach (e :: es) X.env = (false, eval e X.env) :: starEach es X.env := by rfl) : Da X W (e :: es) (aCons f g) := by
  obtain ⟨ta, pa, ka⟩ := h
  obtain ⟨tb, pb, kb⟩ := h2
  refine ⟨_, pa_cons pa pb hs, fun G α ρ ω σ H Q O S P => ?_⟩
  refine Post.step (t := ta σ H) (ka G α ρ ω σ H · O S) P fun x ω1 v1 G1 α1 H1 e1 O1 r1 P1 => ?_
  refine Post.step (t := tb σ H1) (kb G1 α1 ρ ω1 σ H1 · O1 (S.mono e1)) P1 fun y ω2 v2 G2 α2 H2 e2 O2 r2 P2 => ?_
  exact Post.here O2 (.cons (r1.mono e2.g e2.pre') r2) P2
theorem da_val {es : List Expr} {f : FE D} {g : FE (List SV)} (h : De X W e f) (h2 : Da X W es g) (hs : starEach (e :: es) X.env = (false, eval e X.env) :: starEach es X.env := by rfl) : Da X W (e :: es) (aCons (aVal f) g) := da_cons (dv_of h) h2 hs
def allD : List SV → Option (List D)
  | [] => some []
  | .val d :: xs => (allD xs).map (d :: ·)
  | .own _ :: _ => none
  | .exc _ :: _ => none
theorem allD_reps {K : PySem.W.Frag} {mg : MG} {G : Hp} {α : List Addr} : ∀ {xs : List SV} {ds : List D} {vs : List V}, allD xs = some ds → RepVs K mg G α xs vs → Reps K mg G ds vs
  | [], ds, _, e, .nil => by cases e; rw [reps_nil]
  | .val d :: xs, ds, _, e, .cons h t => by
    unfold allD at e
    cases q : allD xs with
    | none => rw [q] at e; cases e
    | some es =>
      rw [q] at e
      cases e
      rw [reps_cons]
      exact ⟨_, _, rfl, h, allD_reps q t⟩
  | .own k :: xs, ds, _, e, _ => by cases e
  | .exc k :: xs, ds, _, e, _ => by cases e
abbrev lim : Nat := 16777216
theorem lim_eq : sizeLine = lim := sizeLine_eq
def eTup (g : FE (List SV)) : FE D := fun ρ ω => (g ρ ω).bind fun xs ω1 => Res.lift (if xs.length ≤ lim then (allD xs).map D.tup else none) ω1
def eList (g : FE (List SV)) : FE D := fun ρ ω => (g ρ ω).bind fun xs ω1 => Res.lift (if xs.length ≤ lim then (allD xs).map D.lst else none) ω1
theorem RepVs.length {K : PySem.W.Frag} {mg : MG} {G : Hp} {α : List Addr} : ∀ {xs : List SV} {vs : List V}, RepVs K mg G α xs vs → xs.length = vs.length := fun h => Paired.length h
theorem rep_newT {K : PySem.W.Frag} {mg : MG} {G H : Hp} {p : Addr} {ds : List D} {vs : List V} (hp : G p = none) (r : Reps K mg G ds vs) : Rep K mg (L2.upd G p (.tup vs)) (.tup ds) (.ref p) :=
  rep_tup.mpr ⟨p, vs, rfl, SqT.of upd_same, Reps.mono (Same.upd hp) _ _ r⟩
theorem rep_newL {K : PySem.W.Frag} {mg : MG} {G H : Hp} {p : Addr} {ds : List D} {vs : List V} (hp : G p = none) (r : Reps K mg G ds vs) : Rep K mg (L2.upd G p (.lst vs)) (.lst ds) (.ref p) :=
  rep_lst.mpr ⟨p, vs, rfl, SqL.of upd_same, Reps.mono (Same.upd hp) _ _ r⟩
theorem de_tup {es : List Expr} {x1} {g : FE (List SV)} (h : Da X W es g) : De X W (.Tuple es x1 pos) (eTup g) := by
  obtain ⟨t, p, k⟩ := h
  refine ⟨_, pe_tup p, fun G α ρ ω σ H Q O S P => ?_⟩
  refine Post.step (t := t σ H) (k G α ρ ω σ H · O S) P fun xs ω1 vs G1 α1 H1 e1 O1 r1 P1 => ?_
  obtain ⟨d, e2, P2⟩ := P1.lift
  split at e2
  · rename_i hl
    cases q : allD xs with
    | none => rw [q] at e2; cases e2
    | some ds =>
      rw [q] at e2; cases e2
      have hr := allD_reps q r1
      refine ⟨by rw [lim_eq, ← RepVs.length r1]; exact hl, fun p hp => ?_⟩
      exact Post.grow O1 (Grow.put O1.sub hp) (rep_newT (H := H1) (O1.sub.free hp) hr) P2
  · cases e2
theorem de_lst {es : List Expr} {g : FE (List SV)} (h : Da X W es g) : De X W (.List es pos) (eList g) := by
  obtain ⟨t, p, k⟩ := h
  refine ⟨_, pe_lst p, fun G α ρ ω σ H Q O S P => ?_⟩
  refine Post.step (t := t σ H) (k G α ρ ω σ H · O S) P fun xs ω1 vs G1 α1 H1 e1 O1 r1 P1 => ?_
  obtain ⟨d, e2, P2⟩ := P1.lift
  split at e2
  · rename_i hl
    cases q : allD xs with
    | none => rw [q] at e2; cases e2
    | some ds =>
      rw [q] at e2; cases e2
      have hr := allD_reps q r1
      refine ⟨by rw [lim_eq, ← RepVs.length r1]; exact hl, fun p hp => ?_⟩
      exact Post.grow O1 (Grow.put O1.sub hp) (rep_newL (H := H1) (O1.sub.free hp) hr) P2
  · cases e2
end
end Dl
namespace Dl
open PySem L2
mutual
def toPy : D → Option PyData
  | .non => some .none
  | .bl b => some (.bool b)
  | .int i => some (.int i)
  | .str x => some (.str x)
  | .tup ds => (toPys ds).map .tuple
  | .lst ds => (toPys ds).map .list
  | _ => none
def toPys : List D → Option (List PyData)
  | [] => some []
  | d :: ds => match toPy d with
    | some p => (toPys ds).map (p :: ·)
    | none => none
end
section
variable {K : PySem.W.Frag} {mg : MG} {G H : Hp}
mutual
theorem dp_of (s : Same G H) : ∀ (d : D) (p : PyData) (v : V), toPy d = some p → Rep K mg G d v → Dp K H v p
  | .non, p, v, e, r => by
    unfold toPy at e; cases e; rw [rep_non] at r; subst r; exact .non
  | .bl b, p, v, e, r => by
    unfold toPy at e; cases e; rw [rep_bl] at r; subst r; exact .bl b
  | .int b, p, v, e, r => by
    unfold toPy at e; cases e; rw [rep_int] at r; subst r; exact .int b
  | .str b, p, v, e, r => by
    unfold toPy at e; cases e; rw [rep_str] at r; subst r; exact .str b
  | .tup ds, p, v, e, r => by
    unfold toPy at e
    cases q : toPys ds with
    | none => rw [q] at e; cases e
    | some ps =>
      rw [q] at e; cases e
      rw [rep_tup] at r
      obtain ⟨a, vs, rfl, h1, h2⟩ := r
      exact .tup (Same.sqT s h1) (dps_of s ds ps vs q h2)
  | .lst ds, p, v, e, r => by
    unfold toPy at e
    cases q : toPys ds with
    | none => rw [q] at e; cases e
    | some ps =>
      rw [q] at e; cases e
      rw [rep_lst] at r
      obtain ⟨a, vs, rfl, h1, h2⟩ := r
      exact .lst (s.seq h1) (dps_of s ds ps vs q h2)
  | .obj _ _, p, v, e, r => by unfold toPy at e; cases e
  | .dcK _, p, v, e, r => by unfold toPy at e; cases e
  | .dcN _, p, v, e, r => by unfold toPy at e; cases e
theorem dps_of (s : Same G H) : ∀ (ds : List D) (ps : List PyData) (vs : List V), toPys ds = some ps → Reps K mg G ds vs → DpAll K H vs ps
  | [], ps, vs, e, r => by
    unfold toPys at e; cases e; rw [reps_nil] at r; subst r; exact .nil
  | d :: ds, ps, vs, e, r => by
    unfold toPys at e
    cases q : toPy d with
    | none => rw [q] at e; cases e
    | some p =>
      rw [q] at e
      cases q2 : toPys ds with
      | none => rw [q2] at e; cases e
      | some ps' =>
        rw [q2] at e; cases e
        rw [reps_cons] at r
        obtain ⟨v, rr, rfl, h1, h2⟩ := r
        exact .cons (dp_of s d p v q h1) (dps_of s ds ps' rr q2 h2)
end
end
def eqD (x y : D) : Option Bool := match toPy x, toPy y with
  | some p, some q => if SeqAt.shaped p && SeqAt.shaped q then some (PyData.eqv p q) else none
  | _, _ => none
def opEq (x y : D) : Option D := (eqD x y).map D.bl
def opNe (x y : D) : Option D := (eqD x y).map fun b => D.bl (!b)
def opAdd : D → D → Option D
  | .int i, .int j => some (.int (i + j))
  | .tup a, .tup b => if a.length + b.length ≤ lim then some (.tup (a ++ b)) else none
  | .str a, .str b => if a.length + b.length ≤ lim then some (.str (a ++ b)) else none
  | .lst a, .lst b => if a.length + b.length ≤ lim then some (.lst (a ++ b)) else none
  | _, _ => none
def opI (p : Int → Int → Option Int) : D → D → Option D
  | .int i, .int j => (p i j).map D.int
  | _, _ => none
def opB (p : Int → Int → Bool) : D → D → Option D
  | .int i, .int j => some (.bl (p i j))
  | _, _ => none
abbrev bnd : Int := 18446744073709551616
abbrev opMul : D → D → Option D := opI fun i j => if (-bnd < i ∧ i < bnd) ∨ (-bnd < j ∧ j < bnd) then some (i * j) else none
abbrev opMod : D → D → Option D := opI fun i j => if 0 < j then some (i % j) else none
abbrev opDiv : D → D → Option D := opI fun i j => if 0 < j ∧ j < 1073741824 then some (i / j) else none
abbrev opPow : D → D → Option D := opI fun i j => if 0 ≤ j ∧ j ≤ 1000000 ∧ i.natAbs < 18446744073709551616 then some (i ^ j.toNat) else none
abbrev opLt : D → D → Option D := opB fun i j => decide (i < j)
abbrev opLe : D → D → Option D := opB fun i j => decide (i ≤ j)
abbrev opGt : D → D → Option D := opB fun i j => decide (j < i)
abbrev opGe : D → D → Option D := opB fun i j => decide (j ≤ i)
def isNon : D → Bool
  | .non => true
  | _ => false
def opIsN (x y : D) : Option D := if isNon y then some (.bl (isNon x)) else none
def opNotN (x y : D) : Option D := if isNon y then some (.bl (!isNon x)) else none
def opIx : D → D → Option D
  | .tup ds, .int i => atI ds i
  | .lst ds, .int i => atI ds i
  | _, _ => none
def toV : D → Option V
  | .non => some .non
  | .bl b => some (.bl b)
  | .int i => some (.int i)
  | .str x => some (.str x)
  | _ => none
def toVs : List D → Option (List V)
  | [] => some []
  | d :: ds => match toV d with
    | some v => (toVs ds).map (v :: ·)
    | none => none
def opInL (neg : Bool) (x : D) (ys : List D) : Option D := match toV x, toVs ys with
  | some v, some vs => some (.bl (if neg then !inV v vs else inV v vs))
  | _, _ => none
def opIn (neg : Bool) (x y : D) : Option D := match y with
  | .tup ys => opInL neg x ys
  | .lst ys => opInL neg x ys
  | _ => none
section
variable {K : PySem.W.Frag} {mg : MG} {G H : Hp} {X : Cx}
theorem bop_eq : Bop K mg (rEqD K) opEq := by
  intro G H x y d v1 v2 Q s e r1 r2 k
  unfold opEq eqD at e
  split at e
  · rename_i p q hp hq
    split at e
    · rename_i hs
      rw [Bool.and_eq_true] at hs
      cases e
      exact ⟨p, q, dp_of s _ _ _ hp r1, dp_of s _ _ _ hq r2, hs.1, hs.2, k _ G H (Grow.refl s) (rep_bl.mpr rfl)⟩
    · cases e
  · cases e
theorem bop_ne : Bop K mg (rNeD K) opNe := by
  intro G H x y d v1 v2 Q s e r1 r2 k
  unfold opNe eqD at e
  split at e
  · rename_i p q hp hq
    split at e
    · rename_i hs
      rw [Bool.and_eq_true] at hs
      cases e
      exact ⟨p, q, dp_of s _ _ _ hp r1, dp_of s _ _ _ hq r2, hs.1, hs.2, k _ G H (Grow.refl s) (rep_bl.mpr rfl)⟩
    · cases e
  · cases e
theorem bopI {C : Int → Int → Prop} {g : Int → Int → Int} {p : Int → Int → Option Int} (h : ∀ i j z, p i j = some z → C i j ∧ z = g i j) : Bop K mg (rI C fun i j => .int (g i j)) (opI p) := by
  intro G H x y d v1 v2 Q s e r1 r2 k
  unfold opI at e
  split at e
  · rename_i i j
    cases q : p i j with
    | none => rw [q] at e; cases e
    | some z =>
      rw [q] at e; cases e
      obtain ⟨c, rfl⟩ := h i j z q
      exact ⟨i, j, rep_int.mp r1, rep_int.mp r2, c, k _ G H (Grow.refl s) (rep_int.mpr rfl)⟩
  · cases e
theorem bopB0 {g : Int → Int → Bool} : Bop K mg (rI0 fun i j => .bl (g i j)) (opB g) := by
  intro G H x y d v1 v2 Q s e r1 r2 k
  unfold opB at e
  split at e
  · rename_i i j
    cases e
    exact ⟨i, j, rep_int.mp r1, rep_int.mp r2, k _ G H (Grow.refl s) (rep_bl.mpr rfl)⟩
  · cases e
theorem bop_mul : Bop K mg (rI CMul fun i j => .int (i * j)) opMul := bopI (g := fun i j => i * j) fun i j z h => by
  split at h
  · rename_i c; cases h; exact ⟨c, rfl⟩
  · cases h
theorem bop_mod : Bop K mg (rI (fun _ j => 0 < j) fun i j => .int (i % j)) opMod := bopI (g := fun i j => i % j) fun i j z h => by
  split at h
  · rename_i c; cases h; exact ⟨c, rfl⟩
  · cases h
theorem bop_div : Bop K mg (rI CDiv fun i j => .int (i / j)) opDiv := bopI (g := fun i j => i / j) fun i j z h => by
  split at h
  · rename_i c; cases h; exact ⟨c, rfl⟩
  · cases h
theorem bop_pow : Bop K mg (rI CPow fun i j => .int (i ^ j.toNat)) opPow := bopI (g := fun i j => i ^ j.toNat) fun i j z h => by
  split at h
  · rename_i c; cases h; exact ⟨c, rfl⟩
  · cases h
theorem bop_lt : Bop K mg (rI0 fun i j => .bl (decide (i < j))) opLt := bopB0
theorem bop_le : Bop K mg (rI0 fun i j => .bl (decide (i ≤ j))) opLe := bopB0
theorem bop_gt : Bop K mg (rI0 fun i j => .bl (decide (j < i))) opGt := bopB0
theorem bop_ge : Bop K mg (rI0 fun i j => .bl (decide (j ≤ i))) opGe := bopB0
theorem list_add_any (l : Addr) (items : Array Value) (o o2 : Obj) (n : Nat) (b : Addr) (items2 : Array Value) (n2 : Nat) (c1 : o.cls = .type "list") (d1 : o.dict = none) (e1 : o.data = .seq items n) (c2 : o2.cls = .type "list") (d2 : o2.dict = none) (e2 : o2.data = .seq items2 n2) (hc0 : items.size + items2.size ≤ sizeLine) :
    Meets (Builtin.«list.__add__» { pos := [Value.ref l, Value.ref b] }) fun x R s =>
      s.heap.get? l = some o ∧ s.heap.get? b = some o2 ∧
          R (Except.ok (Flow.ret (Value.ref s.heap.objs.size)))
            { heap := s.heap.push { cls := Value.type "list", data := Data.seq (items ++ items2) }, gens := s.gens, drawn := s.drawn, toks := s.toks, os := s.os } := by
  cases o with
  | mk cls dict data slots =>
  cases o2 with
  | mk cls2 dict2 data2 slots2 =>
  cases c1; cases d1; cases e1; cases c2; cases d2; cases e2
  refine Meets.of_wp fun prog w A R s h => ?_
  obtain ⟨hp, g, d, tk, os⟩ := s
  obtain ⟨hl, hb, h⟩ := h
  have f3 := AutoSeq1.sub_list_list
  wp_walk using AutoSeq1.wpAny_loadPart' hl, AutoSeq1.wpAny_loadPart' hb
  exact ⟨_, rfl, h⟩
theorem add_list_any {prog : Program} {w : World} {A : Around} {E : Value → Shared → Prop} {s : Shared} {l b : Addr} {items items2 : Array Value} {Q : Value → Shared → Prop} (p1 : PlainL s.heap l items) (p2 : PlainL s.heap b items2)
    (h : Q (Value.ref s.heap.objs.size) { heap := s.heap.push { cls := Value.type "list", data := Data.seq (items ++ items2) }, gens := s.gens, drawn := s.drawn, toks := s.toks, os := s.os }) (hsz : items.size + items2.size ≤ sizeLine) :
    wpAny (model prog w) A (binaryOp Operator.Add (Value.ref l) (Value.ref b)) Q E s := by
  obtain ⟨o, n, hl, c1, d1, e1⟩ := p1
  obtain ⟨o2, n2, hb, c2, d2, e2⟩ := p2
  exact concat_meets (Exists.intro o ⟨hl, c1⟩) (Exists.intro o2 ⟨hb, c2⟩) noFill_list_add seq_list_add F.slot_list_add F.entry_list_add (F.args_list_add_2 (Value.ref l) (Value.ref b)) (list_add_any l items o o2 n b items2 n2 c1 d1 e1 c2 d2 e2 hsz) ⟨hl, hb, h⟩
def rCatS (K : PySem.W.Frag) : R2 := fun x y H Q => ∃ a b xs ys, x = .ref a ∧ y = .ref b ∧ SqL K H a xs ∧ SqL K H b ys ∧ xs.length + ys.length ≤ sizeLine ∧ ∀ p, H p = none → Q (.ref p) (L2.upd H p (.lst (xs ++ ys)))
theorem op_catS : OpR X (binaryOp .Add) (rCatS X.K) := by
  intro pins s σ H x y v u Q I rx ry h
  obtain ⟨a, b, xs, ys, rfl, rfl, h1, h2, hz, q⟩ := h
  cases rx
  cases ry
  obtain ⟨i1, r1, p1, z1⟩ := Inv.list I h1
  obtain ⟨i2, r2, p2, z2⟩ := Inv.list I h2
  have l1 := r1.length
  have l2 := r2.length
  refine add_list_any p1 p2 ?_ (by simp; omega)
  rw [List.append_toArray]
  exact ⟨.ref s.heap.objs.size, _, Inv.lnew I (Vals.append r1 r2) (by rw [List.length_append]; exact hz), rfl, q _ (Inv.fresh I)⟩
def rAddA (K : PySem.W.Frag) : R2 := fun x y H Q => (rI0 (fun i j => V.int (i + j))) x y H Q ∨ rCatA K x y H Q ∨ (∃ i j, x = V.str i ∧ y = V.str j ∧ i.length + j.length ≤ sizeLine ∧ Q (.str (i ++ j)) H) ∨ rCatS K x y H Q
theorem op_addA : OpR X (binaryOp .Add) (rAddA X.K) := op_add.or (op_catA.or (op_add_str.or op_catS))
theorem bop_add : Bop K mg (rAddA K) opAdd := by
  intro G H x y d v1 v2 Q s e r1 r2 k
  unfold opAdd at e
  split at e
  · cases e
    exact .inl ⟨_, _, rep_int.mp r1, rep_int.mp r2, k _ G H (Grow.refl s) (rep_int.mpr rfl)⟩
  · rename_i a b
    split at e
    · rename_i hl
      cases e
      have q1 := r1
      have q2 := r2
      rw [rep_tup] at r1 r2
      obtain ⟨p1, vs1, e1, s1, h1⟩ := r1
      obtain ⟨p2, vs2, e2, s2, h2⟩ := r2
      refine .inr (.inl ⟨p1, p2, vs1, vs2, e1, e2, Same.sqT s s1, Same.sqT s s2, by rw [h1.length, h2.length, lim_eq]; exact hl, fun z => ?_, fun z1 z2 => ?_, fun z1 z2 p hp => ?_⟩)
      · have : a = [] := by have := h1.length; rw [z] at this; cases a with
          | nil => rfl
          | cons _ _ => simp at this
        subst this
        exact k _ G H (Grow.refl s) (by rw [← e2]; exact q2)
      · have : b = [] := by have := h2.length; rw [z2] at this; cases b with
          | nil => rfl
          | cons _ _ => simp at this
        subst this
        exact k _ G H (Grow.refl s) (by rw [← e1, List.append_nil]; exact q1)
      · exact k _ _ _ (Grow.put s hp) (rep_newT (H := H) (s.free hp) (h1.append h2))
    · cases e
  · split at e
    · rename_i hl
      cases e
      exact .inr (.inr (.inl ⟨_, _, rep_str.mp r1, rep_str.mp r2, by rw [lim_eq]; exact hl, k _ G H (Grow.refl s) (rep_str.mpr rfl)⟩))
    · cases e
  · split at e
    · rename_i hl
      cases e
      rw [rep_lst] at r1 r2
      obtain ⟨p1, vs1, e1, s1, h1⟩ := r1
      obtain ⟨p2, vs2, e2, s2, h2⟩ := r2
      refine .inr (.inr (.inr ⟨p1, p2, vs1, vs2, e1, e2, s.seq s1, s.seq s2, by rw [h1.length, h2.length, lim_eq]; exact hl, fun p hp => ?_⟩))
      exact k _ _ _ (Grow.put s hp) (rep_newL (H := H) (s.free hp) (h1.append h2))
    · cases e
  · cases e
theorem atI_reps {ds : List D} {vs : List V} {i : Int} {d : D} (r : Reps K mg G ds vs) (h : atI ds i = some d) : ∃ v, atI vs i = some v ∧ Rep K mg G d v := by
  unfold atI at h ⊢
  rw [r.length]
  cases q : ixN ds.length i with
  | none => rw [q] at h; cases h
  | some j =>
    rw [q] at h
    obtain ⟨v, h1, h2⟩ := r.get (i := j) h
    exact ⟨v, h1, h2⟩
theorem bop_ix : Bop K mg (fun x y H Q => rIxL K x y H Q ∨ rIxT K x y H Q) opIx := by
  intro G H x y d v1 v2 Q s e r1 r2 k
  unfold opIx at e
  split at e
  · rename_i ds i
    rw [rep_tup] at r1
    obtain ⟨a, vs, rfl, h1, h2⟩ := r1
    obtain ⟨v, h3, h4⟩ := atI_reps h2 e
    exact .inr ⟨a, vs, i, v, rfl, rep_int.mp r2, Same.sqT s h1, h3, k v G H (Grow.refl s) h4⟩
  · rename_i ds i
    rw [rep_lst] at r1
    obtain ⟨a, vs, rfl, h1, h2⟩ := r1
    obtain ⟨v, h3, h4⟩ := atI_reps h2 e
    exact .inl ⟨a, vs, i, v, rfl, rep_int.mp r2, s.seq h1, h3, k v G H (Grow.refl s) h4⟩
  · cases e
theorem ix_both : IxR X (fun x y H Q => rIxL X.K x y H Q ∨ rIxT X.K x y H Q) := ix_list.or ix_tup
end
section
variable {X : Cx} {W : WX} {a b c : Expr} {pos : Pos} {f g h : FE D} {k : Nat}
abbrev eAdd (f g : FE D) := eBin opAdd f g
abbrev eMod (f g : FE D) := eBin opMod f g
abbrev eDiv (f g : FE D) := eBin opDiv f g
abbrev ePow (f g : FE D) := eBin opPow f g
abbrev eIx (f g : FE D) := eBin opIx f g
theorem de_add (ja : De X W a f) (jb : De X W b g) : De X W (.BinOp a .Add b pos) (eAdd f g) := de_bin op_addA bop_add ja jb
theorem de_mod (ja : De X W a f) (jb : De X W b g) : De X W (.BinOp a .Mod b pos) (eMod f g) := de_bin op_mod bop_mod ja jb
theorem de_div (ja : De X W a f) (jb : De X W b g) : De X W (.BinOp a .FloorDiv b pos) (eDiv f g) := de_bin op_fdiv bop_div ja jb
theorem de_pow (ja : De X W a f) (jb : De X W b g) : De X W (.BinOp a .Pow b pos) (ePow f g) := de_bin op_pow bop_pow ja jb
theorem de_sub1 (ja : De X W a f) (jb : De X W b g) (hs : PlainIx b := by exact fun _ _ => rfl) : De X W (.Subscript a b pos) (eIx f g) := de_ix ix_both bop_ix ja jb hs
structure Cmp (X : Cx) (o : CmpOp) (op : D → D → Option D) : Prop where
  ex : ∃ r, OpR X (compareOp o) r ∧ Bop X.K X.mg r op
theorem cmp_lt : Cmp X .Lt opLt := ⟨_, op_lt, bop_lt⟩
theorem cmp_le : Cmp X .LtE opLe := ⟨_, op_le, bop_le⟩
theorem cmp_gt : Cmp X .Gt opGt := ⟨_, op_gt, bop_gt⟩
theorem cmp_ge : Cmp X .GtE opGe := ⟨_, op_ge, bop_ge⟩
theorem cmp_eq (hr : Room k X.A) : Cmp X .Eq opEq := ⟨_, op_eqD hr.units, bop_eq⟩
theorem cmp_ne (hr : Room k X.A) : Cmp X .NotEq opNe := ⟨_, op_neD hr.units, bop_ne⟩
theorem de_c {o : CmpOp} {op : D → D → Option D} (hc : Cmp X o op) (ja : De X W a f) (jb : De X W b g) (hm : behindInMarks o b = false := by first | exact nomark _ | rfl) : De X W (.Compare a [o] [b] pos) (eBin op f g) :=
  let ⟨_, h1, h2⟩ := hc.ex; de_cmp h1 h2 ja jb hm
theorem dt_c {o : CmpOp} {op : D → D → Option D} (hc : Cmp X o op) (ja : De X W a f) (jb : De X W b g) (hm : behindInMarks o b = false := by first | exact nomark _ | rfl) : Dt X W (.Compare a [o] [b] pos) (eTest (eBin op f g)) :=
  let ⟨_, h1, h2⟩ := hc.ex; dt_cmp h1 h2 ja jb hm
end
end Dl
namespace Dl
open PySem PySem.Spec PyProof.Rows
open Sem (wp)
open AutoSeq1 (wpAny_loadPart')
theorem meets_enumerate_newT (l : Addr) (items : Array Value) (n : Nat) (dct : Option Addr) (sl : Array (Option Value)) :
    Meets (Builtin.«enumerate.__new__» ⟨[.type "enumerate", .ref l], []⟩) (fun _ R s => s.heap.get? l = some { cls := .type "tuple", dict := dct, data := .seq items n, slots := sl } ∧
      R (.ok (.ret (.ref (s.heap.push { cls := .type "tuple_iterator", data := .fields #[.ref l, .int 0 0] }).objs.size)))
        { s with heap := (s.heap.push { cls := .type "tuple_iterator", data := .fields #[.ref l, .int 0 0] }).push { cls := .type "enumerate", data := .fields #[.none, .bool false, .ref s.heap.objs.size, rawInt 0, .none, .none] } }) :=
  .of_wp fun prog w A R s h => by
    obtain ⟨hp, g, d, tk, os⟩ := s; obtain ⟨hl, h⟩ := h
    have hsub := sub_enumerate
    have hL : Heap.IsTuple (Shared.heap ⟨hp, g, d, tk, os⟩) l items := ⟨_, hl, rfl, n, rfl⟩
    wp_walk using wpAny_loadPart' hl
    refine wpAny_stack_any fun st => wpAny_pure ?_
    split
    · rename_i c _ _ _ _ _
      cases (c == Value.type "enumerate")
      · wp_walk using wpAny_loadPart' hl, wpAny_pyIter_tuple hL
        exact ⟨_, rfl, h⟩
      · wp_walk using wpAny_loadPart' hl, wpAny_pyIter_tuple hL
        exact ⟨_, rfl, h⟩
    · wp_walk using wpAny_loadPart' hl, wpAny_pyIter_tuple hL
      exact ⟨_, rfl, h⟩
section
variable {prog : Program} {w : World} {A : Around} {E : Value → Shared → Prop} {s : Shared}
theorem call_enumerate_tuple {l : Addr} {items : Array Value} {Q : Value → Shared → Prop} (hL : s.heap.IsTuple l items)
    (h : ∀ h', IsEnum h' (s.heap.objs.size + 1) s.heap.objs.size 0 .none → h'.IsTupleIter s.heap.objs.size l 0 → h'.objs.size = s.heap.objs.size + 2 →
      (∀ b o, s.heap.get? b = some o → h'.get? b = some o) → Q (.ref (s.heap.objs.size + 1)) { s with heap := h' }) :
    wpAny (model prog w) A (call (.type "enumerate") [.ref l]) Q E s := by
  obtain ⟨⟨c, dct, dt, sl⟩, hl, hc, n, hd⟩ := hL
  replace hc : c = .type "tuple" := hc
  replace hd : dt = .seq items n := hd
  subst hc hd
  refine callType_new F.called_enumerate (by decide) (F.typeCall_enumerate_1 _) (F.newCall_enumerate_1 _) (fun obj => F.args_object_init_2 obj _) F.entry_enumerate_new
    (meets_enumerate_newT l items n dct sl) ⟨hl, ?_⟩
  have hz : (s.heap.push { cls := .type "tuple_iterator", data := .fields #[.ref l, .int 0 0] }).objs.size = s.heap.objs.size + 1 := Heap.size_push ..
  show _ ∧ _
  rw [hz]
  have he : IsEnum ((s.heap.push { cls := .type "tuple_iterator", data := .fields #[.ref l, .int 0 0] }).push
      { cls := .type "enumerate", data := .fields #[.none, .bool false, .ref s.heap.objs.size, rawInt 0, .none, .none] }) (s.heap.objs.size + 1) s.heap.objs.size 0 .none := by
    have := Heap.get?_push_size (s.heap.push { cls := .type "tuple_iterator", data := .fields #[.ref l, .int 0 0] })
      (o := { cls := .type "enumerate", data := .fields #[.none, .bool false, .ref s.heap.objs.size, rawInt 0, .none, .none] }) rfl
    rw [hz] at this; exact this
  refine ⟨⟨_, he, rfl⟩, h _ he ⟨_, Heap.get?_push_of_some _ (Heap.get?_push_size _ rfl), rfl, rfl⟩ (by rw [Heap.size_push, hz]) fun b o x => Heap.get?_push_of_some _ (Heap.get?_push_of_some _ x)⟩
theorem pyNext_enumT_end {e it l : Addr} {i : Nat} {items : Array Value} {old : Value} {Q : Option Value → Shared → Prop} (hh : A.handled = none)
    (he : IsEnum s.heap e it i old) (hit : s.heap.IsTupleIter it l i) (hl : s.heap.IsTuple l items) (hx : items[i]? = none)
    (hQ : ∀ h', Heap.ExtBut it s.heap h' → Q none { s with heap := h' }) : wpAny (model prog w) A (pyNext (.ref e)) Q E s := by
  have hT : s.TypeIs (.ref e) "enumerate" := ⟨_, he, rfl⟩
  unfold pyNext
  refine wpAny_bind (wpAny_attempt (wpAny_callSpecial?_slot (name := Str.ofString "__next__") hT F.slot_enumerate_next
    (wpAny_call_entry F.slot_enumerate_next hT F.entry_enumerate_next ?_ (F.args_enumerate_next_1 _))))
  show wpAny _ _ (field (.ref e) 2 >>= _) _ _ _
  refine wpAny_bind (wpAny_field he rfl (x := .ref it) rfl ?_)
  refine wpAny_bind (wpAny_nextOf_tuple_end hh hit hl hx fun h' x he' hx' => ?_)
  obtain ⟨o, ho, hc⟩ := hx'
  refine wpAny_bind (wpAny_isInstance (T := "StopIteration") (b := true) ⟨o, ho, hc⟩ isSubtype_stop ?_)
  exact wpAny_pure (hQ _ he')
end
open L2
def IteT (K : PySem.W.Frag) (a : Addr) : It :=
  ⟨fun i H => ∃ (xs : List V) (x : V), SqT K H a xs ∧ xs[i]? = some x, fun i H v H' => ∃ T x, v = .ref T ∧ H T = none ∧ H' = L2.upd H T (.tup [.int (i : Nat), x]) ∧ ∀ xs, SqT K H a xs → xs[i]? = some x, fun i H => ∃ xs : List V, SqT K H a xs ∧ xs.length ≤ i⟩
theorem turn_enumT {P : Program} {w : World} {K : PySem.W.Frag} {elts : List Expr} {kk : Nat} {tpos : Pos} (a e it : Addr) (hai : a ≠ it) (hae : a ≠ e) :
    Turn P w K (.Tuple elts kk tpos) (IteT K a) [e, it] e (fun i h => (∃ old, IsEnum h e it ((i : Nat) : Int) old) ∧ h.IsTupleIter it a i ∧ e ≠ it) where
  mem := by simp
  obj := fun i h st b hb => by
    obtain ⟨⟨old, he⟩, ⟨o, ho, hc, hd⟩, _⟩ := st
    have e' : b = e ∨ b = it := by simpa using hb
    rcases e' with z | z
    · rw [z]; exact ⟨_, he, fun v q => nomatch q⟩
    · rw [z]; exact ⟨o, ho, fun v q => by rw [hd] at q; cases q⟩
  keep := fun i h h' st k => let ⟨⟨old, he⟩, hi, hne⟩ := st; ⟨⟨old, k e (by simp) _ he⟩, hi.at fun o q => k it (by simp) o q, hne⟩
  item := by
    intro X hP hw hK hc i pins s σ H E I hf st hg
    subst hP hw hK
    obtain ⟨⟨old, he⟩, hit, hne⟩ := st
    obtain ⟨xs, x, hq, hx⟩ := hg
    obtain ⟨its, rv, p, hz⟩ := I.tuple hq
    obtain ⟨u, hu, ru⟩ := rv.get hx
    have hel : e < s.heap.objs.size := Heap.lt_size he
    have hil : it < s.heap.objs.size := by obtain ⟨_, q, _⟩ := hit; exact Heap.lt_size q
    have DD := Draws.tuple (prog := X.prog) (w := X.w) (A := X.A.in1) (I.ok.hd hc) it a hai its.toArray
    have hi : i < its.toArray.size := by
      have := (List.getElem?_eq_some_iff.mp hu).1
      simpa using this
    refine wpAny_pyNext_enum_itemD DD he ⟨hit, p⟩ hi hne (by simp [hne, hae.symm]) fun x' h' tk hP ho hst' hT hsz hk => ?_
    have hxu : x' = u := by
      have h1 : its.toArray[i]? = some x' := hP
      have h2 : its.toArray[i]? = some u := by simpa using hu
      rw [h1] at h2; exact Option.some.inj h2
    subst hxu
    obtain ⟨hit', _⟩ := hst'
    refine ⟨_, rfl, wpAny_letOwnedTupleGo_enum (s := { s with heap := h', toks := tk + 1 }) ho fun h'' he' sb => ?_⟩
    have hT2 : h''.get? s.heap.objs.size = some { cls := .type "tuple", data := .seq #[.int i tk, x'] } := (sb.2 _ (Nat.ne_of_gt hel)).trans hT
    have new : ObjOk X.prog X.w (L2.upd H s.heap.objs.size (.tup [.int (i : Nat), x])) h'' s.heap.objs.size (.tup [.int (i : Nat), x]) :=
      ⟨by show 2 ≤ sizeLine; decide, [.int i tk, x'], .cons ⟨_, rfl⟩ (.cons ru .nil), ⟨_, hT2, rfl, _, rfl⟩⟩
    have I1 : Inv X pins σ (L2.upd H s.heap.objs.size (.tup [.int (i : Nat), x])) { s with heap := h'', toks := tk + 1 } :=
      I.turnedNew (ch := [e, it]) (fun b ob hb q => (sb.2 b (fun z => hb (by simp [z]))).trans (hk b ob (fun z => hb (by simp [z])) (fun z => hb (by simp [z])) q)) hf (Nat.le_refl _) new
    refine ⟨.ref s.heap.objs.size, _, I1, rfl, ⟨_, x, rfl, I.hok.fresh (Nat.le_refl _), rfl, fun ys hy => by rw [I.tuple_inj hy hq]; exact hx⟩, ⟨⟨x', ?_⟩, hit'.at fun o q => (sb.2 it (Ne.symm hne)).trans q, hne⟩, fun b hb => ?_⟩
    · have e1 : ((i + 1 : Nat) : Int) = (i : Int) + 1 := by omega
      rw [e1]; exact he'
    · have hb' : b < s.heap.objs.size := by
        have e' : b = e ∨ b = it := by simpa using hb
        rcases e' with z | z
        · rw [z]; exact hel
        · rw [z]; exact hil
      rw [upd_ne (Nat.ne_of_lt hb')]
      exact (hf b hb).1
  done := by
    intro X hP hw hK hc i pins s σ H E I hf st hg
    subst hP hw hK
    obtain ⟨⟨old, he⟩, hit, hne⟩ := st
    obtain ⟨xs, hq, hx⟩ := hg
    obtain ⟨its, rv, p, hz⟩ := I.tuple hq
    obtain ⟨f0, f1, f2, f3, f4, f5⟩ := hf it (by simp)
    have hl := rv.length
    exact pyNext_enumT_end (I.ok.hd hc) he hit (show s.heap.IsTuple a its.toArray from p) (by simp; omega) fun h' eb => ⟨rfl, I.turned (t' := s.toks) (fun b o hb q => eb b o hb q) f0 f1 f3 f4 f5⟩
  self := fun A i s Q E st h => let ⟨⟨_, he⟩, _⟩ := st; wpAny_pyIter_enum he h
def iEnumA (K : PySem.W.Frag) (ta : TA) : TI := fun σ H R => ta σ H fun vs H1 => ∃ a xs, vs = [.ref a] ∧ ((SqL K H1 a xs ∧ R (Ite K a) H1) ∨ (SqT K H1 a xs ∧ R (IteT K a) H1))
theorem pi_enumA {X : Cx} {e : Expr} {ta : TA} {p pos tpos : Pos} {elts : List Expr} {kk : Nat} (hg : Gl X "enumerate") (hm : X.mg "enumerate" = none) (ha : PA X [e] ta) (hs : starEach [e] X.env = [(false, eval e X.env)] := by rfl) :
    PI X (.Tuple elts kk tpos) (.Call (.Name "enumerate" p) [e] [] pos) (iEnumA X.K ta) := by
  refine ⟨fun pins s σ H R I h => ?_⟩
  refine Call_ (ld_blt I hg hm boot_enumerate (PyProof.Rows.callWith_type1 (thn (ha.run pos pins s σ H _ I h) fun us s1 ⟨vs, H1, I1, r1, q1⟩ => ?_) hs rfl))
  obtain ⟨a, xs, ex, q⟩ := q1
  subst ex
  cases r1 with
  | cons r rr =>
    cases rr
    cases r
    have fr2 : ∀ b, b ∈ [s1.heap.objs.size + 1, s1.heap.objs.size] → FpOk X pins H1 b := fun b hb => by
      have e' : b = s1.heap.objs.size + 1 ∨ b = s1.heap.objs.size := by simpa using hb
      have hle : s1.heap.objs.size ≤ b := by
        rcases e' with z | z
        · rw [z]; exact Nat.le_add_right _ _
        · rw [z]; exact Nat.le_refl _
      exact I1.fpOk hle (I1.hok.fresh hle)
    rcases q with ⟨hq, q⟩ | ⟨hq, q⟩
    · obtain ⟨its, rv, p', hz⟩ := I1.list hq
      refine call_enumerate_list p'.isList fun h' he hit hsz hk => wpAny_pyIter_enum he ?_
      have I2 : Inv X pins σ H1 { s1 with heap := h' } := I1.kept (t' := s1.toks) hk
      exact ⟨s1.heap.objs.size + 1, [s1.heap.objs.size + 1, s1.heap.objs.size], _, _, H1, rfl, I2, turn_enum a (s1.heap.objs.size + 1) s1.heap.objs.size, ⟨⟨.none, he⟩, hit, Nat.succ_ne_self _⟩, fr2, q⟩
    · obtain ⟨its, rv, p', hz⟩ := I1.tuple hq
      obtain ⟨o1, ho1, _⟩ := id p'
      have hlt := Heap.lt_size ho1
      refine call_enumerate_tuple (show s1.heap.IsTuple a its.toArray from p') fun h' he hit hsz hk => wpAny_pyIter_enum he ?_
      have I2 : Inv X pins σ H1 { s1 with heap := h' } := I1.kept (t' := s1.toks) hk
      exact ⟨s1.heap.objs.size + 1, [s1.heap.objs.size + 1, s1.heap.objs.size], _, _, H1, rfl, I2, turn_enumT a (s1.heap.objs.size + 1) s1.heap.objs.size (Nat.ne_of_lt hlt) (Nat.ne_of_lt (Nat.lt_succ_of_lt hlt)), ⟨⟨.none, he⟩, hit, Nat.succ_ne_self _⟩, fr2, q⟩
end Dl
namespace Dl
open PySem L2
abbrev FG := D → Rho → Option Rho
def Dg (X : Cx) (tg : Expr) (is : List Nat) (f : FG) : Prop :=
  ∃ g, PG X tg g ∧ ∀ G α ρ σ H d v (Q : St → Hp → Prop), Same G H → Slots X.K X.mg G α ρ σ → Rep X.K X.mg G d v →
    (match f d ρ with
      | none => False
      | some ρ' => ∀ σ', Slots X.K X.mg G α ρ' σ' → (∀ j, j ∉ is → σ'[j]? = σ[j]?) → σ'.length = σ.length → Q σ' H) → g v σ H Q
def Dgs (X : Cx) (tgs : List Expr) (is : List Nat) (f : List D → Rho → Option Rho) : Prop :=
  ∃ g, PGs X tgs g ∧ ∀ G α ρ σ H ds vs (Q : St → Hp → Prop), Same G H → Slots X.K X.mg G α ρ σ → Reps X.K X.mg G ds vs →
    (match f ds ρ with
      | none => False
      | some ρ' => ∀ σ', Slots X.K X.mg G α ρ' σ' → (∀ j, j ∉ is → σ'[j]? = σ[j]?) → σ'.length = σ.length → Q σ' H) → g vs σ H Q
def gN (i : Nat) : FG := fun d ρ => some (ρ.set i (some (.val d)))
def gsNil : List D → Rho → Option Rho := fun ds ρ => match ds with
  | [] => some ρ
  | _ => none
def gsCons (f : FG) (g : List D → Rho → Option Rho) : List D → Rho → Option Rho := fun ds ρ => match ds with
  | [] => none
  | d :: r => (f d ρ).bind fun ρ1 => g r ρ1
def gT (n : Nat) (g : List D → Rho → Option Rho) : FG := fun d ρ => match d with
  | .tup ds => if ds.length = n then g ds ρ else none
  | .lst ds => if ds.length = n then g ds ρ else none
  | _ => none
section
variable {X : Cx} {pos : Pos}
theorem sqL_same {K : PySem.W.Frag} {H H' : Hp} {a : Addr} {xs : List V} (e : Same H H') (h : SqL K H a xs) : SqL K H' a xs := by
  rcases h with (h | ⟨o, h⟩) | h
  · exact .inl (.inl (e _ _ h))
  · exact .inl (.inr ⟨o, e _ _ h⟩)
  · exact .inr h
theorem pg_or {e : Expr} {t1 t2 : TG} (h1 : PG X e t1) (h2 : PG X e t2) : PG X e (fun v σ H Q => t1 v σ H Q ∨ t2 v σ H Q) := ⟨fun pins s σ H v u Q I r hw => hw.elim (h1.run pins s σ H v u Q I r) (h2.run pins s σ H v u Q I r)⟩
theorem dg_name {i : Nat} {x : Str} (hN : X.N.Nodup) (hi : X.N[i]? = some x := by rfl) (hx : Loc X.env.scope x := by first | exact Or.inl rfl | exact Or.inr rfl) (hf : X.fn x = true ∨ X.env.scope.names.lookup x = some .local := by first | exact .inl rfl | exact .inr rfl) : Dg X (.Name x pos) [i] (gN i) := by
  refine ⟨_, pg_name hN hi hx hf, fun G α ρ σ H d v Q s S r h => ?_⟩
  exact h _ (S.set i (x := .val d) r) (fun j hj => List.getElem?_set_ne (by intro e; subst e; exact hj (List.mem_singleton.mpr rfl))) (by simp)
theorem dgs_nil : Dgs X [] [] gsNil := by
  refine ⟨_, pgs_nil, fun G α ρ σ H ds vs Q s S r h => ?_⟩
  cases ds with
  | nil => exact ⟨reps_nil.mp r, h σ S (fun _ _ => rfl) rfl⟩
  | cons _ _ => exact h.elim
theorem dgs_cons {e : Expr} {es : List Expr} {is js : List Nat} {f : FG} {g : List D → Rho → Option Rho} (h1 : Dg X e is f) (h2 : Dgs X es js g)
    (hs : (assignEach (e :: es) X.env).map (·.2) = assign e X.env :: (assignEach es X.env).map (·.2) := by rfl) : Dgs X (e :: es) (is ++ js) (gsCons f g) := by
  obtain ⟨t1, p1, k1⟩ := h1
  obtain ⟨t2, p2, k2⟩ := h2
  refine ⟨_, pgs_cons p1 p2 hs, fun G α ρ σ H ds vs Q s S r h => ?_⟩
  cases ds with
  | nil => exact h.elim
  | cons d r' =>
    rw [reps_cons] at r
    obtain ⟨v, vr, rfl, q1, q2⟩ := r
    refine ⟨v, vr, rfl, k1 G α ρ σ H d v _ s S q1 ?_⟩
    unfold gsCons at h
    dsimp only at h
    cases e1 : f d ρ with
    | none => rw [e1] at h; exact h.elim
    | some ρ1 =>
      rw [e1] at h
      intro σ1 S1 c1 l1
      refine k2 G α ρ1 σ1 H r' vr _ s S1 q2 ?_
      have h' : (match g r' ρ1 with
        | none => False
        | some ρ' => ∀ σ', Slots X.K X.mg G α ρ' σ' → (∀ j, j ∉ is ++ js → σ'[j]? = σ[j]?) → σ'.length = σ.length → Q σ' H) := h
      cases e2 : g r' ρ1 with
      | none => rw [e2] at h'; exact h'.elim
      | some ρ2 =>
        rw [e2] at h'
        intro σ2 S2 c2 l2
        exact h' σ2 S2 (fun j hj => (c2 j fun z => hj (List.mem_append_right _ z)).trans (c1 j fun z => hj (List.mem_append_left _ z))) (l2.trans l1)
theorem dg_tup {es : List Expr} {k n : Nat} {is : List Nat} {g : List D → Rho → Option Rho} (hc : X.calm = true) (h : Dgs X es is g)
    (hn : (assignEach es X.env).length = n := by rfl) (hst : (assignEach es X.env).findIdx? (·.1) = none := by rfl) : Dg X (.Tuple es k pos) is (gT n g) := by
  obtain ⟨t, p, kk⟩ := h
  refine ⟨_, pg_or (pg_tup hc p hn hst) (pg_unl hc p hn hst), fun G α ρ σ H d v Q s S r h => ?_⟩
  unfold gT at h
  cases d with
  | tup ds =>
    dsimp only at h
    rw [rep_tup] at r
    obtain ⟨a, vs, rfl, q, rs⟩ := r
    split at h
    · exact h.elim
    · rename_i ρ' e1
      split at e1
      · rename_i hl
        refine .inl ⟨a, vs, rfl, Same.sqT s q, by rw [rs.length]; exact hl, kk G α ρ σ H ds vs Q s S rs ?_⟩
        rw [e1]
        exact h
      · cases e1
  | lst ds =>
    dsimp only at h
    rw [rep_lst] at r
    obtain ⟨a, vs, rfl, q, rs⟩ := r
    split at h
    · exact h.elim
    · rename_i ρ' e1
      split at e1
      · rename_i hl
        refine .inr ⟨a, vs, rfl, sqL_same s q, by rw [rs.length]; exact hl, kk G α ρ σ H ds vs Q s S rs ?_⟩
        rw [e1]
        exact h
      · cases e1
  | _ => exact h.elim
end
def WalkD (K : PySem.W.Frag) (mg : MG) (st : Hp → Hp → Prop) (J : It) (ds : List D) : Prop :=
  ∀ i G H, Same G H → st G H → (∀ d, ds[i]? = some d → J.go i H ∧ ∀ x H', J.yld i H x H' → ∃ G', Grow G H G' H' ∧ Rep K mg G' d x) ∧ (ds.length ≤ i → J.stop i H)
def RI (K : PySem.W.Frag) (mg : MG) : Hp → List Addr → Hp → List D → It → Prop := fun G _ _ ds J => WalkD K mg (fun G' _ => Same G G') J ds
def Di (X : Cx) (W : WX) (tg iter : Expr) (f : FE (List D)) : Prop :=
  ∃ wi, PI X tg iter wi ∧ ∀ G α ρ ω σ H (R : It → Hp → Prop), Own X.K X.mg G α ω H → Slots X.K X.mg G α ρ σ → Post X.K X.mg (RI X.K X.mg) G α H R (fun c d H' => W c d σ H') (f ρ ω) → wi σ H R
section
variable {K : PySem.W.Frag} {mg : MG}
theorem walk_l {a : Addr} {st : Hp → Hp → Prop} {ds : List D} (h : ∀ G H, Same G H → st G H → ∃ vs, SqL K H a vs ∧ Reps K mg G ds vs) : WalkD K mg st (Itl K a) ds := by
  intro i G H s q
  obtain ⟨vs, h1, h2⟩ := h G H s q
  refine ⟨fun d hd => ?_, fun hl => ⟨vs, h1, by rw [h2.length]; exact hl⟩⟩
  obtain ⟨v, h3, h4⟩ := h2.get hd
  refine ⟨⟨vs, v, h1, h3⟩, fun x H' y => ?_⟩
  obtain ⟨rfl, y⟩ := y
  have := y vs h1
  rw [h3] at this; cases this
  exact ⟨G, Grow.refl s, h4⟩
theorem walk_t {a : Addr} {st : Hp → Hp → Prop} {ds : List D} (h : ∀ G H, Same G H → st G H → ∃ vs, SqT K H a vs ∧ Reps K mg G ds vs) : WalkD K mg st (Itt K a) ds := by
  intro i G H s q
  obtain ⟨vs, h1, h2⟩ := h G H s q
  refine ⟨fun d hd => ?_, fun hl => ⟨vs, h1, by rw [h2.length]; exact hl⟩⟩
  obtain ⟨v, h3, h4⟩ := h2.get hd
  refine ⟨⟨vs, v, h1, h3⟩, fun x H' y => ?_⟩
  obtain ⟨rfl, y⟩ := y
  have := y vs h1
  rw [h3] at this; cases this
  exact ⟨G, Grow.refl s, h4⟩
def pairI (i : Nat) (d : D) : D := .tup [.int (i : Nat), d]
def enumD (ds : List D) : List D := ds.mapIdx pairI
theorem pair_new {G H : Hp} {T : Addr} {d e : D} {v u : V} (s : Same G H) (hT : H T = none) (r1 : Rep K mg G d v) (r2 : Rep K mg G e u) : ∃ G', Grow G H G' (L2.upd H T (.tup [v, u])) ∧ Rep K mg G' (.tup [d, e]) (.ref T) :=
  ⟨_, Grow.put s hT, rep_newT (H := H) (s.free hT) (reps_cons.mpr ⟨_, _, rfl, r1, Reps.one r2⟩)⟩
theorem walk_el {a : Addr} {st : Hp → Hp → Prop} {ds : List D} (h : ∀ G H, Same G H → st G H → ∃ vs, SqL K H a vs ∧ Reps K mg G ds vs) : WalkD K mg st (Ite K a) (enumD ds) := by
  intro i G H s q
  obtain ⟨vs, h1, h2⟩ := h G H s q
  refine ⟨fun d hd => ?_, fun hl => ⟨vs, h1, by rw [h2.length]; simpa [enumD] using hl⟩⟩
  unfold enumD at hd
  rw [List.getElem?_mapIdx] at hd
  cases q1 : ds[i]? with
  | none => rw [q1] at hd; cases hd
  | some d0 =>
    rw [q1] at hd; cases hd
    obtain ⟨v, h3, h4⟩ := h2.get q1
    refine ⟨⟨vs, v, h1, h3⟩, fun x H' y => ?_⟩
    obtain ⟨T, x0, rfl, hT, rfl, y⟩ := y
    have := y vs h1
    rw [h3] at this; cases this
    exact pair_new s hT (rep_int.mpr rfl) h4
theorem walk_et {a : Addr} {st : Hp → Hp → Prop} {ds : List D} (h : ∀ G H, Same G H → st G H → ∃ vs, SqT K H a vs ∧ Reps K mg G ds vs) : WalkD K mg st (IteT K a) (enumD ds) := by
  intro i G H s q
  obtain ⟨vs, h1, h2⟩ := h G H s q
  refine ⟨fun d hd => ?_, fun hl => ⟨vs, h1, by rw [h2.length]; simpa [enumD] using hl⟩⟩
  unfold enumD at hd
  rw [List.getElem?_mapIdx] at hd
  cases q1 : ds[i]? with
  | none => rw [q1] at hd; cases hd
  | some d0 =>
    rw [q1] at hd; cases hd
    obtain ⟨v, h3, h4⟩ := h2.get q1
    refine ⟨⟨vs, v, h1, h3⟩, fun x H' y => ?_⟩
    obtain ⟨T, x0, rfl, hT, rfl, y⟩ := y
    have := y vs h1
    rw [h3] at this; cases this
    exact pair_new s hT (rep_int.mpr rfl) h4
def pairD (d e : D) : D := .tup [d, e]
def zipD (ds es : List D) : List D := List.zipWith pairD ds es
theorem walk_zl {a b : Addr} {st : Hp → Hp → Prop} {ds es : List D} (h : ∀ G H, Same G H → st G H → ∃ vs us, SqL K H a vs ∧ Reps K mg G ds vs ∧ SqL K H b us ∧ Reps K mg G es us) : WalkD K mg st (Itz K a b) (zipD ds es) := by
  intro i G H s q
  obtain ⟨vs, us, h1, h2, h5, h6⟩ := h G H s q
  refine ⟨fun d hd => ?_, fun hl => ⟨vs, us, h1, h5, by rw [h2.length, h6.length]; unfold zipD at hl; rw [List.length_zipWith] at hl; omega⟩⟩
  unfold zipD at hd
  rw [List.getElem?_zipWith] at hd
  cases q1 : ds[i]? with
  | none => rw [q1] at hd; cases hd
  | some d0 =>
    cases q2 : es[i]? with
    | none => rw [q1, q2] at hd; cases hd
    | some e0 =>
      rw [q1, q2] at hd; cases hd
      obtain ⟨v, h3, h4⟩ := h2.get q1
      obtain ⟨u, h7, h8⟩ := h6.get q2
      refine ⟨⟨vs, us, v, u, h1, h5, h3, h7⟩, fun x H' y => ?_⟩
      obtain ⟨T, x0, y0, rfl, hT, rfl, y1, y2⟩ := y
      have z1 := y1 vs h1
      rw [h3] at z1; cases z1
      have z2 := y2 us h5
      rw [h7] at z2; cases z2
      exact pair_new s hT h4 h8
theorem walk_zt {a b : Addr} {st : Hp → Hp → Prop} {ds es : List D} (h : ∀ G H, Same G H → st G H → ∃ vs us, SqT K H a vs ∧ Reps K mg G ds vs ∧ SqT K H b us ∧ Reps K mg G es us) : WalkD K mg st (RZ.ItzT K a b) (zipD ds es) := by
  intro i G H s q
  obtain ⟨vs, us, h1, h2, h5, h6⟩ := h G H s q
  refine ⟨fun d hd => ?_, fun hl => ⟨vs, us, h1, h5, by rw [h2.length, h6.length]; unfold zipD at hl; rw [List.length_zipWith] at hl; omega⟩⟩
  unfold zipD at hd
  rw [List.getElem?_zipWith] at hd
  cases q1 : ds[i]? with
  | none => rw [q1] at hd; cases hd
  | some d0 =>
    cases q2 : es[i]? with
    | none => rw [q1, q2] at hd; cases hd
    | some e0 =>
      rw [q1, q2] at hd; cases hd
      obtain ⟨v, h3, h4⟩ := h2.get q1
      obtain ⟨u, h7, h8⟩ := h6.get q2
      refine ⟨⟨vs, us, v, u, h1, h5, h3, h7⟩, fun x H' y => ?_⟩
      obtain ⟨T, x0, y0, rfl, hT, rfl, y1, y2⟩ := y
      have z1 := y1 vs h1
      rw [h3] at z1; cases z1
      have z2 := y2 us h5
      rw [h7] at z2; cases z2
      exact pair_new s hT h4 h8
def rngD (lo hi : Int) : List D := (List.range (hi - lo).toNat).map fun i => .int (lo + (i : Nat))
theorem walk_r {lo : Int} {n : Nat} {st : Hp → Hp → Prop} : WalkD K mg st (Itr lo n) ((List.range n).map fun i => .int (lo + (i : Nat))) := by
  intro i G H s q
  refine ⟨fun d hd => ?_, fun hl => by show n ≤ i; simpa using hl⟩
  rw [List.getElem?_map] at hd
  by_cases hi : i < n
  · rw [List.getElem?_range hi] at hd
    cases hd
    refine ⟨hi, fun x H' y => ?_⟩
    obtain ⟨rfl, rfl⟩ := y
    exact ⟨G, Grow.refl s, rep_int.mpr rfl⟩
  · rw [List.getElem?_eq_none (by simpa using hi)] at hd
    cases hd
end
def itEn : D → Option (List D)
  | .lst ds => some (enumD ds)
  | .tup ds => some (enumD ds)
  | _ => none
def itZ : D → D → Option (List D)
  | .lst ds, .lst es => some (zipD ds es)
  | .tup ds, .tup es => some (zipD ds es)
  | _, _ => none
abbrev big : Int := 4611686018427387904
def itR1 : D → Option (List D)
  | .int j => if -big ≤ j ∧ j < big then some (rngD 0 j) else none
  | _ => none
def itR2 : D → D → Option (List D)
  | .int i, .int j => if -big ≤ i ∧ i < big ∧ -big ≤ j ∧ j < big then some (rngD i j) else none
  | _, _ => none
def eIt1 (o : D → Option (List D)) (f : FE D) : FE (List D) := fun ρ ω => (f ρ ω).bind fun d ω1 => Res.lift (o d) ω1
def eIt2 (o : D → D → Option (List D)) (f g : FE D) : FE (List D) := fun ρ ω => (f ρ ω).bind fun d ω1 => (g ρ ω1).bind fun e ω2 => Res.lift (o d e) ω2
def eIt3 (o : D → D → D → Option (List D)) (f g h : FE D) : FE (List D) := fun ρ ω => (f ρ ω).bind fun d ω1 => (g ρ ω1).bind fun e ω2 => (h ρ ω2).bind fun k ω3 => Res.lift (o d e k) ω3
section
variable {X : Cx} {W : WX} {tg a b c e : Expr} {p pos : Pos} {f g h : FE D}
def itSeq : D → Option (List D)
  | .lst ds => some ds
  | .tup ds => some ds
  | _ => none
theorem pi_seq {l : Expr} {tl : TE} (hl : PE X l tl) : PI X tg l (fun σ H R => iList X.K tl σ H R ∨ iTup X.K tl σ H R) :=
  ⟨fun pins s σ H R I h => h.elim ((pi_list hl).run pins s σ H R I) ((pi_tup hl).run pins s σ H R I)⟩
theorem di_seq (j : De X W e f) : Di X W tg e (eIt1 itSeq f) := by
  obtain ⟨t, q, k⟩ := j
  refine ⟨_, pi_seq q, fun G α ρ ω σ H R O S P => ?_⟩
  unfold eIt1 at P
  cases r : f ρ ω with
  | stuck => rw [r] at P; exact P.elim
  | exc x ω1 =>
    rw [r] at P
    refine .inl (k G α ρ ω σ H _ O S ?_)
    rw [r]; exact P
  | ok d ω1 =>
    rw [r] at P
    cases d with
    | lst ds =>
      refine .inl (k G α ρ ω σ H _ O S ?_)
      rw [r]
      intro v G1 α1 H1 e1 O1 r1
      have r1' : Rep X.K X.mg G1 (.lst ds) v := r1
      rw [rep_lst] at r1'
      obtain ⟨a, vs, e3, q, r⟩ := r1'
      exact ⟨a, e3, ⟨vs, O1.sub.seq q⟩, Post.here O1 (walk_l fun G2 H2 s g => ⟨vs, (g.trans s).seq q, Reps.mono g _ _ r⟩) (Post.weak e1 P)⟩
    | tup ds =>
      refine .inr (k G α ρ ω σ H _ O S ?_)
      rw [r]
      intro v G1 α1 H1 e1 O1 r1
      have r1' : Rep X.K X.mg G1 (.tup ds) v := r1
      rw [rep_tup] at r1'
      obtain ⟨a, vs, e3, q, r⟩ := r1'
      exact ⟨a, e3, ⟨vs, Same.sqT O1.sub q⟩, Post.here O1 (walk_t fun G2 H2 s g => ⟨vs, Same.sqT (g.trans s) q, Reps.mono g _ _ r⟩) (Post.weak e1 P)⟩
    | _ => exact P.elim
theorem arg1 {t : TE} {K : PySem.W.Frag} {mg : MG} {β γ : Type} {R : Hp → List Addr → Hp → β → γ → Prop} {R0 : γ → Hp → Prop} {G H : Hp} {α : List Addr} {ρ : Rho} {ω : Om} {σ : St} {fn : D → Om → Res β} {Q1 : List V → Hp → Prop}
    (k : ∀ G α ρ ω σ H Q, Own K mg G α ω H → Slots K mg G α ρ σ → Post K mg (RD K mg) G α H Q (fun c d H' => W c d σ H') (f ρ ω) → t σ H Q) (O : Own K mg G α ω H) (S : Slots K mg G α ρ σ)
    (P : Post K mg R G α H R0 (fun c d H' => W c d σ H') ((f ρ ω).bind fn))
    (h : ∀ d ω1 v G1 α1 H1, Ext G α H G1 α1 H1 → Own K mg G1 α1 ω1 H1 → Rep K mg G1 d v → Post K mg R G1 α1 H1 R0 (fun c d H' => W c d σ H') (fn d ω1) → Q1 [v] H1) : tCons t tNil σ H Q1 :=
  Post.step (t := t σ H) (Q1 := fun x H1 => Q1 [x] H1) (k G α ρ ω σ H · O S) P fun d ω1 v G1 α1 H1 e1 O1 r1 P1 => h d ω1 v G1 α1 H1 e1 O1 r1 P1
theorem arg2 {t u : TE} {K : PySem.W.Frag} {mg : MG} {β γ : Type} {R : Hp → List Addr → Hp → β → γ → Prop} {R0 : γ → Hp → Prop} {G H : Hp} {α : List Addr} {ρ : Rho} {ω : Om} {σ : St} {fn : D → D → Om → Res β} {Q1 : List V → Hp → Prop}
    (k : ∀ G α ρ ω σ H Q, Own K mg G α ω H → Slots K mg G α ρ σ → Post K mg (RD K mg) G α H Q (fun c d H' => W c d σ H') (f ρ ω) → t σ H Q)
    (k2 : ∀ G α ρ ω σ H Q, Own K mg G α ω H → Slots K mg G α ρ σ → Post K mg (RD K mg) G α H Q (fun c d H' => W c d σ H') (g ρ ω) → u σ H Q) (O : Own K mg G α ω H) (S : Slots K mg G α ρ σ)
    (P : Post K mg R G α H R0 (fun c d H' => W c d σ H') ((f ρ ω).bind fun d ω1 => (g ρ ω1).bind fun e ω2 => fn d e ω2))
    (h : ∀ d e ω1 v v2 G1 α1 H1, Ext G α H G1 α1 H1 → Own K mg G1 α1 ω1 H1 → Rep K mg G1 d v → Rep K mg G1 e v2 → Post K mg R G1 α1 H1 R0 (fun c d H' => W c d σ H') (fn d e ω1) → Q1 [v, v2] H1) : tCons t (tCons u tNil) σ H Q1 := by
  refine Post.step (t := t σ H) (Q1 := fun x H1 => u σ H1 fun y H2 => Q1 [x, y] H2) (k G α ρ ω σ H · O S) P fun d ω1 v G1 α1 H1 e1 O1 r1 P1 => ?_
  refine Post.step (t := u σ H1) (k2 G1 α1 ρ ω1 σ H1 · O1 (S.mono e1)) P1 fun d2 ω2 v2 G2 α2 H2 e2 O2 r2 P2 => ?_
  exact h d d2 ω2 v v2 G2 α2 H2 (e1.trans e2) O2 (Rep.mono e2.g _ _ r1) r2 P2
theorem di_enum {elts : List Expr} {kk : Nat} {tpos : Pos} (hm : X.mg "enumerate" = none) (j : De X W e f) (hg : Gl X "enumerate" := by rfl) (hs : starEach [e] X.env = [(false, eval e X.env)] := by rfl)
    (hs2 : starEach (e :: []) X.env = (false, eval e X.env) :: starEach [] X.env := by rfl) :
    Di X W (.Tuple elts kk tpos) (.Call (.Name "enumerate" p) [e] [] pos) (eIt1 itEn f) := by
  obtain ⟨t, q, k⟩ := j
  refine ⟨_, pi_enumA hg hm (pa_cons q pa_nil hs2) hs, fun G α ρ ω σ H R O S P => ?_⟩
  refine arg1 k O S P fun d ω1 v G1 α1 H1 e1 O1 r1 P1 => ?_
  obtain ⟨ds, e2, P2⟩ := P1.lift
  cases d with
  | tup ds' =>
    cases e2
    rw [rep_tup] at r1
    obtain ⟨a, vs, rfl, q, r⟩ := r1
    exact ⟨a, vs, rfl, .inr ⟨Same.sqT O1.sub q, Post.here O1 (walk_et fun G2 H2 s g => ⟨vs, Same.sqT (g.trans s) q, Reps.mono g _ _ r⟩) P2⟩⟩
  | lst ds' =>
    cases e2
    rw [rep_lst] at r1
    obtain ⟨a, vs, rfl, q, r⟩ := r1
    exact ⟨a, vs, rfl, .inl ⟨O1.sub.seq q, Post.here O1 (walk_el fun G2 H2 s g => ⟨vs, (g.trans s).seq q, Reps.mono g _ _ r⟩) P2⟩⟩
  | _ => cases e2
theorem di_zip {elts : List Expr} {kk : Nat} {tpos : Pos} (hm : X.mg "zip" = none) (ja : De X W a f) (jb : De X W b g) (hg : Gl X "zip" := by rfl) (hs : starEach [a, b] X.env = (false, eval a X.env) :: starEach [b] X.env := by rfl)
    (hs2 : starEach [b] X.env = (false, eval b X.env) :: starEach [] X.env := by rfl) (hpl : (backTo pos (starEach [b] X.env)).any (·.1) = false := by rfl) :
    Di X W (.Tuple elts kk tpos) (.Call (.Name "zip" p) [a, b] [] pos) (eIt2 itZ f g) := by
  obtain ⟨t, q, k⟩ := ja
  obtain ⟨u, q2, k2⟩ := jb
  refine ⟨_, RZ.pi_zipA hg hm (pa_cons q (pa_cons q2 pa_nil hs2) hs) hs hpl, fun G α ρ ω σ H R O S P => ?_⟩
  refine arg2 k k2 O S P fun d e ω1 v v2 G1 α1 H1 e1 O1 r1 r2 P1 => ?_
  obtain ⟨ds, e2, P2⟩ := P1.lift
  unfold itZ at e2
  split at e2
  · cases e2
    rw [rep_lst] at r1 r2
    obtain ⟨a, vs, rfl, q, r⟩ := r1
    obtain ⟨b, us, rfl, q', r'⟩ := r2
    exact ⟨a, b, vs, us, rfl, .inl ⟨O1.sub.seq q, O1.sub.seq q', Post.here O1 (walk_zl fun G2 H2 s g => ⟨vs, us, (g.trans s).seq q, Reps.mono g _ _ r, (g.trans s).seq q', Reps.mono g _ _ r'⟩) P2⟩⟩
  · cases e2
    rw [rep_tup] at r1 r2
    obtain ⟨a, vs, rfl, q, r⟩ := r1
    obtain ⟨b, us, rfl, q', r'⟩ := r2
    exact ⟨a, b, vs, us, rfl, .inr ⟨Same.sqT O1.sub q, Same.sqT O1.sub q', Post.here O1 (walk_zt fun G2 H2 s g => ⟨vs, us, Same.sqT (g.trans s) q, Reps.mono g _ _ r, Same.sqT (g.trans s) q', Reps.mono g _ _ r'⟩) P2⟩⟩
  · cases e2
theorem di_range1 (hm : X.mg "range" = none) (j : De X W a f) (hg : Gl X "range" := by rfl) (hs : starEach [a] X.env = [(false, eval a X.env)] := by rfl)
    (hs2 : starEach (a :: []) X.env = (false, eval a X.env) :: starEach [] X.env := by rfl) : Di X W tg (.Call (.Name "range" p) [a] [] pos) (eIt1 itR1 f) := by
  obtain ⟨t, q, k⟩ := j
  refine ⟨_, pi_range1 hg hm (pa_cons q pa_nil hs2) hs, fun G α ρ ω σ H R O S P => ?_⟩
  refine arg1 k O S P fun d ω1 v G1 α1 H1 e1 O1 r1 P1 => ?_
  obtain ⟨ds, e2, P2⟩ := P1.lift
  unfold itR1 at e2
  split at e2
  · split at e2
    · rename_i j hb
      cases e2
      rw [rep_int] at r1
      subst r1
      refine ⟨j, rfl, by have := hb.1; simpa using this, by have := hb.2; simpa using this, ?_⟩
      have w : WalkD X.K X.mg (fun G' _ => Same G1 G') (Itr 0 j.toNat) (rngD 0 j) := by
        have := @walk_r X.K X.mg 0 j.toNat (fun G' _ => Same G1 G')
        unfold rngD
        rw [Int.sub_zero]
        exact this
      exact Post.here O1 w P2
    · cases e2
  · cases e2
theorem di_range2 (hm : X.mg "range" = none) (ja : De X W a f) (jb : De X W b g) (hg : Gl X "range" := by rfl) (hs : starEach [a, b] X.env = [(false, eval a X.env), (false, eval b X.env)] := by rfl)
    (hs1 : starEach [a, b] X.env = (false, eval a X.env) :: starEach [b] X.env := by rfl)
    (hs2 : starEach [b] X.env = [(false, eval b X.env)] := by rfl) (hs3 : starEach [b] X.env = (false, eval b X.env) :: starEach [] X.env := by rfl) : Di X W tg (.Call (.Name "range" p) [a, b] [] pos) (eIt2 itR2 f g) := by
  obtain ⟨t, q, k⟩ := ja
  obtain ⟨u, q2, k2⟩ := jb
  refine ⟨_, pi_range2 hg hm (pa_cons q (pa_cons q2 pa_nil hs3) hs1) hs hs2, fun G α ρ ω σ H R O S P => ?_⟩
  refine arg2 k k2 O S P fun d e ω1 v v2 G1 α1 H1 e1 O1 r1 r2 P1 => ?_
  obtain ⟨ds, e2, P2⟩ := P1.lift
  unfold itR2 at e2
  split at e2
  · split at e2
    · rename_i i j hb
      cases e2
      rw [rep_int] at r1 r2
      subst r1 r2
      exact ⟨i, j, rfl, ⟨by have := hb.1; simpa using this, by have := hb.2.1; simpa using this, by have := hb.2.2.1; simpa using this, by have := hb.2.2.2; simpa using this⟩, Post.here O1 walk_r P2⟩
    · cases e2
  · cases e2
end
end Dl
namespace Dl
open PySem L2
inductive Out where
  | stuck
  | next (ρ : Rho) (ω : Om)
  | brk (ρ : Rho) (ω : Om)
  | cont (ρ : Rho) (ω : Om)
  | ret (x : SV) (ω : Om)
  | exc (x : Exn) (ρ : Rho) (ω : Om)
abbrev FS := Rho → Om → Out
def Res.out {β : Type} (r : Res β) (ρ : Rho) (k : β → Om → Out) : Out := match r with
  | .stuck => .stuck
  | .ok b ω => k b ω
  | .exc x ω => .exc x ρ ω
def Out.bind (r : Out) (k : Rho → Om → Out) : Out := match r with
  | .next ρ ω => k ρ ω
  | o => o
def PostS (K : PySem.W.Frag) (mg : MG) (G : Hp) (α : List Addr) (H : Hp) (D : Ends) (W : WX) : Out → Prop
  | .stuck => False
  | .next ρ' ω' => ∀ σ' G' α' H', Ext G α H G' α' H' → Own K mg G' α' ω' H' → Slots K mg G' α' ρ' σ' → D.nx σ' H'
  | .brk ρ' ω' => ∀ σ' G' α' H', Ext G α H G' α' H' → Own K mg G' α' ω' H' → Slots K mg G' α' ρ' σ' → D.bk σ' H'
  | .cont ρ' ω' => ∀ σ' G' α' H', Ext G α H G' α' H' → Own K mg G' α' ω' H' → Slots K mg G' α' ρ' σ' → D.ct σ' H'
  | .ret x ω' => ∀ v G' α' H', Ext G α H G' α' H' → Own K mg G' α' ω' H' → RepV K mg G' α' x v → D.rt v H'
  | .exc x ρ' ω' => ∀ c dd σ' G' α' H', Ext G α H G' α' H' → Own K mg G' α' ω' H' → Slots K mg G' α' ρ' σ' → RepX K mg G' x c dd → W c dd σ' H'
def Ds (X : Cx) (W : WX) (st : Stmt) (f : FS) : Prop :=
  ∃ t, PS X st t ∧ ∀ G α ρ ω σ H D, Own X.K X.mg G α ω H → Slots X.K X.mg G α ρ σ → PostS X.K X.mg G α H D W (f ρ ω) → t D σ H
def Dss (X : Cx) (W : WX) (st : List Stmt) (f : FS) : Prop :=
  ∃ t, PSs X st t ∧ ∀ G α ρ ω σ H D, Own X.K X.mg G α ω H → Slots X.K X.mg G α ρ σ → PostS X.K X.mg G α H D W (f ρ ω) → t D σ H
section
variable {K : PySem.W.Frag} {mg : MG} {G G1 H H1 : Hp} {α α1 : List Addr} {D D2 : Ends} {W : WX} {ω : Om} {ρ : Rho} {σ : St}
theorem PostS.weak {r : Out} (e : Ext G α H G1 α1 H1) (h : PostS K mg G α H D W r) : PostS K mg G1 α1 H1 D W r := by
  cases r with
  | stuck => exact h
  | next ρ' ω' => exact fun σ' G' α' H' e' O S => h σ' G' α' H' (e.trans e') O S
  | brk ρ' ω' => exact fun σ' G' α' H' e' O S => h σ' G' α' H' (e.trans e') O S
  | cont ρ' ω' => exact fun σ' G' α' H' e' O S => h σ' G' α' H' (e.trans e') O S
  | ret x ω' => exact fun v G' α' H' e' O q => h v G' α' H' (e.trans e') O q
  | exc x ρ' ω' => exact fun c dd σ' G' α' H' e' O S q => h c dd σ' G' α' H' (e.trans e') O S q
theorem PostS.step {β γ : Type} {R : Hp → List Addr → Hp → β → γ → Prop} {t : (γ → Hp → Prop) → Prop} {r : Res β} {g : β → Om → Out} {Q1 : γ → Hp → Prop} (S : Slots K mg G α ρ σ) (J : ∀ Q, Post K mg R G α H Q (fun c d H' => W c d σ H') r → t Q) (h : PostS K mg G α H D W (r.out ρ g))
    (k : ∀ b ω1 v G' α' H', Ext G α H G' α' H' → Own K mg G' α' ω1 H' → R G' α' H' b v → PostS K mg G' α' H' D W (g b ω1) → Q1 v H') : t Q1 := by
  cases r with
  | stuck => exact h.elim
  | ok b ω' => exact J Q1 fun v G' α' H' e O q => k b ω' v G' α' H' e O q (PostS.weak e h)
  | exc x ω' => exact J Q1 fun c dd G' α' H' e O q => h c dd σ G' α' H' e O (S.mono e) q
theorem PostS.here_nx {ρ' : Rho} {σ' : St} (O : Own K mg G α ω H) (S : Slots K mg G α ρ' σ') (h : PostS K mg G α H D W (.next ρ' ω)) : D.nx σ' H := h σ' G α H Ext.refl O S
end
section
variable {X : Cx} {W : WX} {st : Stmt} {rest : List Stmt} {f g : FS} {e c : Expr} {fe : FE D} {pos : Pos}
def sNext : FS := fun ρ ω => .next ρ ω
def sSeq (f g : FS) : FS := fun ρ ω => (f ρ ω).bind g
theorem dss_nil : Dss X W [] sNext := ⟨_, pss_nil, fun G α ρ ω σ H D O S P => P.here_nx O S⟩
theorem dss_cons (h1 : Ds X W st f) (h2 : Dss X W rest g) : Dss X W (st :: rest) (sSeq f g) := by
  obtain ⟨t, p, k⟩ := h1
  obtain ⟨u, p2, k2⟩ := h2
  refine ⟨_, pss_cons p p2, fun G α ρ ω σ H D O S P => ?_⟩
  refine k G α ρ ω σ H _ O S ?_
  unfold sSeq at P
  cases r : f ρ ω with
  | stuck => rw [r] at P; exact P
  | next ρ' ω' =>
    rw [r] at P
    exact fun σ' G' α' H' e' O' S' => k2 G' α' ρ' ω' σ' H' D O' S' (PostS.weak e' P)
  | brk ρ' ω' => rw [r] at P; exact P
  | cont ρ' ω' => rw [r] at P; exact P
  | ret x ω' => rw [r] at P; exact P
  | exc x ρ' ω' => rw [r] at P; exact P
theorem dss_one (h1 : Ds X W st f) : Dss X W [st] f := let ⟨t, p, k⟩ := h1; ⟨t, pss_one p, k⟩
def sBreak : FS := fun ρ ω => .brk ρ ω
def sCont : FS := fun ρ ω => .cont ρ ω
def sExpr (f : FE D) : FS := fun ρ ω => (f ρ ω).out ρ fun _ ω1 => .next ρ ω1
def sRet (f : FE D) : FS := fun ρ ω => (f ρ ω).out ρ fun d ω1 => .ret (.val d) ω1
theorem ds_ret (h : De X W e fe) : Ds X W (.Return (some e) pos) (sRet fe) := by
  obtain ⟨t, p, k⟩ := h
  refine ⟨_, ps_ret p, fun G α ρ ω σ H D O S P => ?_⟩
  exact PostS.step S (t := t σ H) (k G α ρ ω σ H · O S) P fun d ω1 v G1 α1 H1 e1 O1 r1 P1 => P1 v G1 α1 H1 Ext.refl O1 r1
def sRetS (f : FE SV) : FS := fun ρ ω => (f ρ ω).out ρ fun x ω1 => .ret x ω1
theorem ds_retS {fv : FE SV} (h : Dv X W e fv) : Ds X W (.Return (some e) pos) (sRetS fv) := by
  obtain ⟨t, p, k⟩ := h
  refine ⟨_, ps_ret p, fun G α ρ ω σ H D O S P => ?_⟩
  exact PostS.step S (t := t σ H) (k G α ρ ω σ H · O S) P fun d ω1 v G1 α1 H1 e1 O1 r1 P1 => P1 v G1 α1 H1 Ext.refl O1 r1
def sRetN : FS := fun _ ω => .ret (.val .non) ω
def sIf (c : FE Bool) (f g : FS) : FS := fun ρ ω => (c ρ ω).out ρ fun b ω1 => if b = true then f ρ ω1 else g ρ ω1
theorem ds_if {a b : List Stmt} {fc : FE Bool} (hc : Dt X W c fc) (ha : Dss X W a f) (hb : Dss X W b g) : Ds X W (.If c a b pos) (sIf fc f g) := by
  obtain ⟨tc, pc, kc⟩ := hc
  obtain ⟨ta, pa, ka⟩ := ha
  obtain ⟨tb, pb, kb⟩ := hb
  refine ⟨_, ps_if pc pa pb, fun G α ρ ω σ H D O S P => ?_⟩
  refine PostS.step S (t := tc σ H) (kc G α ρ ω σ H · O S) P fun x ω1 v1 G1 α1 H1 e1 O1 r1 P1 => ?_
  cases r1
  cases x with
  | true => exact iteT (ka G1 α1 ρ ω1 σ H1 D O1 (S.mono e1) P1)
  | false => exact iteF (kb G1 α1 ρ ω1 σ H1 D O1 (S.mono e1) P1)
def sAsg (f : FE D) (tg : FG) : FS := fun ρ ω => (f ρ ω).out ρ fun d ω1 => match tg d ρ with
  | some ρ' => .next ρ' ω1
  | none => .stuck
abbrev sSet (i : Nat) (f : FE D) : FS := sAsg f (gN i)
theorem ds_set {i : Nat} {x : Str} {pos' : Pos} (hN : X.N.Nodup) (h : De X W e fe) (hi : X.N[i]? = some x := by rfl) (hx : Loc X.env.scope x := by first | exact Or.inl rfl | exact Or.inr rfl) (hs : swapsWith e (some (.Name x pos')) pos.line X.env = pure false := by rfl)
    (hf : X.fn x = true ∨ X.env.scope.names.lookup x = some .local := by first | exact .inl rfl | exact .inr rfl) : Ds X W (.Assign [.Name x pos'] e pos) (sSet i fe) := by
  obtain ⟨t, p, k⟩ := h
  refine ⟨_, ps_set hN hi hx p hs hf, fun G α ρ ω σ H D O S P => ?_⟩
  refine PostS.step S (t := t σ H) (k G α ρ ω σ H · O S) P fun d ω1 v G1 α1 H1 e1 O1 r1 P1 => ?_
  exact P1.here_nx O1 ((S.mono e1).set i (x := .val d) r1)
def sSetS (i : Nat) (f : FE SV) : FS := fun ρ ω => (f ρ ω).out ρ fun x ω1 => .next (ρ.set i (some x)) ω1
theorem ds_setS {i : Nat} {x : Str} {pos' : Pos} {fv : FE SV} (hN : X.N.Nodup) (h : Dv X W e fv) (hi : X.N[i]? = some x := by rfl) (hx : Loc X.env.scope x := by first | exact Or.inl rfl | exact Or.inr rfl) (hs : swapsWith e (some (.Name x pos')) pos.line X.env = pure false := by rfl)
    (hf : X.fn x = true ∨ X.env.scope.names.lookup x = some .local := by first | exact .inl rfl | exact .inr rfl) : Ds X W (.Assign [.Name x pos'] e pos) (sSetS i fv) := by
  obtain ⟨t, p, k⟩ := h
  refine ⟨_, ps_set hN hi hx p hs hf, fun G α ρ ω σ H D O S P => ?_⟩
  refine PostS.step S (t := t σ H) (k G α ρ ω σ H · O S) P fun d ω1 v G1 α1 H1 e1 O1 r1 P1 => ?_
  exact P1.here_nx O1 ((S.mono e1).set i r1)
def sPar (i j : Nat) (f : FE (List SV)) : FS := fun ρ ω => (f ρ ω).out ρ fun xs ω1 => match xs with
  | [x, y] => .next ((ρ.set i (some x)).set j (some y)) ω1
  | _ => .stuck
theorem ds_par {i j : Nat} {x y : Str} {a b : Expr} {fa : FE (List SV)} {px py pt : Pos} {kt k2 pt2} (hc : X.calm = true) (hN : X.N.Nodup) (hij : i ≠ j) (ha : Da X W [a, b] fa)
    (hw : swappedStores [.Tuple [.Name x px, .Name y py] kt pt] (.Tuple [a, b] k2 pt2) X.env = pure (some [x, y]))
    (hi : X.N[i]? = some x := by rfl) (hj : X.N[j]? = some y := by rfl)
    (hx : X.env.scope.names.lookup x = some .local := by rfl) (hy : X.env.scope.names.lookup y = some .local := by rfl)
    (hs : swapsWithSole [.Tuple [.Name x px, .Name y py] kt pt] (.Tuple [a, b] k2 pt2) pos.line X.env = pure false := by rfl) :
    Ds X W (.Assign [.Tuple [.Name x px, .Name y py] kt pt] (.Tuple [a, b] k2 pt2) pos) (sPar i j fa) := by
  obtain ⟨t, p, k⟩ := ha
  refine ⟨_, ps_par hc hN hi hj hij hx hy p hw hs, fun G α ρ ω σ H D O S P => ?_⟩
  refine PostS.step S (t := t σ H) (k G α ρ ω σ H · O S) P fun xs ω1 vs G1 α1 H1 e1 O1 r1 P1 => ?_
  match xs, vs, r1, P1 with
  | [x, y], _, .cons q1 (.cons q2 .nil), P1 => exact ⟨_, _, rfl, P1.here_nx O1 (((S.mono e1).set i q1).set j q2)⟩
  | [], _, _, P1 => exact P1.elim
  | [_], _, _, P1 => exact P1.elim
  | _ :: _ :: _ :: _, _, _, P1 => exact P1.elim
def forL (tg : FG) (b : FS) : List D → Rho → Om → Out
  | [], ρ, ω => .next ρ ω
  | d :: ds, ρ, ω => match tg d ρ with
    | none => .stuck
    | some ρ1 => match b ρ1 ω with
      | .next ρ2 ω2 => forL tg b ds ρ2 ω2
      | .cont ρ2 ω2 => forL tg b ds ρ2 ω2
      | .brk ρ2 ω2 => .next ρ2 ω2
      | .ret x ω2 => .ret x ω2
      | .exc x ρ2 ω2 => .exc x ρ2 ω2
      | .stuck => .stuck
def sFor (it : FE (List D)) (tg : FG) (b : FS) : FS := fun ρ ω => (it ρ ω).out ρ fun ds ω1 => forL tg b ds ρ ω1
theorem for_post {tg : TG} {fg : FG} {is : List Nat} {tb : TS} {b : FS} {K : PySem.W.Frag} {mg : MG} {J : It} {ds : List D} {G0 H : Hp} {α : List Addr} {ρ : Rho} {ω : Om} {σ : St} {De : Ends}
    (kg : ∀ G α ρ σ H d v (Q : St → Hp → Prop), Same G H → Slots K mg G α ρ σ → Rep K mg G d v →
      (match fg d ρ with
        | none => False
        | some ρ' => ∀ σ', Slots K mg G α ρ' σ' → (∀ j, j ∉ is → σ'[j]? = σ[j]?) → σ'.length = σ.length → Q σ' H) → tg v σ H Q)
    (kb : ∀ G α ρ ω σ H D, Own K mg G α ω H → Slots K mg G α ρ σ → PostS K mg G α H D W (b ρ ω) → tb D σ H)
    (wk : WalkD K mg (fun G' _ => Same G0 G') J ds) (O : Own K mg G0 α ω H) (S : Slots K mg G0 α ρ σ) (P : PostS K mg G0 α H De W (forL fg b ds ρ ω)) :
    ∃ Wv : Nat → Nat → St → Hp → Prop, (∃ m, Wv 0 m σ H) ∧ ∀ i m σ H, Wv i m σ H →
      (J.stop i H ∧ De.nx σ H) ∨ (J.go i H ∧ ∃ N : St → Hp → Prop, (∀ σ' H', N σ' H' → ∃ m', m' < m ∧ Wv (i + 1) m' σ' H') ∧ ∀ x H', J.yld i H x H' → tg x σ H' fun σ2 H2 => tb { De with nx := N, ct := N, bk := De.nx } σ2 H2) := by
  refine ⟨fun i m σ H => m = ds.length - i ∧ i ≤ ds.length ∧ ∃ G α ρ ω, Same G0 G ∧ Own K mg G α ω H ∧ Slots K mg G α ρ σ ∧ PostS K mg G α H De W (forL fg b (ds.drop i) ρ ω), ⟨_, rfl, Nat.zero_le _, G0, α, ρ, ω, Same.refl _, O, S, P⟩, ?_⟩
  rintro i m σ H ⟨rfl, hi, G, α, ρ, ω, g, O, S, P⟩
  obtain ⟨w1, w2⟩ := wk i G H O.sub g
  by_cases hlt : i < ds.length
  · refine .inr ?_
    obtain ⟨go, yl⟩ := w1 ds[i] (List.getElem?_eq_getElem hlt)
    refine ⟨go, fun σ' H' => ∃ G α ρ ω, Same G0 G ∧ Own K mg G α ω H' ∧ Slots K mg G α ρ σ' ∧ PostS K mg G α H' De W (forL fg b (ds.drop (i + 1)) ρ ω), fun σ' H' q => ⟨ds.length - (i + 1), by omega, rfl, hlt, q⟩, fun x H' y => ?_⟩
    obtain ⟨G1, gr, r1⟩ := yl x H' y
    have O1 := O.grow gr
    have S1 := S.mono (gr.ext (α := α))
    have P1 := PostS.weak (gr.ext (α := α)) P
    rw [List.drop_eq_getElem_cons hlt] at P1
    unfold forL at P1
    refine kg G1 α ρ σ H' _ x _ O1.sub S1 r1 ?_
    cases q : fg ds[i] ρ with
    | none => rw [q] at P1; exact P1.elim
    | some ρ1 =>
      rw [q] at P1
      intro σ2 S2 _ _
      refine kb G1 α ρ1 ω σ2 H' _ O1 S2 ?_
      dsimp only at P1
      cases q2 : b ρ1 ω with
      | stuck => rw [q2] at P1; exact P1
      | next ρ2 ω2 =>
        rw [q2] at P1
        exact fun σ3 G3 α3 H3 e3 O3 S3 => ⟨G3, α3, ρ2, ω2, (g.trans gr.g).trans e3.g, O3, S3, PostS.weak e3 P1⟩
      | cont ρ2 ω2 =>
        rw [q2] at P1
        exact fun σ3 G3 α3 H3 e3 O3 S3 => ⟨G3, α3, ρ2, ω2, (g.trans gr.g).trans e3.g, O3, S3, PostS.weak e3 P1⟩
      | brk ρ2 ω2 => rw [q2] at P1; exact P1
      | ret x ω2 => rw [q2] at P1; exact P1
      | exc x ρ2 ω2 => rw [q2] at P1; exact P1
  · have e : i = ds.length := by omega
    subst e
    rw [List.drop_length] at P
    exact .inl ⟨w2 (Nat.le_refl _), P.here_nx O S⟩
theorem ds_for {tg iter : Expr} {body : List Stmt} {is : List Nat} {fi : FE (List D)} {fg : FG} {fb : FS} (hp : PassesOwn (model X.prog X.w) X.A X.env X.xe) (hc : X.calm = true) (hi : Di X W tg iter fi) (hg : Dg X tg is fg) (hb : Dss X W body fb)
    (hs : ∀ x, foldedSetIterable iter X.env x = pure x := by intro _; rfl) : Ds X W (.For tg iter body [] pos) (sFor fi fg fb) := by
  obtain ⟨wi, pi, ki⟩ := hi
  obtain ⟨tg', pg, kg⟩ := hg
  obtain ⟨tb, pb, kb⟩ := hb
  refine ⟨_, ps_for hp hc pi pg pb hs, fun G α ρ ω σ H D O S P => ?_⟩
  refine PostS.step S (t := wi σ H) (ki G α ρ ω σ H · O S) P fun ds ω1 J G1 α1 H1 e1 O1 w1 P1 => ?_
  exact for_post kg kb w1 O1 (S.mono e1) P1
def whileF (c : FE Bool) (b : FS) : Nat → Rho → Om → Out
  | 0, _, _ => .stuck
  | n + 1, ρ, ω => (c ρ ω).out ρ fun k ω1 => if k = true then (match b ρ ω1 with
      | .next ρ2 ω2 => whileF c b n ρ2 ω2
      | .cont ρ2 ω2 => whileF c b n ρ2 ω2
      | .brk ρ2 ω2 => .next ρ2 ω2
      | .ret x ω2 => .ret x ω2
      | .exc x ρ2 ω2 => .exc x ρ2 ω2
      | .stuck => .stuck) else .next ρ ω1
def sWhile (n : Nat) (c : FE Bool) (b : FS) : FS := whileF c b n
end
end Dl
namespace Dl
open PySem L2
def wipeR (ρ : Rho) : List Nat → Rho
  | [] => ρ
  | v :: vs => (wipeR ρ vs).set v none
def lcL (tg : FG) (tt : FE Bool) (el : FE D) (ρ : Rho) : List D → List D → Om → Res D
  | [], acc, ω => .ok (.lst acc) ω
  | d :: ds, acc, ω => match tg d ρ with
    | none => .stuck
    | some ρ1 => match tt ρ1 ω with
      | .ok true ω1 => match el ρ1 ω1 with
        | .ok y ω2 => if acc.length < lim then lcL tg tt el ρ ds (acc ++ [y]) ω2 else .stuck
        | _ => .stuck
      | .ok false ω1 => lcL tg tt el ρ ds acc ω1
      | _ => .stuck
def eLc (vs : List Nat) (it : FE (List D)) (tg : FG) (tt : FE Bool) (el : FE D) : FE D := fun ρ ω => (it ρ ω).bind fun ds ω1 => lcL tg tt el (wipeR ρ vs) ds [] ω1
abbrev W0 : WX := fun _ _ _ _ => False
def eTrue : FE Bool := fun _ ω => .ok true ω
def Dts (X : Cx) (W : WX) (ifs : List Expr) (f : FE Bool) : Prop :=
  ∃ t, PTs X ifs t ∧ ∀ G α ρ ω σ H Q, Own X.K X.mg G α ω H → Slots X.K X.mg G α ρ σ → Post X.K X.mg RB G α H Q (fun c d H' => W c d σ H') (f ρ ω) → t σ H Q
theorem dts_nil {X : Cx} {W : WX} : Dts X W [] eTrue := ⟨_, pts_nil, fun G α ρ ω σ H Q O S P => Post.here O rfl P⟩
theorem dts_one {X : Cx} {W : WX} {c : Expr} {f : FE Bool} (h : Dt X W c f) : Dts X W [c] f := let ⟨t, p, k⟩ := h; ⟨t, pts_one p, k⟩
section
variable {K : PySem.W.Frag} {mg : MG}
theorem Slots.setN {G : Hp} {α : List Addr} {ρ : Rho} {σ : St} (S : Slots K mg G α ρ σ) (i : Nat) : Slots K mg G α (ρ.set i none) (σ.set i none) := by
  refine ⟨by simp [S.len], fun j y e => ?_⟩
  by_cases q : i = j
  · subst q
    by_cases hl : i < ρ.length
    · rw [List.getElem?_set_self hl] at e; cases e
    · rw [List.getElem?_eq_none (by simp; omega)] at e; cases e
  · rw [List.getElem?_set_ne q] at e
    obtain ⟨w, h1, h2⟩ := S.val j y e
    exact ⟨w, by rw [List.getElem?_set_ne q]; exact h1, h2⟩
theorem Slots.wipe {G : Hp} {α : List Addr} {ρ : Rho} {σ : St} (S : Slots K mg G α ρ σ) : ∀ vs, Slots K mg G α (wipeR ρ vs) (L2.wipe σ vs)
  | [] => S
  | v :: vs => by unfold wipeR L2.wipe; exact (Slots.wipe S vs).setN v
theorem wipe_get (σ : St) : ∀ (vs : List Nat) (j : Nat), (L2.wipe σ vs)[j]? = if j ∈ vs then (if j < σ.length then some none else none) else σ[j]?
  | [], j => by simp [L2.wipe]
  | v :: vs, j => by
    unfold L2.wipe
    by_cases q : v = j
    · subst q
      by_cases hl : v < σ.length
      · rw [List.getElem?_set_self (by rw [wipe_length]; exact hl)]
        simp [hl]
      · rw [List.getElem?_eq_none (by simp [wipe_length]; omega)]
        simp [hl]
    · rw [List.getElem?_set_ne q, wipe_get σ vs j]
      have : j ≠ v := fun z => q z.symm
      simp [this]
theorem wipe_same {σ σ' : St} {vs is : List Nat} (hs : ∀ i ∈ is, i ∈ vs) (h : ∀ j, j ∉ is → σ'[j]? = (L2.wipe σ vs)[j]?) (hl : σ'.length = (L2.wipe σ vs).length) : L2.wipe σ' vs = L2.wipe σ vs := by
  rw [wipe_length] at hl
  refine List.ext_getElem? fun j => ?_
  rw [wipe_get, hl]
  by_cases q : j ∈ vs
  · rw [if_pos q, wipe_get, if_pos q]
  · rw [if_neg q, h j fun z => q (hs j z)]
structure Lies (K : PySem.W.Frag) (mg : MG) (G0 : Hp) (α0 : List Addr) (H0 : Hp) (L : Addr) (G : Hp) (α : List Addr) (ω : Om) (acc : List D) (H : Hp) : Prop where
  ext : Ext G0 α0 H0 G α H
  own : Own K mg G α ω H
  gl : G L = none
  na : L ∉ α
  at_ : ∃ vsa, H L = some (.lst vsa) ∧ Reps K mg G acc vsa
theorem Lies.step {G0 H0 G H G1 H1 : Hp} {α0 α α1 : List Addr} {L : Addr} {ω ω1 : Om} {acc : List D} (B : Lies K mg G0 α0 H0 L G α ω acc H) (e : Ext G α H G1 α1 H1) (O : Own K mg G1 α1 ω1 H1) : Lies K mg G0 α0 H0 L G1 α1 ω1 acc H1 := by
  obtain ⟨vsa, h1, h2⟩ := B.at_
  obtain ⟨more, e1, e2⟩ := e.pre
  refine ⟨B.ext.trans e, O, ?_, ?_, vsa, e.keep L _ h1 B.na, Reps.mono e.g _ _ h2⟩
  · cases q : G1 L with
    | none => rfl
    | some o =>
      rcases e.new L o q with z | z | z
      · rw [B.gl] at z; cases z
      · rw [h1] at z; cases z
      · exact absurd z B.na
  · rw [e1]
    intro z
    rcases List.mem_append.mp z with z | z
    · exact B.na z
    · rw [e2 L z] at h1; cases h1
theorem Ext.setL {G H G1 H1 : Hp} {α α1 : List Addr} {L : Addr} {o : HO} (e : Ext G α H G1 α1 H1) (hL : H L = none) : Ext G α H G1 α1 (L2.upd H1 L o) :=
  ⟨e.g, e.new, fun a u h n => by rw [upd_ne (ne_of_none h hL)]; exact e.keep a u h n, fun a u h => by rw [upd_ne (ne_of_none h hL)]; exact e.live a u h, e.pre⟩
theorem Own.setL {G H : Hp} {α : List Addr} {ω : Om} {L : Addr} {o : HO} (O : Own K mg G α ω H) (hg : G L = none) (na : L ∉ α) : Own K mg G α ω (L2.upd H L o) := by
  refine ⟨fun b u h => by rw [upd_ne (ne_of_none h hg)]; exact O.sub b u h, O.len, O.nd, fun a ha => ?_, fun k u a h1 h2 => ?_⟩
  · rw [upd_ne (fun z => na (by rw [← z]; exact ha))]
    exact O.ex a ha
  · obtain ⟨q1, q2⟩ := O.obj k u a h1 h2
    have : a ≠ L := fun z => na (by rw [← z]; exact List.mem_of_getElem? h2)
    exact ⟨q1, q2.mono (Same.refl _) (upd_ne this)⟩
theorem Lies.set {G0 H0 G H : Hp} {α0 α : List Addr} {L : Addr} {ω : Om} {acc acc' : List D} {vs : List V} (B : Lies K mg G0 α0 H0 L G α ω acc H) (h0 : H0 L = none) (r : Reps K mg G acc' vs) : Lies K mg G0 α0 H0 L G α ω acc' (L2.upd H L (.lst vs)) :=
  ⟨B.ext.setL h0, B.own.setL B.gl B.na, B.gl, B.na, vs, upd_same, r⟩
theorem Lies.freeze {G0 H0 G H : Hp} {α0 α : List Addr} {L : Addr} {ω : Om} {acc : List D} (B : Lies K mg G0 α0 H0 L G α ω acc H) (h0 : H0 L = none) : ∃ G', Ext G0 α0 H0 G' α H ∧ Own K mg G' α ω H ∧ Rep K mg G' (.lst acc) (.ref L) := by
  obtain ⟨vsa, h1, h2⟩ := B.at_
  have sg : Same G (L2.upd G L (.lst vsa)) := Same.upd B.gl
  refine ⟨L2.upd G L (.lst vsa), ⟨B.ext.g.trans sg, fun a o h => ?_, B.ext.keep, B.ext.live, B.ext.pre⟩, ⟨fun b u h => ?_, B.own.len, B.own.nd, B.own.ex, fun k u a h3 h4 => ?_⟩, rep_newL (H := H) B.gl h2⟩
  · by_cases z : a = L
    · subst z; exact .inr (.inl h0)
    · rw [upd_ne z] at h; exact B.ext.new a o h
  · by_cases z : b = L
    · subst z; rw [upd_same] at h; cases h; exact h1
    · rw [upd_ne z] at h; exact B.own.sub b u h
  · obtain ⟨q1, q2⟩ := B.own.obj k u a h3 h4
    have : a ≠ L := fun z => B.na (by rw [← z]; exact List.mem_of_getElem? h4)
    exact ⟨by rw [upd_ne this]; exact q1, q2.mono sg rfl⟩
theorem lc_post {tg : TG} {fg : FG} {is vs : List Nat} {tt : TT} {ft : FE Bool} {te : TE} {fe : FE D} {J : It} {ds : List D} {G0 H : Hp} {α0 : List Addr} {ρ : Rho} {ω : Om} {σ : St} {Q : VK} {E : XK} (hsub : ∀ i ∈ is, i ∈ vs)
    (kg : ∀ G α ρ σ H d v (Q : St → Hp → Prop), Same G H → Slots K mg G α ρ σ → Rep K mg G d v →
      (match fg d ρ with
        | none => False
        | some ρ' => ∀ σ', Slots K mg G α ρ' σ' → (∀ j, j ∉ is → σ'[j]? = σ[j]?) → σ'.length = σ.length → Q σ' H) → tg v σ H Q)
    (kt : ∀ G α ρ ω σ H Q, Own K mg G α ω H → Slots K mg G α ρ σ → Post K mg RB G α H Q (fun _ _ _ => False) (ft ρ ω) → tt σ H Q)
    (ke : ∀ G α ρ ω σ H Q, Own K mg G α ω H → Slots K mg G α ρ σ → Post K mg (RD K mg) G α H Q (fun _ _ _ => False) (fe ρ ω) → te σ H Q)
    (wk : WalkD K mg (fun G' _ => Same G0 G') J ds) (O : Own K mg G0 α0 ω H) (S : Slots K mg G0 α0 ρ σ) (P : Post K mg (RD K mg) G0 α0 H Q E (lcL fg ft fe (wipeR ρ vs) ds [] ω)) (L : Addr) (hL : H L = none) :
    ∃ Wv : Nat → Nat → Hp → Prop, (∃ m, Wv 0 m (L2.upd H L (.lst []))) ∧ ∀ i m H, Wv i m H →
      (J.stop i H ∧ Q (.ref L) H) ∨ (J.go i H ∧ ∃ Nx : Hp → Prop, (∀ H', Nx H' → ∃ m', m' < m ∧ Wv (i + 1) m' H') ∧ ∀ x H', J.yld i H x H' → tg x (L2.wipe σ vs) H' fun σ2 H2 => L2.wipe σ2 vs = L2.wipe σ vs ∧ tt σ2 H2 fun b H3 =>
        if b = true then te σ2 H3 fun y H4 => ∃ acc, H4 L = some (.lst acc) ∧ acc.length < sizeLine ∧ Nx (L2.upd H4 L (.lst (acc ++ [y]))) else Nx H3) := by
  have hnα : L ∉ α0 := fun z => by obtain ⟨o, h⟩ := O.ex L z; rw [hL] at h; cases h
  refine ⟨fun i m H' => m = ds.length - i ∧ i ≤ ds.length ∧ ∃ G α ω acc, Lies K mg G0 α0 H L G α ω acc H' ∧ Post K mg (RD K mg) G0 α0 H Q E (lcL fg ft fe (wipeR ρ vs) (ds.drop i) acc ω), ⟨_, rfl, Nat.zero_le _, G0, α0, ω, [], ⟨?_, ?_, O.sub.free hL, hnα, [], upd_same, reps_nil.mpr rfl⟩, P⟩, ?_⟩
  · exact (Grow.side (o := .lst []) O.sub hL).ext
  · exact O.grow (Grow.side O.sub hL)
  rintro i m H' ⟨rfl, hi, G, α, ω, acc, B, P⟩
  obtain ⟨w1, w2⟩ := wk i G H' B.own.sub B.ext.g
  by_cases hlt : i < ds.length
  · refine .inr ?_
    obtain ⟨go, yl⟩ := w1 ds[i] (List.getElem?_eq_getElem hlt)
    refine ⟨go, fun H' => ∃ G α ω acc, Lies K mg G0 α0 H L G α ω acc H' ∧ Post K mg (RD K mg) G0 α0 H Q E (lcL fg ft fe (wipeR ρ vs) (ds.drop (i + 1)) acc ω), fun H' q => ⟨ds.length - (i + 1), by omega, rfl, hlt, q⟩, fun x H1 y => ?_⟩
    obtain ⟨G1, gr, r1⟩ := yl x H1 y
    have B1 := B.step (gr.ext (α := α)) (B.own.grow gr)
    rw [List.drop_eq_getElem_cons hlt] at P
    unfold lcL at P
    have S1 : Slots K mg G1 α (wipeR ρ vs) (L2.wipe σ vs) := (S.mono B1.ext).wipe vs
    refine kg G1 α _ _ H1 _ x _ B1.own.sub S1 r1 ?_
    cases q : fg ds[i] (wipeR ρ vs) with
    | none => rw [q] at P; exact P.elim
    | some ρ1 =>
      rw [q] at P
      intro σ2 S2 c2 l2
      refine ⟨wipe_same hsub c2 l2, kt G1 α ρ1 ω σ2 H1 _ B1.own S2 ?_⟩
      dsimp only at P
      cases q2 : ft ρ1 ω with
      | stuck => rw [q2] at P; exact P.elim
      | exc x ω1 => rw [q2] at P; exact P.elim
      | ok b ω1 =>
        rw [q2] at P
        intro b' G2 α2 H2 e2 O2 r2
        cases r2
        have B2 := B1.step e2 O2
        cases b with
        | false => exact iteF ⟨G2, α2, ω1, acc, B2, P⟩
        | true =>
          refine iteT (ke G2 α2 ρ1 ω1 σ2 H2 _ O2 (S2.mono e2) ?_)
          dsimp only at P
          cases q3 : fe ρ1 ω1 with
          | stuck => rw [q3] at P; exact P.elim
          | exc x ω2 => rw [q3] at P; exact P.elim
          | ok yd ω2 =>
            rw [q3] at P
            dsimp only at P
            split at P
            · rename_i hlim
              intro v G3 α3 H3 e3 O3 r3
              have B3 := B2.step e3 O3
              obtain ⟨vsa, h5, h6⟩ := B3.at_
              exact ⟨vsa, h5, by rw [lim_eq, h6.length]; exact hlim, G3, α3, ω2, acc ++ [yd], B3.set hL (h6.append (Reps.one r3)), P⟩
            · exact P.elim
  · have e : i = ds.length := by omega
    subst e
    rw [List.drop_length] at P
    obtain ⟨G', e', O', r'⟩ := B.freeze hL
    exact .inl ⟨w2 (Nat.le_refl _), P _ G' α H' e' O' r'⟩
end
def tcE (K : PySem.W.Frag) (mg : MG) (W : WX) (f : FE D) : TE := fun σ H Q => ∃ G α ρ ω, Own K mg G α ω H ∧ Slots K mg G α ρ σ ∧ Post K mg (RD K mg) G α H Q (fun c d H' => W c d σ H') (f ρ ω)
def tcT (K : PySem.W.Frag) (mg : MG) (W : WX) (f : FE Bool) : TT := fun σ H Q => ∃ G α ρ ω, Own K mg G α ω H ∧ Slots K mg G α ρ σ ∧ Post K mg RB G α H Q (fun c d H' => W c d σ H') (f ρ ω)
def tcG (K : PySem.W.Frag) (mg : MG) (is : List Nat) (f : FG) : TG := fun v σ H Q => ∃ G α ρ d, Same G H ∧ Slots K mg G α ρ σ ∧ Rep K mg G d v ∧
  (match f d ρ with
    | none => False
    | some ρ' => ∀ σ', Slots K mg G α ρ' σ' → (∀ j, j ∉ is → σ'[j]? = σ[j]?) → σ'.length = σ.length → Q σ' H)
theorem can_e {X : Cx} {W : WX} {e : Expr} {f : FE D} (h : De X W e f) : PE X e (tcE X.K X.mg W f) := by
  obtain ⟨t, p, k⟩ := h
  exact ⟨fun pins s σ H Q I ⟨G, α, ρ, ω, O, S, P⟩ => p.run pins s σ H Q I (k G α ρ ω σ H Q O S P)⟩
theorem can_ts {X : Cx} {W : WX} {es : List Expr} {f : FE Bool} (h : Dts X W es f) : PTs X es (tcT X.K X.mg W f) := by
  obtain ⟨t, p, k⟩ := h
  exact ⟨fun pins s σ H Q I ⟨G, α, ρ, ω, O, S, P⟩ => p.run pins s σ H Q I (k G α ρ ω σ H Q O S P)⟩
theorem can_g {X : Cx} {e : Expr} {is : List Nat} {f : FG} (h : Dg X e is f) : PG X e (tcG X.K X.mg is f) := by
  obtain ⟨t, p, k⟩ := h
  exact ⟨fun pins s σ H v u Q I r ⟨G, α, ρ, d, h1, S, r1, P⟩ => p.run pins s σ H v u Q I r (k G α ρ σ H d v Q h1 S r1 P)⟩
section
variable {X : Cx} {W : WX} {pos : Pos}
theorem lc_read {K : PySem.W.Frag} {mg : MG} {wi : TI} {vs is : List Nat} {fi : FE (List D)} {fg : FG} {ft : FE Bool} {fe : FE D} (hsub : ∀ i ∈ is, i ∈ vs)
    (ki : ∀ G α ρ ω σ H (R : It → Hp → Prop), Own K mg G α ω H → Slots K mg G α ρ σ → Post K mg (RI K mg) G α H R (fun c d H' => W c d σ H') (fi ρ ω) → wi σ H R)
    (G α ρ ω σ H Q) (O : Own K mg G α ω H) (S : Slots K mg G α ρ σ) (P : Post K mg (RD K mg) G α H Q (fun c d H' => W c d σ H') (eLc vs fi fg ft fe ρ ω)) : tLc wi (tcG K mg is fg) (tcT K mg W0 ft) (tcE K mg W0 fe) vs σ H Q := by
  refine Post.step (t := wi σ H) (ki G α ρ ω σ H · O S) P fun ds ω1 J G1 α1 H1 e1 O1 w1 P1 => ?_
  intro L hL
  exact lc_post hsub (fun G α ρ σ H d v Q s S r h => ⟨G, α, ρ, d, s, S, r, h⟩) (fun G α ρ ω σ H Q O S P => ⟨G, α, ρ, ω, O, S, P⟩) (fun G α ρ ω σ H Q O S P => ⟨G, α, ρ, ω, O, S, P⟩) w1 O1 (S.mono e1) P1 L hL
theorem de_lc {elt tg iter : Expr} {ifs : List Expr} {scope : Scope} {own : List (Str × Nat)} {is : List Nat} {fi : FE (List D)} {fg : FG} {ft : FE Bool} {fe : FE D} (hc : X.calm = true) (hN : X.N.Nodup) (hi : Di X W tg iter fi) (ok : BlkOk X.N X.env.scope scope own)
    (hg : ∀ (s : Shared) (H : Hp) (C : Addr) (cl : List (Str × Addr)) (fp : List Addr), Dg (X.blk s H scope (compEnvC scope cl C X.env) fp) tg is fg) (ht : ∀ (s : Shared) (H : Hp) (C : Addr) (cl : List (Str × Addr)) (fp : List Addr), Dts (X.blk s H scope (compEnvC scope cl C X.env) fp) W0 ifs ft)
    (he : ∀ (s : Shared) (H : Hp) (C : Addr) (cl : List (Str × Addr)) (fp : List Addr), De (X.blk s H scope (compEnvC scope cl C X.env) fp) W0 elt fe) (hsub : ∀ i ∈ is, i ∈ own.map (·.2)) (hs : ∀ x, foldedSetIterable iter X.env x = pure x := by intro _; rfl) :
    De X W (.ListComp elt [⟨tg, iter, ifs, 0⟩] scope pos) (eLc (own.map (·.2)) fi fg ft fe) := by
  obtain ⟨wi, pi, ki⟩ := hi
  exact ⟨_, pe_lc (g := tcG X.K X.mg is fg) (tt := tcT X.K X.mg W0 ft) (te := tcE X.K X.mg W0 fe) hc hN pi ok (fun s H C cl fp => can_g (hg s H C cl fp)) (fun s H C cl fp => can_ts (ht s H C cl fp)) (fun s H C cl fp => can_e (he s H C cl fp)) hs, lc_read hsub ki⟩
theorem ds_setLc {i : Nat} {y : Str} {py spos : Pos} {elt tg iter : Expr} {ifs : List Expr} {scope : Scope} {own : List (Str × Nat)} {is : List Nat} {fi : FE (List D)} {fg : FG} {ft : FE Bool} {fe : FE D} (hc : X.calm = true) (hN : X.N.Nodup) (hsw : swapsWith (.ListComp elt [⟨tg, iter, ifs, 0⟩] scope pos) (some (.Name y py)) spos.line X.env = pure true) (hi : Di X W tg iter fi) (ok : BlkOk X.N X.env.scope scope own)
    (hg : ∀ (s : Shared) (H : Hp) (C : Addr) (cl : List (Str × Addr)) (fp : List Addr), Dg (X.blk s H scope (compEnvC scope cl C X.env) fp) tg is fg) (ht : ∀ (s : Shared) (H : Hp) (C : Addr) (cl : List (Str × Addr)) (fp : List Addr), Dts (X.blk s H scope (compEnvC scope cl C X.env) fp) W0 ifs ft)
    (he : ∀ (s : Shared) (H : Hp) (C : Addr) (cl : List (Str × Addr)) (fp : List Addr), De (X.blk s H scope (compEnvC scope cl C X.env) fp) W0 elt fe) (hsub : ∀ i ∈ is, i ∈ own.map (·.2)) (hy : X.N[i]? = some y := by rfl) (hyl : X.env.scope.names.lookup y = some .local := by rfl) (hs : ∀ x, foldedSetIterable iter X.env x = pure x := by intro _; rfl) :
    Ds X W (.Assign [.Name y py] (.ListComp elt [⟨tg, iter, ifs, 0⟩] scope pos) spos) (sSet i (eLc (own.map (·.2)) fi fg ft fe)) := by
  obtain ⟨wi, pi, ki⟩ := hi
  refine ⟨_, ps_setLc (g := tcG X.K X.mg is fg) (tt := tcT X.K X.mg W0 ft) (te := tcE X.K X.mg W0 fe) hc hN hy hyl hsw pi ok (fun s H C cl fp => can_g (hg s H C cl fp)) (fun s H C cl fp => can_ts (ht s H C cl fp)) (fun s H C cl fp => can_e (he s H C cl fp)) hs, fun G α ρ ω σ H D O S P => ?_⟩
  refine PostS.step S (t := tLc wi (tcG X.K X.mg is fg) (tcT X.K X.mg W0 ft) (tcE X.K X.mg W0 fe) (own.map (·.2)) σ H) (lc_read hsub ki G α ρ ω σ H · O S) P fun d ω1 v G1 α1 H1 e1 O1 r1 P1 => ?_
  exact P1.here_nx O1 ((S.mono e1).set i (x := .val d) r1)
end
end Dl
namespace Dl
open PySem L2
section
variable {K : PySem.W.Frag} {mg : MG} {G H : Hp} {α : List Addr} {ω : Om}
theorem Own.na (O : Own K mg G α ω H) {p : Addr} (h : H p = none) : p ∉ α := fun z => by obtain ⟨o, q⟩ := O.ex p z; rw [h] at q; cases q
theorem Own.new {p : Addr} {u : HO} {o : OD} (O : Own K mg G α ω H) (hp : H p = none) (r : OwnAt K mg G (L2.upd H p u) p o) : Own K mg G (α ++ [p]) (ω ++ [some o]) (L2.upd H p u) ∧ Ext G α H G (α ++ [p]) (L2.upd H p u) := by
  have na := O.na hp
  refine ⟨⟨O.sub.trans (Same.upd hp), by simp [O.len], ?_, fun a ha => ?_, fun k o' a h1 h2 => ?_⟩, ⟨Same.refl _, fun _ _ h => .inl h, fun a o h _ => Same.upd hp a o h, fun a o h => ⟨o, Same.upd hp a o h⟩, [p], rfl, fun a ha => by rw [List.mem_singleton.mp ha]; exact hp⟩⟩
  · rw [List.nodup_append]
    refine ⟨O.nd, by simp, fun a ha b hb z => ?_⟩
    rw [List.mem_singleton.mp hb] at z
    exact na (z ▸ ha)
  · rcases List.mem_append.mp ha with h | h
    · obtain ⟨u', q⟩ := O.ex a h
      exact ⟨u', Same.upd hp a u' q⟩
    · rw [List.mem_singleton.mp h]; exact ⟨u, upd_same⟩
  · by_cases hk : k < ω.length
    · rw [List.getElem?_append_left hk] at h1
      rw [List.getElem?_append_left (by rw [O.len]; exact hk)] at h2
      obtain ⟨q1, q2⟩ := O.obj k o' a h1 h2
      have : a ≠ p := fun z => na (z ▸ List.mem_of_getElem? h2)
      exact ⟨q1, q2.mono (Same.refl _) (upd_ne this)⟩
    · have hk' : k = ω.length := by
        have := (List.getElem?_eq_some_iff.mp h1).1
        simp at this; omega
      subst hk'
      rw [List.getElem?_append_right (Nat.le_refl _)] at h1
      rw [List.getElem?_append_right (by rw [O.len]; exact Nat.le_refl _), O.len] at h2
      simp at h1 h2
      subst h1 h2
      exact ⟨O.sub.free hp, r⟩
theorem Own.put {a : Addr} {k : Nat} {u : HO} {o o' : OD} (O : Own K mg G α ω H) (h1 : ω[k]? = some (some o)) (h2 : α[k]? = some a) (r : OwnAt K mg G (L2.upd H a u) a o') : Own K mg G α (ω.set k (some o')) (L2.upd H a u) ∧ Ext G α H G α (L2.upd H a u) := by
  have ma := List.mem_of_getElem? h2
  obtain ⟨hg, _⟩ := O.obj k o a h1 h2
  refine ⟨⟨fun b v h => ?_, by simp [O.len], O.nd, fun b hb => ?_, fun j o2 b h3 h4 => ?_⟩, ⟨Same.refl _, fun _ _ h => .inl h, fun b o h n => ?_, fun b o h => ?_, [], by simp, by simp⟩⟩
  · rw [upd_ne (ne_of_none h hg)]; exact O.sub b v h
  · by_cases z : b = a
    · subst z; exact ⟨u, upd_same⟩
    · rw [upd_ne z]; exact O.ex b hb
  · by_cases z : k = j
    · subst z
      rw [h2] at h4; cases h4
      rw [List.getElem?_set_self (List.getElem?_eq_some_iff.mp h1).1] at h3
      cases h3
      exact ⟨hg, r⟩
    · rw [List.getElem?_set_ne z] at h3
      obtain ⟨q1, q2⟩ := O.obj j o2 b h3 h4
      have : b ≠ a := fun y => z ((List.getElem?_inj (List.getElem?_eq_some_iff.mp h2).1 O.nd).mp (by rw [h2, h4, y]))
      exact ⟨q1, q2.mono (Same.refl _) (upd_ne this)⟩
  · rw [upd_ne (fun z : b = a => n (by rw [z]; exact ma))]; exact h
  · by_cases z : b = a
    · subst z; exact ⟨u, upd_same⟩
    · rw [upd_ne z]; exact ⟨o, h⟩
theorem Own.freeze {a : Addr} {k : Nat} {u : HO} {o : OD} (O : Own K mg G α ω H) (h1 : ω[k]? = some (some o)) (h2 : α[k]? = some a) (hu : H a = some u) : Own K mg (L2.upd G a u) α (ω.set k none) H ∧ Ext G α H (L2.upd G a u) α H ∧ G a = none := by
  have ma := List.mem_of_getElem? h2
  obtain ⟨hg, _⟩ := O.obj k o a h1 h2
  refine ⟨⟨fun b v h => ?_, by simp [O.len], O.nd, O.ex, fun j o2 b h3 h4 => ?_⟩, ⟨Same.upd hg, fun b v h => ?_, fun b o h n => h, fun b o h => ⟨o, h⟩, [], by simp, by simp⟩, hg⟩
  · by_cases z : b = a
    · subst z; rw [upd_same] at h; cases h; exact hu
    · rw [upd_ne z] at h; exact O.sub b v h
  · by_cases z : k = j
    · subst z
      rw [List.getElem?_set_self (List.getElem?_eq_some_iff.mp h1).1] at h3
      cases h3
    · rw [List.getElem?_set_ne z] at h3
      obtain ⟨q1, q2⟩ := O.obj j o2 b h3 h4
      have : b ≠ a := fun y => z ((List.getElem?_inj (List.getElem?_eq_some_iff.mp h2).1 O.nd).mp (by rw [h2, h4, y]))
      exact ⟨by rw [upd_ne this]; exact q1, q2.mono (Same.upd hg) rfl⟩
  · by_cases z : b = a
    · subst z; exact .inr (.inr ma)
    · rw [upd_ne z] at h; exact .inl h
theorem Own.nil (s : Same G H) : Own K mg G [] [] H := ⟨s, rfl, List.nodup_nil, by simp, by simp⟩
end
section
variable {X : Cx} {W : WX} {e : Expr} {fe : FE D} {pos : Pos}
def sNewL (i : Nat) (g : FE (List SV)) : FS := fun ρ ω => (g ρ ω).out ρ fun xs ω1 => match allD xs with
  | some ds => if xs.length ≤ lim then .next (ρ.set i (some (.own ω1.length))) (ω1 ++ [some (.lst ds)]) else .stuck
  | none => .stuck
theorem ds_newL {i : Nat} {x : Str} {pos' p1 : Pos} {es : List Expr} {g : FE (List SV)} (hN : X.N.Nodup) (h : Da X W es g) (hi : X.N[i]? = some x := by rfl) (hx : Loc X.env.scope x := by first | exact Or.inl rfl | exact Or.inr rfl) (hs : swapsWith (.List es p1) (some (.Name x pos')) pos.line X.env = pure false := by rfl)
    (hf : X.fn x = true ∨ X.env.scope.names.lookup x = some .local := by first | exact .inl rfl | exact .inr rfl) : Ds X W (.Assign [.Name x pos'] (.List es p1) pos) (sNewL i g) := by
  obtain ⟨t, p, k⟩ := h
  refine ⟨_, ps_set hN hi hx (pe_lst p) hs hf, fun G α ρ ω σ H D O S P => ?_⟩
  refine PostS.step S (t := t σ H) (k G α ρ ω σ H · O S) P fun xs ω1 vs G1 α1 H1 e1 O1 r1 P1 => ?_
  cases q : allD xs with
  | none => rw [q] at P1; exact P1.elim
  | some ds =>
    rw [q] at P1
    dsimp only at P1
    split at P1
    · rename_i hl
      have hr := allD_reps q r1
      refine ⟨by rw [lim_eq, ← RepVs.length r1]; exact hl, fun a ha => ?_⟩
      obtain ⟨O2, e2⟩ := O1.new (u := .lst vs) (o := .lst ds) ha ⟨vs, upd_same, hr⟩
      refine P1 _ G1 _ _ e2 O2 (((S.mono e1).mono e2).set i ⟨a, ?_, rfl⟩)
      rw [← O1.len, List.getElem?_append_right (Nat.le_refl _)]
      simp
    · exact P1.elim
def ownK (ρ : Rho) (i : Nat) : Option Nat := match ρ[i]? with
  | some (some (.own k)) => some k
  | _ => none
def ownL (ω : Om) (k : Nat) : Option (List D) := match ω[k]? with
  | some (some (.lst ds)) => some ds
  | _ => none
theorem ownK_eq {ρ : Rho} {i k : Nat} (h : ownK ρ i = some k) : ρ[i]? = some (some (.own k)) := by
  unfold ownK at h
  split at h
  · rename_i k' e; cases h; exact e
  · cases h
theorem ownL_eq {ω : Om} {k : Nat} {ds : List D} (h : ownL ω k = some ds) : ω[k]? = some (some (.lst ds)) := by
  unfold ownL at h
  split at h
  · rename_i k' e; cases h; exact e
  · cases h
def sApp (i : Nat) (f : FE D) : FS := fun ρ ω => match ownK ρ i with
  | none => .stuck
  | some k => match ownL ω k with
    | none => .stuck
    | some _ => (f ρ ω).out ρ fun d ω1 => match ownL ω1 k with
      | none => .stuck
      | some ds => if ds.length < lim then .next ρ (ω1.set k (some (.lst (ds ++ [d])))) else .stuck
theorem ds_app (i : Nat) {x : Str} {p1 p2 p3 p4 : Pos} (h : De X W e fe) (hN : X.N[i]? = some x := by rfl) (hv : Vis X.env.scope x := by first | exact Or.inl rfl | exact Or.inr (Or.inl rfl) | exact Or.inr (Or.inr rfl)) (hd : (x == ("__debug__" : Str)) = false := by decide)
    (hcd : (x == ("__classdict__" : Str)) = false := by decide) (hs2 : starEach (e :: []) X.env = (false, eval e X.env) :: starEach [] X.env := by rfl)
    (hsw : swapsWith (.Call (.Attribute (.Name x p1) "append" p2) [e] [] p3) none p4.line X.env = pure false := by rfl)
    (hpe : ∀ (to t : _), PE X (.Name x p1) to → PA X [e] t → PE X (.Call (.Attribute (.Name x p1) "append" p2) [e] [] p3) (tBM X.K "list" rAppend to t) := by
      intro to t ho ha
      exact pe_bm PySem.F.plainAttrs_list PySem.F.slot_list_append PySem.F.type_list_append mt_append ho ha) :
    Ds X W (.Expr (.Call (.Attribute (.Name x p1) "append" p2) [e] [] p3) p4) (sApp i fe) := by
  obtain ⟨t, p, k⟩ := h
  refine ⟨_, ps_expr (hpe _ _ (pe_var hN hv hd hcd) (pa_cons p pa_nil hs2)) hsw, fun G α ρ ω σ H D O S P => ?_⟩
  unfold sApp at P
  cases q1 : ownK ρ i with
  | none => rw [q1] at P; exact P.elim
  | some kk =>
    rw [q1] at P; dsimp only at P
    cases q2 : ownL ω kk with
    | none => rw [q2] at P; exact P.elim
    | some ds0 =>
      rw [q2] at P; dsimp only at P
      obtain ⟨v, h1, a, h2, rfl⟩ := S.val i _ (ownK_eq q1)
      obtain ⟨_, vs0, h3, _⟩ := O.obj kk _ a (ownL_eq q2) h2
      refine ⟨_, h1, .inl ⟨rfl, vs0, SqL.of h3⟩, ?_⟩
      refine PostS.step S (t := t σ H) (k G α ρ ω σ H · O S) P fun d ω1 v1 G1 α1 H1 e1 O1 r1 P1 => ?_
      cases q3 : ownL ω1 kk with
      | none => rw [q3] at P1; exact P1.elim
      | some ds =>
        rw [q3] at P1; dsimp only at P1
        split at P1
        · rename_i hl
          obtain ⟨more, e2, _⟩ := e1.pre
          have h2' : α1[kk]? = some a := by rw [e2, List.getElem?_append_left (List.getElem?_eq_some_iff.mp h2).1]; exact h2
          obtain ⟨_, vs, h5, h6⟩ := O1.obj kk _ a (ownL_eq q3) h2'
          refine ⟨a, vs, v1, rfl, rfl, h5, by rw [lim_eq, h6.length]; exact hl, ?_⟩
          obtain ⟨O2, e3⟩ := O1.put (u := .lst (vs ++ [v1])) (o' := .lst (ds ++ [d])) (ownL_eq q3) h2' ⟨_, upd_same, h6.append (Reps.one r1)⟩
          exact P1 _ G1 α1 _ e3 O2 ((S.mono e1).mono e3)
        · exact P1.elim
def sSetIx (i : Nat) (fi fe : FE D) : FS := fun ρ ω => (fe ρ ω).out ρ fun d ω1 => match ownK ρ i with
  | none => .stuck
  | some k => (fi ρ ω1).out ρ fun z ω2 => match z, ownL ω2 k with
    | .int n, some ds => match ixN ds.length n with
      | some j => .next ρ (ω2.set k (some (.lst (ds.set j d))))
      | none => .stuck
    | _, _ => .stuck
theorem ds_setIx (i : Nat) {x : Str} {p1 p2 : Pos} {ei : Expr} {fi : FE D} (hi : De X W ei fi) (h : De X W e fe) (hN : X.N[i]? = some x := by rfl) (hv : Vis X.env.scope x := by first | exact Or.inl rfl | exact Or.inr (Or.inl rfl) | exact Or.inr (Or.inr rfl)) (hd : (x == ("__debug__" : Str)) = false := by decide)
    (hcd : (x == ("__classdict__" : Str)) = false := by decide) (hs : swapsWithSole [.Subscript (.Name x p1) ei p2] e pos.line X.env = pure false := by rfl) (hw : swappedStores [.Subscript (.Name x p1) ei p2] e X.env = pure none := by rfl)
    (h1 : (assignEach [.Subscript (.Name x p1) ei p2] X.env).map (·.2) = [assign (.Subscript (.Name x p1) ei p2) X.env] := by rfl)
    (ha : ∀ v, assign (.Subscript (.Name x p1) ei p2) X.env v = (do
      let ov ← holding [v] (eval (.Name x p1) X.env)
      let iv ← holding [v, ov] (eval ei X.env)
      standAt p2
      holding [v, ov, iv] (setItem ov iv v)
      release [v, ov, iv] []) := by intro _; rfl) : Ds X W (.Assign [.Subscript (.Name x p1) ei p2] e pos) (sSetIx i fi fe) := by
  obtain ⟨t, p, k⟩ := h
  obtain ⟨ti, pi, ki⟩ := hi
  refine ⟨_, ps_asg p (pg_sub (pe_var hN hv hd hcd) pi set_list ha) hs hw h1, fun G α ρ ω σ H D O S P => ?_⟩
  refine PostS.step S (t := t σ H) (k G α ρ ω σ H · O S) P fun d ω1 v1 G1 α1 H1 e1 O1 r1 P1 => ?_
  cases q1 : ownK ρ i with
  | none => rw [q1] at P1; exact P1.elim
  | some kk =>
    rw [q1] at P1; dsimp only at P1
    obtain ⟨v, h1, a, h2, rfl⟩ := (S.mono e1).val i _ (ownK_eq q1)
    refine ⟨_, h1, ?_⟩
    refine PostS.step (S.mono e1) (t := ti σ H1) (ki G1 α1 ρ ω1 σ H1 · O1 (S.mono e1)) P1 fun z ω2 v2 G2 α2 H2 e2 O2 r2 P2 => ?_
    cases z with
    | int n =>
      cases q3 : ownL ω2 kk with
      | none => rw [q3] at P2; exact P2.elim
      | some ds =>
        rw [q3] at P2; dsimp only at P2
        cases q4 : ixN ds.length n with
        | none => rw [q4] at P2; exact P2.elim
        | some j =>
          rw [q4] at P2; dsimp only at P2
          obtain ⟨more, e3, _⟩ := e2.pre
          have h2' : α2[kk]? = some a := by rw [e3, List.getElem?_append_left (List.getElem?_eq_some_iff.mp h2).1]; exact h2
          obtain ⟨_, vs, h5, h6⟩ := O2.obj kk _ a (ownL_eq q3) h2'
          have r2' : v2 = .int n := rep_int.mp (show Rep X.K X.mg G2 (.int n) v2 from r2)
          refine ⟨a, vs, n, j, rfl, r2', h5, by rw [h6.length]; exact q4, ?_⟩
          obtain ⟨O3, e4⟩ := O2.put (u := .lst (vs.set j v1)) (o' := .lst (ds.set j d)) (ownL_eq q3) h2' ⟨_, upd_same, h6.set (Rep.mono e2.g _ _ r1) j⟩
          exact P2 _ G2 α2 _ e4 O3 (((S.mono e1).mono e2).mono e4)
    | _ => exact P2.elim
def sRetL (i : Nat) : FS := fun ρ ω => match ownK ρ i with
  | none => .stuck
  | some k => match ownL ω k with
    | none => .stuck
    | some ds => .ret (.val (.lst ds)) (ω.set k none)
end
end Dl
namespace Dl
open PySem L2
def Cop (K : PySem.W.Frag) (mg : MG) (r : List V → Hp → VK → Prop) (op : List D → Option D) : Prop :=
  ∀ G H ds d vs Q, Same G H → op ds = some d → Reps K mg G ds vs → (∀ v G' H', Grow G H G' H' → Rep K mg G' d v → Q v H') → r vs H Q
def CopL (K : PySem.W.Frag) (mg : MG) (r : List V → Hp → VK → Prop) (op : List D → Option D) : Prop :=
  ∀ G H ds d a vs Q, Same G H → op ds = some d → SqL K H a vs → Reps K mg G ds vs → (∀ v G' H', Grow G H G' H' → Rep K mg G' d v → Q v H') → r [.ref a] H Q
def eCallB (op : List D → Option D) (g : FE (List SV)) : FE D := fun ρ ω => (g ρ ω).bind fun xs ω1 => Res.lift ((allD xs).bind op) ω1
def eOnL (op : List D → Option D) (g : FE (List D)) : FE D := fun ρ ω => (g ρ ω).bind fun ds ω1 => Res.lift (op ds) ω1
section
variable {X : Cx} {W : WX} {x : Str} {e : Expr} {es : List Expr} {p pos : Pos} {r : List V → Hp → VK → Prop} {op : List D → Option D} {g : FE (List SV)} {gl : FE (List D)}
theorem cb_post {t : TA} {K : PySem.W.Frag} {mg : MG} (B : Cop K mg r op)
    (k : ∀ G α ρ ω σ H Q, Own K mg G α ω H → Slots K mg G α ρ σ → Post K mg (RA K mg) G α H Q (fun c d H' => W c d σ H') (g ρ ω) → t σ H Q)
    (G α ρ ω σ H Q) (O : Own K mg G α ω H) (S : Slots K mg G α ρ σ) (P : Post K mg (RD K mg) G α H Q (fun c d H' => W c d σ H') (eCallB op g ρ ω)) : tCB r t σ H Q := by
  refine Post.step (t := t σ H) (k G α ρ ω σ H · O S) P fun xs ω1 vs G1 α1 H1 e1 O1 r1 P1 => ?_
  obtain ⟨d, e2, P2⟩ := P1.lift
  cases q : allD xs with
  | none => rw [q] at e2; cases e2
  | some ds =>
    rw [q] at e2
    exact B G1 H1 ds d vs Q O1.sub e2 (allD_reps q r1) fun v G' H' gr q => Post.grow O1 gr q P2
theorem de_callB {id : String} (hm : X.mg x = none) (hc : CallR X (.builtin id) r) (B : Cop X.K X.mg r op) (h : Da X W (e :: es) g) (hv : bootBuiltins x = some (.builtin id) := by decide +kernel) (hg : Gl X x := by rfl) (hn : x ≠ "__name__" := by decide) (hdb : (x == ("__debug__" : Str)) = false := by decide)
    (he : starEach (e :: es) X.env = (false, eval e X.env) :: starEach es X.env := by rfl) (hpl : (backTo pos (starEach es X.env)).any (·.1) = false := by rfl) : De X W (.Call (.Name x p) (e :: es) [] pos) (eCallB op g) := by
  obtain ⟨t, p, k⟩ := h
  exact ⟨_, pe_callB hc hg hm hv p hn hdb he hpl, cb_post B k⟩
theorem de_callTy {T : String} (hm : X.mg x = none) (hc : CallR X (.type T) r) (B : Cop X.K X.mg r op) (h : Da X W (e :: es) g) (hv : bootBuiltins x = some (.type T) := by decide +kernel) (hg : Gl X x := by rfl) (hn : x ≠ "__name__" := by decide) (hdb : (x == ("__debug__" : Str)) = false := by decide)
    (he : starEach (e :: es) X.env = (false, eval e X.env) :: starEach es X.env := by rfl) (hpl : (backTo pos (starEach es X.env)).any (·.1) = false := by rfl) : De X W (.Call (.Name x p) (e :: es) [] pos) (eCallB op g) := by
  obtain ⟨t, p, k⟩ := h
  exact ⟨_, pe_callTy hc hg hm hv p hn hdb he hpl, cb_post B k⟩
theorem cbL_post {t : TE} {K : PySem.W.Frag} {mg : MG} (B : CopL K mg r op)
    (k : ∀ G α ρ ω σ H Q, Own K mg G α ω H → Slots K mg G α ρ σ → Post K mg (RL K mg) G α H Q (fun c d H' => W c d σ H') (gl ρ ω) → t σ H Q)
    (G α ρ ω σ H Q) (O : Own K mg G α ω H) (S : Slots K mg G α ρ σ) (P : Post K mg (RD K mg) G α H Q (fun c d H' => W c d σ H') (eOnL op gl ρ ω)) : tCB r (tCons t tNil) σ H Q := by
  refine Post.step (t := t σ H) (Q1 := fun y H1 => r [y] H1 Q) (k G α ρ ω σ H · O S) P fun ds ω1 v G1 α1 H1 e1 O1 r1 P1 => ?_
  obtain ⟨d, e2, P2⟩ := P1.lift
  obtain ⟨a, vs, rfl, h1, h2⟩ := r1
  exact B G1 H1 ds d a vs Q O1.sub e2 h1 h2 fun v G' H' gr q => Post.grow O1 gr q P2
theorem de_callBL {id : String} (hm : X.mg x = none) (hc : CallR X (.builtin id) r) (B : CopL X.K X.mg r op) (h : Dl X W e gl) (hv : bootBuiltins x = some (.builtin id) := by decide +kernel) (hg : Gl X x := by rfl) (hn : x ≠ "__name__" := by decide) (hdb : (x == ("__debug__" : Str)) = false := by decide)
    (he : starEach (e :: []) X.env = (false, eval e X.env) :: starEach [] X.env := by rfl) (hpl : (backTo pos (starEach [] X.env)).any (·.1) = false := by rfl) : De X W (.Call (.Name x p) [e] [] pos) (eOnL op gl) := by
  obtain ⟨t, p, k⟩ := h
  exact ⟨_, pe_callB hc hg hm hv (pa_cons p pa_nil he) hn hdb he hpl, cbL_post B k⟩
theorem de_callTyL {T : String} (hm : X.mg x = none) (hc : CallR X (.type T) r) (B : CopL X.K X.mg r op) (h : Dl X W e gl) (hv : bootBuiltins x = some (.type T) := by decide +kernel) (hg : Gl X x := by rfl) (hn : x ≠ "__name__" := by decide) (hdb : (x == ("__debug__" : Str)) = false := by decide)
    (he : starEach (e :: []) X.env = (false, eval e X.env) :: starEach [] X.env := by rfl) (hpl : (backTo pos (starEach [] X.env)).any (·.1) = false := by rfl) : De X W (.Call (.Name x p) [e] [] pos) (eOnL op gl) := by
  obtain ⟨t, p, k⟩ := h
  exact ⟨_, pe_callTy hc hg hm hv (pa_cons p pa_nil he) hn hdb he hpl, cbL_post B k⟩
end
def asBls : List D → Option (List Bool)
  | [] => some []
  | .bl b :: ds => (asBls ds).map (b :: ·)
  | _ :: _ => none
def oLen : List D → Option D
  | [.tup ds] => some (.int ds.length)
  | [.lst ds] => some (.int ds.length)
  | [.str z] => if z.length ≤ lim then some (.int z.length) else none
  | _ => none
def oLenL (ds : List D) : Option D := some (.int ds.length)
def oAllL (ds : List D) : Option D := (asBls ds).map fun bs => .bl (bs.all id)
def oInt : List D → Option D
  | [.int i] => some (.int i)
  | [.bl b] => some (.int (if b then 1 else 0))
  | _ => none
def oTuple : List D → Option D
  | [.tup ds] => some (.tup ds)
  | [.lst ds] => some (.tup ds)
  | _ => none
def oTupleL (ds : List D) : Option D := some (.tup ds)
def oList : List D → Option D
  | [.tup ds] => some (.lst ds)
  | [.lst ds] => some (.lst ds)
  | _ => none
def oListL (ds : List D) : Option D := some (.lst ds)
def oMax : List D → Option D
  | [.int i, .int j] => some (.int (if j > i then j else i))
  | _ => none
section
variable {K : PySem.W.Frag} {mg : MG} {G H : Hp} {X : Cx}
theorem asBls_reps : ∀ {ds : List D} {bs : List Bool} {vs : List V}, asBls ds = some bs → Reps K mg G ds vs → vs = bs.map V.bl
  | [], bs, vs, e, r => by cases e; exact reps_nil.mp r
  | d :: ds, bs, vs, e, r => by
    rw [reps_cons] at r
    obtain ⟨v, rr, rfl, h1, h2⟩ := r
    cases d with
    | bl b =>
      unfold asBls at e
      cases q : asBls ds with
      | none => rw [q] at e; cases e
      | some bs' =>
        rw [q] at e; cases e
        rw [rep_bl] at h1
        rw [h1, asBls_reps q h2]; rfl
    | _ => cases e
theorem reps1 {d : D} {vs : List V} (r : Reps K mg G [d] vs) : ∃ v, vs = [v] ∧ Rep K mg G d v := by
  rw [reps_cons] at r
  obtain ⟨v, rr, rfl, h1, h2⟩ := r
  rw [reps_nil] at h2; subst h2
  exact ⟨v, rfl, h1⟩
theorem reps2 {d e : D} {vs : List V} (r : Reps K mg G [d, e] vs) : ∃ v u, vs = [v, u] ∧ Rep K mg G d v ∧ Rep K mg G e u := by
  rw [reps_cons] at r
  obtain ⟨v, rr, rfl, h1, h2⟩ := r
  obtain ⟨u, rfl, h3⟩ := reps1 h2
  exact ⟨v, u, rfl, h1, h3⟩
theorem cop_len : Cop K mg (fun xs H Q => ∃ x n, xs = [x] ∧ LenV K x H n ∧ Q (.int n) H) oLen := by
  intro G H ds d vs Q s e r k
  unfold oLen at e
  split at e
  · cases e
    obtain ⟨v, rfl, h1⟩ := reps1 r
    rw [rep_tup] at h1
    obtain ⟨a, us, rfl, q, h2⟩ := h1
    exact ⟨_, _, rfl, .inr ⟨us, Same.sqT s q, rfl⟩, k _ G H (Grow.refl s) (rep_int.mpr (by rw [h2.length]))⟩
  · cases e
    obtain ⟨v, rfl, h1⟩ := reps1 r
    rw [rep_lst] at h1
    obtain ⟨a, us, rfl, q, h2⟩ := h1
    exact ⟨_, _, rfl, .inl ⟨us, s.seq q, rfl⟩, k _ G H (Grow.refl s) (rep_int.mpr (by rw [h2.length]))⟩
  · split at e
    · rename_i hl
      cases e
      obtain ⟨v, rfl, h1⟩ := reps1 r
      rw [rep_str] at h1
      subst h1
      exact ⟨_, _, rfl, ⟨by rw [lim_eq]; exact hl, rfl⟩, k _ G H (Grow.refl s) (rep_int.mpr rfl)⟩
    · cases e
  · cases e
theorem copL_len : CopL K mg (fun xs H Q => ∃ x n, xs = [x] ∧ LenV K x H n ∧ Q (.int n) H) oLenL := by
  intro G H ds d a vs Q s e q r k
  cases e
  exact ⟨_, _, rfl, .inl ⟨vs, q, rfl⟩, k _ G H (Grow.refl s) (rep_int.mpr (by rw [r.length]))⟩
theorem copL_all : CopL K mg (rAll K) oAllL := by
  intro G H ds d a vs Q s e q r k
  unfold oAllL at e
  cases q1 : asBls ds with
  | none => rw [q1] at e; cases e
  | some bs =>
    rw [q1] at e; cases e
    have := asBls_reps q1 r
    subst this
    exact ⟨a, bs, rfl, q, k _ G H (Grow.refl s) (rep_bl.mpr rfl)⟩
theorem cop_int : Cop K mg (fun xs H Q => (∃ i, xs = [V.int i] ∧ Q (.int i) H) ∨ ∃ k, xs = [V.bl k] ∧ Q (.int (if k then 1 else 0)) H) oInt := by
  intro G H ds d vs Q s e r k
  unfold oInt at e
  split at e
  · cases e
    obtain ⟨v, rfl, h1⟩ := reps1 r
    rw [rep_int] at h1
    subst h1
    exact .inl ⟨_, rfl, k _ G H (Grow.refl s) (rep_int.mpr rfl)⟩
  · cases e
    obtain ⟨v, rfl, h1⟩ := reps1 r
    rw [rep_bl] at h1
    subst h1
    exact .inr ⟨_, rfl, k _ G H (Grow.refl s) (rep_int.mpr rfl)⟩
  · cases e
abbrev rTupleOf (K : PySem.W.Frag) : List V → Hp → VK → Prop := fun xs H Q => ∃ p ys, xs = [.ref p] ∧ ((SqL K H p ys ∧ ∀ l, H l = none → Q (.ref l) (L2.upd H l (.tup ys))) ∨ (SqT K H p ys ∧ Q (.ref p) H))
abbrev rListOf (K : PySem.W.Frag) : List V → Hp → VK → Prop := fun xs H Q => ∃ p ys, xs = [.ref p] ∧ (SqL K H p ys ∨ SqT K H p ys) ∧ ∀ l, H l = none → Q (.ref l) (L2.upd H l (.lst ys))
theorem copL_tuple : CopL K mg (rTupleOf K) oTupleL := by
  intro G H ds d a vs Q s e q r k
  cases e
  exact ⟨a, vs, rfl, .inl ⟨q, fun l hl => k _ _ _ (Grow.put s hl) (rep_newT (H := H) (s.free hl) r)⟩⟩
theorem cop_tuple : Cop K mg (rTupleOf K) oTuple := by
  intro G H ds d vs Q s e r k
  unfold oTuple at e
  split at e
  · cases e
    obtain ⟨v, rfl, h1⟩ := reps1 r
    have h1' := h1
    rw [rep_tup] at h1
    obtain ⟨a, us, rfl, q, h2⟩ := h1
    exact ⟨a, us, rfl, .inr ⟨Same.sqT s q, k _ G H (Grow.refl s) h1'⟩⟩
  · cases e
    obtain ⟨v, rfl, h1⟩ := reps1 r
    rw [rep_lst] at h1
    obtain ⟨a, us, rfl, q, h2⟩ := h1
    exact copL_tuple G H _ _ a us Q s rfl (s.seq q) h2 k
  · cases e
theorem copL_list : CopL K mg (rListOf K) oListL := by
  intro G H ds d a vs Q s e q r k
  cases e
  exact ⟨a, vs, rfl, .inl q, fun l hl => k _ _ _ (Grow.put s hl) (rep_newL (H := H) (s.free hl) r)⟩
theorem cop_list : Cop K mg (rListOf K) oList := by
  intro G H ds d vs Q s e r k
  unfold oList at e
  split at e
  · cases e
    obtain ⟨v, rfl, h1⟩ := reps1 r
    rw [rep_tup] at h1
    obtain ⟨a, us, rfl, q, h2⟩ := h1
    exact ⟨a, us, rfl, .inr (Same.sqT s q), fun l hl => k _ _ _ (Grow.put s hl) (rep_newL (H := H) (s.free hl) h2)⟩
  · cases e
    obtain ⟨v, rfl, h1⟩ := reps1 r
    rw [rep_lst] at h1
    obtain ⟨a, us, rfl, q, h2⟩ := h1
    exact copL_list G H _ _ a us Q s rfl (s.seq q) h2 k
  · cases e
theorem cop_max : Cop K mg (fun xs H Q => ∃ i j, xs = [V.int i, V.int j] ∧ Q (.int (if j > i then j else i)) H) oMax := by
  intro G H ds d vs Q s e r k
  unfold oMax at e
  split at e
  · cases e
    obtain ⟨v, u, rfl, h1, h2⟩ := reps2 r
    rw [rep_int] at h1 h2
    subst h1 h2
    exact ⟨_, _, rfl, k _ G H (Grow.refl s) (rep_int.mpr rfl)⟩
  · cases e
end
def tyD : D → Option String
  | .non => some "NoneType"
  | .bl _ => some "bool"
  | .int _ => some "int"
  | .str _ => some "str"
  | .tup _ => some "tuple"
  | .lst _ => some "list"
  | _ => none
def isTy (t u : String) : Bool := t == u || (t == "bool" && u == "int")
def tyNames : List String := ["NoneType", "bool", "int", "str", "tuple", "list"]
def isiD (u : String) (d : D) : Option D := (tyD d).map fun t => .bl (isTy t u)
def eIsi (u : String) (f : FE D) : FE D := fun ρ ω => (f ρ ω).bind fun d ω1 => Res.lift (isiD u d) ω1
section
variable {K : PySem.W.Frag} {mg : MG} {G H : Hp} {X : Cx} {W : WX}
theorem tyD_of (s : Same G H) : ∀ {d : D} {t : String} {v : V}, tyD d = some t → Rep K mg G d v → TyX K H v (.type t)
  | .non, t, v, e, r => by cases e; rw [rep_non] at r; subst r; exact .base .non
  | .bl b, t, v, e, r => by cases e; rw [rep_bl] at r; subst r; exact .base (.bl b)
  | .int b, t, v, e, r => by cases e; rw [rep_int] at r; subst r; exact .base (.int b)
  | .str b, t, v, e, r => by cases e; rw [rep_str] at r; subst r; exact .base (.str b)
  | .tup ds, t, v, e, r => by
    cases e
    rw [rep_tup] at r
    obtain ⟨a, vs, rfl, q, _⟩ := r
    rcases Same.sqT s q with (h | ⟨o, h⟩) | ⟨o, its, n, h1, h2, _⟩
    · exact .base (.tup h)
    · exact .fTuple h
    · exact .kTuple h1 h2
  | .lst ds, t, v, e, r => by
    cases e
    rw [rep_lst] at r
    obtain ⟨a, vs, rfl, q, _⟩ := r
    rcases s.seq q with (h | ⟨o, h⟩) | ⟨o, its, n, h1, h2, _⟩
    · exact .base (.lst h)
    · exact .base (.frz h)
    · exact .kList h1 h2
  | .obj _ _, t, v, e, r => by cases e
  | .dcK _, t, v, e, r => by cases e
  | .dcN _, t, v, e, r => by cases e
def TyAsk (K : PySem.W.Frag) (u : String) : Prop := ∀ t ∈ tyNames, PySem.W.kitOne K (.type t) (.type u) = some (isTy t u)
theorem tyD_names : ∀ {d : D} {t : String}, tyD d = some t → t ∈ tyNames
  | .non, t, e => by cases e; decide
  | .bl b, t, e => by cases e; decide
  | .int b, t, e => by cases e; decide
  | .str b, t, e => by cases e; decide
  | .tup ds, t, e => by cases e; decide
  | .lst ds, t, e => by cases e; decide
  | .obj _ _, t, e => by cases e
  | .dcK _, t, e => by cases e
  | .dcN _, t, e => by cases e
theorem de_isi {e : Expr} {f : FE D} {x : Str} {u : String} {p p2 pos : Pos} (hi : X.mg "isinstance" = none) (hx : X.mg x = none) (ask : TyAsk X.K u) (h : De X W e f) (hv : bootBuiltins x = some (.type u) := by decide +kernel) (hgx : Gl X x := by rfl) (hn : x ≠ "__name__" := by decide) (hdb : (x == ("__debug__" : Str)) = false := by decide)
    (hg : Gl X "isinstance" := by rfl) (he : starEach (e :: [.Name x p2]) X.env = (false, eval e X.env) :: starEach [.Name x p2] X.env := by rfl) (he2 : starEach (.Name x p2 :: []) X.env = (false, eval (.Name x p2) X.env) :: starEach [] X.env := by rfl)
    (hpl : (backTo pos (starEach [.Name x p2] X.env)).any (·.1) = false := by rfl) (hvi : bootBuiltins "isinstance" = some (.builtin "isinstance") := by decide +kernel) :
    De X W (.Call (.Name "isinstance" p) [e, .Name x p2] [] pos) (eIsi u f) := by
  obtain ⟨t, q, k⟩ := h
  refine ⟨_, pe_callB call_isi hg hi hvi (pa_cons q (pa_cons (pe_bltn (v := .ty u) hgx hx hv rfl hn hdb) pa_nil he2) he) (by decide) (by decide) he hpl, fun G α ρ ω σ H Q O S P => ?_⟩
  refine Post.step (t := t σ H) (k G α ρ ω σ H · O S) P fun d ω1 v G1 α1 H1 e1 O1 r1 P1 => ?_
  obtain ⟨b, e2, P2⟩ := P1.lift
  unfold isiD at e2
  cases q1 : tyD d with
  | none => rw [q1] at e2; cases e2
  | some tt =>
    rw [q1] at e2; cases e2
    exact ⟨v, .ty u, .type tt, .type u, _, rfl, .ty u, tyD_of O1.sub q1 r1, ask tt (tyD_names q1), Post.here O1 (show Rep X.K X.mg G1 _ _ from rep_bl.mpr rfl) P2⟩
end
end Dl
namespace Dl
open PySem L2
abbrev FnP := List D → Option (Except Exn D)
abbrev Fn := List SV → Om → Res SV
def rho0 (m : Nat) (xs : List SV) : Rho := xs.map some ++ List.replicate (m - xs.length) none
def fnP (n m : Nat) (fb : FS) : FnP := fun ds => if ds.length = n then (match fb (rho0 m (ds.map SV.val)) [] with
    | .ret (.val d) _ => some (.ok d)
    | .next _ _ => some (.ok .non)
    | .exc x _ _ => some (.error x)
    | _ => none) else none
def fnE (n m : Nat) (fb : FS) : Fn := fun xs ω => if xs.length = n then (match fb (rho0 m xs) ω with
    | .ret (.val d) ω' => .ok (.val d) (ω'.take ω.length)
    | .ret (.exc z) ω' => .ok (.exc z) (ω'.take ω.length)
    | .ret (.own k) ω' => if k < ω.length then .ok (.own k) (ω'.take ω.length) else if k = ω.length then .ok (.own k) (ω'.take (ω.length + 1)) else .stuck
    | .next _ ω' => .ok (.val .non) (ω'.take ω.length)
    | .exc x _ ω' => .exc x (ω'.take ω.length)
    | _ => .stuck) else .stuck
section
variable (K : PySem.W.Frag) (mg : MG)
def spP (F : FnP) : Sp := fun vs H Q E => ∃ G ds, Same G H ∧ Reps K mg G ds vs ∧ (match F ds with
  | none => False
  | some (.ok d) => ∀ v G' H', Grow G H G' H' → Rep K mg G' d v → Q v H'
  | some (.error x) => ∀ c dd G' H', Grow G H G' H' → RepX K mg G' x c dd → E c dd H')
def spE (F : Fn) : Sp := fun vs H Q E => ∃ G α ω xs, Own K mg G α ω H ∧ RepVs K mg G α xs vs ∧ Post K mg (RS K mg) G α H Q E (F xs ω)
end
section
variable {K : PySem.W.Frag} {mg : MG}
theorem slots0 {G : Hp} {α : List Addr} {N : List Str} {xs : List SV} {vs : List V} (r : RepVs K mg G α xs vs) : Slots K mg G α (rho0 N.length xs) (L2.start N vs) := by
  have hl : xs.length = vs.length := RepVs.length r
  refine ⟨by simp [rho0, L2.start, hl], fun i x e => ?_⟩
  unfold rho0 at e
  unfold L2.start
  by_cases h : i < xs.length
  · rw [List.getElem?_append_left (by simpa using h), List.getElem?_map] at e
    rw [List.getElem?_append_left (by simp; omega), List.getElem?_map]
    cases q : xs[i]? with
    | none => rw [q] at e; cases e
    | some y =>
      rw [q] at e
      cases e
      have get : ∀ {xs : List SV} {vs : List V} {i : Nat} {y : SV}, RepVs K mg G α xs vs → xs[i]? = some y → ∃ v, vs[i]? = some v ∧ RepV K mg G α y v := by
        intro xs vs i y r
        induction r generalizing i with
        | nil => intro e; simp at e
        | cons h t ih =>
          intro e
          cases i with
          | zero => simp at e; subst e; exact ⟨_, rfl, h⟩
          | succ i => simp at e; simpa using ih e
      obtain ⟨v, h1, h2⟩ := get r q
      rw [h1]
      exact ⟨v, rfl, h2⟩
  · rw [List.getElem?_append_right (by simp; omega)] at e
    exfalso
    have := List.mem_of_getElem? e
    rw [List.mem_replicate] at this
    cases this.2
theorem repVs_val {G : Hp} {α : List Addr} : ∀ {ds : List D} {vs : List V}, Reps K mg G ds vs → RepVs K mg G α (ds.map SV.val) vs
  | [], vs, r => by rw [reps_nil] at r; subst r; exact .nil
  | d :: ds, vs, r => by
    rw [reps_cons] at r
    obtain ⟨v, rr, rfl, h1, h2⟩ := r
    exact .cons h1 (repVs_val h2)
theorem Ext.grow {G H G' H' : Hp} {α' : List Addr} {ω' : Om} (e : Ext G [] H G' α' H') (O : Own K mg G' α' ω' H') : Grow G H G' H' :=
  ⟨e.g, fun a o h => e.keep a o h (by simp), O.sub, fun a o h => by
    rcases e.new a o h with z | z | z
    · exact .inl z
    · exact .inr z
    · simp at z⟩
theorem Own.take {G H : Hp} {α : List Addr} {ω : Om} (O : Own K mg G α ω H) (n : Nat) : Own K mg G (α.take n) (ω.take n) H := by
  refine ⟨O.sub, by simp [O.len], O.nd.sublist (List.take_sublist _ _), fun a ha => O.ex a (List.mem_of_mem_take ha), fun k o a h1 h2 => ?_⟩
  rw [List.getElem?_take] at h1 h2
  split at h1
  · rename_i hk
    rw [if_pos hk] at h2
    exact O.obj k o a h1 h2
  · cases h1
theorem Ext.take {G H G' H' : Hp} {α α' : List Addr} (e : Ext G α H G' α' H') {n : Nat} (hn : α.length ≤ n) : Ext G α H G' (α'.take n) H' := by
  obtain ⟨more, h1, h2⟩ := e.pre
  refine ⟨e.g, e.new, e.keep, e.live, more.take (n - α.length), ?_, fun a ha => h2 a (List.mem_of_mem_take ha)⟩
  rw [h1, List.take_append, List.take_of_length_le hn]
end
section
variable {P : Program} {w : World} {K : PySem.W.Frag} {mg : Str → Option Value} {base : Heap}
theorem fn_okP {x qual : Str} {st : Stmt} {f : Addr} {fd : FuncData} {N ps : List Str} {k n : Nat} {fb : FS} (F : Fun K x qual st f fd) (S : FnScope N ps (defScope st)) (hn : ps.length = n)
    (hbody : ∀ (cdv : Value) (A : Around) (outer : List Env) (s : Shared) (H : Hp) (E : XK), Room k (A.deeper (PyProof.Rows.envOfC qual (defScope st) s.heap.objs.size f cdv)) →
      Dss (cxOf (L2.CX P w) P w K mg base N qual (defScope st) f cdv A outer s H E) (fun c d _ H' => E c d H') (defBody st) fb) : FnOk P w K mg base (L2.CX P w) (k + 1) f fd ps (spP K mg (fnP n N.length fb)) := by
  refine F.okX S (fun vs H Q E h => ?_) (fun cdv A outer s H vs Q E hr h => ?_)
  · obtain ⟨G, ds, s, r, h⟩ := h
    unfold fnP at h
    by_cases e : ds.length = n
    · rw [r.length, e, hn]
    · rw [if_neg e] at h; exact h.elim
  · obtain ⟨G, ds, sm, r, h⟩ := h
    obtain ⟨t, p, kk⟩ := hbody cdv A outer s H E hr
    refine ⟨t, p, kk G [] (rho0 N.length (ds.map SV.val)) [] _ H _ (Own.nil sm) (slots0 (repVs_val r)) ?_⟩
    unfold fnP at h
    by_cases e : ds.length = n
    · rw [if_pos e] at h
      cases q : fb (rho0 N.length (ds.map SV.val)) [] with
      | stuck => rw [q] at h; exact h.elim
      | brk _ _ => rw [q] at h; exact h.elim
      | cont _ _ => rw [q] at h; exact h.elim
      | next ρ' ω' =>
        rw [q] at h
        exact fun σ' G' α' H' e' O' S' => h .non G' H' (e'.grow O') (rep_non.mpr rfl)
      | ret x ω' =>
        rw [q] at h
        cases x with
        | own k => exact h.elim
        | exc z => exact h.elim
        | val d => exact fun v G' α' H' e' O' r' => h v G' H' (e'.grow O') r'
      | exc x ρ' ω' =>
        rw [q] at h
        exact fun c dd σ' G' α' H' e' O' S' r' => h c dd G' H' (e'.grow O') r'
    · rw [if_neg e] at h; exact h.elim
theorem fn_okE {x qual : Str} {st : Stmt} {f : Addr} {fd : FuncData} {N ps : List Str} {k n : Nat} {fb : FS} (F : Fun K x qual st f fd) (S : FnScope N ps (defScope st)) (hn : ps.length = n)
    (hbody : ∀ (cdv : Value) (A : Around) (outer : List Env) (s : Shared) (H : Hp) (E : XK), Room k (A.deeper (PyProof.Rows.envOfC qual (defScope st) s.heap.objs.size f cdv)) →
      Dss (cxOf (L2.CX P w) P w K mg base N qual (defScope st) f cdv A outer s H E) (fun c d _ H' => E c d H') (defBody st) fb) : FnOk P w K mg base (L2.CX P w) (k + 1) f fd ps (spE K mg (fnE n N.length fb)) := by
  refine F.okX S (fun vs H Q E h => ?_) (fun cdv A outer s H vs Q E hr h => ?_)
  · obtain ⟨G, α, ω, xs, O, r, h⟩ := h
    unfold fnE at h
    by_cases e : xs.length = n
    · rw [← RepVs.length r, e, hn]
    · rw [if_neg e] at h; exact h.elim
  · obtain ⟨G, α, ω, xs, O, r, h⟩ := h
    obtain ⟨t, p, kk⟩ := hbody cdv A outer s H E hr
    refine ⟨t, p, kk G α (rho0 N.length xs) ω _ H _ O (slots0 r) ?_⟩
    unfold fnE at h
    by_cases e : xs.length = n
    · rw [if_pos e] at h
      cases q : fb (rho0 N.length xs) ω with
      | stuck => rw [q] at h; exact h.elim
      | brk _ _ => rw [q] at h; exact h.elim
      | cont _ _ => rw [q] at h; exact h.elim
      | next ρ' ω' =>
        rw [q] at h
        exact fun σ' G' α' H' e' O' S' => h .non G' (α'.take ω.length) H' (e'.take (by rw [O.len]; exact Nat.le_refl _)) (O'.take _) (show Rep K mg G' .non .non from rep_non.mpr rfl)
      | ret x ω' =>
        rw [q] at h
        cases x with
        | val d => exact fun v G' α' H' e' O' r' => h v G' (α'.take ω.length) H' (e'.take (by rw [O.len]; exact Nat.le_refl _)) (O'.take _) r'
        | exc z => exact fun v G' α' H' e' O' r' => h v G' (α'.take ω.length) H' (e'.take (by rw [O.len]; exact Nat.le_refl _)) (O'.take _) r'
        | own k =>
          dsimp only at h
          intro v G' α' H' e' O' r'
          obtain ⟨a, h1, rfl⟩ := r'
          by_cases hk : k < ω.length
          · rw [if_pos hk] at h
            exact h (.ref a) G' (α'.take ω.length) H' (e'.take (by rw [O.len]; exact Nat.le_refl _)) (O'.take _) ⟨a, by rw [List.getElem?_take, if_pos hk]; exact h1, rfl⟩
          · rw [if_neg hk] at h
            by_cases hk2 : k = ω.length
            · rw [if_pos hk2] at h
              exact h (.ref a) G' (α'.take (ω.length + 1)) H' (e'.take (by rw [O.len]; exact Nat.le_succ _)) (O'.take _) ⟨a, by rw [List.getElem?_take, if_pos (by omega)]; exact h1, rfl⟩
            · rw [if_neg hk2] at h; exact h.elim
      | exc x ρ' ω' =>
        rw [q] at h
        exact fun c dd σ' G' α' H' e' O' S' r' => h c dd G' (α'.take ω.length) H' (e'.take (by rw [O.len]; exact Nat.le_refl _)) (O'.take _) r'
    · rw [if_neg e] at h; exact h.elim
end
def eCallP (F : FnP) (g : FE (List SV)) : FE D := fun ρ ω => (g ρ ω).bind fun xs ω1 => match allD xs with
  | none => .stuck
  | some ds => match F ds with
    | none => .stuck
    | some (.ok d) => .ok d ω1
    | some (.error x) => .exc x ω1
def eCallE (F : Fn) (g : FE (List SV)) : FE SV := fun ρ ω => (g ρ ω).bind F
def eVal (f : FE SV) : FE D := fun ρ ω => (f ρ ω).bind fun x ω1 => match x with
  | .val d => .ok d ω1
  | .own _ => .stuck
  | .exc _ => .stuck
section
variable {X : Cx} {W : WX} {k : Nat} {f : Addr} {fd : FuncData} {ps : List Str} {x : Str} {e : Expr} {es : List Expr} {p pos : Pos} {g : FE (List SV)}
theorem de_val {fv : FE SV} (h : Dv X W e fv) : De X W e (eVal fv) := by
  obtain ⟨t, p, j⟩ := h
  refine ⟨t, p, fun G α ρ ω σ H Q O S P => ?_⟩
  refine Post.step (t := t σ H) (j G α ρ ω σ H · O S) P fun x ω1 v G1 α1 H1 e1 O1 r1 P1 => ?_
  cases x with
  | own k => exact P1.elim
  | exc k => exact P1.elim
  | val d => exact Post.here O1 (show Rep X.K X.mg G1 d v from r1) P1
structure Clb (X : Cx) (k : Nat) (x : Str) (f : Addr) (fd : FuncData) (ps : List Str) (sp : Sp) : Prop where
  ok : FnOk X.prog X.w X.K X.mg X.base (L2.CX X.prog X.w) k f fd ps sp
  gl : X.mg x = some (.ref f)
  kp : PySem.W.keepIn X.K (.ref f) = true
  bd : Binds X.K fd ps []
theorem de_call {F : FnP} (tk : Takes X W) (hr : Room k X.A) (C : Clb X k x f fd ps (spP X.K X.mg F)) (h : Da X W (e :: es) g) (hg : Gl X x := by rfl) (hdb : (x == ("__debug__" : Str)) = false := by decide) (he : starEach (e :: es) X.env = (false, eval e X.env) :: starEach es X.env := by rfl)
    (hpl : (backTo pos (starEach es X.env)).any (·.1) = false := by rfl) : De X W (.Call (.Name x p) (e :: es) [] pos) (eCallP F g) := by
  obtain ⟨t, q, j⟩ := h
  refine ⟨_, pe_callSD (dvs := []) (E := WE W) C.ok hr hg C.gl C.kp C.bd .nil (fun σ => passAt tk σ) q hdb he hpl, fun G α ρ ω σ H Q O S P => ?_⟩
  refine Post.step (t := t σ H) (j G α ρ ω σ H · O S) P fun xs ω1 vs G1 α1 H1 e1 O1 r1 P1 => ?_
  rw [List.append_nil]
  cases q1 : allD xs with
  | none => rw [q1] at P1; exact P1.elim
  | some ds =>
    rw [q1] at P1; dsimp only at P1
    refine ⟨G1, ds, O1.sub, allD_reps q1 r1, ?_⟩
    cases q2 : F ds with
    | none => rw [q2] at P1; exact P1.elim
    | some y =>
      rw [q2] at P1
      cases y with
      | ok d => exact fun v G' H' gr r => Post.grow O1 gr (show Rep X.K X.mg G' d v from r) P1
      | error z => exact fun c dd G' H' gr r => P1 c dd G' α1 H' gr.ext (O1.grow gr) r
theorem dv_callE {F : Fn} (tk : Takes X W) (hr : Room k X.A) (C : Clb X k x f fd ps (spE X.K X.mg F)) (h : Da X W (e :: es) g) (hg : Gl X x := by rfl) (hdb : (x == ("__debug__" : Str)) = false := by decide) (he : starEach (e :: es) X.env = (false, eval e X.env) :: starEach es X.env := by rfl)
    (hpl : (backTo pos (starEach es X.env)).any (·.1) = false := by rfl) : Dv X W (.Call (.Name x p) (e :: es) [] pos) (eCallE F g) := by
  obtain ⟨t, q, j⟩ := h
  refine ⟨_, pe_callSD (dvs := []) (E := WE W) C.ok hr hg C.gl C.kp C.bd .nil (fun σ => passAt tk σ) q hdb he hpl, fun G α ρ ω σ H Q O S P => ?_⟩
  refine Post.step (t := t σ H) (j G α ρ ω σ H · O S) P fun xs ω1 vs G1 α1 H1 e1 O1 r1 P1 => ?_
  rw [List.append_nil]
  exact ⟨G1, α1, ω1, xs, O1, r1, P1⟩
end
def eMake (c : Str) (F : Fn) (g : FE (List SV)) : FE D := fun ρ ω => (g ρ ω).bind fun xs ω1 => match allD xs with
  | none => .stuck
  | some ds => match F (.own 0 :: ds.map SV.val) [some (.ins c [])] with
    | .ok (.val .non) [some (.ins c' fs)] => .ok (.obj c' fs) ω1
    | .exc x _ => .exc x ω1
    | _ => .stuck
section
variable {X : Cx} {CX : CXT} {k : Nat} {f C : Addr} {fd : FuncData} {ps : List Str} {sp : Sp} {dvs : List V} {ds : List Value} {E : St → XK} {x : Str} {p pos : Pos} {e : Expr} {es : List Expr} {t : TA}
def tMakeS (C : Addr) (sp : Sp) (E : St → XK) (t : TA) : TE := fun σ H Q => t σ H fun vs H1 => ∀ x dx, H1 x = none → H1 dx = none → dx ≠ x →
  sp (.ref x :: vs) (L2.upd (L2.upd H1 dx (.own x)) x (.ins C dx [])) (fun v H2 => v = .non ∧ Q (.ref x) H2) (E σ)
theorem run_makeS {pins : List (Addr × Obj)} {σ : St} {H : Hp} {s : Shared} {Q : VK} {us : List Value} {vs : List V} (M : Mk X.K C f) (F : FnOk X.prog X.w X.K X.mg X.base CX k f fd ps sp) (hr : Room (k + 1) X.A) (hb : Binds X.K fd ps [])
    (hx : PassesAt CX X σ (E σ)) (I : Inv X pins σ H s) (r : Vals vs us)
    (h : ∀ x dx, H x = none → H dx = none → dx ≠ x → sp (.ref x :: vs) (L2.upd (L2.upd H dx (.own x)) x (.ins C dx [])) (fun v H2 => v = .non ∧ Q (.ref x) H2) (E σ)) :
    wpAny (model X.prog X.w) X.A (call (.ref C) us) (EP X pins σ Q) X.xe s := by
  have hq := h (s.heap.objs.size + 1) s.heap.objs.size (I.hok.fresh (Nat.le_succ _)) (I.hok.fresh (Nat.le_refl _)) (Nat.ne_of_lt (Nat.lt_succ_self _))
  have I2 := Inv.made (C := C) I
  have r2 : Vals (V.ref (s.heap.objs.size + 1) :: vs) (Value.ref (s.heap.objs.size + 1) :: us) := .cons rfl r
  have hl : (Value.ref (s.heap.objs.size + 1) :: us ++ []).length = ps.length := by
    have e := r2.length
    rw [F.len _ _ _ _ hq] at e
    rw [List.append_nil]
    exact e.symm
  have bb := hb _ (Value.ref (s.heap.objs.size + 1) :: us) I2.kIn hl
  rw [List.append_nil] at bb
  refine wpAny_call (make_map (f := f) I.kIn M.makes M.init (beq_iff_eq.mp M.fn) (codeAny_mono (F.run _ X.stack _ _ ⟨Value.ref (s.heap.objs.size + 1) :: us, []⟩ (Value.ref (s.heap.objs.size + 1) :: us) _ _ (E σ) (hr.make C us [])
    (I2.env0.make C us []) bb r2 hq) fun r s' hq' => ?_))
  cases r with
  | error e => exact hx pins _ _ e s' I2 hq'
  | ok fl =>
    cases fl with
    | ret u =>
      obtain ⟨v, H', I3, rv, ev, q3⟩ := I2.after hq'
      subst ev
      exact ⟨rv, ⟨V.ref (s.heap.objs.size + 1), H', I3, rfl, q3⟩⟩
    | next => exact False.elim hq'
    | brk => exact False.elim hq'
    | cont => exact False.elim hq'
theorem pe_makeS (M : Mk X.K C f) (F : FnOk X.prog X.w X.K X.mg X.base CX k f fd ps sp) (hr : Room (k + 1) X.A) (hg : Gl X x) (hm : X.mg x = some (.ref C)) (hb : Binds X.K fd ps []) (hx : ∀ σ, PassesAt CX X σ (E σ))
    (ha : PA X (e :: es) t) (hdb : (x == ("__debug__" : Str)) = false := by decide) (he : starEach (e :: es) X.env = (false, eval e X.env) :: starEach es X.env := by rfl) (hpl : (backTo pos (starEach es X.env)).any (·.1) = false := by rfl) :
    PE X (.Call (.Name x p) (e :: es) [] pos) (tMakeS C sp E t) := by
  refine ⟨fun pins s σ H Q I h => ?_⟩
  refine wpAny_Call_Name_kw (ld_glob I hg hm ?_ hdb)
  refine PySem.W.callWith_K (h₀ := X.base) I.ok.mod.kin M.kp (thn (ha.run pos pins s σ H _ I h) fun us s1 ⟨vs, H1, I1, r, q⟩ => ⟨I1.kIn, ?_⟩) he hpl
  exact run_makeS M F hr hb (hx σ) I1 r q
end
section
variable {X : Cx} {W : WX} {k : Nat} {f C : Addr} {fd : FuncData} {ps : List Str} {x : Str} {e : Expr} {es : List Expr} {p pos : Pos} {g : FE (List SV)}
theorem made_own {K : PySem.W.Frag} {mg : MG} {G H : Hp} {a dx C : Addr} {c : Str} (s : Same G H) (hc : mg c = some (.ref C)) (ha : H a = none) (hd : H dx = none) (ne : dx ≠ a) :
    Own K mg G [a] [some (.ins c [])] (L2.upd (L2.upd H dx (.own a)) a (.ins C dx [])) := by
  have ha' : (L2.upd H dx (.own a)) a = none := by rw [upd_ne ne.symm]; exact ha
  have s1 : Same G (L2.upd H dx (.own a)) := s.trans (Same.upd hd)
  exact ((Own.nil (K := K) (mg := mg) s1).new (o := .ins c []) ha' ⟨C, dx, [], hc, upd_same, repF_nil.mpr rfl⟩).1
theorem de_make {F : Fn} (tk : Takes X W) (hr : Room (k + 1) X.A) (M : Mk X.K C f) (ok : FnOk X.prog X.w X.K X.mg X.base (L2.CX X.prog X.w) k f fd ps (spE X.K X.mg F)) (hm : X.mg x = some (.ref C)) (hb : Binds X.K fd ps []) (h : Da X W (e :: es) g)
    (hg : Gl X x := by rfl) (hdb : (x == ("__debug__" : Str)) = false := by decide) (he : starEach (e :: es) X.env = (false, eval e X.env) :: starEach es X.env := by rfl)
    (hpl : (backTo pos (starEach es X.env)).any (·.1) = false := by rfl) : De X W (.Call (.Name x p) (e :: es) [] pos) (eMake x F g) := by
  obtain ⟨t, q, j⟩ := h
  refine ⟨_, pe_makeS (E := WE W) M ok hr hg hm hb (fun σ => passAt tk σ) q hdb he hpl, fun G α ρ ω σ H Q O S P => ?_⟩
  refine Post.step (t := t σ H) (j G α ρ ω σ H · O S) P fun xs ω1 vs G1 α1 H1 e1 O1 r1 P1 => ?_
  intro a dx ha hd ne
  cases q1 : allD xs with
  | none => rw [q1] at P1; exact P1.elim
  | some ds =>
    rw [q1] at P1; dsimp only at P1
    have hr1 := allD_reps q1 r1
    have O2 := made_own (K := X.K) (c := x) O1.sub hm ha hd ne
    have hH : Same H1 (L2.upd (L2.upd H1 dx (.own a)) a (.ins C dx [])) := (Same.upd hd).trans (Same.upd (by rw [upd_ne ne.symm]; exact ha))
    -- what is known at the end of __init__, seen from the caller
    have back : ∀ {G' α' H' ω'}, Ext G1 [a] (L2.upd (L2.upd H1 dx (.own a)) a (.ins C dx [])) G' α' H' → Own X.K X.mg G' α' ω' H' → Grow G1 H1 G' H' := fun {G' α' H' ω'} e' O' => by
      refine ⟨e'.g, fun b o h => e'.keep b o (hH b o h) (fun z => ?_), O'.sub, fun b o h => ?_⟩
      · rw [List.mem_singleton.mp z, ha] at h; cases h
      · rcases e'.new b o h with z | z | z
        · exact .inl z
        · refine .inr ?_
          cases q : H1 b with
          | none => rfl
          | some o' => rw [hH b o' q] at z; cases z
        · rw [List.mem_singleton.mp z]; exact .inr ha
    refine ⟨G1, [a], [some (.ins x [])], .own 0 :: ds.map SV.val, O2, .cons ⟨a, rfl, rfl⟩ (repVs_val hr1), ?_⟩
    cases q2 : F (.own 0 :: ds.map SV.val) [some (.ins x [])] with
    | stuck => rw [q2] at P1; exact P1.elim
    | exc z ω' =>
      rw [q2] at P1
      intro c dd G' α' H' e' O' r'
      have gr := back e' O'
      exact P1 c dd G' α1 H' gr.ext (O1.grow gr) r'
    | ok y ω' =>
      rw [q2] at P1
      intro v G' α' H' e' O' r'
      split at P1
      · rename_i z c' fs heq
        cases heq
        have hv : v = .non := rep_non.mp (show Rep X.K X.mg G' .non v from r')
        refine ⟨hv, ?_⟩
        have gr := back e' O'
        obtain ⟨more, h1, _⟩ := e'.pre
        have h2 : α'[0]? = some a := by rw [h1]; rfl
        obtain ⟨hg', C', dx', fvs, hC, hHa, hF⟩ := O'.obj 0 _ a rfl h2
        -- freeze it
        obtain ⟨O3, e3, _⟩ := O'.freeze (k := 0) rfl h2 hHa
        have gr2 : Grow G1 H1 (L2.upd G' a (.ins C' dx' fvs)) H' := by
          refine ⟨gr.g.trans (Same.upd hg'), gr.h, O3.sub, fun b o h => ?_⟩
          by_cases z : b = a
          · subst z; exact .inr ha
          · rw [upd_ne z] at h; exact gr.new b o h
        refine Post.grow O1 gr2 (show Rep X.K X.mg _ _ _ from rep_obj.mpr ⟨a, C', dx', fvs, rfl, hC, upd_same, RepF.mono (Same.upd hg') _ _ hF⟩) P1
      · rename_i z w heq
        cases heq
      · exact P1.elim
def fldD (c f : Str) : D → Option D
  | .obj c' fs => if c' = c then fs.lookup f else none
  | _ => none
def eFld (c f : Str) (fe : FE D) : FE D := fun ρ ω => (fe ρ ω).bind fun d ω1 => Res.lift (fldD c f d) ω1
structure ClsD (K : PySem.W.Frag) (mg : MG) (c : Str) (C : Addr) : Prop where
  gl : mg c = some (.ref C)
  cl : Cls K C
theorem de_fld {c fl : Str} {fe : FE D} (cd : ClsD X.K X.mg c C) (na : NoAttr X.K C fl) (h : De X W e fe) (hb : attributeBase e fl X.env (eval e X.env) = eval e X.env := by rfl) : De X W (.Attribute e fl pos) (eFld c fl fe) := by
  obtain ⟨t, q, j⟩ := h
  refine ⟨_, pe_fld q hb, fun G α ρ ω σ H Q O S P => ?_⟩
  refine Post.step (t := t σ H) (j G α ρ ω σ H · O S) P fun d ω1 v G1 α1 H1 e1 O1 r1 P1 => ?_
  obtain ⟨y, e2, P2⟩ := P1.lift
  cases d with
  | obj c' fs =>
    unfold fldD at e2
    dsimp only at e2
    split at e2
    · rename_i hc
      subst hc
      have r1' : Rep X.K X.mg G1 (.obj c' fs) v := r1
      rw [rep_obj] at r1'
      obtain ⟨a, C', dx, fvs, rfl, hC, hG, hF⟩ := r1'
      have : C' = C := by
        have := hC.symm.trans cd.gl
        cases this; rfl
      subst this
      obtain ⟨u, h3, h4⟩ := hF.look e2
      exact ⟨a, C', dx, fvs, u, rfl, O1.sub a _ hG, cd.cl, na, h3, Post.here O1 (show Rep X.K X.mg G1 y u from h4) P2⟩
    · cases e2
  | _ => cases e2
def ownI (ω : Om) (k : Nat) : Option (Str × List (Str × D)) := match ω[k]? with
  | some (some (.ins c fs)) => some (c, fs)
  | _ => none
theorem ownI_eq {ω : Om} {k : Nat} {c : Str} {fs : List (Str × D)} (h : ownI ω k = some (c, fs)) : ω[k]? = some (some (.ins c fs)) := by
  unfold ownI at h
  split at h
  · rename_i e; cases h; exact e
  · cases h
def sFldO (i : Nat) (c f : Str) (fe : FE D) : FS := fun ρ ω => (fe ρ ω).out ρ fun d ω1 => match ownK ρ i with
  | none => .stuck
  | some k => match ownI ω1 k with
    | none => .stuck
    | some (c', fs) => if c' = c ∧ fs.length < 1000 then .next ρ (ω1.set k (some (.ins c' (putD f d fs)))) else .stuck
theorem putF_rep {K : PySem.W.Frag} {mg : MG} {G : Hp} {f : Str} {d : D} {v : V} (r : Rep K mg G d v) : ∀ {fs : List (Str × D)} {fvs : List (Str × V)}, RepF K mg G fs fvs → RepF K mg G (putD f d fs) (putF f v fvs)
  | [], fvs, h => by
    rw [repF_nil] at h; subst h
    unfold putD putF
    exact repF_cons.mpr ⟨v, [], rfl, r, repF_nil.mpr rfl⟩
  | (g, y) :: fs, fvs, h => by
    rw [repF_cons] at h
    obtain ⟨u, rr, rfl, h1, h2⟩ := h
    unfold putD putF
    by_cases q : g = f
    · rw [if_pos q, if_pos q]
      subst q; exact repF_cons.mpr ⟨v, rr, rfl, r, h2⟩
    · rw [if_neg q, if_neg q]
      exact repF_cons.mpr ⟨u, _, rfl, h1, putF_rep r h2⟩
theorem ds_fldO (i : Nat) {c fl y : Str} {fe : FE D} {p1 p2 : Pos} (cd : ClsD X.K X.mg c C) (na : NoAttr X.K C fl) (h : De X W e fe) (hN : X.N[i]? = some y := by rfl) (hv : Vis X.env.scope y := by first | exact Or.inl rfl | exact Or.inr (Or.inl rfl) | exact Or.inr (Or.inr rfl)) (hd : (y == ("__debug__" : Str)) = false := by decide)
    (hcd : (y == ("__classdict__" : Str)) = false := by decide) (hs : swapsWith e (some (.Attribute (.Name y p1) fl p2)) pos.line X.env = pure false := by rfl) : Ds X W (.Assign [.Attribute (.Name y p1) fl p2] e pos) (sFldO i c fl fe) := by
  obtain ⟨t, q, j⟩ := h
  refine ⟨_, ps_fld (pe_var hN hv hd hcd) q hs, fun G α ρ ω σ H D O S P => ?_⟩
  refine PostS.step S (t := t σ H) (j G α ρ ω σ H · O S) P fun d ω1 v G1 α1 H1 e1 O1 r1 P1 => ?_
  cases q1 : ownK ρ i with
  | none => rw [q1] at P1; exact P1.elim
  | some kk =>
    rw [q1] at P1; dsimp only at P1
    cases q2 : ownI ω1 kk with
    | none => rw [q2] at P1; exact P1.elim
    | some cf =>
      obtain ⟨c', fs⟩ := cf
      rw [q2] at P1; dsimp only at P1
      split at P1
      · rename_i hc
        obtain ⟨hc, hl⟩ := hc
        subst hc
        obtain ⟨v0, h1, a, h2, rfl⟩ := (S.mono e1).val i _ (ownK_eq q1)
        obtain ⟨hg, C', dx, fvs, hC, hHa, hF⟩ := O1.obj kk _ a (ownI_eq q2) h2
        have : C' = C := by
          have := hC.symm.trans cd.gl
          cases this; rfl
        subst this
        refine ⟨_, h1, a, C', dx, fvs, rfl, hHa, cd.cl, na, by rw [hF.length]; exact hl, ?_⟩
        obtain ⟨O2, e2⟩ := O1.put (u := .ins C' dx (putF fl v fvs)) (o' := .ins c' (putD fl d fs)) (ownI_eq q2) h2 ⟨C', dx, _, hC, upd_same, putF_rep r1 hF⟩
        exact P1 _ G1 α1 _ e2 O2 ((S.mono e1).mono e2)
      · exact P1.elim
end
end Dl
namespace Dl
open PySem PySem.Spec PyProof.Rows
open Sem (wp)
open AutoSeq1 (wpAny_loadPart')
theorem tuple_mul1 (l : Addr) (items : Array Value) (n : Nat) (dd : Option Addr) (sl : Array (Option Value)) (u : Tok) :
    Meets (Builtin.«tuple.__mul__» ⟨[.ref l, .int 1 u], []⟩) (fun _ R s => s.heap.get? l = some { cls := .type "tuple", dict := dd, data := .seq items n, slots := sl } ∧ R (.ok (.ret (Value.ref l))) s) :=
  .of_wp fun prog w A R s h => by
    obtain ⟨hp, g, d, tk, os⟩ := s
    obtain ⟨hl, h⟩ := h
    have f1 := AutoSeq1.idx_int
    wp_walk using wpAny_loadPart' hl
    exact ⟨_, rfl, h⟩
end Dl
namespace Dl
open PySem PyProof.Rows PySem.W
section
open L2 (V Hp VK Cx Inv OpR R2 SqT Vals RelV EP HO upd)
def rRep1 (K : PySem.W.Frag) : R2 := fun x y H Q => ∃ l xs, x = .ref l ∧ y = V.int 1 ∧ SqT K H l xs ∧ Q (.ref l) H
theorem op_rep1 {X : Cx} : OpR X (binaryOp .Mult) (rRep1 X.K) := by
  intro pins s σ H x y v u Q I rx ry h
  obtain ⟨l, xs, rfl, rfl, hT, q⟩ := h
  cases rx
  obtain ⟨t, rfl⟩ := ry
  obtain ⟨its, r, ⟨⟨cls, dd, data, sl⟩, ho, hc, n, hd⟩, hs⟩ := I.tuple hT
  simp only at hc hd
  subst hc hd
  exact wpAny_binaryOp_repeat_ref (T := "tuple") (U := "int") (by decide) ⟨_, ho, rfl⟩ (fun s' => typeIs_int s' 1 t) L2.noFill_tuple_mul F.fills_int_mul F.slot_int_rmul L2.repeat_tuple F.slot_int_index.lookup
    (call_meets F.slot_int_rmul (typeIs_int s 1 t) F.entry_int_rmul (F.args_int_rmul_2 _ _) (L2.int_rmul_tuple 1 t l its.toArray n dd sl)
      ⟨ho, rfl, ⟨_, ho, rfl⟩, call_meets F.slot_tuple_mul ⟨_, ho, rfl⟩ F.entry_tuple_mul (F.args_tuple_mul_2 _ _) (tuple_mul1 l its.toArray n dd sl t) ⟨ho, ⟨.ref l, H, I, rfl, q⟩⟩⟩)
end
end Dl
namespace Dl
open PySem L2
def opMulA : D → D → Option D
  | .tup ds, .int k => if k = 1 then some (.tup ds) else if ds ≠ [] ∧ 2 ≤ k ∧ k ≤ 1000 ∧ ds.length ≤ 1000 then some (.tup (List.replicate k.toNat ds).flatten) else none
  | x, y => opMul x y
def rMulA (K : PySem.W.Frag) : R2 := fun x y H Q => (rI CMul fun i j => .int (i * j)) x y H Q ∨ rRep1 K x y H Q ∨ rRepT K x y H Q
section
variable {K : PySem.W.Frag} {mg : MG} {X : Cx} {W : WX}
theorem Reps.rep {G : Hp} {ds : List D} {vs : List V} (r : Reps K mg G ds vs) : ∀ k : Nat, Reps K mg G (List.replicate k ds).flatten (List.replicate k vs).flatten
  | 0 => by simp [reps_nil]
  | k + 1 => by rw [List.replicate_succ, List.replicate_succ, List.flatten_cons, List.flatten_cons]; exact r.append (Reps.rep r k)
theorem op_mulA : OpR X (binaryOp .Mult) (rMulA X.K) := op_mul.or (op_rep1.or op_repT)
theorem bop_mulA : Bop K mg (rMulA K) opMulA := by
  intro G H x y d v1 v2 Q s e r1 r2 k
  unfold opMulA at e
  split at e
  · rename_i ds n
    have q1 := r1
    rw [rep_tup] at r1
    obtain ⟨a, vs, rfl, h1, h2⟩ := r1
    rw [rep_int] at r2
    subst r2
    split at e
    · rename_i h
      cases e
      subst h
      exact .inr (.inl ⟨a, vs, rfl, rfl, Same.sqT s h1, k _ G H (Grow.refl s) q1⟩)
    · split at e
      · rename_i hb
        cases e
        obtain ⟨hne, g1, g2, g3⟩ := hb
        refine .inr (.inr ⟨a, n, vs, rfl, rfl, Same.sqT s h1, fun z => hne ?_, g1, g2, by rw [h2.length]; exact g3, fun p hp => k _ _ _ (Grow.put s hp) (rep_newT (H := H) (s.free hp) (h2.rep _))⟩)
        have := h2.length
        rw [z] at this
        exact List.eq_nil_of_length_eq_zero this.symm
      · cases e
  · exact .inl (bop_mul G H x y d v1 v2 Q s e r1 r2 k)
theorem de_mulA {a b : Expr} {pos : Pos} {f g : FE D} (ja : De X W a f) (jb : De X W b g) : De X W (.BinOp a .Mult b pos) (eBin opMulA f g) := de_bin op_mulA bop_mulA ja jb
def cutD (ds : List D) (lo hi : Option Int) : List D := (ds.drop (HT.sIx ds.length 0 lo)).take (HT.sIx ds.length ds.length hi - HT.sIx ds.length 0 lo)
theorem cut_reps {G : Hp} {ds : List D} {vs : List V} (lo hi : Option Int) (r : Reps K mg G ds vs) : Reps K mg G (cutD ds lo hi) (cutV vs lo hi) := by
  unfold cutD cutV
  rw [r.length]
  exact (r.drop _).take _
theorem cut_whole {ds : List D} {lo hi : Option Int} (h : HT.sIx ds.length 0 lo = 0 ∧ HT.sIx ds.length ds.length hi = ds.length) : cutD ds lo hi = ds := by
  unfold cutD
  rw [h.1, h.2]
  simp
def slD (lo hi : Option Int) : D → Option D
  | .tup ds => some (.tup (cutD ds lo hi))
  | .lst ds => some (.lst (cutD ds lo hi))
  | _ => none
def asI : D → Option (Option Int)
  | .int i => some (some i)
  | _ => none
def ePart (f : FE D) : FE (Option Int) := fun ρ ω => (f ρ ω).bind fun d ω1 => Res.lift (asI d) ω1
def eNoPart : FE (Option Int) := fun _ ω => .ok none ω
def RO : Hp → List Addr → Hp → Option Int → Option Int → Prop := fun _ _ _ a b => a = b
def Do (X : Cx) (W : WX) (e : Option Expr) (f : FE (Option Int)) : Prop :=
  ∃ t, PO X e t ∧ ∀ G α ρ ω σ H Q, Own X.K X.mg G α ω H → Slots X.K X.mg G α ρ σ → Post X.K X.mg RO G α H Q (fun c d H' => W c d σ H') (f ρ ω) → t σ H Q
theorem do_none : Do X W none eNoPart := ⟨_, po_none, fun G α ρ ω σ H Q O S P => Post.here O rfl P⟩
theorem do_some {e : Expr} {f : FE D} (h : De X W e f) : Do X W (some e) (ePart f) := by
  obtain ⟨t, p, j⟩ := h
  refine ⟨_, po_some p, fun G α ρ ω σ H Q O S P => ?_⟩
  refine Post.step (t := t σ H) (j G α ρ ω σ H · O S) P fun d ω1 v G1 α1 H1 e1 O1 r1 P1 => ?_
  obtain ⟨o, e2, P2⟩ := P1.lift
  cases d with
  | int i =>
    cases e2
    exact ⟨i, rep_int.mp (show Rep X.K X.mg G1 (.int i) v from r1), Post.here O1 rfl P2⟩
  | _ => cases e2
def eSl (f : FE D) (lo hi : FE (Option Int)) : FE D := fun ρ ω => (f ρ ω).bind fun d ω1 => (lo ρ ω1).bind fun l ω2 => (hi ρ ω2).bind fun h ω3 => Res.lift (slD l h d) ω3
def rSlB (K : PySem.W.Frag) : V → Option Int → Option Int → Hp → VK → Prop := fun x lo hi H Q => rSlA K x lo hi H Q ∨ rSlL K x lo hi H Q
theorem sl_both : SlR X (rSlB X.K) := sl_tupA.or sl_list
theorem de_slice {e : Expr} {lo hi : Option Expr} {f : FE D} {fl fh : FE (Option Int)} {p2 pos : Pos} (h : De X W e f) (hl : Do X W lo fl) (hh : Do X W hi fh) : De X W (.Subscript e (.Slice lo hi none p2) pos) (eSl f fl fh) := by
  obtain ⟨t, p, j⟩ := h
  obtain ⟨tl, pl, jl⟩ := hl
  obtain ⟨th, ph, jh⟩ := hh
  refine ⟨_, pe_slice sl_both p pl ph, fun G α ρ ω σ H Q O S P => ?_⟩
  refine Post.step (t := t σ H) (j G α ρ ω σ H · O S) P fun d ω1 v G1 α1 H1 e1 O1 r1 P1 => ?_
  refine Post.step (t := tl σ H1) (jl G1 α1 ρ ω1 σ H1 · O1 (S.mono e1)) P1 fun l ω2 l' G2 α2 H2 e2 O2 r2 P2 => ?_
  refine Post.step (t := th σ H2) (jh G2 α2 ρ ω2 σ H2 · O2 ((S.mono e1).mono e2)) P2 fun u ω3 u' G3 α3 H3 e3 O3 r3 P3 => ?_
  cases r2
  cases r3
  obtain ⟨y, e4, P4⟩ := P3.lift
  have r1' : Rep X.K X.mg G3 d v := Rep.mono (e2.g.trans e3.g) _ _ r1
  cases d with
  | tup ds =>
    cases e4
    have q := r1'
    rw [rep_tup] at r1'
    obtain ⟨a, vs, rfl, h1, h2⟩ := r1'
    refine .inl ⟨a, vs, rfl, Same.sqT O3.sub h1, fun z => ?_, fun z p hp => ?_⟩
    · rw [h2.length] at z
      exact Post.here O3 (show Rep X.K X.mg G3 _ _ by rw [cut_whole z]; exact q) P4
    · exact Post.grow O3 (Grow.put O3.sub hp) (show Rep X.K X.mg _ _ _ from rep_newT (H := H3) (O3.sub.free hp) (cut_reps _ _ h2)) P4
  | lst ds =>
    cases e4
    rw [rep_lst] at r1'
    obtain ⟨a, vs, rfl, h1, h2⟩ := r1'
    exact .inr ⟨a, vs, rfl, O3.sub.seq h1, fun p hp => Post.grow O3 (Grow.put O3.sub hp) (show Rep X.K X.mg _ _ _ from rep_newL (H := H3) (O3.sub.free hp) (cut_reps _ _ h2)) P4⟩
  | _ => cases e4
def eChain (op op' : D → D → Option D) (f g h : FE D) : FE D := fun ρ ω => (f ρ ω).bind fun x ω1 => (g ρ ω1).bind fun y ω2 => match op x y with
  | some (.bl true) => (h ρ ω2).bind fun z ω3 => Res.lift (op' y z) ω3
  | some (.bl false) => .ok (.bl false) ω2
  | _ => .stuck
theorem chain_post {r r' : R2} {op op' : D → D → Option D} {f g h : FE D} {ta tb tc : TE} (B : Bop K mg r op) (B' : Bop K mg r' op')
    (ja : ∀ G α ρ ω σ H Q, Own K mg G α ω H → Slots K mg G α ρ σ → Post K mg (RD K mg) G α H Q (fun c d H' => W c d σ H') (f ρ ω) → ta σ H Q)
    (jb : ∀ G α ρ ω σ H Q, Own K mg G α ω H → Slots K mg G α ρ σ → Post K mg (RD K mg) G α H Q (fun c d H' => W c d σ H') (g ρ ω) → tb σ H Q)
    (jc : ∀ G α ρ ω σ H Q, Own K mg G α ω H → Slots K mg G α ρ σ → Post K mg (RD K mg) G α H Q (fun c d H' => W c d σ H') (h ρ ω) → tc σ H Q)
    (G α ρ ω σ H Q) (O : Own K mg G α ω H) (S : Slots K mg G α ρ σ) (P : Post K mg (RD K mg) G α H Q (fun c d H' => W c d σ H') (eChain op op' f g h ρ ω)) : tChain r r' ta tb tc σ H Q := by
  refine Post.step (t := ta σ H) (ja G α ρ ω σ H · O S) P fun x ω1 v1 G1 α1 H1 e1 O1 r1 P1 => ?_
  refine Post.step (t := tb σ H1) (jb G1 α1 ρ ω1 σ H1 · O1 (S.mono e1)) P1 fun y ω2 v2 G2 α2 H2 e2 O2 r2 P2 => ?_
  cases q : op x y with
  | none => rw [q] at P2; exact P2.elim
  | some d =>
    rw [q] at P2
    cases d with
    | bl b =>
      refine B G2 H2 x y _ v1 v2 _ O2.sub q (Rep.mono e2.g _ _ r1) r2 fun v G3 H3 gr rv => ?_
      refine ⟨b, rep_bl.mp rv, ?_⟩
      have O3 := O2.grow gr
      have e3 : Ext G2 α2 H2 G3 α2 H3 := gr.ext
      cases b with
      | false => exact iteF (Post.here O3 (show Rep K mg G3 _ _ from rep_bl.mpr rfl) (Post.weak e3 P2))
      | true =>
        refine iteT ?_
        refine Post.step (t := tc σ H3) (jc G3 α2 ρ ω2 σ H3 · O3 (((S.mono e1).mono e2).mono e3)) (Post.weak e3 P2) fun z ω4 v4 G4 α4 H4 e4 O4 r4 P4 => ?_
        exact bin_post B' O4 (Rep.mono (e3.g.trans e4.g) _ _ r2) r4 P4
    | _ => exact P2.elim
theorem de_chain {o o' : CmpOp} {op op' : D → D → Option D} {a b c : Expr} {pos : Pos} {f g h : FE D} (c1 : Cmp X o op) (c2 : Cmp X o' op') (ja : De X W a f) (jb : De X W b g) (jc : De X W c h) (hm : lastMarks [o, o'] [b, c] = false := by with_unfolding_all rfl) :
    De X W (.Compare a [o, o'] [b, c] pos) (eChain op op' f g h) := by
  obtain ⟨r, h1, h2⟩ := c1.ex
  obtain ⟨r', h3, h4⟩ := c2.ex
  obtain ⟨ta, pa, ka⟩ := ja
  obtain ⟨tb, pb, kb⟩ := jb
  obtain ⟨tc, pc, kc⟩ := jc
  exact ⟨_, pe_chain h1 h3 pa pb pc hm, chain_post h2 h4 ka kb kc⟩
theorem dt_chain {o o' : CmpOp} {op op' : D → D → Option D} {a b c : Expr} {pos : Pos} {f g h : FE D} (c1 : Cmp X o op) (c2 : Cmp X o' op') (ja : De X W a f) (jb : De X W b g) (jc : De X W c h) (hm : lastMarks [o, o'] [b, c] = false := by with_unfolding_all rfl) :
    Dt X W (.Compare a [o, o'] [b, c] pos) (eTest (eChain op op' f g h)) := by
  obtain ⟨r, h1, h2⟩ := c1.ex
  obtain ⟨r', h3, h4⟩ := c2.ex
  obtain ⟨ta, pa, ka⟩ := ja
  obtain ⟨tb, pb, kb⟩ := jb
  obtain ⟨tc, pc, kc⟩ := jc
  exact ⟨_, pt_chain h1 h3 pa pb pc hm, test_post (chain_post h2 h4 ka kb kc)⟩
def opNeg : D → Option D
  | .int i => some (.int (-i))
  | _ => none
def eUn (op : D → Option D) (f : FE D) : FE D := fun ρ ω => (f ρ ω).bind fun d ω1 => Res.lift (op d) ω1
theorem de_neg {a : Expr} {pos : Pos} {f : FE D} (h : De X W a f) : De X W (.UnaryOp .USub a pos) (eUn opNeg f) := by
  obtain ⟨t, p, j⟩ := h
  refine ⟨_, pe_un un_neg p, fun G α ρ ω σ H Q O S P => ?_⟩
  refine Post.step (t := t σ H) (j G α ρ ω σ H · O S) P fun d ω1 v G1 α1 H1 e1 O1 r1 P1 => ?_
  obtain ⟨y, e2, P2⟩ := P1.lift
  cases d with
  | int i =>
    cases e2
    exact ⟨i, rep_int.mp (show Rep X.K X.mg G1 (.int i) v from r1), Post.here O1 (show Rep X.K X.mg G1 _ _ from rep_int.mpr rfl) P2⟩
  | _ => cases e2
def ixI (ds : List D) : D → Option D
  | .int i => atI ds i
  | _ => none
def eIxO (i : Nat) (g : FE D) : FE D := fun ρ ω => match ownK ρ i with
  | none => .stuck
  | some k => (g ρ ω).bind fun z ω1 => match ownL ω1 k with
    | none => .stuck
    | some ds => Res.lift (ixI ds z) ω1
theorem de_ixO (i : Nat) {x : Str} {p1 pos : Pos} {b : Expr} {g : FE D} (jb : De X W b g) (hN : X.N[i]? = some x := by rfl) (hv : Vis X.env.scope x := by first | exact Or.inl rfl | exact Or.inr (Or.inl rfl) | exact Or.inr (Or.inr rfl)) (hd : (x == ("__debug__" : Str)) = false := by decide)
    (hcd : (x == ("__classdict__" : Str)) = false := by decide) (hs : PlainIx b := by exact fun _ _ => rfl) : De X W (.Subscript (.Name x p1) b pos) (eIxO i g) := by
  obtain ⟨tb, pb, kb⟩ := jb
  refine ⟨_, pe_ix ix_list (pe_var hN hv hd hcd) pb hs, fun G α ρ ω σ H Q O S P => ?_⟩
  unfold eIxO at P
  cases q1 : ownK ρ i with
  | none => rw [q1] at P; exact P.elim
  | some kk =>
    rw [q1] at P; dsimp only at P
    obtain ⟨v, h1, a, h2, rfl⟩ := S.val i _ (ownK_eq q1)
    refine ⟨_, h1, ?_⟩
    refine Post.step (t := tb σ H) (kb G α ρ ω σ H · O S) P fun z ω1 v1 G1 α1 H1 e1 O1 r1 P1 => ?_
    cases q3 : ownL ω1 kk with
    | none => rw [q3] at P1; exact P1.elim
    | some ds =>
      rw [q3] at P1; dsimp only at P1
      obtain ⟨y, e2, P2⟩ := P1.lift
      obtain ⟨more, e3, _⟩ := e1.pre
      have h2' : α1[kk]? = some a := by rw [e3, List.getElem?_append_left (List.getElem?_eq_some_iff.mp h2).1]; exact h2
      obtain ⟨_, vs, h5, h6⟩ := O1.obj kk _ a (ownL_eq q3) h2'
      cases z with
      | int n =>
        obtain ⟨u, h7, h8⟩ := atI_reps h6 e2
        exact ⟨a, vs, n, u, rfl, rep_int.mp (show Rep X.K X.mg G1 (.int n) v1 from r1), SqL.of h5, h7, Post.here O1 (show Rep X.K X.mg G1 y u from h8) P2⟩
      | _ => cases e2
def sRetNew (g : FE (List SV)) : FS := fun ρ ω => (g ρ ω).out ρ fun xs ω1 => match allD xs with
  | some ds => if xs.length ≤ lim then .ret (.own ω1.length) (ω1 ++ [some (.lst ds)]) else .stuck
  | none => .stuck
theorem ds_retNew {es : List Expr} {p1 pos : Pos} {g : FE (List SV)} (h : Da X W es g) : Ds X W (.Return (some (.List es p1)) pos) (sRetNew g) := by
  obtain ⟨t, p, k⟩ := h
  refine ⟨_, ps_ret (pe_lst p), fun G α ρ ω σ H D O S P => ?_⟩
  refine PostS.step S (t := t σ H) (k G α ρ ω σ H · O S) P fun xs ω1 vs G1 α1 H1 e1 O1 r1 P1 => ?_
  cases q : allD xs with
  | none => rw [q] at P1; exact P1.elim
  | some ds =>
    rw [q] at P1
    dsimp only at P1
    split at P1
    · rename_i hl
      have hr := allD_reps q r1
      refine ⟨by rw [lim_eq, ← RepVs.length r1]; exact hl, fun a ha => ?_⟩
      obtain ⟨O2, e2⟩ := O1.new (u := .lst vs) (o := .lst ds) ha ⟨vs, upd_same, hr⟩
      refine P1 _ G1 _ _ e2 O2 ⟨a, ?_, rfl⟩
      rw [← O1.len, List.getElem?_append_right (Nat.le_refl _)]
      simp
    · exact P1.elim
end
end Dl
namespace Dl
open PySem L2
def lcA (tg : FG) (tt : FE Bool) (el : FE D) (ρ : Rho) : List D → List D → Om → Res (List D)
  | [], acc, ω => .ok acc ω
  | d :: ds, acc, ω => match tg d ρ with
    | none => .stuck
    | some ρ1 => match tt ρ1 ω with
      | .ok true ω1 => match el ρ1 ω1 with
        | .ok y ω2 => if acc.length < lim then lcA tg tt el ρ ds (acc ++ [y]) ω2 else .stuck
        | _ => .stuck
      | .ok false ω1 => lcA tg tt el ρ ds acc ω1
      | _ => .stuck
def lc2L (tg : FG) (tt : FE Bool) (it1 : FE (List D)) (tg1 : FG) (tt1 : FE Bool) (el : FE D) (vs1 : List Nat) (ρ : Rho) : List D → List D → Om → Res D
  | [], acc, ω => .ok (.lst acc) ω
  | d :: ds, acc, ω => match tg d ρ with
    | none => .stuck
    | some ρ1 => match tt ρ1 ω with
      | .ok true ω1 => match it1 ρ1 ω1 with
        | .ok es ω2 => match lcA tg1 tt1 el (wipeR ρ1 vs1) es acc ω2 with
          | .ok acc2 ω3 => lc2L tg tt it1 tg1 tt1 el vs1 ρ ds acc2 ω3
          | _ => .stuck
        | _ => .stuck
      | .ok false ω1 => lc2L tg tt it1 tg1 tt1 el vs1 ρ ds acc ω1
      | _ => .stuck
def eLc2 (vs vs1 : List Nat) (it : FE (List D)) (tg : FG) (tt : FE Bool) (it1 : FE (List D)) (tg1 : FG) (tt1 : FE Bool) (el : FE D) : FE D := fun ρ ω => (it ρ ω).bind fun ds ω1 => lc2L tg tt it1 tg1 tt1 el vs1 (wipeR ρ vs) ds [] ω1
section
variable {K : PySem.W.Frag} {mg : MG}
end
section
variable {X : Cx} {W : WX} {pos : Pos}
end
end Dl
namespace Dl
open PySem L2
structure DefAt (K : PySem.W.Frag) (x qual : Str) (st : Stmt) (f : Addr) (fd : FuncData) (ps : List Str) : Prop where
  fn : Fun K x qual st f fd
  bd : Binds K fd ps []
theorem ask_int {K : PySem.W.Frag} : TyAsk K "int" := fun t ht => kit_ty ((by decide +kernel : ∀ t ∈ tyNames, kitB t "int" = some (isTy t "int")) t ht)
theorem ask_bool {K : PySem.W.Frag} : TyAsk K "bool" := fun t ht => kit_ty ((by decide +kernel : ∀ t ∈ tyNames, kitB t "bool" = some (isTy t "bool")) t ht)
theorem ask_tuple {K : PySem.W.Frag} : TyAsk K "tuple" := fun t ht => kit_ty ((by decide +kernel : ∀ t ∈ tyNames, kitB t "tuple" = some (isTy t "tuple")) t ht)
def spLaw (K : PySem.W.Frag) : Sp := fun vs H Q _ => ∃ (a : Addr) (ns : List Int), vs = [.ref a] ∧ SqL K H a (ns.map V.int) ∧ ns.length ≤ 63 ∧ ∀ H', Q (.bl true) H'
theorem law_ok {P : Program} {w : World} {K : PySem.W.Frag} {mg : MG} {base : Heap} {k : Nat} {f : Addr} {fd : FuncData} {ps : List Str} {F : FnP} (hF : ∀ ns : List Int, ns.length ≤ 63 → F [.lst (ns.map D.int)] = some (.ok (.bl true)))
    (ok : FnOk P w K mg base (L2.CX P w) k f fd ps (spP K mg F)) : FnOk P w K mg base (L2.CX P w) k f fd ps (spLaw K) := by
  refine ok.imp fun vs H Q E h => ?_
  obtain ⟨a, ns, rfl, hS, hl, q⟩ := h
  refine ⟨H, [.lst (ns.map D.int)], Same.refl _, Reps.one (rep_lst.mpr ⟨a, _, rfl, hS, reps_ints ns⟩), ?_⟩
  rw [hF ns hl]
  intro v G' H' g r
  rw [rep_bl.mp r]
  exact q H'
theorem walk {l : PySem.W.OpenLaw} {q : Program} {loose : List Str} {XP : (Str → Option Value) → Heap → Prop} {YP : World → Heap → Prop} {d : DefRec} {K : Params → PySem.W.Frag} {k : Nat} {x : Str} (hn : l.most = some 63) (hdf : d.params.defaults = []) (hk : k ≤ 60)
    (hY : ∀ (w : World) (h : Heap), YP w h → (K w.params).In h)
    (F : ∀ (w : World) (mg : Str → Option Value) (fa : Addr) (h : Heap), (K w.params).In h → h.Ns mainGlobals mg → mg d.name = some (.ref fa) →
      ∃ fd : FuncData, (∀ (s : Shared) (u : Value), BindsTo s fd ⟨[u], []⟩ [(x, u)]) ∧ ∀ base : Heap, (K w.params).In base → base.Ns mainGlobals mg → FnOk l.prog w (K w.params) mg base (L2.CX l.prog w) k fa fd [x] (spLaw (K w.params))) :
    PySem.W.WalkO q loose XP YP l.row.toRowW d [] (fun f vs => PySem.call f vs) :=
  L2.walk_of (n := 63) (k := k) (x := x) (CX := fun w => L2.CX l.prog w) (sp := fun w => spLaw (K w.params)) hn (by decide) hdf (Room.mono ⟨rfl, by decide, by decide⟩ hk) hY F (fun _ _ a ns hl _ hS => ⟨a, ns, rfl, hS, hl, fun _ => rfl⟩)
    fun _ _ _ _ _ z => by
      obtain ⟨_, _, _, _, _, _, _, _, _, _, _, _, z⟩ := z
      exact z.elim
end Dl
namespace Dl
open PySem L2
theorem eqD_int (i j : Int) : eqD (.int i) (.int j) = some (i == j) := by
  simp [eqD, toPy, SeqAt.shaped, PyData.canLay0, PyData.depth, PyData.eqv]
theorem eqD_bl (i j : Bool) : eqD (.bl i) (.bl j) = some (i == j) := by
  simp [eqD, toPy, SeqAt.shaped, PyData.canLay0, PyData.depth, PyData.eqv]
theorem eqD_non_non : eqD .non .non = some true := by
  simp [eqD, toPy, SeqAt.shaped, PyData.canLay0, PyData.depth, PyData.eqv]
theorem eqD_str {i j : Str} (hi : PyData.strOk i = true) (hj : PyData.strOk j = true) : eqD (.str i) (.str j) = some (i == j) := by
  simp [eqD, toPy, SeqAt.shaped, PyData.canLay0, PyData.depth, PyData.eqv, hi, hj]
class KtR (β γ : Type) where
  run : β → Om → Res γ
class KtO (β : Type) where
  run : β → Om → Out
class KtB where
  run : Rho → Om → Out
class KtS (β γ : Type) where
  run : β → Res γ
class KtT (β : Type) where
  run : β → Out
class KtC where
  run : Om → Res D
def bindL {β γ : Type} (r : Res β) [k : KtR β γ] : Res γ := r.bind k.run
def outL {β : Type} (r : Res β) (ρ : Rho) [k : KtO β] : Out := r.out ρ k.run
def obL (r : Out) [k : KtB] : Out := r.bind k.run
section
variable {β γ : Type} {d x y : D} {ds es : List D} {ρ : Rho} {ω : Om} {i j k : Nat}
theorem bind_ok (a : β) (ω : Om) (g : β → Om → Res γ) : @bindL _ _ (Res.ok a ω) ⟨g⟩ = g a ω := rfl
theorem bind_exc (x : Exn) (ω : Om) (g : β → Om → Res γ) : @bindL _ _ (Res.exc x ω) ⟨g⟩ = .exc x ω := rfl
theorem out_ok (a : β) (ω : Om) (ρ : Rho) (g : β → Om → Out) : @outL _ (Res.ok a ω) ρ ⟨g⟩ = g a ω := rfl
theorem out_exc (x : Exn) (ω : Om) (ρ : Rho) (g : β → Om → Out) : @outL _ (Res.exc x ω) ρ ⟨g⟩ = .exc x ρ ω := rfl
theorem lift_some (a : β) (ω : Om) : Res.lift (some a) ω = .ok a ω := rfl
theorem obind_next (ρ : Rho) (ω : Om) (k : Rho → Om → Out) : @obL (Out.next ρ ω) ⟨k⟩ = k ρ ω := rfl
theorem obind_ret (x : SV) (ω : Om) (k : Rho → Om → Out) : @obL (Out.ret x ω) ⟨k⟩ = .ret x ω := rfl
theorem obind_exc (x : Exn) (ρ : Rho) (ω : Om) (k : Rho → Om → Out) : @obL (Out.exc x ρ ω) ⟨k⟩ = .exc x ρ ω := rfl
theorem obind_brk (ρ : Rho) (ω : Om) (k : Rho → Om → Out) : @obL (Out.brk ρ ω) ⟨k⟩ = .brk ρ ω := rfl
theorem obind_cont (ρ : Rho) (ω : Om) (k : Rho → Om → Out) : @obL (Out.cont ρ ω) ⟨k⟩ = .cont ρ ω := rfl
def varR : Option (Option SV) → Om → Res D
  | some (some (.val d)), ω => .ok d ω
  | _, _ => .stuck
def slotR : Option (Option SV) → Om → Res SV
  | some (some x), ω => .ok x ω
  | _, _ => .stuck
theorem eC_run : eC d ρ ω = .ok d ω := rfl
theorem eVar_run : eVar i ρ ω = varR ρ[i]? ω := by unfold eVar varR; split <;> simp_all
theorem varR_run : varR (some (some (.val d))) ω = .ok d ω := rfl
theorem eSlot_run : eSlot i ρ ω = slotR ρ[i]? ω := by unfold eSlot slotR; split <;> simp_all
theorem slotR_run {s : SV} : slotR (some (some s)) ω = .ok s ω := rfl
theorem eBin_run0 (op) (f g : FE D) : eBin op f g ρ ω = (f ρ ω).bind fun x ω1 => (g ρ ω1).bind fun y ω2 => Res.lift (op x y) ω2 := rfl
theorem eBin_run (op) (f g : FE D) : eBin op f g ρ ω = bindL (f ρ ω) (k := ⟨fun x ω1 => bindL (g ρ ω1) (k := ⟨fun y ω2 => Res.lift (op x y) ω2⟩)⟩) := by first | exact eBin_run0 | exact eBin_run0 _ | exact eBin_run0 _ _ | exact eBin_run0 _ _ _ | exact eBin_run0 _ _ _ _ | exact eBin_run0 _ _ _ _ _ | exact eBin_run0 _ _ _ _ _ _ | exact eBin_run0 _ _ _ _ _ _ _ | exact eBin_run0 _ _ _ _ _ _ _ _ | exact eBin_run0 _ _ _ _ _ _ _ _ _
theorem eUn_run0 (op) (f : FE D) : eUn op f ρ ω = (f ρ ω).bind fun x ω1 => Res.lift (op x) ω1 := rfl
theorem eUn_run (op) (f : FE D) : eUn op f ρ ω = bindL (f ρ ω) (k := ⟨fun x ω1 => Res.lift (op x) ω1⟩) := by first | exact eUn_run0 | exact eUn_run0 _ | exact eUn_run0 _ _ | exact eUn_run0 _ _ _ | exact eUn_run0 _ _ _ _ | exact eUn_run0 _ _ _ _ _ | exact eUn_run0 _ _ _ _ _ _ | exact eUn_run0 _ _ _ _ _ _ _ | exact eUn_run0 _ _ _ _ _ _ _ _ | exact eUn_run0 _ _ _ _ _ _ _ _ _
theorem eTest_run0 (f : FE D) : eTest f ρ ω = (f ρ ω).bind fun d ω1 => Res.lift (asBl d) ω1 := rfl
theorem eTest_run (f : FE D) : eTest f ρ ω = bindL (f ρ ω) (k := ⟨fun d ω1 => Res.lift (asBl d) ω1⟩) := by first | exact eTest_run0 | exact eTest_run0 _ | exact eTest_run0 _ _ | exact eTest_run0 _ _ _ | exact eTest_run0 _ _ _ _ | exact eTest_run0 _ _ _ _ _ | exact eTest_run0 _ _ _ _ _ _ | exact eTest_run0 _ _ _ _ _ _ _ | exact eTest_run0 _ _ _ _ _ _ _ _ | exact eTest_run0 _ _ _ _ _ _ _ _ _
theorem asBl_run (b : Bool) : asBl (.bl b) = some b := rfl
theorem eAndT_run0 (f g : FE Bool) : eAndT f g ρ ω = (f ρ ω).bind fun c ω1 => if c = true then g ρ ω1 else .ok false ω1 := rfl
theorem eAndT_run (f g : FE Bool) : eAndT f g ρ ω = bindL (f ρ ω) (k := ⟨fun c ω1 => if c = true then g ρ ω1 else .ok false ω1⟩) := by first | exact eAndT_run0 | exact eAndT_run0 _ | exact eAndT_run0 _ _ | exact eAndT_run0 _ _ _ | exact eAndT_run0 _ _ _ _ | exact eAndT_run0 _ _ _ _ _ | exact eAndT_run0 _ _ _ _ _ _ | exact eAndT_run0 _ _ _ _ _ _ _ | exact eAndT_run0 _ _ _ _ _ _ _ _ | exact eAndT_run0 _ _ _ _ _ _ _ _ _
theorem eOrT_run0 (f g : FE Bool) : eOrT f g ρ ω = (f ρ ω).bind fun c ω1 => if c = true then .ok true ω1 else g ρ ω1 := rfl
theorem eOrT_run (f g : FE Bool) : eOrT f g ρ ω = bindL (f ρ ω) (k := ⟨fun c ω1 => if c = true then .ok true ω1 else g ρ ω1⟩) := by first | exact eOrT_run0 | exact eOrT_run0 _ | exact eOrT_run0 _ _ | exact eOrT_run0 _ _ _ | exact eOrT_run0 _ _ _ _ | exact eOrT_run0 _ _ _ _ _ | exact eOrT_run0 _ _ _ _ _ _ | exact eOrT_run0 _ _ _ _ _ _ _ | exact eOrT_run0 _ _ _ _ _ _ _ _ | exact eOrT_run0 _ _ _ _ _ _ _ _ _
theorem eNotT_run0 (f : FE Bool) : eNotT f ρ ω = (f ρ ω).bind fun c ω1 => .ok (!c) ω1 := rfl
theorem eNotT_run (f : FE Bool) : eNotT f ρ ω = bindL (f ρ ω) (k := ⟨fun c ω1 => .ok (!c) ω1⟩) := by first | exact eNotT_run0 | exact eNotT_run0 _ | exact eNotT_run0 _ _ | exact eNotT_run0 _ _ _ | exact eNotT_run0 _ _ _ _ | exact eNotT_run0 _ _ _ _ _ | exact eNotT_run0 _ _ _ _ _ _ | exact eNotT_run0 _ _ _ _ _ _ _ | exact eNotT_run0 _ _ _ _ _ _ _ _ | exact eNotT_run0 _ _ _ _ _ _ _ _ _
theorem eTrue_run : eTrue ρ ω = .ok true ω := rfl
theorem eAnd_run0 (f g : FE D) : eAnd f g ρ ω = (eTest f ρ ω).bind fun c ω1 => if c = true then g ρ ω1 else .ok (.bl false) ω1 := rfl
theorem eAnd_run (f g : FE D) : eAnd f g ρ ω = bindL (eTest f ρ ω) (k := ⟨fun c ω1 => if c = true then g ρ ω1 else .ok (.bl false) ω1⟩) := by first | exact eAnd_run0 | exact eAnd_run0 _ | exact eAnd_run0 _ _ | exact eAnd_run0 _ _ _ | exact eAnd_run0 _ _ _ _ | exact eAnd_run0 _ _ _ _ _ | exact eAnd_run0 _ _ _ _ _ _ | exact eAnd_run0 _ _ _ _ _ _ _ | exact eAnd_run0 _ _ _ _ _ _ _ _ | exact eAnd_run0 _ _ _ _ _ _ _ _ _
theorem eOr_run0 (f g : FE D) : eOr f g ρ ω = (eTest f ρ ω).bind fun c ω1 => if c = true then .ok (.bl true) ω1 else g ρ ω1 := rfl
theorem eOr_run (f g : FE D) : eOr f g ρ ω = bindL (eTest f ρ ω) (k := ⟨fun c ω1 => if c = true then .ok (.bl true) ω1 else g ρ ω1⟩) := by first | exact eOr_run0 | exact eOr_run0 _ | exact eOr_run0 _ _ | exact eOr_run0 _ _ _ | exact eOr_run0 _ _ _ _ | exact eOr_run0 _ _ _ _ _ | exact eOr_run0 _ _ _ _ _ _ | exact eOr_run0 _ _ _ _ _ _ _ | exact eOr_run0 _ _ _ _ _ _ _ _ | exact eOr_run0 _ _ _ _ _ _ _ _ _
theorem eNot_run0 (f : FE D) : eNot f ρ ω = (eTest f ρ ω).bind fun c ω1 => .ok (.bl (!c)) ω1 := rfl
theorem eNot_run (f : FE D) : eNot f ρ ω = bindL (eTest f ρ ω) (k := ⟨fun c ω1 => .ok (.bl (!c)) ω1⟩) := by first | exact eNot_run0 | exact eNot_run0 _ | exact eNot_run0 _ _ | exact eNot_run0 _ _ _ | exact eNot_run0 _ _ _ _ | exact eNot_run0 _ _ _ _ _ | exact eNot_run0 _ _ _ _ _ _ | exact eNot_run0 _ _ _ _ _ _ _ | exact eNot_run0 _ _ _ _ _ _ _ _ | exact eNot_run0 _ _ _ _ _ _ _ _ _
theorem eIf_run0 (c : FE Bool) (f g : FE D) : eIf c f g ρ ω = (c ρ ω).bind fun b ω1 => if b = true then f ρ ω1 else g ρ ω1 := rfl
theorem eIf_run (c : FE Bool) (f g : FE D) : eIf c f g ρ ω = bindL (c ρ ω) (k := ⟨fun b ω1 => if b = true then f ρ ω1 else g ρ ω1⟩) := by first | exact eIf_run0 | exact eIf_run0 _ | exact eIf_run0 _ _ | exact eIf_run0 _ _ _ | exact eIf_run0 _ _ _ _ | exact eIf_run0 _ _ _ _ _ | exact eIf_run0 _ _ _ _ _ _ | exact eIf_run0 _ _ _ _ _ _ _ | exact eIf_run0 _ _ _ _ _ _ _ _ | exact eIf_run0 _ _ _ _ _ _ _ _ _
theorem aNil_run : aNil ρ ω = .ok [] ω := rfl
theorem aCons_run0 (f : FE SV) (g : FE (List SV)) : aCons f g ρ ω = (f ρ ω).bind fun x ω1 => (g ρ ω1).bind fun xs ω2 => .ok (x :: xs) ω2 := rfl
theorem aCons_run (f : FE SV) (g : FE (List SV)) : aCons f g ρ ω = bindL (f ρ ω) (k := ⟨fun x ω1 => bindL (g ρ ω1) (k := ⟨fun xs ω2 => .ok (x :: xs) ω2⟩)⟩) := by first | exact aCons_run0 | exact aCons_run0 _ | exact aCons_run0 _ _ | exact aCons_run0 _ _ _ | exact aCons_run0 _ _ _ _ | exact aCons_run0 _ _ _ _ _ | exact aCons_run0 _ _ _ _ _ _ | exact aCons_run0 _ _ _ _ _ _ _ | exact aCons_run0 _ _ _ _ _ _ _ _ | exact aCons_run0 _ _ _ _ _ _ _ _ _
theorem aVal_run0 (f : FE D) : aVal f ρ ω = (f ρ ω).bind fun d ω1 => .ok (.val d) ω1 := rfl
theorem aVal_run (f : FE D) : aVal f ρ ω = bindL (f ρ ω) (k := ⟨fun d ω1 => .ok (.val d) ω1⟩) := by first | exact aVal_run0 | exact aVal_run0 _ | exact aVal_run0 _ _ | exact aVal_run0 _ _ _ | exact aVal_run0 _ _ _ _ | exact aVal_run0 _ _ _ _ _ | exact aVal_run0 _ _ _ _ _ _ | exact aVal_run0 _ _ _ _ _ _ _ | exact aVal_run0 _ _ _ _ _ _ _ _ | exact aVal_run0 _ _ _ _ _ _ _ _ _
theorem allD_nil : allD [] = some [] := rfl
theorem allD_cons (xs : List SV) : allD (.val d :: xs) = (allD xs).map (d :: ·) := rfl
def tupR (o : Option (List D)) (n : Nat) : Option D := if n ≤ lim then o.map D.tup else none
def lstR (o : Option (List D)) (n : Nat) : Option D := if n ≤ lim then o.map D.lst else none
theorem eTup_run0 (g : FE (List SV)) : eTup g ρ ω = (g ρ ω).bind fun xs ω1 => Res.lift (tupR (allD xs) xs.length) ω1 := rfl
theorem eTup_run (g : FE (List SV)) : eTup g ρ ω = bindL (g ρ ω) (k := ⟨fun xs ω1 => Res.lift (tupR (allD xs) xs.length) ω1⟩) := by first | exact eTup_run0 | exact eTup_run0 _ | exact eTup_run0 _ _ | exact eTup_run0 _ _ _ | exact eTup_run0 _ _ _ _ | exact eTup_run0 _ _ _ _ _ | exact eTup_run0 _ _ _ _ _ _ | exact eTup_run0 _ _ _ _ _ _ _ | exact eTup_run0 _ _ _ _ _ _ _ _ | exact eTup_run0 _ _ _ _ _ _ _ _ _
theorem eList_run0 (g : FE (List SV)) : eList g ρ ω = (g ρ ω).bind fun xs ω1 => Res.lift (lstR (allD xs) xs.length) ω1 := rfl
theorem eList_run (g : FE (List SV)) : eList g ρ ω = bindL (g ρ ω) (k := ⟨fun xs ω1 => Res.lift (lstR (allD xs) xs.length) ω1⟩) := by first | exact eList_run0 | exact eList_run0 _ | exact eList_run0 _ _ | exact eList_run0 _ _ _ | exact eList_run0 _ _ _ _ | exact eList_run0 _ _ _ _ _ | exact eList_run0 _ _ _ _ _ _ | exact eList_run0 _ _ _ _ _ _ _ | exact eList_run0 _ _ _ _ _ _ _ _ | exact eList_run0 _ _ _ _ _ _ _ _ _
theorem tupR_run {n : Nat} (h : n ≤ lim) : tupR (some ds) n = some (.tup ds) := by unfold tupR; rw [if_pos h]; rfl
theorem lstR_run {n : Nat} (h : n ≤ lim) : lstR (some ds) n = some (.lst ds) := by unfold lstR; rw [if_pos h]; rfl
theorem eLst_run0 (f : FE D) : eLst f ρ ω = (f ρ ω).bind fun d ω1 => Res.lift (asLst d) ω1 := rfl
theorem eLst_run (f : FE D) : eLst f ρ ω = bindL (f ρ ω) (k := ⟨fun d ω1 => Res.lift (asLst d) ω1⟩) := by first | exact eLst_run0 | exact eLst_run0 _ | exact eLst_run0 _ _ | exact eLst_run0 _ _ _ | exact eLst_run0 _ _ _ _ | exact eLst_run0 _ _ _ _ _ | exact eLst_run0 _ _ _ _ _ _ | exact eLst_run0 _ _ _ _ _ _ _ | exact eLst_run0 _ _ _ _ _ _ _ _ | exact eLst_run0 _ _ _ _ _ _ _ _ _
theorem asLst_run : asLst (.lst ds) = some ds := rfl
theorem eCallB_run0 (op) (g : FE (List SV)) : eCallB op g ρ ω = (g ρ ω).bind fun xs ω1 => Res.lift ((allD xs).bind op) ω1 := rfl
theorem eCallB_run (op) (g : FE (List SV)) : eCallB op g ρ ω = bindL (g ρ ω) (k := ⟨fun xs ω1 => Res.lift ((allD xs).bind op) ω1⟩) := by first | exact eCallB_run0 | exact eCallB_run0 _ | exact eCallB_run0 _ _ | exact eCallB_run0 _ _ _ | exact eCallB_run0 _ _ _ _ | exact eCallB_run0 _ _ _ _ _ | exact eCallB_run0 _ _ _ _ _ _ | exact eCallB_run0 _ _ _ _ _ _ _ | exact eCallB_run0 _ _ _ _ _ _ _ _ | exact eCallB_run0 _ _ _ _ _ _ _ _ _
theorem eOnL_run0 (op) (g : FE (List D)) : eOnL op g ρ ω = (g ρ ω).bind fun ds ω1 => Res.lift (op ds) ω1 := rfl
theorem eOnL_run (op) (g : FE (List D)) : eOnL op g ρ ω = bindL (g ρ ω) (k := ⟨fun ds ω1 => Res.lift (op ds) ω1⟩) := by first | exact eOnL_run0 | exact eOnL_run0 _ | exact eOnL_run0 _ _ | exact eOnL_run0 _ _ _ | exact eOnL_run0 _ _ _ _ | exact eOnL_run0 _ _ _ _ _ | exact eOnL_run0 _ _ _ _ _ _ | exact eOnL_run0 _ _ _ _ _ _ _ | exact eOnL_run0 _ _ _ _ _ _ _ _ | exact eOnL_run0 _ _ _ _ _ _ _ _ _
theorem eIsi_run0 (u) (f : FE D) : eIsi u f ρ ω = (f ρ ω).bind fun d ω1 => Res.lift (isiD u d) ω1 := rfl
theorem eIsi_run (u) (f : FE D) : eIsi u f ρ ω = bindL (f ρ ω) (k := ⟨fun d ω1 => Res.lift (isiD u d) ω1⟩) := by first | exact eIsi_run0 | exact eIsi_run0 _ | exact eIsi_run0 _ _ | exact eIsi_run0 _ _ _ | exact eIsi_run0 _ _ _ _ | exact eIsi_run0 _ _ _ _ _ | exact eIsi_run0 _ _ _ _ _ _ | exact eIsi_run0 _ _ _ _ _ _ _ | exact eIsi_run0 _ _ _ _ _ _ _ _ | exact eIsi_run0 _ _ _ _ _ _ _ _ _
theorem eSl_run0 (f : FE D) (lo hi : FE (Option Int)) : eSl f lo hi ρ ω = (f ρ ω).bind fun d ω1 => (lo ρ ω1).bind fun l ω2 => (hi ρ ω2).bind fun h ω3 => Res.lift (slD l h d) ω3 := rfl
theorem eSl_run (f : FE D) (lo hi : FE (Option Int)) : eSl f lo hi ρ ω = bindL (f ρ ω) (k := ⟨fun d ω1 => bindL (lo ρ ω1) (k := ⟨fun l ω2 => bindL (hi ρ ω2) (k := ⟨fun h ω3 => Res.lift (slD l h d) ω3⟩)⟩)⟩) := by first | exact eSl_run0 | exact eSl_run0 _ | exact eSl_run0 _ _ | exact eSl_run0 _ _ _ | exact eSl_run0 _ _ _ _ | exact eSl_run0 _ _ _ _ _ | exact eSl_run0 _ _ _ _ _ _ | exact eSl_run0 _ _ _ _ _ _ _ | exact eSl_run0 _ _ _ _ _ _ _ _ | exact eSl_run0 _ _ _ _ _ _ _ _ _
theorem ePart_run0 (f : FE D) : ePart f ρ ω = (f ρ ω).bind fun d ω1 => Res.lift (asI d) ω1 := rfl
theorem ePart_run (f : FE D) : ePart f ρ ω = bindL (f ρ ω) (k := ⟨fun d ω1 => Res.lift (asI d) ω1⟩) := by first | exact ePart_run0 | exact ePart_run0 _ | exact ePart_run0 _ _ | exact ePart_run0 _ _ _ | exact ePart_run0 _ _ _ _ | exact ePart_run0 _ _ _ _ _ | exact ePart_run0 _ _ _ _ _ _ | exact ePart_run0 _ _ _ _ _ _ _ | exact ePart_run0 _ _ _ _ _ _ _ _ | exact ePart_run0 _ _ _ _ _ _ _ _ _
theorem asI_run (n : Int) : asI (.int n) = some (some n) := rfl
theorem eNoPart_run : eNoPart ρ ω = .ok none ω := rfl
def chR (o : Option D) (ω : Om) (k : Om → Res D) : Res D := match o with
  | some (.bl true) => k ω
  | some (.bl false) => .ok (.bl false) ω
  | _ => .stuck
def chRL (o : Option D) (ω : Om) [k : KtC] : Res D := chR o ω k.run
theorem eChain_run0 (op op') (f g h : FE D) : eChain op op' f g h ρ ω = (f ρ ω).bind fun x ω1 => (g ρ ω1).bind fun y ω2 => chR (op x y) ω2 fun ω2 => (h ρ ω2).bind fun z ω3 => Res.lift (op' y z) ω3 := by
  unfold eChain chR
  rfl
theorem eChain_run (op op') (f g h : FE D) : eChain op op' f g h ρ ω = bindL (f ρ ω) (k := ⟨fun x ω1 => bindL (g ρ ω1) (k := ⟨fun y ω2 => chRL (op x y) ω2 (k := ⟨fun ω2 => bindL (h ρ ω2) (k := ⟨fun z ω3 => Res.lift (op' y z) ω3⟩)⟩)⟩)⟩) := by first | exact eChain_run0 | exact eChain_run0 _ | exact eChain_run0 _ _ | exact eChain_run0 _ _ _ | exact eChain_run0 _ _ _ _ | exact eChain_run0 _ _ _ _ _ | exact eChain_run0 _ _ _ _ _ _ | exact eChain_run0 _ _ _ _ _ _ _ | exact eChain_run0 _ _ _ _ _ _ _ _ | exact eChain_run0 _ _ _ _ _ _ _ _ _
theorem chR_run (b : Bool) (k : Om → Res D) : @chRL (some (.bl b)) ω ⟨k⟩ = if b = true then k ω else .ok (.bl false) ω := by cases b <;> rfl
def ownKR : Option (Option SV) → Option Nat
  | some (some (.own k)) => some k
  | _ => none
def ownLR : Option (Option OD) → Option (List D)
  | some (some (.lst ds)) => some ds
  | _ => none
theorem ownK_run : ownK ρ i = ownKR ρ[i]? := by unfold ownK ownKR; split <;> simp_all
theorem ownKR_run : ownKR (some (some (.own k))) = some k := rfl
theorem ownL_run : ownL ω k = ownLR ω[k]? := by unfold ownL ownLR; split <;> simp_all
theorem ownLR_run : ownLR (some (some (.lst ds))) = some ds := rfl
def someR {β γ : Type} (o : Option β) (k : β → Res γ) : Res γ := match o with
  | none => .stuck
  | some b => k b
def someO {β : Type} (o : Option β) (k : β → Out) : Out := match o with
  | none => .stuck
  | some b => k b
def someRL {β γ : Type} (o : Option β) [k : KtS β γ] : Res γ := someR o k.run
def someOL {β : Type} (o : Option β) [k : KtT β] : Out := someO o k.run
theorem someR_run (b : β) (k : β → Res γ) : @someRL _ _ (some b) ⟨k⟩ = k b := rfl
theorem someO_run (b : β) (k : β → Out) : @someOL _ (some b) ⟨k⟩ = k b := rfl
theorem eIxO_run0 (g : FE D) : eIxO i g ρ ω = someR (ownK ρ i) fun k => (g ρ ω).bind fun z ω1 => someR (ownL ω1 k) fun ds => Res.lift (ixI ds z) ω1 := by
  unfold eIxO someR
  cases ownK ρ i with
  | none => rfl
  | some k =>
    dsimp only
    congr 1
    funext z ω1
    cases ownL ω1 k <;> rfl
theorem eIxO_run (g : FE D) : eIxO i g ρ ω = someRL (ownK ρ i) (k := ⟨fun k => bindL (g ρ ω) (k := ⟨fun z ω1 => someRL (ownL ω1 k) (k := ⟨fun ds => Res.lift (ixI ds z) ω1⟩)⟩)⟩) := by first | exact eIxO_run0 | exact eIxO_run0 _ | exact eIxO_run0 _ _ | exact eIxO_run0 _ _ _ | exact eIxO_run0 _ _ _ _ | exact eIxO_run0 _ _ _ _ _ | exact eIxO_run0 _ _ _ _ _ _ | exact eIxO_run0 _ _ _ _ _ _ _ | exact eIxO_run0 _ _ _ _ _ _ _ _ | exact eIxO_run0 _ _ _ _ _ _ _ _ _
theorem ixI_run (n : Int) : ixI ds (.int n) = atI ds n := rfl
theorem eOwnL_run0 : eOwnL i ρ ω = someR (ownK ρ i) fun k => someR (ownL ω k) fun ds => .ok ds ω := by
  unfold eOwnL ownK someR ownL
  cases ρ[i]? with
  | none => rfl
  | some o =>
    cases o with
    | none => rfl
    | some x =>
      cases x with
      | val d => rfl
      | exc d => rfl
      | own k =>
        dsimp only
        cases ω[k]? with
        | none => rfl
        | some o =>
          cases o with
          | none => rfl
          | some u => cases u <;> rfl
theorem eOwnL_run : eOwnL i ρ ω = someRL (ownK ρ i) (k := ⟨fun k => someRL (ownL ω k) (k := ⟨fun ds => .ok ds ω⟩)⟩) := by first | exact eOwnL_run0 | exact eOwnL_run0 _ | exact eOwnL_run0 _ _ | exact eOwnL_run0 _ _ _ | exact eOwnL_run0 _ _ _ _ | exact eOwnL_run0 _ _ _ _ _ | exact eOwnL_run0 _ _ _ _ _ _ | exact eOwnL_run0 _ _ _ _ _ _ _ | exact eOwnL_run0 _ _ _ _ _ _ _ _ | exact eOwnL_run0 _ _ _ _ _ _ _ _ _
theorem sNext_run : sNext ρ ω = .next ρ ω := rfl
theorem sSeq_run (f g : FS) : sSeq f g ρ ω = obL (f ρ ω) (k := ⟨g⟩) := rfl
theorem sIf_run0 (c : FE Bool) (f g : FS) : sIf c f g ρ ω = (c ρ ω).out ρ fun b ω1 => if b = true then f ρ ω1 else g ρ ω1 := rfl
theorem sIf_run (c : FE Bool) (f g : FS) : sIf c f g ρ ω = outL (c ρ ω) ρ (k := ⟨fun b ω1 => if b = true then f ρ ω1 else g ρ ω1⟩) := by first | exact sIf_run0 | exact sIf_run0 _ | exact sIf_run0 _ _ | exact sIf_run0 _ _ _ | exact sIf_run0 _ _ _ _ | exact sIf_run0 _ _ _ _ _ | exact sIf_run0 _ _ _ _ _ _ | exact sIf_run0 _ _ _ _ _ _ _ | exact sIf_run0 _ _ _ _ _ _ _ _ | exact sIf_run0 _ _ _ _ _ _ _ _ _
theorem sExpr_run0 (f : FE D) : sExpr f ρ ω = (f ρ ω).out ρ fun _ ω1 => .next ρ ω1 := rfl
theorem sExpr_run (f : FE D) : sExpr f ρ ω = outL (f ρ ω) ρ (k := ⟨fun _ ω1 => .next ρ ω1⟩) := by first | exact sExpr_run0 | exact sExpr_run0 _ | exact sExpr_run0 _ _ | exact sExpr_run0 _ _ _ | exact sExpr_run0 _ _ _ _ | exact sExpr_run0 _ _ _ _ _ | exact sExpr_run0 _ _ _ _ _ _ | exact sExpr_run0 _ _ _ _ _ _ _ | exact sExpr_run0 _ _ _ _ _ _ _ _ | exact sExpr_run0 _ _ _ _ _ _ _ _ _
theorem sRet_run0 (f : FE D) : sRet f ρ ω = (f ρ ω).out ρ fun d ω1 => .ret (.val d) ω1 := rfl
theorem sRet_run (f : FE D) : sRet f ρ ω = outL (f ρ ω) ρ (k := ⟨fun d ω1 => .ret (.val d) ω1⟩) := by first | exact sRet_run0 | exact sRet_run0 _ | exact sRet_run0 _ _ | exact sRet_run0 _ _ _ | exact sRet_run0 _ _ _ _ | exact sRet_run0 _ _ _ _ _ | exact sRet_run0 _ _ _ _ _ _ | exact sRet_run0 _ _ _ _ _ _ _ | exact sRet_run0 _ _ _ _ _ _ _ _ | exact sRet_run0 _ _ _ _ _ _ _ _ _
theorem sRetS_run0 (f : FE SV) : sRetS f ρ ω = (f ρ ω).out ρ fun x ω1 => .ret x ω1 := rfl
theorem sRetS_run (f : FE SV) : sRetS f ρ ω = outL (f ρ ω) ρ (k := ⟨fun x ω1 => .ret x ω1⟩) := by first | exact sRetS_run0 | exact sRetS_run0 _ | exact sRetS_run0 _ _ | exact sRetS_run0 _ _ _ | exact sRetS_run0 _ _ _ _ | exact sRetS_run0 _ _ _ _ _ | exact sRetS_run0 _ _ _ _ _ _ | exact sRetS_run0 _ _ _ _ _ _ _ | exact sRetS_run0 _ _ _ _ _ _ _ _ | exact sRetS_run0 _ _ _ _ _ _ _ _ _
theorem sRetN_run : sRetN ρ ω = .ret (.val .non) ω := rfl
theorem sBreak_run : sBreak ρ ω = .brk ρ ω := rfl
theorem sCont_run : sCont ρ ω = .cont ρ ω := rfl
theorem sAsg_run0 (f : FE D) (tg : FG) : sAsg f tg ρ ω = (f ρ ω).out ρ fun d ω1 => someO (tg d ρ) fun ρ' => .next ρ' ω1 := by
  unfold sAsg someO
  congr 1
  funext d ω1
  cases tg d ρ <;> rfl
theorem sAsg_run (f : FE D) (tg : FG) : sAsg f tg ρ ω = outL (f ρ ω) ρ (k := ⟨fun d ω1 => someOL (tg d ρ) (k := ⟨fun ρ' => .next ρ' ω1⟩)⟩) := by first | exact sAsg_run0 | exact sAsg_run0 _ | exact sAsg_run0 _ _ | exact sAsg_run0 _ _ _ | exact sAsg_run0 _ _ _ _ | exact sAsg_run0 _ _ _ _ _ | exact sAsg_run0 _ _ _ _ _ _ | exact sAsg_run0 _ _ _ _ _ _ _ | exact sAsg_run0 _ _ _ _ _ _ _ _ | exact sAsg_run0 _ _ _ _ _ _ _ _ _
theorem sSetS_run0 (f : FE SV) : sSetS i f ρ ω = (f ρ ω).out ρ fun x ω1 => .next (ρ.set i (some x)) ω1 := rfl
theorem sSetS_run (f : FE SV) : sSetS i f ρ ω = outL (f ρ ω) ρ (k := ⟨fun x ω1 => .next (ρ.set i (some x)) ω1⟩) := by first | exact sSetS_run0 | exact sSetS_run0 _ | exact sSetS_run0 _ _ | exact sSetS_run0 _ _ _ | exact sSetS_run0 _ _ _ _ | exact sSetS_run0 _ _ _ _ _ | exact sSetS_run0 _ _ _ _ _ _ | exact sSetS_run0 _ _ _ _ _ _ _ | exact sSetS_run0 _ _ _ _ _ _ _ _ | exact sSetS_run0 _ _ _ _ _ _ _ _ _
def parR (i j : Nat) (ρ : Rho) (ω : Om) : List SV → Out
  | [x, y] => .next ((ρ.set i (some x)).set j (some y)) ω
  | _ => .stuck
theorem sPar_run0 (f : FE (List SV)) : sPar i j f ρ ω = (f ρ ω).out ρ fun xs ω1 => parR i j ρ ω1 xs := by
  unfold sPar parR; rfl
theorem sPar_run (f : FE (List SV)) : sPar i j f ρ ω = outL (f ρ ω) ρ (k := ⟨fun xs ω1 => parR i j ρ ω1 xs⟩) := by first | exact sPar_run0 | exact sPar_run0 _ | exact sPar_run0 _ _ | exact sPar_run0 _ _ _ | exact sPar_run0 _ _ _ _ | exact sPar_run0 _ _ _ _ _ | exact sPar_run0 _ _ _ _ _ _ | exact sPar_run0 _ _ _ _ _ _ _ | exact sPar_run0 _ _ _ _ _ _ _ _ | exact sPar_run0 _ _ _ _ _ _ _ _ _
theorem parR_run (x y : SV) : parR i j ρ ω [x, y] = .next ((ρ.set i (some x)).set j (some y)) ω := rfl
theorem gN_run : gN i d ρ = some (ρ.set i (some (.val d))) := rfl
theorem gsNil_run : gsNil [] ρ = some ρ := rfl
theorem gsCons_run (f : FG) (g) : gsCons f g (d :: ds) ρ = (f d ρ).bind fun ρ1 => g ds ρ1 := rfl
theorem sFor_run0 (it : FE (List D)) (tg : FG) (b : FS) : sFor it tg b ρ ω = (it ρ ω).out ρ fun ds ω1 => forL tg b ds ρ ω1 := rfl
theorem sFor_run (it : FE (List D)) (tg : FG) (b : FS) : sFor it tg b ρ ω = outL (it ρ ω) ρ (k := ⟨fun ds ω1 => forL tg b ds ρ ω1⟩) := by first | exact sFor_run0 | exact sFor_run0 _ | exact sFor_run0 _ _ | exact sFor_run0 _ _ _ | exact sFor_run0 _ _ _ _ | exact sFor_run0 _ _ _ _ _ | exact sFor_run0 _ _ _ _ _ _ | exact sFor_run0 _ _ _ _ _ _ _ | exact sFor_run0 _ _ _ _ _ _ _ _ | exact sFor_run0 _ _ _ _ _ _ _ _ _
theorem sWhile_run (n) (c : FE Bool) (b : FS) : sWhile n c b ρ ω = whileF c b n ρ ω := rfl
theorem eIt1_run0 (o) (f : FE D) : eIt1 o f ρ ω = (f ρ ω).bind fun d ω1 => Res.lift (o d) ω1 := rfl
theorem eIt1_run (o) (f : FE D) : eIt1 o f ρ ω = bindL (f ρ ω) (k := ⟨fun d ω1 => Res.lift (o d) ω1⟩) := by first | exact eIt1_run0 | exact eIt1_run0 _ | exact eIt1_run0 _ _ | exact eIt1_run0 _ _ _ | exact eIt1_run0 _ _ _ _ | exact eIt1_run0 _ _ _ _ _ | exact eIt1_run0 _ _ _ _ _ _ | exact eIt1_run0 _ _ _ _ _ _ _ | exact eIt1_run0 _ _ _ _ _ _ _ _ | exact eIt1_run0 _ _ _ _ _ _ _ _ _
theorem eIt2_run0 (o) (f g : FE D) : eIt2 o f g ρ ω = (f ρ ω).bind fun d ω1 => (g ρ ω1).bind fun e ω2 => Res.lift (o d e) ω2 := rfl
theorem eIt2_run (o) (f g : FE D) : eIt2 o f g ρ ω = bindL (f ρ ω) (k := ⟨fun d ω1 => bindL (g ρ ω1) (k := ⟨fun e ω2 => Res.lift (o d e) ω2⟩)⟩) := by first | exact eIt2_run0 | exact eIt2_run0 _ | exact eIt2_run0 _ _ | exact eIt2_run0 _ _ _ | exact eIt2_run0 _ _ _ _ | exact eIt2_run0 _ _ _ _ _ | exact eIt2_run0 _ _ _ _ _ _ | exact eIt2_run0 _ _ _ _ _ _ _ | exact eIt2_run0 _ _ _ _ _ _ _ _ | exact eIt2_run0 _ _ _ _ _ _ _ _ _
theorem eIt3_run0 (o) (f g h : FE D) : eIt3 o f g h ρ ω = (f ρ ω).bind fun d ω1 => (g ρ ω1).bind fun e ω2 => (h ρ ω2).bind fun k ω3 => Res.lift (o d e k) ω3 := rfl
theorem eIt3_run (o) (f g h : FE D) : eIt3 o f g h ρ ω = bindL (f ρ ω) (k := ⟨fun d ω1 => bindL (g ρ ω1) (k := ⟨fun e ω2 => bindL (h ρ ω2) (k := ⟨fun k ω3 => Res.lift (o d e k) ω3⟩)⟩)⟩) := by first | exact eIt3_run0 | exact eIt3_run0 _ | exact eIt3_run0 _ _ | exact eIt3_run0 _ _ _ | exact eIt3_run0 _ _ _ _ | exact eIt3_run0 _ _ _ _ _ | exact eIt3_run0 _ _ _ _ _ _ | exact eIt3_run0 _ _ _ _ _ _ _ | exact eIt3_run0 _ _ _ _ _ _ _ _ | exact eIt3_run0 _ _ _ _ _ _ _ _ _
theorem itSeq_lst : itSeq (.lst ds) = some ds := rfl
theorem itSeq_tup : itSeq (.tup ds) = some ds := rfl
theorem itEn_lst : itEn (.lst ds) = some (enumD ds) := rfl
theorem itEn_tup : itEn (.tup ds) = some (enumD ds) := rfl
theorem itZ_lst : itZ (.lst ds) (.lst es) = some (zipD ds es) := rfl
theorem itZ_tup : itZ (.tup ds) (.tup es) = some (zipD ds es) := rfl
theorem eLc_run0 (vs) (it : FE (List D)) (tg) (tt) (el : FE D) : eLc vs it tg tt el ρ ω = (it ρ ω).bind fun ds ω1 => lcL tg tt el (wipeR ρ vs) ds [] ω1 := rfl
theorem eLc_run (vs) (it : FE (List D)) (tg) (tt) (el : FE D) : eLc vs it tg tt el ρ ω = bindL (it ρ ω) (k := ⟨fun ds ω1 => lcL tg tt el (wipeR ρ vs) ds [] ω1⟩) := by first | exact eLc_run0 | exact eLc_run0 _ | exact eLc_run0 _ _ | exact eLc_run0 _ _ _ | exact eLc_run0 _ _ _ _ | exact eLc_run0 _ _ _ _ _ | exact eLc_run0 _ _ _ _ _ _ | exact eLc_run0 _ _ _ _ _ _ _ | exact eLc_run0 _ _ _ _ _ _ _ _ | exact eLc_run0 _ _ _ _ _ _ _ _ _
theorem eLc2_run0 (vs vs1) (it : FE (List D)) (tg tt) (it1 : FE (List D)) (tg1 tt1) (el : FE D) : eLc2 vs vs1 it tg tt it1 tg1 tt1 el ρ ω = (it ρ ω).bind fun ds ω1 => lc2L tg tt it1 tg1 tt1 el vs1 (wipeR ρ vs) ds [] ω1 := rfl
theorem eLc2_run (vs vs1) (it : FE (List D)) (tg tt) (it1 : FE (List D)) (tg1 tt1) (el : FE D) : eLc2 vs vs1 it tg tt it1 tg1 tt1 el ρ ω = bindL (it ρ ω) (k := ⟨fun ds ω1 => lc2L tg tt it1 tg1 tt1 el vs1 (wipeR ρ vs) ds [] ω1⟩) := by first | exact eLc2_run0 | exact eLc2_run0 _ | exact eLc2_run0 _ _ | exact eLc2_run0 _ _ _ | exact eLc2_run0 _ _ _ _ | exact eLc2_run0 _ _ _ _ _ | exact eLc2_run0 _ _ _ _ _ _ | exact eLc2_run0 _ _ _ _ _ _ _ | exact eLc2_run0 _ _ _ _ _ _ _ _ | exact eLc2_run0 _ _ _ _ _ _ _ _ _
theorem wipeR_nil : wipeR ρ [] = ρ := rfl
theorem wipeR_cons (v : Nat) (vs : List Nat) : wipeR ρ (v :: vs) = (wipeR ρ vs).set v none := rfl
def newR (o : Option (List D)) (n i : Nat) (ρ : Rho) (ω : Om) : Out := match o with
  | some ds => if n ≤ lim then .next (ρ.set i (some (.own ω.length))) (ω ++ [some (.lst ds)]) else .stuck
  | none => .stuck
theorem sNewL_run0 (g : FE (List SV)) : sNewL i g ρ ω = (g ρ ω).out ρ fun xs ω1 => newR (allD xs) xs.length i ρ ω1 := by
  unfold sNewL newR; rfl
theorem sNewL_run (g : FE (List SV)) : sNewL i g ρ ω = outL (g ρ ω) ρ (k := ⟨fun xs ω1 => newR (allD xs) xs.length i ρ ω1⟩) := by first | exact sNewL_run0 | exact sNewL_run0 _ | exact sNewL_run0 _ _ | exact sNewL_run0 _ _ _ | exact sNewL_run0 _ _ _ _ | exact sNewL_run0 _ _ _ _ _ | exact sNewL_run0 _ _ _ _ _ _ | exact sNewL_run0 _ _ _ _ _ _ _ | exact sNewL_run0 _ _ _ _ _ _ _ _ | exact sNewL_run0 _ _ _ _ _ _ _ _ _
theorem newR_run {n : Nat} (h : n ≤ lim) : newR (some ds) n i ρ ω = .next (ρ.set i (some (.own ω.length))) (ω ++ [some (.lst ds)]) := by unfold newR; dsimp only; rw [if_pos h]
theorem sApp_run0 (f : FE D) : sApp i f ρ ω = someO (ownK ρ i) fun k => someO (ownL ω k) fun _ => (f ρ ω).out ρ fun d ω1 => someO (ownL ω1 k) fun ds => if ds.length < lim then .next ρ (ω1.set k (some (.lst (ds ++ [d])))) else .stuck := by
  unfold sApp someO
  cases ownK ρ i with
  | none => rfl
  | some k =>
    dsimp only
    cases ownL ω k with
    | none => rfl
    | some _ =>
      dsimp only
      congr 1
      funext d ω1
      cases ownL ω1 k <;> rfl
theorem sApp_run (f : FE D) : sApp i f ρ ω = someOL (ownK ρ i) (k := ⟨fun k => someOL (ownL ω k) (k := ⟨fun _ => outL (f ρ ω) ρ (k := ⟨fun d ω1 => someOL (ownL ω1 k) (k := ⟨fun ds => if ds.length < lim then .next ρ (ω1.set k (some (.lst (ds ++ [d])))) else .stuck⟩)⟩)⟩)⟩) := by first | exact sApp_run0 | exact sApp_run0 _ | exact sApp_run0 _ _ | exact sApp_run0 _ _ _ | exact sApp_run0 _ _ _ _ | exact sApp_run0 _ _ _ _ _ | exact sApp_run0 _ _ _ _ _ _ | exact sApp_run0 _ _ _ _ _ _ _ | exact sApp_run0 _ _ _ _ _ _ _ _ | exact sApp_run0 _ _ _ _ _ _ _ _ _
def setIxR (ds : List D) (d : D) (k : Nat) (ρ : Rho) (ω : Om) : D → Out
  | .int n => someO (ixN ds.length n) fun j => .next ρ (ω.set k (some (.lst (ds.set j d))))
  | _ => .stuck
theorem sSetIx_run0 (fi fe : FE D) : sSetIx i fi fe ρ ω = (fe ρ ω).out ρ fun d ω1 => someO (ownK ρ i) fun k => (fi ρ ω1).out ρ fun z ω2 => someO (ownL ω2 k) fun ds => setIxR ds d k ρ ω2 z := by
  unfold sSetIx someO setIxR
  congr 1
  funext d ω1
  cases ownK ρ i with
  | none => rfl
  | some k =>
    dsimp only
    congr 1
    funext z ω2
    cases z <;> cases ownL ω2 k <;> try rfl
    dsimp only [someO]
    split <;> simp_all
theorem sSetIx_run (fi fe : FE D) : sSetIx i fi fe ρ ω = outL (fe ρ ω) ρ (k := ⟨fun d ω1 => someOL (ownK ρ i) (k := ⟨fun k => outL (fi ρ ω1) ρ (k := ⟨fun z ω2 => someOL (ownL ω2 k) (k := ⟨fun ds => setIxR ds d k ρ ω2 z⟩)⟩)⟩)⟩) := by first | exact sSetIx_run0 | exact sSetIx_run0 _ | exact sSetIx_run0 _ _ | exact sSetIx_run0 _ _ _ | exact sSetIx_run0 _ _ _ _ | exact sSetIx_run0 _ _ _ _ _ | exact sSetIx_run0 _ _ _ _ _ _ | exact sSetIx_run0 _ _ _ _ _ _ _ | exact sSetIx_run0 _ _ _ _ _ _ _ _ | exact sSetIx_run0 _ _ _ _ _ _ _ _ _
theorem setIxR_run0 (n : Int) : setIxR ds d k ρ ω (.int n) = someO (ixN ds.length n) fun j => .next ρ (ω.set k (some (.lst (ds.set j d)))) := rfl
theorem setIxR_run (n : Int) : setIxR ds d k ρ ω (.int n) = someOL (ixN ds.length n) (k := ⟨fun j => .next ρ (ω.set k (some (.lst (ds.set j d))))⟩) := by first | exact setIxR_run0 | exact setIxR_run0 _ | exact setIxR_run0 _ _ | exact setIxR_run0 _ _ _ | exact setIxR_run0 _ _ _ _ | exact setIxR_run0 _ _ _ _ _ | exact setIxR_run0 _ _ _ _ _ _ | exact setIxR_run0 _ _ _ _ _ _ _ | exact setIxR_run0 _ _ _ _ _ _ _ _ | exact setIxR_run0 _ _ _ _ _ _ _ _ _
theorem sRetL_run0 : sRetL i ρ ω = someO (ownK ρ i) fun k => someO (ownL ω k) fun ds => .ret (.val (.lst ds)) (ω.set k none) := by
  unfold sRetL someO
  cases ownK ρ i with
  | none => rfl
  | some k =>
    dsimp only
    cases ownL ω k <;> rfl
theorem sRetL_run : sRetL i ρ ω = someOL (ownK ρ i) (k := ⟨fun k => someOL (ownL ω k) (k := ⟨fun ds => .ret (.val (.lst ds)) (ω.set k none)⟩)⟩) := by first | exact sRetL_run0 | exact sRetL_run0 _ | exact sRetL_run0 _ _ | exact sRetL_run0 _ _ _ | exact sRetL_run0 _ _ _ _ | exact sRetL_run0 _ _ _ _ _ | exact sRetL_run0 _ _ _ _ _ _ | exact sRetL_run0 _ _ _ _ _ _ _ | exact sRetL_run0 _ _ _ _ _ _ _ _ | exact sRetL_run0 _ _ _ _ _ _ _ _ _
def retNewR (o : Option (List D)) (n : Nat) (ω : Om) : Out := match o with
  | some ds => if n ≤ lim then .ret (.own ω.length) (ω ++ [some (.lst ds)]) else .stuck
  | none => .stuck
theorem sRetNew_run0 (g : FE (List SV)) : sRetNew g ρ ω = (g ρ ω).out ρ fun xs ω1 => retNewR (allD xs) xs.length ω1 := by
  unfold sRetNew retNewR; rfl
theorem sRetNew_run (g : FE (List SV)) : sRetNew g ρ ω = outL (g ρ ω) ρ (k := ⟨fun xs ω1 => retNewR (allD xs) xs.length ω1⟩) := by first | exact sRetNew_run0 | exact sRetNew_run0 _ | exact sRetNew_run0 _ _ | exact sRetNew_run0 _ _ _ | exact sRetNew_run0 _ _ _ _ | exact sRetNew_run0 _ _ _ _ _ | exact sRetNew_run0 _ _ _ _ _ _ | exact sRetNew_run0 _ _ _ _ _ _ _ | exact sRetNew_run0 _ _ _ _ _ _ _ _ | exact sRetNew_run0 _ _ _ _ _ _ _ _ _
theorem retNewR_run {n : Nat} (h : n ≤ lim) : retNewR (some ds) n ω = .ret (.own ω.length) (ω ++ [some (.lst ds)]) := by unfold retNewR; dsimp only; rw [if_pos h]
def finP : Out → Option (Except Exn D)
  | .ret (.val d) _ => some (.ok d)
  | .next _ _ => some (.ok .non)
  | .exc x _ _ => some (.error x)
  | _ => none
theorem fnP_run {n m : Nat} {fb : FS} (h : ds.length = n) : fnP n m fb ds = finP (fb (rho0 m (ds.map SV.val)) []) := by
  unfold fnP finP; rw [if_pos h]
  all_goals
    cases fb (rho0 m (ds.map SV.val)) [] with
    | ret x _ => cases x <;> rfl
    | _ => rfl
theorem finP_ret : finP (.ret (.val d) ω) = some (.ok d) := rfl
theorem finP_next : finP (.next ρ ω) = some (.ok .non) := rfl
theorem finP_exc (x : Exn) : finP (.exc x ρ ω) = some (.error x) := rfl
def finE (n : Nat) : Out → Res SV
  | .ret (.val d) ω' => .ok (.val d) (ω'.take n)
  | .ret (.exc z) ω' => .ok (.exc z) (ω'.take n)
  | .ret (.own k) ω' => if k < n then .ok (.own k) (ω'.take n) else if k = n then .ok (.own k) (ω'.take (n + 1)) else .stuck
  | .next _ ω' => .ok (.val .non) (ω'.take n)
  | .exc x _ ω' => .exc x (ω'.take n)
  | _ => .stuck
theorem fnE_run {n m : Nat} {fb : FS} {xs : List SV} (h : xs.length = n) : fnE n m fb xs ω = finE ω.length (fb (rho0 m xs) ω) := by
  unfold fnE finE; rw [if_pos h]
  all_goals
    cases fb (rho0 m xs) ω with
    | ret x _ => cases x <;> rfl
    | _ => rfl
theorem finE_ret {n : Nat} : finE n (.ret (.val d) ω) = .ok (.val d) (ω.take n) := rfl
theorem finE_next {n : Nat} : finE n (.next ρ ω) = .ok (.val .non) (ω.take n) := rfl
theorem finE_exc {n : Nat} (x : Exn) : finE n (.exc x ρ ω) = .exc x (ω.take n) := rfl
def callR (r : Option (Except Exn D)) (ω : Om) : Res D := match r with
  | none => .stuck
  | some (.ok d) => .ok d ω
  | some (.error x) => .exc x ω
theorem eCallP_run0 (F : FnP) (g : FE (List SV)) : eCallP F g ρ ω = (g ρ ω).bind fun xs ω1 => callR ((allD xs).bind F) ω1 := by
  unfold eCallP callR
  congr 1
  funext xs ω1
  cases allD xs with
  | none => rfl
  | some ds =>
    dsimp only [Option.bind]
    all_goals
      cases F ds with
      | none => rfl
      | some y => cases y <;> rfl
theorem eCallP_run (F : FnP) (g : FE (List SV)) : eCallP F g ρ ω = bindL (g ρ ω) (k := ⟨fun xs ω1 => callR ((allD xs).bind F) ω1⟩) := by first | exact eCallP_run0 | exact eCallP_run0 _ | exact eCallP_run0 _ _ | exact eCallP_run0 _ _ _ | exact eCallP_run0 _ _ _ _ | exact eCallP_run0 _ _ _ _ _ | exact eCallP_run0 _ _ _ _ _ _ | exact eCallP_run0 _ _ _ _ _ _ _ | exact eCallP_run0 _ _ _ _ _ _ _ _ | exact eCallP_run0 _ _ _ _ _ _ _ _ _
theorem callR_ok : callR (some (.ok d)) ω = .ok d ω := rfl
theorem callR_err (x : Exn) : callR (some (.error x)) ω = .exc x ω := rfl
theorem eCallE_run0 (F : Fn) (g : FE (List SV)) : eCallE F g ρ ω = (g ρ ω).bind F := rfl
theorem eCallE_run (F : Fn) (g : FE (List SV)) : eCallE F g ρ ω = bindL (g ρ ω) (k := ⟨F⟩) := by first | exact eCallE_run0 | exact eCallE_run0 _ | exact eCallE_run0 _ _ | exact eCallE_run0 _ _ _ | exact eCallE_run0 _ _ _ _ | exact eCallE_run0 _ _ _ _ _ | exact eCallE_run0 _ _ _ _ _ _ | exact eCallE_run0 _ _ _ _ _ _ _ | exact eCallE_run0 _ _ _ _ _ _ _ _ | exact eCallE_run0 _ _ _ _ _ _ _ _ _
def valR (x : SV) (ω : Om) : Res D := match x with
  | .val d => .ok d ω
  | .own _ => .stuck
  | .exc _ => .stuck
theorem eVal_run0 (f : FE SV) : eVal f ρ ω = (f ρ ω).bind valR := rfl
theorem eVal_run (f : FE SV) : eVal f ρ ω = bindL (f ρ ω) (k := ⟨valR⟩) := by first | exact eVal_run0 | exact eVal_run0 _ | exact eVal_run0 _ _ | exact eVal_run0 _ _ _ | exact eVal_run0 _ _ _ _ | exact eVal_run0 _ _ _ _ _ | exact eVal_run0 _ _ _ _ _ _ | exact eVal_run0 _ _ _ _ _ _ _ | exact eVal_run0 _ _ _ _ _ _ _ _ | exact eVal_run0 _ _ _ _ _ _ _ _ _
theorem valR_run : valR (.val d) ω = .ok d ω := rfl
def makeR (r : Res SV) (ω : Om) : Res D := match r with
  | .ok (.val .non) [some (.ins c' fs)] => .ok (.obj c' fs) ω
  | .exc x _ => .exc x ω
  | _ => .stuck
theorem eMake_run0 (c : Str) (F : Fn) (g : FE (List SV)) : eMake c F g ρ ω = (g ρ ω).bind fun xs ω1 => someR (allD xs) fun ds => makeR (F (.own 0 :: ds.map SV.val) [some (.ins c [])]) ω1 := by
  unfold eMake someR makeR
  congr 1
  funext xs ω1
  cases allD xs <;> rfl
theorem eMake_run (c : Str) (F : Fn) (g : FE (List SV)) : eMake c F g ρ ω = bindL (g ρ ω) (k := ⟨fun xs ω1 => someRL (allD xs) (k := ⟨fun ds => makeR (F (.own 0 :: ds.map SV.val) [some (.ins c [])]) ω1⟩)⟩) := by first | exact eMake_run0 | exact eMake_run0 _ | exact eMake_run0 _ _ | exact eMake_run0 _ _ _ | exact eMake_run0 _ _ _ _ | exact eMake_run0 _ _ _ _ _ | exact eMake_run0 _ _ _ _ _ _ | exact eMake_run0 _ _ _ _ _ _ _ | exact eMake_run0 _ _ _ _ _ _ _ _ | exact eMake_run0 _ _ _ _ _ _ _ _ _
theorem makeR_ok {c : Str} {fs : List (Str × D)} : makeR (.ok (.val .non) [some (.ins c fs)]) ω = .ok (.obj c fs) ω := rfl
theorem makeR_exc (x : Exn) (ω' : Om) : makeR (.exc x ω') ω = .exc x ω := rfl
theorem eFld_run0 (c f : Str) (fe : FE D) : eFld c f fe ρ ω = (fe ρ ω).bind fun d ω1 => Res.lift (fldD c f d) ω1 := rfl
theorem eFld_run (c f : Str) (fe : FE D) : eFld c f fe ρ ω = bindL (fe ρ ω) (k := ⟨fun d ω1 => Res.lift (fldD c f d) ω1⟩) := by first | exact eFld_run0 | exact eFld_run0 _ | exact eFld_run0 _ _ | exact eFld_run0 _ _ _ | exact eFld_run0 _ _ _ _ | exact eFld_run0 _ _ _ _ _ | exact eFld_run0 _ _ _ _ _ _ | exact eFld_run0 _ _ _ _ _ _ _ | exact eFld_run0 _ _ _ _ _ _ _ _ | exact eFld_run0 _ _ _ _ _ _ _ _ _
theorem opAdd_int (i j : Int) : opAdd (.int i) (.int j) = some (.int (i + j)) := rfl
theorem opAdd_tup (h : ds.length + es.length ≤ lim) : opAdd (.tup ds) (.tup es) = some (.tup (ds ++ es)) := by simp only [opAdd]; rw [if_pos h]
theorem opAdd_lst (h : ds.length + es.length ≤ lim) : opAdd (.lst ds) (.lst es) = some (.lst (ds ++ es)) := by simp only [opAdd]; rw [if_pos h]
theorem opI_run (p) (i j : Int) : opI p (.int i) (.int j) = (p i j).map D.int := rfl
theorem opB_run (p) (i j : Int) : opB p (.int i) (.int j) = some (.bl (p i j)) := rfl
theorem opMulA_int (i j : Int) : opMulA (.int i) (.int j) = opMul (.int i) (.int j) := rfl
theorem opEq_run : opEq x y = (eqD x y).map D.bl := rfl
theorem opNe_run : opNe x y = (eqD x y).map fun b => D.bl (!b) := rfl
theorem opIsN_run : opIsN x .non = some (.bl (isNon x)) := rfl
theorem opNotN_run : opNotN x .non = some (.bl (!isNon x)) := rfl
theorem opIx_tup (i : Int) : opIx (.tup ds) (.int i) = atI ds i := rfl
theorem opIx_lst (i : Int) : opIx (.lst ds) (.int i) = atI ds i := rfl
theorem opNeg_run (i : Int) : opNeg (.int i) = some (.int (-i)) := rfl
theorem oLen_tup : oLen [.tup ds] = some (.int ds.length) := rfl
theorem oLen_lst : oLen [.lst ds] = some (.int ds.length) := rfl
theorem oInt_int (i : Int) : oInt [.int i] = some (.int i) := rfl
theorem oInt_bl (b : Bool) : oInt [.bl b] = some (.int (if b then 1 else 0)) := rfl
theorem oTuple_tup : oTuple [.tup ds] = some (.tup ds) := rfl
theorem oTuple_lst : oTuple [.lst ds] = some (.tup ds) := rfl
theorem oList_tup : oList [.tup ds] = some (.lst ds) := rfl
theorem oList_lst : oList [.lst ds] = some (.lst ds) := rfl
theorem oTupleL_run : oTupleL ds = some (.tup ds) := rfl
theorem oListL_run : oListL ds = some (.lst ds) := rfl
theorem oLenL_run : oLenL ds = some (.int ds.length) := rfl
theorem atI_get' {α : Type} {xs : List α} {i : Int} (h0 : 0 ≤ i) : atI xs i = xs[i.toNat]? := by
  unfold atI ixN
  rw [if_pos h0]
  split
  · rfl
  · rw [List.getElem?_eq_none (by omega)]; rfl
end
section
variable {α : Type}
theorem atI_0 (x0 : α) (xs : List α) : atI (x0 :: xs) 0 = some x0 := by rw [atI_get' (by omega)]; rfl
theorem atI_1 (x0 x1 : α) (xs : List α) : atI (x0 :: x1 :: xs) 1 = some x1 := by rw [atI_get' (by omega)]; rfl
theorem atI_2 (x0 x1 x2 : α) (xs : List α) : atI (x0 :: x1 :: x2 :: xs) 2 = some x2 := by rw [atI_get' (by omega)]; rfl
theorem atI_3 (x0 x1 x2 x3 : α) (xs : List α) : atI (x0 :: x1 :: x2 :: x3 :: xs) 3 = some x3 := by rw [atI_get' (by omega)]; rfl
theorem atI_4 (x0 x1 x2 x3 x4 : α) (xs : List α) : atI (x0 :: x1 :: x2 :: x3 :: x4 :: xs) 4 = some x4 := by rw [atI_get' (by omega)]; rfl
theorem atI_5 (x0 x1 x2 x3 x4 x5 : α) (xs : List α) : atI (x0 :: x1 :: x2 :: x3 :: x4 :: x5 :: xs) 5 = some x5 := by rw [atI_get' (by omega)]; rfl
theorem atI_6 (x0 x1 x2 x3 x4 x5 x6 : α) (xs : List α) : atI (x0 :: x1 :: x2 :: x3 :: x4 :: x5 :: x6 :: xs) 6 = some x6 := by rw [atI_get' (by omega)]; rfl
theorem atI_7 (x0 x1 x2 x3 x4 x5 x6 x7 : α) (xs : List α) : atI (x0 :: x1 :: x2 :: x3 :: x4 :: x5 :: x6 :: x7 :: xs) 7 = some x7 := by rw [atI_get' (by omega)]; rfl
theorem atI_8 (x0 x1 x2 x3 x4 x5 x6 x7 x8 : α) (xs : List α) : atI (x0 :: x1 :: x2 :: x3 :: x4 :: x5 :: x6 :: x7 :: x8 :: xs) 8 = some x8 := by rw [atI_get' (by omega)]; rfl
theorem ixN_1_0 : ixN 1 0 = some 0 := rfl
theorem ixN_2_0 : ixN 2 0 = some 0 := rfl
theorem ixN_2_1 : ixN 2 1 = some 1 := rfl
theorem ixN_3_0 : ixN 3 0 = some 0 := rfl
theorem ixN_3_1 : ixN 3 1 = some 1 := rfl
theorem ixN_3_2 : ixN 3 2 = some 2 := rfl
theorem ixN_4_0 : ixN 4 0 = some 0 := rfl
theorem ixN_4_1 : ixN 4 1 = some 1 := rfl
theorem ixN_4_2 : ixN 4 2 = some 2 := rfl
theorem ixN_4_3 : ixN 4 3 = some 3 := rfl
theorem ixN_5_0 : ixN 5 0 = some 0 := rfl
theorem ixN_5_1 : ixN 5 1 = some 1 := rfl
theorem ixN_5_2 : ixN 5 2 = some 2 := rfl
theorem ixN_5_3 : ixN 5 3 = some 3 := rfl
theorem ixN_5_4 : ixN 5 4 = some 4 := rfl
end
theorem isi_int_non  : isiD "int" .non = some (.bl false) := by simp [isiD, tyD, isTy]
theorem isi_int_bl (b : Bool) : isiD "int" (.bl b) = some (.bl true) := by simp [isiD, tyD, isTy]
theorem isi_int_int (i : Int) : isiD "int" (.int i) = some (.bl true) := by simp [isiD, tyD, isTy]
theorem isi_int_str (x : Str) : isiD "int" (.str x) = some (.bl false) := by simp [isiD, tyD, isTy]
theorem isi_int_tup (ds : List D) : isiD "int" (.tup ds) = some (.bl false) := by simp [isiD, tyD, isTy]
theorem isi_int_lst (ds : List D) : isiD "int" (.lst ds) = some (.bl false) := by simp [isiD, tyD, isTy]
theorem isi_bool_non  : isiD "bool" .non = some (.bl false) := by simp [isiD, tyD, isTy]
theorem isi_bool_bl (b : Bool) : isiD "bool" (.bl b) = some (.bl true) := by simp [isiD, tyD, isTy]
theorem isi_bool_int (i : Int) : isiD "bool" (.int i) = some (.bl false) := by simp [isiD, tyD, isTy]
theorem isi_bool_str (x : Str) : isiD "bool" (.str x) = some (.bl false) := by simp [isiD, tyD, isTy]
theorem isi_bool_tup (ds : List D) : isiD "bool" (.tup ds) = some (.bl false) := by simp [isiD, tyD, isTy]
theorem isi_bool_lst (ds : List D) : isiD "bool" (.lst ds) = some (.bl false) := by simp [isiD, tyD, isTy]
theorem isi_tuple_non  : isiD "tuple" .non = some (.bl false) := by simp [isiD, tyD, isTy]
theorem isi_tuple_bl (b : Bool) : isiD "tuple" (.bl b) = some (.bl false) := by simp [isiD, tyD, isTy]
theorem isi_tuple_int (i : Int) : isiD "tuple" (.int i) = some (.bl false) := by simp [isiD, tyD, isTy]
theorem isi_tuple_str (x : Str) : isiD "tuple" (.str x) = some (.bl false) := by simp [isiD, tyD, isTy]
theorem isi_tuple_tup (ds : List D) : isiD "tuple" (.tup ds) = some (.bl true) := by simp [isiD, tyD, isTy]
theorem isi_tuple_lst (ds : List D) : isiD "tuple" (.lst ds) = some (.bl false) := by simp [isiD, tyD, isTy]
theorem isi_str_non  : isiD "str" .non = some (.bl false) := by simp [isiD, tyD, isTy]
theorem isi_str_bl (b : Bool) : isiD "str" (.bl b) = some (.bl false) := by simp [isiD, tyD, isTy]
theorem isi_str_int (i : Int) : isiD "str" (.int i) = some (.bl false) := by simp [isiD, tyD, isTy]
theorem isi_str_str (x : Str) : isiD "str" (.str x) = some (.bl true) := by simp [isiD, tyD, isTy]
theorem isi_str_tup (ds : List D) : isiD "str" (.tup ds) = some (.bl false) := by simp [isiD, tyD, isTy]
theorem isi_str_lst (ds : List D) : isiD "str" (.lst ds) = some (.bl false) := by simp [isiD, tyD, isTy]
theorem isi_list_non  : isiD "list" .non = some (.bl false) := by simp [isiD, tyD, isTy]
theorem isi_list_bl (b : Bool) : isiD "list" (.bl b) = some (.bl false) := by simp [isiD, tyD, isTy]
theorem isi_list_int (i : Int) : isiD "list" (.int i) = some (.bl false) := by simp [isiD, tyD, isTy]
theorem isi_list_str (x : Str) : isiD "list" (.str x) = some (.bl false) := by simp [isiD, tyD, isTy]
theorem isi_list_tup (ds : List D) : isiD "list" (.tup ds) = some (.bl false) := by simp [isiD, tyD, isTy]
theorem isi_list_lst (ds : List D) : isiD "list" (.lst ds) = some (.bl true) := by simp [isiD, tyD, isTy]
theorem isNon_non  : isNon .non = true := rfl
theorem isNon_bl (b : Bool) : isNon (.bl b) = false := rfl
theorem isNon_int (i : Int) : isNon (.int i) = false := rfl
theorem isNon_str (x : Str) : isNon (.str x) = false := rfl
theorem isNon_tup (ds : List D) : isNon (.tup ds) = false := rfl
theorem isNon_lst (ds : List D) : isNon (.lst ds) = false := rfl
theorem forL_rule {tg : FG} {b : FS} {ds : List D} {ρ : Rho} {ω : Om} (P : Nat → Rho → Om → Prop) (R : Out → Prop) (h0 : P 0 ρ ω)
    (hs : ∀ i d ρ ω, ds[i]? = some d → P i ρ ω → ∃ ρ1, tg d ρ = some ρ1 ∧ (match b ρ1 ω with
      | .next ρ2 ω2 => P (i + 1) ρ2 ω2
      | .cont ρ2 ω2 => P (i + 1) ρ2 ω2
      | .brk ρ2 ω2 => R (.next ρ2 ω2)
      | .ret x ω2 => R (.ret x ω2)
      | .exc x ρ2 ω2 => R (.exc x ρ2 ω2)
      | .stuck => False))
    (hd : ∀ ρ ω, P ds.length ρ ω → R (.next ρ ω)) : R (forL tg b ds ρ ω) := by
  suffices H : ∀ (n i : Nat) (ρ : Rho) (ω : Om), n = ds.length - i → i ≤ ds.length → P i ρ ω → R (forL tg b (ds.drop i) ρ ω) from H _ 0 ρ ω rfl (Nat.zero_le _) h0
  intro n
  induction n with
  | zero =>
    intro i ρ ω hn hi p
    have : i = ds.length := by omega
    subst this
    rw [List.drop_length]
    exact hd ρ ω p
  | succ n ih =>
    intro i ρ ω hn hi p
    have hlt : i < ds.length := by omega
    rw [List.drop_eq_getElem_cons hlt]
    obtain ⟨ρ1, e1, h⟩ := hs i ds[i] ρ ω (List.getElem?_eq_getElem hlt) p
    unfold forL
    rw [e1]
    dsimp only
    cases q : b ρ1 ω with
    | next ρ2 ω2 => rw [q] at h; exact ih (i + 1) ρ2 ω2 (by omega) hlt h
    | cont ρ2 ω2 => rw [q] at h; exact ih (i + 1) ρ2 ω2 (by omega) hlt h
    | brk ρ2 ω2 => rw [q] at h; exact h
    | ret x ω2 => rw [q] at h; exact h
    | exc x ρ2 ω2 => rw [q] at h; exact h
    | stuck => rw [q] at h; exact h.elim
theorem forL_all {tg : FG} {b : FS} {ds : List D} {ρ : Rho} {ω : Om} (P : Nat → Rho → Om → Prop) (h0 : P 0 ρ ω)
    (hs : ∀ i d ρ ω, ds[i]? = some d → P i ρ ω → ∃ ρ1 ρ2 ω2, tg d ρ = some ρ1 ∧ b ρ1 ω = .next ρ2 ω2 ∧ P (i + 1) ρ2 ω2) : ∃ ρ' ω', forL tg b ds ρ ω = .next ρ' ω' ∧ P ds.length ρ' ω' := by
  refine forL_rule P (fun o => ∃ ρ' ω', o = .next ρ' ω' ∧ P ds.length ρ' ω') h0 (fun i d ρ ω hd p => ?_) fun ρ ω p => ⟨ρ, ω, rfl, p⟩
  obtain ⟨ρ1, ρ2, ω2, h1, h2, h3⟩ := hs i d ρ ω hd p
  exact ⟨ρ1, h1, by rw [h2]; exact h3⟩
theorem lcL_pure {tg : FG} {tt : FE Bool} {el : FE D} {ρ : Rho} {ω : Om} (g : D → Option D) : ∀ (ds acc : List D), acc.length + ds.length ≤ lim →
    (∀ d ∈ ds, ∃ ρ1, tg d ρ = some ρ1 ∧ (match g d with
      | some y => tt ρ1 ω = .ok true ω ∧ el ρ1 ω = .ok y ω
      | none => tt ρ1 ω = .ok false ω)) → lcL tg tt el ρ ds acc ω = .ok (.lst (acc ++ ds.filterMap g)) ω
  | [], acc, _, _ => by unfold lcL; simp
  | d :: ds, acc, hl, h => by
    obtain ⟨ρ1, h1, h2⟩ := h d List.mem_cons_self
    rw [List.length_cons] at hl
    unfold lcL
    rw [h1]
    dsimp only
    cases q : g d with
    | some y =>
      rw [q] at h2
      obtain ⟨h3, h4⟩ := h2
      rw [h3]
      dsimp only
      rw [h4]
      dsimp only
      rw [if_pos (by omega), lcL_pure g ds (acc ++ [y]) (by simp; omega) fun d' hd' => h d' (List.mem_cons_of_mem _ hd')]
      simp [q]
    | none =>
      rw [q] at h2
      rw [h2]
      dsimp only
      rw [lcL_pure g ds acc (by omega) fun d' hd' => h d' (List.mem_cons_of_mem _ hd')]
      simp [q]
end Dl
namespace Dl
open PySem L2
def GivesB (op : D → D → Option D) : Prop := ∀ x y d, op x y = some d → ∃ b, d = .bl b
theorem givesB_eq : GivesB opEq := fun x y d h => by
  unfold opEq at h
  cases q : eqD x y with
  | none => rw [q] at h; cases h
  | some b => rw [q] at h; cases h; exact ⟨_, rfl⟩
theorem givesB_ne : GivesB opNe := fun x y d h => by
  unfold opNe at h
  cases q : eqD x y with
  | none => rw [q] at h; cases h
  | some b => rw [q] at h; cases h; exact ⟨_, rfl⟩
section
variable {X : Cx} {W : WX} {a b : Expr} {pos : Pos} {f : FE D} {g : FE (List D)}
end
end Dl
namespace Dl
open PySem L2
def dOk : Nat → D → Bool
  | _, .non => true
  | _, .bl _ => true
  | _, .int _ => true
  | _, .str x => PyData.strOk x
  | n + 1, .tup ds => ds.all (dOk n)
  | n + 1, .lst ds => ds.all (dOk n)
  | _, _ => false
mutual
theorem eqv_refl : ∀ p : PyData, PyData.canLay0 p = true → PyData.eqv p p = true
  | .none, _ => by simp [PyData.eqv]
  | .bool b, _ => by simp [PyData.eqv]
  | .int b, _ => by simp [PyData.eqv]
  | .str x, _ => by simp [PyData.eqv]
  | .list xs, h => by
    unfold PyData.canLay0 at h
    unfold PyData.eqv
    exact eqvAll_refl xs h
  | .tuple xs, h => by
    unfold PyData.canLay0 at h
    unfold PyData.eqv
    exact eqvAll_refl xs h
  | .dict _, h => by simp [PyData.canLay0] at h
theorem eqvAll_refl : ∀ ps : List PyData, PyData.canLayAll0 ps = true → PyData.eqvAll ps ps = true
  | [], _ => by simp [PyData.eqvAll]
  | p :: ps, h => by
    unfold PyData.canLayAll0 at h
    rw [Bool.and_eq_true] at h
    unfold PyData.eqvAll
    rw [eqv_refl p h.1, eqvAll_refl ps h.2]; rfl
end
theorem toPys_ok {n : Nat} (ih : ∀ d, dOk n d = true → ∃ p, toPy d = some p ∧ PyData.canLay0 p = true ∧ PyData.depth p ≤ n) : ∀ ds : List D, ds.all (dOk n) = true → ∃ ps, toPys ds = some ps ∧ PyData.canLayAll0 ps = true ∧ PyData.depthAll ps ≤ n
  | [], _ => ⟨[], by simp [toPys], by simp [PyData.canLayAll0], by simp [PyData.depthAll]⟩
  | d :: ds, h => by
    rw [List.all_cons, Bool.and_eq_true] at h
    obtain ⟨p, e, h1, h2⟩ := ih d h.1
    obtain ⟨ps, e', h1', h2'⟩ := toPys_ok ih ds h.2
    refine ⟨p :: ps, by simp [toPys, e, e'], by simp [PyData.canLayAll0, h1, h1'], ?_⟩
    unfold PyData.depthAll
    omega
theorem toPy_ok : ∀ (n : Nat) (d : D), dOk n d = true → ∃ p, toPy d = some p ∧ PyData.canLay0 p = true ∧ PyData.depth p ≤ n
  | _, .non, _ => ⟨.none, by simp [toPy], by simp [PyData.canLay0], by simp [PyData.depth]⟩
  | _, .bl b, _ => ⟨.bool b, by simp [toPy], by simp [PyData.canLay0], by simp [PyData.depth]⟩
  | _, .int b, _ => ⟨.int b, by simp [toPy], by simp [PyData.canLay0], by simp [PyData.depth]⟩
  | _, .str x, h => ⟨.str x, by simp [toPy], by simpa [PyData.canLay0, dOk] using h, by simp [PyData.depth]⟩
  | n + 1, .tup ds, h => by
    obtain ⟨ps, e, h1, h2⟩ := toPys_ok (toPy_ok n) ds (by simpa [dOk] using h)
    exact ⟨.tuple ps, by simp [toPy, e], by simpa [PyData.canLay0] using h1, by unfold PyData.depth; omega⟩
  | n + 1, .lst ds, h => by
    obtain ⟨ps, e, h1, h2⟩ := toPys_ok (toPy_ok n) ds (by simpa [dOk] using h)
    exact ⟨.list ps, by simp [toPy, e], by simpa [PyData.canLay0] using h1, by unfold PyData.depth; omega⟩
  | 0, .tup _, h => by simp [dOk] at h
  | 0, .lst _, h => by simp [dOk] at h
  | 0, .obj _ _, h => by simp [dOk] at h
  | 0, .dcK _, h => by simp [dOk] at h
  | 0, .dcN _, h => by simp [dOk] at h
  | _ + 1, .obj _ _, h => by simp [dOk] at h
  | _ + 1, .dcK _, h => by simp [dOk] at h
  | _ + 1, .dcN _, h => by simp [dOk] at h
theorem eqD_refl {d : D} (n : Nat) (h : dOk n d = true) (hn : n ≤ 64) : eqD d d = some true := by
  obtain ⟨p, e, h1, h2⟩ := toPy_ok n d h
  unfold eqD
  rw [e]
  have hs : SeqAt.shaped p = true := by unfold SeqAt.shaped; rw [h1, decide_eq_true (Nat.le_trans h2 hn)]; rfl
  simp [hs, eqv_refl p h1]
end Dl
namespace Dl
open PySem L2
abbrev veMro : List Value := [.type "ValueError", .type "Exception", .type "BaseException", .type "object"]
structure ErrC (K : PySem.W.Frag) (mg : MG) (x : Str) (C : Addr) : Prop where
  gl : mg x = some (.ref C)
  ex : PySem.W.excIn K C veMro "ValueError.__new__" = true
  kp : PySem.W.keepIn K (.ref C) = true
  sb : PySem.W.subIn K (.ref C) (.type "BaseException") = some true
  ty : PySem.W.typeIn K (.ref C) = some (.type "type")
structure ErrI (K : PySem.W.Frag) (mg : MG) (x : Str) (C f : Addr) : Prop where
  gl : mg x = some (.ref C)
  ox : OexC K C
  ini : PySem.W.findIn K (.ref C) "__init__" = some (some (.ref f))
  fn : PySem.W.typeIn K (.ref f) = some (.type "function")
section
variable {X : Cx} {W : WX} {x : Str} {p pos pos' : Pos} {C : Addr}
theorem pmk_err0 (T : ErrC X.K X.mg x C) (hg : Gl X x) (hdb : (x == ("__debug__" : Str)) = false := by decide) : PMk X (.Call (.Name x p) [] [] pos) (fun _ H Q => Q (.ref C) none H) := by
  intro pins s σ H Q I h
  refine wpAny_Call_Name_kw (ld_glob I hg T.gl ?_ hdb)
  refine PySem.W.callWith_K0 I.kIn T.kp ?_
  show wpAny _ _ (call (.ref C) []) _ _ _
  obtain ⟨bm, N, nm, qn, bs, hdct, sn, sub, ab, col, dd, k0, k1, k2, k3, k5, mN, hC, hN, hni, Y⟩ := exc_obj I.kIn T.ex
  refine wpAny_call_exc_subT PySem.F.excBase_ValueError Y hC hN hni (fun h' e hm => ?_) (by rw [sizeLine_eq]; decide)
  exact mk_of I hm (raises_own T.sb T.ty) h (I.hok.gone hm.new)
def sRaise (x : Str) : FS := fun ρ ω => .exc ⟨x, []⟩ ρ ω
theorem ds_raise (tk : Takes X W) (T : ErrC X.K X.mg x C) (hc : X.calm = true := by rfl) (hg : Gl X x := by rfl) (hdb : (x == ("__debug__" : Str)) = false := by decide) : Ds X W (.Raise (some (.Call (.Name x p) [] [] pos')) none pos) (sRaise x) :=
  ⟨_, ps_raise hc tk (pmk_err0 T hg hdb), fun G α ρ ω σ H D O S P => P (.ref C) none σ G α H Ext.refl O S ⟨C, T.gl, rfl, .inl ⟨rfl, rfl⟩⟩⟩
def spIni (C : Addr) : List Str → Sp
  | [f] => fun vs H Q _ => ∃ a v, vs = [.ref a, v] ∧ H a = some (exo a C none) ∧ ∀ dx, H dx = none → dx ≠ a → Q .non (L2.upd (L2.upd H dx (exd dx [(f, v)])) a (exo a C (some dx)))
  | [f, g] => fun vs H Q _ => ∃ a v u, vs = [.ref a, v, u] ∧ H a = some (exo a C none) ∧ ∀ dx, H dx = none → dx ≠ a → Q .non (L2.upd (L2.upd (L2.upd H dx (exd dx [(f, v)])) a (exo a C (some dx))) dx (exd dx [(g, u), (f, v)]))
  | _ => fun _ _ _ _ => False
def sRaiseI (x : Str) (fls : List Str) (g : FE (List SV)) : FS := fun ρ ω => (g ρ ω).out ρ fun xs ω1 => match allD xs with
  | some ds => if ds.length = fls.length then .exc ⟨x, (fls.zip ds).reverse⟩ ρ ω1 else .stuck
  | none => .stuck
theorem upd_xd {H : Hp} {a dx : Addr} {o1 o2 o3 u : HO} (ha : H a = none) (ne : dx ≠ a) : L2.upd (L2.del (L2.upd (L2.upd (L2.upd H a o1) dx o2) a o3) a) dx u = L2.upd H dx u := by
  funext b
  by_cases h1 : b = dx
  · subst h1; rw [upd_same, upd_same]
  · rw [upd_ne h1, upd_ne h1]
    by_cases h2 : b = a
    · subst h2; rw [del_same, ha]
    · rw [del_ne h2, upd_ne h2, upd_ne h1, upd_ne h2]
theorem upd_xd2 {H : Hp} {a dx : Addr} {o1 o2 o3 o4 u : HO} (ha : H a = none) (ne : dx ≠ a) : L2.upd (L2.del (L2.upd (L2.upd (L2.upd (L2.upd H a o1) dx o2) a o3) dx o4) a) dx u = L2.upd H dx u := by
  funext b
  by_cases h1 : b = dx
  · subst h1; rw [upd_same, upd_same]
  · rw [upd_ne h1, upd_ne h1]
    by_cases h2 : b = a
    · subst h2; rw [del_same, ha]
    · rw [del_ne h2, upd_ne h1, upd_ne h2, upd_ne h1, upd_ne h2]
variable {f : Addr} {k : Nat} {fd : FuncData} {ps fls : List Str} {e : Expr} {es : List Expr} {g : FE (List SV)}
theorem ini_post {sp : Sp} {K : PySem.W.Frag} {mg : MG} {G H : Hp} {α : List Addr} {ω : Om} {vs : List V} {ds : List D} {Q : XK} (hsp : sp = spIni C fls) (hl : ds.length = fls.length) (h2 : fls.length = 1 ∨ fls.length = 2) (O : Own K mg G α ω H) (r : Reps K mg G ds vs)
    (hQ : ∀ dx fvs, H dx = none → RepF K mg (L2.upd G dx (.xd fvs)) (fls.zip ds).reverse fvs → Q (.ref C) (some dx) (L2.upd H dx (.xd fvs))) :
    vs.length ≤ 1000 ∧ ∀ a, H a = none → sp (.ref a :: (vs ++ [])) (L2.upd H a (exo a C none))
      (fun v H2 => v = .non ∧ ∃ (d : Addr) (fs : List (Str × V)), H2 a = some (exo a C (some d)) ∧ H2 d = some (exd d fs) ∧ H d = none ∧ Q (.ref C) (some d) (L2.upd (L2.del H2 a) d (.xd fs))) (fun _ _ _ => False) := by
  subst hsp
  have hv := r.length
  refine ⟨by omega, fun a ha => ?_⟩
  rw [List.append_nil]
  match fls, ds, hl, h2 with
  | [f1], [d1], _, _ =>
    obtain ⟨v1, rfl, r1⟩ := reps1 r
    refine ⟨a, v1, rfl, upd_same, fun dx hx ne => ⟨rfl, dx, [(f1, v1)], upd_same, ?_, ?_, ?_⟩⟩
    · rw [upd_ne ne, upd_same]
    · rw [upd_ne ne] at hx; exact hx
    · rw [upd_ne ne] at hx
      rw [upd_xd ha ne]
      exact hQ dx _ hx (repF_cons.mpr ⟨v1, [], rfl, Rep.mono (Same.upd (O.sub.free hx)) _ _ r1, repF_nil.mpr rfl⟩)
  | [f1, f2], [d1, d2], _, _ =>
    obtain ⟨v1, v2, rfl, r1, r2⟩ := reps2 r
    refine ⟨a, v1, v2, rfl, upd_same, fun dx hx ne => ⟨rfl, dx, [(f2, v2), (f1, v1)], ?_, upd_same, ?_, ?_⟩⟩
    · rw [upd_ne (Ne.symm ne), upd_same]
    · rw [upd_ne ne] at hx; exact hx
    · rw [upd_ne ne] at hx
      rw [upd_xd2 ha ne]
      have s := Same.upd (H := G) (p := dx) (o := .xd [(f2, v2), (f1, v1)]) (O.sub.free hx)
      exact hQ dx _ hx (repF_cons.mpr ⟨v2, _, rfl, Rep.mono s _ _ r2, repF_cons.mpr ⟨v1, [], rfl, Rep.mono s _ _ r1, repF_nil.mpr rfl⟩⟩)
  | [], _, _, .inl z => simp at z
  | [], _, _, .inr z => simp at z
theorem ds_raiseI (tk : Takes X W) (T : ErrI X.K X.mg x C f) (F : FnOk X.prog X.w X.K X.mg X.base (L2.CX X.prog X.w) k f fd ps (spIni C fls)) (hr : Room (k + 1) X.A) (hb : Binds X.K fd ps []) (h : Da X W (e :: es) g) (h2 : fls.length = 1 ∨ fls.length = 2 := by decide) (hc : X.calm = true := by rfl) (hg : Gl X x := by rfl)
    (hdb : (x == ("__debug__" : Str)) = false := by decide) (he : starEach (e :: es) X.env = (false, eval e X.env) :: starEach es X.env := by rfl) (hpl : (backTo pos' (starEach es X.env)).any (·.1) = false := by rfl) :
    Ds X W (.Raise (some (.Call (.Name x p) (e :: es) [] pos')) none pos) (sRaiseI x fls g) := by
  obtain ⟨t, q, j⟩ := h
  refine ⟨_, ps_raise hc tk (pmk_oex (dvs := []) T.ox T.ini T.fn F hr hb .nil (passes_call tk fun _ _ _ _ z => z.elim) hg T.gl q hdb he hpl), fun G α ρ ω σ H D O S P => ?_⟩
  refine PostS.step S (t := t σ H) (j G α ρ ω σ H · O S) P fun xs ω1 vs G1 α1 H1 e1 O1 r1 P1 => ?_
  cases q1 : allD xs with
  | none => rw [q1] at P1; exact P1.elim
  | some ds =>
    rw [q1] at P1
    dsimp only at P1
    split at P1
    · rename_i hl
      refine ini_post (C := C) (Q := fun cls d H' => W cls d σ H') rfl hl h2 O1 (allD_reps q1 r1) fun dx fvs hx rf => ?_
      have gr := Grow.put (o := HO.xd fvs) O1.sub hx
      exact P1 (.ref C) (some dx) σ _ α1 _ gr.ext (O1.grow gr) ((S.mono e1).mono (gr.ext (α := α1))) ⟨C, T.gl, rfl, .inr ⟨dx, fvs, rfl, upd_same, rf⟩⟩
    · exact P1.elim
end
section
variable {P : Program} {w : World} {K : PySem.W.Frag} {mg : MG} {base : Heap}
theorem ini_ok2 {x qual : Str} {st : Stmt} {f C : Addr} {fd : FuncData} {fl fl2 a1 a2 : Str} {p1 p2 p3 p4 p5 p6 p7 p8 : Pos} (F : Fun K x qual st f fd) (S : FnScope ["self", a1, a2] ["self", a1, a2] (defScope st)) (ox : OexC K C) (no : PySem.W.findIn K (.ref C) fl = some none) (no2 : PySem.W.findIn K (.ref C) fl2 = some none)
    (hb : defBody st = [.Assign [.Attribute (.Name "self" p1) fl p2] (.Name a1 p3) p4, .Assign [.Attribute (.Name "self" p5) fl2 p6] (.Name a2 p7) p8])
    (hp : ∀ (cdv : Value) (A : Around) (outer : List Env) (s : Shared) (H : Hp) (E : XK), ∃ te, PS (cxOf (L2.CX P w) P w K mg base ["self", a1, a2] qual (defScope st) f cdv A outer s H E) (.Assign [.Attribute (.Name "self" p1) fl p2] (.Name a1 p3) p4) (tOst K fl (tVar 0) (tVar te)) ∧ te = 1)
    (hp2 : ∀ (cdv : Value) (A : Around) (outer : List Env) (s : Shared) (H : Hp) (E : XK), ∃ te, PS (cxOf (L2.CX P w) P w K mg base ["self", a1, a2] qual (defScope st) f cdv A outer s H E) (.Assign [.Attribute (.Name "self" p5) fl2 p6] (.Name a2 p7) p8) (tOst K fl2 (tVar 0) (tVar te)) ∧ te = 2) :
    FnOk P w K mg base (L2.CX P w) 1 f fd ["self", a1, a2] (spIni C [fl, fl2]) := by
  refine F.okX (k := 0) S (fun vs H Q E h => ?_) (fun cdv A outer s H vs Q E hr h => ?_)
  · obtain ⟨a, v, u, rfl, _⟩ := h; rfl
  · obtain ⟨a, v, u, rfl, ha, q⟩ := h
    obtain ⟨_, t, rfl⟩ := hp cdv A outer s H E
    obtain ⟨_, t2, rfl⟩ := hp2 cdv A outer s H E
    rw [hb]
    refine ⟨_, pss_cons t (pss_one t2), v, rfl, .ref a, rfl, a, C, rfl, ox, no, .inl ⟨ha, fun dx h1 h2 => ?_⟩⟩
    exact ⟨u, rfl, .ref a, rfl, a, C, rfl, ox, no2, .inr ⟨dx, [(fl, v)], upd_same, by rw [upd_ne h2, upd_same], by show 1 ≤ 900; decide, q dx h1 h2⟩⟩
end
end Dl
namespace Dl
open PySem L2 PySem.Spec PyProof.Rows
abbrev TSu := Addr → Value → Option Addr → TS
def wAll (K : PySem.W.Frag) (Wo : WX) (D : Ends) (i : Nat) : List (Value × TSu) → WX
  | [] => Wo
  | (c, ts) :: r => fun cls d σ H => ∃ b, PySem.W.exmOne K cls c = some b ∧
      (b = true → ∀ a, H a = none → ts a cls d ⟨fun σ' H' => D.nx (σ'.set i none) H', D.rt, fun σ' H' => D.bk (σ'.set i none) H', fun σ' H' => D.ct (σ'.set i none) H'⟩ (σ.set i (some (.ref a))) H) ∧ (b = false → wAll K Wo D i r cls d σ H)
abbrev SuAt (X : Cx) (b : List Stmt) (ts : TSu) : Prop := ∀ (a : Addr) (oe : Obj) (cls : Value) (d : Option Addr) (pn : List (Addr × Obj)), Zc cls d oe → (∃ vs, oe.data = .fields vs) → PSs (X.suite a ((a, oe) :: pn)) b (ts a cls d)
inductive Cls1 (X : Cx) (n : Str) : List ExceptHandler → List (Value × TSu) → Prop
  | nil : Cls1 X n [] []
  | cons {x : Str} {c : Value} {ts : TSu} {b : Stmt} {su : List Stmt} {p1 p2 : Pos} {hds : List ExceptHandler} {l : List (Value × TSu)} (hc : Names X x c) (hsu : SuAt X (b :: su) ts) (r : Cls1 X n hds l) :
      Cls1 X n (.ExceptHandler (some (.Name x p1)) (some n) (b :: su) p2 :: hds) ((c, ts) :: l)
section
variable {X : Cx} {n : Str} {i : Nat} {body : List Stmt} {h₀ : ExceptHandler} {hds : List ExceptHandler} {l : List (Value × TSu)} {pos : Pos} {tb : WX → TS} {Wo : WX}
theorem ps_try_all (hs : X.stack = X.env :: X.outer) (hf : X.env.frame = some X.env.locals) (hN : X.N.Nodup) (hi : X.N[i]? = some n) (hln : X.env.kindOf n = some .local) (tk : Takes X Wo)
    (hb : ∀ (W : WX) (pn : List (Addr × Obj)) (xe : Value → Shared → Prop), Takes (X.tr pn xe) W → PassesOwn (model X.prog X.w) X.A X.env xe → PSs (X.tr pn xe) body (tb W))
    (hh : Cls1 X n (h₀ :: hds) l) : PS X (.Try body (h₀ :: hds) [] [] pos) (fun D σ H => tb (wAll X.K Wo D i l) D σ H) := by
  refine ⟨fun pins s σ H D I h => ?_⟩
  have ok := I.ok
  have hfr : X.A.frames = some (X.env :: X.outer) := by rw [ok.frames, hs]
  refine wpAny_Try_except ?_
  refine wpAny_mono ((hb (wAll X.K Wo D i l) (X.pn ++ pins) (fun e s1 => wpAny (model X.prog X.w) X.A (noteFrame e X.env) (fun _ s2 => wpAny (model X.prog X.w) X.A (setFlight e none) (fun _ s3 =>
    wpAny (model X.prog X.w) X.A (handleBy e X.env (h₀ :: hds)) (SP X pins D) X.xe s3) X.xe s2) X.xe s1) (fun u s' xx => ?_) PassesOwn.looking).run [] s σ H D (I.toTry _) h) (fun f s1 q => ?_) (fun e s1 he => he)
  · obtain ⟨a, B, sI, pins', σ1, H1, cls, d, rfl, J0, nb, up, sky, na, os, ag, w⟩ := xx
    have J : Inv X pins σ1 H1 sI := J0.ofTry ok
    rw [hs] at sky
    show wpAny (model X.prog X.w) X.A (noteFrame (.ref a) X.env) _ _ _
    refine Sky.land Zc.steady hfr hf sky fun h3 fl3 up3 => ?_
    have J3 : Inv X pins σ1 H1 { s' with heap := h3 } := J.landed nb fl3.1 (up.trans up3) os ag
    obtain ⟨oe3, vs3, he3, hz3, hd3⟩ := fl3.there
    have nfr : a ∉ frs (X.env :: X.outer) := fun hm => by
      obtain ⟨_, o', e', hnf⟩ := fl3.2.2.1.mem hm
      rw [he3] at e'; cases e'
      exact hnf _ hd3
    have nL : a ≠ X.env.locals := fun z => nfr (List.mem_filterMap.mpr ⟨X.env, List.mem_cons_self, by rw [hf, z]⟩)
    have nF : a ∉ X.fs := fun hm => by
      obtain ⟨e, he, q⟩ := List.mem_filterMap.mp hm
      exact nfr (List.mem_filterMap.mpr ⟨e, List.mem_cons_of_mem _ he, q⟩)
    have S3 := J3.suite he3 hd3 na nL nF
    have go : ∀ {hs1 : List ExceptHandler} {l1 : List (Value × TSu)}, Cls1 X n hs1 l1 → wAll X.K Wo D i l1 cls d σ1 H1 → wpAny (model X.prog X.w) X.A (handleBy (.ref a) X.env hs1) (SP X pins D) X.xe { s' with heap := h3 } := by
      intro hs1 l1 hk
      induction hk with
      | nil =>
        intro w
        refine wpAny_handleBy_nil ?_
        obtain ⟨k1, k2, k3, oe, vs, T, oT, ts', he, hz, hd, h1, hr⟩ := id fl3
        unfold PySem.passOn
        refine wpAny_bind (wpAny_field he hd h1 ?_)
        rw [if_neg (by simp)]
        have fin : wpAny (model X.prog X.w) X.A (setFlight (.ref a) X.env.frame) (fun _ s4 => wpAny (model X.prog X.w) X.A (throw (.ref a) : Sem Flow) (SP X pins D) X.xe s4) X.xe { s' with heap := h3 } := by
          rw [hf]
          refine HandSPX.setFlight_upZ fl3 fun h4 hh4 up4 => wpAny_throw (tk _ _ ?_)
          exact ⟨a, B, sI, pins, σ1, H1, cls, d, rfl, J, nb, (up.trans up3).trans up4, .inr (.inr (by rw [hs]; exact hh4)), na, os, ag, w⟩
        first | exact wpAny_bind (wpAny_pure (wpAny_bind fin)) | exact wpAny_bind fin
      | @cons x c ts b su p1 p2 hds2 l2 hc hsu r ih =>
        intro w
        obtain ⟨t, ht, yes, no⟩ := w
        refine wpAny_handleBy_cons (codeAny_handlers_test ?_) (by intro q; cases q)
        have LT : PySem.W.Looks (model X.prog X.w) h3 (typeOf (.ref a)) cls := fun A Q E s k q => wpAny_typeOf_ref (k _ _ he3) (by rw [hz3.1]; exact q)
        have LM := PySem.W.exm_one (M := model X.prog X.w) (J3.kIn) LT ht
        have test : ∀ {Q E : Value → Shared → Prop}, Q c { s' with heap := h3 } → wpAny (model X.prog X.w) (X.A.mark (some (.ref a))) (eval (.Name x p1) X.env) Q E { s' with heap := h3 } := fun {Q E} q => by
          obtain ⟨hg, hdbg, hm | ⟨hm, hv, hnn⟩⟩ := hc
          · exact ld_glob (X := X.suite a ((a, oe3) :: (X.pn ++ pins))) S3 hg hm q hdbg
          · exact ld_blt (X := X.suite a ((a, oe3) :: (X.pn ++ pins))) S3 hg hm hv q hnn hdbg
        refine test (LM.here ?_)
        cases t with
        | true =>
          refine codeAny_handlers_suite_as ?_
          refine HandSPX.lands_againZ fl3 fun h4 fl4 up4 => ?_
          have J4 : Inv X pins σ1 H1 { s' with heap := h4 } := J.landed nb fl4.1 ((up.trans up3).trans up4) os ag
          obtain ⟨oe4, vs4, he4, hz4, hd4⟩ := fl4.there
          have S4 := J4.suite he4 hd4 na nL nF
          refine store_ok (X := X.suite a ((a, oe4) :: (X.pn ++ pins))) (v := .ref a) S4 hN hi (.inl hln) rfl (fun s5 S5 => ?_) (.inr hln)
          refine wpAny_mono ((hsu a oe4 cls d (X.pn ++ pins) hz4 ⟨_, hd4⟩).run [] s5 _ H1 _ S5 (yes rfl a na)) (fun f s6 q => ?_) (fun _ _ z => False.elim z)
          have end_ : ∀ {σ6 : L2.St} {H6 : Hp} {Q : Shared → Prop}, Inv (X.suite a ((a, oe4) :: (X.pn ++ pins))) [] σ6 H6 s6 → (∀ s7, Inv X pins (σ6.set i none) H6 s7 → Q s7) →
              wpAny (model X.prog X.w) X.A (do bindName X.env n .none; unbindBehindTheSuite X.env n p2) (fun _ s7 => Q s7) X.xe s6 := fun {σ6 H6 Q} S6 hq => gone_ok (S6.unsuite ok) hN hi hln hq
          cases f with
          | next => obtain ⟨σ6, H6, S6, q6⟩ := q; exact end_ S6 fun s7 J7 => ⟨_, _, J7, q6⟩
          | brk => obtain ⟨σ6, H6, S6, q6⟩ := q; exact end_ S6 fun s7 J7 => ⟨_, _, J7, q6⟩
          | cont => obtain ⟨σ6, H6, S6, q6⟩ := q; exact end_ S6 fun s7 J7 => ⟨_, _, J7, q6⟩
          | ret u => obtain ⟨v6, σ6, H6, S6, r6, q6⟩ := q; exact end_ S6 fun s7 J7 => ⟨_, _, _, J7, r6, q6⟩
        | false =>
          show wpAny _ X.A (handleBy (.ref a) X.env hds2) _ _ _
          exact ih (no rfl)
    exact go hh w
  · cases f with
    | next => obtain ⟨σ1, H1, J1, q⟩ := q; exact wpAny_execs_nil ⟨σ1, H1, J1.ofTry ok, q⟩
    | brk => obtain ⟨σ1, H1, J1, q⟩ := q; exact ⟨σ1, H1, J1.ofTry ok, q⟩
    | cont => obtain ⟨σ1, H1, J1, q⟩ := q; exact ⟨σ1, H1, J1.ofTry ok, q⟩
    | ret u => obtain ⟨v, σ1, H1, J1, r, q⟩ := q; exact ⟨v, σ1, H1, J1.ofTry ok, r, q⟩
end
def subX (x c : Str) : Bool := x == c || c == "StripError" || c == "ValueError"
def unbind (i : Nat) : Out → Out
  | .next ρ ω => .next (ρ.set i none) ω
  | .brk ρ ω => .brk (ρ.set i none) ω
  | .cont ρ ω => .cont (ρ.set i none) ω
  | .ret x ω => .ret x ω
  | _ => .stuck
def tryH (i : Nat) (x : Exn) (ρ : Rho) (ω : Om) : List (Str × (Exn → FS)) → Out
  | [] => .exc x ρ ω
  | (c, f) :: r => if subX x.cls c = true then unbind i (f x (ρ.set i none) ω) else tryH i x ρ ω r
def tryO (nms : List Str) (i : Nat) (hs : List (Str × (Exn → FS))) : Out → Out
  | .exc x ρ ω => if nms.contains x.cls = true ∧ i < ρ.length then tryH i x ρ ω hs else .stuck
  | o => o
def sTry (nms : List Str) (i : Nat) (b : FS) (hs : List (Str × (Exn → FS))) : FS := fun ρ ω => tryO nms i hs (b ρ ω)
def tSu (K : PySem.W.Frag) (mg : MG) (nms : List Str) (i : Nat) (f : Exn → FS) : TSu := fun a cls d D σ H => ∃ G α ρ ω x, nms.contains x.cls = true ∧ Own K mg G α ω H ∧ Slots K mg G α ρ σ ∧ σ[i]? = some (some (.ref a)) ∧ RepX K mg G x cls d ∧ PostS K mg G α H D W0 (f x ρ ω)
def SuOk (X : Cx) (nms : List Str) (i : Nat) (b : List Stmt) (f : Exn → FS) : Prop := SuAt X b (tSu X.K X.mg nms i f)
def Catches (K : PySem.W.Frag) (mg : MG) (nms : List Str) (c : Str) (C : Addr) : Prop := ∀ n ∈ nms, ∃ D, mg n = some (.ref D) ∧ PySem.W.exmOne K (.ref D) (.ref C) = some (subX n c)
inductive Hds (X : Cx) (nms : List Str) (n : Str) (i : Nat) : List ExceptHandler → List (Str × (Exn → FS)) → Prop
  | nil : Hds X nms n i [] []
  | cons {x : Str} {C : Addr} {f : Exn → FS} {b : Stmt} {su : List Stmt} {p1 p2 : Pos} {hds : List ExceptHandler} {l : List (Str × (Exn → FS))} (hg : Gl X x) (hd : (x == ("__debug__" : Str)) = false) (hm : X.mg x = some (.ref C)) (hx : Catches X.K X.mg nms x C) (hsu : SuOk X nms i (b :: su) f) (r : Hds X nms n i hds l) :
      Hds X nms n i (.ExceptHandler (some (.Name x p1)) (some n) (b :: su) p2 :: hds) ((x, f) :: l)
section
variable {X : Cx} {W : WX} {n : Str} {i : Nat} {nms : List Str} {body : List Stmt} {h₀ : ExceptHandler} {hds : List ExceptHandler} {l : List (Str × (Exn → FS))} {pos : Pos} {fb : FS}
theorem Slots.setA {K : PySem.W.Frag} {mg : MG} {G : Hp} {α : List Addr} {ρ : Rho} {σ : L2.St} (S : Slots K mg G α ρ σ) (i : Nat) (v : Option V) : Slots K mg G α (ρ.set i none) (σ.set i v) := by
  refine ⟨by rw [List.length_set, List.length_set]; exact S.len, fun j x h => ?_⟩
  by_cases e : i = j
  · subst e
    rw [List.getElem?_set] at h
    simp at h
  · rw [List.getElem?_set_ne e] at h
    obtain ⟨v, h1, h2⟩ := S.val j x h
    exact ⟨v, by rw [List.getElem?_set_ne e]; exact h1, h2⟩
def tBody (K : PySem.W.Frag) (mg : MG) (f : FS) (W : WX) : TS := fun D σ H => ∃ G α ρ ω, Own K mg G α ω H ∧ Slots K mg G α ρ σ ∧ PostS K mg G α H D W (f ρ ω)
theorem can_ss (h : Dss X W body fb) : PSs X body (tBody X.K X.mg fb W) := by
  obtain ⟨t, p, k⟩ := h
  exact ⟨fun pins s σ H D I ⟨G, α, ρ, ω, O, S, P⟩ => p.run pins s σ H D I (k G α ρ ω σ H D O S P)⟩
theorem unbind_post {K : PySem.W.Frag} {mg : MG} {G H : Hp} {α : List Addr} {D : Ends} : ∀ {o : Out}, PostS K mg G α H D W (unbind i o) →
    PostS K mg G α H ⟨fun σ' H' => D.nx (σ'.set i none) H', D.rt, fun σ' H' => D.bk (σ'.set i none) H', fun σ' H' => D.ct (σ'.set i none) H'⟩ W0 o
  | .stuck, h => h
  | .exc _ _ _, h => h.elim
  | .next ρ ω, h => fun σ' G' α' H' e O S => h _ G' α' H' e O (S.setA i none)
  | .brk ρ ω, h => fun σ' G' α' H' e O S => h _ G' α' H' e O (S.setA i none)
  | .cont ρ ω, h => fun σ' G' α' H' e O S => h _ G' α' H' e O (S.setA i none)
  | .ret x ω, h => h
def lTs (K : PySem.W.Frag) (mg : MG) (nms : List Str) (i : Nat) : List (Str × (Exn → FS)) → List (Value × TSu)
  | [] => []
  | (c, f) :: r => ((mg c).getD .none, tSu K mg nms i f) :: lTs K mg nms i r
theorem Hds.cls {hds : List ExceptHandler} {l : List (Str × (Exn → FS))} (h : Hds X nms n i hds l) : Cls1 X n hds (lTs X.K X.mg nms i l) := by
  induction h with
  | nil => exact .nil
  | cons hg hd hm hx hsu r ih =>
    unfold lTs
    rw [hm]
    exact .cons ⟨hg, hd, .inl hm⟩ hsu ih
theorem hds_post {D : Ends} {x : Exn} {cls : Value} {dd : Option Addr} {G H : Hp} {α : List Addr} {ρ : Rho} {ω : Om} {σ : L2.St} (hil : i < ρ.length) (hn : nms.contains x.cls = true) (O : Own X.K X.mg G α ω H) (S : Slots X.K X.mg G α ρ σ) (r : RepX X.K X.mg G x cls dd) {hds : List ExceptHandler} {l : List (Str × (Exn → FS))} (h : Hds X nms n i hds l)
    (P : PostS X.K X.mg G α H D W (tryH i x ρ ω l)) : wAll X.K W D i (lTs X.K X.mg nms i l) cls dd σ H := by
  induction h with
  | nil => exact P cls dd σ G α H Ext.refl O S r
  | @cons c C f b su p1 p2 hds l hg hd hm hx hsu t ih =>
    unfold lTs wAll
    obtain ⟨E, hE, hs⟩ := hx x.cls (List.contains_iff_mem.mp hn)
    obtain ⟨E', hE', rfl, r'⟩ := id r
    rw [hE'] at hE; cases hE
    refine ⟨_, by rw [hm]; exact hs, fun hb a ha => ?_, fun hb => ?_⟩
    · unfold tryH at P
      rw [if_pos hb] at P
      refine ⟨G, α, ρ.set i none, ω, x, hn, O, S.setA i _, ?_, r, unbind_post P⟩
      rw [List.getElem?_set_self (by rw [S.len]; exact hil)]
    · unfold tryH at P
      rw [if_neg (by rw [hb]; decide)] at P
      exact ih P
theorem ds_try (tk : Takes X W) (hs : X.stack = X.env :: X.outer := by rfl) (hf : X.env.frame = some X.env.locals := by rfl) (hN : X.N.Nodup) (hi : X.N[i]? = some n := by rfl) (hln : X.env.kindOf n = some .local := by rfl)
    (hb : ∀ (W : WX) (pn : List (Addr × Obj)) (xe : Value → Shared → Prop), Takes (X.tr pn xe) W → PassesOwn (model X.prog X.w) X.A X.env xe → Dss (X.tr pn xe) W body fb)
    (hh : Hds X nms n i (h₀ :: hds) l) : Ds X W (.Try body (h₀ :: hds) [] [] pos) (sTry nms i fb l) := by
  refine ⟨_, ps_try_all (tb := tBody X.K X.mg fb) hs hf hN hi hln tk (fun W' pn xe tk' hp => can_ss (hb W' pn xe tk' hp)) hh.cls, fun G α ρ ω σ H D O S P => ⟨G, α, ρ, ω, O, S, ?_⟩⟩
  unfold sTry at P
  cases q : fb ρ ω with
  | stuck => rw [q] at P; exact P
  | next _ _ => rw [q] at P; exact P
  | brk _ _ => rw [q] at P; exact P
  | cont _ _ => rw [q] at P; exact P
  | ret _ _ => rw [q] at P; exact P
  | exc x ρ1 ω1 =>
    rw [q] at P
    unfold tryO at P
    intro c dd σ' G' α' H' e O' S' r
    by_cases hn : nms.contains x.cls = true ∧ i < ρ1.length
    · dsimp only at P
      rw [if_pos hn] at P
      exact hds_post hn.2 hn.1 O' S' r hh (PostS.weak e P)
    · dsimp only at P
      rw [if_neg hn] at P
      exact P.elim
end
end Dl
namespace Dl
open PySem L2
structure ErrX (K : PySem.W.Frag) (mg : MG) (x : Str) (C : Addr) : Prop where
  gl : mg x = some (.ref C)
  xc : ExcC K C
  ty : PySem.W.typeIn K (.ref C) = some (.type "type")
  self : PySem.W.subIn K (.ref C) (.ref C) = some true
section
variable {K : PySem.W.Frag} {mg : MG} {x c : Str} {C D : Addr} {nms : List Str}
theorem ErrX.exm (T : ErrX K mg c C) {b : Bool} (h : PySem.W.subIn K (.ref D) (.ref C) = some b) : PySem.W.exmOne K (.ref D) (.ref C) = some b := PySem.W.exm_ref T.xc.hs T.xc.hd T.ty h
theorem ErrX.kit (T : ErrX K mg c C) {b : Bool} (h : PySem.W.subIn K (.ref D) (.ref C) = some b) : PySem.W.kitOne K (.ref D) (.ref C) = some b := by
  obtain ⟨cd, hc, _⟩ := PySem.W.any_some T.xc.hd
  have e2 : ((PySem.W.clsIn K C).isSome && PySem.W.typeIn K (.ref C) == some (.type "type")) = true := by rw [hc, T.ty] <;> rfl
  unfold PySem.W.kitOne
  by_cases e : ((Value.ref D == Value.ref C) = true)
  · rw [if_pos e]
    have := Value.ref.inj (beq_iff_eq.mp e)
    subst this
    rw [T.self] at h
    exact h
  · rw [if_neg e]
    unfold PySem.W.kitCls
    dsimp only
    rw [if_pos e2]
    exact h
theorem catches_nil : Catches K mg [] c C := fun n h => by cases h
theorem catches_cons (T : ErrX K mg c C) (N : ErrX K mg x D) (h : PySem.W.subIn K (.ref D) (.ref C) = some (subX x c)) (r : Catches K mg nms c C) : Catches K mg (x :: nms) c C := fun n hn => by
  rcases List.mem_cons.mp hn with rfl | hn
  · exact ⟨D, N.gl, T.exm h⟩
  · exact r n hn
def Isx (K : PySem.W.Frag) (mg : MG) (nms : List Str) (c : Str) (C : Value) : Prop := ∀ n ∈ nms, ∃ D, mg n = some (.ref D) ∧ ExcC K D ∧ PySem.W.kitOne K (.ref D) C = some (subX n c)
theorem isx_nil {v : Value} : Isx K mg [] c v := fun n h => by cases h
theorem isx_cons (T : ErrX K mg c C) (N : ErrX K mg x D) (h : PySem.W.subIn K (.ref D) (.ref C) = some (subX x c)) (r : Isx K mg nms c (.ref C)) : Isx K mg (x :: nms) c (.ref C) := fun n hn => by
  rcases List.mem_cons.mp hn with rfl | hn
  · exact ⟨D, N.gl, N.xc, T.kit h⟩
  · exact r n hn
end
def rIsX (K : PySem.W.Frag) (a : Addr) (cls : Value) (d : Option Addr) : List V → Hp → VK → Prop := fun xs H Q => ∃ (c : V) (cv : Value) (D : Addr) (b : Bool), xs = [.ref a, c] ∧ (∀ u, RelV c u → u = cv) ∧ cls = .ref D ∧ ExcC K D ∧ PySem.W.kitOne K (.ref D) cv = some b ∧
  (d = none ∨ ∃ dd fs, d = some dd ∧ H dd = some (.xd fs)) ∧ Q (.bl b) H
theorem call_isX {X : Cx} {a : Addr} {cls : Value} {d : Option Addr} {oe : Obj} {pn : List (Addr × Obj)} (hz : Zc cls d oe) (hf : ∃ vs, oe.data = .fields vs) : CallR (X.suite a ((a, oe) :: pn)) (.builtin "isinstance") (rIsX X.K a cls d) := by
  intro pins s σ H xs us Q I r h
  obtain ⟨c, cv, D, b, rfl, hcv, rfl, C, e, hd, q⟩ := h
  cases r with
  | cons rx rr =>
    cases rr with
    | cons rt rr =>
      cases rr
      cases rx
      have ec := hcv _ rt
      subst ec
      obtain ⟨hget, _⟩ := I.pin (a, oe) (List.mem_append.mpr (.inl List.mem_cons_self))
      obtain ⟨vs, hv⟩ := hf
      have hcl : (PySem.W.clsIn X.K D).isSome = true := by
        obtain ⟨cd, hc, _⟩ := PySem.W.any_some C.hd
        rw [hc]; rfl
      have J : ∃ od, PySem.W.InstAt s.heap a oe D od := by
        rcases hd with rfl | ⟨dd, fs, rfl, hx⟩
        · refine ⟨none, ?_⟩
          obtain ⟨oc, od, oda, osl⟩ := oe
          obtain ⟨h1, h2⟩ := hz
          dsimp only at h1 h2 hv
          subst h1 h2 hv
          exact ⟨hget, rfl, rfl, trivial⟩
        · have hk : ObjOk X.prog X.w H s.heap dd (.xd fs) := I.hok dd _ hx
          obtain ⟨mA, hns, hr⟩ := hk
          obtain ⟨od, ho, hl⟩ := lookIn_ns hns
          exact ⟨some od, hget, hz.1, by unfold PySem.W.notCls; rw [hv] <;> rfl, by rw [hz.2]; exact ho⟩
      obtain ⟨od, J⟩ := J
      exact PySem.W.kia_one (PySem.W.kitx_exc hcl C.hg C.hk C.hs C.ha C.hn C.ht C.hm) I.kIn J e (fun z => nomatch z) fun tk => ⟨.bl b, H, I.kept (t' := tk) fun _ _ z => z, rfl, q⟩
theorem Res.bind_assoc {β γ δ : Type} (r : Res β) (f : β → Om → Res γ) (g : γ → Om → Res δ) : (r.bind f).bind g = r.bind fun b ω => (f b ω).bind g := by cases r <;> rfl
def tDx (K : PySem.W.Frag) (mg : MG) (nms : List Str) (i : Nat) (f : Exn → FE D) (a : Addr) (cls : Value) (d : Option Addr) : TE := fun σ H Q => ∃ G α ρ ω x, nms.contains x.cls = true ∧ Own K mg G α ω H ∧ Slots K mg G α ρ σ ∧ σ[i]? = some (some (.ref a)) ∧ RepX K mg G x cls d ∧ Post K mg (RD K mg) G α H Q (fun _ _ _ => False) (f x ρ ω)
def Dx (X : Cx) (nms : List Str) (i : Nat) (e : Expr) (f : Exn → FE D) : Prop := ∀ (a : Addr) (oe : Obj) (cls : Value) (d : Option Addr) (pn : List (Addr × Obj)), Zc cls d oe → (∃ vs, oe.data = .fields vs) → PE (X.suite a ((a, oe) :: pn)) e (tDx X.K X.mg nms i f a cls d)
def tDxA (K : PySem.W.Frag) (mg : MG) (nms : List Str) (i : Nat) (f : Exn → FE (List SV)) (a : Addr) (cls : Value) (d : Option Addr) : TA := fun σ H Q => ∃ G α ρ ω x, nms.contains x.cls = true ∧ Own K mg G α ω H ∧ Slots K mg G α ρ σ ∧ σ[i]? = some (some (.ref a)) ∧ RepX K mg G x cls d ∧ Post K mg (RA K mg) G α H Q (fun _ _ _ => False) (f x ρ ω)
def DxA (X : Cx) (nms : List Str) (i : Nat) (es : List Expr) (f : Exn → FE (List SV)) : Prop := ∀ (a : Addr) (oe : Obj) (cls : Value) (d : Option Addr) (pn : List (Addr × Obj)), Zc cls d oe → (∃ vs, oe.data = .fields vs) → PA (X.suite a ((a, oe) :: pn)) es (tDxA X.K X.mg nms i f a cls d)
section
variable {X : Cx} {nms : List Str} {i : Nat} {e a b c : Expr} {es : List Expr} {pos p p1 p2 : Pos} {n s : Str}
theorem dx_of {f : FE D} (h : ∀ (a : Addr) (oe : Obj) (pn : List (Addr × Obj)), De (X.suite a ((a, oe) :: pn)) W0 e f) : Dx X nms i e (fun _ => f) := by
  intro a oe cls d pn hz hf
  obtain ⟨t, q, k⟩ := h a oe pn
  exact ⟨fun pins s σ H Q I ⟨G, α, ρ, ω, x, hn, O, S, hi, r, P⟩ => q.run pins s σ H Q I (k G α ρ ω σ H Q O S P)⟩
def eIsx (s : Str) (x : Exn) : FE D := fun _ ω => .ok (.bl (subX x.cls s)) ω
theorem dx_isi {C : Addr} (hi : X.mg "isinstance" = none) (hs : X.mg s = some (.ref C)) (T : Isx X.K X.mg nms s (.ref C)) (hN : X.N[i]? = some n := by rfl) (hv : Vis X.env.scope n := by first | exact Or.inl rfl | exact Or.inr (Or.inl rfl) | exact Or.inr (Or.inr rfl)) (hd : (n == ("__debug__" : Str)) = false := by decide) (hcd : (n == ("__classdict__" : Str)) = false := by decide)
    (hgs : Gl X s := by rfl) (hds : (s == ("__debug__" : Str)) = false := by decide) (hg : Gl X "isinstance" := by rfl) (he : starEach [.Name n p1, .Name s p2] X.env = (false, eval (.Name n p1) X.env) :: starEach [.Name s p2] X.env := by rfl) (he2 : starEach [.Name s p2] X.env = (false, eval (.Name s p2) X.env) :: starEach [] X.env := by rfl)
    (hpl : (backTo pos (starEach [.Name s p2] X.env)).any (·.1) = false := by rfl) (hvi : bootBuiltins "isinstance" = some (.builtin "isinstance") := by decide +kernel) : Dx X nms i (.Call (.Name "isinstance" p) [.Name n p1, .Name s p2] [] pos) (eIsx s) := by
  intro a oe cls d pn hz hf
  have q := pe_callB (X := X.suite a ((a, oe) :: pn)) (p := p) (pos := pos) (call_isX hz hf) hg hi hvi (pa_cons (pe_var (pos := p1) hN hv hd hcd) (pa_cons (pe_glob (v := .ref C) (pos := p2) hgs hs rfl hds) pa_nil he2) he) (by decide) (by decide) he hpl
  refine ⟨fun pins st σ H Q I ⟨G, α, ρ, ω, x, hn, O, S, hi, r, P⟩ => q.run pins st σ H Q I ?_⟩
  obtain ⟨D, hD, xc, kt⟩ := T x.cls (List.contains_iff_mem.mp hn)
  obtain ⟨D', hD', rfl, r'⟩ := id r
  rw [hD'] at hD; cases hD
  refine ⟨.ref a, hi, .ref C, .ref C, _, _, rfl, fun u hu => hu, rfl, xc, kt, ?_, Post.here O (show Rep X.K X.mg G _ _ from rep_bl.mpr rfl) P⟩
  rcases r' with ⟨_, h⟩ | ⟨dd, fvs, h, h2, _⟩
  · exact .inl h
  · exact .inr ⟨dd, fvs, h, O.sub _ _ h2⟩
def eXf (c f : Str) (x : Exn) : FE D := fun _ ω => if x.cls = c then Res.lift (x.fs.lookup f) ω else .stuck
structure XfD (K : PySem.W.Frag) (mg : MG) (c f : Str) (C : Addr) : Prop where
  gl : mg c = some (.ref C)
  xf : XfC K C
  no : PySem.W.findIn K (.ref C) f = some none
theorem dx_fld {C : Addr} {c f : Str} (T : XfD X.K X.mg c f C) (hN : X.N[i]? = some n := by rfl) (hv : Vis X.env.scope n := by first | exact Or.inl rfl | exact Or.inr (Or.inl rfl) | exact Or.inr (Or.inr rfl)) (hd : (n == ("__debug__" : Str)) = false := by decide) (hcd : (n == ("__classdict__" : Str)) = false := by decide)
    (hb : attributeBase (.Name n p1) f X.env (eval (.Name n p1) X.env) = eval (.Name n p1) X.env := by rfl) : Dx X nms i (.Attribute (.Name n p1) f pos) (eXf c f) := by
  intro a oe cls d pn hz hf
  have q := pe_xf (X := X) (a := a) (pos := pos) (pn := pn) T.xf T.no hz hf (pe_var (X := X.suite a ((a, oe) :: pn)) (pos := p1) hN hv hd hcd) hb
  refine ⟨fun pins st σ H Q I ⟨G, α, ρ, ω, x, hn, O, S, hi, r, P⟩ => q.run pins st σ H Q I ?_⟩
  unfold eXf at P
  split at P
  · rename_i hc
    obtain ⟨D', hD', rfl, r'⟩ := id r
    rw [hc, T.gl] at hD'; cases hD'
    obtain ⟨v, e1, P⟩ := P.lift
    rcases r' with ⟨h, _⟩ | ⟨dd, fvs, h, h2, h3⟩
    · rw [h] at e1; cases e1
    · obtain ⟨u, h4, h5⟩ := h3.look e1
      exact ⟨.ref a, hi, rfl, rfl, dd, fvs, u, h, O.sub _ _ h2, h4, Post.here O (show Rep X.K X.mg G _ _ from h5) P⟩
  · exact P.elim
theorem dx_if {fc fa fb : Exn → FE D} (hc : Dx X nms i c fc) (ha : Dx X nms i a fa) (hb : Dx X nms i b fb) (hcv : ∀ whole, isTrue c X.env whole = (do let v ← whole; standAt c.pos; holding [v] (truthy v)) := by intro _; rfl) : Dx X nms i (.IfExp c a b pos) (fun x => eIf (eTest (fc x)) (fa x) (fb x)) := by
  intro ad oe cls d pn hz hf
  have q := pe_ifExp (pos := pos) (pt_val (hc ad oe cls d pn hz hf) hcv) (ha ad oe cls d pn hz hf) (hb ad oe cls d pn hz hf)
  refine ⟨fun pins st σ H Q I ⟨G, α, ρ, ω, x, hn, O, S, hi, r, P⟩ => q.run pins st σ H Q I ?_⟩
  unfold eIf eTest at P
  dsimp only at P
  rw [Res.bind_assoc] at P
  refine Post.step (t := tDx X.K X.mg nms i fc ad cls d σ H) (R := RD X.K X.mg) (fun Q P => ⟨G, α, ρ, ω, x, hn, O, S, hi, r, P⟩) P fun y ω1 v1 G1 α1 H1 e1 O1 r1 P1 => ?_
  cases y with
  | bl k =>
    have r2 : Rep X.K X.mg G1 (.bl k) v1 := r1
    rw [rep_bl] at r2
    refine ⟨k, r2, ?_⟩
    cases k with
    | true => exact iteT ⟨G1, α1, ρ, ω1, x, hn, O1, S.mono e1, hi, r.mono e1.g, P1⟩
    | false => exact iteF ⟨G1, α1, ρ, ω1, x, hn, O1, S.mono e1, hi, r.mono e1.g, P1⟩
  | _ => exact P1.elim
theorem dxa_nil : DxA X nms i [] (fun _ => aNil) := by
  intro ad oe cls d pn hz hf
  exact ⟨fun pos pins st σ H Q I ⟨G, α, ρ, ω, x, hn, O, S, hi, r, P⟩ => (pa_nil (X := X.suite ad ((ad, oe) :: pn))).run pos pins st σ H Q I (Post.here O .nil P)⟩
theorem dxa_cons {f : Exn → FE D} {g : Exn → FE (List SV)} (h : Dx X nms i e f) (h2 : DxA X nms i es g) (hs : starEach (e :: es) X.env = (false, eval e X.env) :: starEach es X.env := by rfl) : DxA X nms i (e :: es) (fun x => aCons (aVal (f x)) (g x)) := by
  intro ad oe cls d pn hz hf
  have q := pa_cons (X := X.suite ad ((ad, oe) :: pn)) (h ad oe cls d pn hz hf) (h2 ad oe cls d pn hz hf) hs
  refine ⟨fun pos pins st σ H Q I ⟨G, α, ρ, ω, x, hn, O, S, hi, r, P⟩ => q.run pos pins st σ H Q I ?_⟩
  unfold aCons aVal at P
  dsimp only at P
  rw [Res.bind_assoc] at P
  refine Post.step (t := tDx X.K X.mg nms i f ad cls d σ H) (R := RD X.K X.mg) (fun Q P => ⟨G, α, ρ, ω, x, hn, O, S, hi, r, P⟩) P fun y ω1 v1 G1 α1 H1 e1 O1 r1 P1 => ?_
  refine Post.step (t := tDxA X.K X.mg nms i g ad cls d σ H1) (fun Q P => ⟨G1, α1, ρ, ω1, x, hn, O1, S.mono e1, hi, r.mono e1.g, P⟩) P1 fun ys ω2 v2 G2 α2 H2 e2 O2 r2 P2 => ?_
  exact Post.here O2 (.cons (show RepV X.K X.mg G2 α2 (.val y) v1 from Rep.mono e2.g _ _ r1) r2) P2
theorem dx_lst {g : Exn → FE (List SV)} (h : DxA X nms i es g) : Dx X nms i (.List es pos) (fun x => eList (g x)) := by
  intro ad oe cls d pn hz hf
  have q := pe_lst (pos := pos) (h ad oe cls d pn hz hf)
  refine ⟨fun pins st σ H Q I ⟨G, α, ρ, ω, x, hn, O, S, hi, r, P⟩ => q.run pins st σ H Q I ?_⟩
  unfold eList at P
  refine Post.step (t := tDxA X.K X.mg nms i g ad cls d σ H) (fun Q P => ⟨G, α, ρ, ω, x, hn, O, S, hi, r, P⟩) P fun xs ω1 vs G1 α1 H1 e1 O1 r1 P1 => ?_
  obtain ⟨d, e2, P2⟩ := P1.lift
  split at e2
  · rename_i hl
    cases q : allD xs with
    | none => rw [q] at e2; cases e2
    | some ds =>
      rw [q] at e2; cases e2
      have hr := allD_reps q r1
      refine ⟨by rw [lim_eq, ← RepVs.length r1]; exact hl, fun p hp => ?_⟩
      exact Post.grow O1 (Grow.put O1.sub hp) (rep_newL (H := H1) (O1.sub.free hp) hr) P2
  · cases e2
theorem su_set {j : Nat} {y : Str} {f : Exn → FE D} {p' : Pos} (h : Dx X nms i e f) (hN : X.N.Nodup) (hj : X.N[j]? = some y := by rfl) (hx : Loc X.env.scope y := by first | exact Or.inl rfl | exact Or.inr rfl) (hs : swapsWith e (some (.Name y p')) pos.line X.env = pure false := by rfl)
    (hw : X.fn y = true ∨ X.env.scope.names.lookup y = some .local := by first | exact .inl rfl | exact .inr rfl) : SuOk X nms i [.Assign [.Name y p'] e pos] (fun x => sSet j (f x)) := by
  intro ad oe cls d pn hz hf
  have q := pss_one (ps_set (X := X.suite ad ((ad, oe) :: pn)) (pos := pos) (pos' := p') hN hj hx (h ad oe cls d pn hz hf) hs hw)
  refine ⟨fun pins st σ H E I ⟨G, α, ρ, ω, x, hn, O, S, hi, r, P⟩ => q.run pins st σ H E I ?_⟩
  refine PostS.step S (t := tDx X.K X.mg nms i f ad cls d σ H) (fun Q P => ⟨G, α, ρ, ω, x, hn, O, S, hi, r, P⟩) P fun y ω1 v1 G1 α1 H1 e1 O1 r1 P1 => ?_
  exact P1.here_nx O1 ((S.mono e1).set j (x := .val y) r1)
end
end Dl
namespace Dl
open PySem L2
end Dl
namespace Dl
open PySem L2
section
variable {X : Cx} {W : WX} {pos : Pos}
def sPar3 (i j l : Nat) (f : FE (List SV)) : FS := fun ρ ω => (f ρ ω).out ρ fun xs ω1 => match xs with
  | [x, y, z] => .next (((ρ.set i (some x)).set j (some y)).set l (some z)) ω1
  | _ => .stuck
theorem ds_par3 {i j l : Nat} {x y z : Str} {a b c : Expr} {fa : FE (List SV)} {px py pz pt : Pos} {kt k2 pt2} (hc : X.calm = true) (hN : X.N.Nodup) (hd : i ≠ j ∧ i ≠ l ∧ j ≠ l) (ha : Da X W [a, b, c] fa)
    (hw : swappedStores [.Tuple [.Name x px, .Name y py, .Name z pz] kt pt] (.Tuple [a, b, c] k2 pt2) X.env = pure (some [x, y, z]))
    (hi : X.N[i]? = some x := by rfl) (hj : X.N[j]? = some y := by rfl) (hl : X.N[l]? = some z := by rfl)
    (hx : X.env.scope.names.lookup x = some .local := by rfl) (hy : X.env.scope.names.lookup y = some .local := by rfl) (hz : X.env.scope.names.lookup z = some .local := by rfl)
    (hs : swapsWithSole [.Tuple [.Name x px, .Name y py, .Name z pz] kt pt] (.Tuple [a, b, c] k2 pt2) pos.line X.env = pure false := by rfl) :
    Ds X W (.Assign [.Tuple [.Name x px, .Name y py, .Name z pz] kt pt] (.Tuple [a, b, c] k2 pt2) pos) (sPar3 i j l fa) := by
  obtain ⟨t, p, k⟩ := ha
  refine ⟨_, ps_par3 hc hN hi hj hl hd.1 hd.2.1 hd.2.2 hx hy hz p hw hs, fun G α ρ ω σ H D O S P => ?_⟩
  refine PostS.step S (t := t σ H) (k G α ρ ω σ H · O S) P fun xs ω1 vs G1 α1 H1 e1 O1 r1 P1 => ?_
  match xs, vs, r1, P1 with
  | [x, y, z], _, .cons q1 (.cons q2 (.cons q3 .nil)), P1 => exact ⟨_, _, _, rfl, P1.here_nx O1 ((((S.mono e1).set i q1).set j q2).set l q3)⟩
  | [], _, _, P1 => exact P1.elim
  | [_], _, _, P1 => exact P1.elim
  | [_, _], _, _, P1 => exact P1.elim
  | _ :: _ :: _ :: _ :: _, _, _, P1 => exact P1.elim
def eNewL (g : FE (List SV)) : FE SV := fun ρ ω => (g ρ ω).bind fun xs ω1 => match allD xs with
  | some ds => if xs.length ≤ lim then .ok (.own ω1.length) (ω1 ++ [some (.lst ds)]) else .stuck
  | none => .stuck
theorem dv_newL {es : List Expr} {g : FE (List SV)} (h : Da X W es g) : Dv X W (.List es pos) (eNewL g) := by
  obtain ⟨t, p, k⟩ := h
  refine ⟨_, pe_lst p, fun G α ρ ω σ H Q O S P => ?_⟩
  refine Post.step (t := t σ H) (k G α ρ ω σ H · O S) P fun xs ω1 vs G1 α1 H1 e1 O1 r1 P1 => ?_
  cases q : allD xs with
  | none => rw [q] at P1; exact P1.elim
  | some ds =>
    rw [q] at P1
    dsimp only at P1
    split at P1
    · rename_i hl
      have hr := allD_reps q r1
      refine ⟨by rw [lim_eq, ← RepVs.length r1]; exact hl, fun a ha => ?_⟩
      obtain ⟨O2, e2⟩ := O1.new (u := .lst vs) (o := .lst ds) ha ⟨vs, upd_same, hr⟩
      refine P1 _ G1 _ _ e2 O2 ⟨a, ?_, rfl⟩
      rw [← O1.len, List.getElem?_append_right (Nat.le_refl _)]
      simp
    · exact P1.elim
end
end Dl
namespace Dl
open PySem L2
def oexB (K : PySem.W.Frag) (C : Addr) : Bool := match K.lookup C with
  | some ⟨.type "type", _, .cls cd, sl⟩ => (match cd.mro, sl.toList with
    | .ref C' :: bm, [_, _, _, _, some (.builtin n), _] => C' == C && (n == "ValueError.__new__" && (!cd.hasDel && (cd.hasDict && PySem.HandSPX.refsVE bm)))
    | _, _ => false)
  | _ => false
theorem oexB_ok {K : PySem.W.Frag} {C : Addr} (h : oexB K C = true) : ∃ nm q N bs bm sn sub ab col dd k0 k1 k2 k3 k5, K.lookup C = some (excClassObj nm q C N bs bm true sn sub ab col dd k0 k1 k2 k3 k5 "ValueError.__new__") ∧ PySem.HandSPX.refsVE bm = true := by
  unfold oexB at h
  split at h
  · rename_i dd cd sl ho
    split at h
    · rename_i C' bm k0 k1 k2 k3 n k5 hm hs
      simp only [Bool.and_eq_true, beq_iff_eq, Bool.not_eq_true'] at h
      obtain ⟨rfl, rfl, hdel, hdct, hr⟩ := h
      obtain ⟨nm, bs, mro, ns, qn, hd, sn, sub, ab, col, del⟩ := cd
      dsimp only at hm hdel hdct
      subst hm hdel hdct
      have hsl : sl = #[k0, k1, k2, k3, some (.builtin "ValueError.__new__"), k5] := by
        obtain ⟨l⟩ := sl
        simp only at hs
        rw [hs]
      subst hsl
      exact ⟨nm, qn, ns, bs, bm, sn, sub, ab, col, dd, k0, k1, k2, k3, k5, ho, hr⟩
    · cases h
  · cases h
theorem isFn_ty {K : PySem.W.Frag} {v : Value} (h : PySem.W.isFn K v = true) : PySem.W.typeIn K v = some (.type "function") := beq_iff_eq.mp h
end Dl
namespace Dl
open PySem L2
section
variable {d x y : D} {ds es : List D} {ρ : Rho} {ω : Om} {i j k : Nat}
theorem tup_0 : tupR (some ds) 0 = some (.tup ds) := tupR_run (by decide)
theorem lst_0 : lstR (some ds) 0 = some (.lst ds) := lstR_run (by decide)
theorem tup_1 : tupR (some ds) 1 = some (.tup ds) := tupR_run (by decide)
theorem lst_1 : lstR (some ds) 1 = some (.lst ds) := lstR_run (by decide)
theorem tup_2 : tupR (some ds) 2 = some (.tup ds) := tupR_run (by decide)
theorem lst_2 : lstR (some ds) 2 = some (.lst ds) := lstR_run (by decide)
theorem tup_3 : tupR (some ds) 3 = some (.tup ds) := tupR_run (by decide)
theorem lst_3 : lstR (some ds) 3 = some (.lst ds) := lstR_run (by decide)
theorem tup_4 : tupR (some ds) 4 = some (.tup ds) := tupR_run (by decide)
theorem lst_4 : lstR (some ds) 4 = some (.lst ds) := lstR_run (by decide)
theorem tup_5 : tupR (some ds) 5 = some (.tup ds) := tupR_run (by decide)
theorem lst_5 : lstR (some ds) 5 = some (.lst ds) := lstR_run (by decide)
theorem tup_6 : tupR (some ds) 6 = some (.tup ds) := tupR_run (by decide)
theorem lst_6 : lstR (some ds) 6 = some (.lst ds) := lstR_run (by decide)
theorem tup_7 : tupR (some ds) 7 = some (.tup ds) := tupR_run (by decide)
theorem lst_7 : lstR (some ds) 7 = some (.lst ds) := lstR_run (by decide)
theorem tup_8 : tupR (some ds) 8 = some (.tup ds) := tupR_run (by decide)
theorem lst_8 : lstR (some ds) 8 = some (.lst ds) := lstR_run (by decide)
theorem tup_9 : tupR (some ds) 9 = some (.tup ds) := tupR_run (by decide)
theorem lst_9 : lstR (some ds) 9 = some (.lst ds) := lstR_run (by decide)
theorem tup_10 : tupR (some ds) 10 = some (.tup ds) := tupR_run (by decide)
theorem lst_10 : lstR (some ds) 10 = some (.lst ds) := lstR_run (by decide)
theorem tup_11 : tupR (some ds) 11 = some (.tup ds) := tupR_run (by decide)
theorem lst_11 : lstR (some ds) 11 = some (.lst ds) := lstR_run (by decide)
theorem tup_12 : tupR (some ds) 12 = some (.tup ds) := tupR_run (by decide)
theorem lst_12 : lstR (some ds) 12 = some (.lst ds) := lstR_run (by decide)
theorem new_0 : newR (some ds) 0 i ρ ω = .next (ρ.set i (some (.own ω.length))) (ω ++ [some (.lst ds)]) := newR_run (by decide)
theorem new_1 : newR (some ds) 1 i ρ ω = .next (ρ.set i (some (.own ω.length))) (ω ++ [some (.lst ds)]) := newR_run (by decide)
theorem new_2 : newR (some ds) 2 i ρ ω = .next (ρ.set i (some (.own ω.length))) (ω ++ [some (.lst ds)]) := newR_run (by decide)
theorem new_3 : newR (some ds) 3 i ρ ω = .next (ρ.set i (some (.own ω.length))) (ω ++ [some (.lst ds)]) := newR_run (by decide)
theorem new_4 : newR (some ds) 4 i ρ ω = .next (ρ.set i (some (.own ω.length))) (ω ++ [some (.lst ds)]) := newR_run (by decide)
theorem new_5 : newR (some ds) 5 i ρ ω = .next (ρ.set i (some (.own ω.length))) (ω ++ [some (.lst ds)]) := newR_run (by decide)
theorem sRaise_run (c : Str) : sRaise c ρ ω = .exc ⟨c, []⟩ ρ ω := rfl
def raiseIR (c : Str) (fls : List Str) (ρ : Rho) (ω : Om) : Option (List D) → Out
  | some ds => if ds.length = fls.length then .exc ⟨c, (fls.zip ds).reverse⟩ ρ ω else .stuck
  | none => .stuck
theorem sRaiseI_run (c : Str) (fls : List Str) (g : FE (List SV)) : sRaiseI c fls g ρ ω = outL (g ρ ω) ρ (k := ⟨fun xs ω1 => raiseIR c fls ρ ω1 (allD xs)⟩) := by
  unfold sRaiseI outL raiseIR
  cases g ρ ω <;> rfl
theorem raiseI_run1 (c f : Str) : raiseIR c [f] ρ ω (some [d]) = .exc ⟨c, [(f, d)]⟩ ρ ω := rfl
theorem raiseI_run2 (c f g : Str) : raiseIR c [f, g] ρ ω (some [d, x]) = .exc ⟨c, [(g, x), (f, d)]⟩ ρ ω := rfl
theorem sTry_run (nms : List Str) (b : FS) (hs : List (Str × (Exn → FS))) : sTry nms i b hs ρ ω = tryO nms i hs (b ρ ω) := rfl
section
variable {nms : List Str} {hs : List (Str × (Exn → FS))}
theorem tryO_next : tryO nms i hs (.next ρ ω) = .next ρ ω := rfl
theorem tryO_ret {v : SV} : tryO nms i hs (.ret v ω) = .ret v ω := rfl
theorem tryO_exc {c : Str} {fs : List (Str × D)} (h : nms.contains c = true) (hi : i < ρ.length) : tryO nms i hs (.exc ⟨c, fs⟩ ρ ω) = tryH i ⟨c, fs⟩ ρ ω hs := by
  unfold tryO; dsimp only; rw [if_pos ⟨h, hi⟩]
theorem tryH_yes {c e : Str} {fs : List (Str × D)} {f : Exn → FS} (h : subX c e = true) : tryH i ⟨c, fs⟩ ρ ω ((e, f) :: hs) = unbind i (f ⟨c, fs⟩ (ρ.set i none) ω) := by
  unfold tryH; rw [if_pos h]
theorem tryH_nil {e : Exn} : tryH i e ρ ω [] = .exc e ρ ω := rfl
theorem unbind_next : unbind i (.next ρ ω) = .next (ρ.set i none) ω := rfl
theorem unbind_ret {v : SV} : unbind i (.ret v ω) = .ret v ω := rfl
end
theorem eIsx_run (s : Str) (e : Exn) : eIsx s e ρ ω = .ok (.bl (subX e.cls s)) ω := rfl
theorem eXf_run {c f : Str} {fs : List (Str × D)} : eXf c f ⟨c, fs⟩ ρ ω = Res.lift (fs.lookup f) ω := by unfold eXf; rw [if_pos rfl]
def par3R (i j l : Nat) (ρ : Rho) (ω : Om) : List SV → Out
  | [x, y, z] => .next (((ρ.set i (some x)).set j (some y)).set l (some z)) ω
  | _ => .stuck
theorem sPar3_run {l : Nat} (f : FE (List SV)) : sPar3 i j l f ρ ω = outL (f ρ ω) ρ (k := ⟨fun xs ω1 => par3R i j l ρ ω1 xs⟩) := by
  unfold sPar3 outL
  cases f ρ ω with
  | stuck => rfl
  | exc _ _ => rfl
  | ok xs ω1 =>
    show (match xs with | [x, y, z] => _ | _ => _) = par3R i j l ρ ω1 xs
    unfold par3R
    rfl
theorem par3R_run {l : Nat} (x y z : SV) : par3R i j l ρ ω [x, y, z] = .next (((ρ.set i (some x)).set j (some y)).set l (some z)) ω := rfl
def newLR (n : Nat) (ω : Om) : Option (List D) → Res SV
  | some ds => if n ≤ lim then .ok (.own ω.length) (ω ++ [some (.lst ds)]) else .stuck
  | none => .stuck
theorem eNewL_run (g : FE (List SV)) : eNewL g ρ ω = bindL (g ρ ω) (k := ⟨fun xs ω1 => newLR xs.length ω1 (allD xs)⟩) := by
  unfold eNewL bindL newLR
  cases g ρ ω <;> rfl
theorem newLR_run {n : Nat} (h : n ≤ lim) : newLR n ω (some ds) = .ok (.own ω.length) (ω ++ [some (.lst ds)]) := by unfold newLR; dsimp only; rw [if_pos h]
theorem newLR_0 : newLR 0 ω (some ds) = .ok (.own ω.length) (ω ++ [some (.lst ds)]) := newLR_run (by decide)
theorem newLR_1 : newLR 1 ω (some ds) = .ok (.own ω.length) (ω ++ [some (.lst ds)]) := newLR_run (by decide)
end
section
variable {tg : FG} {b : FS} {d : D} {ds : List D} {ρ ρ1 ρ2 : Rho} {ω ω2 : Om}
theorem forL_next (h : tg d ρ = some ρ1) (h2 : b ρ1 ω = .next ρ2 ω2) : forL tg b (d :: ds) ρ ω = forL tg b ds ρ2 ω2 := by
  conv => lhs; unfold forL
  rw [h]; dsimp only; rw [h2]
theorem forL_exc {x : Exn} (h : tg d ρ = some ρ1) (h2 : b ρ1 ω = .exc x ρ2 ω2) : forL tg b (d :: ds) ρ ω = .exc x ρ2 ω2 := by
  conv => lhs; unfold forL
  rw [h]; dsimp only; rw [h2]
theorem forL_ret {x : SV} (h : tg d ρ = some ρ1) (h2 : b ρ1 ω = .ret x ω2) : forL tg b (d :: ds) ρ ω = .ret x ω2 := by
  conv => lhs; unfold forL
  rw [h]; dsimp only; rw [h2]
end
end Dl
namespace Dl
open PySem L2
section
variable {X : Cx} {pins : List (Addr × Obj)} {σ : St} {H : Hp} {s : Shared}
end
section
variable {K : PySem.W.Frag} {mg : MG} {G H : Hp}
end
end Dl
namespace Dl
open PySem L2
abbrev NEs := List (NestedKey × Addr × V)
abbrev NRel : NEs → List (NestedKey × Addr × Value) → Prop := Paired fun e x => e.1 = x.1 ∧ e.2.1 = x.2.1 ∧ RelV e.2.2 x.2.2
def nval (es : NEs) (k : NestedKey) : Option V := (es.find? fun e => decide (e.1 = k)).map (·.2.2)
def nput (es : NEs) (k : NestedKey) (b : Addr) (v : V) : NEs := if (nval es k).isSome = true then es.map (fun e => if e.1 = k then (e.1, e.2.1, v) else e) else es ++ [(k, b, v)]
theorem NRel.val : ∀ {es : NEs} {xs : List (NestedKey × Addr × Value)} (k : NestedKey), NRel es xs → RelO (nval es k) ((atKey xs k).map (·.2))
  | _, _, k, .nil => trivial
  | e :: es, x :: xs, k, .cons r t => by
    have ih := NRel.val k t
    unfold nval atKey at ih ⊢
    rw [List.find?_cons, List.find?_cons, ← r.1]
    by_cases h : e.1 = k
    · simp only [decide_eq_true h]; exact r.2.2
    · simp only [decide_eq_false h]; exact ih
theorem NRel.map {k : NestedKey} {v : V} {u : Value} (rv : RelV v u) : ∀ {es : NEs} {xs : List (NestedKey × Addr × Value)}, NRel es xs → NRel (es.map fun e => if e.1 = k then (e.1, e.2.1, v) else e) (xs.map (putAt k u))
  | _, _, .nil => .nil
  | e :: es, x :: xs, .cons r t => by
    refine .cons ?_ (NRel.map rv t)
    unfold putAt
    rw [← r.1]
    dsimp only
    by_cases h : e.1 = k
    · rw [if_pos h, if_pos h]; exact ⟨rfl, r.2.1, rv⟩
    · rw [if_neg h, if_neg h]; exact r
theorem Paired.snoc {α β : Type} {F : α → β → Prop} {a : α} {b : β} (h : F a b) : ∀ {l : List α} {m : List β}, Paired F l m → Paired F (l ++ [a]) (m ++ [b])
  | _, _, .nil => .cons h .nil
  | _, _, .cons r t => .cons r (Paired.snoc h t)
theorem isSome_rel {o : Option V} {u : Option Value} (r : RelO o u) : o.isSome = u.isSome := RelO.isSome_eq r
theorem NRel.put {es : NEs} {xs : List (NestedKey × Addr × Value)} (r : NRel es xs) (k : NestedKey) (b : Addr) {v : V} {u : Value} (rv : RelV v u) : NRel (nput es k b v) (storedH xs k b u) := by
  have h := isSome_rel (r.val k)
  rw [Option.isSome_map] at h
  unfold nput storedH
  rw [h]
  cases (atKey xs k).isSome with
  | true => exact r.map rv
  | false => exact r.snoc ⟨rfl, rfl, rv⟩
section
variable {X : Cx} {pins : List (Addr × Obj)} {σ : St} {H : Hp} {s : Shared} {a b : Addr} {ep : Nat} {es : NEs} {k : NestedKey}
variable {A : Around} {E : Value → Shared → Prop}
end
end Dl
namespace Dl
open PySem L2
abbrev KVs := List (D × D)
def dnGet (kvs : KVs) (k : NestedKey) : Option D := (kvs.find? fun p => decide (nk p.1 = k)).map (·.2)
def dnPut (kvs : KVs) (k v : D) : KVs := if (dnGet kvs (nk k)).isSome = true then kvs.map (fun p => if nk p.1 = nk k then (p.1, v) else p) else kvs ++ [(k, v)]
section
variable {K : PySem.W.Frag} {mg : MG} {G H : Hp}
end
def isKey : D → Bool
  | .tup ds => keyOk 8 (.tup ds)
  | _ => false
section
variable {X : Cx} {W : WX} {o e f : Expr} {apos cpos pos : Pos} {td ty tx : TE}
def nGet (kvs : KVs) (k x : D) : Option D := if isKey k = true then some ((dnGet kvs (nk k)).getD x) else none
def asN : D → Option KVs
  | .dcN kvs => some kvs
  | _ => none
def eNGet (fd fk fx : FE D) : FE D := fun ρ ω => (fd ρ ω).bind fun d ω1 => match asN d with
  | none => .stuck
  | some kvs => (fk ρ ω1).bind fun k ω2 => (fx ρ ω2).bind fun x ω3 => Res.lift (nGet kvs k x) ω3
def ownN (ω : Om) (k : Nat) : Option KVs := match ω[k]? with
  | some (some (.dcN kvs)) => some kvs
  | _ => none
def eNGetO (i : Nat) (fk fx : FE D) : FE D := fun ρ ω => match ownK ρ i with
  | none => .stuck
  | some j => match ownN ω j with
    | none => .stuck
    | some _ => (fk ρ ω).bind fun k ω2 => (fx ρ ω2).bind fun x ω3 => match ownN ω3 j with
      | some kvs => Res.lift (nGet kvs k x) ω3
      | none => .stuck
end
def dkGet (kvs : List (Key × D)) (k : Key) : Option D := (kvs.find? fun p => decide (p.1 = k)).map (·.2)
def dkPut (kvs : List (Key × D)) (k : Key) (v : D) : List (Key × D) := if (dkGet kvs k).isSome = true then kvs.map (fun p => if p.1 = k then (p.1, v) else p) else kvs ++ [(k, v)]
def keyK : D → Option Key
  | .int i => some (.inl i)
  | .str x => some (.inr x)
  | _ => none
section
variable {K : PySem.W.Frag} {mg : MG} {G H : Hp}
end
section
variable {X : Cx} {W : WX}
def opIn2 (neg : Bool) (x y : D) : Option D := match y with
  | .dcN kvs => if isKey x = true then some (.bl (if neg then !(dnGet kvs (nk x)).isSome else (dnGet kvs (nk x)).isSome)) else none
  | .dcK kvs => (keyK x).map fun k => .bl (if neg then !(dkGet kvs k).isSome else (dkGet kvs k).isSome)
  | _ => opIn neg x y
end
end Dl
namespace Dl
open PySem L2
section
variable {X : Cx} {pins : List (Addr × Obj)} {σ : St} {H : Hp} {s : Shared} {a : Addr} {ep : Nat} {es : NEs}
end
section
variable {P : Program} {w : World} {K : PySem.W.Frag} {a : Addr} {ep : Nat} {es : NEs} {tg : Expr}
end
section
variable {X : Cx} {W : WX} {tg e : Expr} {td : TE} {apos cpos : Pos}
def itemsD (kvs : KVs) : List D := kvs.map fun p => .tup [p.1, p.2]
def itNItems : D → Option (List D)
  | .dcN kvs => some (itemsD kvs)
  | _ => none
def itNKeys : D → Option (List D)
  | .dcN kvs => some (kvs.map (·.1))
  | _ => none
end
end Dl
namespace Dl
open PySem L2
structure Side (K : PySem.W.Frag) (mg : MG) (G0 : Hp) (α0 : List Addr) (H0 : Hp) (p : Addr) (G : Hp) (α : List Addr) (ω : Om) (H : Hp) (o : HO) : Prop where
  ext : Ext G0 α0 H0 G α H
  own : Own K mg G α ω H
  gl : G p = none
  na : p ∉ α
  at_ : H p = some o
section
variable {K : PySem.W.Frag} {mg : MG} {G0 H0 G H G1 H1 : Hp} {α0 α α1 : List Addr} {p : Addr} {ω ω1 : Om} {o o' : HO}
theorem Side.new (O : Own K mg G α ω H) (hp : H p = none) : Side K mg G α H p G α ω (L2.upd H p o) o :=
  ⟨(Grow.side O.sub hp).ext, O.grow (Grow.side O.sub hp), O.sub.free hp, O.na hp, upd_same⟩
theorem Side.step (S : Side K mg G0 α0 H0 p G α ω H o) (e : Ext G α H G1 α1 H1) (O : Own K mg G1 α1 ω1 H1) : Side K mg G0 α0 H0 p G1 α1 ω1 H1 o := by
  refine ⟨S.ext.trans e, O, ?_, fun hm => ?_, e.keep p o S.at_ S.na⟩
  · cases q : G1 p with
    | none => rfl
    | some u =>
      rcases e.new p u q with z | z | z
      · rw [S.gl] at z; cases z
      · rw [S.at_] at z; cases z
      · exact absurd z S.na
  · obtain ⟨m, em, nm⟩ := e.pre
    rw [em] at hm
    rcases List.mem_append.mp hm with z | z
    · exact S.na z
    · have := nm p z; rw [S.at_] at this; cases this
theorem Side.set (S : Side K mg G0 α0 H0 p G α ω H o) (h0 : H0 p = none) : Side K mg G0 α0 H0 p G α ω (L2.upd H p o') o' :=
  ⟨S.ext.setL h0, S.own.setL S.gl S.na, S.gl, S.na, upd_same⟩
end
section
variable {X : Cx} {W : WX} {pos p1 p2 : Pos} {e k v : Expr} {tk tv td : TE}
def eNewN : FE SV := fun _ ω => .ok (.own ω.length) (ω ++ [some (.dcN [])])
def eEmptyK : FE D := fun _ ω => .ok (.dcK []) ω
end
end Dl
namespace Dl
open PySem L2
section
variable {X : Cx} {W : WX} {pos p1 p2 : Pos} {e k v : Expr} {tk tv td : TE}
def eNDisp (fk fv : FE D) : FE D := fun ρ ω => (fk ρ ω).bind fun k ω1 => (fv ρ ω1).bind fun v ω2 => Res.lift (if isKey k = true then some (.dcN [(k, v)]) else none) ω2
def hashOk (kvs : KVs) : Prop := (kvs.map fun p => hashN (nk p.1)).Nodup
instance (kvs : KVs) : Decidable (hashOk kvs) := by unfold hashOk; infer_instance
def copyN (ω : Om) : D → Res SV
  | .dcN kvs => if hashOk kvs then .ok (.own ω.length) (ω ++ [some (.dcN kvs)]) else .stuck
  | _ => .stuck
def eCopyN (f : FE D) : FE SV := fun ρ ω => (f ρ ω).bind fun d ω1 => copyN ω1 d
end
end Dl
namespace Dl
open PySem
section
variable {prog : Program} {w : World} {κ : Type} [DecidableEq κ] {knd : KeyKind prog w κ} {A : Around} {E : Value → Shared → Prop} {s : Shared}
end
end Dl
namespace Dl
open PySem L2
section
variable {X : Cx} {W : WX} {pos p1 p2 apos cpos : Pos} {a b e k v o f : Expr} {ta tb tk tv td : TE}
end
end Dl
namespace Dl
open PySem L2
abbrev KKs := List (Key × D)
def dkMerge (kvs more : KKs) : KKs := more.foldl (fun acc p => dkPut acc p.1 p.2) kvs
def asK : D → Option KKs
  | .dcK kvs => some kvs
  | _ => none
section
variable {X : Cx} {W : WX} {pos p1 p2 apos cpos : Pos} {a b e k v o f : Expr} {ta tb tk tv td : TE}
def eKM (fa fb : FE D) : FE D := fun ρ ω => (fa ρ ω).bind fun x ω1 => match asK x with
  | none => .stuck
  | some kvs => if kvs.length ≤ 1000 then (fb ρ ω1).bind fun y ω2 => (match asK y with
    | some more => if more.length ≤ 1000 then .ok (.dcK (dkMerge (dkMerge [] kvs) more)) ω2 else .stuck
    | none => .stuck) else .stuck
def eKDisp (fk fv : FE D) : FE D := fun ρ ω => (fk ρ ω).bind fun k ω1 => (fv ρ ω1).bind fun v ω2 => Res.lift ((keyK k).map fun kk => .dcK [(kk, v)]) ω2
def kGet (kvs : KKs) (k x : D) : Option D := (keyK k).map fun kk => (dkGet kvs kk).getD x
def eKGet (fd fk fx : FE D) : FE D := fun ρ ω => (fd ρ ω).bind fun d ω1 => match asK d with
  | none => .stuck
  | some kvs => (fk ρ ω1).bind fun k ω2 => (fx ρ ω2).bind fun x ω3 => Res.lift (kGet kvs k x) ω3
def opKIx (x y : D) : Option D := match x with
  | .dcK kvs => (keyK y).bind fun k => dkGet kvs k
  | _ => none
def oDictK : List D → Option D
  | [.dcK kvs] => some (.dcK kvs)
  | _ => none
end
end Dl
namespace Dl
open PySem L2
section
variable {X : Cx} {W : WX} {pos pos' p1 p2 apos cpos : Pos} {a b e i k v o f : Expr} {es : List Expr} {ta tb tk tv td ty : TE}
def nPutR (i j : Nat) (ρ : Rho) (ω : Om) (k d : D) : Option KVs → Out
  | some kvs => if isKey k = true ∧ kvs.length < lim then .next ρ (ω.set j (some (.dcN (dnPut kvs k d)))) else .stuck
  | none => .stuck
def sNPut (i : Nat) (fk fe : FE D) : FS := fun ρ ω => (fe ρ ω).out ρ fun d ω1 => match ownK ρ i with
  | none => .stuck
  | some j => (fk ρ ω1).out ρ fun k ω2 => nPutR i j ρ ω2 k d (ownN ω2 j)
def aStar (g : FE D) (h : FE (List SV)) : FE (List SV) := fun ρ ω => (g ρ ω).bind fun d ω1 => match itSeq d with
  | some ds => (h ρ ω1).bind fun xs ω2 => .ok (ds.map SV.val ++ xs) ω2
  | none => .stuck
theorem RepVs.append {K : PySem.W.Frag} {mg : MG} {G : Hp} {α : List Addr} : ∀ {xs ys : List SV} {vs us : List V}, RepVs K mg G α xs vs → RepVs K mg G α ys us → RepVs K mg G α (xs ++ ys) (vs ++ us)
  | _, _, _, _, .nil, h => h
  | _, _, _, _, .cons r t, h => .cons r (RepVs.append t h)
end
end Dl
namespace Dl
open PySem L2
section
variable {X : Cx}
end
end Dl
namespace Dl
open PySem L2 PySem.W
section
variable {X : Cx}
end
end Dl
namespace Dl
open PySem L2
def rngI (a b : Int) : List Int := (List.range (b - a).toNat).map fun i => a + (i : Nat)
def rgB (a b : Int) : Bool := decide (-1000000000 ≤ a ∧ a ≤ 1000000000 ∧ -1000000000 ≤ b ∧ b ≤ 1000000000 ∧ (b - a).toNat ≤ 16777216)
def asInt : D → Option Int
  | .int i => some i
  | _ => none
def rgD (mk : List D → D) (x y : D) : Option D := match asInt x, asInt y with
  | some a, some b => if rgB a b = true then some (mk ((rngI a b).map D.int)) else none
  | _, _ => none
section
variable {X : Cx} {W : WX} {a b : Expr} {p1 p2 pos pos' : Pos}
def eRg1 (mk : List D → D) (f : FE D) : FE D := fun ρ ω => (f ρ ω).bind fun y ω1 => Res.lift (rgD mk (.int 0) y) ω1
end
end Dl
namespace Dl
open PySem L2
section
variable {ρ : Rho} {ω : Om} {i j k : Nat}
theorem eNDisp_run (f g : FE D) : eNDisp f g ρ ω = bindL (f ρ ω) (k := ⟨fun x ω1 => bindL (g ρ ω1) (k := ⟨fun y ω2 => Res.lift (if isKey x = true then some (.dcN [(x, y)]) else none) ω2⟩)⟩) := rfl
theorem eKDisp_run (f g : FE D) : eKDisp f g ρ ω = bindL (f ρ ω) (k := ⟨fun x ω1 => bindL (g ρ ω1) (k := ⟨fun y ω2 => Res.lift ((keyK x).map fun kk => .dcK [(kk, y)]) ω2⟩)⟩) := rfl
theorem eEmptyK_run : eEmptyK ρ ω = .ok (.dcK []) ω := rfl
theorem eNewN_run : eNewN ρ ω = .ok (.own ω.length) (ω ++ [some (.dcN [])]) := rfl
def kmR2 (kvs : KKs) (ω : Om) : Option KKs → Res D
  | some more => if more.length ≤ 1000 then .ok (.dcK (dkMerge (dkMerge [] kvs) more)) ω else .stuck
  | none => .stuck
def kmR [c : KtC] (kvs : Option KKs) (ω : Om) : Res D := match kvs with
  | some kvs => if kvs.length ≤ 1000 then c.run ω else .stuck
  | none => .stuck
theorem eKM_run (f g : FE D) : eKM f g ρ ω = bindL (f ρ ω) (k := ⟨fun x ω1 => @kmR ⟨fun ω1 => bindL (g ρ ω1) (k := ⟨fun y ω2 => kmR2 ((asK x).getD []) ω2 (asK y)⟩)⟩ (asK x) ω1⟩) := by
  unfold eKM bindL
  cases f ρ ω with
  | stuck => rfl
  | exc _ _ => rfl
  | ok x ω1 =>
    dsimp only [Res.bind]
    unfold kmR
    cases q : asK x with
    | none => rfl
    | some kvs =>
      dsimp only
      split
      · congr 1
      · rfl
theorem kmR_run {kvs : KKs} {g : Om → Res D} (h : kvs.length ≤ 1000) : @kmR ⟨g⟩ (some kvs) ω = g ω := by unfold kmR; dsimp only; rw [if_pos h]
theorem kmR2_run {kvs more : KKs} (h : more.length ≤ 1000) : kmR2 kvs ω (some more) = .ok (.dcK (dkMerge (dkMerge [] kvs) more)) ω := by unfold kmR2; dsimp only; rw [if_pos h]
theorem asK_run {kvs : KKs} : asK (.dcK kvs) = some kvs := rfl
theorem asN_run {kvs : KVs} : asN (.dcN kvs) = some kvs := rfl
def getRL [c : KtS KVs D] : Option KVs → Res D
  | some kvs => c.run kvs
  | none => .stuck
theorem eNGet_run (f g h : FE D) : eNGet f g h ρ ω = bindL (f ρ ω) (k := ⟨fun d ω1 => getRL (c := ⟨fun kvs => bindL (g ρ ω1) (k := ⟨fun x ω2 => bindL (h ρ ω2) (k := ⟨fun y ω3 => Res.lift (nGet kvs x y) ω3⟩)⟩)⟩) (asN d)⟩) := by
  unfold eNGet bindL
  cases f ρ ω with
  | stuck => rfl
  | exc _ _ => rfl
  | ok x ω1 =>
    dsimp only [Res.bind]
    unfold getRL
    cases asN x <;> rfl
theorem getRL_run {kvs : KVs} {g : KVs → Res D} : @getRL ⟨g⟩ (some kvs) = g kvs := rfl
def getKL [c : KtS KKs D] : Option KKs → Res D
  | some kvs => c.run kvs
  | none => .stuck
theorem eKGet_run (f g h : FE D) : eKGet f g h ρ ω = bindL (f ρ ω) (k := ⟨fun d ω1 => getKL (c := ⟨fun kvs => bindL (g ρ ω1) (k := ⟨fun x ω2 => bindL (h ρ ω2) (k := ⟨fun y ω3 => Res.lift (kGet kvs x y) ω3⟩)⟩)⟩) (asK d)⟩) := by
  unfold eKGet bindL
  cases f ρ ω with
  | stuck => rfl
  | exc _ _ => rfl
  | ok x ω1 =>
    dsimp only [Res.bind]
    unfold getKL
    cases asK x <;> rfl
theorem getKL_run {kvs : KKs} {g : KKs → Res D} : @getKL ⟨g⟩ (some kvs) = g kvs := rfl
def ngoR (j : Nat) (k x : D) (ω : Om) : Option KVs → Res D
  | some kvs => Res.lift (nGet kvs k x) ω
  | none => .stuck
def ngo1 [c : KtC] (o : Option KVs) (ω : Om) : Res D := match o with
  | some _ => c.run ω
  | none => .stuck
def ngo0 [c : KtS Nat D] : Option Nat → Res D
  | some j => c.run j
  | none => .stuck
theorem eNGetO_run (g h : FE D) : eNGetO i g h ρ ω = ngo0 (c := ⟨fun j => ngo1 (c := ⟨fun ω => bindL (g ρ ω) (k := ⟨fun x ω2 => bindL (h ρ ω2) (k := ⟨fun y ω3 => ngoR j x y ω3 (ownN ω3 j)⟩)⟩)⟩) (ownN ω j) ω⟩) (ownK ρ i) := by
  unfold eNGetO ngo0
  cases ownK ρ i with
  | none => rfl
  | some j =>
    dsimp only
    unfold ngo1
    cases ownN ω j with
    | none => rfl
    | some kv =>
      dsimp only [bindL]
      congr 1
theorem ngo0_run {g : Nat → Res D} : @ngo0 ⟨g⟩ (some j) = g j := rfl
theorem ngo1_run {kvs : KVs} {g : Om → Res D} : @ngo1 ⟨g⟩ (some kvs) ω = g ω := rfl
theorem ngoR_run {kvs : KVs} {x y : D} : ngoR j x y ω (some kvs) = Res.lift (nGet kvs x y) ω := rfl
def ownNR : Option (Option OD) → Option KVs
  | some (some (.dcN kvs)) => some kvs
  | _ => none
theorem ownN_run : ownN ω j = ownNR ω[j]? := by unfold ownN ownNR; split <;> simp_all
theorem ownNR_run {kvs : KVs} : ownNR (some (some (.dcN kvs))) = some kvs := rfl
theorem eCopyN_run (f : FE D) : eCopyN f ρ ω = bindL (f ρ ω) (k := ⟨fun d ω1 => copyN ω1 d⟩) := rfl
def npK [c : KtT Nat] : Option Nat → Out
  | some j => c.run j
  | none => .stuck
theorem sNPut_run (f g : FE D) : sNPut i f g ρ ω = outL (g ρ ω) ρ (k := ⟨fun d ω1 => npK (c := ⟨fun j => outL (f ρ ω1) ρ (k := ⟨fun x ω2 => nPutR i j ρ ω2 x d (ownN ω2 j)⟩)⟩) (ownK ρ i)⟩) := by
  unfold sNPut outL
  cases g ρ ω with
  | stuck => rfl
  | exc _ _ => rfl
  | ok x ω1 =>
    dsimp only [Res.out]
    unfold npK
    cases q : ownK ρ i with
    | none => rfl
    | some j => rfl
theorem npK_run {g : Nat → Out} : @npK ⟨g⟩ (some j) = g j := rfl
def starR [c : KtS (List D) (List SV)] : Option (List D) → Res (List SV)
  | some ds => c.run ds
  | none => .stuck
theorem aStar_run (f : FE D) (g : FE (List SV)) : aStar f g ρ ω = bindL (f ρ ω) (k := ⟨fun d ω1 => starR (c := ⟨fun ds => bindL (g ρ ω1) (k := ⟨fun xs ω2 => .ok (ds.map SV.val ++ xs) ω2⟩)⟩) (itSeq d)⟩) := by
  unfold aStar bindL
  cases f ρ ω with
  | stuck => rfl
  | exc _ _ => rfl
  | ok x ω1 =>
    dsimp only [Res.bind]
    unfold starR
    cases itSeq x <;> rfl
theorem starR_run {ds : List D} {g : List D → Res (List SV)} : @starR ⟨g⟩ (some ds) = g ds := rfl
theorem eRg1_run (mk : List D → D) (f : FE D) : eRg1 mk f ρ ω = bindL (f ρ ω) (k := ⟨fun y ω1 => Res.lift (rgD mk (.int 0) y) ω1⟩) := rfl
theorem itNItems_run {kvs : KVs} : itNItems (.dcN kvs) = some (itemsD kvs) := rfl
theorem itNKeys_run {kvs : KVs} : itNKeys (.dcN kvs) = some (kvs.map (·.1)) := rfl
theorem oDictK_run {kvs : KKs} : oDictK [.dcK kvs] = some (.dcK kvs) := rfl
theorem opIn2_K {neg : Bool} {x : D} {kvs : KKs} : opIn2 neg x (.dcK kvs) = (keyK x).map fun k => .bl (if neg then !(dkGet kvs k).isSome else (dkGet kvs k).isSome) := rfl
theorem opKIx_run {x : D} {kvs : KKs} : opKIx (.dcK kvs) x = (keyK x).bind fun k => dkGet kvs k := rfl
theorem keyK_int (i : Int) : keyK (.int i) = some (.inl i) := rfl
end
end Dl
namespace Dl
open PySem PySem.Calls PyProof.Rows PySem.W PySem.SeqAt
section
variable {A : Around} {s : Shared}
end
end Dl
namespace Dl
open PySem L2
section
variable {X : Cx}
end
end Dl
namespace Dl
open PySem L2
open Classical in
section
variable {K : PySem.W.Frag} {mg : MG}
end
section
variable {X : Cx} {W : WX} {pos : Pos}
end
end Dl
namespace Dl
open PySem L2
section
variable {X : Cx}
end
end Dl
namespace Dl
open PySem L2
def isiD2 (u1 u2 : String) (d : D) : Option D := (tyD d).map fun t => .bl (isTy t u1 || isTy t u2)
def eIsi2 (u1 u2 : String) (f : FE D) : FE D := fun ρ ω => (f ρ ω).bind fun d ω1 => Res.lift (isiD2 u1 u2 d) ω1
section
variable {X : Cx} {W : WX}
theorem eIsi2_run (u1 u2 : String) (f : FE D) {ρ : Rho} {ω : Om} : eIsi2 u1 u2 f ρ ω = bindL (f ρ ω) (k := ⟨fun d ω1 => Res.lift (isiD2 u1 u2 d) ω1⟩) := rfl
end
end Dl
namespace Dl
open PySem L2
def copyLR (ω : Om) : D → Res SV
  | .lst ds => .ok (.own ω.length) (ω ++ [some (.lst ds)])
  | .tup ds => .ok (.own ω.length) (ω ++ [some (.lst ds)])
  | _ => .stuck
def eCopyL (f : FE D) : FE SV := fun ρ ω => (f ρ ω).bind fun d ω1 => copyLR ω1 d
section
variable {X : Cx} {W : WX} {e : Expr} {p1 pos : Pos}
theorem eCopyL_run (f : FE D) {ρ : Rho} {ω : Om} : eCopyL f ρ ω = bindL (f ρ ω) (k := ⟨fun d ω1 => copyLR ω1 d⟩) := rfl
theorem copyLR_lst {ω : Om} {ds : List D} : copyLR ω (.lst ds) = .ok (.own ω.length) (ω ++ [some (.lst ds)]) := rfl
theorem copyLR_tup {ω : Om} {ds : List D} : copyLR ω (.tup ds) = .ok (.own ω.length) (ω ++ [some (.lst ds)]) := rfl
theorem gT2_run {f : List D → Rho → Option Rho} {x y : D} {ρ : Rho} : gT 2 f (.tup [x, y]) ρ = f [x, y] ρ := rfl
end
end Dl
namespace Dl
open PySem L2 PySem.W
section
variable {X : Cx} {W : WX} {e : Expr} {te : TE} {p apos cpos pos : Pos}
def nValsD (d : D) : Option D := (asN d).map fun kvs => .lst (kvs.map (·.2))
def eNVals (f : FE D) : FE D := fun ρ ω => (f ρ ω).bind fun d ω1 => Res.lift (nValsD d) ω1
theorem eNVals_run (f : FE D) {ρ : Rho} {ω : Om} : eNVals f ρ ω = bindL (f ρ ω) (k := ⟨fun d ω1 => Res.lift (nValsD d) ω1⟩) := rfl
theorem nValsD_run {kvs : KVs} : nValsD (.dcN kvs) = some (.lst (kvs.map (·.2))) := rfl
end
end Dl
namespace Dl
open PySem L2
def noE : XK := fun _ _ _ => False
theorem pass_no {X : Cx} : Passes (L2.CX X.prog X.w) X noE := fun _ _ _ _ _ _ _ ⟨_, _, _, _, _, _, _, _, _, _, _, _, h⟩ => h.elim
def ansR (r : Option (Except Exn D)) (ω : Om) : Res D := match r with
  | some (.ok d) => .ok d ω
  | _ => .stuck
def isObj (c : Str) : D → Bool
  | .obj c' _ => decide (c' = c)
  | _ => false
def eProp (c : Str) (F : FnP) (f : FE D) : FE D := fun ρ ω => (f ρ ω).bind fun d ω1 => if isObj c d = true then ansR (F [d]) ω1 else .stuck
theorem obj_ins {K : PySem.W.Frag} {mg : MG} {G H : Hp} {c : Str} {C : Addr} {d : D} {v : V} (s : Same G H) (hc : mg c = some (.ref C)) (hd : isObj c d = true) (r : Rep K mg G d v) : ∃ a dx fs, v = .ref a ∧ H a = some (.ins C dx fs) := by
  cases d with
  | obj c' fs =>
    have : c' = c := of_decide_eq_true hd
    subst this
    rw [rep_obj] at r
    obtain ⟨a, C', dx, fvs, rfl, hC, hG, _⟩ := r
    rw [hc] at hC
    cases hC
    exact ⟨a, dx, fvs, rfl, s _ _ hG⟩
  | _ => cases hd
section
variable {X : Cx} {W : WX} {k : Nat} {f C p : Addr} {fd : FuncData} {ps : List Str} {e : Expr} {pos : Pos}
def lenOk : D → Bool
  | .int n => decide (0 ≤ n ∧ n < 2 ^ 63)
  | _ => false
def lenAns (r : Option (Except Exn D)) (ω : Om) : Res D := match r with
  | some (.ok d) => if lenOk d = true then .ok d ω else .stuck
  | _ => .stuck
def eLenO (c : Str) (F : FnP) (f : FE D) : FE D := fun ρ ω => (f ρ ω).bind fun d ω1 => if isObj c d = true then lenAns (F [d]) ω1 else .stuck
def TyNot (K : PySem.W.Frag) (C : Addr) : Prop := ∀ t ∈ tyNames, PySem.W.subIn K (.type t) (.ref C) = some false
structure IsiC (K : PySem.W.Frag) (C : Addr) : Prop where
  no : ∀ t ∈ tyNames, PySem.W.kitOne K (.type t) (.ref C) = some false
  ha : PySem.W.findIn K (.ref C) "__class__" = some (some (.builtin "object.__class__"))
  hn : PySem.W.specialIn K (.builtin "object.__class__") "__get__" = some (some (.builtin "getset_descriptor.__get__"))
  tk : PySem.W.takesIn K (.builtin "object.__class__") = some true
  hm : PySem.W.mroIn K C (.type "object") = some true
def isiC (c : Str) (d : D) : Option D := if isObj c d = true then some (.bl true) else (tyD d).map fun _ => .bl false
def eIsiC (c : Str) (f : FE D) : FE D := fun ρ ω => (f ρ ω).bind fun d ω1 => Res.lift (isiC c d) ω1
theorem de_isiC {c : Str} {fe : FE D} {p1 p2 : Pos} (hi : X.mg "isinstance" = none) (cd : ClsD X.K X.mg c C) (ic : IsiC X.K C) (h : De X W e fe) (hgs : Gl X c := by rfl) (hds : (c == ("__debug__" : Str)) = false := by decide)
    (hg : Gl X "isinstance" := by rfl) (he : starEach (e :: [.Name c p2]) X.env = (false, eval e X.env) :: starEach [.Name c p2] X.env := by rfl) (he2 : starEach (.Name c p2 :: []) X.env = (false, eval (.Name c p2) X.env) :: starEach [] X.env := by rfl)
    (hpl : (backTo pos (starEach [.Name c p2] X.env)).any (·.1) = false := by rfl) (hvi : bootBuiltins "isinstance" = some (.builtin "isinstance") := by decide +kernel) : De X W (.Call (.Name "isinstance" p1) [e, .Name c p2] [] pos) (eIsiC c fe) := by
  obtain ⟨t, q, j⟩ := h
  refine ⟨_, pe_callB call_isi hg hi hvi (pa_cons q (pa_cons (pe_glob (v := .ref C) (pos := p2) hgs cd.gl rfl hds) pa_nil he2) he) (by decide) (by decide) he hpl, fun G α ρ ω σ H Q O S P => ?_⟩
  refine Post.step (t := t σ H) (j G α ρ ω σ H · O S) P fun d ω1 v G1 α1 H1 e1 O1 r1 P1 => ?_
  obtain ⟨y, e2, P2⟩ := P1.lift
  unfold isiC at e2
  by_cases hd : isObj c d = true
  · rw [if_pos hd] at e2
    cases e2
    obtain ⟨a, dx, fs, rfl, hH⟩ := obj_ins O1.sub cd.gl hd r1
    exact ⟨.ref a, .ref C, .ref C, .ref C, true, rfl, .own C, .base (.ins hH cd.cl ic.ha ic.hn ic.tk ic.hm), by unfold PySem.W.kitOne; rw [if_pos (by simp)], Post.here O1 (show Rep X.K X.mg G1 _ _ from rep_bl.mpr rfl) P2⟩
  · rw [if_neg hd] at e2
    cases q1 : tyD d with
    | none => rw [q1] at e2; cases e2
    | some tt =>
      rw [q1] at e2; cases e2
      exact ⟨v, .ref C, .type tt, .ref C, false, rfl, .own C, tyD_of O1.sub q1 r1, ic.no tt (tyD_names q1), Post.here O1 (show Rep X.K X.mg G1 _ _ from rep_bl.mpr rfl) P2⟩
end
end Dl
namespace HT
open PySem PyProof.Rows
open PySem.SeqAt
open PySem.AutoSeq1 (wpAny_loadPart')
open PySem.MeetsSeq PySem.MeetsSeq2 PySem.MeetsSeq3
section
variable {prog : Program} {w : World} {A : Around} {E : Value → Shared → Prop} {s : Shared}
end
end HT
namespace Dl
open PySem L2 PySem.Spec PyProof.Rows
section
variable {X : Cx} {W : WX}
end
theorem isiC_of {K : PySem.W.Frag} {C : Addr} (hd : PySem.W.hasDictIn K C = true) (ty : PySem.W.typeIn K (.ref C) = some (.type "type")) (tn : TyNot K C) (ha : PySem.W.findIn K (.ref C) "__class__" = some (some (.builtin "object.__class__")))
    (hn : PySem.W.specialIn K (.builtin "object.__class__") "__get__" = some (some (.builtin "getset_descriptor.__get__"))) (tk : PySem.W.takesIn K (.builtin "object.__class__") = some true) (hm : PySem.W.mroIn K C (.type "object") = some true) : IsiC K C := by
  refine ⟨fun t ht => ?_, ha, hn, tk, hm⟩
  unfold PySem.W.kitOne
  rw [if_neg (by simp)]
  unfold PySem.W.kitCls
  obtain ⟨cd, hc, _⟩ := PySem.W.any_some hd
  dsimp only
  rw [hc, ty, tn t ht]
  rfl
end Dl
namespace Dl
open PySem L2
section
variable {X : Cx} {W : WX} {k : Nat} {f C : Addr} {fd : FuncData} {ps : List Str} {x : Str} {e o : Expr} {es : List Expr} {p pos apos : Pos} {g : FE (List SV)}
end
end Dl
namespace Dl
open PySem PyProof.Rows PySem.W
open L2 (V Hp VK Cx Inv OpR R2 SqL Vals RelV upd)
end Dl
namespace Dl
open PySem L2
section
variable {K : PySem.W.Frag} {mg : MG} {X : Cx} {W : WX}
end
end Dl
namespace Dl
open PySem PySem.Calls PyProof.Rows PySem.W
section
variable {prog : Program} {w : World} {A : Around} {E : Value → Shared → Prop} {s : Shared}
end
end Dl
namespace Dl
open PySem L2
section
variable {X : Cx}
end
end Dl
namespace PySem.W
open PyProof.Rows
section
variable {prog : Program} {w : World} {A : Around} {E : Value → Shared → Prop} {s : Shared} {K : Frag} {x C L f : Addr} {h₀ : Heap} {m : Str → Option Value} {ox : Obj} {od : Option Obj} {b tb : Value}
end
end PySem.W
namespace Dl
open PySem L2
section
variable {X : Cx} {nms : List Str} {i j : Nat} {y : Str} {e : Expr} {es : List Expr} {pos p' pl p1 p2 p3 p4 : Pos}
end
end Dl
namespace Dl
open PySem L2
section
variable {X : Cx} {W : WX} {k : Nat} {f C : Addr} {fd : FuncData} {ps : List Str}
end
section
variable {X : Cx} {W : WX} {o e : Expr} {fo fe : FE D} {p2 p3 : Pos}
end
end Dl
namespace Dl
open PySem L2
section
variable {K : PySem.W.Frag} {mg : MG}
structure LiesK (K : PySem.W.Frag) (mg : MG) (G0 : Hp) (α0 : List Addr) (H0 : Hp) (L : Addr) (G : Hp) (α : List Addr) (ω : Om) (acc : List (Key × D)) (H : Hp) : Prop where
  ext : Ext G0 α0 H0 G α H
  own : Own K mg G α ω H
  gl : G L = none
  na : L ∉ α
  at_ : ∃ kv, H L = some (.dK kv) ∧ RepK K mg G acc kv
theorem LiesK.step {G0 H0 G H G1 H1 : Hp} {α0 α α1 : List Addr} {L : Addr} {ω ω1 : Om} {acc : List (Key × D)} (B : LiesK K mg G0 α0 H0 L G α ω acc H) (e : Ext G α H G1 α1 H1) (O : Own K mg G1 α1 ω1 H1) : LiesK K mg G0 α0 H0 L G1 α1 ω1 acc H1 := by
  obtain ⟨vsa, h1, h2⟩ := B.at_
  obtain ⟨more, e1, e2⟩ := e.pre
  refine ⟨B.ext.trans e, O, ?_, ?_, vsa, e.keep L _ h1 B.na, RepK.mono e.g _ _ h2⟩
  · cases q : G1 L with
    | none => rfl
    | some o =>
      rcases e.new L o q with z | z | z
      · rw [B.gl] at z; cases z
      · rw [h1] at z; cases z
      · exact absurd z B.na
  · rw [e1]
    intro z
    rcases List.mem_append.mp z with z | z
    · exact B.na z
    · rw [e2 L z] at h1; cases h1
theorem LiesK.set {G0 H0 G H : Hp} {α0 α : List Addr} {L : Addr} {ω : Om} {acc acc' : List (Key × D)} {kv : List (Key × V)} (B : LiesK K mg G0 α0 H0 L G α ω acc H) (h0 : H0 L = none) (r : RepK K mg G acc' kv) : LiesK K mg G0 α0 H0 L G α ω acc' (L2.upd H L (.dK kv)) :=
  ⟨B.ext.setL h0, B.own.setL B.gl B.na, B.gl, B.na, kv, upd_same, r⟩
theorem LiesK.freeze {G0 H0 G H : Hp} {α0 α : List Addr} {L : Addr} {ω : Om} {acc : List (Key × D)} (B : LiesK K mg G0 α0 H0 L G α ω acc H) (h0 : H0 L = none) : ∃ G', Ext G0 α0 H0 G' α H ∧ Own K mg G' α ω H ∧ Rep K mg G' (.dcK acc) (.ref L) := by
  obtain ⟨vsa, h1, h2⟩ := B.at_
  have sg : Same G (L2.upd G L (.dK vsa)) := Same.upd B.gl
  refine ⟨L2.upd G L (.dK vsa), ⟨B.ext.g.trans sg, fun a o h => ?_, B.ext.keep, B.ext.live, B.ext.pre⟩, ⟨fun b u h => ?_, B.own.len, B.own.nd, B.own.ex, fun k u a h3 h4 => ?_⟩, rep_dcK.mpr ⟨L, vsa, rfl, upd_same, RepK.mono sg _ _ h2⟩⟩
  · by_cases z : a = L
    · subst z; exact .inr (.inl h0)
    · rw [upd_ne z] at h; exact B.ext.new a o h
  · by_cases z : b = L
    · subst z; rw [upd_same] at h; cases h; exact h1
    · rw [upd_ne z] at h; exact B.own.sub b u h
  · obtain ⟨q1, q2⟩ := B.own.obj k u a h3 h4
    have : a ≠ L := fun z => B.na (by rw [← z]; exact List.mem_of_getElem? h4)
    exact ⟨by rw [upd_ne this]; exact q1, q2.mono sg rfl⟩
def dcL (tg : FG) (tt : FE Bool) (fk fv : FE D) (ρ : Rho) : List D → List (Key × D) → Om → Res D
  | [], acc, ω => .ok (.dcK acc) ω
  | d :: ds, acc, ω => match tg d ρ with
    | none => .stuck
    | some ρ1 => match tt ρ1 ω with
      | .ok true ω1 => match fk ρ1 ω1 with
        | .ok y ω2 => match fv ρ1 ω2 with
          | .ok z ω3 => match keyK y with
            | some k => if acc.length < lim then dcL tg tt fk fv ρ ds (dkPut acc k z) ω3 else .stuck
            | none => .stuck
          | _ => .stuck
        | _ => .stuck
      | .ok false ω1 => dcL tg tt fk fv ρ ds acc ω1
      | _ => .stuck
def eDc (vs : List Nat) (it : FE (List D)) (tg : FG) (tt : FE Bool) (fk fv : FE D) : FE D := fun ρ ω => (it ρ ω).bind fun ds ω1 => dcL tg tt fk fv (wipeR ρ vs) ds [] ω1
end
section
variable {X : Cx} {W : WX} {pos : Pos}
end
end Dl
namespace Dl
open PySem L2 PySem.W
section
variable {X : Cx} {W : WX} {e : Expr} {fe : FE D}
def sExt (i : Nat) (fe : FE D) : FS := fun ρ ω => match ownK ρ i with
  | none => .stuck
  | some k => match ownL ω k with
    | none => .stuck
    | some _ => (fe ρ ω).out ρ fun d ω1 => match d, ownL ω1 k with
      | .lst es, some ds => if ds.length + es.length ≤ lim then .next ρ (ω1.set k (some (.lst (ds ++ es)))) else .stuck
      | _, _ => .stuck
end
end Dl
namespace Dl
open PySem L2 PySem.Spec PyProof.Rows
def rg3N (a b c : Int) : Nat := (Builtin.Range.rangeSize a b c).toNat
def rg3I (a b c : Int) : List Int := (List.range (rg3N a b c)).map fun i => a + (i : Nat) * c
def Rg3Ok (a b c : Int) : Prop := 0 < c ∧ c < 1000 ∧ Builtin.Range.small a b c = true ∧ rg3N a b c ≤ 16777216
instance (a b c : Int) : Decidable (Rg3Ok a b c) := by unfold Rg3Ok; exact inferInstance
section
variable {X : Cx} {W : WX} {a b c : Expr} {ta tb tc : TE} {p1 p2 pos pos' : Pos}
def rg3D (x y z : D) : Option D := match asInt x, asInt y, asInt z with
  | some i, some j, some k => if Rg3Ok i j k then some (.tup ((rg3I i j k).map D.int)) else none
  | _, _, _ => none
def eRg3 (f g h : FE D) : FE D := fun ρ ω => (f ρ ω).bind fun x ω1 => (g ρ ω1).bind fun y ω2 => (h ρ ω2).bind fun z ω3 => Res.lift (rg3D x y z) ω3
end
end Dl
namespace Dl
open PySem L2
section
variable {K : PySem.W.Frag} {mg : MG}
def lcN (tg : FG) (tt : FE Bool) (el : FE D) (ρ : Rho) : List D → List D → Om → Res SV
  | [], acc, ω => .ok (.own ω.length) (ω ++ [some (.lst acc)])
  | d :: ds, acc, ω => match tg d ρ with
    | none => .stuck
    | some ρ1 => match tt ρ1 ω with
      | .ok true ω1 => match el ρ1 ω1 with
        | .ok y ω2 => if acc.length < lim then lcN tg tt el ρ ds (acc ++ [y]) ω2 else .stuck
        | _ => .stuck
      | .ok false ω1 => lcN tg tt el ρ ds acc ω1
      | _ => .stuck
def eLcN (vs : List Nat) (it : FE (List D)) (tg : FG) (tt : FE Bool) (el : FE D) : FE SV := fun ρ ω => (it ρ ω).bind fun ds ω1 => lcN tg tt el (wipeR ρ vs) ds [] ω1
end
section
variable {X : Cx} {W : WX} {pos : Pos}
end
end Dl
noncomputable section
namespace Pk
open PySem Dl
def f__law_draws : FS :=
  (sRetNew (aCons (aVal (eCallB oList (aCons (aVal (eVar 0)) aNil))) (aCons (aVal (eC (.int 0))) (aCons (aVal (eC (.int 0))) (aCons (aVal (eC (.int 7))) aNil)))))
def F__law_draws : Fn := fnE 1 1 f__law_draws
def f__law_pick : FS :=
  (sSeq (sIf (eTest (eBin opEq (eIxO 0 (eC (.int 2))) (eC (.int 0)))) (sIf (eTest (eBin opLt (eIxO 0 (eC (.int 1))) (eCallB oLen (aCons (aVal (eIxO 0 (eC (.int 0)))) aNil)))) (sSeq (sSet 3 (eIx (eIxO 0 (eC (.int 0))) (eIxO 0 (eC (.int 1)))))
    (sSeq (sSetIx 0 (eC (.int 1)) (eBin opAdd (eIxO 0 (eC (.int 1))) (eC (.int 1))))
    (sIf (eTest (eBin opGe (eVar 3) (eBin opPow (eC (.int 10)) (eC (.int 18))))) (sSetIx 0 (eC (.int 2)) (eVar 3)) (sSetIx 0 (eC (.int 3)) (eBin opMod (eCallB oInt (aCons (aVal (eBin opAdd (eBin opAdd (eBin opMulA (eIxO 0 (eC (.int 3))) (eC (.int 48271))) (eBin opMulA (eVar 3) (eC (.int 69621)))) (eC (.int 11)))) aNil)) (eC (.int 2147483647))))))) (sSetIx 0 (eC (.int 3)) (eBin opMod (eCallB oInt (aCons (aVal (eBin opAdd (eBin opMulA (eIxO 0 (eC (.int 3))) (eC (.int 48271))) (eC (.int 7)))) aNil)) (eC (.int 2147483647))))) sNext)
    (sSeq (sIf (eTest (eBin opGt (eIxO 0 (eC (.int 2))) (eC (.int 0)))) (sSeq (sSet 2 (eBin opMod (eCallB oInt (aCons (aVal (eIxO 0 (eC (.int 2)))) aNil)) (eVar 1)))
    (sSeq (sSetIx 0 (eC (.int 2)) (eBin opDiv (eIxO 0 (eC (.int 2))) (eVar 1)))
    (sRet (eVar 2)))) sNext)
    (sRet (eBin opMod (eBin opMod (eCallB oInt (aCons (aVal (eBin opMulA (eIxO 0 (eC (.int 3))) (eC (.int 16807)))) aNil)) (eC (.int 2147483629))) (eVar 1)))))
def F__law_pick : Fn := fnE 2 4 f__law_pick
def f__law_sockets : FS :=
  (sSeq (sPar 3 4 (aCons (aVal (eTup aNil)) (aCons (aVal (eVal (eCallE F__law_pick (aCons (eSlot 0) (aCons (aVal (eC (.int 20))) aNil))))) aNil)))
    (sSeq (sFor (eIt1 itR1 (eBin opAdd (eC (.int 1)) (eVal (eCallE F__law_pick (aCons (eSlot 0) (aCons (aVal (eVar 1)) aNil)))))) (gN 2)
    (sSeq (sIf (eTest (eBin opLe (eVar 4) (eC (.int 300)))) (sSet 3 (eBin opAdd (eVar 3) (eTup (aCons (aVal (eVar 4)) aNil)))) sNext)
    (sSet 4 (eBin opAdd (eVar 4) (eIx (eList (aCons (aVal (eC (.int 30))) (aCons (aVal (eBin opAdd (eC (.int 1)) (eVal (eCallE F__law_pick (aCons (eSlot 0) (aCons (aVal (eC (.int 40))) aNil)))))) (aCons (aVal (eC (.int 20))) aNil)))) (eVal (eCallE F__law_pick (aCons (eSlot 0) (aCons (aVal (eC (.int 3))) aNil)))))))))
    (sRet (eVar 3))))
def F__law_sockets : Fn := fnE 2 5 f__law_sockets
def f__law_plug : FS :=
  (sSeq (sPar 1 2 (aCons (aVal (eIx (eList (aCons (aVal (eC (.int 0))) (aCons (aVal (eC (.int 5))) (aCons (aVal (eC (.int 10))) (aCons (aVal (eC (.int 15))) (aCons (aVal (eC (.int 20))) (aCons (aVal (eC (.int 30))) (aCons (aVal (eC (.int 40))) (aCons (aVal (eC (.int 60))) aNil))))))))) (eVal (eCallE F__law_pick (aCons (eSlot 0) (aCons (aVal (eC (.int 8))) aNil)))))) (aCons (aVal (eVal (eCallE F__law_pick (aCons (eSlot 0) (aCons (aVal (eC (.int 41))) aNil))))) aNil)))
    (sRet (eTup (aCons (aVal (eVar 1)) (aCons (aVal (eIx (eList (aCons (aVal (eVar 2)) (aCons (aVal (eC (.int 15))) (aCons (aVal (eVar 1)) aNil)))) (eVal (eCallE F__law_pick (aCons (eSlot 0) (aCons (aVal (eC (.int 3))) aNil)))))) (aCons (aVal (eBin opEq (eVal (eCallE F__law_pick (aCons (eSlot 0) (aCons (aVal (eC (.int 2))) aNil)))) (eC (.int 0)))) aNil))))))
def F__law_plug : Fn := fnE 1 3 f__law_plug
def f__law_plugs : FS :=
  (sRet (eCallB oTuple (aCons (aVal (eLc [2] (eIt1 itR1 (eBin opAdd (eC (.int 1)) (eVal (eCallE F__law_pick (aCons (eSlot 0) (aCons (aVal (eVar 1)) aNil)))))) (gN 2) eTrue (eVal (eCallE F__law_plug (aCons (eSlot 0) aNil))))) aNil)))
def F__law_plugs : Fn := fnE 2 3 f__law_plugs
def f_is_from : FS :=
  (sRet (eAnd (eIsi "int" (eVar 0)) (eAnd (eNot (eIsi "bool" (eVar 0))) (eChain opLe opLe (eVar 1) (eVar 0) (eVar 2)))))
def F_is_from : FnP := fnP 3 3 f_is_from
def lc_Strip_d__init_d__2_1 : FE D :=
  (eLc [2] (eIt1 itSeq (eVar 1)) (gN 2) eTrue (eCallP F_is_from (aCons (aVal (eVar 2)) (aCons (aVal (eC (.int 0))) (aCons (aVal (eC (.int 300))) aNil)))))
def lc_Strip_d__init_d__2_2 : FE D :=
  (eLc [2, 3] (eIt2 itZ (eVar 1) (eSl (eVar 1) (ePart (eC (.int 1))) eNoPart)) (gT 2 (gsCons (gN 2) (gsCons (gN 3) gsNil))) eTrue (eBin opLt (eVar 2) (eVar 3)))
def f_Strip_d__init_d__2 : FS :=
  (sSeq (sIf (eOrT (eNotT (eTest (eIsi "tuple" (eVar 1)))) (eNotT (eTest (eChain opLe opLe (eC (.int 1)) (eCallB oLen (aCons (aVal (eVar 1)) aNil)) (eC (.int 9)))))) (sRaise "BadSockets") sNext)
    (sSeq (sIf (eNotT (eTest (eOnL oAllL (eLst lc_Strip_d__init_d__2_1)))) (sRaise "BadSockets") sNext)
    (sSeq (sIf (eNotT (eTest (eOnL oAllL (eLst lc_Strip_d__init_d__2_2)))) (sRaise "BadSockets") sNext)
    (sFldO 0 "Strip" "rows" (eVar 1)))))
def F_Strip_d__init_d__2 : Fn := fnE 2 4 f_Strip_d__init_d__2
def f_Strip_d__eq_d_ : FS :=
  (sRet (eAnd (eIsiC "Strip" (eVar 1)) (eBin opEq (eFld "Strip" "rows" (eVar 0)) (eFld "Strip" "rows" (eVar 1)))))
def F_Strip_d__eq_d_ : FnP := fnP 2 2 f_Strip_d__eq_d_
end Pk
namespace Dl
open PySem
section
variable {prog : Program} {w : World} {A : Around} {R : Result → Shared → Prop} {It q S : Addr} {fp wr : List Addr} {Gn : Array GenState → Array GenState → Prop} {n : Nat} {P : Nat → Value → Prop} {St : Nat → Shared → Prop} {I0 : Shared → Prop} {Iv : Nat → Value → Value → Shared → Prop} {Ix : Nat → Value → Value → Value → Value → Shared → Prop}
end
section
variable {prog : Program} {w : World} {A : Around} {E : Value → Shared → Prop} {s : Shared}
end
end Dl
namespace Dl
open PySem L2 PySem.W
section
variable {X : Cx} {k : Nat} {f : Addr} {fd : FuncData} {ps : List Str}
end
end Dl
namespace Dl
open PySem L2 PySem.W
section
variable {X : Cx} {W : WX} {k : Nat} {f : Addr} {fd : FuncData} {ps : List Str}
end
end Dl
namespace Dl
open PySem L2
def eBinOL (op : D → D → Option D) (i : Nat) (g : FE D) : FE D := fun ρ ω => match ownK ρ i with
  | none => .stuck
  | some k => (g ρ ω).bind fun y ω2 => match ownL ω2 k with
    | some ds => Res.lift (op (.lst ds) y) ω2
    | none => .stuck
section
variable {X : Cx} {W : WX} {b : Expr} {p1 pos : Pos} {g : FE D}
theorem tOpOL_post {r : R2} {op : D → D → Option D} {i : Nat} {ta tb : TE} (B : Bop X.K X.mg r op) (hb : GivesB op) (ha : ∀ σ H Q, (∃ v, σ[i]? = some (some v) ∧ Q v H) → ta σ H Q)
    (kb : ∀ G α ρ ω σ H Q, Own X.K X.mg G α ω H → Slots X.K X.mg G α ρ σ → Post X.K X.mg (RD X.K X.mg) G α H Q (fun c d H' => W c d σ H') (g ρ ω) → tb σ H Q) :
    ∀ G α ρ ω σ H Q, Own X.K X.mg G α ω H → Slots X.K X.mg G α ρ σ → Post X.K X.mg (RD X.K X.mg) G α H Q (fun c d H' => W c d σ H') (eBinOL op i g ρ ω) → tOp r ta tb σ H Q := by
  intro G α ρ ω σ H Q O S P
  unfold eBinOL at P
  cases q1 : ownK ρ i with
  | none => rw [q1] at P; exact P.elim
  | some k =>
    rw [q1] at P; dsimp only at P
    obtain ⟨v, h1, a, h2, rfl⟩ := S.val i _ (ownK_eq q1)
    refine ha σ H _ ⟨_, h1, ?_⟩
    refine Post.step (t := tb σ H) (kb G α ρ ω σ H · O S) P fun y ω2 v2 G2 α2 H2 e2 O2 r2 P2 => ?_
    cases q2 : ownL ω2 k with
    | none => rw [q2] at P2; exact P2.elim
    | some ds =>
      rw [q2] at P2; dsimp only at P2
      obtain ⟨d, e, P3⟩ := P2.lift
      obtain ⟨bb, rfl⟩ := hb _ _ _ e
      obtain ⟨more, em, _⟩ := e2.pre
      have h2' : α2[k]? = some a := by rw [em, List.getElem?_append_left (List.getElem?_eq_some_iff.mp h2).1]; exact h2
      obtain ⟨_, vs, h3, h4⟩ := O2.obj k _ a (ownL_eq q2) h2'
      refine B H2 H2 (.lst ds) y _ _ v2 _ (Same.refl _) e (rep_lst.mpr ⟨a, vs, rfl, SqL.of h3, Reps.mono O2.sub _ _ h4⟩) (Rep.mono O2.sub _ _ r2) fun v G' H' gr q => ?_
      have g2 : Grow G2 H2 G2 H' := ⟨Same.refl _, gr.h, O2.sub.trans gr.h, fun _ _ z => .inl z⟩
      exact Post.grow O2 g2 (rep_bl.mpr (rep_bl.mp q)) P3
theorem dt_cOL {o : CmpOp} {op : D → D → Option D} (i : Nat) {x : Str} (hc : Cmp X o op) (hb : GivesB op) (jb : De X W b g) (hm : behindInMarks o b = false := by first | exact nomark _ | rfl) (hN : X.N[i]? = some x := by rfl) (hv : Vis X.env.scope x := by first | exact Or.inl rfl | exact Or.inr (Or.inl rfl) | exact Or.inr (Or.inr rfl)) (hd : (x == ("__debug__" : Str)) = false := by decide)
    (hcd : (x == ("__classdict__" : Str)) = false := by decide) : Dt X W (.Compare (.Name x p1) [o] [b] pos) (eTest (eBinOL op i g)) := by
  obtain ⟨r, h1, h2⟩ := hc.ex
  obtain ⟨tb, pb, kb⟩ := jb
  exact ⟨_, pt_cmpR h1 (pe_var hN hv hd hcd) pb hm, test_post (tOpOL_post h2 hb (fun σ H Q h => h) kb)⟩
end
end Dl
noncomputable section
namespace Pk
open PySem Dl
end Pk
namespace Dl
open PySem L2 PySem.Spec PyProof.Rows
section
variable {P : Program} {w : World} {A : Around} {E : Value → Shared → Prop} {s : Shared}
end
def insS (x : Int) : List Int → List Int
  | [] => [x]
  | y :: l => if x < y then x :: y :: l else if x = y then y :: l else y :: insS x l
def ssI (ns : List Int) : List Int := ns.foldr insS []
def intsD : List D → Option (List Int)
  | [] => some []
  | .int i :: ds => (intsD ds).map (i :: ·)
  | _ :: _ => none
def oSortSet : D → Option D
  | .lst ds => match intsD ds with
    | some ns => if ns.length ≤ 4000 then some (.lst ((ssI ns).map D.int)) else none
    | none => none
  | _ => none
section
variable {X : Cx} {W : WX} {a : Expr} {ta : TE} {p1 p2 pos pos' : Pos}
def eSortSet (f : FE D) : FE D := fun ρ ω => (f ρ ω).bind fun x ω1 => Res.lift (oSortSet x) ω1
end
end Dl
noncomputable section
namespace Pk
open PySem Dl
end Pk
namespace Dl
open PySem L2 PySem.Spec PyProof.Rows
section
variable {X : Cx} {pins : List (Addr × Obj)} {σ : L2.St} {H : Hp} {s : Shared} {E : Value → Shared → Prop} {a b : Addr} {ep : Nat} {es : NEs} {k : NestedKey}
end
section
variable {X : Cx}
end
end Dl
namespace Dl
open PySem L2
section
variable {K : PySem.W.Frag} {mg : MG}
structure LiesN (K : PySem.W.Frag) (mg : MG) (G0 : Hp) (α0 : List Addr) (H0 : Hp) (L : Addr) (G : Hp) (α : List Addr) (ω : Om) (acc : KVs) (H : Hp) : Prop where
  ext : Ext G0 α0 H0 G α H
  own : Own K mg G α ω H
  gl : G L = none
  na : L ∉ α
  at_ : ∃ ep es, H L = some (dnO L ep es) ∧ RepN K mg G acc es
theorem LiesN.step {G0 H0 G H G1 H1 : Hp} {α0 α α1 : List Addr} {L : Addr} {ω ω1 : Om} {acc : KVs} (B : LiesN K mg G0 α0 H0 L G α ω acc H) (e : Ext G α H G1 α1 H1) (O : Own K mg G1 α1 ω1 H1) : LiesN K mg G0 α0 H0 L G1 α1 ω1 acc H1 := by
  obtain ⟨ep, vsa, h1, h2⟩ := B.at_
  obtain ⟨more, e1, e2⟩ := e.pre
  refine ⟨B.ext.trans e, O, ?_, ?_, ep, vsa, e.keep L _ h1 B.na, RepN.mono e.g _ _ h2⟩
  · cases q : G1 L with
    | none => rfl
    | some o =>
      rcases e.new L o q with z | z | z
      · rw [B.gl] at z; cases z
      · rw [h1] at z; cases z
      · exact absurd z B.na
  · rw [e1]
    intro z
    rcases List.mem_append.mp z with z | z
    · exact B.na z
    · rw [e2 L z] at h1; cases h1
theorem LiesN.set {G0 H0 G H : Hp} {α0 α : List Addr} {L : Addr} {ω : Om} {acc acc' : KVs} {ep : Nat} {kv : NEs} (B : LiesN K mg G0 α0 H0 L G α ω acc H) (h0 : H0 L = none) (r : RepN K mg G acc' kv) : LiesN K mg G0 α0 H0 L G α ω acc' (L2.upd H L (dnO L ep kv)) :=
  ⟨B.ext.setL h0, B.own.setL B.gl B.na, B.gl, B.na, ep, kv, upd_same, r⟩
theorem LiesN.freeze {G0 H0 G H : Hp} {α0 α : List Addr} {L : Addr} {ω : Om} {acc : KVs} (B : LiesN K mg G0 α0 H0 L G α ω acc H) (h0 : H0 L = none) : ∃ G', Ext G0 α0 H0 G' α H ∧ Own K mg G' α ω H ∧ Rep K mg G' (.dcN acc) (.ref L) := by
  obtain ⟨ep, vsa, h1, h2⟩ := B.at_
  have sg : Same G (L2.upd G L (dnO L ep vsa)) := Same.upd B.gl
  refine ⟨L2.upd G L (dnO L ep vsa), ⟨B.ext.g.trans sg, fun a o h => ?_, B.ext.keep, B.ext.live, B.ext.pre⟩, ⟨fun b u h => ?_, B.own.len, B.own.nd, B.own.ex, fun k u a h3 h4 => ?_⟩, rep_dcN.mpr ⟨L, ep, vsa, rfl, upd_same, RepN.mono sg _ _ h2⟩⟩
  · by_cases z : a = L
    · subst z; exact .inr (.inl h0)
    · rw [upd_ne z] at h; exact B.ext.new a o h
  · by_cases z : b = L
    · subst z; rw [upd_same] at h; cases h; exact h1
    · rw [upd_ne z] at h; exact B.own.sub b u h
  · obtain ⟨q1, q2⟩ := B.own.obj k u a h3 h4
    have : a ≠ L := fun z => B.na (by rw [← z]; exact List.mem_of_getElem? h4)
    exact ⟨by rw [upd_ne this]; exact q1, q2.mono sg rfl⟩
end
section
variable {X : Cx} {W : WX} {pos : Pos}
end
end Dl
namespace Dl
open PySem L2 PySem.Spec PyProof.Rows
section
variable {X : Cx} {W : WX} {a : Expr} {ta : TE} {p1 p2 pos pos' : Pos}
end
end Dl
namespace Dl
open PySem L2 PySem.Spec PyProof.Rows
section
variable {X : Cx}
end
end Dl
noncomputable section
namespace Pk
open PySem Dl
end Pk
namespace Dl
open PySem L2
end Dl
noncomputable section
namespace Pk
open PySem Dl
end Pk
namespace Dl
open PySem L2 PySem.Spec PyProof.Rows
section
variable {X : Cx} {W : WX} {x : Str} {p pos pos' : Pos} {C : Addr}
end
section
variable {P : Program} {w : World} {K : PySem.W.Frag} {mg : Str → Option Value} {base : Heap}
end
section
variable {X : Cx} {W : WX} {k : Nat} {f : Addr} {fd : FuncData} {ps : List Str} {x : Str} {e : Expr} {es : List Expr} {p pos : Pos} {g : FE (List SV)}
end
section
variable {X : Cx} {W : WX} {x : Str} {p pos pos' : Pos} {C : Addr} {f : Addr} {k : Nat} {fd : FuncData} {ps fls : List Str} {e : Expr} {es : List Expr} {g : FE (List SV)}
end
section
variable {P : Program} {w : World} {K : PySem.W.Frag} {mg : MG} {base : Heap}
end
def tryRO (nms : List Str) (c : Str) (fr : FS) : Out → Out
  | .exc x ρ ω => if nms.contains x.cls = true then (if subX x.cls c = true then fr ρ ω else .exc x ρ ω) else .stuck
  | o => o
def sTryR (nms : List Str) (c : Str) (b fr : FS) : FS := fun ρ ω => tryRO nms c fr (b ρ ω)
section
variable {X : Cx} {W : WX} {nms : List Str} {c : Str} {C : Addr} {body suite : List Stmt} {b₀ : Stmt} {np pos pos' : Pos} {fb fr : FS}
end
theorem sTryR_run (nms : List Str) (c : Str) (b fr : FS) (ρ : Rho) (ω : Om) : sTryR nms c b fr ρ ω = tryRO nms c fr (b ρ ω) := rfl
end Dl
noncomputable section
namespace Pk
open PySem Dl
def bd__law_small_1 : FS :=
  (sSet 2 (eBin opAdd (eVar 2) (eTup (aCons (aVal (eTup (aCons (aVal (eVal (eCallE F__law_pick (aCons (eSlot 0) (aCons (aVal (eC (.int 7))) aNil))))) (aCons (aVal (eVal (eCallE F__law_pick (aCons (eSlot 0) (aCons (aVal (eC (.int 7))) aNil))))) (aCons (aVal (eBin opEq (eVal (eCallE F__law_pick (aCons (eSlot 0) (aCons (aVal (eC (.int 2))) aNil)))) (eC (.int 0)))) aNil))))) aNil))))
def f__law_small : FS :=
  (sSeq (sSet 2 (eTup aNil))
    (sSeq (sFor (eIt1 itR1 (eBin opAdd (eC (.int 1)) (eVal (eCallE F__law_pick (aCons (eSlot 0) (aCons (aVal (eVar 1)) aNil)))))) (gN 3)
    bd__law_small_1)
    (sRet (eVar 2))))
def F__law_small : Fn := fnE 2 4 f__law_small
end Pk
namespace Dl
open PySem L2 PySem.Spec PyProof.Rows
section
variable {X : Cx} {n m x : Str} {i j : Nat} {body : List Stmt} {c : Value} {pos p1 p2 q1 q2 q3 : Pos} {tb : WX → TS} {Wo : WX}
end
def tryHO (nms : List Str) (c : Str) (i j : Nat) : Out → Out
  | .exc x ρ ω => if nms.contains x.cls = true ∧ i < ρ.length then (if subX x.cls c = true then .next (((ρ.set i none).set j (some (.exc x))).set i none) ω else .exc x ρ ω) else .stuck
  | o => o
def sTryHold (nms : List Str) (c : Str) (i j : Nat) (b : FS) : FS := fun ρ ω => tryHO nms c i j (b ρ ω)
section
variable {X : Cx} {W : WX} {n m c : Str} {i j : Nat} {C : Addr} {nms : List Str} {body : List Stmt} {pos p1 p2 q1 q2 q3 : Pos} {fb : FS}
end
theorem sTryHold_run (nms : List Str) (c : Str) (i j : Nat) (b : FS) (ρ : Rho) (ω : Om) : sTryHold nms c i j b ρ ω = tryHO nms c i j (b ρ ω) := rfl
def isV (nms : List Str) (s : Str) : SV → Option D
  | .exc x => if nms.contains x.cls = true then some (.bl (subX x.cls s)) else none
  | _ => none
def eIsV (nms : List Str) (s : Str) (f : FE SV) : FE D := fun ρ ω => (f ρ ω).bind fun x ω1 => Res.lift (isV nms s x) ω1
section
variable {X : Cx} {W : WX} {nms : List Str} {i : Nat} {e : Expr} {pos p p1 p2 : Pos} {s : Str} {f : FE SV}
end
def xfV (cs : List Str) (f : Str) : SV → Option D
  | .exc x => if cs.contains x.cls = true then x.fs.lookup f else none
  | _ => none
def eXfV (cs : List Str) (f : Str) (g : FE SV) : FE D := fun ρ ω => (g ρ ω).bind fun x ω1 => Res.lift (xfV cs f x) ω1
section
variable {X : Cx} {W : WX} {e : Expr} {te : TE} {pos : Pos} {n : Str}
end
theorem eIsV_run (nms : List Str) (s : Str) (f : FE SV) {ρ : Rho} {ω : Om} : eIsV nms s f ρ ω = bindL (f ρ ω) (k := ⟨fun x ω1 => Res.lift (isV nms s x) ω1⟩) := rfl
theorem eXfV_run (c : List Str) (f : Str) (g : FE SV) {ρ : Rho} {ω : Om} : eXfV c f g ρ ω = bindL (g ρ ω) (k := ⟨fun x ω1 => Res.lift (xfV c f x) ω1⟩) := rfl
end Dl
noncomputable section
namespace Pk
open PySem Dl
end Pk
namespace Dl
open PySem L2
def oStr : List D → Option D
  | [.int n] => if n.natAbs.log2 < 1920 then some (.str (Str.ofString (toString n))) else none
  | _ => none
def oIntS : List D → Option D
  | [.str a] => if a.length ≤ 640 then (intText? a).map D.int else none
  | _ => none
section
variable {K : PySem.W.Frag} {mg : MG}
theorem cop_str : Cop K mg (fun xs H Q => ∃ i, xs = [V.int i] ∧ i.natAbs.log2 < 1920 ∧ Q (.str (toString i)) H) oStr := by
  intro G H ds d vs Q s e r k
  unfold oStr at e
  split at e
  · rename_i n
    split at e
    · rename_i hn
      cases e
      obtain ⟨v, rfl, h1⟩ := reps1 r
      rw [rep_int] at h1
      subst h1
      exact ⟨n, rfl, hn, k _ G H (Grow.refl s) (rep_str.mpr rfl)⟩
    · cases e
  · cases e
theorem cop_intS : Cop K mg (fun xs H Q => ∃ a n, xs = [V.str a] ∧ intText? a = some n ∧ a.length ≤ 640 ∧ Q (.int n) H) oIntS := by
  intro G H ds d vs Q s e r k
  unfold oIntS at e
  split at e
  · rename_i a
    split at e
    · rename_i ha
      obtain ⟨v, rfl, h1⟩ := reps1 r
      rw [rep_str] at h1
      subst h1
      cases q : intText? a with
      | none => rw [q] at e; cases e
      | some n =>
        rw [q] at e
        cases e
        exact ⟨a, n, rfl, q, ha, k _ G H (Grow.refl s) (rep_int.mpr rfl)⟩
    · cases e
  · cases e
end
def strsD : List D → Option (List Str)
  | [] => some []
  | .str x :: ds => (strsD ds).map (x :: ·)
  | _ :: _ => none
theorem strsD_map : ∀ ys : List Str, strsD (ys.map D.str) = some ys
  | [] => rfl
  | y :: ys => by rw [List.map_cons, strsD, strsD_map ys]; rfl
theorem strsD_reps {K : PySem.W.Frag} {mg : MG} {G : Hp} : ∀ {ds : List D} {ys : List Str} {vs : List V}, strsD ds = some ys → Reps K mg G ds vs → vs = ys.map V.str
  | [], ys, vs, h, r => by cases h; rw [reps_nil] at r; rw [r]; rfl
  | .str x :: ds, ys, vs, h, r => by
    rw [strsD] at h
    cases q : strsD ds with
    | none => rw [q] at h; cases h
    | some zs =>
      rw [q] at h
      cases h
      rw [reps_cons] at r
      obtain ⟨v, us, rfl, h1, h2⟩ := r
      rw [rep_str.mp h1, strsD_reps q h2]; rfl
  | .non :: _, _, _, h, _ => by cases h
  | .bl _ :: _, _, _, h, _ => by cases h
  | .int _ :: _, _, _, h, _ => by cases h
  | .tup _ :: _, _, _, h, _ => by cases h
  | .lst _ :: _, _, _, h, _ => by cases h
  | .obj _ _ :: _, _, _, h, _ => by cases h
  | .dcK _ :: _, _, _, h, _ => by cases h
  | .dcN _ :: _, _, _, h, _ => by cases h
theorem reps_strs {K : PySem.W.Frag} {mg : MG} {G : Hp} : ∀ (ys : List Str), Reps K mg G (ys.map D.str) (ys.map V.str)
  | [] => by rw [List.map_nil, reps_nil]; rfl
  | y :: ys => by
    rw [List.map_cons, reps_cons]
    exact ⟨_, _, rfl, rep_str.mpr rfl, reps_strs ys⟩
def joinD (a : Str) (ds : List D) : Option D := match strsD ds with
  | some ys => if (ys.map (·.length)).sum + ys.length * a.length ≤ 16777216 then some (.str (Txt.join a ys)) else none
  | none => none
def splitD (a : Str) : D → Option D
  | .str b => if (b.length == 0) = false ∧ a.length + 2 ≤ lim ∧ (Txt.split a b).length ≤ lim then some (.lst ((Txt.split a b).map D.str)) else none
  | _ => none
def eJoin (f : FE D) (g : FE (List D)) : FE D := fun ρ ω => (f ρ ω).bind fun x ω1 => match x with
  | .str a => (g ρ ω1).bind fun ds ω2 => Res.lift (joinD a ds) ω2
  | _ => .stuck
def eSplit (f g : FE D) : FE D := fun ρ ω => (f ρ ω).bind fun x ω1 => match x with
  | .str a => (g ρ ω1).bind fun y ω2 => Res.lift (splitD a y) ω2
  | _ => .stuck
section
variable {X : Cx} {W : WX} {o e : Expr} {apos pos : Pos} {f : FE D}
theorem de_join {g : FE (List D)} (jo : De X W o f) (je : Dl X W e g) (hs : starEach [e] X.env = [(false, eval e X.env)] := by rfl) (hbase : attributeBase o "join" X.env (eval o X.env) = eval o X.env := by rfl) (hline : (apos.endLine == pos.line) = true := by rfl) :
    De X W (.Call (.Attribute o "join" apos) [e] [] pos) (eJoin f g) := by
  obtain ⟨t, p, k⟩ := jo
  obtain ⟨t2, p2, k2⟩ := je
  refine ⟨_, pe_join p p2 hs hbase hline, fun G α ρ ω σ H Q O S P => ?_⟩
  refine Post.step (t := t σ H) (k G α ρ ω σ H · O S) P fun x ω1 v G1 α1 H1 e1 O1 r1 P1 => ?_
  cases x with
  | str a =>
    have r1 : Rep X.K X.mg G1 (.str a) v := r1
    rw [rep_str] at r1
    subst r1
    refine ⟨⟨a, rfl⟩, ?_⟩
    refine Post.step (t := t2 σ H1) (k2 G1 α1 ρ ω1 σ H1 · O1 (S.mono e1)) P1 fun ds ω2 u G2 α2 H2 e2 O2 r2 P2 => ?_
    obtain ⟨p, vs, rfl, hq, rs⟩ := r2
    obtain ⟨d, e3, P3⟩ := P2.lift
    unfold joinD at e3
    cases q : strsD ds with
    | none => rw [q] at e3; cases e3
    | some ys =>
      rw [q] at e3
      dsimp only at e3
      split at e3
      · rename_i hl
        cases e3
        rw [strsD_reps q rs] at hq
        exact ⟨a, p, ys, rfl, rfl, .inl hq, hl, Post.here O2 (show Rep X.K X.mg G2 _ _ from rep_str.mpr rfl) P3⟩
      · cases e3
  | _ => exact P1.elim
theorem de_split {g : FE D} (jo : De X W o f) (je : De X W e g) (hs : starEach [e] X.env = [(false, eval e X.env)] := by rfl) (hbase : attributeBase o "split" X.env (eval o X.env) = eval o X.env := by rfl) (hline : (apos.endLine == pos.line) = true := by rfl) :
    De X W (.Call (.Attribute o "split" apos) [e] [] pos) (eSplit f g) := by
  obtain ⟨t, p, k⟩ := jo
  obtain ⟨t2, p2, k2⟩ := je
  refine ⟨_, pe_split p p2 hs hbase hline, fun G α ρ ω σ H Q O S P => ?_⟩
  refine Post.step (t := t σ H) (k G α ρ ω σ H · O S) P fun x ω1 v G1 α1 H1 e1 O1 r1 P1 => ?_
  cases x with
  | str a =>
    have r1 : Rep X.K X.mg G1 (.str a) v := r1
    rw [rep_str] at r1
    subst r1
    refine ⟨⟨a, rfl⟩, ?_⟩
    refine Post.step (t := t2 σ H1) (k2 G1 α1 ρ ω1 σ H1 · O1 (S.mono e1)) P1 fun y ω2 u G2 α2 H2 e2 O2 r2 P2 => ?_
    obtain ⟨d, e3, P3⟩ := P2.lift
    unfold splitD at e3
    split at e3
    · rename_i b
      split at e3
      · rename_i hl
        cases e3
        have r2 : Rep X.K X.mg G2 (.str b) u := r2
        rw [rep_str] at r2
        subst r2
        refine ⟨a, b, rfl, rfl, hl.1, by rw [lim_eq]; exact hl.2.1, fun p hp => ?_⟩
        exact Post.grow O2 (Grow.put O2.sub hp) (show Rep X.K X.mg _ _ _ from rep_newL (H := H2) (O2.sub.free hp) (reps_strs _)) P3
      · cases e3
    · cases e3
  | _ => exact P1.elim
end
def opInS (neg : Bool) : D → D → Option D
  | .str x, .str z => match x.cps.toList with
    | [c] => some (.bl (if neg then !decide (c ∈ z.cps.toList) else decide (c ∈ z.cps.toList)))
    | _ => none
  | _, _ => none
theorem one_sign {x : Str} {c : Nat} (h : x.cps.toList = [c]) : x = ⟨#[c]⟩ := by
  obtain ⟨a⟩ := x
  have : a = #[c] := by rw [← Array.toArray_toList (xs := a)]; exact congrArg List.toArray h
  rw [this]
section
variable {X : Cx}
theorem bop_inS {K : PySem.W.Frag} {mg : MG} {neg : Bool} : Bop K mg (fun x y H Q => ∃ (c : Nat) (z : Str), x = .str ⟨#[c]⟩ ∧ y = .str z ∧ Q (.bl (if neg then !decide (c ∈ z.cps.toList) else decide (c ∈ z.cps.toList))) H) (opInS neg) := by
  intro G H x y d v1 v2 Q s e r1 r2 k
  unfold opInS at e
  split at e
  · rename_i x z
    split at e
    · rename_i c hc
      cases e
      rw [rep_str] at r1 r2
      subst r1 r2
      rw [one_sign hc]
      exact ⟨c, z, rfl, rfl, k _ G H (Grow.refl s) (rep_bl.mpr rfl)⟩
    · cases e
  · cases e
theorem cmp_inS : Cmp X .In (opInS false) := ⟨_, op_in_sign, bop_inS⟩
theorem cmp_notInS : Cmp X .NotIn (opInS true) := ⟨_, op_notIn_sign, bop_inS⟩
end
def itStr : D → Option (List D)
  | .str x => some (x.cps.toList.map fun c => .str ⟨#[c]⟩)
  | _ => none
section
variable {X : Cx} {W : WX} {tg e : Expr} {f : FE D}
theorem walk_s {K : PySem.W.Frag} {mg : MG} {x : Str} {st : Hp → Hp → Prop} : WalkD K mg st (Its x) (x.cps.toList.map fun c => .str ⟨#[c]⟩) := by
  intro i G H s q
  refine ⟨fun d hd => ?_, fun hl => by show x.cps.size ≤ i; simpa using hl⟩
  rw [List.getElem?_map] at hd
  cases hc : x.cps.toList[i]? with
  | none => rw [hc] at hd; cases hd
  | some c =>
    rw [hc] at hd
    cases hd
    have hi : i < x.cps.size := by
      have := (List.getElem?_eq_some_iff.mp hc).1
      simpa using this
    refine ⟨hi, fun v H' y => ?_⟩
    obtain ⟨rfl, c', h1, rfl⟩ := y
    rw [Array.getElem?_toList] at hc
    rw [hc] at h1
    cases h1
    exact ⟨G, Grow.refl s, rep_str.mpr rfl⟩
theorem di_str (j : De X W e f) : Di X W tg e (eIt1 itStr f) := by
  obtain ⟨t, q, k⟩ := j
  refine ⟨_, pi_str q, fun G α ρ ω σ H R O S P => ?_⟩
  refine Post.step (t := t σ H) (k G α ρ ω σ H · O S) P fun x ω1 v G1 α1 H1 e1 O1 r1 P1 => ?_
  obtain ⟨ds, e2, P2⟩ := P1.lift
  unfold itStr at e2
  split at e2
  · rename_i x
    cases e2
    have r1 : Rep X.K X.mg G1 (.str x) v := r1
    rw [rep_str] at r1
    subst r1
    exact ⟨x, rfl, Post.here O1 walk_s P2⟩
  · cases e2
end
section
variable {X : Cx} {W : WX} {a b : Expr} {pos : Pos} {f g : FE D}
end
def joinR (x : D) (ω : Om) (k : Str → Res D) : Res D := match x with
  | .str a => k a
  | _ => .stuck
theorem eJoin_run0 {ρ : Rho} {ω : Om} (f : FE D) (g : FE (List D)) : eJoin f g ρ ω = (f ρ ω).bind fun x ω1 => joinR x ω1 fun a => (g ρ ω1).bind fun ds ω2 => Res.lift (joinD a ds) ω2 := by
  unfold eJoin joinR; rfl
theorem eSplit_run0 {ρ : Rho} {ω : Om} (f g : FE D) : eSplit f g ρ ω = (f ρ ω).bind fun x ω1 => joinR x ω1 fun a => (g ρ ω1).bind fun y ω2 => Res.lift (splitD a y) ω2 := by
  unfold eSplit joinR; rfl
def joinRL (x : D) (ω : Om) [k : KtS Str D] : Res D := joinR x ω k.run
theorem eJoin_run {ρ : Rho} {ω : Om} (f : FE D) (g : FE (List D)) : eJoin f g ρ ω = bindL (f ρ ω) (k := ⟨fun x ω1 => joinRL x ω1 (k := ⟨fun a => bindL (g ρ ω1) (k := ⟨fun ds ω2 => Res.lift (joinD a ds) ω2⟩)⟩)⟩) := eJoin_run0 f g
theorem eSplit_run {ρ : Rho} {ω : Om} (f g : FE D) : eSplit f g ρ ω = bindL (f ρ ω) (k := ⟨fun x ω1 => joinRL x ω1 (k := ⟨fun a => bindL (g ρ ω1) (k := ⟨fun y ω2 => Res.lift (splitD a y) ω2⟩)⟩)⟩) := eSplit_run0 f g
theorem joinR_run {ω : Om} (a : Str) (k : Str → Res D) : @joinRL (.str a) ω ⟨k⟩ = k a := rfl
end Dl
namespace Dl
open PySem L2 PySem.SeqAt
open AutoSeq1 (wpAny_loadPart')
section
variable {P : Program} {w : World} {A : Around} {R : Result → Shared → Prop}
theorem tup_neL (l b : Addr) (xs ys : Array Value) (n m : Nat) (d1 d2 : Option Addr) (z1 z2 : Array (Option Value)) (hs : xs.size = ys.size) (I : Nat → Shared → Prop)
    (go : ∀ i (h1 : i < xs.size) (h2 : i < ys.size) s, I i s → wpAny (model P w) A.in1 (eqBool xs[i] ys[i]) (fun r s' => r = true ∧ I (i + 1) s') (fun e s' => R (.error e) s') s)
    (out : ∀ s, I xs.size s → R (.ok (.ret (.bool false))) s) {s : Shared} (hl : s.heap.get? l = some { cls := .type "tuple", dict := d1, data := .seq xs n, slots := z1 }) (hb : s.heap.get? b = some { cls := .type "tuple", dict := d2, data := .seq ys m, slots := z2 }) (h : I 0 s) :
    wpAny (model P w) A.in1 (Builtin.«tuple.__ne__» ⟨[.ref l, .ref b], []⟩) (GQ.FinOf P w A R) (fun e s' => R (.error e) s') s := by
  have fT := AutoSeq1.sub_tuple_tuple
  have hz : (xs.toList.zip ys.toList).length = xs.size := by simp [hs]
  have h00 := h
  obtain ⟨hp, g, d, tk, os⟩ := s
  wp_walk using wpAny_loadPart' hl, wpAny_loadPart' hb, wpAny_forIn_list _ (fun left b s' => b.1 = none ∧ ∃ i, left = (xs.toList.zip ys.toList).drop i ∧ i ≤ xs.size ∧ I i s') _
  case turn =>
    rintro ⟨y, x⟩ left b s' ⟨e1, i, e2, hi, hI⟩
    have lt : i < (xs.toList.zip ys.toList).length := Nat.lt_of_not_le fun h' => by rw [List.drop_of_length_le h'] at e2; cases e2
    have k1 : i < xs.size := hz ▸ lt
    have k2 : i < ys.size := hs ▸ k1
    rw [List.drop_eq_getElem_cons lt] at e2
    injection e2 with e3 e4
    have q1 : y = xs[i] := by have := congrArg Prod.fst e3; simpa using this
    have q2 : x = ys[i] := by have := congrArg Prod.snd e3; simpa using this
    subst q1 q2
    refine wpAny_bind (wpAny_mono (go i k1 k2 s' hI) (fun r s2 z => ?_) fun _ _ x => x)
    obtain ⟨rfl, z⟩ := z
    wp_walk
    exact ⟨rfl, i + 1, e4, k1, z⟩
  case fin =>
    rintro ⟨b1, b2⟩ s' ⟨e1, i, e2, hi, hI⟩
    simp only at e1
    subst e1
    have ge : xs.size ≤ i := Nat.le_of_not_lt fun h' => by rw [List.drop_eq_getElem_cons (hz ▸ h')] at e2; cases e2
    have ei : i = xs.size := by omega
    have fin : R (.ok (.ret (.bool false))) s' := out s' (ei ▸ hI)
    wp_walk
    simpa [Builtin.Tuple.tupleCompareSizes, hs] using fin
  case h => exact ⟨rfl, 0, rfl, Nat.zero_le _, h00⟩
theorem rc_tupNe {E : Value → Shared → Prop} {s : Shared} {l b : Addr} {xs ys : Array Value} {Q : Value → Shared → Prop} (hs : xs.size = ys.size) (hu : A.units < cLine) (I : Nat → Shared → Prop)
    (hl : s.heap.IsTuple l xs) (hb : s.heap.IsTuple b ys)
    (go : ∀ i (h1 : i < xs.size) (h2 : i < ys.size) s, I i s → wpAny (model P w) A.in1 (eqBool xs[i] ys[i]) (fun r s' => r = true ∧ I (i + 1) s') E s)
    (out : ∀ s, I xs.size s → Q (.bool false) s) (h : I 0 s) : wpAny (model P w) A (richCompare .NotEq (.ref l) (.ref b)) Q E s := by
  obtain ⟨⟨c1, d1, t1, z1⟩, o1, e1, n1, f1⟩ := id hl
  obtain ⟨⟨c2, d2, t2, z2⟩, o2, e2, n2, f2⟩ := id hb
  simp only at e1 f1 e2 f2
  subst e1 f1 e2 f2
  refine wpAny_richCompare_same_room (op := .NotEq) ⟨_, o1, rfl⟩ ⟨_, o2, rfl⟩ F.slot_tuple_ne (GQ.call_here F.slot_tuple_ne ⟨_, o1, rfl⟩ F.entry_tuple_ne (F.args_tuple_ne_2 _ _) ?_) hu
  exact tup_neL (R := wants (fun v s' => v ≠ .notImplemented ∧ Q v s') E) l b xs ys n1 n2 d1 d2 z1 z2 hs I go (fun s' q => ⟨(fun x => nomatch x), out s' q⟩) o1 o2 h
end
def DDat (K : PySem.W.Frag) : L2.Eqv := fun x y H => ∃ d e, Dp K H x d ∧ Dp K H y e ∧ shaped d = true ∧ shaped e = true ∧ PyData.eqv d e = true
mutual
theorem Dp.ext {K : PySem.W.Frag} {H H' : Hp} (s : Same H H') : ∀ (d : PyData) (v : V), Dp K H v d → Dp K H' v d
  | .none, _, h => by cases h; exact .non
  | .bool _, _, h => by cases h; exact .bl _
  | .int _, _, h => by cases h; exact .int _
  | .str _, _, h => by cases h; exact .str _
  | .list ds, _, h => by
    cases h with
    | lst q r => exact .lst (SqL.ext q s) (DpAll.ext s ds _ r)
  | .tuple ds, _, h => by
    cases h with
    | tup q r => exact .tup (SqT.ext q s) (DpAll.ext s ds _ r)
  | .dict _, _, h => by cases h
theorem DpAll.ext {K : PySem.W.Frag} {H H' : Hp} (s : Same H H') : ∀ (ds : List PyData) (vs : List V), DpAll K H vs ds → DpAll K H' vs ds
  | [], _, h => by cases h; exact .nil
  | d :: ds, _, h => by
    cases h with
    | cons a b => exact .cons (Dp.ext s d _ a) (DpAll.ext s ds _ b)
end
theorem mon_dat {K : PySem.W.Frag} : Mon (DDat K) := fun x y H H' e ⟨p, q, h1, h2, h3⟩ => ⟨p, q, Dp.ext e _ _ h1, Dp.ext e _ _ h2, h3⟩
section
variable {X : Cx} {k : Nat} {f C : Addr} {fd : FuncData} {ps : List Str}
theorem eqG_dat : EqG X k (DDat X.K) := by
  intro A pins s σ H x y u v sb I rx ry d
  obtain ⟨p, q, h1, h2, s1, s2, e⟩ := d
  obtain ⟨as, r1⟩ := Dp.reads I p x u h1 rx
  obtain ⟨bs, r2⟩ := Dp.reads I q y v h2 ry
  have t := eqAt_reads p q A s u v as bs r1 r2 (canLay_of_shaped s1) (canLay_of_shaped s2) (room_of_shaped s1 sb.room.units)
  rw [e] at t
  exact t X.prog X.w X.xe _ ⟨rfl, H, I, Ext.rfl'⟩
def saysEq (F : FnP) (x y : D) : Bool := match F [x, y] with
  | some (.ok (.bl true)) => true
  | _ => false
def REq (K : PySem.W.Frag) (mg : MG) (F : FnP) (a b : Addr) (H : Hp) : Prop := ∃ G x y, Same G H ∧ Rep K mg G x (.ref a) ∧ Rep K mg G y (.ref b) ∧ saysEq F x y = true
theorem eqG_own {F : FnP} (ok : FnOk X.prog X.w X.K X.mg X.base (L2.CX X.prog X.w) k f fd ps (spP X.K X.mg F)) (hs : PySem.W.findIn X.K (.ref C) "__eq__" = some (some (.ref f))) (hf : PySem.W.isFn X.K (.ref f) = true) (hb : Binds X.K fd ps []) : EqG X k (DIns C (REq X.K X.mg F)) := by
  refine eqG_ins (E := noE) (ok.imp (sp' := spEq (REq X.K X.mg F)) fun vs H Q E q => ?_) hs hf hb pass_no
  obtain ⟨a, b, rfl, ⟨G, x, y, s, r1, r2, e⟩, k⟩ := q
  refine ⟨G, [x, y], s, by rw [reps_cons]; exact ⟨_, _, rfl, r1, Reps.one r2⟩, ?_⟩
  unfold saysEq at e
  split at e
  · rename_i h
    rw [h]
    intro v G' H' gr r
    rw [rep_bl] at r
    subst r
    exact k H' gr.h
  · cases e
theorem mon_REq {K : PySem.W.Frag} {mg : MG} {F : FnP} : Mon (DIns C (REq K mg F)) := mon_ins fun a b H H' e ⟨G, x, y, s, r⟩ => ⟨G, x, y, Same.trans s e, r⟩
def rNeG (K : PySem.W.Frag) (D : L2.Eqv) : R2 := fun x y H Q => DTup K D x y H ∧ ∀ H', L2.Ext H H' → Q (.bl false) H'
theorem op_neG {D : L2.Eqv} (hD : Mon D) (h : EqG X k D) (hr : Room (k + 1) X.A) : OpR X (compareOp .NotEq) (rNeG X.K D) := by
  intro pins s σ H x y v u Q I rx ry hq
  obtain ⟨⟨a, b, xs, ys, rfl, rfl, ha, hb, p⟩, q⟩ := hq
  cases rx
  cases ry
  show wpAny (model X.prog X.w) X.A (richCompare .NotEq (.ref a) (.ref b)) (EP X pins σ Q) X.xe s
  obtain ⟨its, r, e, z⟩ := I.tuple ha
  obtain ⟨its2, r2, e2, z2⟩ := I.tuple hb
  have hsz : its.toArray.size = its2.toArray.size := by rw [List.size_toArray, List.size_toArray, ← r.length, ← r2.length]; exact p.1
  refine rc_tupNe hsz hr.units0 (fun _ s' => LoopI X pins σ H s') e e2 (fun i h1 h2 s' q => turnG hD h ⟨hr, rfl⟩ p r r2 i h1 h2 s' q) (fun s' l => ?_) ⟨H, I, Ext.rfl'⟩
  obtain ⟨H', I', x'⟩ := l
  exact ⟨.bl false, H', I', rfl, q H' x'⟩
def eqItem (c : Str) (F : FnP) (x y : D) : Bool := if isObj c x && isObj c y then saysEq F x y else eqD x y == some true
def eqItems (c : Str) (F : FnP) : List D → List D → Bool
  | [], [] => true
  | x :: xs, y :: ys => eqItem c F x y && eqItems c F xs ys
  | _, _ => false
def opNeT (c : Str) (F : FnP) (x y : D) : Option D := match x, y with
  | .tup xs, .tup ys => if eqItems c F xs ys = true then some (.bl false) else none
  | x, y => opNe x y
abbrev DItem (K : PySem.W.Frag) (mg : MG) (C : Addr) (F : FnP) : L2.Eqv := fun x y H => DIns C (REq K mg F) x y H ∨ DDat K x y H
theorem item_of {K : PySem.W.Frag} {mg : MG} {c : Str} {F : FnP} (hc : mg c = some (.ref C)) {G H : Hp} (s : Same G H) {x y : D} {v u : V} (e : eqItem c F x y = true) (r1 : Rep K mg G x v) (r2 : Rep K mg G y u) : DItem K mg C F v u H := by
  unfold eqItem at e
  split at e
  · rename_i h
    rw [Bool.and_eq_true] at h
    obtain ⟨a, dx, fs, rfl, h1⟩ := obj_ins s hc h.1 r1
    obtain ⟨b, dy, gs, rfl, h2⟩ := obj_ins s hc h.2 r2
    exact .inl ⟨a, b, dx, dy, fs, gs, rfl, rfl, h1, h2, G, x, y, s, r1, r2, e⟩
  · have e := eq_of_beq e
    unfold eqD at e
    split at e
    · rename_i p q hp hq
      split at e
      · rename_i hs
        rw [Bool.and_eq_true] at hs
        exact .inr ⟨p, q, dp_of s _ _ _ hp r1, dp_of s _ _ _ hq r2, hs.1, hs.2, Option.some.inj e⟩
      · cases e
    · cases e
theorem items_of {K : PySem.W.Frag} {mg : MG} {c : Str} {F : FnP} (hc : mg c = some (.ref C)) {G H : Hp} (s : Same G H) : ∀ {xs ys : List D} {vs us : List V}, eqItems c F xs ys = true → Reps K mg G xs vs → Reps K mg G ys us → Prs (DItem K mg C F) vs us H
  | [], [], vs, us, _, r1, r2 => by rw [reps_nil] at r1 r2; subst r1 r2; exact Prs.nil
  | x :: xs, y :: ys, vs, us, e, r1, r2 => by
    rw [eqItems, Bool.and_eq_true] at e
    rw [reps_cons] at r1 r2
    obtain ⟨v, vs', rfl, a1, b1⟩ := r1
    obtain ⟨u, us', rfl, a2, b2⟩ := r2
    exact Prs.cons (item_of hc s e.1 a1 a2) (items_of hc s e.2 b1 b2)
  | [], _ :: _, _, _, e, _, _ => by cases e
  | _ :: _, [], _, _, e, _, _ => by cases e
theorem bop_neT {K : PySem.W.Frag} {mg : MG} {c : Str} {F : FnP} (hc : mg c = some (.ref C)) : Bop K mg (fun x y H Q => rNeG K (DItem K mg C F) x y H Q ∨ rNeD K x y H Q) (opNeT c F) := by
  intro G H x y d v1 v2 Q s e r1 r2 k
  unfold opNeT at e
  split at e
  · rename_i xs ys
    split at e
    · rename_i h
      cases e
      rw [rep_tup] at r1 r2
      obtain ⟨a, vs, rfl, h1, p1⟩ := r1
      obtain ⟨b, us, rfl, h2, p2⟩ := r2
      exact .inl ⟨⟨a, b, vs, us, rfl, rfl, Same.sqT s h1, Same.sqT s h2, items_of hc s h p1 p2⟩, fun H' x => k _ G H' ⟨Same.refl _, x, Same.trans s x, fun _ _ h => .inl h⟩ (rep_bl.mpr rfl)⟩
    · cases e
  · exact .inr (bop_ne G H x y d v1 v2 Q s e r1 r2 k)
theorem cmp_neT {c : Str} {F : FnP} (cd : ClsD X.K X.mg c C) (hs : PySem.W.findIn X.K (.ref C) "__eq__" = some (some (.ref f))) (hf : PySem.W.isFn X.K (.ref f) = true) (ok : FnOk X.prog X.w X.K X.mg X.base (L2.CX X.prog X.w) k f fd ps (spP X.K X.mg F)) (hr : Room (k + 1) X.A) (hb : Binds X.K fd ps []) : Cmp X .NotEq (opNeT c F) :=
  ⟨_, (op_neG (Mon.or mon_REq mon_dat) ((eqG_own ok hs hf hb).or eqG_dat) hr).or (op_neD hr.units), bop_neT cd.gl⟩
end
end Dl
noncomputable section
namespace Pk
open PySem Dl
def lc_number_in_1 : FE D :=
  (eLc [6] (eIt1 itStr (eVar 5)) (gN 6) eTrue (eBin (opInS false) (eVar 6) (eC (.str "0123456789"))))
def f_number_in : FS :=
  (sSeq (sSet 5 (eIf (eTest (eBin opLt (eVar 1) (eCallB oLen (aCons (aVal (eVar 0)) aNil)))) (eIx (eVar 0) (eVar 1)) (eC (.str ""))))
    (sSeq (sIf (eOrT (eNotT (eTest (eChain opLe opLe (eC (.int 1)) (eCallB oLen (aCons (aVal (eVar 5)) aNil)) (eC (.int 3))))) (eNotT (eTest (eOnL oAllL (eLst lc_number_in_1))))) (sRaiseI "BadLine" ["line", "word"] (aCons (aVal (eVar 2)) (aCons (aVal (eBin opAdd (eVar 1) (eC (.int 1)))) aNil))) sNext)
    (sSeq (sIf (eOrT (eTest (eBin opNe (eCallB oStr (aCons (aVal (eCallB oIntS (aCons (aVal (eVar 5)) aNil))) aNil)) (eVar 5))) (eNotT (eTest (eChain opLe opLe (eVar 3) (eCallB oIntS (aCons (aVal (eVar 5)) aNil)) (eVar 4))))) (sRaiseI "BadLine" ["line", "word"] (aCons (aVal (eVar 2)) (aCons (aVal (eBin opAdd (eVar 1) (eC (.int 1)))) aNil))) sNext)
    (sRet (eCallB oIntS (aCons (aVal (eVar 5)) aNil))))))
def F_number_in : FnP := fnP 5 7 f_number_in
def bd_strip_in_1 : FS :=
  (sSeq (sIf (eTest (eBin opEq (eOnL oLenL (eOwnL 1)) (eC (.int 9)))) (sRaiseI "BadLine" ["line", "word"] (aCons (aVal (eC (.int 1))) (aCons (aVal (eBin opAdd (eVar 2) (eC (.int 1)))) aNil))) sNext)
    (sApp 1 (eCallP F_number_in (aCons (aVal (eVar 0)) (aCons (aVal (eVar 2)) (aCons (aVal (eC (.int 1))) (aCons (aVal (eIf (eTest (eBinOL opNe 1 (eList aNil))) (eBin opAdd (eIxO 1 (eUn opNeg (eC (.int 1)))) (eC (.int 1))) (eC (.int 0)))) (aCons (aVal (eC (.int 300))) aNil))))))))
def f_strip_in : FS :=
  (sSeq (sIf (eTest (eBin opNe (eSl (eVar 0) eNoPart (ePart (eC (.int 1)))) (eList (aCons (aVal (eC (.str "strip"))) aNil)))) (sRaiseI "BadLine" ["line", "word"] (aCons (aVal (eC (.int 1))) (aCons (aVal (eC (.int 1))) aNil))) sNext)
    (sSeq (sNewL 1 aNil)
    (sSeq (sFor (eIt2 itR2 (eC (.int 1)) (eCallB oMax (aCons (aVal (eC (.int 2))) (aCons (aVal (eCallB oLen (aCons (aVal (eVar 0)) aNil))) aNil)))) (gN 2)
    bd_strip_in_1)
    (sRet (eMake "Strip" F_Strip_d__init_d__2 (aCons (aVal (eOnL oTupleL (eOwnL 1))) aNil))))))
def F_strip_in : FnP := fnP 1 3 f_strip_in
def f_plug_in : FS :=
  (sSeq (sIf (eTest (eBin opNe (eSl (eVar 0) eNoPart (ePart (eC (.int 1)))) (eList (aCons (aVal (eC (.str "plug"))) aNil)))) (sRaiseI "BadLine" ["line", "word"] (aCons (aVal (eVar 1)) (aCons (aVal (eC (.int 1))) aNil))) sNext)
    (sSeq (sPar 2 3 (aCons (aVal (eCallP F_number_in (aCons (aVal (eVar 0)) (aCons (aVal (eC (.int 1))) (aCons (aVal (eVar 1)) (aCons (aVal (eC (.int 0))) (aCons (aVal (eC (.int 60))) aNil))))))) (aCons (aVal (eCallP F_number_in (aCons (aVal (eVar 0)) (aCons (aVal (eC (.int 2))) (aCons (aVal (eVar 1)) (aCons (aVal (eC (.int 0))) (aCons (aVal (eC (.int 60))) aNil))))))) aNil)))
    (sSeq (sIf (eAndT (eTest (eBin opGt (eCallB oLen (aCons (aVal (eVar 0)) aNil)) (eC (.int 3)))) (eTest (eBin opNe (eIx (eVar 0) (eC (.int 3))) (eC (.str "turns"))))) (sRaiseI "BadLine" ["line", "word"] (aCons (aVal (eVar 1)) (aCons (aVal (eC (.int 4))) aNil))) sNext)
    (sSeq (sIf (eTest (eBin opGt (eCallB oLen (aCons (aVal (eVar 0)) aNil)) (eC (.int 4)))) (sRaiseI "BadLine" ["line", "word"] (aCons (aVal (eVar 1)) (aCons (aVal (eC (.int 5))) aNil))) sNext)
    (sRet (eTup (aCons (aVal (eVar 2)) (aCons (aVal (eVar 3)) (aCons (aVal (eBin opGt (eCallB oLen (aCons (aVal (eVar 0)) aNil)) (eC (.int 3)))) aNil)))))))))
def F_plug_in : FnP := fnP 2 4 f_plug_in
def lc_read_1 : FE D :=
  (eLc [7] (eIt1 itSeq (eSplit (eVar 6) (eC (.str " ")))) (gN 7) (eTest (eBin opNe (eVar 7) (eC (.str "")))) (eVar 7))
def lc_read_2 : FE D :=
  (eLc [6] (eIt1 itSeq (eSplit (eVar 0) (eC (.str "\n")))) (gN 6) eTrue lc_read_1)
def bd_read_3 : FS :=
  (sSeq (sIf (eTest (eBin opEq (eOnL oLenL (eOwnL 3)) (eC (.int 5)))) (sRaiseI "BadLine" ["line", "word"] (aCons (aVal (eBin opAdd (eVar 4) (eC (.int 2)))) (aCons (aVal (eC (.int 1))) aNil))) sNext)
    (sApp 3 (eCallP F_plug_in (aCons (aVal (eVar 5)) (aCons (aVal (eBin opAdd (eVar 4) (eC (.int 2)))) aNil)))))
def f_read : FS :=
  (sSeq (sSet 1 lc_read_2)
    (sSeq (sPar 2 3 (aCons (aVal (eCallP F_strip_in (aCons (aVal (eIx (eVar 1) (eC (.int 0)))) aNil))) (aCons (eNewL aNil) aNil)))
    (sSeq (sFor (eIt1 itEn (eSl (eVar 1) (ePart (eC (.int 1))) eNoPart)) (gT 2 (gsCons (gN 4) (gsCons (gN 5) gsNil)))
    bd_read_3)
    (sSeq (sIf (eTest (eBinOL opEq 3 (eList aNil))) (sRaiseI "BadLine" ["line", "word"] (aCons (aVal (eC (.int 2))) (aCons (aVal (eC (.int 1))) aNil))) sNext)
    (sRet (eTup (aCons (aVal (eVar 2)) (aCons (aVal (eOnL oTupleL (eOwnL 3))) aNil))))))))
def F_read : FnP := fnP 1 8 f_read
end Pk
noncomputable section
namespace Pk
open PySem Dl
end Pk
namespace Dl
open PySem L2
def addLR (ω : Om) : D → D → Res SV
  | .lst a, .lst b => if a.length + b.length ≤ lim then .ok (.own ω.length) (ω ++ [some (.lst (a ++ b))]) else .stuck
  | _, _ => .stuck
def eAddL (f g : FE D) : FE SV := fun ρ ω => (f ρ ω).bind fun x ω1 => (g ρ ω1).bind fun y ω2 => addLR ω2 x y
def eSlO (i : Nat) (lo hi : FE (Option Int)) : FE D := fun ρ ω => match ownK ρ i with
  | some k => (lo ρ ω).bind fun l ω1 => (hi ρ ω1).bind fun u ω2 => match ownL ω2 k with
    | some ds => Res.lift (slD l u (.lst ds)) ω2
    | none => .stuck
  | none => .stuck
section
variable {X : Cx} {W : WX} {a b : Expr} {pos : Pos} {f g : FE D}
theorem dv_addL (ja : De X W a f) (jb : De X W b g) : Dv X W (.BinOp a .Add b pos) (eAddL f g) := by
  obtain ⟨ta, pa, ka⟩ := ja
  obtain ⟨tb, pb, kb⟩ := jb
  refine ⟨_, pe_op op_catS pa pb, fun G α ρ ω σ H Q O S P => ?_⟩
  refine Post.step (t := ta σ H) (ka G α ρ ω σ H · O S) P fun x ω1 v1 G1 α1 H1 e1 O1 r1 P1 => ?_
  refine Post.step (t := tb σ H1) (kb G1 α1 ρ ω1 σ H1 · O1 (S.mono e1)) P1 fun y ω2 v2 G2 α2 H2 e2 O2 r2 P2 => ?_
  have r1 : Rep X.K X.mg G2 x v1 := Rep.mono e2.g _ _ r1
  have r2 : Rep X.K X.mg G2 y v2 := r2
  unfold addLR at P2
  split at P2
  · split at P2
    · rename_i hl
      rw [rep_lst] at r1 r2
      obtain ⟨p, vs, rfl, h1, h2⟩ := r1
      obtain ⟨q, us, rfl, h3, h4⟩ := r2
      refine ⟨p, q, vs, us, rfl, rfl, O2.sub.seq h1, O2.sub.seq h3, by rw [h2.length, h4.length]; exact hl, fun l hp => ?_⟩
      obtain ⟨O3, e3⟩ := O2.new (u := .lst (vs ++ us)) (o := .lst _) hp ⟨vs ++ us, upd_same, h2.append h4⟩
      refine P2 _ G2 _ _ e3 O3 ⟨l, ?_, rfl⟩
      rw [← O2.len, List.getElem?_append_right (Nat.le_refl _)]
      simp
    · exact P2.elim
  · exact P2.elim
theorem de_slO (i : Nat) {x : Str} {p1 p2 : Pos} {lo hi : Option Expr} {fl fh : FE (Option Int)} (hl : Do X W lo fl) (hh : Do X W hi fh) (hN : X.N[i]? = some x := by rfl) (hv : Vis X.env.scope x := by first | exact Or.inl rfl | exact Or.inr (Or.inl rfl) | exact Or.inr (Or.inr rfl)) (hd : (x == ("__debug__" : Str)) = false := by decide)
    (hcd : (x == ("__classdict__" : Str)) = false := by decide) : De X W (.Subscript (.Name x p1) (.Slice lo hi none p2) pos) (eSlO i fl fh) := by
  obtain ⟨tl, pl, jl⟩ := hl
  obtain ⟨th, ph, jh⟩ := hh
  refine ⟨_, pe_slice sl_both (pe_var hN hv hd hcd) pl ph, fun G α ρ ω σ H Q O S P => ?_⟩
  unfold eSlO at P
  cases q1 : ownK ρ i with
  | none => rw [q1] at P; exact P.elim
  | some kk =>
    rw [q1] at P; dsimp only at P
    obtain ⟨v, h1, a, h2, rfl⟩ := S.val i _ (ownK_eq q1)
    refine ⟨_, h1, ?_⟩
    refine Post.step (t := tl σ H) (jl G α ρ ω σ H · O S) P fun l ω1 l' G1 α1 H1 e1 O1 r1 P1 => ?_
    refine Post.step (t := th σ H1) (jh G1 α1 ρ ω1 σ H1 · O1 (S.mono e1)) P1 fun u ω2 u' G2 α2 H2 e2 O2 r2 P2 => ?_
    cases r1
    cases r2
    cases q3 : ownL ω2 kk with
    | none => rw [q3] at P2; exact P2.elim
    | some ds =>
      rw [q3] at P2; dsimp only at P2
      obtain ⟨y, e4, P4⟩ := P2.lift
      obtain ⟨more, e5, _⟩ := (e1.trans e2).pre
      have h2' : α2[kk]? = some a := by rw [e5, List.getElem?_append_left (List.getElem?_eq_some_iff.mp h2).1]; exact h2
      obtain ⟨_, vs, h5, h6⟩ := O2.obj kk _ a (ownL_eq q3) h2'
      cases e4
      exact .inr ⟨a, vs, rfl, SqL.of h5, fun p hp => Post.grow O2 (Grow.put O2.sub hp) (show Rep X.K X.mg _ _ _ from rep_newL (H := H2) (O2.sub.free hp) (cut_reps _ _ h6)) P4⟩
theorem eAddL_run (f g : FE D) {ρ : Rho} {ω : Om} : eAddL f g ρ ω = bindL (f ρ ω) (k := ⟨fun x ω1 => bindL (g ρ ω1) (k := ⟨fun y ω2 => addLR ω2 x y⟩)⟩) := rfl
theorem eSlO_run {i : Nat} (lo hi : FE (Option Int)) {ρ : Rho} {ω : Om} : eSlO i lo hi ρ ω = someRL (ownK ρ i) (k := ⟨fun k => bindL (lo ρ ω) (k := ⟨fun l ω1 => bindL (hi ρ ω1) (k := ⟨fun u ω2 => someRL (ownL ω2 k) (k := ⟨fun ds => Res.lift (slD l u (.lst ds)) ω2⟩)⟩)⟩)⟩) := by
  unfold eSlO
  cases ownK ρ i with
  | none => rfl
  | some k =>
    show Res.bind (lo ρ ω) _ = Res.bind (lo ρ ω) _
    congr 1
    funext l ω1
    show Res.bind (hi ρ ω1) _ = Res.bind (hi ρ ω1) _
    congr 1
    funext u ω2
    show _ = someRL (ownL ω2 k) (k := ⟨fun ds => Res.lift (slD l u (.lst ds)) ω2⟩)
    cases ownL ω2 k <;> rfl
theorem addLR_run {ω : Om} {a b : List D} (h : a.length + b.length ≤ lim) : addLR ω (.lst a) (.lst b) = .ok (.own ω.length) (ω ++ [some (.lst (a ++ b))]) := by unfold addLR; dsimp only; rw [if_pos h]
end
end Dl
noncomputable section
namespace Pk
open PySem Dl
def lc__law_linesE_1 : FE D :=
  (eLc [6] (eIt1 itSeq (eVar 0)) (gN 6) eTrue (eCallB oStr (aCons (aVal (eVar 6)) aNil)))
def bd__law_linesE_2 : FS :=
  (sApp 2 (eBin opAdd (eBin opAdd (eBin opAdd (eBin opAdd (eC (.str "plug ")) (eCallB oStr (aCons (aVal (eVar 3)) aNil))) (eC (.str " "))) (eCallB oStr (aCons (aVal (eVar 4)) aNil))) (eIf (eTest (eVar 5)) (eC (.str " turns")) (eC (.str "")))))
def f__law_linesE : FS :=
  (sSeq (sNewL 2 (aCons (aVal (eJoin (eC (.str " ")) (eLst (eBin opAdd (eList (aCons (aVal (eC (.str "strip"))) aNil)) lc__law_linesE_1)))) aNil))
    (sSeq (sFor (eIt1 itSeq (eVar 1)) (gT 3 (gsCons (gN 3) (gsCons (gN 4) (gsCons (gN 5) gsNil))))
    bd__law_linesE_2)
    (sRetS (eSlot 2))))
def F__law_linesE : Fn := fnE 2 7 f__law_linesE
def tr__law_told_there_4_1 : FS :=
  (sSet 1 (eCallP F_read (aCons (aVal (eVar 0)) aNil)))
def f__law_told_there_4 : FS :=
  (sSeq (sSet 1 (eC .non))
    (sSeq (sTry ["BadSockets", "BadLine"] 2 tr__law_told_there_4_1 [("BadLine", fun x => sSet 1 ((fun x => eIf (eTest ((eIsx "StripError") x)) ((fun x => eList ((fun x => aCons (aVal ((fun _ => (eC (.str "line"))) x)) ((fun x => aCons (aVal ((eXf "BadLine" "line") x)) ((fun x => aCons (aVal ((eXf "BadLine" "word") x)) ((fun _ => aNil) x)) x)) x)) x)) x) ((fun _ => (eC (.str "another"))) x)) x))])
    (sRet (eVar 1))))
def F__law_told_there_4 : FnP := fnP 1 3 f__law_told_there_4
def lc__law_bad_1 : FE D :=
  (eLc [4] (eIt1 itStr (eIx (eVar 0) (eVar 1))) (gN 4) (eTest (eBin (opInS true) (eVar 4) (eC (.str "0123456789")))) (eVar 4))
def f__law_bad : FS :=
  (sSeq (sIf (eOrT (eTest (eBin opGe (eVar 1) (eCallB oLen (aCons (aVal (eVar 0)) aNil)))) (eTest (eBin opGt (eCallB oLen (aCons (aVal (eIx (eVar 0) (eVar 1))) aNil)) (eC (.int 3))))) (sRet (eC (.bl true))) sNext)
    (sSeq (sIf (eTest (eBin opNe lc__law_bad_1 (eList aNil))) (sRet (eC (.bl true))) sNext)
    (sRet (eOr (eBin opNe (eCallB oStr (aCons (aVal (eCallB oIntS (aCons (aVal (eIx (eVar 0) (eVar 1))) aNil))) aNil)) (eIx (eVar 0) (eVar 1))) (eNot (eChain opLe opLe (eVar 2) (eCallB oIntS (aCons (aVal (eIx (eVar 0) (eVar 1))) aNil)) (eVar 3)))))))
def F__law_bad : FnP := fnP 4 5 f__law_bad
def bd__law_first_2_1 : FS :=
  (sSeq (sIf (eOrT (eTest (eBin opEq (eVar 2) (eC (.int 10)))) (eTest (eCallP F__law_bad (aCons (aVal (eVar 0)) (aCons (aVal (eVar 2)) (aCons (aVal (eVar 1)) (aCons (aVal (eC (.int 300))) aNil))))))) (sRet (eBin opAdd (eVar 2) (eC (.int 1)))) sNext)
    (sSet 1 (eBin opAdd (eCallB oIntS (aCons (aVal (eIx (eVar 0) (eVar 2))) aNil)) (eC (.int 1)))))
def f__law_first_2 : FS :=
  (sSeq (sIf (eOrT (eTest (eBin opEq (eVar 0) (eList aNil))) (eTest (eBin opNe (eIx (eVar 0) (eC (.int 0))) (eC (.str "strip"))))) (sRet (eC (.int 1))) sNext)
    (sSeq (sSet 1 (eC (.int 0)))
    (sSeq (sFor (eIt2 itR2 (eC (.int 1)) (eCallB oMax (aCons (aVal (eC (.int 2))) (aCons (aVal (eCallB oLen (aCons (aVal (eVar 0)) aNil))) aNil)))) (gN 2)
    bd__law_first_2_1)
    (sRet (eC (.int 0))))))
def F__law_first_2 : FnP := fnP 1 3 f__law_first_2
def f__law_fault_of : FS :=
  (sSeq (sIf (eOrT (eTest (eBin opEq (eVar 0) (eList aNil))) (eTest (eBin opNe (eIx (eVar 0) (eC (.int 0))) (eC (.str "plug"))))) (sRet (eC (.int 1))) sNext)
    (sSeq (sIf (eTest (eCallP F__law_bad (aCons (aVal (eVar 0)) (aCons (aVal (eC (.int 1))) (aCons (aVal (eC (.int 0))) (aCons (aVal (eC (.int 60))) aNil)))))) (sRet (eC (.int 2))) sNext)
    (sSeq (sIf (eTest (eCallP F__law_bad (aCons (aVal (eVar 0)) (aCons (aVal (eC (.int 2))) (aCons (aVal (eC (.int 0))) (aCons (aVal (eC (.int 60))) aNil)))))) (sRet (eC (.int 3))) sNext)
    (sSeq (sIf (eAndT (eTest (eBin opGt (eCallB oLen (aCons (aVal (eVar 0)) aNil)) (eC (.int 3)))) (eTest (eBin opNe (eIx (eVar 0) (eC (.int 3))) (eC (.str "turns"))))) (sRet (eC (.int 4))) sNext)
    (sRet (eIf (eTest (eBin opGt (eCallB oLen (aCons (aVal (eVar 0)) aNil)) (eC (.int 4)))) (eC (.int 5)) (eC (.int 0))))))))
def F__law_fault_of : FnP := fnP 1 1 f__law_fault_of
def lc__law_due_1 : FE D :=
  (eLc [7] (eIt1 itSeq (eSplit (eIx (eVar 2) (eVar 1)) (eC (.str " ")))) (gN 7) (eTest (eBin opNe (eVar 7) (eC (.str "")))) (eVar 7))
def lc__law_due_2 : FE D :=
  (eLc [7] (eIt1 itSeq (eSl (eVar 5) (ePart (eC (.int 1))) eNoPart)) (gN 7) eTrue (eCallB oIntS (aCons (aVal (eVar 7)) aNil)))
def bd__law_due_3 : FS :=
  (sSeq (sSet 5 lc__law_due_1)
    (sSeq (sSet 6 (eIf (eTest (eBin opEq (eVar 1) (eC (.int 0)))) (eCallP F__law_first_2 (aCons (aVal (eVar 5)) aNil)) (eCallP F__law_fault_of (aCons (aVal (eVar 5)) aNil))))
    (sSeq (sSet 6 (eIf (eTest (eBin opEq (eVar 1) (eC (.int 6)))) (eC (.int 1)) (eVar 6)))
    (sSeq (sIf (eTest (eBin opGt (eVar 6) (eC (.int 0)))) (sRet (eList (aCons (aVal (eC (.str "line"))) (aCons (aVal (eBin opAdd (eVar 1) (eC (.int 1)))) (aCons (aVal (eVar 6)) aNil))))) sNext)
    (sIf (eTest (eBin opEq (eVar 1) (eC (.int 0)))) (sSet 4 (eCallB oTuple (aCons (aVal lc__law_due_2) aNil))) (sSet 3 (eBin opAdd (eVar 3) (eTup (aCons (aVal (eTup (aCons (aVal (eCallB oIntS (aCons (aVal (eIx (eVar 5) (eC (.int 1)))) aNil))) (aCons (aVal (eCallB oIntS (aCons (aVal (eIx (eVar 5) (eC (.int 2)))) aNil))) (aCons (aVal (eBin opGt (eCallB oLen (aCons (aVal (eVar 5)) aNil)) (eC (.int 3)))) aNil))))) aNil)))))))))
def f__law_due : FS :=
  (sSeq (sPar3 2 3 4 (aCons (aVal (eSplit (eVar 0) (eC (.str "\n")))) (aCons (aVal (eTup aNil)) (aCons (aVal (eTup aNil)) aNil))))
    (sSeq (sFor (eIt1 itR1 (eCallB oLen (aCons (aVal (eVar 2)) aNil))) (gN 1)
    bd__law_due_3)
    (sRet (eIf (eTest (eBin opNe (eVar 3) (eTup aNil))) (eTup (aCons (aVal (eMake "Strip" F_Strip_d__init_d__2 (aCons (aVal (eVar 4)) aNil))) (aCons (aVal (eVar 3)) aNil))) (eList (aCons (aVal (eC (.str "line"))) (aCons (aVal (eC (.int 2))) (aCons (aVal (eC (.int 1))) aNil))))))))
def F__law_due : FnP := fnP 1 8 f__law_due
def f__law_spoilt : FS :=
  (sSeq (sSet 2 (eSplit (eVar 1) (eC (.str " "))))
    (sSeq (sPar 5 6 (aCons (aVal (eVal (eCallE F__law_pick (aCons (eSlot 0) (aCons (aVal (eCallB oLen (aCons (aVal (eVar 2)) aNil))) aNil))))) (aCons (aVal (eVal (eCallE F__law_pick (aCons (eSlot 0) (aCons (aVal (eC (.int 6))) aNil))))) aNil)))
    (sSeq (sSet 3 (eList (aCons (aVal (eC (.str ""))) (aCons (aVal (eC (.str "0"))) (aCons (aVal (eC (.str "1"))) (aCons (aVal (eC (.str "60"))) (aCons (aVal (eC (.str "61"))) (aCons (aVal (eC (.str "300"))) (aCons (aVal (eC (.str "301"))) (aCons (aVal (eC (.str "-1"))) (aCons (aVal (eC (.str "01"))) (aCons (aVal (eC (.str "strip"))) (aCons (aVal (eC (.str "plug"))) (aCons (aVal (eC (.str "turns"))) (aCons (aVal (eC (.str "x"))) (aCons (aVal (eC (.str "10"))) (aCons (aVal (eC (.str "1\t"))) aNil)))))))))))))))))
    (sSeq (sSet 3 (eBin opAdd (eVar 3) (eList (aCons (aVal (eC (.str "+3"))) (aCons (aVal (eC (.str "1000"))) aNil)))))
    (sSeq (sIf (eTest (eBin opEq (eVar 6) (eC (.int 0)))) (sRet (eJoin (eC (.str " ")) (eLst (eBin opAdd (eSl (eVar 2) eNoPart (ePart (eVar 5))) (eSl (eVar 2) (ePart (eBin opAdd (eVar 5) (eC (.int 1)))) eNoPart))))) sNext)
    (sSeq (sIf (eTest (eBin opEq (eVar 6) (eC (.int 1)))) (sRet (eJoin (eC (.str " ")) (eLst (eBin opAdd (eBin opAdd (eSl (eVar 2) eNoPart (ePart (eVar 5))) (eList (aCons (aVal (eIx (eVar 2) (eVar 5))) aNil))) (eSl (eVar 2) (ePart (eVar 5)) eNoPart))))) sNext)
    (sSeq (sIf (eTest (eBin opEq (eVar 6) (eC (.int 2)))) (sRet (eJoin (eC (.str " ")) (eLst (eSl (eVar 2) eNoPart (ePart (eVar 5)))))) sNext)
    (sSeq (sSet 4 (eSl (eVar 2) (ePart (eBin opAdd (eVar 5) (eCallB oInt (aCons (aVal (eBin opLt (eVar 6) (eC (.int 5)))) aNil)))) eNoPart))
    (sRet (eJoin (eC (.str " ")) (eLst (eBin opAdd (eBin opAdd (eSl (eVar 2) eNoPart (ePart (eVar 5))) (eList (aCons (aVal (eIx (eVar 3) (eVal (eCallE F__law_pick (aCons (eSlot 0) (aCons (aVal (eC (.int 17))) aNil)))))) aNil))) (eVar 4)))))))))))))
def F__law_spoilt : Fn := fnE 2 7 f__law_spoilt
def bd_law_23_1 : FS :=
  (sSeq (sPar 5 6 (aCons (aVal (eVal (eCallE F__law_pick (aCons (eSlot 1) (aCons (aVal (eOnL oLenL (eOwnL 3))) aNil))))) (aCons (aVal (eVal (eCallE F__law_pick (aCons (eSlot 1) (aCons (aVal (eC (.int 8))) aNil))))) aNil)))
    (sIf (eAndT (eTest (eBin opEq (eVar 6) (eC (.int 0)))) (eTest (eBin opGt (eOnL oLenL (eOwnL 3)) (eC (.int 1))))) (sSetS 3 (eAddL (eSlO 3 eNoPart (ePart (eVar 5))) (eSlO 3 (ePart (eBin opAdd (eVar 5) (eC (.int 1)))) eNoPart))) (sIf (eTest (eBin opEq (eVar 6) (eC (.int 1)))) (sSeq (sSet 7 (eBin opAdd (eList (aCons (aVal (eIxO 3 (eVar 5))) aNil)) (eSlO 3 (ePart (eVar 5)) eNoPart)))
    (sSetS 3 (eAddL (eSlO 3 eNoPart (ePart (eVar 5))) (eIx (eList (aCons (aVal (eVar 7)) (aCons (aVal (eBin opAdd (eBin opAdd (eSl (eVar 7) eNoPart (ePart (eC (.int 1)))) (eSl (eVar 7) eNoPart (ePart (eC (.int 1))))) (eVar 7))) aNil))) (eVal (eCallE F__law_pick (aCons (eSlot 1) (aCons (aVal (eC (.int 2))) aNil)))))))) (sIf (eTest (eBin opEq (eVar 6) (eC (.int 2)))) (sSetIx 3 (eC (.int 0)) (eBin opAdd (eIxO 3 (eC (.int 0))) (eC (.str " 290 291 292 293")))) (sSetIx 3 (eVar 5) (eVal (eCallE F__law_spoilt (aCons (eSlot 1) (aCons (aVal (eIxO 3 (eVar 5))) aNil)))))))))
def bd_law_23_2 : FS :=
  (sSeq (sSetS 3 (eCallE F__law_linesE (aCons (aVal (eVal (eCallE F__law_sockets (aCons (eSlot 1) (aCons (aVal (eC (.int 9))) aNil))))) (aCons (aVal (eVal (eCallE F__law_plugs (aCons (eSlot 1) (aCons (aVal (eC (.int 5))) aNil))))) aNil))))
    (sSeq (sFor (eIt1 itR1 (eVal (eCallE F__law_pick (aCons (eSlot 1) (aCons (aVal (eC (.int 3))) aNil))))) (gN 4)
    bd_law_23_1)
    (sIf (eTest (eBin (opNeT "Strip" F_Strip_d__eq_d_) (eCallP F__law_told_there_4 (aCons (aVal (eJoin (eC (.str "\n")) (eOwnL 3))) aNil)) (eCallP F__law_due (aCons (aVal (eJoin (eC (.str "\n")) (eOwnL 3))) aNil)))) (sRet (eC (.bl false))) sNext)))
def f_law_23 : FS :=
  (sSeq (sSetS 1 (eCallE F__law_draws (aCons (aVal (eVar 0)) aNil)))
    (sSeq (sFor (eIt1 itR1 (eC (.int 8))) (gN 2)
    bd_law_23_2)
    (sRet (eBin opEq (eCallP F__law_told_there_4 (aCons (aVal (eC (.str ""))) aNil)) (eList (aCons (aVal (eC (.str "line"))) (aCons (aVal (eC (.int 1))) (aCons (aVal (eC (.int 1))) aNil))))))))
def F_law_23 : FnP := fnP 1 8 f_law_23
end Pk
namespace Pk
open PySem Dl L2
local macro_rules
  | `(tactic| push_cast [$xs,*]) => `(tactic| simp -implicitDefEqProofs only [↓eC_run, ↓eVar_run, ↓eSlot_run, ↓eBin_run, ↓eUn_run, ↓eTest_run, ↓eAndT_run, ↓eOrT_run, ↓eNotT_run, ↓eTrue_run, ↓eAnd_run, ↓eOr_run, ↓eNot_run, ↓eIf_run, ↓aNil_run, ↓aCons_run, ↓aVal_run, ↓eTup_run, ↓eList_run, ↓eLst_run, ↓eCallB_run, ↓eOnL_run, ↓eIsi_run, ↓eSl_run, ↓ePart_run, ↓eNoPart_run, ↓eChain_run, ↓eIxO_run, ↓eOwnL_run, ↓sNext_run, ↓sSeq_run, ↓sIf_run, ↓sExpr_run, ↓sRet_run, ↓sRetS_run, ↓sRetN_run, ↓sBreak_run, ↓sCont_run, ↓sAsg_run, ↓sSetS_run, ↓sPar_run, ↓sFor_run, ↓sWhile_run, ↓eIt1_run, ↓eIt2_run, ↓eIt3_run, ↓eLc_run, ↓eLc2_run, ↓sNewL_run, ↓sApp_run, ↓sSetIx_run, ↓sRetL_run, ↓sRetNew_run, ↓eCallP_run, ↓eCallE_run, ↓eVal_run, ↓eMake_run, ↓eFld_run, ↓sRaise_run, ↓sRaiseI_run, ↓sTry_run, ↓eIsx_run, ↓sPar3_run, ↓eNewL_run, ↓eNDisp_run, ↓eKDisp_run, ↓eEmptyK_run, ↓eNewN_run, ↓eKM_run, ↓eNGet_run, ↓eKGet_run, ↓eNGetO_run, ↓eCopyN_run, ↓sNPut_run, ↓aStar_run, ↓eRg1_run, ↓eIsi2_run, ↓eCopyL_run, ↓eNVals_run, bind_ok, bind_exc, out_ok, out_exc, lift_some, obind_next, obind_ret, obind_exc, obind_brk, obind_cont, varR_run, slotR_run, asBl_run, allD_nil, allD_cons, asLst_run, asI_run, chR_run, ownK_run, ownKR_run, ownL_run, ownLR_run, someR_run, someO_run, ixI_run, parR_run, gN_run, gsNil_run, gsCons_run, itSeq_lst, itSeq_tup, itEn_lst, itEn_tup, itZ_lst, itZ_tup, wipeR_nil, wipeR_cons, setIxR_run, finP_ret, finP_next, finP_exc, finE_ret, finE_next, finE_exc, callR_ok, callR_err, valR_run, makeR_ok, makeR_exc, opAdd_int, opI_run, opB_run, opMulA_int, opEq_run, opNe_run, opIsN_run, opNotN_run, opIx_tup, opIx_lst, opNeg_run, oLen_tup, oLen_lst, oInt_int, oInt_bl, oTuple_tup, oTuple_lst, oList_tup, oList_lst, oTupleL_run, oListL_run, oLenL_run, isi_int_non, isi_int_bl, isi_int_int, isi_int_str, isi_int_tup, isi_int_lst, isi_bool_non, isi_bool_bl, isi_bool_int, isi_bool_str, isi_bool_tup, isi_bool_lst, isi_tuple_non, isi_tuple_bl, isi_tuple_int, isi_tuple_str, isi_tuple_tup, isi_tuple_lst, isi_str_non, isi_str_bl, isi_str_int, isi_str_str, isi_str_tup, isi_str_lst, isi_list_non, isi_list_bl, isi_list_int, isi_list_str, isi_list_tup, isi_list_lst, atI_0, atI_1, atI_2, atI_3, atI_4, atI_5, atI_6, atI_7, atI_8, ixN_1_0, ixN_2_0, ixN_2_1, ixN_3_0, ixN_3_1, ixN_3_2, ixN_4_0, ixN_4_1, ixN_4_2, ixN_4_3, ixN_5_0, ixN_5_1, ixN_5_2, ixN_5_3, ixN_5_4, eqD_int, eqD_bl, eqD_non_non, isNon_non, isNon_bl, isNon_int, isNon_str, isNon_tup, isNon_lst, Option.map_some, Option.map_none, Option.bind_some, List.getElem?_cons_zero, List.getElem?_cons_succ, List.set_cons_zero, List.set_cons_succ, List.map_cons, List.map_nil, List.length_cons, List.length_nil, List.cons_append, List.nil_append, rho0, List.replicate, List.take_succ_cons, List.take_zero, List.take_nil, List.take_length, and_self, Bool.false_eq_true, Bool.not_true, Bool.not_false, decide_true, decide_false, raiseI_run1, raiseI_run2, tryO_next, tryO_ret, tryH_nil, unbind_next, unbind_ret, eXf_run, par3R_run, newLR_0, newLR_1, kmR_run, kmR2_run, asK_run, asN_run, getRL_run, getKL_run, ngo0_run, ngo1_run, ngoR_run, ownN_run, ownNR_run, npK_run, starR_run, itNItems_run, itNKeys_run, oDictK_run, opIn2_K, opKIx_run, keyK_int, copyLR_lst, copyLR_tup, gT2_run, nValsD_run, Option.getD_some, tup_0, lst_0, tup_1, lst_1, tup_2, lst_2, tup_3, lst_3, tup_4, lst_4, tup_5, lst_5, tup_6, lst_6, tup_7, lst_7, tup_8, lst_8, tup_9, lst_9, tup_10, lst_10, tup_11, lst_11, tup_12, lst_12, new_0, new_1, new_2, new_3, new_4, new_5, ↓reduceIte, Nat.reduceAdd, $xs,*])
  | `(tactic| push_cast [$xs,*] at $h:ident) => `(tactic| simp -implicitDefEqProofs only [↓eC_run, ↓eVar_run, ↓eSlot_run, ↓eBin_run, ↓eUn_run, ↓eTest_run, ↓eAndT_run, ↓eOrT_run, ↓eNotT_run, ↓eTrue_run, ↓eAnd_run, ↓eOr_run, ↓eNot_run, ↓eIf_run, ↓aNil_run, ↓aCons_run, ↓aVal_run, ↓eTup_run, ↓eList_run, ↓eLst_run, ↓eCallB_run, ↓eOnL_run, ↓eIsi_run, ↓eSl_run, ↓ePart_run, ↓eNoPart_run, ↓eChain_run, ↓eIxO_run, ↓eOwnL_run, ↓sNext_run, ↓sSeq_run, ↓sIf_run, ↓sExpr_run, ↓sRet_run, ↓sRetS_run, ↓sRetN_run, ↓sBreak_run, ↓sCont_run, ↓sAsg_run, ↓sSetS_run, ↓sPar_run, ↓sFor_run, ↓sWhile_run, ↓eIt1_run, ↓eIt2_run, ↓eIt3_run, ↓eLc_run, ↓eLc2_run, ↓sNewL_run, ↓sApp_run, ↓sSetIx_run, ↓sRetL_run, ↓sRetNew_run, ↓eCallP_run, ↓eCallE_run, ↓eVal_run, ↓eMake_run, ↓eFld_run, ↓sRaise_run, ↓sRaiseI_run, ↓sTry_run, ↓eIsx_run, ↓sPar3_run, ↓eNewL_run, ↓eNDisp_run, ↓eKDisp_run, ↓eEmptyK_run, ↓eNewN_run, ↓eKM_run, ↓eNGet_run, ↓eKGet_run, ↓eNGetO_run, ↓eCopyN_run, ↓sNPut_run, ↓aStar_run, ↓eRg1_run, ↓eIsi2_run, ↓eCopyL_run, ↓eNVals_run, bind_ok, bind_exc, out_ok, out_exc, lift_some, obind_next, obind_ret, obind_exc, obind_brk, obind_cont, varR_run, slotR_run, asBl_run, allD_nil, allD_cons, asLst_run, asI_run, chR_run, ownK_run, ownKR_run, ownL_run, ownLR_run, someR_run, someO_run, ixI_run, parR_run, gN_run, gsNil_run, gsCons_run, itSeq_lst, itSeq_tup, itEn_lst, itEn_tup, itZ_lst, itZ_tup, wipeR_nil, wipeR_cons, setIxR_run, finP_ret, finP_next, finP_exc, finE_ret, finE_next, finE_exc, callR_ok, callR_err, valR_run, makeR_ok, makeR_exc, opAdd_int, opI_run, opB_run, opMulA_int, opEq_run, opNe_run, opIsN_run, opNotN_run, opIx_tup, opIx_lst, opNeg_run, oLen_tup, oLen_lst, oInt_int, oInt_bl, oTuple_tup, oTuple_lst, oList_tup, oList_lst, oTupleL_run, oListL_run, oLenL_run, isi_int_non, isi_int_bl, isi_int_int, isi_int_str, isi_int_tup, isi_int_lst, isi_bool_non, isi_bool_bl, isi_bool_int, isi_bool_str, isi_bool_tup, isi_bool_lst, isi_tuple_non, isi_tuple_bl, isi_tuple_int, isi_tuple_str, isi_tuple_tup, isi_tuple_lst, isi_str_non, isi_str_bl, isi_str_int, isi_str_str, isi_str_tup, isi_str_lst, isi_list_non, isi_list_bl, isi_list_int, isi_list_str, isi_list_tup, isi_list_lst, atI_0, atI_1, atI_2, atI_3, atI_4, atI_5, atI_6, atI_7, atI_8, ixN_1_0, ixN_2_0, ixN_2_1, ixN_3_0, ixN_3_1, ixN_3_2, ixN_4_0, ixN_4_1, ixN_4_2, ixN_4_3, ixN_5_0, ixN_5_1, ixN_5_2, ixN_5_3, ixN_5_4, eqD_int, eqD_bl, eqD_non_non, isNon_non, isNon_bl, isNon_int, isNon_str, isNon_tup, isNon_lst, Option.map_some, Option.map_none, Option.bind_some, List.getElem?_cons_zero, List.getElem?_cons_succ, List.set_cons_zero, List.set_cons_succ, List.map_cons, List.map_nil, List.length_cons, List.length_nil, List.cons_append, List.nil_append, rho0, List.replicate, List.take_succ_cons, List.take_zero, List.take_nil, List.take_length, and_self, Bool.false_eq_true, Bool.not_true, Bool.not_false, decide_true, decide_false, raiseI_run1, raiseI_run2, tryO_next, tryO_ret, tryH_nil, unbind_next, unbind_ret, eXf_run, par3R_run, newLR_0, newLR_1, kmR_run, kmR2_run, asK_run, asN_run, getRL_run, getKL_run, ngo0_run, ngo1_run, ngoR_run, ownN_run, ownNR_run, npK_run, starR_run, itNItems_run, itNKeys_run, oDictK_run, opIn2_K, opKIx_run, keyK_int, copyLR_lst, copyLR_tup, gT2_run, nValsD_run, Option.getD_some, tup_0, lst_0, tup_1, lst_1, tup_2, lst_2, tup_3, lst_3, tup_4, lst_4, tup_5, lst_5, tup_6, lst_6, tup_7, lst_7, tup_8, lst_8, tup_9, lst_9, tup_10, lst_10, tup_11, lst_11, tup_12, lst_12, new_0, new_1, new_2, new_3, new_4, new_5, ↓reduceIte, Nat.reduceAdd, $xs,*] at $h:ident)
def rowD (ns : List Int) (a b c : Int) : List D := [.lst (ns.map D.int), .int a, .int b, .int c]
structure RowOk (a b c : Int) : Prop where
  a0 : 0 ≤ a
  b0 : 0 ≤ b
  c0 : 0 ≤ c
  c1 : c < 2147483647
def IsRow (ns : List Int) (rest ω : Om) : Prop := ∃ a b c, RowOk a b c ∧ ω = some (.lst (rowD ns a b c)) :: rest
theorem pick_pos (ns : List Int) (rest : Om) (a b c m : Int) (hb0 : 0 < b) (hm : 0 < m ∧ m < 1073741824) : F__law_pick [.own 0, .val (.int m)] (some (.lst (rowD ns a b c)) :: rest) = .ok (.val (.int (b % m))) (some (.lst (rowD ns a (b / m) c)) :: rest) := by
  have h1 : (b == 0) = false := by simp; omega
  have h2 : decide (0 < b) = true := by simp; omega
  unfold F__law_pick
  rw [fnE_run (by rfl)]
  unfold f__law_pick rowD
  push_cast [h1, h2, hm.1, hm.2]
theorem pick_end (ns : List Int) (rest : Om) (a c m : Int) (ha : ¬ a < ns.length) (hc : 0 ≤ c ∧ c < 2147483647) (hm : 0 < m) : ∃ c', 0 ≤ c' ∧ c' < 2147483647 ∧
    F__law_pick [.own 0, .val (.int m)] (some (.lst (rowD ns a 0 c)) :: rest) = .ok (.val (.int (c' * 16807 % 2147483629 % m))) (some (.lst (rowD ns a 0 c')) :: rest) := by
  refine ⟨(c * 48271 + 7) % 2147483647, Int.emod_nonneg _ (by decide), Int.emod_lt_of_pos _ (by decide), ?_⟩
  have g : ∀ x y : Int, (-bnd < x ∧ x < bnd ∨ -bnd < y ∧ y < bnd) → (if -bnd < x ∧ x < bnd ∨ -bnd < y ∧ y < bnd then some (x * y) else none) = some (x * y) := fun x y h => if_pos h
  have g1 : (-bnd < c ∧ c < bnd ∨ -bnd < (48271 : Int) ∧ (48271 : Int) < bnd) := .inr ⟨by decide, by decide⟩
  have g2 : ∀ z : Int, (-bnd < z ∧ z < bnd ∨ -bnd < (16807 : Int) ∧ (16807 : Int) < bnd) := fun _ => .inr ⟨by decide, by decide⟩
  have h1 : decide (a < (ns.length : Int)) = false := by simp; omega
  unfold F__law_pick
  rw [fnE_run (by rfl)]
  unfold f__law_pick rowD
  have e1 : decide ((0 : Int) < 0) = false := rfl
  have e2 : ((0 : Int) == 0) = true := rfl
  have e3 : (0 : Int) < 2147483647 := by decide
  have e4 : (0 : Int) < 2147483629 := by decide
  push_cast [List.length_map, h1, e1, e2, g1, g2, e3, e4, hm]
theorem pick_big (ns : List Int) (rest : Om) (j : Nat) (z c m : Int) (hz : ns[j]? = some z) (hb : 1000000000000000000 ≤ z) (hm : 0 < m ∧ m < 1073741824) :
    F__law_pick [.own 0, .val (.int m)] (some (.lst (rowD ns j 0 c)) :: rest) = .ok (.val (.int (z % m))) (some (.lst (rowD ns (j + 1) (z / m) c)) :: rest) := by
  have hl : j < ns.length := (List.getElem?_eq_some_iff.mp hz).1
  have h1 : decide ((j : Int) < (ns.length : Int)) = true := by simp; omega
  have h2 : atI (ns.map D.int) (j : Int) = some (.int z) := by rw [atI_get' (by omega)]; simp [hz]
  have h3 : decide ((10 : Int) ^ Int.toNat 18 ≤ z) = true := by
    have : (10 : Int) ^ Int.toNat 18 = 1000000000000000000 := by decide
    rw [this]; simp; exact hb
  have h4 : decide (0 < z) = true := by simp; omega
  have g0 : (0 : Int) ≤ 18 ∧ (18 : Int) ≤ 1000000 ∧ (10 : Int).natAbs < 18446744073709551616 := by decide
  unfold F__law_pick
  rw [fnE_run (by rfl)]
  unfold f__law_pick rowD
  have e2 : ((0 : Int) == 0) = true := rfl
  push_cast [List.length_map, h1, h2, h3, h4, e2, g0, hm.1, hm.2]
theorem pick_small (ns : List Int) (rest : Om) (j : Nat) (z c m : Int) (hz : ns[j]? = some z) (hb : ¬ 1000000000000000000 ≤ z) (hc : 0 ≤ c ∧ c < 2147483647) (hm : 0 < m) : ∃ c', 0 ≤ c' ∧ c' < 2147483647 ∧
    F__law_pick [.own 0, .val (.int m)] (some (.lst (rowD ns j 0 c)) :: rest) = .ok (.val (.int (c' * 16807 % 2147483629 % m))) (some (.lst (rowD ns (j + 1) 0 c')) :: rest) := by
  refine ⟨(c * 48271 + z * 69621 + 11) % 2147483647, Int.emod_nonneg _ (by decide), Int.emod_lt_of_pos _ (by decide), ?_⟩
  have hl : j < ns.length := (List.getElem?_eq_some_iff.mp hz).1
  have h1 : decide ((j : Int) < (ns.length : Int)) = true := by simp; omega
  have h2 : atI (ns.map D.int) (j : Int) = some (.int z) := by rw [atI_get' (by omega)]; simp [hz]
  have h3 : decide ((10 : Int) ^ Int.toNat 18 ≤ z) = false := by
    have : (10 : Int) ^ Int.toNat 18 = 1000000000000000000 := by decide
    rw [this]; simp; omega
  have g0 : (0 : Int) ≤ 18 ∧ (18 : Int) ≤ 1000000 ∧ (10 : Int).natAbs < 18446744073709551616 := by decide
  have g1 : ∀ z : Int, (-bnd < z ∧ z < bnd ∨ -bnd < (48271 : Int) ∧ (48271 : Int) < bnd) := fun _ => .inr ⟨by decide, by decide⟩
  have g3 : ∀ z : Int, (-bnd < z ∧ z < bnd ∨ -bnd < (69621 : Int) ∧ (69621 : Int) < bnd) := fun _ => .inr ⟨by decide, by decide⟩
  have g2 : ∀ z : Int, (-bnd < z ∧ z < bnd ∨ -bnd < (16807 : Int) ∧ (16807 : Int) < bnd) := fun _ => .inr ⟨by decide, by decide⟩
  unfold F__law_pick
  rw [fnE_run (by rfl)]
  unfold f__law_pick rowD
  have e1 : decide ((0 : Int) < 0) = false := rfl
  have e2 : ((0 : Int) == 0) = true := rfl
  have e3 : (0 : Int) < 2147483647 := by decide
  have e4 : (0 : Int) < 2147483629 := by decide
  push_cast [List.length_map, h1, h2, h3, e1, e2, g0, g1, g2, g3, e3, e4, hm]
theorem pick {ns : List Int} {rest ω : Om} {m : Int} (h : IsRow ns rest ω) (hm : 0 < m) (hm' : m < 1073741824) : ∃ r ω', IsRow ns rest ω' ∧ 0 ≤ r ∧ r < m ∧ F__law_pick [.own 0, .val (.int m)] ω = .ok (.val (.int r)) ω' := by
  obtain ⟨a, b, c, k, rfl⟩ := h
  by_cases hb : 0 < b
  · exact ⟨_, _, ⟨a, b / m, c, ⟨k.a0, Int.ediv_nonneg k.b0 (by omega), k.c0, k.c1⟩, rfl⟩, Int.emod_nonneg _ (by omega), Int.emod_lt_of_pos _ hm, pick_pos ns rest a b c m hb ⟨hm, hm'⟩⟩
  · have : b = 0 := by have := k.b0; omega
    subst this
    by_cases ha : a < ns.length
    · obtain ⟨j, rfl⟩ : ∃ j : Nat, a = j := ⟨a.toNat, by have := k.a0; omega⟩
      have hj : j < ns.length := by omega
      have hz : ns[j]? = some ns[j] := List.getElem?_eq_getElem hj
      by_cases hb : 1000000000000000000 ≤ ns[j]
      · exact ⟨_, _, ⟨j + 1, ns[j] / m, c, ⟨by omega, Int.ediv_nonneg (by omega) (by omega), k.c0, k.c1⟩, rfl⟩, Int.emod_nonneg _ (by omega), Int.emod_lt_of_pos _ hm, pick_big ns rest j ns[j] c m hz hb ⟨hm, hm'⟩⟩
      · obtain ⟨c', h1, h2, h3⟩ := pick_small ns rest j ns[j] c m hz hb ⟨k.c0, k.c1⟩ hm
        exact ⟨_, _, ⟨j + 1, 0, c', ⟨by omega, by omega, h1, h2⟩, rfl⟩, Int.emod_nonneg _ (by omega), Int.emod_lt_of_pos _ hm, h3⟩
    · obtain ⟨c', h1, h2, h3⟩ := pick_end ns rest a c m ha ⟨k.c0, k.c1⟩ hm
      exact ⟨_, _, ⟨a, 0, c', ⟨k.a0, by omega, h1, h2⟩, rfl⟩, Int.emod_nonneg _ (by omega), Int.emod_lt_of_pos _ hm, h3⟩
theorem draws_run (ns : List Int) : F__law_draws [.val (.lst (ns.map D.int))] [] = .ok (.own 0) [some (.lst (rowD ns 0 0 7))] := by
  unfold F__law_draws
  rw [fnE_run (by rfl)]
  unfold f__law_draws rowD
  push_cast [retNewR_run (show 4 ≤ lim by decide)]
  rfl
theorem draws_row (ns : List Int) : IsRow ns [] [some (.lst (rowD ns 0 0 7))] := ⟨0, 0, 7, ⟨by decide, by decide, by decide, by decide⟩, rfl⟩
theorem row_take {ns : List Int} {rest ω ω' : Om} (h : IsRow ns rest ω) (h' : IsRow ns rest ω') : List.take (List.length ω) ω' = ω' := by
  obtain ⟨_, _, _, _, rfl⟩ := h
  obtain ⟨_, _, _, _, rfl⟩ := h'
  simp
theorem itR1_run {j : Int} (h : 0 ≤ j) (h' : j < 1000000) : itR1 (.int j) = some (rngD 0 j) := by
  unfold itR1
  exact if_pos (by show -4611686018427387904 ≤ j ∧ j < 4611686018427387904; constructor <;> omega)
theorem rngD_len (lo hi : Int) : (rngD lo hi).length = (hi - lo).toNat := by simp [rngD]
theorem rngD_get {lo hi : Int} {i : Nat} {d : D} (h : (rngD lo hi)[i]? = some d) : d = .int (lo + i) ∧ lo + i < hi := by
  unfold rngD at h
  rw [List.getElem?_map] at h
  by_cases hi' : i < (hi - lo).toNat
  · rw [List.getElem?_range hi'] at h
    cases h
    exact ⟨rfl, by omega⟩
  · rw [List.getElem?_eq_none (by simpa using hi')] at h
    cases h
structure Socks (s : List Int) : Prop where
  ne : s ≠ []
  asc : s.Pairwise (· < ·)
  rg : ∀ x ∈ s, 0 ≤ x ∧ x ≤ 300
structure SockInv (i : Nat) (s : List Int) (here : Int) : Prop where
  h0 : 0 ≤ here
  first : i = 0 → here ≤ 300
  ne : i ≠ 0 → s ≠ []
  asc : s.Pairwise (· < ·)
  rg : ∀ x ∈ s, 0 ≤ x ∧ x ≤ 300 ∧ x < here
  len : s.length ≤ i
theorem SockInv.add {i : Nat} {s : List Int} {here k : Int} (h : SockInv i s here) (hk : 0 < k) (hl : here ≤ 300) : SockInv (i + 1) (s ++ [here]) (here + k) := by
  refine ⟨by have := h.h0; omega, by omega, by simp, ?_, fun x hx => ?_, by simp; have := h.len; omega⟩
  · rw [List.pairwise_append]
    exact ⟨h.asc, by simp, fun a ha b hb => by simp at hb; subst hb; exact (h.rg a ha).2.2⟩
  · rcases List.mem_append.mp hx with hx | hx
    · have := h.rg x hx; omega
    · simp at hx; subst hx; have := h.h0; omega
theorem SockInv.skip {i : Nat} {s : List Int} {here k : Int} (h : SockInv i s here) (hk : 0 < k) (hl : ¬ here ≤ 300) : SockInv (i + 1) s (here + k) := by
  have hi : i ≠ 0 := fun z => hl (h.first z)
  exact ⟨by have := h.h0; omega, by omega, fun _ => h.ne hi, h.asc, fun x hx => by have := h.rg x hx; omega, by have := h.len; omega⟩
theorem atI_three {x y z : D} {r : Int} (h0 : 0 ≤ r) (h : r < 3) : ∃ d, atI [x, y, z] r = some d ∧ (d = x ∨ d = y ∨ d = z) := by
  have : r = 0 ∨ r = 1 ∨ r = 2 := by omega
  rcases this with rfl | rfl | rfl
  · exact ⟨x, rfl, .inl rfl⟩
  · exact ⟨y, rfl, .inr (.inl rfl)⟩
  · exact ⟨z, rfl, .inr (.inr rfl)⟩
theorem sockets {ns : List Int} {rest ω : Om} {most : Int} (h : IsRow ns rest ω) (hm : 0 < most) (hm' : most ≤ 1000) : ∃ socks ω', IsRow ns rest ω' ∧ Socks socks ∧ (socks.length : Int) ≤ most ∧
    F__law_sockets [.own 0, .val (.int most)] ω = .ok (.val (.tup (socks.map D.int))) ω' := by
  obtain ⟨r1, ω1, w1, a1, b1, e1⟩ := pick (m := 20) h (by decide) (by decide)
  obtain ⟨r2, ω2, w2, a2, b2, e2⟩ := pick (m := most) w1 hm (by omega)
  unfold F__law_sockets
  rw [fnE_run (by rfl)]
  unfold f__law_sockets
  push_cast [e1, e2, tupR_run (show 0 ≤ lim by decide), itR1_run (show 0 ≤ 1 + r2 by omega) (by omega)]
  generalize hb : sSeq _ _ = body
  obtain ⟨ρ', ω', e, hi, x2, socks, here, rfl, w, S⟩ := forL_all (tg := gN 2) (b := body) (ds := rngD 0 (1 + r2)) (ω := ω2) (ρ := [some (SV.own 0), some (SV.val (D.int most)), none, some (SV.val (D.tup [])), some (SV.val (D.int r1))])
    (fun i ρ ω => i ≤ (1 + r2).toNat ∧ ∃ x2 socks here, ρ = [some (SV.own 0), some (SV.val (D.int most)), x2, some (SV.val (D.tup (socks.map D.int))), some (SV.val (D.int here))] ∧ IsRow ns rest ω ∧ SockInv i socks here)
    ⟨by omega, none, [], r1, rfl, w2, ⟨a1, by omega, by omega, List.Pairwise.nil, by simp, by simp⟩⟩ (by
    rintro i d ρ ω' hd ⟨hi, x2, socks, here, rfl, w, S⟩
    obtain ⟨rfl, hlt⟩ := rngD_get hd
    obtain ⟨r3, ω3, w3, a3, b3, e3⟩ := pick (m := 40) w (by decide) (by decide)
    obtain ⟨r4, ω4, w4, a4, b4, e4⟩ := pick (m := 3) w3 (by decide) (by decide)
    obtain ⟨d, e5, hd5⟩ := atI_three (x := .int 30) (y := .int (1 + r3)) (z := .int 20) a4 b4
    obtain ⟨k, rfl, hk⟩ : ∃ k : Int, d = .int k ∧ 0 < k := by
      rcases hd5 with rfl | rfl | rfl
      · exact ⟨_, rfl, by decide⟩
      · exact ⟨_, rfl, by omega⟩
      · exact ⟨_, rfl, by decide⟩
    subst hb
    have hl : socks.length + 1 ≤ lim := by have := S.len; show _ ≤ 16777216; omega
    by_cases h3 : here ≤ 300
    · have h3' : decide (here ≤ 300) = true := decide_eq_true h3
      refine ⟨_, _, ω4, rfl, ?_, by omega, some (SV.val (D.int (0 + i))), socks ++ [here], here + k, rfl, w4, S.add hk h3⟩
      push_cast [h3', tupR_run (show 1 ≤ lim by decide), opAdd_tup (ds := socks.map D.int) (es := [D.int here]) (by simpa using hl), e3, e4, e5, lstR_run (show 3 ≤ lim by decide), List.map_append]
    · have h3' : decide (here ≤ 300) = false := decide_eq_false h3
      refine ⟨_, _, ω4, rfl, ?_, by omega, some (SV.val (D.int (0 + i))), socks, here + k, rfl, w4, S.skip hk h3⟩
      push_cast [h3', e3, e4, e5, lstR_run (show 3 ≤ lim by decide)])
  rw [rngD_len] at S
  refine ⟨socks, ω', w, ⟨S.ne (by omega), S.asc, fun x hx => by have := S.rg x hx; omega⟩, by have := S.len; omega, ?_⟩
  push_cast [e, row_take h w]
abbrev Plug := Int × Int × Bool
abbrev Place := Nat × Bool
abbrev Plan := List (Option Place)
def encP (p : Plug) : D := .tup [.int p.1, .int p.2.1, .bl p.2.2]
def encL (p : Place) : D := .tup [.int p.1, .bl p.2]
def encO : Option Place → D
  | none => .non
  | some p => encL p
structure PlugOk (p : Plug) : Prop where
  l0 : 0 ≤ p.1
  l1 : p.1 ≤ 60
  r0 : 0 ≤ p.2.1
  r1 : p.2.1 ≤ 60
def plugsD (ps : List Plug) : D := .tup (ps.map encP)
def socksD (s : List Int) : D := .tup (s.map D.int)
def stripD (s : List Int) : D := .obj "Strip" [("rows", socksD s)]
def canT (p : Plug) : Bool := p.2.2 && !(p.1 == p.2.1)
def sideL (p : Plug) (t : Bool) : Int := if t then p.2.1 else p.1
def sideR (p : Plug) (t : Bool) : Int := if t then p.1 else p.2.1
def bBeg (s : List Int) (p : Plug) (pl : Place) : Int := s.getD pl.1 0 - sideL p pl.2
def bEnd (s : List Int) (p : Plug) (pl : Place) : Int := s.getD pl.1 0 + sideR p pl.2
def apart (s : List Int) (p : Plug) (a : Place) (q : Plug) (b : Place) : Bool :=
  if a.1 < b.1 then decide (bEnd s p a ≤ bBeg s q b) else decide (bEnd s q b ≤ bBeg s p a)
theorem atI_map {α : Type} (f : α → D) {xs : List α} {i : Nat} {x : α} (h : xs[i]? = some x) : atI (xs.map f) (i : Int) = some (f x) := by
  rw [atI_get' (by omega)]; simp [h]
theorem eight (r : Int) (h0 : 0 ≤ r) (h : r < 8) : ∃ z : Int, atI [D.int 0, D.int 5, D.int 10, D.int 15, D.int 20, D.int 30, D.int 40, D.int 60] r = some (.int z) ∧ 0 ≤ z ∧ z ≤ 60 := by
  have : r = 0 ∨ r = 1 ∨ r = 2 ∨ r = 3 ∨ r = 4 ∨ r = 5 ∨ r = 6 ∨ r = 7 := by omega
  rcases this with rfl | rfl | rfl | rfl | rfl | rfl | rfl | rfl <;> exact ⟨_, rfl, by decide, by decide⟩
theorem plug {ns : List Int} {rest ω : Om} (h : IsRow ns rest ω) : ∃ p ω', IsRow ns rest ω' ∧ PlugOk p ∧ F__law_plug [.own 0] ω = .ok (.val (encP p)) ω' := by
  obtain ⟨r1, ω1, w1, a1, b1, e1⟩ := pick (m := 8) h (by decide) (by decide)
  obtain ⟨r2, ω2, w2, a2, b2, e2⟩ := pick (m := 41) w1 (by decide) (by decide)
  obtain ⟨r3, ω3, w3, a3, b3, e3⟩ := pick (m := 3) w2 (by decide) (by decide)
  obtain ⟨r4, ω4, w4, a4, b4, e4⟩ := pick (m := 2) w3 (by decide) (by decide)
  obtain ⟨z, ez, z0, z1⟩ := eight r1 a1 b1
  obtain ⟨d, ed, hd⟩ := atI_three (x := .int r2) (y := .int 15) (z := .int z) a3 b3
  obtain ⟨y, rfl, y0, y1⟩ : ∃ y : Int, d = .int y ∧ 0 ≤ y ∧ y ≤ 60 := by
    rcases hd with rfl | rfl | rfl
    · exact ⟨_, rfl, by omega, by omega⟩
    · exact ⟨_, rfl, by decide, by decide⟩
    · exact ⟨_, rfl, z0, z1⟩
  refine ⟨(z, y, r4 == 0), ω4, w4, ⟨z0, z1, y0, y1⟩, ?_⟩
  unfold F__law_plug
  rw [fnE_run (by rfl)]
  unfold f__law_plug
  push_cast [e1, e2, e3, e4, ez, ed, lstR_run (show 8 ≤ lim by decide), lstR_run (show 3 ≤ lim by decide), tupR_run (show 3 ≤ lim by decide), row_take h w4]
  rfl
theorem lcL_draw {tg : FG} {tt : FE Bool} {el : FE D} {ρ : Rho} (I : Om → Prop) (Q : D → Prop) : ∀ (ds acc : List D) (ω : Om), I ω → acc.length + ds.length ≤ lim →
    (∀ d ∈ ds, ∀ ω, I ω → ∃ ρ1 y ω', tg d ρ = some ρ1 ∧ tt ρ1 ω = .ok true ω ∧ el ρ1 ω = .ok y ω' ∧ I ω' ∧ Q y) → ∃ ys ω', lcL tg tt el ρ ds acc ω = .ok (.lst (acc ++ ys)) ω' ∧ I ω' ∧ ys.length = ds.length ∧ ∀ y ∈ ys, Q y
  | [], acc, ω, hI, _, _ => ⟨[], ω, by unfold lcL; simp, hI, rfl, by simp⟩
  | d :: ds, acc, ω, hI, hl, h => by
    obtain ⟨ρ1, y, ω1, h1, h2, h3, h4, h5⟩ := h d List.mem_cons_self ω hI
    rw [List.length_cons] at hl
    obtain ⟨ys, ω2, g1, g2, g3, g4⟩ := lcL_draw I Q ds (acc ++ [y]) ω1 h4 (by simp; omega) fun d' hd' => h d' (List.mem_cons_of_mem _ hd')
    refine ⟨y :: ys, ω2, ?_, g2, by simp [g3], fun z hz => ?_⟩
    · unfold lcL
      rw [h1]
      dsimp only
      rw [h2]
      dsimp only
      rw [h3]
      dsimp only
      rw [if_pos (by omega), g1]
      simp
    · rcases List.mem_cons.mp hz with rfl | hz
      · exact h5
      · exact g4 z hz
theorem enc_list {α : Type} (f : α → D) (P : α → Prop) : ∀ ys : List D, (∀ y ∈ ys, ∃ p, y = f p ∧ P p) → ∃ ps : List α, ys = ps.map f ∧ ∀ p ∈ ps, P p
  | [], _ => ⟨[], rfl, by simp⟩
  | y :: ys, h => by
    obtain ⟨p, rfl, hp⟩ := h y List.mem_cons_self
    obtain ⟨ps, rfl, hps⟩ := enc_list f P ys fun z hz => h z (List.mem_cons_of_mem _ hz)
    exact ⟨p :: ps, rfl, fun q hq => by
      rcases List.mem_cons.mp hq with rfl | hq
      · exact hp
      · exact hps q hq⟩
theorem plugs {ns : List Int} {rest ω : Om} {most : Int} (h : IsRow ns rest ω) (hm : 0 < most) (hm' : most ≤ 1000) : ∃ ps ω', IsRow ns rest ω' ∧ (∀ p ∈ ps, PlugOk p) ∧ ps ≠ [] ∧ (ps.length : Int) ≤ most ∧
    F__law_plugs [.own 0, .val (.int most)] ω = .ok (.val (plugsD ps)) ω' := by
  obtain ⟨r, ω1, w1, a1, b1, e1⟩ := pick (m := most) h hm (by omega)
  obtain ⟨ys, ω2, e2, w2, hl, hy⟩ := lcL_draw (tg := gN 2) (tt := eTrue) (el := eVal (eCallE F__law_plug (aCons (eSlot 0) aNil))) (ρ := [some (SV.own 0), some (SV.val (D.int most)), none]) (IsRow ns rest) (fun y => ∃ p, y = encP p ∧ PlugOk p)
    (rngD 0 (1 + r)) [] ω1 w1 (by rw [rngD_len]; simp only [List.length_nil]; show _ ≤ 16777216; omega) (fun d _ ω w => by
      obtain ⟨p, ω', w', hp, e⟩ := plug w
      refine ⟨_, encP p, ω', rfl, rfl, ?_, w', p, rfl, hp⟩
      push_cast [e])
  obtain ⟨ps, rfl, hps⟩ := enc_list encP PlugOk ys hy
  rw [List.length_map, rngD_len] at hl
  refine ⟨ps, ω2, w2, hps, fun z => ?_, by omega, ?_⟩
  · subst z; simp at hl; omega
  · unfold F__law_plugs
    rw [fnE_run (by rfl)]
    unfold f__law_plugs
    push_cast [e1, itR1_run (show 0 ≤ 1 + r by omega) (by omega), e2, row_take h w2]
    rfl
theorem is_from_run (v lo hi : Int) : F_is_from [.int v, .int lo, .int hi] = some (.ok (.bl (decide (lo ≤ v ∧ v ≤ hi)))) := by
  unfold F_is_from
  rw [fnP_run (by rfl)]
  unfold f_is_from
  by_cases h1 : lo ≤ v
  · by_cases h2 : v ≤ hi
    · push_cast [decide_eq_true h1, decide_eq_true h2, decide_eq_true (And.intro h1 h2)]
    · push_cast [decide_eq_true h1, decide_eq_false h2, decide_eq_false (fun z : lo ≤ v ∧ v ≤ hi => h2 z.2)]
  · push_cast [decide_eq_false h1, decide_eq_false (fun z : lo ≤ v ∧ v ≤ hi => h1 z.1)]
theorem asBls_true : ∀ n, asBls (List.replicate n (D.bl true)) = some (List.replicate n true)
  | 0 => rfl
  | n + 1 => by rw [List.replicate_succ, asBls, asBls_true n]; rfl
theorem all_rep (n : Nat) : (List.replicate n true).all id = true := by simp
theorem oAllL_true (n : Nat) : oAllL (List.replicate n (D.bl true)) = some (.bl true) := by
  unfold oAllL
  rw [asBls_true]
  show some (D.bl ((List.replicate n true).all id)) = _
  rw [all_rep]
theorem lcL_true {tg : FG} {el : FE D} {ρ : Rho} {ω : Om} {ds : List D} (hl : ds.length ≤ lim) (h : ∀ d ∈ ds, ∃ ρ1, tg d ρ = some ρ1 ∧ el ρ1 ω = .ok (.bl true) ω) : lcL tg eTrue el ρ ds [] ω = .ok (.lst (List.replicate ds.length (D.bl true))) ω := by
  rw [lcL_pure (fun _ => some (D.bl true)) ds [] (by simpa using hl) (fun d hd => by
    obtain ⟨ρ1, h1, h2⟩ := h d hd
    exact ⟨ρ1, h1, rfl, h2⟩)]
  simp [List.filterMap_eq_map, List.map_const']
theorem fld_rows (s : List Int) : fldD "Strip" "rows" (stripD s) = some (socksD s) := by simp [fldD, stripD]
def PlanOk (n : Nat) (plan : Plan) : Prop := ∀ pl, some pl ∈ plan → pl.1 < n
theorem zip_tail : ∀ (s : List Int), s.Pairwise (· < ·) → ∀ d ∈ zipD (s.map D.int) ((s.map D.int).drop 1), ∃ a b : Int, d = .tup [.int a, .int b] ∧ a < b
  | [], _, d, hd => by simp [zipD] at hd
  | [x], _, d, hd => by simp [zipD] at hd
  | x :: y :: s, h, d, hd => by
    rw [List.pairwise_cons] at h
    have : zipD ((x :: y :: s).map D.int) (((x :: y :: s).map D.int).drop 1) = pairD (.int x) (.int y) :: zipD ((y :: s).map D.int) (((y :: s).map D.int).drop 1) := rfl
    rw [this] at hd
    rcases List.mem_cons.mp hd with rfl | hd
    · exact ⟨x, y, rfl, h.1 y (by simp)⟩
    · exact zip_tail (y :: s) h.2 d hd
theorem cut1 (ds : List D) : slD (some 1) none (.tup ds) = some (.tup (ds.drop 1)) := by
  show some (D.tup (cutD ds (some 1) none)) = some (D.tup (ds.drop 1))
  congr 2
  unfold cutD
  have : HT.sIx ds.length 0 (some 1) = min 1 ds.length := HT.sIx_nat _ _ 1
  rw [this, HT.sIx_none]
  cases ds with
  | nil => rfl
  | cons x xs =>
    have : min 1 (x :: xs).length = 1 := by simp
    rw [this]
    simp
def hereF : Nat → Plan → List Nat
  | _, [] => []
  | k, none :: r => hereF (k + 1) r
  | k, some _ :: r => k :: hereF (k + 1) r
def here (plan : Plan) : List Nat := hereF 0 plan
def nD (i : Nat) : D := .int (i : Int)
def pairsN (plan : Plan) : List (Nat × Nat) := (here plan).flatMap fun a => (here plan).filterMap fun b => if a < b then some (a, b) else none
def turnG (ps : List Plug) (plan : Plan) (i : Nat) : Option D := match plan[i]?, ps[i]? with
  | some (some pl), some p => if pl.2 && !canT p then some (.tup [.str "turn", nD i]) else none
  | _, _ => none
def sockG (plan : Plan) (p : Nat × Nat) : Option D := match plan[p.1]?, plan[p.2]? with
  | some (some x), some (some y) => if x.1 = y.1 then some (.tup [.str "socket", nD p.1, nD p.2]) else none
  | _, _ => none
def overG (s : List Int) (ps : List Plug) (plan : Plan) (p : Nat × Nat) : Option D := match plan[p.1]?, plan[p.2]?, ps[p.1]?, ps[p.2]? with
  | some (some x), some (some y), some a, some b => if apart s a x b y then none else some (.tup [.str "overlap", nD p.1, nD p.2])
  | _, _, _, _ => none
def orD (o : Option D) (d : D) : D := o.getD d
def fault (s : List Int) (ps : List Plug) (plan : Plan) : D :=
  orD ((here plan).findSome? (turnG ps plan)) (orD ((pairsN plan).findSome? (sockG plan)) (orD ((pairsN plan).findSome? (overG s ps plan)) .non))
theorem turn_enum {g1 : D → Option D} {g2 : Nat → Option D} : ∀ (plan : Plan) (k : Nat), (∀ j pl, plan[j]? = some (some pl) → g1 (pairI (k + j) (encO (some pl))) = g2 (k + j)) → (∀ i, g1 (pairI i .non) = none) →
    ((plan.map encO).mapIdx fun i d => pairI (i + k) d).findSome? g1 = (hereF k plan).findSome? g2
  | [], k, _, _ => rfl
  | o :: r, k, h1, h2 => by
    rw [List.map_cons, List.mapIdx_cons, List.findSome?_cons]
    have ih := turn_enum (g1 := g1) (g2 := g2) r (k + 1) (fun j pl e => by
      have := h1 (j + 1) pl (by simpa using e)
      rw [show k + (j + 1) = k + 1 + j by omega] at this
      exact this) h2
    have : (fun (i : Nat) (d : D) => pairI (i + 1 + k) d) = fun i d => pairI (i + (k + 1)) d := by funext i d; congr 1; omega
    rw [this, ih]
    cases o with
    | none =>
      have e : g1 (pairI (0 + k) (encO none)) = none := h2 _
      rw [e]; rfl
    | some q =>
      have e := h1 0 q rfl
      rw [Nat.zero_add]
      rw [Nat.add_zero] at e
      rw [e]
      show _ = List.findSome? g2 (k :: hereF (k + 1) r)
      rw [List.findSome?_cons]
theorem cut_lo (ds : List D) (k : Nat) : slD none (some (k : Int)) (.tup ds) = some (.tup (ds.take k)) := by
  show some (D.tup (cutD ds none (some (k : Int)))) = _
  unfold cutD
  rw [HT.sIx_none, HT.sIx_nat]
  simp only [List.drop_zero, Nat.sub_zero]
  congr 2
  by_cases h : k ≤ ds.length
  · rw [Nat.min_eq_left h]
  · rw [Nat.min_eq_right (by omega), List.take_of_length_le (Nat.le_refl _), List.take_of_length_le (by omega)]
def usedN (plan : Plan) : List Nat := plan.filterMap fun o => o.map (·.1)
def bodsN (s : List Int) (ps : List Plug) (plan : Plan) : List (Int × Int) := (ps.zip plan).filterMap fun q => q.2.map fun pl => (bBeg s q.1 pl, bEnd s q.1 pl)
def word (s : List Int) (ps : List Plug) (plan : Plan) (i : Nat) : D :=
  if (usedN plan).contains i then .str "used" else if (bodsN s ps plan).any fun b => decide (b.1 < s.getD i 0) && decide (s.getD i 0 < b.2) then .str "covered" else .str "free"
theorem asBls_map {α : Type} (f : α → Bool) : ∀ l : List α, asBls (l.map fun a => D.bl (f a)) = some (l.map f)
  | [] => rfl
  | a :: l => by
    show (asBls (l.map fun a => D.bl (f a))).map (f a :: ·) = _
    rw [asBls_map f l]; rfl
theorem all_map {α : Type} (f : α → Bool) (l : List α) : oAllL (l.map fun a => D.bl (f a)) = some (.bl (l.all f)) := by
  unfold oAllL
  rw [asBls_map]
  show some (D.bl ((l.map f).all id)) = _
  rw [List.all_map]; rfl
theorem cf : eqD (.str "covered") (.str "free") = some false := by rw [eqD_str (by decide +kernel) (by decide +kernel)]; decide +kernel
def placesN (n : Nat) (p : Plug) : List Place := (List.range n).flatMap fun i => if canT p then [(i, false), (i, true)] else [(i, false)]
structure Right (s : List Int) (ps : List Plug) (plan : Plan) : Prop where
  turn : ∀ (i : Nat) (pl : Place) (p : Plug), plan[i]? = some (some pl) → ps[i]? = some p → pl.2 = true → canT p = true
  sock : ∀ (i j : Nat) (x y : Place), plan[i]? = some (some x) → plan[j]? = some (some y) → i < j → x.1 ≠ y.1
  over : ∀ (i j : Nat) (x y : Place) (p q : Plug), plan[i]? = some (some x) → plan[j]? = some (some y) → ps[i]? = some p → ps[j]? = some q → i < j → apart s p x q y = true
abbrev M64 : Nat := 18446744073709551616
abbrev P1 : Nat := 11400714785074694791
abbrev P2 : Nat := 14029467366897019727
abbrev P5 : Nat := 2870177450012600261
abbrev Q1 : Nat := 614540362697595703
abbrev Q2 : Nat := 839798700976720815
def rot (z : Nat) : Nat := (z * 2 ^ 31) % M64 + z / 2 ^ 33
def hx (h : Int) : Nat := (h % (M64 : Int)).toNat
def hstep (acc : Nat) (h : Int) : Nat := rot ((acc + hx h * P2) % M64) * P1 % M64
def EndOk (e : Int) : Prop := e = -1000 ∨ (0 ≤ e ∧ e ≤ 400)
def hb (t : NestedKey) : Nat := hstep P5 (hashN t) * Q2 % M64
def subs : Nat → List (List Nat)
  | 0 => [[]]
  | n + 1 => subs n ++ (subs n).map (· ++ [n])
abbrev LK := List Nat × Int
abbrev Lay := List (LK × Int)
def keyD (k : LK) : D := .tup [.tup (k.1.map nD), .int k.2]
def itD (p : LK × Int) : D × D := (keyD p.1, .int p.2)
def layD (L : Lay) : KVs := L.map itD
def fnd (L : Lay) (k : LK) : Option Int := (L.find? fun p => decide (p.1 = k)).map (·.2)
def putL (L : Lay) (k : LK) (v : Int) : Lay := if (fnd L k).isSome = true then L.map (fun p => if p.1 = k then (p.1, v) else p) else L ++ [(k, v)]
def addL (L : Lay) (k : LK) (m : Int) : Lay := putL L k ((fnd L k).getD 0 + m)
theorem fnd_mem {L : Lay} {k : LK} : (fnd L k).isSome = true ↔ k ∈ L.map (·.1) := by
  unfold fnd
  rw [Option.isSome_map, List.find?_isSome, List.mem_map]
  constructor
  · rintro ⟨p, h1, h2⟩; exact ⟨p, h1, of_decide_eq_true h2⟩
  · rintro ⟨p, h1, h2⟩; exact ⟨p, h1, decide_eq_true h2⟩
theorem keys_put {L : Lay} {k : LK} {v : Int} : (putL L k v).map (·.1) = if k ∈ L.map (·.1) then L.map (·.1) else L.map (·.1) ++ [k] := by
  unfold putL
  by_cases h : (fnd L k).isSome = true
  · rw [if_pos h, if_pos (fnd_mem.mp h), List.map_map]
    apply List.map_congr_left
    intro p _
    dsimp only [Function.comp]
    split <;> rfl
  · rw [if_neg h, if_neg fun z => h (fnd_mem.mpr z), List.map_append]; rfl
theorem put_nodup {L : Lay} {k : LK} {v : Int} (h : (L.map (·.1)).Nodup) : ((putL L k v).map (·.1)).Nodup := by
  rw [keys_put]
  split
  · exact h
  · rename_i hn
    exact List.nodup_append.mpr ⟨h, List.nodup_cons.mpr ⟨List.not_mem_nil, List.nodup_nil⟩, fun a ha b hb e => by
      rw [List.mem_singleton] at hb; subst hb; exact hn (e ▸ ha)⟩
theorem put_keys {L : Lay} {k k' : LK} {v : Int} (h : k' ∈ (putL L k v).map (·.1)) : k' = k ∨ k' ∈ L.map (·.1) := by
  rw [keys_put] at h
  split at h
  · exact .inr h
  · rcases List.mem_append.mp h with h | h
    · exact .inr h
    · exact .inl (List.mem_singleton.mp h)
def ins (h : List Nat) (i : Nat) : List Nat := (h ++ [i]).mergeSort fun a b => decide (a ≤ b)
theorem ins_mem {h : List Nat} {i x : Nat} : x ∈ ins h i ↔ x ∈ h ∨ x = i := by
  unfold ins
  rw [(List.mergeSort_perm _ _).mem_iff, List.mem_append, List.mem_singleton]
theorem ins_asc {h : List Nat} {i : Nat} (ha : h.Pairwise (· < ·)) (hi : i ∉ h) : (ins h i).Pairwise (· < ·) := by
  have nd : (ins h i).Nodup := by
    unfold ins
    rw [(List.mergeSort_perm _ _).nodup_iff]
    exact List.nodup_append.mpr ⟨ha.imp fun z => Nat.ne_of_lt z, List.nodup_cons.mpr ⟨List.not_mem_nil, List.nodup_nil⟩, fun a ha b hb e => by
      rw [List.mem_singleton] at hb; subst hb; exact hi (e ▸ ha)⟩
  have so : (ins h i).Pairwise fun a b => decide (a ≤ b) = true := by
    unfold ins
    exact List.pairwise_mergeSort (fun a b c h1 h2 => by have := of_decide_eq_true h1; have := of_decide_eq_true h2; exact decide_eq_true (by omega)) (fun a b => by
      rcases Nat.le_total a b with z | z
      · rw [decide_eq_true z]; rfl
      · rw [decide_eq_true z]; cases decide (a ≤ b) <;> rfl) _
  have := List.Pairwise.and so nd
  exact this.imp fun z => by have := of_decide_eq_true z.1; have := z.2; omega
theorem mem_subs : ∀ {n : Nat} {h : List Nat}, h.Pairwise (· < ·) → (∀ x ∈ h, x < n) → h ∈ subs n
  | 0, h, _, hx => by
    cases h with
    | nil => exact List.mem_singleton.mpr rfl
    | cons a r => have := hx a List.mem_cons_self; omega
  | n + 1, h, ha, hx => by
    unfold subs
    by_cases hn : n ∈ h
    · have e : ∃ r, h = r ++ [n] := by
        rcases List.eq_nil_or_concat h with z | ⟨r, y, z⟩
        · subst z; cases hn
        · rw [List.concat_eq_append] at z
          subst z
          refine ⟨r, ?_⟩
          rcases List.mem_append.mp hn with w | w
          · have h1 := (List.pairwise_append.mp ha).2.2 n w y (List.mem_singleton.mpr rfl)
            have h2 := hx y (List.mem_append.mpr (.inr (List.mem_singleton.mpr rfl)))
            omega
          · rw [List.mem_singleton.mp w]
      obtain ⟨r, rfl⟩ := e
      obtain ⟨h1, h2, h3⟩ := List.pairwise_append.mp ha
      refine List.mem_append.mpr (.inr (List.mem_map.mpr ⟨r, mem_subs h1 fun x hxr => ?_, rfl⟩))
      exact h3 x hxr n (List.mem_singleton.mpr rfl)
    · refine List.mem_append.mpr (.inl (mem_subs ha fun x hxh => ?_))
      have := hx x hxh
      have : x ≠ n := fun z => hn (z ▸ hxh)
      omega
structure LayOk (L : Lay) : Prop where
  nd : (L.map (·.1)).Nodup
  asc : ∀ k ∈ L.map (·.1), k.1.Pairwise (· < ·) ∧ (∀ x ∈ k.1, x < 6) ∧ EndOk k.2
def ends : List Int := -1000 :: (List.range 401).map fun (i : Nat) => (i : Int)
def univ : List LK := (subs 6).flatMap fun h => ends.map fun e => (h, e)
theorem sub_len {α : Type} [DecidableEq α] : ∀ {a b : List α}, a.Nodup → (∀ x ∈ a, x ∈ b) → a.length ≤ b.length
  | [], b, _, _ => Nat.zero_le _
  | x :: a, b, h, hs => by
    rw [List.nodup_cons] at h
    have h1 := sub_len (b := b.erase x) h.2 fun y hy => (List.mem_erase_of_ne fun e => h.1 (by rw [← e]; exact hy)).mpr (hs y (List.mem_cons_of_mem _ hy))
    rw [List.length_erase_of_mem (hs x List.mem_cons_self)] at h1
    have : 0 < b.length := List.length_pos_of_mem (hs x List.mem_cons_self)
    rw [List.length_cons]; omega
theorem LayOk.len {L : Lay} (h : LayOk L) : L.length ≤ 25728 := by
  have : (L.map (·.1)).length ≤ univ.length := sub_len h.nd fun k hk => by
    obtain ⟨a1, a2, a3⟩ := h.asc k hk
    refine List.mem_flatMap.mpr ⟨k.1, mem_subs a1 a2, List.mem_map.mpr ⟨k.2, ?_, rfl⟩⟩
    unfold ends
    rcases a3 with e | e
    · rw [e]; exact List.mem_cons_self
    · refine List.mem_cons_of_mem _ (List.mem_map.mpr ⟨k.2.toNat, List.mem_range.mpr (by omega), by omega⟩)
  rw [List.length_map] at this
  have e : univ.length = 25728 := by
    unfold univ
    rw [List.length_flatMap]
    have : ∀ h : List Nat, (ends.map fun e => (h, e)).length = 402 := fun h => by rw [List.length_map]; unfold ends; rw [List.length_cons, List.length_map, List.length_range]
    simp only [this]
    decide
  omega
theorem LayOk.lt {L : Lay} (h : LayOk L) : (layD L).length < lim := by unfold layD; rw [List.length_map]; have := h.len; show _ < 16777216; omega
theorem LayOk.put {L : Lay} {k : LK} {v : Int} (h : LayOk L) (a : k.1.Pairwise (· < ·)) (b : ∀ x ∈ k.1, x < 6) (c : EndOk k.2) : LayOk (putL L k v) :=
  ⟨put_nodup h.nd, fun k' hk => by
    rcases put_keys hk with rfl | z
    · exact ⟨a, b, c⟩
    · exact h.asc k' z⟩
theorem LayOk.add {L : Lay} {k : LK} {m : Int} (h : LayOk L) (a : k.1.Pairwise (· < ·)) (b : ∀ x ∈ k.1, x < 6) (c : EndOk k.2) : LayOk (addL L k m) := h.put a b c
abbrev Fix := List (Nat × Place)
def fixAt (fx : Fix) (i : Nat) : Option Place := (fx.find? fun z => decide (z.1 = i)).map (·.2)
def fixOk (fx : Fix) (i : Nat) (pl : Place) : Bool := decide ((fixAt fx i).getD pl = pl)
def plugAt (ps : List Plug) (i : Nat) : Plug := ps.getD i (0, 0, false)
def standsB (p : Plug) : List Bool := if canT p then [false, true] else [false]
section
variable (s : List Int) (ps : List Plug) (w : List Nat) (fx : Fix)
def goes (n : Nat) (e : Int) (i : Nat) (t : Bool) : Bool := decide (e ≤ bBeg s (plugAt ps i) (n, t)) && fixOk fx i (n, t)
end
structure PsOk (s : List Int) (ps : List Plug) : Prop where
  sk : ∀ x ∈ s, 0 ≤ x ∧ x ≤ 300
  pl : ∀ p ∈ ps, PlugOk p
  len : ps.length ≤ 6
  sl : s.length ≤ 100
theorem plug_at {ps : List Plug} {i : Nat} (h : i < ps.length) : ps[i]? = some (plugAt ps i) := by
  unfold plugAt; rw [List.getD_eq_getElem?_getD, List.getElem?_eq_getElem h]; rfl
section
variable {s : List Int} {ps : List Plug} {w : List Nat} {fx : Fix}
end
section
variable {s : List Int} {ps : List Plug} {w : List Nat} {fx : Fix}
theorem lcT {α : Type} {tg : FG} {tt : FE Bool} {el : FE D} {ρ : Rho} {ω : Om} (f : α → D) (p : α → Bool) (y : α → D) : ∀ (xs : List α) (acc : List D), acc.length + xs.length ≤ lim →
    (∀ x ∈ xs, ∃ ρ1, tg (f x) ρ = some ρ1 ∧ tt ρ1 ω = .ok (p x) ω ∧ (p x = true → el ρ1 ω = .ok (y x) ω)) → lcL tg tt el ρ (xs.map f) acc ω = .ok (.lst (acc ++ (xs.filter p).map y)) ω
  | [], acc, _, _ => by rw [List.map_nil]; unfold lcL; simp
  | x :: xs, acc, hl, h => by
    obtain ⟨ρ1, h1, h2, h3⟩ := h x List.mem_cons_self
    rw [List.length_cons] at hl
    rw [List.map_cons]
    unfold lcL
    rw [h1]
    dsimp only
    rw [h2]
    cases q : p x with
    | true =>
      dsimp only
      rw [h3 q]
      dsimp only
      rw [if_pos (by omega), lcT f p y xs (acc ++ [y x]) (by simp; omega) fun d' hd' => h d' (List.mem_cons_of_mem _ hd'), List.filter_cons_of_pos q]
      simp
    | false =>
      dsimp only
      rw [lcT f p y xs acc (by omega) fun d' hd' => h d' (List.mem_cons_of_mem _ hd'), List.filter_cons_of_neg (by rw [q]; exact Bool.false_ne_true)]
end
section
variable {s : List Int} {ps : List Plug} {w : List Nat} {fx : Fix}
def mvT (s : List Int) (ps : List Plug) (fx : Fix) (n : Nat) (φ : LK → Int) (k : LK) (i : Nat) (t : Bool) : Int := if goes s ps fx n k.2 i t = true then φ (ins k.1 i, bEnd s (plugAt ps i) (n, t)) else 0
def mvI (s : List Int) (ps : List Plug) (fx : Fix) (n : Nat) (φ : LK → Int) (k : LK) (i : Nat) : Int := if i ∈ k.1 then 0 else ((standsB (plugAt ps i)).map (mvT s ps fx n φ k i)).sum
def mv (s : List Int) (ps : List Plug) (w : List Nat) (fx : Fix) (n : Nat) (φ : LK → Int) (k : LK) : Int := (w.map (mvI s ps fx n φ k)).sum
def back (s : List Int) (ps : List Plug) (w : List Nat) (fx : Fix) (φ : LK → Int) : Nat → Nat → LK → Int
  | 0, _, k => φ k
  | r + 1, n, k => back s ps w fx φ r (n + 1) k + mv s ps w fx n (back s ps w fx φ r (n + 1)) k
end
def addP (n : Nat) (ps : List Plug) (k : Nat) (rows : List Plan) : List Plan := rows.flatMap fun one => (placesN n (plugAt ps k)).map fun pl => one.set k (some pl)
def allR (n : Nat) (ps : List Plug) : List Nat → List Plan
  | [] => [List.replicate ps.length none]
  | k :: r => addP n ps k (allR n ps r)
def allP (n : Nat) (ps : List Plug) (w : List Nat) : List Plan := allR n ps w.reverse
structure Full (n : Nat) (ps : List Plug) (w : List Nat) (q : Plan) : Prop where
  len : q.length = ps.length
  on : ∀ i ∈ w, ∃ pl, pl ∈ placesN n (plugAt ps i) ∧ q[i]? = some (some pl)
  off : ∀ i, i < ps.length → i ∉ w → q[i]? = some none
open Classical in
noncomputable def io (p : Prop) : Int := if p then 1 else 0
noncomputable def num (U : List Plan) (P : Plan → Prop) : Int := (U.map fun q => io (P q)).sum
abbrev Chn := List (Nat × Place)
section
variable (s : List Int) (ps : List Plug) (w : List Nat) (fx : Fix)
abbrev zEnd (z : Nat × Place) : Int := bEnd s (plugAt ps z.1) z.2
abbrev zBeg (z : Nat × Place) : Int := bBeg s (plugAt ps z.1) z.2
structure Ch (n : Nat) (k : LK) (c : Chn) : Prop where
  asc : k.1.Pairwise (· < ·)
  idx : ∀ x, x ∈ k.1 ↔ x ∈ c.map (·.1)
  hd : (c = [] ∧ k.2 = -1000) ∨ ∃ z r, c = z :: r ∧ k.2 = zEnd s ps z
  each : ∀ z ∈ c, z.1 ∈ w ∧ z.2.1 < n ∧ z.2.2 ∈ standsB (plugAt ps z.1) ∧ fixOk fx z.1 z.2 = true ∧ zEnd s ps z ≤ k.2
  pw : c.Pairwise fun a b => b.2.1 < a.2.1 ∧ b.1 ≠ a.1 ∧ zEnd s ps b ≤ zBeg s ps a
end
section
variable {s : List Int} {ps : List Plug} {w : List Nat} {fx : Fix}
theorem plugAt_ok (P : PsOk s ps) {i : Nat} (hi : i < ps.length) : PlugOk (plugAt ps i) := P.pl _ (List.mem_of_getElem? (plug_at hi))
theorem beg_end (P : PsOk s ps) {i : Nat} (hi : i < ps.length) (pl : Place) : bBeg s (plugAt ps i) pl ≤ bEnd s (plugAt ps i) pl := by
  have h2 := plugAt_ok P hi
  have := h2.l0; have := h2.l1; have := h2.r0; have := h2.r1
  unfold bBeg bEnd sideL sideR
  cases pl.2 <;> simp <;> omega
theorem Ch.mono {n : Nat} {k : LK} {c : Chn} (h : Ch s ps w fx n k c) : Ch s ps w fx (n + 1) k c :=
  ⟨h.asc, h.idx, h.hd, fun z hz => have e := h.each z hz; ⟨e.1, by have := e.2.1; omega, e.2.2⟩, h.pw⟩
theorem Ch.add (P : PsOk s ps) (W : ∀ i ∈ w, i < ps.length) {n i : Nat} {t : Bool} {k : LK} {c : Chn} (h : Ch s ps w fx n k c) (hi : i ∈ w) (hk : i ∉ k.1) (ht : t ∈ standsB (plugAt ps i)) (hg : goes s ps fx n k.2 i t = true) :
    Ch s ps w fx (n + 1) (ins k.1 i, bEnd s (plugAt ps i) (n, t)) ((i, (n, t)) :: c) := by
  unfold goes at hg
  obtain ⟨g1, g2⟩ := Bool.and_eq_true_iff.mp hg
  have g1 := of_decide_eq_true g1
  have be := beg_end P (W i hi) (n, t)
  refine ⟨ins_asc h.asc hk, fun x => ?_, .inr ⟨_, _, rfl, rfl⟩, fun z hz => ?_, List.pairwise_cons.mpr ⟨fun z hz => ?_, h.pw⟩⟩
  · rw [ins_mem, List.map_cons, List.mem_cons, h.idx]
    exact ⟨fun z => z.elim .inr .inl, fun z => z.elim .inr .inl⟩
  · rcases List.mem_cons.mp hz with rfl | hz
    · exact ⟨hi, by dsimp only; omega, ht, g2, Int.le_refl _⟩
    · have e := h.each z hz
      exact ⟨e.1, by have := e.2.1; omega, e.2.2.1, e.2.2.2.1, by have := e.2.2.2.2; dsimp only; omega⟩
  · have e := h.each z hz
    exact ⟨e.2.1, fun q => hk ((h.idx i).mpr (List.mem_map.mpr ⟨z, hz, q⟩)), by have := e.2.2.2.2; show zEnd s ps z ≤ bBeg s (plugAt ps i) (n, t); omega⟩
theorem Ch.nd {n : Nat} {k : LK} {c : Chn} (h : Ch s ps w fx n k c) : c.Pairwise fun a b => b.1 ≠ a.1 := h.pw.imp fun z => z.2.1
end
section
variable (s : List Int) (ps : List Plug) (w : List Nat) (fx : Fix)
def fixB (q : Plan) : Bool := w.all fun i => match q[i]? with
  | some (some pl) => fixOk fx i pl
  | _ => true
def okayB (q : Plan) : Bool := Dl.isNon (fault s ps q) && fixB w fx q
def vals : List Plan := (allP s.length ps w).filter (okayB s ps w fx)
end
section
variable {s : List Int} {ps : List Plug} {w : List Nat} {fx : Fix}
end
theorem asBls_mapQ {α : Type} (f : α → Bool) : ∀ l : List α, asBls (l.map fun a => D.bl (f a)) = some (l.map f)
  | [] => rfl
  | a :: l => by
    show (asBls (l.map fun a => D.bl (f a))).map (f a :: ·) = _
    rw [asBls_mapQ f l]; rfl
theorem all_mapQ {α : Type} (f : α → Bool) (l : List α) : oAllL (l.map fun a => D.bl (f a)) = some (.bl (l.all f)) := by
  unfold oAllL
  rw [asBls_mapQ]
  show some (D.bl ((l.map f).all id)) = _
  rw [List.all_map]; rfl
theorem enum_cons (d : D) (ds : List D) (k : Nat) : ((d :: ds).mapIdx fun i e => pairI (k + i) e) = pairI k d :: ds.mapIdx fun i e => pairI (k + 1 + i) e := by
  rw [List.mapIdx_cons]
  congr 1
  apply List.mapIdx_eq_mapIdx_iff.mpr
  intro i hi
  rw [Nat.add_assoc, Nat.add_comm 1 i]
theorem enum_zero (ds : List D) : enumD ds = ds.mapIdx fun i e => pairI (0 + i) e := by
  unfold enumD
  apply List.mapIdx_eq_mapIdx_iff.mpr
  intro i hi
  rw [Nat.zero_add]
section
variable {S P V U : D} {x : Exn}
end
section
variable {S P V U : D} {w : Int}
end
theorem atI_mem {xs : List D} {r : Int} (h0 : 0 ≤ r) (h : r < xs.length) : ∃ d, d ∈ xs ∧ atI xs r = some d := by
  have hl : r.toNat < xs.length := by omega
  exact ⟨xs[r.toNat], List.getElem_mem hl, by rw [atI_get' h0, List.getElem?_eq_getElem hl]⟩
theorem strip_init2 {s : List Int} (h : Socks s) (hl : s.length ≤ 9) : F_Strip_d__init_d__2 [.own 0, .val (socksD s)] [some (.ins "Strip" [])] = .ok (.val .non) [some (.ins "Strip" [("rows", socksD s)])] := by
  have h1 : decide ((1 : Int) ≤ (s.length : Int)) = true := by
    have : s.length ≠ 0 := fun z => h.ne (List.eq_nil_of_length_eq_zero z)
    simp; omega
  have h2 : decide ((s.length : Int) ≤ 9) = true := by simp; omega
  have e9 : itSeq (socksD s) = some (s.map D.int) := rfl
  have e10 : slD (some 1) none (socksD s) = some (.tup ((s.map D.int).drop 1)) := cut1 _
  have e11 : ∀ x, itZ (socksD s) (.tup x) = some (zipD (s.map D.int) x) := fun x => rfl
  have e5 : lc_Strip_d__init_d__2_1 [some (SV.own 0), some (SV.val (socksD s)), none, none] [some (.ins "Strip" [])] = .ok (.lst (List.replicate (s.map D.int).length (.bl true))) [some (.ins "Strip" [])] := by
    unfold lc_Strip_d__init_d__2_1
    push_cast [e9]
    exact lcL_true (by rw [List.length_map]; show _ ≤ 16777216; omega) (fun d hd => by
      refine ⟨_, rfl, ?_⟩
      obtain ⟨x, hx, rfl⟩ := List.mem_map.mp hd
      have e : F_is_from [.int x, .int 0, .int 300] = some (.ok (.bl true)) := by rw [is_from_run, decide_eq_true (h.rg x hx)]
      push_cast [e])
  have e6 : lc_Strip_d__init_d__2_2 [some (SV.own 0), some (SV.val (socksD s)), none, none] [some (.ins "Strip" [])] = .ok (.lst (List.replicate (zipD (s.map D.int) ((s.map D.int).drop 1)).length (.bl true))) [some (.ins "Strip" [])] := by
    unfold lc_Strip_d__init_d__2_2
    push_cast [e10, e11]
    exact lcL_true (by unfold zipD; rw [List.length_zipWith, List.length_map]; show _ ≤ 16777216; omega) (fun d hd => by
      obtain ⟨a, b, rfl, hab⟩ := zip_tail s h.asc d hd
      refine ⟨_, rfl, ?_⟩
      push_cast [decide_eq_true hab])
  unfold F_Strip_d__init_d__2
  rw [fnE_run (by rfl)]
  unfold f_Strip_d__init_d__2
  have e7 : oLen [socksD s] = some (.int s.length) := by unfold socksD; rw [oLen_tup, List.length_map]
  have e8 : isiD "tuple" (socksD s) = some (.bl true) := isi_tuple_tup _
  push_cast [h1, h2, e5, e6, e7, e8, oAllL_true]
  rfl
section
variable {s : List Int} {ps : List Plug} {plan : Plan}
structure PlsOk (ps : List Plug) : Prop where
  ok : ∀ p ∈ ps, PlugOk p
  ne : ps ≠ []
  len : ps.length ≤ 5
end
section
variable {s : List Int} {ps : List Plug} {w : List Nat} {fx : Fix}
abbrev allW (ps : List Plug) : List Nat := List.range ps.length
abbrev rightP (s : List Int) (ps : List Plug) : List Plan := vals s ps (allW ps) []
end
section
variable {s : List Int} {ps : List Plug} {w : List Nat} {sd : D}
end
section
variable {s : List Int} {ps : List Plug} {w : List Nat}
theorem whole {q : Plan} (F : Full s.length ps (allW ps) q) : ∃ l : List Place, q = l.map some := by
  have : ∀ o ∈ q, ∃ x : Place, o = some x := fun o ho => by
    obtain ⟨i, hi⟩ := List.getElem?_of_mem ho
    have hl : i < ps.length := by rw [← F.len]; exact (List.getElem?_eq_some_iff.mp hi).1
    obtain ⟨pl, _, e⟩ := F.on i (List.mem_range.mpr hl)
    rw [hi] at e
    cases e
    exact ⟨pl, rfl⟩
  clear F
  induction q with
  | nil => exact ⟨[], rfl⟩
  | cons o q ih =>
    obtain ⟨x, rfl⟩ := this o List.mem_cons_self
    obtain ⟨l, rfl⟩ := ih fun o ho => this o (List.mem_cons_of_mem _ ho)
    exact ⟨x :: l, rfl⟩
end
theorem eqD_some {n : Nat} {d : D} {ds : List D} (h : dOk n (.lst (d :: ds)) = true) (hn : n ≤ 64) : eqD (.lst (d :: ds)) (.lst []) = some false := by
  obtain ⟨p, h1, h2, h3⟩ := toPy_ok n _ h
  unfold eqD
  rw [h1, show toPy (.lst []) = some (.list []) from rfl]
  have hs : SeqAt.shaped p = true := by unfold SeqAt.shaped; rw [h2, Bool.true_and, decide_eq_true_eq]; omega
  dsimp only
  rw [hs, show SeqAt.shaped (.list []) = true from by decide]
  rw [toPy, toPys] at h1
  cases u : toPy d with
  | none => rw [u] at h1; cases h1
  | some x =>
    rw [u] at h1
    cases u2 : toPys ds with
    | none => rw [u2] at h1; cases h1
    | some y =>
      rw [u2] at h1
      cases h1
      simp [PyData.eqv, PyData.eqvAll]
section
variable {n : Nat} (fit : List Nat → Bool)
variable {fit}
end
section
variable {s : List Int} {ps : List Plug}
end
section
variable {s : List Int} {ps : List Plug}
end
section
variable {s : List Int} {ps : List Plug}
end
section
variable {s : List Int} {ps : List Plug} {ns : List Int}
end
structure Sto {α : Type} (lt : α → α → Bool) : Prop where
  irr : ∀ a, lt a a = false
  trans : ∀ a b c, lt a b = true → lt b c = true → lt a c = true
  tri : ∀ a b, lt a b = false → lt b a = false → a = b
theorem Sto.le_trans {α : Type} {lt : α → α → Bool} (h : Sto lt) {a b c : α} (x : lt b a = false) (y : lt c b = false) : lt c a = false := by
  cases q : lt c a with
  | false => rfl
  | true =>
    cases r : lt a b with
    | true => rw [h.trans c a b q r] at y; cases y
    | false => rw [h.tri a b r x] at q; rw [q] at y; cases y
theorem sto_int : Sto fun a b : Int => decide (a < b) :=
  ⟨fun a => decide_eq_false (by omega), fun a b c h1 h2 => by have := of_decide_eq_true h1; have := of_decide_eq_true h2; exact decide_eq_true (by omega), fun a b h1 h2 => by have := of_decide_eq_false h1; have := of_decide_eq_false h2; omega⟩
theorem sto_nat : Sto fun a b : Nat => decide (a < b) :=
  ⟨fun a => decide_eq_false (by omega), fun a b c h1 h2 => by have := of_decide_eq_true h1; have := of_decide_eq_true h2; exact decide_eq_true (by omega), fun a b h1 h2 => by have := of_decide_eq_false h1; have := of_decide_eq_false h2; omega⟩
theorem sto_bool : Sto fun a b : Bool => !a && b := ⟨by decide, by decide, by decide⟩
def lexP {α β : Type} [DecidableEq α] (l : α → α → Bool) (m : β → β → Bool) (a b : α × β) : Bool := if a.1 = b.1 then m a.2 b.2 else l a.1 b.1
theorem sto_pair {α β : Type} [DecidableEq α] {l : α → α → Bool} {m : β → β → Bool} (hl : Sto l) (hm : Sto m) : Sto (lexP l m) := by
  refine ⟨fun a => ?_, fun a b c h1 h2 => ?_, fun a b h1 h2 => ?_⟩
  · unfold lexP; rw [if_pos rfl]; exact hm.irr _
  · unfold lexP at *
    by_cases e1 : a.1 = b.1
    · rw [if_pos e1] at h1
      by_cases e2 : b.1 = c.1
      · rw [if_pos e2] at h2; rw [if_pos (e1.trans e2)]; exact hm.trans _ _ _ h1 h2
      · rw [if_neg e2] at h2; rw [e1, if_neg e2]; exact h2
    · rw [if_neg e1] at h1
      by_cases e2 : b.1 = c.1
      · rw [← e2, if_neg e1]; exact h1
      · rw [if_neg e2] at h2
        have h3 := hl.trans _ _ _ h1 h2
        rw [if_neg fun z => by rw [z, hl.irr] at h3; cases h3]
        exact h3
  · unfold lexP at *
    by_cases e1 : a.1 = b.1
    · rw [if_pos e1] at h1
      rw [if_pos e1.symm] at h2
      exact Prod.ext e1 (hm.tri _ _ h1 h2)
    · rw [if_neg e1] at h1
      rw [if_neg fun z => e1 z.symm] at h2
      exact absurd (hl.tri _ _ h1 h2) e1
def lexL {α : Type} [DecidableEq α] (l : α → α → Bool) : List α → List α → Bool
  | [], [] => false
  | [], _ :: _ => true
  | _ :: _, [] => false
  | x :: a, y :: b => if x = y then lexL l a b else l x y
theorem sto_list {α : Type} [DecidableEq α] {l : α → α → Bool} (hl : Sto l) : Sto (lexL l) := by
  refine ⟨fun a => ?_, fun a => ?_, fun a => ?_⟩
  · induction a with
    | nil => rfl
    | cons x a ih => unfold lexL; rw [if_pos rfl]; exact ih
  · induction a with
    | nil =>
      intro b c h1 h2
      cases b with
      | nil => cases h1
      | cons y b => cases c with
        | nil => cases h2
        | cons z c => rfl
    | cons x a ih =>
      intro b c h1 h2
      cases b with
      | nil => cases h1
      | cons y b =>
        cases c with
        | nil => cases h2
        | cons z c =>
          unfold lexL at h1 h2 ⊢
          by_cases e1 : x = y
          · rw [if_pos e1] at h1
            by_cases e2 : y = z
            · rw [if_pos e2] at h2; rw [if_pos (e1.trans e2)]; exact ih b c h1 h2
            · rw [if_neg e2] at h2; rw [e1, if_neg e2]; exact h2
          · rw [if_neg e1] at h1
            by_cases e2 : y = z
            · rw [← e2, if_neg e1]; exact h1
            · rw [if_neg e2] at h2
              have h3 := hl.trans _ _ _ h1 h2
              rw [if_neg fun q => by rw [q, hl.irr] at h3; cases h3]
              exact h3
  · induction a with
    | nil =>
      intro b h1 h2
      cases b with
      | nil => rfl
      | cons y b => cases h1
    | cons x a ih =>
      intro b h1 h2
      cases b with
      | nil => cases h2
      | cons y b =>
        unfold lexL at h1 h2
        by_cases e1 : x = y
        · rw [if_pos e1] at h1
          rw [if_pos e1.symm] at h2
          rw [e1, ih b h1 h2]
        · rw [if_neg e1] at h1
          rw [if_neg fun z => e1 z.symm] at h2
          exact absurd (hl.tri _ _ h1 h2) e1
section
variable {κ ν : Type} [DecidableEq κ]
abbrev Td (κ ν : Type) := List (κ × ν)
variable {kE : κ → D} {vE : ν → D} {L : Td κ ν} {k k' : κ} {v : ν}
end
abbrev Val := Int × List Place
def ltPl : Place → Place → Bool := lexP (fun a b : Nat => decide (a < b)) fun a b : Bool => !a && b
def ltO : List Place → List Place → Bool := lexL ltPl
def ltV : Val → Val → Bool := lexP (fun a b : Int => decide (a < b)) ltO
theorem sto_pl : Sto ltPl := sto_pair sto_nat sto_bool
theorem sto_o : Sto ltO := sto_list sto_pl
theorem sto_v : Sto ltV := sto_pair sto_int sto_o
section
variable (ps : List Plug) (stp : Place → Place → Int) (c0 : Int)
def cstF (z : Int × Option Place) (x : Place) : Int × Option Place := (match z.2 with | none => z.1 | some y => z.1 + stp y x, some x)
def cst (o : List Place) : Int := (o.foldl (cstF stp) (c0, none)).1
structure Vo (o : List Place) : Prop where
  nd : (o.map (·.1)).Nodup
  ok : ∀ x ∈ o, x.1 < ps.length ∧ x.2 ∈ standsB (plugAt ps x.1)
end
section
variable {ps : List Plug} {stp : Place → Place → Int} {c0 : Int}
structure Best (ps : List Plug) (stp : Place → Place → Int) (c0 : Int) (v : Val) : Prop where
  is : v.1 = cst stp c0 v.2
  vo : Vo ps v.2
  len : v.2.length = ps.length
  least : ∀ o, Vo ps o → o.length = ps.length → ltV (cst stp c0 o, o) v = false
theorem Best.one {u v : Val} (a : Best ps stp c0 u) (b : Best ps stp c0 v) : u = v := by
  have h1 := a.least v.2 b.vo b.len
  have h2 := b.least u.2 a.vo a.len
  rw [← b.is] at h1
  rw [← a.is] at h2
  exact sto_v.tri _ _ h2 h1
end
section
variable {ps : List Plug}
end
section
variable {ps : List Plug}
end
theorem Socks.pos {s : List Int} (h : Socks s) : 0 < s.length := by
  rcases Nat.eq_zero_or_pos s.length with z | z
  · exact absurd (List.eq_nil_of_length_eq_zero z) h.ne
  · exact z
theorem PlsOk.pos {ps : List Plug} (h : PlsOk ps) : 0 < ps.length := by
  rcases Nat.eq_zero_or_pos ps.length with z | z
  · exact absurd (List.eq_nil_of_length_eq_zero z) h.ne
  · exact z
section
variable {ps : List Plug}
end
def v6 : Val := (6, [(0, false), (1, false), (2, false), (3, false), (4, false), (5, false)])
theorem eSortSet_run {ρ : Rho} {ω : Om} (f : FE D) : eSortSet f ρ ω = bindL (f ρ ω) (k := ⟨fun x ω1 => Res.lift (oSortSet x) ω1⟩) := rfl
def can (s : List Int) (ps : List Plug) : Bool := !(rightP s ps).isEmpty
section
variable {s : List Int} {ps : List Plug}
end
end Pk
namespace Pk
open PySem Dl L2
local macro_rules
  | `(tactic| push_cast [$xs,*]) => `(tactic| simp -implicitDefEqProofs only [↓eC_run, ↓eVar_run, ↓eSlot_run, ↓eBin_run, ↓eUn_run, ↓eTest_run, ↓eAndT_run, ↓eOrT_run, ↓eNotT_run, ↓eTrue_run, ↓eAnd_run, ↓eOr_run, ↓eNot_run, ↓eIf_run, ↓aNil_run, ↓aCons_run, ↓aVal_run, ↓eTup_run, ↓eList_run, ↓eLst_run, ↓eCallB_run, ↓eOnL_run, ↓eIsi_run, ↓eSl_run, ↓ePart_run, ↓eNoPart_run, ↓eChain_run, ↓eIxO_run, ↓eOwnL_run, ↓sNext_run, ↓sSeq_run, ↓sIf_run, ↓sExpr_run, ↓sRet_run, ↓sRetS_run, ↓sRetN_run, ↓sBreak_run, ↓sCont_run, ↓sAsg_run, ↓sSetS_run, ↓sPar_run, ↓sFor_run, ↓sWhile_run, ↓eIt1_run, ↓eIt2_run, ↓eIt3_run, ↓eLc_run, ↓eLc2_run, ↓sNewL_run, ↓sApp_run, ↓sSetIx_run, ↓sRetL_run, ↓sRetNew_run, ↓eCallP_run, ↓eCallE_run, ↓eVal_run, ↓eMake_run, ↓eFld_run, ↓sRaise_run, ↓sRaiseI_run, ↓sTry_run, ↓eIsx_run, ↓sPar3_run, ↓eNewL_run, ↓eNDisp_run, ↓eKDisp_run, ↓eEmptyK_run, ↓eNewN_run, ↓eKM_run, ↓eNGet_run, ↓eKGet_run, ↓eNGetO_run, ↓eCopyN_run, ↓sNPut_run, ↓aStar_run, ↓eRg1_run, ↓eIsi2_run, ↓eCopyL_run, ↓eNVals_run, ↓eSortSet_run, bind_ok, bind_exc, out_ok, out_exc, lift_some, obind_next, obind_ret, obind_exc, obind_brk, obind_cont, varR_run, slotR_run, asBl_run, allD_nil, allD_cons, asLst_run, asI_run, chR_run, ownK_run, ownKR_run, ownL_run, ownLR_run, someR_run, someO_run, ixI_run, parR_run, gN_run, gsNil_run, gsCons_run, itSeq_lst, itSeq_tup, itEn_lst, itEn_tup, itZ_lst, itZ_tup, wipeR_nil, wipeR_cons, setIxR_run, finP_ret, finP_next, finP_exc, finE_ret, finE_next, finE_exc, callR_ok, callR_err, valR_run, makeR_ok, makeR_exc, opAdd_int, opI_run, opB_run, opMulA_int, opEq_run, opNe_run, opIsN_run, opNotN_run, opIx_tup, opIx_lst, opNeg_run, oLen_tup, oLen_lst, oInt_int, oInt_bl, oTuple_tup, oTuple_lst, oList_tup, oList_lst, oTupleL_run, oListL_run, oLenL_run, isi_int_non, isi_int_bl, isi_int_int, isi_int_str, isi_int_tup, isi_int_lst, isi_bool_non, isi_bool_bl, isi_bool_int, isi_bool_str, isi_bool_tup, isi_bool_lst, isi_tuple_non, isi_tuple_bl, isi_tuple_int, isi_tuple_str, isi_tuple_tup, isi_tuple_lst, isi_str_non, isi_str_bl, isi_str_int, isi_str_str, isi_str_tup, isi_str_lst, isi_list_non, isi_list_bl, isi_list_int, isi_list_str, isi_list_tup, isi_list_lst, atI_0, atI_1, atI_2, atI_3, atI_4, atI_5, atI_6, atI_7, atI_8, ixN_1_0, ixN_2_0, ixN_2_1, ixN_3_0, ixN_3_1, ixN_3_2, ixN_4_0, ixN_4_1, ixN_4_2, ixN_4_3, ixN_5_0, ixN_5_1, ixN_5_2, ixN_5_3, ixN_5_4, eqD_int, eqD_bl, eqD_non_non, isNon_non, isNon_bl, isNon_int, isNon_str, isNon_tup, isNon_lst, Option.map_some, Option.map_none, Option.bind_some, List.getElem?_cons_zero, List.getElem?_cons_succ, List.set_cons_zero, List.set_cons_succ, List.map_cons, List.map_nil, List.length_cons, List.length_nil, List.cons_append, List.nil_append, rho0, List.replicate, List.take_succ_cons, List.take_zero, List.take_nil, List.take_length, and_self, Bool.false_eq_true, Bool.not_true, Bool.not_false, decide_true, decide_false, raiseI_run1, raiseI_run2, tryO_next, tryO_ret, tryH_nil, unbind_next, unbind_ret, eXf_run, par3R_run, newLR_0, newLR_1, kmR_run, kmR2_run, asK_run, asN_run, getRL_run, getKL_run, ngo0_run, ngo1_run, ngoR_run, ownN_run, ownNR_run, npK_run, starR_run, itNItems_run, itNKeys_run, oDictK_run, opIn2_K, opKIx_run, keyK_int, copyLR_lst, copyLR_tup, gT2_run, nValsD_run, Option.getD_some, tup_0, lst_0, tup_1, lst_1, tup_2, lst_2, tup_3, lst_3, tup_4, lst_4, tup_5, lst_5, tup_6, lst_6, tup_7, lst_7, tup_8, lst_8, tup_9, lst_9, tup_10, lst_10, tup_11, lst_11, tup_12, lst_12, new_0, new_1, new_2, new_3, new_4, new_5, ↓reduceIte, Nat.reduceAdd, $xs,*])
  | `(tactic| push_cast [$xs,*] at $h:ident) => `(tactic| simp -implicitDefEqProofs only [↓eC_run, ↓eVar_run, ↓eSlot_run, ↓eBin_run, ↓eUn_run, ↓eTest_run, ↓eAndT_run, ↓eOrT_run, ↓eNotT_run, ↓eTrue_run, ↓eAnd_run, ↓eOr_run, ↓eNot_run, ↓eIf_run, ↓aNil_run, ↓aCons_run, ↓aVal_run, ↓eTup_run, ↓eList_run, ↓eLst_run, ↓eCallB_run, ↓eOnL_run, ↓eIsi_run, ↓eSl_run, ↓ePart_run, ↓eNoPart_run, ↓eChain_run, ↓eIxO_run, ↓eOwnL_run, ↓sNext_run, ↓sSeq_run, ↓sIf_run, ↓sExpr_run, ↓sRet_run, ↓sRetS_run, ↓sRetN_run, ↓sBreak_run, ↓sCont_run, ↓sAsg_run, ↓sSetS_run, ↓sPar_run, ↓sFor_run, ↓sWhile_run, ↓eIt1_run, ↓eIt2_run, ↓eIt3_run, ↓eLc_run, ↓eLc2_run, ↓sNewL_run, ↓sApp_run, ↓sSetIx_run, ↓sRetL_run, ↓sRetNew_run, ↓eCallP_run, ↓eCallE_run, ↓eVal_run, ↓eMake_run, ↓eFld_run, ↓sRaise_run, ↓sRaiseI_run, ↓sTry_run, ↓eIsx_run, ↓sPar3_run, ↓eNewL_run, ↓eNDisp_run, ↓eKDisp_run, ↓eEmptyK_run, ↓eNewN_run, ↓eKM_run, ↓eNGet_run, ↓eKGet_run, ↓eNGetO_run, ↓eCopyN_run, ↓sNPut_run, ↓aStar_run, ↓eRg1_run, ↓eIsi2_run, ↓eCopyL_run, ↓eNVals_run, ↓eSortSet_run, bind_ok, bind_exc, out_ok, out_exc, lift_some, obind_next, obind_ret, obind_exc, obind_brk, obind_cont, varR_run, slotR_run, asBl_run, allD_nil, allD_cons, asLst_run, asI_run, chR_run, ownK_run, ownKR_run, ownL_run, ownLR_run, someR_run, someO_run, ixI_run, parR_run, gN_run, gsNil_run, gsCons_run, itSeq_lst, itSeq_tup, itEn_lst, itEn_tup, itZ_lst, itZ_tup, wipeR_nil, wipeR_cons, setIxR_run, finP_ret, finP_next, finP_exc, finE_ret, finE_next, finE_exc, callR_ok, callR_err, valR_run, makeR_ok, makeR_exc, opAdd_int, opI_run, opB_run, opMulA_int, opEq_run, opNe_run, opIsN_run, opNotN_run, opIx_tup, opIx_lst, opNeg_run, oLen_tup, oLen_lst, oInt_int, oInt_bl, oTuple_tup, oTuple_lst, oList_tup, oList_lst, oTupleL_run, oListL_run, oLenL_run, isi_int_non, isi_int_bl, isi_int_int, isi_int_str, isi_int_tup, isi_int_lst, isi_bool_non, isi_bool_bl, isi_bool_int, isi_bool_str, isi_bool_tup, isi_bool_lst, isi_tuple_non, isi_tuple_bl, isi_tuple_int, isi_tuple_str, isi_tuple_tup, isi_tuple_lst, isi_str_non, isi_str_bl, isi_str_int, isi_str_str, isi_str_tup, isi_str_lst, isi_list_non, isi_list_bl, isi_list_int, isi_list_str, isi_list_tup, isi_list_lst, atI_0, atI_1, atI_2, atI_3, atI_4, atI_5, atI_6, atI_7, atI_8, ixN_1_0, ixN_2_0, ixN_2_1, ixN_3_0, ixN_3_1, ixN_3_2, ixN_4_0, ixN_4_1, ixN_4_2, ixN_4_3, ixN_5_0, ixN_5_1, ixN_5_2, ixN_5_3, ixN_5_4, eqD_int, eqD_bl, eqD_non_non, isNon_non, isNon_bl, isNon_int, isNon_str, isNon_tup, isNon_lst, Option.map_some, Option.map_none, Option.bind_some, List.getElem?_cons_zero, List.getElem?_cons_succ, List.set_cons_zero, List.set_cons_succ, List.map_cons, List.map_nil, List.length_cons, List.length_nil, List.cons_append, List.nil_append, rho0, List.replicate, List.take_succ_cons, List.take_zero, List.take_nil, List.take_length, and_self, Bool.false_eq_true, Bool.not_true, Bool.not_false, decide_true, decide_false, raiseI_run1, raiseI_run2, tryO_next, tryO_ret, tryH_nil, unbind_next, unbind_ret, eXf_run, par3R_run, newLR_0, newLR_1, kmR_run, kmR2_run, asK_run, asN_run, getRL_run, getKL_run, ngo0_run, ngo1_run, ngoR_run, ownN_run, ownNR_run, npK_run, starR_run, itNItems_run, itNKeys_run, oDictK_run, opIn2_K, opKIx_run, keyK_int, copyLR_lst, copyLR_tup, gT2_run, nValsD_run, Option.getD_some, tup_0, lst_0, tup_1, lst_1, tup_2, lst_2, tup_3, lst_3, tup_4, lst_4, tup_5, lst_5, tup_6, lst_6, tup_7, lst_7, tup_8, lst_8, tup_9, lst_9, tup_10, lst_10, tup_11, lst_11, tup_12, lst_12, new_0, new_1, new_2, new_3, new_4, new_5, ↓reduceIte, Nat.reduceAdd, $xs,*] at $h:ident)
section
variable {s : List Int} {ps : List Plug}
def hpT (s : List Int) (ps : List Plug) (x : Nat) : Bool := !s.contains (x : Int) && can (insS (x : Int) s) ps
def hlp (s : List Int) (ps : List Plug) : List Nat := (List.range 301).filter (hpT s ps)
end
section
variable {s : List Int} {ps : List Plug}
def hI (s : List Int) (ps : List Plug) : List Int := (hlp s ps).map fun n : Nat => (n : Int)
end
theorem cutL (ds : List D) (k : Nat) : slD none (some (k : Int)) (.lst ds) = some (.lst (ds.take k)) := by
  have := cut_lo ds k
  unfold slD at this ⊢
  dsimp only at this ⊢
  injection this with h
  injection h with h
  rw [h]
def extR (ρ : Rho) (d : D) (o : Option (List D)) (k : Nat) (ω : Om) : Out := match d, o with
  | .lst es, some ds => if ds.length + es.length ≤ lim then .next ρ (ω.set k (some (.lst (ds ++ es)))) else .stuck
  | _, _ => .stuck
theorem sExt_run {i : Nat} {ρ : Rho} {ω : Om} (f : FE D) : sExt i f ρ ω = someOL (ownK ρ i) (k := ⟨fun k => someOL (ownL ω k) (k := ⟨fun _ => outL (f ρ ω) ρ (k := ⟨fun d ω1 => extR ρ d (ownL ω1 k) k ω1⟩)⟩)⟩) := by
  show sExt i f ρ ω = someO (ownK ρ i) fun k => someO (ownL ω k) fun _ => (f ρ ω).out ρ fun d ω1 => extR ρ d (ownL ω1 k) k ω1
  unfold sExt someO
  cases ownK ρ i with
  | none => rfl
  | some k =>
    dsimp only
    cases ownL ω k with
    | none => rfl
    | some _ => rfl
theorem extR_run {ρ : Rho} {es ds : List D} {k : Nat} {ω : Om} : extR ρ (.lst es) (some ds) k ω = if ds.length + es.length ≤ lim then .next ρ (ω.set k (some (.lst (ds ++ es)))) else .stuck := rfl
end Pk
namespace Pk
open PySem Dl L2
local macro_rules
  | `(tactic| push_cast [$xs,*]) => `(tactic| simp -implicitDefEqProofs only [↓eC_run, ↓eVar_run, ↓eSlot_run, ↓eBin_run, ↓eUn_run, ↓eTest_run, ↓eAndT_run, ↓eOrT_run, ↓eNotT_run, ↓eTrue_run, ↓eAnd_run, ↓eOr_run, ↓eNot_run, ↓eIf_run, ↓aNil_run, ↓aCons_run, ↓aVal_run, ↓eTup_run, ↓eList_run, ↓eLst_run, ↓eCallB_run, ↓eOnL_run, ↓eIsi_run, ↓eSl_run, ↓ePart_run, ↓eNoPart_run, ↓eChain_run, ↓eIxO_run, ↓eOwnL_run, ↓sNext_run, ↓sSeq_run, ↓sIf_run, ↓sExpr_run, ↓sRet_run, ↓sRetS_run, ↓sRetN_run, ↓sBreak_run, ↓sCont_run, ↓sAsg_run, ↓sSetS_run, ↓sPar_run, ↓sFor_run, ↓sWhile_run, ↓eIt1_run, ↓eIt2_run, ↓eIt3_run, ↓eLc_run, ↓eLc2_run, ↓sNewL_run, ↓sApp_run, ↓sSetIx_run, ↓sRetL_run, ↓sRetNew_run, ↓eCallP_run, ↓eCallE_run, ↓eVal_run, ↓eMake_run, ↓eFld_run, ↓sRaise_run, ↓sRaiseI_run, ↓sTry_run, ↓eIsx_run, ↓sPar3_run, ↓eNewL_run, ↓eNDisp_run, ↓eKDisp_run, ↓eEmptyK_run, ↓eNewN_run, ↓eKM_run, ↓eNGet_run, ↓eKGet_run, ↓eNGetO_run, ↓eCopyN_run, ↓sNPut_run, ↓aStar_run, ↓eRg1_run, ↓eIsi2_run, ↓eCopyL_run, ↓eNVals_run, ↓sExt_run, bind_ok, bind_exc, out_ok, out_exc, lift_some, obind_next, obind_ret, obind_exc, obind_brk, obind_cont, varR_run, slotR_run, asBl_run, allD_nil, allD_cons, asLst_run, asI_run, chR_run, ownK_run, ownKR_run, ownL_run, ownLR_run, someR_run, someO_run, ixI_run, parR_run, gN_run, gsNil_run, gsCons_run, itSeq_lst, itSeq_tup, itEn_lst, itEn_tup, itZ_lst, itZ_tup, wipeR_nil, wipeR_cons, setIxR_run, finP_ret, finP_next, finP_exc, finE_ret, finE_next, finE_exc, callR_ok, callR_err, valR_run, makeR_ok, makeR_exc, opAdd_int, opI_run, opB_run, opMulA_int, opEq_run, opNe_run, opIsN_run, opNotN_run, opIx_tup, opIx_lst, opNeg_run, oLen_tup, oLen_lst, oInt_int, oInt_bl, oTuple_tup, oTuple_lst, oList_tup, oList_lst, oTupleL_run, oListL_run, oLenL_run, isi_int_non, isi_int_bl, isi_int_int, isi_int_str, isi_int_tup, isi_int_lst, isi_bool_non, isi_bool_bl, isi_bool_int, isi_bool_str, isi_bool_tup, isi_bool_lst, isi_tuple_non, isi_tuple_bl, isi_tuple_int, isi_tuple_str, isi_tuple_tup, isi_tuple_lst, isi_str_non, isi_str_bl, isi_str_int, isi_str_str, isi_str_tup, isi_str_lst, isi_list_non, isi_list_bl, isi_list_int, isi_list_str, isi_list_tup, isi_list_lst, atI_0, atI_1, atI_2, atI_3, atI_4, atI_5, atI_6, atI_7, atI_8, ixN_1_0, ixN_2_0, ixN_2_1, ixN_3_0, ixN_3_1, ixN_3_2, ixN_4_0, ixN_4_1, ixN_4_2, ixN_4_3, ixN_5_0, ixN_5_1, ixN_5_2, ixN_5_3, ixN_5_4, eqD_int, eqD_bl, eqD_non_non, isNon_non, isNon_bl, isNon_int, isNon_str, isNon_tup, isNon_lst, Option.map_some, Option.map_none, Option.bind_some, List.getElem?_cons_zero, List.getElem?_cons_succ, List.set_cons_zero, List.set_cons_succ, List.map_cons, List.map_nil, List.length_cons, List.length_nil, List.cons_append, List.nil_append, rho0, List.replicate, List.take_succ_cons, List.take_zero, List.take_nil, List.take_length, and_self, Bool.false_eq_true, Bool.not_true, Bool.not_false, decide_true, decide_false, raiseI_run1, raiseI_run2, tryO_next, tryO_ret, tryH_nil, unbind_next, unbind_ret, eXf_run, par3R_run, newLR_0, newLR_1, kmR_run, kmR2_run, asK_run, asN_run, getRL_run, getKL_run, ngo0_run, ngo1_run, ngoR_run, ownN_run, ownNR_run, npK_run, starR_run, itNItems_run, itNKeys_run, oDictK_run, opIn2_K, opKIx_run, keyK_int, copyLR_lst, copyLR_tup, gT2_run, nValsD_run, Option.getD_some, tup_0, lst_0, tup_1, lst_1, tup_2, lst_2, tup_3, lst_3, tup_4, lst_4, tup_5, lst_5, tup_6, lst_6, tup_7, lst_7, tup_8, lst_8, tup_9, lst_9, tup_10, lst_10, tup_11, lst_11, tup_12, lst_12, new_0, new_1, new_2, new_3, new_4, new_5, extR_run, ↓reduceIte, Nat.reduceAdd, $xs,*])
  | `(tactic| push_cast [$xs,*] at $h:ident) => `(tactic| simp -implicitDefEqProofs only [↓eC_run, ↓eVar_run, ↓eSlot_run, ↓eBin_run, ↓eUn_run, ↓eTest_run, ↓eAndT_run, ↓eOrT_run, ↓eNotT_run, ↓eTrue_run, ↓eAnd_run, ↓eOr_run, ↓eNot_run, ↓eIf_run, ↓aNil_run, ↓aCons_run, ↓aVal_run, ↓eTup_run, ↓eList_run, ↓eLst_run, ↓eCallB_run, ↓eOnL_run, ↓eIsi_run, ↓eSl_run, ↓ePart_run, ↓eNoPart_run, ↓eChain_run, ↓eIxO_run, ↓eOwnL_run, ↓sNext_run, ↓sSeq_run, ↓sIf_run, ↓sExpr_run, ↓sRet_run, ↓sRetS_run, ↓sRetN_run, ↓sBreak_run, ↓sCont_run, ↓sAsg_run, ↓sSetS_run, ↓sPar_run, ↓sFor_run, ↓sWhile_run, ↓eIt1_run, ↓eIt2_run, ↓eIt3_run, ↓eLc_run, ↓eLc2_run, ↓sNewL_run, ↓sApp_run, ↓sSetIx_run, ↓sRetL_run, ↓sRetNew_run, ↓eCallP_run, ↓eCallE_run, ↓eVal_run, ↓eMake_run, ↓eFld_run, ↓sRaise_run, ↓sRaiseI_run, ↓sTry_run, ↓eIsx_run, ↓sPar3_run, ↓eNewL_run, ↓eNDisp_run, ↓eKDisp_run, ↓eEmptyK_run, ↓eNewN_run, ↓eKM_run, ↓eNGet_run, ↓eKGet_run, ↓eNGetO_run, ↓eCopyN_run, ↓sNPut_run, ↓aStar_run, ↓eRg1_run, ↓eIsi2_run, ↓eCopyL_run, ↓eNVals_run, ↓sExt_run, bind_ok, bind_exc, out_ok, out_exc, lift_some, obind_next, obind_ret, obind_exc, obind_brk, obind_cont, varR_run, slotR_run, asBl_run, allD_nil, allD_cons, asLst_run, asI_run, chR_run, ownK_run, ownKR_run, ownL_run, ownLR_run, someR_run, someO_run, ixI_run, parR_run, gN_run, gsNil_run, gsCons_run, itSeq_lst, itSeq_tup, itEn_lst, itEn_tup, itZ_lst, itZ_tup, wipeR_nil, wipeR_cons, setIxR_run, finP_ret, finP_next, finP_exc, finE_ret, finE_next, finE_exc, callR_ok, callR_err, valR_run, makeR_ok, makeR_exc, opAdd_int, opI_run, opB_run, opMulA_int, opEq_run, opNe_run, opIsN_run, opNotN_run, opIx_tup, opIx_lst, opNeg_run, oLen_tup, oLen_lst, oInt_int, oInt_bl, oTuple_tup, oTuple_lst, oList_tup, oList_lst, oTupleL_run, oListL_run, oLenL_run, isi_int_non, isi_int_bl, isi_int_int, isi_int_str, isi_int_tup, isi_int_lst, isi_bool_non, isi_bool_bl, isi_bool_int, isi_bool_str, isi_bool_tup, isi_bool_lst, isi_tuple_non, isi_tuple_bl, isi_tuple_int, isi_tuple_str, isi_tuple_tup, isi_tuple_lst, isi_str_non, isi_str_bl, isi_str_int, isi_str_str, isi_str_tup, isi_str_lst, isi_list_non, isi_list_bl, isi_list_int, isi_list_str, isi_list_tup, isi_list_lst, atI_0, atI_1, atI_2, atI_3, atI_4, atI_5, atI_6, atI_7, atI_8, ixN_1_0, ixN_2_0, ixN_2_1, ixN_3_0, ixN_3_1, ixN_3_2, ixN_4_0, ixN_4_1, ixN_4_2, ixN_4_3, ixN_5_0, ixN_5_1, ixN_5_2, ixN_5_3, ixN_5_4, eqD_int, eqD_bl, eqD_non_non, isNon_non, isNon_bl, isNon_int, isNon_str, isNon_tup, isNon_lst, Option.map_some, Option.map_none, Option.bind_some, List.getElem?_cons_zero, List.getElem?_cons_succ, List.set_cons_zero, List.set_cons_succ, List.map_cons, List.map_nil, List.length_cons, List.length_nil, List.cons_append, List.nil_append, rho0, List.replicate, List.take_succ_cons, List.take_zero, List.take_nil, List.take_length, and_self, Bool.false_eq_true, Bool.not_true, Bool.not_false, decide_true, decide_false, raiseI_run1, raiseI_run2, tryO_next, tryO_ret, tryH_nil, unbind_next, unbind_ret, eXf_run, par3R_run, newLR_0, newLR_1, kmR_run, kmR2_run, asK_run, asN_run, getRL_run, getKL_run, ngo0_run, ngo1_run, ngoR_run, ownN_run, ownNR_run, npK_run, starR_run, itNItems_run, itNKeys_run, oDictK_run, opIn2_K, opKIx_run, keyK_int, copyLR_lst, copyLR_tup, gT2_run, nValsD_run, Option.getD_some, tup_0, lst_0, tup_1, lst_1, tup_2, lst_2, tup_3, lst_3, tup_4, lst_4, tup_5, lst_5, tup_6, lst_6, tup_7, lst_7, tup_8, lst_8, tup_9, lst_9, tup_10, lst_10, tup_11, lst_11, tup_12, lst_12, new_0, new_1, new_2, new_3, new_4, new_5, extR_run, ↓reduceIte, Nat.reduceAdd, $xs,*] at $h:ident)
def froms (lo n : Nat) : List Nat := (List.range (n - lo)).map (lo + ·)
def fitsAt (s : List Int) (p : Plug) (t : Bool) (e : Int) (k : Nat) : Bool := decide (e ≤ s.getD k 0 - sideL p t)
def nxt (s : List Int) (p : Plug) (t : Bool) (lo : Nat) (e : Int) : Option Nat := (froms lo s.length).find? (fitsAt s p t e)
section
variable {s : List Int} {ps : List Plug}
end
section
variable (s : List Int) (ps : List Plug)
end
section
variable {s : List Int} {ps : List Plug}
end
end Pk
namespace Pk
open PySem Dl L2
local macro_rules
  | `(tactic| push_cast [$xs,*]) => `(tactic| simp -implicitDefEqProofs only [↓eC_run, ↓eVar_run, ↓eSlot_run, ↓eBin_run, ↓eUn_run, ↓eTest_run, ↓eAndT_run, ↓eOrT_run, ↓eNotT_run, ↓eTrue_run, ↓eAnd_run, ↓eOr_run, ↓eNot_run, ↓eIf_run, ↓aNil_run, ↓aCons_run, ↓aVal_run, ↓eTup_run, ↓eList_run, ↓eLst_run, ↓eCallB_run, ↓eOnL_run, ↓eIsi_run, ↓eSl_run, ↓ePart_run, ↓eNoPart_run, ↓eChain_run, ↓eIxO_run, ↓eOwnL_run, ↓sNext_run, ↓sSeq_run, ↓sIf_run, ↓sExpr_run, ↓sRet_run, ↓sRetS_run, ↓sRetN_run, ↓sBreak_run, ↓sCont_run, ↓sAsg_run, ↓sSetS_run, ↓sPar_run, ↓sFor_run, ↓sWhile_run, ↓eIt1_run, ↓eIt2_run, ↓eIt3_run, ↓eLc_run, ↓eLc2_run, ↓sNewL_run, ↓sApp_run, ↓sSetIx_run, ↓sRetL_run, ↓sRetNew_run, ↓eCallP_run, ↓eCallE_run, ↓eVal_run, ↓eMake_run, ↓eFld_run, ↓sRaise_run, ↓sRaiseI_run, ↓sTry_run, ↓eIsx_run, ↓sPar3_run, ↓eNewL_run, ↓eNDisp_run, ↓eKDisp_run, ↓eEmptyK_run, ↓eNewN_run, ↓eKM_run, ↓eNGet_run, ↓eKGet_run, ↓eNGetO_run, ↓eCopyN_run, ↓sNPut_run, ↓aStar_run, ↓eRg1_run, ↓eIsi2_run, ↓eCopyL_run, ↓eNVals_run, bind_ok, bind_exc, out_ok, out_exc, lift_some, obind_next, obind_ret, obind_exc, obind_brk, obind_cont, varR_run, slotR_run, asBl_run, allD_nil, allD_cons, asLst_run, asI_run, chR_run, ownK_run, ownKR_run, ownL_run, ownLR_run, someR_run, someO_run, ixI_run, parR_run, gN_run, gsNil_run, gsCons_run, itSeq_lst, itSeq_tup, itEn_lst, itEn_tup, itZ_lst, itZ_tup, wipeR_nil, wipeR_cons, setIxR_run, finP_ret, finP_next, finP_exc, finE_ret, finE_next, finE_exc, callR_ok, callR_err, valR_run, makeR_ok, makeR_exc, opAdd_int, opI_run, opB_run, opMulA_int, opEq_run, opNe_run, opIsN_run, opNotN_run, opIx_tup, opIx_lst, opNeg_run, oLen_tup, oLen_lst, oInt_int, oInt_bl, oTuple_tup, oTuple_lst, oList_tup, oList_lst, oTupleL_run, oListL_run, oLenL_run, isi_int_non, isi_int_bl, isi_int_int, isi_int_str, isi_int_tup, isi_int_lst, isi_bool_non, isi_bool_bl, isi_bool_int, isi_bool_str, isi_bool_tup, isi_bool_lst, isi_tuple_non, isi_tuple_bl, isi_tuple_int, isi_tuple_str, isi_tuple_tup, isi_tuple_lst, isi_str_non, isi_str_bl, isi_str_int, isi_str_str, isi_str_tup, isi_str_lst, isi_list_non, isi_list_bl, isi_list_int, isi_list_str, isi_list_tup, isi_list_lst, atI_0, atI_1, atI_2, atI_3, atI_4, atI_5, atI_6, atI_7, atI_8, ixN_1_0, ixN_2_0, ixN_2_1, ixN_3_0, ixN_3_1, ixN_3_2, ixN_4_0, ixN_4_1, ixN_4_2, ixN_4_3, ixN_5_0, ixN_5_1, ixN_5_2, ixN_5_3, ixN_5_4, eqD_int, eqD_bl, eqD_non_non, isNon_non, isNon_bl, isNon_int, isNon_str, isNon_tup, isNon_lst, Option.map_some, Option.map_none, Option.bind_some, List.getElem?_cons_zero, List.getElem?_cons_succ, List.set_cons_zero, List.set_cons_succ, List.map_cons, List.map_nil, List.length_cons, List.length_nil, List.cons_append, List.nil_append, rho0, List.replicate, List.take_succ_cons, List.take_zero, List.take_nil, List.take_length, and_self, Bool.false_eq_true, Bool.not_true, Bool.not_false, decide_true, decide_false, raiseI_run1, raiseI_run2, tryO_next, tryO_ret, tryH_nil, unbind_next, unbind_ret, eXf_run, par3R_run, newLR_0, newLR_1, kmR_run, kmR2_run, asK_run, asN_run, getRL_run, getKL_run, ngo0_run, ngo1_run, ngoR_run, ownN_run, ownNR_run, npK_run, starR_run, itNItems_run, itNKeys_run, oDictK_run, opIn2_K, opKIx_run, keyK_int, copyLR_lst, copyLR_tup, gT2_run, nValsD_run, Option.getD_some, tup_0, lst_0, tup_1, lst_1, tup_2, lst_2, tup_3, lst_3, tup_4, lst_4, tup_5, lst_5, tup_6, lst_6, tup_7, lst_7, tup_8, lst_8, tup_9, lst_9, tup_10, lst_10, tup_11, lst_11, tup_12, lst_12, new_0, new_1, new_2, new_3, new_4, new_5, ↓reduceIte, Nat.reduceAdd, $xs,*])
  | `(tactic| push_cast [$xs,*] at $h:ident) => `(tactic| simp -implicitDefEqProofs only [↓eC_run, ↓eVar_run, ↓eSlot_run, ↓eBin_run, ↓eUn_run, ↓eTest_run, ↓eAndT_run, ↓eOrT_run, ↓eNotT_run, ↓eTrue_run, ↓eAnd_run, ↓eOr_run, ↓eNot_run, ↓eIf_run, ↓aNil_run, ↓aCons_run, ↓aVal_run, ↓eTup_run, ↓eList_run, ↓eLst_run, ↓eCallB_run, ↓eOnL_run, ↓eIsi_run, ↓eSl_run, ↓ePart_run, ↓eNoPart_run, ↓eChain_run, ↓eIxO_run, ↓eOwnL_run, ↓sNext_run, ↓sSeq_run, ↓sIf_run, ↓sExpr_run, ↓sRet_run, ↓sRetS_run, ↓sRetN_run, ↓sBreak_run, ↓sCont_run, ↓sAsg_run, ↓sSetS_run, ↓sPar_run, ↓sFor_run, ↓sWhile_run, ↓eIt1_run, ↓eIt2_run, ↓eIt3_run, ↓eLc_run, ↓eLc2_run, ↓sNewL_run, ↓sApp_run, ↓sSetIx_run, ↓sRetL_run, ↓sRetNew_run, ↓eCallP_run, ↓eCallE_run, ↓eVal_run, ↓eMake_run, ↓eFld_run, ↓sRaise_run, ↓sRaiseI_run, ↓sTry_run, ↓eIsx_run, ↓sPar3_run, ↓eNewL_run, ↓eNDisp_run, ↓eKDisp_run, ↓eEmptyK_run, ↓eNewN_run, ↓eKM_run, ↓eNGet_run, ↓eKGet_run, ↓eNGetO_run, ↓eCopyN_run, ↓sNPut_run, ↓aStar_run, ↓eRg1_run, ↓eIsi2_run, ↓eCopyL_run, ↓eNVals_run, bind_ok, bind_exc, out_ok, out_exc, lift_some, obind_next, obind_ret, obind_exc, obind_brk, obind_cont, varR_run, slotR_run, asBl_run, allD_nil, allD_cons, asLst_run, asI_run, chR_run, ownK_run, ownKR_run, ownL_run, ownLR_run, someR_run, someO_run, ixI_run, parR_run, gN_run, gsNil_run, gsCons_run, itSeq_lst, itSeq_tup, itEn_lst, itEn_tup, itZ_lst, itZ_tup, wipeR_nil, wipeR_cons, setIxR_run, finP_ret, finP_next, finP_exc, finE_ret, finE_next, finE_exc, callR_ok, callR_err, valR_run, makeR_ok, makeR_exc, opAdd_int, opI_run, opB_run, opMulA_int, opEq_run, opNe_run, opIsN_run, opNotN_run, opIx_tup, opIx_lst, opNeg_run, oLen_tup, oLen_lst, oInt_int, oInt_bl, oTuple_tup, oTuple_lst, oList_tup, oList_lst, oTupleL_run, oListL_run, oLenL_run, isi_int_non, isi_int_bl, isi_int_int, isi_int_str, isi_int_tup, isi_int_lst, isi_bool_non, isi_bool_bl, isi_bool_int, isi_bool_str, isi_bool_tup, isi_bool_lst, isi_tuple_non, isi_tuple_bl, isi_tuple_int, isi_tuple_str, isi_tuple_tup, isi_tuple_lst, isi_str_non, isi_str_bl, isi_str_int, isi_str_str, isi_str_tup, isi_str_lst, isi_list_non, isi_list_bl, isi_list_int, isi_list_str, isi_list_tup, isi_list_lst, atI_0, atI_1, atI_2, atI_3, atI_4, atI_5, atI_6, atI_7, atI_8, ixN_1_0, ixN_2_0, ixN_2_1, ixN_3_0, ixN_3_1, ixN_3_2, ixN_4_0, ixN_4_1, ixN_4_2, ixN_4_3, ixN_5_0, ixN_5_1, ixN_5_2, ixN_5_3, ixN_5_4, eqD_int, eqD_bl, eqD_non_non, isNon_non, isNon_bl, isNon_int, isNon_str, isNon_tup, isNon_lst, Option.map_some, Option.map_none, Option.bind_some, List.getElem?_cons_zero, List.getElem?_cons_succ, List.set_cons_zero, List.set_cons_succ, List.map_cons, List.map_nil, List.length_cons, List.length_nil, List.cons_append, List.nil_append, rho0, List.replicate, List.take_succ_cons, List.take_zero, List.take_nil, List.take_length, and_self, Bool.false_eq_true, Bool.not_true, Bool.not_false, decide_true, decide_false, raiseI_run1, raiseI_run2, tryO_next, tryO_ret, tryH_nil, unbind_next, unbind_ret, eXf_run, par3R_run, newLR_0, newLR_1, kmR_run, kmR2_run, asK_run, asN_run, getRL_run, getKL_run, ngo0_run, ngo1_run, ngoR_run, ownN_run, ownNR_run, npK_run, starR_run, itNItems_run, itNKeys_run, oDictK_run, opIn2_K, opKIx_run, keyK_int, copyLR_lst, copyLR_tup, gT2_run, nValsD_run, Option.getD_some, tup_0, lst_0, tup_1, lst_1, tup_2, lst_2, tup_3, lst_3, tup_4, lst_4, tup_5, lst_5, tup_6, lst_6, tup_7, lst_7, tup_8, lst_8, tup_9, lst_9, tup_10, lst_10, tup_11, lst_11, tup_12, lst_12, new_0, new_1, new_2, new_3, new_4, new_5, ↓reduceIte, Nat.reduceAdd, $xs,*] at $h:ident)
section
variable (s : List Int) (ps : List Plug)
end
section
variable {s : List Int} {ps : List Plug}
end
section
variable {s : List Int} {ps : List Plug}
end
section
variable (s : List Int) (ps : List Plug)
def wlk : Nat → Int → List Place → Option (Nat × Int)
  | lo, e, [] => some (lo, e)
  | lo, e, x :: r => match nxt s (plugAt ps x.1) x.2 lo e with
    | none => none
    | some k => wlk (k + 1) (bEnd s (plugAt ps x.1) (k, x.2)) r
def Ends (row : List Place) (lo : Nat) (e : Int) (o : List Place) : Prop := ∃ r x z, o = row ++ r ++ [x] ∧ Vo ps o ∧ wlk s ps lo e r = some z ∧ nxt s (plugAt ps x.1) x.2 z.1 z.2 = none
end
section
variable {s : List Int} {ps : List Plug}
end
section
variable (s : List Int) (ps : List Plug)
end
section
variable {s : List Int} {ps : List Plug}
end
section
variable {s : List Int} {ps : List Plug}
end
section
variable {s : List Int} {ps : List Plug}
end
theorem eRg3_run {ρ : Rho} {ω : Om} (f g h : FE D) : eRg3 f g h ρ ω = bindL (f ρ ω) (k := ⟨fun x ω1 => bindL (g ρ ω1) (k := ⟨fun y ω2 => bindL (h ρ ω2) (k := ⟨fun z ω3 => Res.lift (rg3D x y z) ω3⟩)⟩)⟩) := rfl
theorem eLcN_run {ρ : Rho} {ω : Om} (vs) (it : FE (List D)) (tg) (tt) (el : FE D) : eLcN vs it tg tt el ρ ω = bindL (it ρ ω) (k := ⟨fun ds ω1 => lcN tg tt el (wipeR ρ vs) ds [] ω1⟩) := rfl
end Pk
namespace Pk
open PySem Dl L2
local macro_rules
  | `(tactic| push_cast [$xs,*]) => `(tactic| simp -implicitDefEqProofs only [↓eC_run, ↓eVar_run, ↓eSlot_run, ↓eBin_run, ↓eUn_run, ↓eTest_run, ↓eAndT_run, ↓eOrT_run, ↓eNotT_run, ↓eTrue_run, ↓eAnd_run, ↓eOr_run, ↓eNot_run, ↓eIf_run, ↓aNil_run, ↓aCons_run, ↓aVal_run, ↓eTup_run, ↓eList_run, ↓eLst_run, ↓eCallB_run, ↓eOnL_run, ↓eIsi_run, ↓eSl_run, ↓ePart_run, ↓eNoPart_run, ↓eChain_run, ↓eIxO_run, ↓eOwnL_run, ↓sNext_run, ↓sSeq_run, ↓sIf_run, ↓sExpr_run, ↓sRet_run, ↓sRetS_run, ↓sRetN_run, ↓sBreak_run, ↓sCont_run, ↓sAsg_run, ↓sSetS_run, ↓sPar_run, ↓sFor_run, ↓sWhile_run, ↓eIt1_run, ↓eIt2_run, ↓eIt3_run, ↓eLc_run, ↓eLc2_run, ↓sNewL_run, ↓sApp_run, ↓sSetIx_run, ↓sRetL_run, ↓sRetNew_run, ↓eCallP_run, ↓eCallE_run, ↓eVal_run, ↓eMake_run, ↓eFld_run, ↓sRaise_run, ↓sRaiseI_run, ↓sTry_run, ↓eIsx_run, ↓sPar3_run, ↓eNewL_run, ↓eNDisp_run, ↓eKDisp_run, ↓eEmptyK_run, ↓eNewN_run, ↓eKM_run, ↓eNGet_run, ↓eKGet_run, ↓eNGetO_run, ↓eCopyN_run, ↓sNPut_run, ↓aStar_run, ↓eRg1_run, ↓eIsi2_run, ↓eCopyL_run, ↓eNVals_run, ↓eRg3_run, bind_ok, bind_exc, out_ok, out_exc, lift_some, obind_next, obind_ret, obind_exc, obind_brk, obind_cont, varR_run, slotR_run, asBl_run, allD_nil, allD_cons, asLst_run, asI_run, chR_run, ownK_run, ownKR_run, ownL_run, ownLR_run, someR_run, someO_run, ixI_run, parR_run, gN_run, gsNil_run, gsCons_run, itSeq_lst, itSeq_tup, itEn_lst, itEn_tup, itZ_lst, itZ_tup, wipeR_nil, wipeR_cons, setIxR_run, finP_ret, finP_next, finP_exc, finE_ret, finE_next, finE_exc, callR_ok, callR_err, valR_run, makeR_ok, makeR_exc, opAdd_int, opI_run, opB_run, opMulA_int, opEq_run, opNe_run, opIsN_run, opNotN_run, opIx_tup, opIx_lst, opNeg_run, oLen_tup, oLen_lst, oInt_int, oInt_bl, oTuple_tup, oTuple_lst, oList_tup, oList_lst, oTupleL_run, oListL_run, oLenL_run, isi_int_non, isi_int_bl, isi_int_int, isi_int_str, isi_int_tup, isi_int_lst, isi_bool_non, isi_bool_bl, isi_bool_int, isi_bool_str, isi_bool_tup, isi_bool_lst, isi_tuple_non, isi_tuple_bl, isi_tuple_int, isi_tuple_str, isi_tuple_tup, isi_tuple_lst, isi_str_non, isi_str_bl, isi_str_int, isi_str_str, isi_str_tup, isi_str_lst, isi_list_non, isi_list_bl, isi_list_int, isi_list_str, isi_list_tup, isi_list_lst, atI_0, atI_1, atI_2, atI_3, atI_4, atI_5, atI_6, atI_7, atI_8, ixN_1_0, ixN_2_0, ixN_2_1, ixN_3_0, ixN_3_1, ixN_3_2, ixN_4_0, ixN_4_1, ixN_4_2, ixN_4_3, ixN_5_0, ixN_5_1, ixN_5_2, ixN_5_3, ixN_5_4, eqD_int, eqD_bl, eqD_non_non, isNon_non, isNon_bl, isNon_int, isNon_str, isNon_tup, isNon_lst, Option.map_some, Option.map_none, Option.bind_some, List.getElem?_cons_zero, List.getElem?_cons_succ, List.set_cons_zero, List.set_cons_succ, List.map_cons, List.map_nil, List.length_cons, List.length_nil, List.cons_append, List.nil_append, rho0, List.replicate, List.take_succ_cons, List.take_zero, List.take_nil, List.take_length, and_self, Bool.false_eq_true, Bool.not_true, Bool.not_false, decide_true, decide_false, raiseI_run1, raiseI_run2, tryO_next, tryO_ret, tryH_nil, unbind_next, unbind_ret, eXf_run, par3R_run, newLR_0, newLR_1, kmR_run, kmR2_run, asK_run, asN_run, getRL_run, getKL_run, ngo0_run, ngo1_run, ngoR_run, ownN_run, ownNR_run, npK_run, starR_run, itNItems_run, itNKeys_run, oDictK_run, opIn2_K, opKIx_run, keyK_int, copyLR_lst, copyLR_tup, gT2_run, nValsD_run, Option.getD_some, tup_0, lst_0, tup_1, lst_1, tup_2, lst_2, tup_3, lst_3, tup_4, lst_4, tup_5, lst_5, tup_6, lst_6, tup_7, lst_7, tup_8, lst_8, tup_9, lst_9, tup_10, lst_10, tup_11, lst_11, tup_12, lst_12, new_0, new_1, new_2, new_3, new_4, new_5, ↓reduceIte, Nat.reduceAdd, $xs,*])
  | `(tactic| push_cast [$xs,*] at $h:ident) => `(tactic| simp -implicitDefEqProofs only [↓eC_run, ↓eVar_run, ↓eSlot_run, ↓eBin_run, ↓eUn_run, ↓eTest_run, ↓eAndT_run, ↓eOrT_run, ↓eNotT_run, ↓eTrue_run, ↓eAnd_run, ↓eOr_run, ↓eNot_run, ↓eIf_run, ↓aNil_run, ↓aCons_run, ↓aVal_run, ↓eTup_run, ↓eList_run, ↓eLst_run, ↓eCallB_run, ↓eOnL_run, ↓eIsi_run, ↓eSl_run, ↓ePart_run, ↓eNoPart_run, ↓eChain_run, ↓eIxO_run, ↓eOwnL_run, ↓sNext_run, ↓sSeq_run, ↓sIf_run, ↓sExpr_run, ↓sRet_run, ↓sRetS_run, ↓sRetN_run, ↓sBreak_run, ↓sCont_run, ↓sAsg_run, ↓sSetS_run, ↓sPar_run, ↓sFor_run, ↓sWhile_run, ↓eIt1_run, ↓eIt2_run, ↓eIt3_run, ↓eLc_run, ↓eLc2_run, ↓sNewL_run, ↓sApp_run, ↓sSetIx_run, ↓sRetL_run, ↓sRetNew_run, ↓eCallP_run, ↓eCallE_run, ↓eVal_run, ↓eMake_run, ↓eFld_run, ↓sRaise_run, ↓sRaiseI_run, ↓sTry_run, ↓eIsx_run, ↓sPar3_run, ↓eNewL_run, ↓eNDisp_run, ↓eKDisp_run, ↓eEmptyK_run, ↓eNewN_run, ↓eKM_run, ↓eNGet_run, ↓eKGet_run, ↓eNGetO_run, ↓eCopyN_run, ↓sNPut_run, ↓aStar_run, ↓eRg1_run, ↓eIsi2_run, ↓eCopyL_run, ↓eNVals_run, ↓eRg3_run, bind_ok, bind_exc, out_ok, out_exc, lift_some, obind_next, obind_ret, obind_exc, obind_brk, obind_cont, varR_run, slotR_run, asBl_run, allD_nil, allD_cons, asLst_run, asI_run, chR_run, ownK_run, ownKR_run, ownL_run, ownLR_run, someR_run, someO_run, ixI_run, parR_run, gN_run, gsNil_run, gsCons_run, itSeq_lst, itSeq_tup, itEn_lst, itEn_tup, itZ_lst, itZ_tup, wipeR_nil, wipeR_cons, setIxR_run, finP_ret, finP_next, finP_exc, finE_ret, finE_next, finE_exc, callR_ok, callR_err, valR_run, makeR_ok, makeR_exc, opAdd_int, opI_run, opB_run, opMulA_int, opEq_run, opNe_run, opIsN_run, opNotN_run, opIx_tup, opIx_lst, opNeg_run, oLen_tup, oLen_lst, oInt_int, oInt_bl, oTuple_tup, oTuple_lst, oList_tup, oList_lst, oTupleL_run, oListL_run, oLenL_run, isi_int_non, isi_int_bl, isi_int_int, isi_int_str, isi_int_tup, isi_int_lst, isi_bool_non, isi_bool_bl, isi_bool_int, isi_bool_str, isi_bool_tup, isi_bool_lst, isi_tuple_non, isi_tuple_bl, isi_tuple_int, isi_tuple_str, isi_tuple_tup, isi_tuple_lst, isi_str_non, isi_str_bl, isi_str_int, isi_str_str, isi_str_tup, isi_str_lst, isi_list_non, isi_list_bl, isi_list_int, isi_list_str, isi_list_tup, isi_list_lst, atI_0, atI_1, atI_2, atI_3, atI_4, atI_5, atI_6, atI_7, atI_8, ixN_1_0, ixN_2_0, ixN_2_1, ixN_3_0, ixN_3_1, ixN_3_2, ixN_4_0, ixN_4_1, ixN_4_2, ixN_4_3, ixN_5_0, ixN_5_1, ixN_5_2, ixN_5_3, ixN_5_4, eqD_int, eqD_bl, eqD_non_non, isNon_non, isNon_bl, isNon_int, isNon_str, isNon_tup, isNon_lst, Option.map_some, Option.map_none, Option.bind_some, List.getElem?_cons_zero, List.getElem?_cons_succ, List.set_cons_zero, List.set_cons_succ, List.map_cons, List.map_nil, List.length_cons, List.length_nil, List.cons_append, List.nil_append, rho0, List.replicate, List.take_succ_cons, List.take_zero, List.take_nil, List.take_length, and_self, Bool.false_eq_true, Bool.not_true, Bool.not_false, decide_true, decide_false, raiseI_run1, raiseI_run2, tryO_next, tryO_ret, tryH_nil, unbind_next, unbind_ret, eXf_run, par3R_run, newLR_0, newLR_1, kmR_run, kmR2_run, asK_run, asN_run, getRL_run, getKL_run, ngo0_run, ngo1_run, ngoR_run, ownN_run, ownNR_run, npK_run, starR_run, itNItems_run, itNKeys_run, oDictK_run, opIn2_K, opKIx_run, keyK_int, copyLR_lst, copyLR_tup, gT2_run, nValsD_run, Option.getD_some, tup_0, lst_0, tup_1, lst_1, tup_2, lst_2, tup_3, lst_3, tup_4, lst_4, tup_5, lst_5, tup_6, lst_6, tup_7, lst_7, tup_8, lst_8, tup_9, lst_9, tup_10, lst_10, tup_11, lst_11, tup_12, lst_12, new_0, new_1, new_2, new_3, new_4, new_5, ↓reduceIte, Nat.reduceAdd, $xs,*] at $h:ident)
end Pk
namespace Pk
open PySem Dl L2
local macro_rules
  | `(tactic| push_cast [$xs,*]) => `(tactic| simp -implicitDefEqProofs only [↓eC_run, ↓eVar_run, ↓eSlot_run, ↓eBin_run, ↓eUn_run, ↓eTest_run, ↓eAndT_run, ↓eOrT_run, ↓eNotT_run, ↓eTrue_run, ↓eAnd_run, ↓eOr_run, ↓eNot_run, ↓eIf_run, ↓aNil_run, ↓aCons_run, ↓aVal_run, ↓eTup_run, ↓eList_run, ↓eLst_run, ↓eCallB_run, ↓eOnL_run, ↓eIsi_run, ↓eSl_run, ↓ePart_run, ↓eNoPart_run, ↓eChain_run, ↓eIxO_run, ↓eOwnL_run, ↓sNext_run, ↓sSeq_run, ↓sIf_run, ↓sExpr_run, ↓sRet_run, ↓sRetS_run, ↓sRetN_run, ↓sBreak_run, ↓sCont_run, ↓sAsg_run, ↓sSetS_run, ↓sPar_run, ↓sFor_run, ↓sWhile_run, ↓eIt1_run, ↓eIt2_run, ↓eIt3_run, ↓eLc_run, ↓eLc2_run, ↓sNewL_run, ↓sApp_run, ↓sSetIx_run, ↓sRetL_run, ↓sRetNew_run, ↓eCallP_run, ↓eCallE_run, ↓eVal_run, ↓eMake_run, ↓eFld_run, ↓sRaise_run, ↓sRaiseI_run, ↓sTry_run, ↓eIsx_run, ↓sPar3_run, ↓eNewL_run, ↓eNDisp_run, ↓eKDisp_run, ↓eEmptyK_run, ↓eNewN_run, ↓eKM_run, ↓eNGet_run, ↓eKGet_run, ↓eNGetO_run, ↓eCopyN_run, ↓sNPut_run, ↓aStar_run, ↓eRg1_run, ↓eIsi2_run, ↓eCopyL_run, ↓eNVals_run, bind_ok, bind_exc, out_ok, out_exc, lift_some, obind_next, obind_ret, obind_exc, obind_brk, obind_cont, varR_run, slotR_run, asBl_run, allD_nil, allD_cons, asLst_run, asI_run, chR_run, ownK_run, ownKR_run, ownL_run, ownLR_run, someR_run, someO_run, ixI_run, parR_run, gN_run, gsNil_run, gsCons_run, itSeq_lst, itSeq_tup, itEn_lst, itEn_tup, itZ_lst, itZ_tup, wipeR_nil, wipeR_cons, setIxR_run, finP_ret, finP_next, finP_exc, finE_ret, finE_next, finE_exc, callR_ok, callR_err, valR_run, makeR_ok, makeR_exc, opAdd_int, opI_run, opB_run, opMulA_int, opEq_run, opNe_run, opIsN_run, opNotN_run, opIx_tup, opIx_lst, opNeg_run, oLen_tup, oLen_lst, oInt_int, oInt_bl, oTuple_tup, oTuple_lst, oList_tup, oList_lst, oTupleL_run, oListL_run, oLenL_run, isi_int_non, isi_int_bl, isi_int_int, isi_int_str, isi_int_tup, isi_int_lst, isi_bool_non, isi_bool_bl, isi_bool_int, isi_bool_str, isi_bool_tup, isi_bool_lst, isi_tuple_non, isi_tuple_bl, isi_tuple_int, isi_tuple_str, isi_tuple_tup, isi_tuple_lst, isi_str_non, isi_str_bl, isi_str_int, isi_str_str, isi_str_tup, isi_str_lst, isi_list_non, isi_list_bl, isi_list_int, isi_list_str, isi_list_tup, isi_list_lst, atI_0, atI_1, atI_2, atI_3, atI_4, atI_5, atI_6, atI_7, atI_8, ixN_1_0, ixN_2_0, ixN_2_1, ixN_3_0, ixN_3_1, ixN_3_2, ixN_4_0, ixN_4_1, ixN_4_2, ixN_4_3, ixN_5_0, ixN_5_1, ixN_5_2, ixN_5_3, ixN_5_4, eqD_int, eqD_bl, eqD_non_non, isNon_non, isNon_bl, isNon_int, isNon_str, isNon_tup, isNon_lst, Option.map_some, Option.map_none, Option.bind_some, List.getElem?_cons_zero, List.getElem?_cons_succ, List.set_cons_zero, List.set_cons_succ, List.map_cons, List.map_nil, List.length_cons, List.length_nil, List.cons_append, List.nil_append, rho0, List.replicate, List.take_succ_cons, List.take_zero, List.take_nil, List.take_length, and_self, Bool.false_eq_true, Bool.not_true, Bool.not_false, decide_true, decide_false, raiseI_run1, raiseI_run2, tryO_next, tryO_ret, tryH_nil, unbind_next, unbind_ret, eXf_run, par3R_run, newLR_0, newLR_1, kmR_run, kmR2_run, asK_run, asN_run, getRL_run, getKL_run, ngo0_run, ngo1_run, ngoR_run, ownN_run, ownNR_run, npK_run, starR_run, itNItems_run, itNKeys_run, oDictK_run, opIn2_K, opKIx_run, keyK_int, copyLR_lst, copyLR_tup, gT2_run, nValsD_run, Option.getD_some, tup_0, lst_0, tup_1, lst_1, tup_2, lst_2, tup_3, lst_3, tup_4, lst_4, tup_5, lst_5, tup_6, lst_6, tup_7, lst_7, tup_8, lst_8, tup_9, lst_9, tup_10, lst_10, tup_11, lst_11, tup_12, lst_12, new_0, new_1, new_2, new_3, new_4, new_5, ↓reduceIte, Nat.reduceAdd, $xs,*])
  | `(tactic| push_cast [$xs,*] at $h:ident) => `(tactic| simp -implicitDefEqProofs only [↓eC_run, ↓eVar_run, ↓eSlot_run, ↓eBin_run, ↓eUn_run, ↓eTest_run, ↓eAndT_run, ↓eOrT_run, ↓eNotT_run, ↓eTrue_run, ↓eAnd_run, ↓eOr_run, ↓eNot_run, ↓eIf_run, ↓aNil_run, ↓aCons_run, ↓aVal_run, ↓eTup_run, ↓eList_run, ↓eLst_run, ↓eCallB_run, ↓eOnL_run, ↓eIsi_run, ↓eSl_run, ↓ePart_run, ↓eNoPart_run, ↓eChain_run, ↓eIxO_run, ↓eOwnL_run, ↓sNext_run, ↓sSeq_run, ↓sIf_run, ↓sExpr_run, ↓sRet_run, ↓sRetS_run, ↓sRetN_run, ↓sBreak_run, ↓sCont_run, ↓sAsg_run, ↓sSetS_run, ↓sPar_run, ↓sFor_run, ↓sWhile_run, ↓eIt1_run, ↓eIt2_run, ↓eIt3_run, ↓eLc_run, ↓eLc2_run, ↓sNewL_run, ↓sApp_run, ↓sSetIx_run, ↓sRetL_run, ↓sRetNew_run, ↓eCallP_run, ↓eCallE_run, ↓eVal_run, ↓eMake_run, ↓eFld_run, ↓sRaise_run, ↓sRaiseI_run, ↓sTry_run, ↓eIsx_run, ↓sPar3_run, ↓eNewL_run, ↓eNDisp_run, ↓eKDisp_run, ↓eEmptyK_run, ↓eNewN_run, ↓eKM_run, ↓eNGet_run, ↓eKGet_run, ↓eNGetO_run, ↓eCopyN_run, ↓sNPut_run, ↓aStar_run, ↓eRg1_run, ↓eIsi2_run, ↓eCopyL_run, ↓eNVals_run, bind_ok, bind_exc, out_ok, out_exc, lift_some, obind_next, obind_ret, obind_exc, obind_brk, obind_cont, varR_run, slotR_run, asBl_run, allD_nil, allD_cons, asLst_run, asI_run, chR_run, ownK_run, ownKR_run, ownL_run, ownLR_run, someR_run, someO_run, ixI_run, parR_run, gN_run, gsNil_run, gsCons_run, itSeq_lst, itSeq_tup, itEn_lst, itEn_tup, itZ_lst, itZ_tup, wipeR_nil, wipeR_cons, setIxR_run, finP_ret, finP_next, finP_exc, finE_ret, finE_next, finE_exc, callR_ok, callR_err, valR_run, makeR_ok, makeR_exc, opAdd_int, opI_run, opB_run, opMulA_int, opEq_run, opNe_run, opIsN_run, opNotN_run, opIx_tup, opIx_lst, opNeg_run, oLen_tup, oLen_lst, oInt_int, oInt_bl, oTuple_tup, oTuple_lst, oList_tup, oList_lst, oTupleL_run, oListL_run, oLenL_run, isi_int_non, isi_int_bl, isi_int_int, isi_int_str, isi_int_tup, isi_int_lst, isi_bool_non, isi_bool_bl, isi_bool_int, isi_bool_str, isi_bool_tup, isi_bool_lst, isi_tuple_non, isi_tuple_bl, isi_tuple_int, isi_tuple_str, isi_tuple_tup, isi_tuple_lst, isi_str_non, isi_str_bl, isi_str_int, isi_str_str, isi_str_tup, isi_str_lst, isi_list_non, isi_list_bl, isi_list_int, isi_list_str, isi_list_tup, isi_list_lst, atI_0, atI_1, atI_2, atI_3, atI_4, atI_5, atI_6, atI_7, atI_8, ixN_1_0, ixN_2_0, ixN_2_1, ixN_3_0, ixN_3_1, ixN_3_2, ixN_4_0, ixN_4_1, ixN_4_2, ixN_4_3, ixN_5_0, ixN_5_1, ixN_5_2, ixN_5_3, ixN_5_4, eqD_int, eqD_bl, eqD_non_non, isNon_non, isNon_bl, isNon_int, isNon_str, isNon_tup, isNon_lst, Option.map_some, Option.map_none, Option.bind_some, List.getElem?_cons_zero, List.getElem?_cons_succ, List.set_cons_zero, List.set_cons_succ, List.map_cons, List.map_nil, List.length_cons, List.length_nil, List.cons_append, List.nil_append, rho0, List.replicate, List.take_succ_cons, List.take_zero, List.take_nil, List.take_length, and_self, Bool.false_eq_true, Bool.not_true, Bool.not_false, decide_true, decide_false, raiseI_run1, raiseI_run2, tryO_next, tryO_ret, tryH_nil, unbind_next, unbind_ret, eXf_run, par3R_run, newLR_0, newLR_1, kmR_run, kmR2_run, asK_run, asN_run, getRL_run, getKL_run, ngo0_run, ngo1_run, ngoR_run, ownN_run, ownNR_run, npK_run, starR_run, itNItems_run, itNKeys_run, oDictK_run, opIn2_K, opKIx_run, keyK_int, copyLR_lst, copyLR_tup, gT2_run, nValsD_run, Option.getD_some, tup_0, lst_0, tup_1, lst_1, tup_2, lst_2, tup_3, lst_3, tup_4, lst_4, tup_5, lst_5, tup_6, lst_6, tup_7, lst_7, tup_8, lst_8, tup_9, lst_9, tup_10, lst_10, tup_11, lst_11, tup_12, lst_12, new_0, new_1, new_2, new_3, new_4, new_5, ↓reduceIte, Nat.reduceAdd, $xs,*] at $h:ident)
section
variable {s : List Int} {ps : List Plug}
end
end Pk
namespace Pk
open PySem Dl L2
local macro_rules
  | `(tactic| push_cast [$xs,*]) => `(tactic| simp -implicitDefEqProofs only [↓eC_run, ↓eVar_run, ↓eSlot_run, ↓eBin_run, ↓eUn_run, ↓eTest_run, ↓eAndT_run, ↓eOrT_run, ↓eNotT_run, ↓eTrue_run, ↓eAnd_run, ↓eOr_run, ↓eNot_run, ↓eIf_run, ↓aNil_run, ↓aCons_run, ↓aVal_run, ↓eTup_run, ↓eList_run, ↓eLst_run, ↓eCallB_run, ↓eOnL_run, ↓eIsi_run, ↓eSl_run, ↓ePart_run, ↓eNoPart_run, ↓eChain_run, ↓eIxO_run, ↓eOwnL_run, ↓sNext_run, ↓sSeq_run, ↓sIf_run, ↓sExpr_run, ↓sRet_run, ↓sRetS_run, ↓sRetN_run, ↓sBreak_run, ↓sCont_run, ↓sAsg_run, ↓sSetS_run, ↓sPar_run, ↓sFor_run, ↓sWhile_run, ↓eIt1_run, ↓eIt2_run, ↓eIt3_run, ↓eLc_run, ↓eLc2_run, ↓sNewL_run, ↓sApp_run, ↓sSetIx_run, ↓sRetL_run, ↓sRetNew_run, ↓eCallP_run, ↓eCallE_run, ↓eVal_run, ↓eMake_run, ↓eFld_run, ↓sRaise_run, ↓sRaiseI_run, ↓sTry_run, ↓eIsx_run, ↓sPar3_run, ↓eNewL_run, ↓eNDisp_run, ↓eKDisp_run, ↓eEmptyK_run, ↓eNewN_run, ↓eKM_run, ↓eNGet_run, ↓eKGet_run, ↓eNGetO_run, ↓eCopyN_run, ↓sNPut_run, ↓aStar_run, ↓eRg1_run, ↓eIsi2_run, ↓eCopyL_run, ↓eNVals_run, ↓eLcN_run, bind_ok, bind_exc, out_ok, out_exc, lift_some, obind_next, obind_ret, obind_exc, obind_brk, obind_cont, varR_run, slotR_run, asBl_run, allD_nil, allD_cons, asLst_run, asI_run, chR_run, ownK_run, ownKR_run, ownL_run, ownLR_run, someR_run, someO_run, ixI_run, parR_run, gN_run, gsNil_run, gsCons_run, itSeq_lst, itSeq_tup, itEn_lst, itEn_tup, itZ_lst, itZ_tup, wipeR_nil, wipeR_cons, setIxR_run, finP_ret, finP_next, finP_exc, finE_ret, finE_next, finE_exc, callR_ok, callR_err, valR_run, makeR_ok, makeR_exc, opAdd_int, opI_run, opB_run, opMulA_int, opEq_run, opNe_run, opIsN_run, opNotN_run, opIx_tup, opIx_lst, opNeg_run, oLen_tup, oLen_lst, oInt_int, oInt_bl, oTuple_tup, oTuple_lst, oList_tup, oList_lst, oTupleL_run, oListL_run, oLenL_run, isi_int_non, isi_int_bl, isi_int_int, isi_int_str, isi_int_tup, isi_int_lst, isi_bool_non, isi_bool_bl, isi_bool_int, isi_bool_str, isi_bool_tup, isi_bool_lst, isi_tuple_non, isi_tuple_bl, isi_tuple_int, isi_tuple_str, isi_tuple_tup, isi_tuple_lst, isi_str_non, isi_str_bl, isi_str_int, isi_str_str, isi_str_tup, isi_str_lst, isi_list_non, isi_list_bl, isi_list_int, isi_list_str, isi_list_tup, isi_list_lst, atI_0, atI_1, atI_2, atI_3, atI_4, atI_5, atI_6, atI_7, atI_8, ixN_1_0, ixN_2_0, ixN_2_1, ixN_3_0, ixN_3_1, ixN_3_2, ixN_4_0, ixN_4_1, ixN_4_2, ixN_4_3, ixN_5_0, ixN_5_1, ixN_5_2, ixN_5_3, ixN_5_4, eqD_int, eqD_bl, eqD_non_non, isNon_non, isNon_bl, isNon_int, isNon_str, isNon_tup, isNon_lst, Option.map_some, Option.map_none, Option.bind_some, List.getElem?_cons_zero, List.getElem?_cons_succ, List.set_cons_zero, List.set_cons_succ, List.map_cons, List.map_nil, List.length_cons, List.length_nil, List.cons_append, List.nil_append, rho0, List.replicate, List.take_succ_cons, List.take_zero, List.take_nil, List.take_length, and_self, Bool.false_eq_true, Bool.not_true, Bool.not_false, decide_true, decide_false, raiseI_run1, raiseI_run2, tryO_next, tryO_ret, tryH_nil, unbind_next, unbind_ret, eXf_run, par3R_run, newLR_0, newLR_1, kmR_run, kmR2_run, asK_run, asN_run, getRL_run, getKL_run, ngo0_run, ngo1_run, ngoR_run, ownN_run, ownNR_run, npK_run, starR_run, itNItems_run, itNKeys_run, oDictK_run, opIn2_K, opKIx_run, keyK_int, copyLR_lst, copyLR_tup, gT2_run, nValsD_run, Option.getD_some, tup_0, lst_0, tup_1, lst_1, tup_2, lst_2, tup_3, lst_3, tup_4, lst_4, tup_5, lst_5, tup_6, lst_6, tup_7, lst_7, tup_8, lst_8, tup_9, lst_9, tup_10, lst_10, tup_11, lst_11, tup_12, lst_12, new_0, new_1, new_2, new_3, new_4, new_5, ↓reduceIte, Nat.reduceAdd, $xs,*])
  | `(tactic| push_cast [$xs,*] at $h:ident) => `(tactic| simp -implicitDefEqProofs only [↓eC_run, ↓eVar_run, ↓eSlot_run, ↓eBin_run, ↓eUn_run, ↓eTest_run, ↓eAndT_run, ↓eOrT_run, ↓eNotT_run, ↓eTrue_run, ↓eAnd_run, ↓eOr_run, ↓eNot_run, ↓eIf_run, ↓aNil_run, ↓aCons_run, ↓aVal_run, ↓eTup_run, ↓eList_run, ↓eLst_run, ↓eCallB_run, ↓eOnL_run, ↓eIsi_run, ↓eSl_run, ↓ePart_run, ↓eNoPart_run, ↓eChain_run, ↓eIxO_run, ↓eOwnL_run, ↓sNext_run, ↓sSeq_run, ↓sIf_run, ↓sExpr_run, ↓sRet_run, ↓sRetS_run, ↓sRetN_run, ↓sBreak_run, ↓sCont_run, ↓sAsg_run, ↓sSetS_run, ↓sPar_run, ↓sFor_run, ↓sWhile_run, ↓eIt1_run, ↓eIt2_run, ↓eIt3_run, ↓eLc_run, ↓eLc2_run, ↓sNewL_run, ↓sApp_run, ↓sSetIx_run, ↓sRetL_run, ↓sRetNew_run, ↓eCallP_run, ↓eCallE_run, ↓eVal_run, ↓eMake_run, ↓eFld_run, ↓sRaise_run, ↓sRaiseI_run, ↓sTry_run, ↓eIsx_run, ↓sPar3_run, ↓eNewL_run, ↓eNDisp_run, ↓eKDisp_run, ↓eEmptyK_run, ↓eNewN_run, ↓eKM_run, ↓eNGet_run, ↓eKGet_run, ↓eNGetO_run, ↓eCopyN_run, ↓sNPut_run, ↓aStar_run, ↓eRg1_run, ↓eIsi2_run, ↓eCopyL_run, ↓eNVals_run, ↓eLcN_run, bind_ok, bind_exc, out_ok, out_exc, lift_some, obind_next, obind_ret, obind_exc, obind_brk, obind_cont, varR_run, slotR_run, asBl_run, allD_nil, allD_cons, asLst_run, asI_run, chR_run, ownK_run, ownKR_run, ownL_run, ownLR_run, someR_run, someO_run, ixI_run, parR_run, gN_run, gsNil_run, gsCons_run, itSeq_lst, itSeq_tup, itEn_lst, itEn_tup, itZ_lst, itZ_tup, wipeR_nil, wipeR_cons, setIxR_run, finP_ret, finP_next, finP_exc, finE_ret, finE_next, finE_exc, callR_ok, callR_err, valR_run, makeR_ok, makeR_exc, opAdd_int, opI_run, opB_run, opMulA_int, opEq_run, opNe_run, opIsN_run, opNotN_run, opIx_tup, opIx_lst, opNeg_run, oLen_tup, oLen_lst, oInt_int, oInt_bl, oTuple_tup, oTuple_lst, oList_tup, oList_lst, oTupleL_run, oListL_run, oLenL_run, isi_int_non, isi_int_bl, isi_int_int, isi_int_str, isi_int_tup, isi_int_lst, isi_bool_non, isi_bool_bl, isi_bool_int, isi_bool_str, isi_bool_tup, isi_bool_lst, isi_tuple_non, isi_tuple_bl, isi_tuple_int, isi_tuple_str, isi_tuple_tup, isi_tuple_lst, isi_str_non, isi_str_bl, isi_str_int, isi_str_str, isi_str_tup, isi_str_lst, isi_list_non, isi_list_bl, isi_list_int, isi_list_str, isi_list_tup, isi_list_lst, atI_0, atI_1, atI_2, atI_3, atI_4, atI_5, atI_6, atI_7, atI_8, ixN_1_0, ixN_2_0, ixN_2_1, ixN_3_0, ixN_3_1, ixN_3_2, ixN_4_0, ixN_4_1, ixN_4_2, ixN_4_3, ixN_5_0, ixN_5_1, ixN_5_2, ixN_5_3, ixN_5_4, eqD_int, eqD_bl, eqD_non_non, isNon_non, isNon_bl, isNon_int, isNon_str, isNon_tup, isNon_lst, Option.map_some, Option.map_none, Option.bind_some, List.getElem?_cons_zero, List.getElem?_cons_succ, List.set_cons_zero, List.set_cons_succ, List.map_cons, List.map_nil, List.length_cons, List.length_nil, List.cons_append, List.nil_append, rho0, List.replicate, List.take_succ_cons, List.take_zero, List.take_nil, List.take_length, and_self, Bool.false_eq_true, Bool.not_true, Bool.not_false, decide_true, decide_false, raiseI_run1, raiseI_run2, tryO_next, tryO_ret, tryH_nil, unbind_next, unbind_ret, eXf_run, par3R_run, newLR_0, newLR_1, kmR_run, kmR2_run, asK_run, asN_run, getRL_run, getKL_run, ngo0_run, ngo1_run, ngoR_run, ownN_run, ownNR_run, npK_run, starR_run, itNItems_run, itNKeys_run, oDictK_run, opIn2_K, opKIx_run, keyK_int, copyLR_lst, copyLR_tup, gT2_run, nValsD_run, Option.getD_some, tup_0, lst_0, tup_1, lst_1, tup_2, lst_2, tup_3, lst_3, tup_4, lst_4, tup_5, lst_5, tup_6, lst_6, tup_7, lst_7, tup_8, lst_8, tup_9, lst_9, tup_10, lst_10, tup_11, lst_11, tup_12, lst_12, new_0, new_1, new_2, new_3, new_4, new_5, ↓reduceIte, Nat.reduceAdd, $xs,*] at $h:ident)
theorem IsRow.rest {ns : List Int} {rest rest' : Om} {R : Option OD} (h : IsRow ns rest (R :: rest)) : IsRow ns rest' (R :: rest') := by
  obtain ⟨a, b, c, k, e⟩ := h
  injection e with e _
  exact ⟨a, b, c, k, by rw [e]⟩
section
variable {s : List Int} {ps : List Plug} {ns : List Int}
theorem c12 : (((1 : Nat) : Int) == 2) = false := rfl
theorem opAdd_lst {a b : List D} (h : a.length + b.length ≤ lim) : opAdd (.lst a) (.lst b) = some (.lst (a ++ b)) := by
  show (if _ then _ else _) = _
  rw [if_pos h]
end
end Pk
namespace Pk
open PySem Dl L2
local macro_rules
  | `(tactic| push_cast [$xs,*]) => `(tactic| simp -implicitDefEqProofs only [↓eC_run, ↓eVar_run, ↓eSlot_run, ↓eBin_run, ↓eUn_run, ↓eTest_run, ↓eAndT_run, ↓eOrT_run, ↓eNotT_run, ↓eTrue_run, ↓eAnd_run, ↓eOr_run, ↓eNot_run, ↓eIf_run, ↓aNil_run, ↓aCons_run, ↓aVal_run, ↓eTup_run, ↓eList_run, ↓eLst_run, ↓eCallB_run, ↓eOnL_run, ↓eIsi_run, ↓eSl_run, ↓ePart_run, ↓eNoPart_run, ↓eChain_run, ↓eIxO_run, ↓eOwnL_run, ↓sNext_run, ↓sSeq_run, ↓sIf_run, ↓sExpr_run, ↓sRet_run, ↓sRetS_run, ↓sRetN_run, ↓sBreak_run, ↓sCont_run, ↓sAsg_run, ↓sSetS_run, ↓sPar_run, ↓sFor_run, ↓sWhile_run, ↓eIt1_run, ↓eIt2_run, ↓eIt3_run, ↓eLc_run, ↓eLc2_run, ↓sNewL_run, ↓sApp_run, ↓sSetIx_run, ↓sRetL_run, ↓sRetNew_run, ↓eCallP_run, ↓eCallE_run, ↓eVal_run, ↓eMake_run, ↓eFld_run, ↓sRaise_run, ↓sRaiseI_run, ↓sTry_run, ↓eIsx_run, ↓sPar3_run, ↓eNewL_run, ↓eNDisp_run, ↓eKDisp_run, ↓eEmptyK_run, ↓eNewN_run, ↓eKM_run, ↓eNGet_run, ↓eKGet_run, ↓eNGetO_run, ↓eCopyN_run, ↓sNPut_run, ↓aStar_run, ↓eRg1_run, ↓eIsi2_run, ↓eCopyL_run, ↓eNVals_run, bind_ok, bind_exc, out_ok, out_exc, lift_some, obind_next, obind_ret, obind_exc, obind_brk, obind_cont, varR_run, slotR_run, asBl_run, allD_nil, allD_cons, asLst_run, asI_run, chR_run, ownK_run, ownKR_run, ownL_run, ownLR_run, someR_run, someO_run, ixI_run, parR_run, gN_run, gsNil_run, gsCons_run, itSeq_lst, itSeq_tup, itEn_lst, itEn_tup, itZ_lst, itZ_tup, wipeR_nil, wipeR_cons, setIxR_run, finP_ret, finP_next, finP_exc, finE_ret, finE_next, finE_exc, callR_ok, callR_err, valR_run, makeR_ok, makeR_exc, opAdd_int, opI_run, opB_run, opMulA_int, opEq_run, opNe_run, opIsN_run, opNotN_run, opIx_tup, opIx_lst, opNeg_run, oLen_tup, oLen_lst, oInt_int, oInt_bl, oTuple_tup, oTuple_lst, oList_tup, oList_lst, oTupleL_run, oListL_run, oLenL_run, isi_int_non, isi_int_bl, isi_int_int, isi_int_str, isi_int_tup, isi_int_lst, isi_bool_non, isi_bool_bl, isi_bool_int, isi_bool_str, isi_bool_tup, isi_bool_lst, isi_tuple_non, isi_tuple_bl, isi_tuple_int, isi_tuple_str, isi_tuple_tup, isi_tuple_lst, isi_str_non, isi_str_bl, isi_str_int, isi_str_str, isi_str_tup, isi_str_lst, isi_list_non, isi_list_bl, isi_list_int, isi_list_str, isi_list_tup, isi_list_lst, atI_0, atI_1, atI_2, atI_3, atI_4, atI_5, atI_6, atI_7, atI_8, ixN_1_0, ixN_2_0, ixN_2_1, ixN_3_0, ixN_3_1, ixN_3_2, ixN_4_0, ixN_4_1, ixN_4_2, ixN_4_3, ixN_5_0, ixN_5_1, ixN_5_2, ixN_5_3, ixN_5_4, eqD_int, eqD_bl, eqD_non_non, isNon_non, isNon_bl, isNon_int, isNon_str, isNon_tup, isNon_lst, Option.map_some, Option.map_none, Option.bind_some, List.getElem?_cons_zero, List.getElem?_cons_succ, List.set_cons_zero, List.set_cons_succ, List.map_cons, List.map_nil, List.length_cons, List.length_nil, List.cons_append, List.nil_append, rho0, List.replicate, List.take_succ_cons, List.take_zero, List.take_nil, List.take_length, and_self, Bool.false_eq_true, Bool.not_true, Bool.not_false, decide_true, decide_false, raiseI_run1, raiseI_run2, tryO_next, tryO_ret, tryH_nil, unbind_next, unbind_ret, eXf_run, par3R_run, newLR_0, newLR_1, kmR_run, kmR2_run, asK_run, asN_run, getRL_run, getKL_run, ngo0_run, ngo1_run, ngoR_run, ownN_run, ownNR_run, npK_run, starR_run, itNItems_run, itNKeys_run, oDictK_run, opIn2_K, opKIx_run, keyK_int, copyLR_lst, copyLR_tup, gT2_run, nValsD_run, Option.getD_some, tup_0, lst_0, tup_1, lst_1, tup_2, lst_2, tup_3, lst_3, tup_4, lst_4, tup_5, lst_5, tup_6, lst_6, tup_7, lst_7, tup_8, lst_8, tup_9, lst_9, tup_10, lst_10, tup_11, lst_11, tup_12, lst_12, new_0, new_1, new_2, new_3, new_4, new_5, ↓reduceIte, Nat.reduceAdd, $xs,*])
  | `(tactic| push_cast [$xs,*] at $h:ident) => `(tactic| simp -implicitDefEqProofs only [↓eC_run, ↓eVar_run, ↓eSlot_run, ↓eBin_run, ↓eUn_run, ↓eTest_run, ↓eAndT_run, ↓eOrT_run, ↓eNotT_run, ↓eTrue_run, ↓eAnd_run, ↓eOr_run, ↓eNot_run, ↓eIf_run, ↓aNil_run, ↓aCons_run, ↓aVal_run, ↓eTup_run, ↓eList_run, ↓eLst_run, ↓eCallB_run, ↓eOnL_run, ↓eIsi_run, ↓eSl_run, ↓ePart_run, ↓eNoPart_run, ↓eChain_run, ↓eIxO_run, ↓eOwnL_run, ↓sNext_run, ↓sSeq_run, ↓sIf_run, ↓sExpr_run, ↓sRet_run, ↓sRetS_run, ↓sRetN_run, ↓sBreak_run, ↓sCont_run, ↓sAsg_run, ↓sSetS_run, ↓sPar_run, ↓sFor_run, ↓sWhile_run, ↓eIt1_run, ↓eIt2_run, ↓eIt3_run, ↓eLc_run, ↓eLc2_run, ↓sNewL_run, ↓sApp_run, ↓sSetIx_run, ↓sRetL_run, ↓sRetNew_run, ↓eCallP_run, ↓eCallE_run, ↓eVal_run, ↓eMake_run, ↓eFld_run, ↓sRaise_run, ↓sRaiseI_run, ↓sTry_run, ↓eIsx_run, ↓sPar3_run, ↓eNewL_run, ↓eNDisp_run, ↓eKDisp_run, ↓eEmptyK_run, ↓eNewN_run, ↓eKM_run, ↓eNGet_run, ↓eKGet_run, ↓eNGetO_run, ↓eCopyN_run, ↓sNPut_run, ↓aStar_run, ↓eRg1_run, ↓eIsi2_run, ↓eCopyL_run, ↓eNVals_run, bind_ok, bind_exc, out_ok, out_exc, lift_some, obind_next, obind_ret, obind_exc, obind_brk, obind_cont, varR_run, slotR_run, asBl_run, allD_nil, allD_cons, asLst_run, asI_run, chR_run, ownK_run, ownKR_run, ownL_run, ownLR_run, someR_run, someO_run, ixI_run, parR_run, gN_run, gsNil_run, gsCons_run, itSeq_lst, itSeq_tup, itEn_lst, itEn_tup, itZ_lst, itZ_tup, wipeR_nil, wipeR_cons, setIxR_run, finP_ret, finP_next, finP_exc, finE_ret, finE_next, finE_exc, callR_ok, callR_err, valR_run, makeR_ok, makeR_exc, opAdd_int, opI_run, opB_run, opMulA_int, opEq_run, opNe_run, opIsN_run, opNotN_run, opIx_tup, opIx_lst, opNeg_run, oLen_tup, oLen_lst, oInt_int, oInt_bl, oTuple_tup, oTuple_lst, oList_tup, oList_lst, oTupleL_run, oListL_run, oLenL_run, isi_int_non, isi_int_bl, isi_int_int, isi_int_str, isi_int_tup, isi_int_lst, isi_bool_non, isi_bool_bl, isi_bool_int, isi_bool_str, isi_bool_tup, isi_bool_lst, isi_tuple_non, isi_tuple_bl, isi_tuple_int, isi_tuple_str, isi_tuple_tup, isi_tuple_lst, isi_str_non, isi_str_bl, isi_str_int, isi_str_str, isi_str_tup, isi_str_lst, isi_list_non, isi_list_bl, isi_list_int, isi_list_str, isi_list_tup, isi_list_lst, atI_0, atI_1, atI_2, atI_3, atI_4, atI_5, atI_6, atI_7, atI_8, ixN_1_0, ixN_2_0, ixN_2_1, ixN_3_0, ixN_3_1, ixN_3_2, ixN_4_0, ixN_4_1, ixN_4_2, ixN_4_3, ixN_5_0, ixN_5_1, ixN_5_2, ixN_5_3, ixN_5_4, eqD_int, eqD_bl, eqD_non_non, isNon_non, isNon_bl, isNon_int, isNon_str, isNon_tup, isNon_lst, Option.map_some, Option.map_none, Option.bind_some, List.getElem?_cons_zero, List.getElem?_cons_succ, List.set_cons_zero, List.set_cons_succ, List.map_cons, List.map_nil, List.length_cons, List.length_nil, List.cons_append, List.nil_append, rho0, List.replicate, List.take_succ_cons, List.take_zero, List.take_nil, List.take_length, and_self, Bool.false_eq_true, Bool.not_true, Bool.not_false, decide_true, decide_false, raiseI_run1, raiseI_run2, tryO_next, tryO_ret, tryH_nil, unbind_next, unbind_ret, eXf_run, par3R_run, newLR_0, newLR_1, kmR_run, kmR2_run, asK_run, asN_run, getRL_run, getKL_run, ngo0_run, ngo1_run, ngoR_run, ownN_run, ownNR_run, npK_run, starR_run, itNItems_run, itNKeys_run, oDictK_run, opIn2_K, opKIx_run, keyK_int, copyLR_lst, copyLR_tup, gT2_run, nValsD_run, Option.getD_some, tup_0, lst_0, tup_1, lst_1, tup_2, lst_2, tup_3, lst_3, tup_4, lst_4, tup_5, lst_5, tup_6, lst_6, tup_7, lst_7, tup_8, lst_8, tup_9, lst_9, tup_10, lst_10, tup_11, lst_11, tup_12, lst_12, new_0, new_1, new_2, new_3, new_4, new_5, ↓reduceIte, Nat.reduceAdd, $xs,*] at $h:ident)
theorem atI_end {xs : List D} {x : D} : atI (xs ++ [x]) (-1) = some x := by
  unfold atI ixN
  rw [if_neg (by decide), if_pos (by rw [List.length_append]; simp; omega)]
  rw [show ((-1 : Int) + ((xs ++ [x]).length : Int)).toNat = xs.length by rw [List.length_append]; simp; omega]
  show (xs ++ [x])[xs.length]? = _
  simp
theorem eDc_run {ρ : Rho} {ω : Om} (vs) (it : FE (List D)) (tg) (tt) (fk fv : FE D) : eDc vs it tg tt fk fv ρ ω = bindL (it ρ ω) (k := ⟨fun ds ω1 => dcL tg tt fk fv (wipeR ρ vs) ds [] ω1⟩) := rfl
theorem eBinOL_run {ρ : Rho} {ω : Om} {i : Nat} (op) (g : FE D) : eBinOL op i g ρ ω = someRL (ownK ρ i) (k := ⟨fun k => bindL (g ρ ω) (k := ⟨fun y ω2 => someRL (ownL ω2 k) (k := ⟨fun ds => Res.lift (op (.lst ds) y) ω2⟩)⟩)⟩) := by
  show eBinOL op i g ρ ω = someR (ownK ρ i) fun k => (g ρ ω).bind fun y ω2 => someR (ownL ω2 k) fun ds => Res.lift (op (.lst ds) y) ω2
  unfold eBinOL someR
  cases ownK ρ i with
  | none => rfl
  | some k =>
    dsimp only
    congr 1
    funext y ω2
    cases ownL ω2 k <;> rfl
end Pk
namespace Pk
open PySem Dl L2
local macro_rules
  | `(tactic| push_cast [$xs,*]) => `(tactic| simp -implicitDefEqProofs only [↓eC_run, ↓eVar_run, ↓eSlot_run, ↓eBin_run, ↓eUn_run, ↓eTest_run, ↓eAndT_run, ↓eOrT_run, ↓eNotT_run, ↓eTrue_run, ↓eAnd_run, ↓eOr_run, ↓eNot_run, ↓eIf_run, ↓aNil_run, ↓aCons_run, ↓aVal_run, ↓eTup_run, ↓eList_run, ↓eLst_run, ↓eCallB_run, ↓eOnL_run, ↓eIsi_run, ↓eSl_run, ↓ePart_run, ↓eNoPart_run, ↓eChain_run, ↓eIxO_run, ↓eOwnL_run, ↓sNext_run, ↓sSeq_run, ↓sIf_run, ↓sExpr_run, ↓sRet_run, ↓sRetS_run, ↓sRetN_run, ↓sBreak_run, ↓sCont_run, ↓sAsg_run, ↓sSetS_run, ↓sPar_run, ↓sFor_run, ↓sWhile_run, ↓eIt1_run, ↓eIt2_run, ↓eIt3_run, ↓eLc_run, ↓eLc2_run, ↓sNewL_run, ↓sApp_run, ↓sSetIx_run, ↓sRetL_run, ↓sRetNew_run, ↓eCallP_run, ↓eCallE_run, ↓eVal_run, ↓eMake_run, ↓eFld_run, ↓sRaise_run, ↓sRaiseI_run, ↓sTry_run, ↓eIsx_run, ↓sPar3_run, ↓eNewL_run, ↓eNDisp_run, ↓eKDisp_run, ↓eEmptyK_run, ↓eNewN_run, ↓eKM_run, ↓eNGet_run, ↓eKGet_run, ↓eNGetO_run, ↓eCopyN_run, ↓sNPut_run, ↓aStar_run, ↓eRg1_run, ↓eIsi2_run, ↓eCopyL_run, ↓eNVals_run, ↓eDc_run, ↓eBinOL_run, bind_ok, bind_exc, out_ok, out_exc, lift_some, obind_next, obind_ret, obind_exc, obind_brk, obind_cont, varR_run, slotR_run, asBl_run, allD_nil, allD_cons, asLst_run, asI_run, chR_run, ownK_run, ownKR_run, ownL_run, ownLR_run, someR_run, someO_run, ixI_run, parR_run, gN_run, gsNil_run, gsCons_run, itSeq_lst, itSeq_tup, itEn_lst, itEn_tup, itZ_lst, itZ_tup, wipeR_nil, wipeR_cons, setIxR_run, finP_ret, finP_next, finP_exc, finE_ret, finE_next, finE_exc, callR_ok, callR_err, valR_run, makeR_ok, makeR_exc, opAdd_int, opI_run, opB_run, opMulA_int, opEq_run, opNe_run, opIsN_run, opNotN_run, opIx_tup, opIx_lst, opNeg_run, oLen_tup, oLen_lst, oInt_int, oInt_bl, oTuple_tup, oTuple_lst, oList_tup, oList_lst, oTupleL_run, oListL_run, oLenL_run, isi_int_non, isi_int_bl, isi_int_int, isi_int_str, isi_int_tup, isi_int_lst, isi_bool_non, isi_bool_bl, isi_bool_int, isi_bool_str, isi_bool_tup, isi_bool_lst, isi_tuple_non, isi_tuple_bl, isi_tuple_int, isi_tuple_str, isi_tuple_tup, isi_tuple_lst, isi_str_non, isi_str_bl, isi_str_int, isi_str_str, isi_str_tup, isi_str_lst, isi_list_non, isi_list_bl, isi_list_int, isi_list_str, isi_list_tup, isi_list_lst, atI_0, atI_1, atI_2, atI_3, atI_4, atI_5, atI_6, atI_7, atI_8, ixN_1_0, ixN_2_0, ixN_2_1, ixN_3_0, ixN_3_1, ixN_3_2, ixN_4_0, ixN_4_1, ixN_4_2, ixN_4_3, ixN_5_0, ixN_5_1, ixN_5_2, ixN_5_3, ixN_5_4, eqD_int, eqD_bl, eqD_non_non, isNon_non, isNon_bl, isNon_int, isNon_str, isNon_tup, isNon_lst, Option.map_some, Option.map_none, Option.bind_some, List.getElem?_cons_zero, List.getElem?_cons_succ, List.set_cons_zero, List.set_cons_succ, List.map_cons, List.map_nil, List.length_cons, List.length_nil, List.cons_append, List.nil_append, rho0, List.replicate, List.take_succ_cons, List.take_zero, List.take_nil, List.take_length, and_self, Bool.false_eq_true, Bool.not_true, Bool.not_false, decide_true, decide_false, raiseI_run1, raiseI_run2, tryO_next, tryO_ret, tryH_nil, unbind_next, unbind_ret, eXf_run, par3R_run, newLR_0, newLR_1, kmR_run, kmR2_run, asK_run, asN_run, getRL_run, getKL_run, ngo0_run, ngo1_run, ngoR_run, ownN_run, ownNR_run, npK_run, starR_run, itNItems_run, itNKeys_run, oDictK_run, opIn2_K, opKIx_run, keyK_int, copyLR_lst, copyLR_tup, gT2_run, nValsD_run, Option.getD_some, tup_0, lst_0, tup_1, lst_1, tup_2, lst_2, tup_3, lst_3, tup_4, lst_4, tup_5, lst_5, tup_6, lst_6, tup_7, lst_7, tup_8, lst_8, tup_9, lst_9, tup_10, lst_10, tup_11, lst_11, tup_12, lst_12, new_0, new_1, new_2, new_3, new_4, new_5, ↓reduceIte, Nat.reduceAdd, $xs,*])
  | `(tactic| push_cast [$xs,*] at $h:ident) => `(tactic| simp -implicitDefEqProofs only [↓eC_run, ↓eVar_run, ↓eSlot_run, ↓eBin_run, ↓eUn_run, ↓eTest_run, ↓eAndT_run, ↓eOrT_run, ↓eNotT_run, ↓eTrue_run, ↓eAnd_run, ↓eOr_run, ↓eNot_run, ↓eIf_run, ↓aNil_run, ↓aCons_run, ↓aVal_run, ↓eTup_run, ↓eList_run, ↓eLst_run, ↓eCallB_run, ↓eOnL_run, ↓eIsi_run, ↓eSl_run, ↓ePart_run, ↓eNoPart_run, ↓eChain_run, ↓eIxO_run, ↓eOwnL_run, ↓sNext_run, ↓sSeq_run, ↓sIf_run, ↓sExpr_run, ↓sRet_run, ↓sRetS_run, ↓sRetN_run, ↓sBreak_run, ↓sCont_run, ↓sAsg_run, ↓sSetS_run, ↓sPar_run, ↓sFor_run, ↓sWhile_run, ↓eIt1_run, ↓eIt2_run, ↓eIt3_run, ↓eLc_run, ↓eLc2_run, ↓sNewL_run, ↓sApp_run, ↓sSetIx_run, ↓sRetL_run, ↓sRetNew_run, ↓eCallP_run, ↓eCallE_run, ↓eVal_run, ↓eMake_run, ↓eFld_run, ↓sRaise_run, ↓sRaiseI_run, ↓sTry_run, ↓eIsx_run, ↓sPar3_run, ↓eNewL_run, ↓eNDisp_run, ↓eKDisp_run, ↓eEmptyK_run, ↓eNewN_run, ↓eKM_run, ↓eNGet_run, ↓eKGet_run, ↓eNGetO_run, ↓eCopyN_run, ↓sNPut_run, ↓aStar_run, ↓eRg1_run, ↓eIsi2_run, ↓eCopyL_run, ↓eNVals_run, ↓eDc_run, ↓eBinOL_run, bind_ok, bind_exc, out_ok, out_exc, lift_some, obind_next, obind_ret, obind_exc, obind_brk, obind_cont, varR_run, slotR_run, asBl_run, allD_nil, allD_cons, asLst_run, asI_run, chR_run, ownK_run, ownKR_run, ownL_run, ownLR_run, someR_run, someO_run, ixI_run, parR_run, gN_run, gsNil_run, gsCons_run, itSeq_lst, itSeq_tup, itEn_lst, itEn_tup, itZ_lst, itZ_tup, wipeR_nil, wipeR_cons, setIxR_run, finP_ret, finP_next, finP_exc, finE_ret, finE_next, finE_exc, callR_ok, callR_err, valR_run, makeR_ok, makeR_exc, opAdd_int, opI_run, opB_run, opMulA_int, opEq_run, opNe_run, opIsN_run, opNotN_run, opIx_tup, opIx_lst, opNeg_run, oLen_tup, oLen_lst, oInt_int, oInt_bl, oTuple_tup, oTuple_lst, oList_tup, oList_lst, oTupleL_run, oListL_run, oLenL_run, isi_int_non, isi_int_bl, isi_int_int, isi_int_str, isi_int_tup, isi_int_lst, isi_bool_non, isi_bool_bl, isi_bool_int, isi_bool_str, isi_bool_tup, isi_bool_lst, isi_tuple_non, isi_tuple_bl, isi_tuple_int, isi_tuple_str, isi_tuple_tup, isi_tuple_lst, isi_str_non, isi_str_bl, isi_str_int, isi_str_str, isi_str_tup, isi_str_lst, isi_list_non, isi_list_bl, isi_list_int, isi_list_str, isi_list_tup, isi_list_lst, atI_0, atI_1, atI_2, atI_3, atI_4, atI_5, atI_6, atI_7, atI_8, ixN_1_0, ixN_2_0, ixN_2_1, ixN_3_0, ixN_3_1, ixN_3_2, ixN_4_0, ixN_4_1, ixN_4_2, ixN_4_3, ixN_5_0, ixN_5_1, ixN_5_2, ixN_5_3, ixN_5_4, eqD_int, eqD_bl, eqD_non_non, isNon_non, isNon_bl, isNon_int, isNon_str, isNon_tup, isNon_lst, Option.map_some, Option.map_none, Option.bind_some, List.getElem?_cons_zero, List.getElem?_cons_succ, List.set_cons_zero, List.set_cons_succ, List.map_cons, List.map_nil, List.length_cons, List.length_nil, List.cons_append, List.nil_append, rho0, List.replicate, List.take_succ_cons, List.take_zero, List.take_nil, List.take_length, and_self, Bool.false_eq_true, Bool.not_true, Bool.not_false, decide_true, decide_false, raiseI_run1, raiseI_run2, tryO_next, tryO_ret, tryH_nil, unbind_next, unbind_ret, eXf_run, par3R_run, newLR_0, newLR_1, kmR_run, kmR2_run, asK_run, asN_run, getRL_run, getKL_run, ngo0_run, ngo1_run, ngoR_run, ownN_run, ownNR_run, npK_run, starR_run, itNItems_run, itNKeys_run, oDictK_run, opIn2_K, opKIx_run, keyK_int, copyLR_lst, copyLR_tup, gT2_run, nValsD_run, Option.getD_some, tup_0, lst_0, tup_1, lst_1, tup_2, lst_2, tup_3, lst_3, tup_4, lst_4, tup_5, lst_5, tup_6, lst_6, tup_7, lst_7, tup_8, lst_8, tup_9, lst_9, tup_10, lst_10, tup_11, lst_11, tup_12, lst_12, new_0, new_1, new_2, new_3, new_4, new_5, ↓reduceIte, Nat.reduceAdd, $xs,*] at $h:ident)
theorem hereF_asc : ∀ (plan : Plan) (k : Nat), (hereF k plan).Pairwise (· < ·) ∧ ∀ i ∈ hereF k plan, k ≤ i ∧ i < k + plan.length
  | [], k => ⟨.nil, fun i h => by cases h⟩
  | o :: r, k => by
    obtain ⟨h1, h2⟩ := hereF_asc r (k + 1)
    cases o with
    | none =>
      refine ⟨h1, fun i hi => ?_⟩
      have := h2 i hi
      rw [List.length_cons]
      omega
    | some p =>
      show (k :: hereF (k + 1) r).Pairwise _ ∧ ∀ i ∈ k :: hereF (k + 1) r, _
      refine ⟨List.pairwise_cons.mpr ⟨fun i hi => by have := h2 i hi; omega, h1⟩, fun i hi => ?_⟩
      rw [List.length_cons]
      rcases List.mem_cons.mp hi with rfl | hi
      · omega
      · have := h2 i hi; omega
theorem here_asc (plan : Plan) : (here plan).Pairwise (· < ·) := (hereF_asc plan 0).1
theorem here_lt {plan : Plan} {i : Nat} (h : i ∈ here plan) : i < plan.length := by have := (hereF_asc plan 0).2 i h; omega
section
variable (s : List Int) (ps : List Plug) (plan : Plan) (g : Plug)
abbrev wnt : List Nat := here plan ++ [ps.length]
end
structure Mr (s : List Int) (ps : List Plug) (plan : Plan) (g : Plug) : Prop where
  P : PsOk s ps
  ne : ps ≠ []
  h5 : ps.length ≤ 5
  len : plan.length = ps.length
  ok : PlanOk s.length plan
  right : Right s ps plan
  pg : PlugOk g
section
variable {s : List Int} {ps : List Plug} {plan : Plan} {g : Plug}
theorem Mr.PE (M : Mr s ps plan g) : PsOk s (ps ++ [g]) :=
  ⟨M.P.sk, fun p hp => by
    rcases List.mem_append.mp hp with h | h
    · exact M.P.pl p h
    · rw [List.mem_singleton.mp h]; exact M.pg, by rw [List.length_append]; have := M.h5; show _ + 1 ≤ 6; omega, M.P.sl⟩
theorem Mr.hl (M : Mr s ps plan g) : (here plan).length ≤ ps.length := by
  have := M.len
  have h : ∀ (plan : Plan) (k : Nat), (hereF k plan).length ≤ plan.length := fun plan => by
    induction plan with
    | nil => intro k; exact Nat.le_refl _
    | cons o r ih =>
      intro k
      have := ih (k + 1)
      cases o with
      | none => show (hereF (k + 1) r).length ≤ _; rw [List.length_cons]; omega
      | some p => show (hereF (k + 1) r).length + 1 ≤ _; rw [List.length_cons]; omega
  have := h plan 0
  unfold here
  omega
theorem Mr.asc (M : Mr s ps plan g) : (wnt ps plan).Pairwise (· < ·) := by
  refine List.pairwise_append.mpr ⟨here_asc plan, List.pairwise_singleton _ _, fun a ha b hb => ?_⟩
  rw [List.mem_singleton.mp hb]
  have := here_lt ha
  have := M.len
  omega
theorem Mr.W (M : Mr s ps plan g) : ∀ i ∈ wnt ps plan, i < (ps ++ [g]).length := fun i hi => by
  rw [List.length_append]
  show i < ps.length + 1
  rcases List.mem_append.mp hi with h | h
  · have := here_lt h
    have := M.len
    omega
  · rw [List.mem_singleton.mp h]; omega
end
section
variable (plan : Plan)
end
section
variable {s : List Int} {ps : List Plug} {plan : Plan} {g : Plug}
end
end Pk
namespace Pk
open PySem Dl L2
local macro_rules
  | `(tactic| push_cast [$xs,*]) => `(tactic| simp -implicitDefEqProofs only [↓eC_run, ↓eVar_run, ↓eSlot_run, ↓eBin_run, ↓eUn_run, ↓eTest_run, ↓eAndT_run, ↓eOrT_run, ↓eNotT_run, ↓eTrue_run, ↓eAnd_run, ↓eOr_run, ↓eNot_run, ↓eIf_run, ↓aNil_run, ↓aCons_run, ↓aVal_run, ↓eTup_run, ↓eList_run, ↓eLst_run, ↓eCallB_run, ↓eOnL_run, ↓eIsi_run, ↓eSl_run, ↓ePart_run, ↓eNoPart_run, ↓eChain_run, ↓eIxO_run, ↓eOwnL_run, ↓sNext_run, ↓sSeq_run, ↓sIf_run, ↓sExpr_run, ↓sRet_run, ↓sRetS_run, ↓sRetN_run, ↓sBreak_run, ↓sCont_run, ↓sAsg_run, ↓sSetS_run, ↓sPar_run, ↓sFor_run, ↓sWhile_run, ↓eIt1_run, ↓eIt2_run, ↓eIt3_run, ↓eLc_run, ↓eLc2_run, ↓sNewL_run, ↓sApp_run, ↓sSetIx_run, ↓sRetL_run, ↓sRetNew_run, ↓eCallP_run, ↓eCallE_run, ↓eVal_run, ↓eMake_run, ↓eFld_run, ↓sRaise_run, ↓sRaiseI_run, ↓sTry_run, ↓eIsx_run, ↓sPar3_run, ↓eNewL_run, ↓eNDisp_run, ↓eKDisp_run, ↓eEmptyK_run, ↓eNewN_run, ↓eKM_run, ↓eNGet_run, ↓eKGet_run, ↓eNGetO_run, ↓eCopyN_run, ↓sNPut_run, ↓aStar_run, ↓eRg1_run, ↓eIsi2_run, ↓eCopyL_run, ↓eNVals_run, bind_ok, bind_exc, out_ok, out_exc, lift_some, obind_next, obind_ret, obind_exc, obind_brk, obind_cont, varR_run, slotR_run, asBl_run, allD_nil, allD_cons, asLst_run, asI_run, chR_run, ownK_run, ownKR_run, ownL_run, ownLR_run, someR_run, someO_run, ixI_run, parR_run, gN_run, gsNil_run, gsCons_run, itSeq_lst, itSeq_tup, itEn_lst, itEn_tup, itZ_lst, itZ_tup, wipeR_nil, wipeR_cons, setIxR_run, finP_ret, finP_next, finP_exc, finE_ret, finE_next, finE_exc, callR_ok, callR_err, valR_run, makeR_ok, makeR_exc, opAdd_int, opI_run, opB_run, opMulA_int, opEq_run, opNe_run, opIsN_run, opNotN_run, opIx_tup, opIx_lst, opNeg_run, oLen_tup, oLen_lst, oInt_int, oInt_bl, oTuple_tup, oTuple_lst, oList_tup, oList_lst, oTupleL_run, oListL_run, oLenL_run, isi_int_non, isi_int_bl, isi_int_int, isi_int_str, isi_int_tup, isi_int_lst, isi_bool_non, isi_bool_bl, isi_bool_int, isi_bool_str, isi_bool_tup, isi_bool_lst, isi_tuple_non, isi_tuple_bl, isi_tuple_int, isi_tuple_str, isi_tuple_tup, isi_tuple_lst, isi_str_non, isi_str_bl, isi_str_int, isi_str_str, isi_str_tup, isi_str_lst, isi_list_non, isi_list_bl, isi_list_int, isi_list_str, isi_list_tup, isi_list_lst, atI_0, atI_1, atI_2, atI_3, atI_4, atI_5, atI_6, atI_7, atI_8, ixN_1_0, ixN_2_0, ixN_2_1, ixN_3_0, ixN_3_1, ixN_3_2, ixN_4_0, ixN_4_1, ixN_4_2, ixN_4_3, ixN_5_0, ixN_5_1, ixN_5_2, ixN_5_3, ixN_5_4, eqD_int, eqD_bl, eqD_non_non, isNon_non, isNon_bl, isNon_int, isNon_str, isNon_tup, isNon_lst, Option.map_some, Option.map_none, Option.bind_some, List.getElem?_cons_zero, List.getElem?_cons_succ, List.set_cons_zero, List.set_cons_succ, List.map_cons, List.map_nil, List.length_cons, List.length_nil, List.cons_append, List.nil_append, rho0, List.replicate, List.take_succ_cons, List.take_zero, List.take_nil, List.take_length, and_self, Bool.false_eq_true, Bool.not_true, Bool.not_false, decide_true, decide_false, raiseI_run1, raiseI_run2, tryO_next, tryO_ret, tryH_nil, unbind_next, unbind_ret, eXf_run, par3R_run, newLR_0, newLR_1, kmR_run, kmR2_run, asK_run, asN_run, getRL_run, getKL_run, ngo0_run, ngo1_run, ngoR_run, ownN_run, ownNR_run, npK_run, starR_run, itNItems_run, itNKeys_run, oDictK_run, opIn2_K, opKIx_run, keyK_int, copyLR_lst, copyLR_tup, gT2_run, nValsD_run, Option.getD_some, tup_0, lst_0, tup_1, lst_1, tup_2, lst_2, tup_3, lst_3, tup_4, lst_4, tup_5, lst_5, tup_6, lst_6, tup_7, lst_7, tup_8, lst_8, tup_9, lst_9, tup_10, lst_10, tup_11, lst_11, tup_12, lst_12, new_0, new_1, new_2, new_3, new_4, new_5, ↓reduceIte, Nat.reduceAdd, $xs,*])
  | `(tactic| push_cast [$xs,*] at $h:ident) => `(tactic| simp -implicitDefEqProofs only [↓eC_run, ↓eVar_run, ↓eSlot_run, ↓eBin_run, ↓eUn_run, ↓eTest_run, ↓eAndT_run, ↓eOrT_run, ↓eNotT_run, ↓eTrue_run, ↓eAnd_run, ↓eOr_run, ↓eNot_run, ↓eIf_run, ↓aNil_run, ↓aCons_run, ↓aVal_run, ↓eTup_run, ↓eList_run, ↓eLst_run, ↓eCallB_run, ↓eOnL_run, ↓eIsi_run, ↓eSl_run, ↓ePart_run, ↓eNoPart_run, ↓eChain_run, ↓eIxO_run, ↓eOwnL_run, ↓sNext_run, ↓sSeq_run, ↓sIf_run, ↓sExpr_run, ↓sRet_run, ↓sRetS_run, ↓sRetN_run, ↓sBreak_run, ↓sCont_run, ↓sAsg_run, ↓sSetS_run, ↓sPar_run, ↓sFor_run, ↓sWhile_run, ↓eIt1_run, ↓eIt2_run, ↓eIt3_run, ↓eLc_run, ↓eLc2_run, ↓sNewL_run, ↓sApp_run, ↓sSetIx_run, ↓sRetL_run, ↓sRetNew_run, ↓eCallP_run, ↓eCallE_run, ↓eVal_run, ↓eMake_run, ↓eFld_run, ↓sRaise_run, ↓sRaiseI_run, ↓sTry_run, ↓eIsx_run, ↓sPar3_run, ↓eNewL_run, ↓eNDisp_run, ↓eKDisp_run, ↓eEmptyK_run, ↓eNewN_run, ↓eKM_run, ↓eNGet_run, ↓eKGet_run, ↓eNGetO_run, ↓eCopyN_run, ↓sNPut_run, ↓aStar_run, ↓eRg1_run, ↓eIsi2_run, ↓eCopyL_run, ↓eNVals_run, bind_ok, bind_exc, out_ok, out_exc, lift_some, obind_next, obind_ret, obind_exc, obind_brk, obind_cont, varR_run, slotR_run, asBl_run, allD_nil, allD_cons, asLst_run, asI_run, chR_run, ownK_run, ownKR_run, ownL_run, ownLR_run, someR_run, someO_run, ixI_run, parR_run, gN_run, gsNil_run, gsCons_run, itSeq_lst, itSeq_tup, itEn_lst, itEn_tup, itZ_lst, itZ_tup, wipeR_nil, wipeR_cons, setIxR_run, finP_ret, finP_next, finP_exc, finE_ret, finE_next, finE_exc, callR_ok, callR_err, valR_run, makeR_ok, makeR_exc, opAdd_int, opI_run, opB_run, opMulA_int, opEq_run, opNe_run, opIsN_run, opNotN_run, opIx_tup, opIx_lst, opNeg_run, oLen_tup, oLen_lst, oInt_int, oInt_bl, oTuple_tup, oTuple_lst, oList_tup, oList_lst, oTupleL_run, oListL_run, oLenL_run, isi_int_non, isi_int_bl, isi_int_int, isi_int_str, isi_int_tup, isi_int_lst, isi_bool_non, isi_bool_bl, isi_bool_int, isi_bool_str, isi_bool_tup, isi_bool_lst, isi_tuple_non, isi_tuple_bl, isi_tuple_int, isi_tuple_str, isi_tuple_tup, isi_tuple_lst, isi_str_non, isi_str_bl, isi_str_int, isi_str_str, isi_str_tup, isi_str_lst, isi_list_non, isi_list_bl, isi_list_int, isi_list_str, isi_list_tup, isi_list_lst, atI_0, atI_1, atI_2, atI_3, atI_4, atI_5, atI_6, atI_7, atI_8, ixN_1_0, ixN_2_0, ixN_2_1, ixN_3_0, ixN_3_1, ixN_3_2, ixN_4_0, ixN_4_1, ixN_4_2, ixN_4_3, ixN_5_0, ixN_5_1, ixN_5_2, ixN_5_3, ixN_5_4, eqD_int, eqD_bl, eqD_non_non, isNon_non, isNon_bl, isNon_int, isNon_str, isNon_tup, isNon_lst, Option.map_some, Option.map_none, Option.bind_some, List.getElem?_cons_zero, List.getElem?_cons_succ, List.set_cons_zero, List.set_cons_succ, List.map_cons, List.map_nil, List.length_cons, List.length_nil, List.cons_append, List.nil_append, rho0, List.replicate, List.take_succ_cons, List.take_zero, List.take_nil, List.take_length, and_self, Bool.false_eq_true, Bool.not_true, Bool.not_false, decide_true, decide_false, raiseI_run1, raiseI_run2, tryO_next, tryO_ret, tryH_nil, unbind_next, unbind_ret, eXf_run, par3R_run, newLR_0, newLR_1, kmR_run, kmR2_run, asK_run, asN_run, getRL_run, getKL_run, ngo0_run, ngo1_run, ngoR_run, ownN_run, ownNR_run, npK_run, starR_run, itNItems_run, itNKeys_run, oDictK_run, opIn2_K, opKIx_run, keyK_int, copyLR_lst, copyLR_tup, gT2_run, nValsD_run, Option.getD_some, tup_0, lst_0, tup_1, lst_1, tup_2, lst_2, tup_3, lst_3, tup_4, lst_4, tup_5, lst_5, tup_6, lst_6, tup_7, lst_7, tup_8, lst_8, tup_9, lst_9, tup_10, lst_10, tup_11, lst_11, tup_12, lst_12, new_0, new_1, new_2, new_3, new_4, new_5, ↓reduceIte, Nat.reduceAdd, $xs,*] at $h:ident)
section
variable {s : List Int} {ps : List Plug} {plan : Plan} {g : Plug}
end
end Pk
namespace Pk
open PySem Dl L2
local macro_rules
  | `(tactic| push_cast [$xs,*]) => `(tactic| simp -implicitDefEqProofs only [↓eC_run, ↓eVar_run, ↓eSlot_run, ↓eBin_run, ↓eUn_run, ↓eTest_run, ↓eAndT_run, ↓eOrT_run, ↓eNotT_run, ↓eTrue_run, ↓eAnd_run, ↓eOr_run, ↓eNot_run, ↓eIf_run, ↓aNil_run, ↓aCons_run, ↓aVal_run, ↓eTup_run, ↓eList_run, ↓eLst_run, ↓eCallB_run, ↓eOnL_run, ↓eIsi_run, ↓eSl_run, ↓ePart_run, ↓eNoPart_run, ↓eChain_run, ↓eIxO_run, ↓eOwnL_run, ↓sNext_run, ↓sSeq_run, ↓sIf_run, ↓sExpr_run, ↓sRet_run, ↓sRetS_run, ↓sRetN_run, ↓sBreak_run, ↓sCont_run, ↓sAsg_run, ↓sSetS_run, ↓sPar_run, ↓sFor_run, ↓sWhile_run, ↓eIt1_run, ↓eIt2_run, ↓eIt3_run, ↓eLc_run, ↓eLc2_run, ↓sNewL_run, ↓sApp_run, ↓sSetIx_run, ↓sRetL_run, ↓sRetNew_run, ↓eCallP_run, ↓eCallE_run, ↓eVal_run, ↓eMake_run, ↓eFld_run, ↓sRaise_run, ↓sRaiseI_run, ↓sTry_run, ↓eIsx_run, ↓sPar3_run, ↓eNewL_run, ↓eNDisp_run, ↓eKDisp_run, ↓eEmptyK_run, ↓eNewN_run, ↓eKM_run, ↓eNGet_run, ↓eKGet_run, ↓eNGetO_run, ↓eCopyN_run, ↓sNPut_run, ↓aStar_run, ↓eRg1_run, ↓eIsi2_run, ↓eCopyL_run, ↓eNVals_run, ↓sTryR_run, bind_ok, bind_exc, out_ok, out_exc, lift_some, obind_next, obind_ret, obind_exc, obind_brk, obind_cont, varR_run, slotR_run, asBl_run, allD_nil, allD_cons, asLst_run, asI_run, chR_run, ownK_run, ownKR_run, ownL_run, ownLR_run, someR_run, someO_run, ixI_run, parR_run, gN_run, gsNil_run, gsCons_run, itSeq_lst, itSeq_tup, itEn_lst, itEn_tup, itZ_lst, itZ_tup, wipeR_nil, wipeR_cons, setIxR_run, finP_ret, finP_next, finP_exc, finE_ret, finE_next, finE_exc, callR_ok, callR_err, valR_run, makeR_ok, makeR_exc, opAdd_int, opI_run, opB_run, opMulA_int, opEq_run, opNe_run, opIsN_run, opNotN_run, opIx_tup, opIx_lst, opNeg_run, oLen_tup, oLen_lst, oInt_int, oInt_bl, oTuple_tup, oTuple_lst, oList_tup, oList_lst, oTupleL_run, oListL_run, oLenL_run, isi_int_non, isi_int_bl, isi_int_int, isi_int_str, isi_int_tup, isi_int_lst, isi_bool_non, isi_bool_bl, isi_bool_int, isi_bool_str, isi_bool_tup, isi_bool_lst, isi_tuple_non, isi_tuple_bl, isi_tuple_int, isi_tuple_str, isi_tuple_tup, isi_tuple_lst, isi_str_non, isi_str_bl, isi_str_int, isi_str_str, isi_str_tup, isi_str_lst, isi_list_non, isi_list_bl, isi_list_int, isi_list_str, isi_list_tup, isi_list_lst, atI_0, atI_1, atI_2, atI_3, atI_4, atI_5, atI_6, atI_7, atI_8, ixN_1_0, ixN_2_0, ixN_2_1, ixN_3_0, ixN_3_1, ixN_3_2, ixN_4_0, ixN_4_1, ixN_4_2, ixN_4_3, ixN_5_0, ixN_5_1, ixN_5_2, ixN_5_3, ixN_5_4, eqD_int, eqD_bl, eqD_non_non, isNon_non, isNon_bl, isNon_int, isNon_str, isNon_tup, isNon_lst, Option.map_some, Option.map_none, Option.bind_some, List.getElem?_cons_zero, List.getElem?_cons_succ, List.set_cons_zero, List.set_cons_succ, List.map_cons, List.map_nil, List.length_cons, List.length_nil, List.cons_append, List.nil_append, rho0, List.replicate, List.take_succ_cons, List.take_zero, List.take_nil, List.take_length, and_self, Bool.false_eq_true, Bool.not_true, Bool.not_false, decide_true, decide_false, raiseI_run1, raiseI_run2, tryO_next, tryO_ret, tryH_nil, unbind_next, unbind_ret, eXf_run, par3R_run, newLR_0, newLR_1, kmR_run, kmR2_run, asK_run, asN_run, getRL_run, getKL_run, ngo0_run, ngo1_run, ngoR_run, ownN_run, ownNR_run, npK_run, starR_run, itNItems_run, itNKeys_run, oDictK_run, opIn2_K, opKIx_run, keyK_int, copyLR_lst, copyLR_tup, gT2_run, nValsD_run, Option.getD_some, tup_0, lst_0, tup_1, lst_1, tup_2, lst_2, tup_3, lst_3, tup_4, lst_4, tup_5, lst_5, tup_6, lst_6, tup_7, lst_7, tup_8, lst_8, tup_9, lst_9, tup_10, lst_10, tup_11, lst_11, tup_12, lst_12, new_0, new_1, new_2, new_3, new_4, new_5, ↓reduceIte, Nat.reduceAdd, $xs,*])
  | `(tactic| push_cast [$xs,*] at $h:ident) => `(tactic| simp -implicitDefEqProofs only [↓eC_run, ↓eVar_run, ↓eSlot_run, ↓eBin_run, ↓eUn_run, ↓eTest_run, ↓eAndT_run, ↓eOrT_run, ↓eNotT_run, ↓eTrue_run, ↓eAnd_run, ↓eOr_run, ↓eNot_run, ↓eIf_run, ↓aNil_run, ↓aCons_run, ↓aVal_run, ↓eTup_run, ↓eList_run, ↓eLst_run, ↓eCallB_run, ↓eOnL_run, ↓eIsi_run, ↓eSl_run, ↓ePart_run, ↓eNoPart_run, ↓eChain_run, ↓eIxO_run, ↓eOwnL_run, ↓sNext_run, ↓sSeq_run, ↓sIf_run, ↓sExpr_run, ↓sRet_run, ↓sRetS_run, ↓sRetN_run, ↓sBreak_run, ↓sCont_run, ↓sAsg_run, ↓sSetS_run, ↓sPar_run, ↓sFor_run, ↓sWhile_run, ↓eIt1_run, ↓eIt2_run, ↓eIt3_run, ↓eLc_run, ↓eLc2_run, ↓sNewL_run, ↓sApp_run, ↓sSetIx_run, ↓sRetL_run, ↓sRetNew_run, ↓eCallP_run, ↓eCallE_run, ↓eVal_run, ↓eMake_run, ↓eFld_run, ↓sRaise_run, ↓sRaiseI_run, ↓sTry_run, ↓eIsx_run, ↓sPar3_run, ↓eNewL_run, ↓eNDisp_run, ↓eKDisp_run, ↓eEmptyK_run, ↓eNewN_run, ↓eKM_run, ↓eNGet_run, ↓eKGet_run, ↓eNGetO_run, ↓eCopyN_run, ↓sNPut_run, ↓aStar_run, ↓eRg1_run, ↓eIsi2_run, ↓eCopyL_run, ↓eNVals_run, ↓sTryR_run, bind_ok, bind_exc, out_ok, out_exc, lift_some, obind_next, obind_ret, obind_exc, obind_brk, obind_cont, varR_run, slotR_run, asBl_run, allD_nil, allD_cons, asLst_run, asI_run, chR_run, ownK_run, ownKR_run, ownL_run, ownLR_run, someR_run, someO_run, ixI_run, parR_run, gN_run, gsNil_run, gsCons_run, itSeq_lst, itSeq_tup, itEn_lst, itEn_tup, itZ_lst, itZ_tup, wipeR_nil, wipeR_cons, setIxR_run, finP_ret, finP_next, finP_exc, finE_ret, finE_next, finE_exc, callR_ok, callR_err, valR_run, makeR_ok, makeR_exc, opAdd_int, opI_run, opB_run, opMulA_int, opEq_run, opNe_run, opIsN_run, opNotN_run, opIx_tup, opIx_lst, opNeg_run, oLen_tup, oLen_lst, oInt_int, oInt_bl, oTuple_tup, oTuple_lst, oList_tup, oList_lst, oTupleL_run, oListL_run, oLenL_run, isi_int_non, isi_int_bl, isi_int_int, isi_int_str, isi_int_tup, isi_int_lst, isi_bool_non, isi_bool_bl, isi_bool_int, isi_bool_str, isi_bool_tup, isi_bool_lst, isi_tuple_non, isi_tuple_bl, isi_tuple_int, isi_tuple_str, isi_tuple_tup, isi_tuple_lst, isi_str_non, isi_str_bl, isi_str_int, isi_str_str, isi_str_tup, isi_str_lst, isi_list_non, isi_list_bl, isi_list_int, isi_list_str, isi_list_tup, isi_list_lst, atI_0, atI_1, atI_2, atI_3, atI_4, atI_5, atI_6, atI_7, atI_8, ixN_1_0, ixN_2_0, ixN_2_1, ixN_3_0, ixN_3_1, ixN_3_2, ixN_4_0, ixN_4_1, ixN_4_2, ixN_4_3, ixN_5_0, ixN_5_1, ixN_5_2, ixN_5_3, ixN_5_4, eqD_int, eqD_bl, eqD_non_non, isNon_non, isNon_bl, isNon_int, isNon_str, isNon_tup, isNon_lst, Option.map_some, Option.map_none, Option.bind_some, List.getElem?_cons_zero, List.getElem?_cons_succ, List.set_cons_zero, List.set_cons_succ, List.map_cons, List.map_nil, List.length_cons, List.length_nil, List.cons_append, List.nil_append, rho0, List.replicate, List.take_succ_cons, List.take_zero, List.take_nil, List.take_length, and_self, Bool.false_eq_true, Bool.not_true, Bool.not_false, decide_true, decide_false, raiseI_run1, raiseI_run2, tryO_next, tryO_ret, tryH_nil, unbind_next, unbind_ret, eXf_run, par3R_run, newLR_0, newLR_1, kmR_run, kmR2_run, asK_run, asN_run, getRL_run, getKL_run, ngo0_run, ngo1_run, ngoR_run, ownN_run, ownNR_run, npK_run, starR_run, itNItems_run, itNKeys_run, oDictK_run, opIn2_K, opKIx_run, keyK_int, copyLR_lst, copyLR_tup, gT2_run, nValsD_run, Option.getD_some, tup_0, lst_0, tup_1, lst_1, tup_2, lst_2, tup_3, lst_3, tup_4, lst_4, tup_5, lst_5, tup_6, lst_6, tup_7, lst_7, tup_8, lst_8, tup_9, lst_9, tup_10, lst_10, tup_11, lst_11, tup_12, lst_12, new_0, new_1, new_2, new_3, new_4, new_5, ↓reduceIte, Nat.reduceAdd, $xs,*] at $h:ident)
structure LotOk (ps : List Plug) : Prop where
  ok : ∀ p ∈ ps, PlugOk p
  ne : ps ≠ []
  len : ps.length ≤ 3
abbrev sI (r : List Nat) : List Int := r.map fun n : Nat => (n : Int)
section
variable {LS : List (List Plug)} {w k : Nat} {r : List Nat}
end
end Pk
namespace Pk
open PySem Dl L2
local macro_rules
  | `(tactic| push_cast [$xs,*]) => `(tactic| simp -implicitDefEqProofs only [↓eC_run, ↓eVar_run, ↓eSlot_run, ↓eBin_run, ↓eUn_run, ↓eTest_run, ↓eAndT_run, ↓eOrT_run, ↓eNotT_run, ↓eTrue_run, ↓eAnd_run, ↓eOr_run, ↓eNot_run, ↓eIf_run, ↓aNil_run, ↓aCons_run, ↓aVal_run, ↓eTup_run, ↓eList_run, ↓eLst_run, ↓eCallB_run, ↓eOnL_run, ↓eIsi_run, ↓eSl_run, ↓ePart_run, ↓eNoPart_run, ↓eChain_run, ↓eIxO_run, ↓eOwnL_run, ↓sNext_run, ↓sSeq_run, ↓sIf_run, ↓sExpr_run, ↓sRet_run, ↓sRetS_run, ↓sRetN_run, ↓sBreak_run, ↓sCont_run, ↓sAsg_run, ↓sSetS_run, ↓sPar_run, ↓sFor_run, ↓sWhile_run, ↓eIt1_run, ↓eIt2_run, ↓eIt3_run, ↓eLc_run, ↓eLc2_run, ↓sNewL_run, ↓sApp_run, ↓sSetIx_run, ↓sRetL_run, ↓sRetNew_run, ↓eCallP_run, ↓eCallE_run, ↓eVal_run, ↓eMake_run, ↓eFld_run, ↓sRaise_run, ↓sRaiseI_run, ↓sTry_run, ↓eIsx_run, ↓sPar3_run, ↓eNewL_run, ↓eNDisp_run, ↓eKDisp_run, ↓eEmptyK_run, ↓eNewN_run, ↓eKM_run, ↓eNGet_run, ↓eKGet_run, ↓eNGetO_run, ↓eCopyN_run, ↓sNPut_run, ↓aStar_run, ↓eRg1_run, ↓eIsi2_run, ↓eCopyL_run, ↓eNVals_run, bind_ok, bind_exc, out_ok, out_exc, lift_some, obind_next, obind_ret, obind_exc, obind_brk, obind_cont, varR_run, slotR_run, asBl_run, allD_nil, allD_cons, asLst_run, asI_run, chR_run, ownK_run, ownKR_run, ownL_run, ownLR_run, someR_run, someO_run, ixI_run, parR_run, gN_run, gsNil_run, gsCons_run, itSeq_lst, itSeq_tup, itEn_lst, itEn_tup, itZ_lst, itZ_tup, wipeR_nil, wipeR_cons, setIxR_run, finP_ret, finP_next, finP_exc, finE_ret, finE_next, finE_exc, callR_ok, callR_err, valR_run, makeR_ok, makeR_exc, opAdd_int, opI_run, opB_run, opMulA_int, opEq_run, opNe_run, opIsN_run, opNotN_run, opIx_tup, opIx_lst, opNeg_run, oLen_tup, oLen_lst, oInt_int, oInt_bl, oTuple_tup, oTuple_lst, oList_tup, oList_lst, oTupleL_run, oListL_run, oLenL_run, isi_int_non, isi_int_bl, isi_int_int, isi_int_str, isi_int_tup, isi_int_lst, isi_bool_non, isi_bool_bl, isi_bool_int, isi_bool_str, isi_bool_tup, isi_bool_lst, isi_tuple_non, isi_tuple_bl, isi_tuple_int, isi_tuple_str, isi_tuple_tup, isi_tuple_lst, isi_str_non, isi_str_bl, isi_str_int, isi_str_str, isi_str_tup, isi_str_lst, isi_list_non, isi_list_bl, isi_list_int, isi_list_str, isi_list_tup, isi_list_lst, atI_0, atI_1, atI_2, atI_3, atI_4, atI_5, atI_6, atI_7, atI_8, ixN_1_0, ixN_2_0, ixN_2_1, ixN_3_0, ixN_3_1, ixN_3_2, ixN_4_0, ixN_4_1, ixN_4_2, ixN_4_3, ixN_5_0, ixN_5_1, ixN_5_2, ixN_5_3, ixN_5_4, eqD_int, eqD_bl, eqD_non_non, isNon_non, isNon_bl, isNon_int, isNon_str, isNon_tup, isNon_lst, Option.map_some, Option.map_none, Option.bind_some, List.getElem?_cons_zero, List.getElem?_cons_succ, List.set_cons_zero, List.set_cons_succ, List.map_cons, List.map_nil, List.length_cons, List.length_nil, List.cons_append, List.nil_append, rho0, List.replicate, List.take_succ_cons, List.take_zero, List.take_nil, List.take_length, and_self, Bool.false_eq_true, Bool.not_true, Bool.not_false, decide_true, decide_false, raiseI_run1, raiseI_run2, tryO_next, tryO_ret, tryH_nil, unbind_next, unbind_ret, eXf_run, par3R_run, newLR_0, newLR_1, kmR_run, kmR2_run, asK_run, asN_run, getRL_run, getKL_run, ngo0_run, ngo1_run, ngoR_run, ownN_run, ownNR_run, npK_run, starR_run, itNItems_run, itNKeys_run, oDictK_run, opIn2_K, opKIx_run, keyK_int, copyLR_lst, copyLR_tup, gT2_run, nValsD_run, Option.getD_some, tup_0, lst_0, tup_1, lst_1, tup_2, lst_2, tup_3, lst_3, tup_4, lst_4, tup_5, lst_5, tup_6, lst_6, tup_7, lst_7, tup_8, lst_8, tup_9, lst_9, tup_10, lst_10, tup_11, lst_11, tup_12, lst_12, new_0, new_1, new_2, new_3, new_4, new_5, ↓reduceIte, Nat.reduceAdd, $xs,*])
  | `(tactic| push_cast [$xs,*] at $h:ident) => `(tactic| simp -implicitDefEqProofs only [↓eC_run, ↓eVar_run, ↓eSlot_run, ↓eBin_run, ↓eUn_run, ↓eTest_run, ↓eAndT_run, ↓eOrT_run, ↓eNotT_run, ↓eTrue_run, ↓eAnd_run, ↓eOr_run, ↓eNot_run, ↓eIf_run, ↓aNil_run, ↓aCons_run, ↓aVal_run, ↓eTup_run, ↓eList_run, ↓eLst_run, ↓eCallB_run, ↓eOnL_run, ↓eIsi_run, ↓eSl_run, ↓ePart_run, ↓eNoPart_run, ↓eChain_run, ↓eIxO_run, ↓eOwnL_run, ↓sNext_run, ↓sSeq_run, ↓sIf_run, ↓sExpr_run, ↓sRet_run, ↓sRetS_run, ↓sRetN_run, ↓sBreak_run, ↓sCont_run, ↓sAsg_run, ↓sSetS_run, ↓sPar_run, ↓sFor_run, ↓sWhile_run, ↓eIt1_run, ↓eIt2_run, ↓eIt3_run, ↓eLc_run, ↓eLc2_run, ↓sNewL_run, ↓sApp_run, ↓sSetIx_run, ↓sRetL_run, ↓sRetNew_run, ↓eCallP_run, ↓eCallE_run, ↓eVal_run, ↓eMake_run, ↓eFld_run, ↓sRaise_run, ↓sRaiseI_run, ↓sTry_run, ↓eIsx_run, ↓sPar3_run, ↓eNewL_run, ↓eNDisp_run, ↓eKDisp_run, ↓eEmptyK_run, ↓eNewN_run, ↓eKM_run, ↓eNGet_run, ↓eKGet_run, ↓eNGetO_run, ↓eCopyN_run, ↓sNPut_run, ↓aStar_run, ↓eRg1_run, ↓eIsi2_run, ↓eCopyL_run, ↓eNVals_run, bind_ok, bind_exc, out_ok, out_exc, lift_some, obind_next, obind_ret, obind_exc, obind_brk, obind_cont, varR_run, slotR_run, asBl_run, allD_nil, allD_cons, asLst_run, asI_run, chR_run, ownK_run, ownKR_run, ownL_run, ownLR_run, someR_run, someO_run, ixI_run, parR_run, gN_run, gsNil_run, gsCons_run, itSeq_lst, itSeq_tup, itEn_lst, itEn_tup, itZ_lst, itZ_tup, wipeR_nil, wipeR_cons, setIxR_run, finP_ret, finP_next, finP_exc, finE_ret, finE_next, finE_exc, callR_ok, callR_err, valR_run, makeR_ok, makeR_exc, opAdd_int, opI_run, opB_run, opMulA_int, opEq_run, opNe_run, opIsN_run, opNotN_run, opIx_tup, opIx_lst, opNeg_run, oLen_tup, oLen_lst, oInt_int, oInt_bl, oTuple_tup, oTuple_lst, oList_tup, oList_lst, oTupleL_run, oListL_run, oLenL_run, isi_int_non, isi_int_bl, isi_int_int, isi_int_str, isi_int_tup, isi_int_lst, isi_bool_non, isi_bool_bl, isi_bool_int, isi_bool_str, isi_bool_tup, isi_bool_lst, isi_tuple_non, isi_tuple_bl, isi_tuple_int, isi_tuple_str, isi_tuple_tup, isi_tuple_lst, isi_str_non, isi_str_bl, isi_str_int, isi_str_str, isi_str_tup, isi_str_lst, isi_list_non, isi_list_bl, isi_list_int, isi_list_str, isi_list_tup, isi_list_lst, atI_0, atI_1, atI_2, atI_3, atI_4, atI_5, atI_6, atI_7, atI_8, ixN_1_0, ixN_2_0, ixN_2_1, ixN_3_0, ixN_3_1, ixN_3_2, ixN_4_0, ixN_4_1, ixN_4_2, ixN_4_3, ixN_5_0, ixN_5_1, ixN_5_2, ixN_5_3, ixN_5_4, eqD_int, eqD_bl, eqD_non_non, isNon_non, isNon_bl, isNon_int, isNon_str, isNon_tup, isNon_lst, Option.map_some, Option.map_none, Option.bind_some, List.getElem?_cons_zero, List.getElem?_cons_succ, List.set_cons_zero, List.set_cons_succ, List.map_cons, List.map_nil, List.length_cons, List.length_nil, List.cons_append, List.nil_append, rho0, List.replicate, List.take_succ_cons, List.take_zero, List.take_nil, List.take_length, and_self, Bool.false_eq_true, Bool.not_true, Bool.not_false, decide_true, decide_false, raiseI_run1, raiseI_run2, tryO_next, tryO_ret, tryH_nil, unbind_next, unbind_ret, eXf_run, par3R_run, newLR_0, newLR_1, kmR_run, kmR2_run, asK_run, asN_run, getRL_run, getKL_run, ngo0_run, ngo1_run, ngoR_run, ownN_run, ownNR_run, npK_run, starR_run, itNItems_run, itNKeys_run, oDictK_run, opIn2_K, opKIx_run, keyK_int, copyLR_lst, copyLR_tup, gT2_run, nValsD_run, Option.getD_some, tup_0, lst_0, tup_1, lst_1, tup_2, lst_2, tup_3, lst_3, tup_4, lst_4, tup_5, lst_5, tup_6, lst_6, tup_7, lst_7, tup_8, lst_8, tup_9, lst_9, tup_10, lst_10, tup_11, lst_11, tup_12, lst_12, new_0, new_1, new_2, new_3, new_4, new_5, ↓reduceIte, Nat.reduceAdd, $xs,*] at $h:ident)
theorem plug_beq (r : Int) : eqD (.int r) (.int 0) = some (r == 0) := eqD_int r 0
abbrev smR (most : Int) (ps : List Plug) (x3 : Option SV) : Rho := [some (SV.own 0), some (SV.val (.int most)), some (SV.val (plugsD ps)), x3]
theorem small {ns : List Int} {rest ω : Om} {most : Int} (h : IsRow ns rest ω) (hm : 0 < most) (hm' : most ≤ 3) : ∃ ps ω', IsRow ns rest ω' ∧ LotOk ps ∧ (ps.length : Int) ≤ most ∧ F__law_small [.own 0, .val (.int most)] ω = .ok (.val (plugsD ps)) ω' := by
  obtain ⟨r, ω1, w1, a1, b1, e1⟩ := pick (m := most) h hm (by omega)
  have i1 : itR1 (.int (1 + r)) = some (rngD 0 (1 + r)) := itR1_run (by omega) (by omega)
  obtain ⟨ρ', ω', e, hi, ps, x3, rfl, w, hp, hl⟩ := forL_all (tg := gN 3) (b := bd__law_small_1) (ds := rngD 0 (1 + r)) (ω := ω1) (ρ := smR most [] none)
    (fun i ρ ω => i ≤ (1 + r).toNat ∧ ∃ ps x3, ρ = smR most ps x3 ∧ IsRow ns rest ω ∧ (∀ p ∈ ps, PlugOk p) ∧ ps.length = i)
    ⟨by omega, [], none, rfl, w1, (fun p hp => by cases hp), rfl⟩ (by
    rintro i d ρ ω' hd ⟨hi, ps, x3, rfl, w, hp, hl⟩
    obtain ⟨rfl, hlt⟩ := rngD_get hd
    obtain ⟨r2, ω2, w2, a2, b2, e2⟩ := pick (m := 7) w (by decide) (by decide)
    obtain ⟨r3, ω3, w3, a3, b3, e3⟩ := pick (m := 7) w2 (by decide) (by decide)
    obtain ⟨r4, ω4, w4, a4, b4, e4⟩ := pick (m := 2) w3 (by decide) (by decide)
    have hlen : (ps.map encP).length + 1 ≤ lim := by rw [List.length_map]; show _ ≤ 16777216; omega
    have ap : opAdd (.tup (ps.map encP)) (.tup [.tup [.int r2, .int r3, .bl (r4 == 0)]]) = some (.tup ((ps ++ [(r2, r3, r4 == 0)]).map encP)) := by
      rw [opAdd_tup (by simpa using hlen), List.map_append]; rfl
    refine ⟨_, _, ω4, rfl, ?_, by omega, ps ++ [(r2, r3, r4 == 0)], some (SV.val (D.int (0 + i))), rfl, w4, fun p hp' => ?_, by rw [List.length_append, hl]; rfl⟩
    · unfold bd__law_small_1
      have pd : ∀ l : List Plug, plugsD l = .tup (l.map encP) := fun _ => rfl
      generalize hT : (ps ++ [(r2, r3, r4 == 0)]).map encP = T at ap
      generalize hS : ps.map encP = S at ap
      push_cast [smR, e2, e3, e4, plug_beq, pd, hS, hT, ap]
    · rcases List.mem_append.mp hp' with hp' | hp'
      · exact hp p hp'
      · rw [List.mem_singleton] at hp'
        subst hp'
        exact ⟨a2, by show r2 ≤ 60; omega, a3, by show r3 ≤ 60; omega⟩)
  rw [rngD_len] at hl
  refine ⟨ps, ω', w, ⟨hp, fun z => by rw [z] at hl; simp at hl; omega, by omega⟩, by omega, ?_⟩
  have e0 : D.tup [] = plugsD [] := rfl
  unfold F__law_small
  rw [fnE_run (by rfl)]
  unfold f__law_small
  simp only [smR] at e
  generalize hP : plugsD ps = P at e
  generalize hQ : plugsD [] = Q at e e0
  push_cast [e1, i1, e0, e, row_take h w]
end Pk
namespace Pk
open PySem Dl L2
local macro_rules
  | `(tactic| push_cast [$xs,*]) => `(tactic| simp -implicitDefEqProofs only [↓eC_run, ↓eVar_run, ↓eSlot_run, ↓eBin_run, ↓eUn_run, ↓eTest_run, ↓eAndT_run, ↓eOrT_run, ↓eNotT_run, ↓eTrue_run, ↓eAnd_run, ↓eOr_run, ↓eNot_run, ↓eIf_run, ↓aNil_run, ↓aCons_run, ↓aVal_run, ↓eTup_run, ↓eList_run, ↓eLst_run, ↓eCallB_run, ↓eOnL_run, ↓eIsi_run, ↓eSl_run, ↓ePart_run, ↓eNoPart_run, ↓eChain_run, ↓eIxO_run, ↓eOwnL_run, ↓sNext_run, ↓sSeq_run, ↓sIf_run, ↓sExpr_run, ↓sRet_run, ↓sRetS_run, ↓sRetN_run, ↓sBreak_run, ↓sCont_run, ↓sAsg_run, ↓sSetS_run, ↓sPar_run, ↓sFor_run, ↓sWhile_run, ↓eIt1_run, ↓eIt2_run, ↓eIt3_run, ↓eLc_run, ↓eLc2_run, ↓sNewL_run, ↓sApp_run, ↓sSetIx_run, ↓sRetL_run, ↓sRetNew_run, ↓eCallP_run, ↓eCallE_run, ↓eVal_run, ↓eMake_run, ↓eFld_run, ↓sRaise_run, ↓sRaiseI_run, ↓sTry_run, ↓eIsx_run, ↓sPar3_run, ↓eNewL_run, ↓eNDisp_run, ↓eKDisp_run, ↓eEmptyK_run, ↓eNewN_run, ↓eKM_run, ↓eNGet_run, ↓eKGet_run, ↓eNGetO_run, ↓eCopyN_run, ↓sNPut_run, ↓aStar_run, ↓eRg1_run, ↓eIsi2_run, ↓eCopyL_run, ↓eNVals_run, ↓eSortSet_run, bind_ok, bind_exc, out_ok, out_exc, lift_some, obind_next, obind_ret, obind_exc, obind_brk, obind_cont, varR_run, slotR_run, asBl_run, allD_nil, allD_cons, asLst_run, asI_run, chR_run, ownK_run, ownKR_run, ownL_run, ownLR_run, someR_run, someO_run, ixI_run, parR_run, gN_run, gsNil_run, gsCons_run, itSeq_lst, itSeq_tup, itEn_lst, itEn_tup, itZ_lst, itZ_tup, wipeR_nil, wipeR_cons, setIxR_run, finP_ret, finP_next, finP_exc, finE_ret, finE_next, finE_exc, callR_ok, callR_err, valR_run, makeR_ok, makeR_exc, opAdd_int, opI_run, opB_run, opMulA_int, opEq_run, opNe_run, opIsN_run, opNotN_run, opIx_tup, opIx_lst, opNeg_run, oLen_tup, oLen_lst, oInt_int, oInt_bl, oTuple_tup, oTuple_lst, oList_tup, oList_lst, oTupleL_run, oListL_run, oLenL_run, isi_int_non, isi_int_bl, isi_int_int, isi_int_str, isi_int_tup, isi_int_lst, isi_bool_non, isi_bool_bl, isi_bool_int, isi_bool_str, isi_bool_tup, isi_bool_lst, isi_tuple_non, isi_tuple_bl, isi_tuple_int, isi_tuple_str, isi_tuple_tup, isi_tuple_lst, isi_str_non, isi_str_bl, isi_str_int, isi_str_str, isi_str_tup, isi_str_lst, isi_list_non, isi_list_bl, isi_list_int, isi_list_str, isi_list_tup, isi_list_lst, atI_0, atI_1, atI_2, atI_3, atI_4, atI_5, atI_6, atI_7, atI_8, ixN_1_0, ixN_2_0, ixN_2_1, ixN_3_0, ixN_3_1, ixN_3_2, ixN_4_0, ixN_4_1, ixN_4_2, ixN_4_3, ixN_5_0, ixN_5_1, ixN_5_2, ixN_5_3, ixN_5_4, eqD_int, eqD_bl, eqD_non_non, isNon_non, isNon_bl, isNon_int, isNon_str, isNon_tup, isNon_lst, Option.map_some, Option.map_none, Option.bind_some, List.getElem?_cons_zero, List.getElem?_cons_succ, List.set_cons_zero, List.set_cons_succ, List.map_cons, List.map_nil, List.length_cons, List.length_nil, List.cons_append, List.nil_append, rho0, List.replicate, List.take_succ_cons, List.take_zero, List.take_nil, List.take_length, and_self, Bool.false_eq_true, Bool.not_true, Bool.not_false, decide_true, decide_false, raiseI_run1, raiseI_run2, tryO_next, tryO_ret, tryH_nil, unbind_next, unbind_ret, eXf_run, par3R_run, newLR_0, newLR_1, kmR_run, kmR2_run, asK_run, asN_run, getRL_run, getKL_run, ngo0_run, ngo1_run, ngoR_run, ownN_run, ownNR_run, npK_run, starR_run, itNItems_run, itNKeys_run, oDictK_run, opIn2_K, opKIx_run, keyK_int, copyLR_lst, copyLR_tup, gT2_run, nValsD_run, Option.getD_some, tup_0, lst_0, tup_1, lst_1, tup_2, lst_2, tup_3, lst_3, tup_4, lst_4, tup_5, lst_5, tup_6, lst_6, tup_7, lst_7, tup_8, lst_8, tup_9, lst_9, tup_10, lst_10, tup_11, lst_11, tup_12, lst_12, new_0, new_1, new_2, new_3, new_4, new_5, ↓reduceIte, Nat.reduceAdd, $xs,*])
  | `(tactic| push_cast [$xs,*] at $h:ident) => `(tactic| simp -implicitDefEqProofs only [↓eC_run, ↓eVar_run, ↓eSlot_run, ↓eBin_run, ↓eUn_run, ↓eTest_run, ↓eAndT_run, ↓eOrT_run, ↓eNotT_run, ↓eTrue_run, ↓eAnd_run, ↓eOr_run, ↓eNot_run, ↓eIf_run, ↓aNil_run, ↓aCons_run, ↓aVal_run, ↓eTup_run, ↓eList_run, ↓eLst_run, ↓eCallB_run, ↓eOnL_run, ↓eIsi_run, ↓eSl_run, ↓ePart_run, ↓eNoPart_run, ↓eChain_run, ↓eIxO_run, ↓eOwnL_run, ↓sNext_run, ↓sSeq_run, ↓sIf_run, ↓sExpr_run, ↓sRet_run, ↓sRetS_run, ↓sRetN_run, ↓sBreak_run, ↓sCont_run, ↓sAsg_run, ↓sSetS_run, ↓sPar_run, ↓sFor_run, ↓sWhile_run, ↓eIt1_run, ↓eIt2_run, ↓eIt3_run, ↓eLc_run, ↓eLc2_run, ↓sNewL_run, ↓sApp_run, ↓sSetIx_run, ↓sRetL_run, ↓sRetNew_run, ↓eCallP_run, ↓eCallE_run, ↓eVal_run, ↓eMake_run, ↓eFld_run, ↓sRaise_run, ↓sRaiseI_run, ↓sTry_run, ↓eIsx_run, ↓sPar3_run, ↓eNewL_run, ↓eNDisp_run, ↓eKDisp_run, ↓eEmptyK_run, ↓eNewN_run, ↓eKM_run, ↓eNGet_run, ↓eKGet_run, ↓eNGetO_run, ↓eCopyN_run, ↓sNPut_run, ↓aStar_run, ↓eRg1_run, ↓eIsi2_run, ↓eCopyL_run, ↓eNVals_run, ↓eSortSet_run, bind_ok, bind_exc, out_ok, out_exc, lift_some, obind_next, obind_ret, obind_exc, obind_brk, obind_cont, varR_run, slotR_run, asBl_run, allD_nil, allD_cons, asLst_run, asI_run, chR_run, ownK_run, ownKR_run, ownL_run, ownLR_run, someR_run, someO_run, ixI_run, parR_run, gN_run, gsNil_run, gsCons_run, itSeq_lst, itSeq_tup, itEn_lst, itEn_tup, itZ_lst, itZ_tup, wipeR_nil, wipeR_cons, setIxR_run, finP_ret, finP_next, finP_exc, finE_ret, finE_next, finE_exc, callR_ok, callR_err, valR_run, makeR_ok, makeR_exc, opAdd_int, opI_run, opB_run, opMulA_int, opEq_run, opNe_run, opIsN_run, opNotN_run, opIx_tup, opIx_lst, opNeg_run, oLen_tup, oLen_lst, oInt_int, oInt_bl, oTuple_tup, oTuple_lst, oList_tup, oList_lst, oTupleL_run, oListL_run, oLenL_run, isi_int_non, isi_int_bl, isi_int_int, isi_int_str, isi_int_tup, isi_int_lst, isi_bool_non, isi_bool_bl, isi_bool_int, isi_bool_str, isi_bool_tup, isi_bool_lst, isi_tuple_non, isi_tuple_bl, isi_tuple_int, isi_tuple_str, isi_tuple_tup, isi_tuple_lst, isi_str_non, isi_str_bl, isi_str_int, isi_str_str, isi_str_tup, isi_str_lst, isi_list_non, isi_list_bl, isi_list_int, isi_list_str, isi_list_tup, isi_list_lst, atI_0, atI_1, atI_2, atI_3, atI_4, atI_5, atI_6, atI_7, atI_8, ixN_1_0, ixN_2_0, ixN_2_1, ixN_3_0, ixN_3_1, ixN_3_2, ixN_4_0, ixN_4_1, ixN_4_2, ixN_4_3, ixN_5_0, ixN_5_1, ixN_5_2, ixN_5_3, ixN_5_4, eqD_int, eqD_bl, eqD_non_non, isNon_non, isNon_bl, isNon_int, isNon_str, isNon_tup, isNon_lst, Option.map_some, Option.map_none, Option.bind_some, List.getElem?_cons_zero, List.getElem?_cons_succ, List.set_cons_zero, List.set_cons_succ, List.map_cons, List.map_nil, List.length_cons, List.length_nil, List.cons_append, List.nil_append, rho0, List.replicate, List.take_succ_cons, List.take_zero, List.take_nil, List.take_length, and_self, Bool.false_eq_true, Bool.not_true, Bool.not_false, decide_true, decide_false, raiseI_run1, raiseI_run2, tryO_next, tryO_ret, tryH_nil, unbind_next, unbind_ret, eXf_run, par3R_run, newLR_0, newLR_1, kmR_run, kmR2_run, asK_run, asN_run, getRL_run, getKL_run, ngo0_run, ngo1_run, ngoR_run, ownN_run, ownNR_run, npK_run, starR_run, itNItems_run, itNKeys_run, oDictK_run, opIn2_K, opKIx_run, keyK_int, copyLR_lst, copyLR_tup, gT2_run, nValsD_run, Option.getD_some, tup_0, lst_0, tup_1, lst_1, tup_2, lst_2, tup_3, lst_3, tup_4, lst_4, tup_5, lst_5, tup_6, lst_6, tup_7, lst_7, tup_8, lst_8, tup_9, lst_9, tup_10, lst_10, tup_11, lst_11, tup_12, lst_12, new_0, new_1, new_2, new_3, new_4, new_5, ↓reduceIte, Nat.reduceAdd, $xs,*] at $h:ident)
end Pk
namespace Pk
open PySem Dl L2
local macro_rules
  | `(tactic| push_cast [$xs,*]) => `(tactic| simp -implicitDefEqProofs only [↓eC_run, ↓eVar_run, ↓eSlot_run, ↓eBin_run, ↓eUn_run, ↓eTest_run, ↓eAndT_run, ↓eOrT_run, ↓eNotT_run, ↓eTrue_run, ↓eAnd_run, ↓eOr_run, ↓eNot_run, ↓eIf_run, ↓aNil_run, ↓aCons_run, ↓aVal_run, ↓eTup_run, ↓eList_run, ↓eLst_run, ↓eCallB_run, ↓eOnL_run, ↓eIsi_run, ↓eSl_run, ↓ePart_run, ↓eNoPart_run, ↓eChain_run, ↓eIxO_run, ↓eOwnL_run, ↓sNext_run, ↓sSeq_run, ↓sIf_run, ↓sExpr_run, ↓sRet_run, ↓sRetS_run, ↓sRetN_run, ↓sBreak_run, ↓sCont_run, ↓sAsg_run, ↓sSetS_run, ↓sPar_run, ↓sFor_run, ↓sWhile_run, ↓eIt1_run, ↓eIt2_run, ↓eIt3_run, ↓eLc_run, ↓eLc2_run, ↓sNewL_run, ↓sApp_run, ↓sSetIx_run, ↓sRetL_run, ↓sRetNew_run, ↓eCallP_run, ↓eCallE_run, ↓eVal_run, ↓eMake_run, ↓eFld_run, ↓sRaise_run, ↓sRaiseI_run, ↓sTry_run, ↓eIsx_run, ↓sPar3_run, ↓eNewL_run, ↓eNDisp_run, ↓eKDisp_run, ↓eEmptyK_run, ↓eNewN_run, ↓eKM_run, ↓eNGet_run, ↓eKGet_run, ↓eNGetO_run, ↓eCopyN_run, ↓sNPut_run, ↓aStar_run, ↓eRg1_run, ↓eIsi2_run, ↓eCopyL_run, ↓eNVals_run, bind_ok, bind_exc, out_ok, out_exc, lift_some, obind_next, obind_ret, obind_exc, obind_brk, obind_cont, varR_run, slotR_run, asBl_run, allD_nil, allD_cons, asLst_run, asI_run, chR_run, ownK_run, ownKR_run, ownL_run, ownLR_run, someR_run, someO_run, ixI_run, parR_run, gN_run, gsNil_run, gsCons_run, itSeq_lst, itSeq_tup, itEn_lst, itEn_tup, itZ_lst, itZ_tup, wipeR_nil, wipeR_cons, setIxR_run, finP_ret, finP_next, finP_exc, finE_ret, finE_next, finE_exc, callR_ok, callR_err, valR_run, makeR_ok, makeR_exc, opAdd_int, opI_run, opB_run, opMulA_int, opEq_run, opNe_run, opIsN_run, opNotN_run, opIx_tup, opIx_lst, opNeg_run, oLen_tup, oLen_lst, oInt_int, oInt_bl, oTuple_tup, oTuple_lst, oList_tup, oList_lst, oTupleL_run, oListL_run, oLenL_run, isi_int_non, isi_int_bl, isi_int_int, isi_int_str, isi_int_tup, isi_int_lst, isi_bool_non, isi_bool_bl, isi_bool_int, isi_bool_str, isi_bool_tup, isi_bool_lst, isi_tuple_non, isi_tuple_bl, isi_tuple_int, isi_tuple_str, isi_tuple_tup, isi_tuple_lst, isi_str_non, isi_str_bl, isi_str_int, isi_str_str, isi_str_tup, isi_str_lst, isi_list_non, isi_list_bl, isi_list_int, isi_list_str, isi_list_tup, isi_list_lst, atI_0, atI_1, atI_2, atI_3, atI_4, atI_5, atI_6, atI_7, atI_8, ixN_1_0, ixN_2_0, ixN_2_1, ixN_3_0, ixN_3_1, ixN_3_2, ixN_4_0, ixN_4_1, ixN_4_2, ixN_4_3, ixN_5_0, ixN_5_1, ixN_5_2, ixN_5_3, ixN_5_4, eqD_int, eqD_bl, eqD_non_non, isNon_non, isNon_bl, isNon_int, isNon_str, isNon_tup, isNon_lst, Option.map_some, Option.map_none, Option.bind_some, List.getElem?_cons_zero, List.getElem?_cons_succ, List.set_cons_zero, List.set_cons_succ, List.map_cons, List.map_nil, List.length_cons, List.length_nil, List.cons_append, List.nil_append, rho0, List.replicate, List.take_succ_cons, List.take_zero, List.take_nil, List.take_length, and_self, Bool.false_eq_true, Bool.not_true, Bool.not_false, decide_true, decide_false, raiseI_run1, raiseI_run2, tryO_next, tryO_ret, tryH_nil, unbind_next, unbind_ret, eXf_run, par3R_run, newLR_0, newLR_1, kmR_run, kmR2_run, asK_run, asN_run, getRL_run, getKL_run, ngo0_run, ngo1_run, ngoR_run, ownN_run, ownNR_run, npK_run, starR_run, itNItems_run, itNKeys_run, oDictK_run, opIn2_K, opKIx_run, keyK_int, copyLR_lst, copyLR_tup, gT2_run, nValsD_run, Option.getD_some, tup_0, lst_0, tup_1, lst_1, tup_2, lst_2, tup_3, lst_3, tup_4, lst_4, tup_5, lst_5, tup_6, lst_6, tup_7, lst_7, tup_8, lst_8, tup_9, lst_9, tup_10, lst_10, tup_11, lst_11, tup_12, lst_12, new_0, new_1, new_2, new_3, new_4, new_5, ↓reduceIte, Nat.reduceAdd, $xs,*])
  | `(tactic| push_cast [$xs,*] at $h:ident) => `(tactic| simp -implicitDefEqProofs only [↓eC_run, ↓eVar_run, ↓eSlot_run, ↓eBin_run, ↓eUn_run, ↓eTest_run, ↓eAndT_run, ↓eOrT_run, ↓eNotT_run, ↓eTrue_run, ↓eAnd_run, ↓eOr_run, ↓eNot_run, ↓eIf_run, ↓aNil_run, ↓aCons_run, ↓aVal_run, ↓eTup_run, ↓eList_run, ↓eLst_run, ↓eCallB_run, ↓eOnL_run, ↓eIsi_run, ↓eSl_run, ↓ePart_run, ↓eNoPart_run, ↓eChain_run, ↓eIxO_run, ↓eOwnL_run, ↓sNext_run, ↓sSeq_run, ↓sIf_run, ↓sExpr_run, ↓sRet_run, ↓sRetS_run, ↓sRetN_run, ↓sBreak_run, ↓sCont_run, ↓sAsg_run, ↓sSetS_run, ↓sPar_run, ↓sFor_run, ↓sWhile_run, ↓eIt1_run, ↓eIt2_run, ↓eIt3_run, ↓eLc_run, ↓eLc2_run, ↓sNewL_run, ↓sApp_run, ↓sSetIx_run, ↓sRetL_run, ↓sRetNew_run, ↓eCallP_run, ↓eCallE_run, ↓eVal_run, ↓eMake_run, ↓eFld_run, ↓sRaise_run, ↓sRaiseI_run, ↓sTry_run, ↓eIsx_run, ↓sPar3_run, ↓eNewL_run, ↓eNDisp_run, ↓eKDisp_run, ↓eEmptyK_run, ↓eNewN_run, ↓eKM_run, ↓eNGet_run, ↓eKGet_run, ↓eNGetO_run, ↓eCopyN_run, ↓sNPut_run, ↓aStar_run, ↓eRg1_run, ↓eIsi2_run, ↓eCopyL_run, ↓eNVals_run, bind_ok, bind_exc, out_ok, out_exc, lift_some, obind_next, obind_ret, obind_exc, obind_brk, obind_cont, varR_run, slotR_run, asBl_run, allD_nil, allD_cons, asLst_run, asI_run, chR_run, ownK_run, ownKR_run, ownL_run, ownLR_run, someR_run, someO_run, ixI_run, parR_run, gN_run, gsNil_run, gsCons_run, itSeq_lst, itSeq_tup, itEn_lst, itEn_tup, itZ_lst, itZ_tup, wipeR_nil, wipeR_cons, setIxR_run, finP_ret, finP_next, finP_exc, finE_ret, finE_next, finE_exc, callR_ok, callR_err, valR_run, makeR_ok, makeR_exc, opAdd_int, opI_run, opB_run, opMulA_int, opEq_run, opNe_run, opIsN_run, opNotN_run, opIx_tup, opIx_lst, opNeg_run, oLen_tup, oLen_lst, oInt_int, oInt_bl, oTuple_tup, oTuple_lst, oList_tup, oList_lst, oTupleL_run, oListL_run, oLenL_run, isi_int_non, isi_int_bl, isi_int_int, isi_int_str, isi_int_tup, isi_int_lst, isi_bool_non, isi_bool_bl, isi_bool_int, isi_bool_str, isi_bool_tup, isi_bool_lst, isi_tuple_non, isi_tuple_bl, isi_tuple_int, isi_tuple_str, isi_tuple_tup, isi_tuple_lst, isi_str_non, isi_str_bl, isi_str_int, isi_str_str, isi_str_tup, isi_str_lst, isi_list_non, isi_list_bl, isi_list_int, isi_list_str, isi_list_tup, isi_list_lst, atI_0, atI_1, atI_2, atI_3, atI_4, atI_5, atI_6, atI_7, atI_8, ixN_1_0, ixN_2_0, ixN_2_1, ixN_3_0, ixN_3_1, ixN_3_2, ixN_4_0, ixN_4_1, ixN_4_2, ixN_4_3, ixN_5_0, ixN_5_1, ixN_5_2, ixN_5_3, ixN_5_4, eqD_int, eqD_bl, eqD_non_non, isNon_non, isNon_bl, isNon_int, isNon_str, isNon_tup, isNon_lst, Option.map_some, Option.map_none, Option.bind_some, List.getElem?_cons_zero, List.getElem?_cons_succ, List.set_cons_zero, List.set_cons_succ, List.map_cons, List.map_nil, List.length_cons, List.length_nil, List.cons_append, List.nil_append, rho0, List.replicate, List.take_succ_cons, List.take_zero, List.take_nil, List.take_length, and_self, Bool.false_eq_true, Bool.not_true, Bool.not_false, decide_true, decide_false, raiseI_run1, raiseI_run2, tryO_next, tryO_ret, tryH_nil, unbind_next, unbind_ret, eXf_run, par3R_run, newLR_0, newLR_1, kmR_run, kmR2_run, asK_run, asN_run, getRL_run, getKL_run, ngo0_run, ngo1_run, ngoR_run, ownN_run, ownNR_run, npK_run, starR_run, itNItems_run, itNKeys_run, oDictK_run, opIn2_K, opKIx_run, keyK_int, copyLR_lst, copyLR_tup, gT2_run, nValsD_run, Option.getD_some, tup_0, lst_0, tup_1, lst_1, tup_2, lst_2, tup_3, lst_3, tup_4, lst_4, tup_5, lst_5, tup_6, lst_6, tup_7, lst_7, tup_8, lst_8, tup_9, lst_9, tup_10, lst_10, tup_11, lst_11, tup_12, lst_12, new_0, new_1, new_2, new_3, new_4, new_5, ↓reduceIte, Nat.reduceAdd, $xs,*] at $h:ident)
section
variable {ps : List Plug}
open Classical in
open Classical in
end
section
variable {s : List Int} {ps : List Plug}
end
section
variable {ps : List Plug}
end
section
variable {ps : List Plug}
end
theorem eIsiC_run (c : Str) (f : FE D) {ρ : Rho} {ω : Om} : eIsiC c f ρ ω = bindL (f ρ ω) (k := ⟨fun d ω1 => Res.lift (isiC c d) ω1⟩) := rfl
theorem eProp_run (c : Str) (F : FnP) (f : FE D) {ρ : Rho} {ω : Om} : eProp c F f ρ ω = bindL (f ρ ω) (k := ⟨fun d ω1 => if isObj c d = true then ansR (F [d]) ω1 else .stuck⟩) := rfl
theorem eLenO_run (c : Str) (F : FnP) (f : FE D) {ρ : Rho} {ω : Om} : eLenO c F f ρ ω = bindL (f ρ ω) (k := ⟨fun d ω1 => if isObj c d = true then lenAns (F [d]) ω1 else .stuck⟩) := rfl
theorem eqD_socks (a b : List Int) : eqD (socksD a) (socksD b) = some (decide (a = b)) := by
  have py : ∀ l : List Int, toPys (l.map D.int) = some (l.map PyData.int) := fun l => by
    induction l with
    | nil => rfl
    | cons x l ih => rw [List.map_cons, toPys, ih]; rfl
  have lay : ∀ l : List Int, PyData.canLayAll0 (l.map PyData.int) = true ∧ PyData.depthAll (l.map PyData.int) ≤ 1 := fun l => by
    induction l with
    | nil => exact ⟨rfl, by decide⟩
    | cons x l ih =>
      rw [List.map_cons]
      refine ⟨by rw [PyData.canLayAll0, ih.1]; rfl, ?_⟩
      rw [PyData.depthAll]
      have : (PyData.int x).depth ≤ 1 := by unfold PyData.depth; omega
      have := ih.2
      omega
  have ev : ∀ a b : List Int, PyData.eqvAll (a.map PyData.int) (b.map PyData.int) = decide (a = b) := fun a => by
    induction a with
    | nil =>
      intro b
      cases b with
      | nil => simp [PyData.eqvAll]
      | cons y b => simp [PyData.eqvAll]
    | cons x a ih =>
      intro b
      cases b with
      | nil => simp [PyData.eqvAll]
      | cons y b =>
        rw [List.map_cons, List.map_cons, PyData.eqvAll, ih, PyData.eqv]
        by_cases h1 : x = y <;> by_cases h2 : a = b <;> simp [h1, h2]
  have sh : ∀ l : List Int, SeqAt.shaped (.tuple (l.map PyData.int)) = true := fun l => by
    unfold SeqAt.shaped
    rw [PyData.canLay0, (lay l).1, Bool.true_and, decide_eq_true_eq, PyData.depth]
    have := (lay l).2
    omega
  unfold eqD socksD
  rw [toPy, toPy, py, py]
  dsimp only [Option.map]
  rw [sh, sh, PyData.eqv, ev]
  rfl
theorem isiC_strip (s : List Int) : isiC "Strip" (stripD s) = some (.bl true) := by
  unfold isiC stripD Dl.isObj
  rw [if_pos (decide_eq_true rfl)]
theorem fld_s (s : List Int) : fldD "Strip" "rows" (stripD s) = some (socksD s) := fld_rows s
theorem own_eq (a b : List Int) : F_Strip_d__eq_d_ [stripD a, stripD b] = some (.ok (.bl (decide (a = b)))) := by
  unfold F_Strip_d__eq_d_
  rw [fnP_run (by rfl)]
  unfold f_Strip_d__eq_d_
  push_cast [eIsiC_run, isiC_strip, fld_s, eqD_socks]
theorem isObj_s (s : List Int) : Dl.isObj "Strip" (stripD s) = true := by unfold stripD Dl.isObj; exact decide_eq_true rfl
end Pk
namespace Pk
open PySem Dl L2
local macro_rules
  | `(tactic| push_cast [$xs,*]) => `(tactic| simp -implicitDefEqProofs only [↓eC_run, ↓eVar_run, ↓eSlot_run, ↓eBin_run, ↓eUn_run, ↓eTest_run, ↓eAndT_run, ↓eOrT_run, ↓eNotT_run, ↓eTrue_run, ↓eAnd_run, ↓eOr_run, ↓eNot_run, ↓eIf_run, ↓aNil_run, ↓aCons_run, ↓aVal_run, ↓eTup_run, ↓eList_run, ↓eLst_run, ↓eCallB_run, ↓eOnL_run, ↓eIsi_run, ↓eSl_run, ↓ePart_run, ↓eNoPart_run, ↓eChain_run, ↓eIxO_run, ↓eOwnL_run, ↓sNext_run, ↓sSeq_run, ↓sIf_run, ↓sExpr_run, ↓sRet_run, ↓sRetS_run, ↓sRetN_run, ↓sBreak_run, ↓sCont_run, ↓sAsg_run, ↓sSetS_run, ↓sPar_run, ↓sFor_run, ↓sWhile_run, ↓eIt1_run, ↓eIt2_run, ↓eIt3_run, ↓eLc_run, ↓eLc2_run, ↓sNewL_run, ↓sApp_run, ↓sSetIx_run, ↓sRetL_run, ↓sRetNew_run, ↓eCallP_run, ↓eCallE_run, ↓eVal_run, ↓eMake_run, ↓eFld_run, ↓sRaise_run, ↓sRaiseI_run, ↓sTry_run, ↓eIsx_run, ↓sPar3_run, ↓eNewL_run, ↓eNDisp_run, ↓eKDisp_run, ↓eEmptyK_run, ↓eNewN_run, ↓eKM_run, ↓eNGet_run, ↓eKGet_run, ↓eNGetO_run, ↓eCopyN_run, ↓sNPut_run, ↓aStar_run, ↓eRg1_run, ↓eIsi2_run, ↓eCopyL_run, ↓eNVals_run, ↓eIsV_run, ↓eXfV_run, ↓sTryHold_run, ↓eLenO_run, ↓eSortSet_run, bind_ok, bind_exc, out_ok, out_exc, lift_some, obind_next, obind_ret, obind_exc, obind_brk, obind_cont, varR_run, slotR_run, asBl_run, allD_nil, allD_cons, asLst_run, asI_run, chR_run, ownK_run, ownKR_run, ownL_run, ownLR_run, someR_run, someO_run, ixI_run, parR_run, gN_run, gsNil_run, gsCons_run, itSeq_lst, itSeq_tup, itEn_lst, itEn_tup, itZ_lst, itZ_tup, wipeR_nil, wipeR_cons, setIxR_run, finP_ret, finP_next, finP_exc, finE_ret, finE_next, finE_exc, callR_ok, callR_err, valR_run, makeR_ok, makeR_exc, opAdd_int, opI_run, opB_run, opMulA_int, opEq_run, opNe_run, opIsN_run, opNotN_run, opIx_tup, opIx_lst, opNeg_run, oLen_tup, oLen_lst, oInt_int, oInt_bl, oTuple_tup, oTuple_lst, oList_tup, oList_lst, oTupleL_run, oListL_run, oLenL_run, isi_int_non, isi_int_bl, isi_int_int, isi_int_str, isi_int_tup, isi_int_lst, isi_bool_non, isi_bool_bl, isi_bool_int, isi_bool_str, isi_bool_tup, isi_bool_lst, isi_tuple_non, isi_tuple_bl, isi_tuple_int, isi_tuple_str, isi_tuple_tup, isi_tuple_lst, isi_str_non, isi_str_bl, isi_str_int, isi_str_str, isi_str_tup, isi_str_lst, isi_list_non, isi_list_bl, isi_list_int, isi_list_str, isi_list_tup, isi_list_lst, atI_0, atI_1, atI_2, atI_3, atI_4, atI_5, atI_6, atI_7, atI_8, ixN_1_0, ixN_2_0, ixN_2_1, ixN_3_0, ixN_3_1, ixN_3_2, ixN_4_0, ixN_4_1, ixN_4_2, ixN_4_3, ixN_5_0, ixN_5_1, ixN_5_2, ixN_5_3, ixN_5_4, eqD_int, eqD_bl, eqD_non_non, isNon_non, isNon_bl, isNon_int, isNon_str, isNon_tup, isNon_lst, Option.map_some, Option.map_none, Option.bind_some, List.getElem?_cons_zero, List.getElem?_cons_succ, List.set_cons_zero, List.set_cons_succ, List.map_cons, List.map_nil, List.length_cons, List.length_nil, List.cons_append, List.nil_append, rho0, List.replicate, List.take_succ_cons, List.take_zero, List.take_nil, List.take_length, and_self, Bool.false_eq_true, Bool.not_true, Bool.not_false, decide_true, decide_false, raiseI_run1, raiseI_run2, tryO_next, tryO_ret, tryH_nil, unbind_next, unbind_ret, eXf_run, par3R_run, newLR_0, newLR_1, kmR_run, kmR2_run, asK_run, asN_run, getRL_run, getKL_run, ngo0_run, ngo1_run, ngoR_run, ownN_run, ownNR_run, npK_run, starR_run, itNItems_run, itNKeys_run, oDictK_run, opIn2_K, opKIx_run, keyK_int, copyLR_lst, copyLR_tup, gT2_run, nValsD_run, Option.getD_some, tup_0, lst_0, tup_1, lst_1, tup_2, lst_2, tup_3, lst_3, tup_4, lst_4, tup_5, lst_5, tup_6, lst_6, tup_7, lst_7, tup_8, lst_8, tup_9, lst_9, tup_10, lst_10, tup_11, lst_11, tup_12, lst_12, new_0, new_1, new_2, new_3, new_4, new_5, ↓reduceIte, Nat.reduceAdd, $xs,*])
  | `(tactic| push_cast [$xs,*] at $h:ident) => `(tactic| simp -implicitDefEqProofs only [↓eC_run, ↓eVar_run, ↓eSlot_run, ↓eBin_run, ↓eUn_run, ↓eTest_run, ↓eAndT_run, ↓eOrT_run, ↓eNotT_run, ↓eTrue_run, ↓eAnd_run, ↓eOr_run, ↓eNot_run, ↓eIf_run, ↓aNil_run, ↓aCons_run, ↓aVal_run, ↓eTup_run, ↓eList_run, ↓eLst_run, ↓eCallB_run, ↓eOnL_run, ↓eIsi_run, ↓eSl_run, ↓ePart_run, ↓eNoPart_run, ↓eChain_run, ↓eIxO_run, ↓eOwnL_run, ↓sNext_run, ↓sSeq_run, ↓sIf_run, ↓sExpr_run, ↓sRet_run, ↓sRetS_run, ↓sRetN_run, ↓sBreak_run, ↓sCont_run, ↓sAsg_run, ↓sSetS_run, ↓sPar_run, ↓sFor_run, ↓sWhile_run, ↓eIt1_run, ↓eIt2_run, ↓eIt3_run, ↓eLc_run, ↓eLc2_run, ↓sNewL_run, ↓sApp_run, ↓sSetIx_run, ↓sRetL_run, ↓sRetNew_run, ↓eCallP_run, ↓eCallE_run, ↓eVal_run, ↓eMake_run, ↓eFld_run, ↓sRaise_run, ↓sRaiseI_run, ↓sTry_run, ↓eIsx_run, ↓sPar3_run, ↓eNewL_run, ↓eNDisp_run, ↓eKDisp_run, ↓eEmptyK_run, ↓eNewN_run, ↓eKM_run, ↓eNGet_run, ↓eKGet_run, ↓eNGetO_run, ↓eCopyN_run, ↓sNPut_run, ↓aStar_run, ↓eRg1_run, ↓eIsi2_run, ↓eCopyL_run, ↓eNVals_run, ↓eIsV_run, ↓eXfV_run, ↓sTryHold_run, ↓eLenO_run, ↓eSortSet_run, bind_ok, bind_exc, out_ok, out_exc, lift_some, obind_next, obind_ret, obind_exc, obind_brk, obind_cont, varR_run, slotR_run, asBl_run, allD_nil, allD_cons, asLst_run, asI_run, chR_run, ownK_run, ownKR_run, ownL_run, ownLR_run, someR_run, someO_run, ixI_run, parR_run, gN_run, gsNil_run, gsCons_run, itSeq_lst, itSeq_tup, itEn_lst, itEn_tup, itZ_lst, itZ_tup, wipeR_nil, wipeR_cons, setIxR_run, finP_ret, finP_next, finP_exc, finE_ret, finE_next, finE_exc, callR_ok, callR_err, valR_run, makeR_ok, makeR_exc, opAdd_int, opI_run, opB_run, opMulA_int, opEq_run, opNe_run, opIsN_run, opNotN_run, opIx_tup, opIx_lst, opNeg_run, oLen_tup, oLen_lst, oInt_int, oInt_bl, oTuple_tup, oTuple_lst, oList_tup, oList_lst, oTupleL_run, oListL_run, oLenL_run, isi_int_non, isi_int_bl, isi_int_int, isi_int_str, isi_int_tup, isi_int_lst, isi_bool_non, isi_bool_bl, isi_bool_int, isi_bool_str, isi_bool_tup, isi_bool_lst, isi_tuple_non, isi_tuple_bl, isi_tuple_int, isi_tuple_str, isi_tuple_tup, isi_tuple_lst, isi_str_non, isi_str_bl, isi_str_int, isi_str_str, isi_str_tup, isi_str_lst, isi_list_non, isi_list_bl, isi_list_int, isi_list_str, isi_list_tup, isi_list_lst, atI_0, atI_1, atI_2, atI_3, atI_4, atI_5, atI_6, atI_7, atI_8, ixN_1_0, ixN_2_0, ixN_2_1, ixN_3_0, ixN_3_1, ixN_3_2, ixN_4_0, ixN_4_1, ixN_4_2, ixN_4_3, ixN_5_0, ixN_5_1, ixN_5_2, ixN_5_3, ixN_5_4, eqD_int, eqD_bl, eqD_non_non, isNon_non, isNon_bl, isNon_int, isNon_str, isNon_tup, isNon_lst, Option.map_some, Option.map_none, Option.bind_some, List.getElem?_cons_zero, List.getElem?_cons_succ, List.set_cons_zero, List.set_cons_succ, List.map_cons, List.map_nil, List.length_cons, List.length_nil, List.cons_append, List.nil_append, rho0, List.replicate, List.take_succ_cons, List.take_zero, List.take_nil, List.take_length, and_self, Bool.false_eq_true, Bool.not_true, Bool.not_false, decide_true, decide_false, raiseI_run1, raiseI_run2, tryO_next, tryO_ret, tryH_nil, unbind_next, unbind_ret, eXf_run, par3R_run, newLR_0, newLR_1, kmR_run, kmR2_run, asK_run, asN_run, getRL_run, getKL_run, ngo0_run, ngo1_run, ngoR_run, ownN_run, ownNR_run, npK_run, starR_run, itNItems_run, itNKeys_run, oDictK_run, opIn2_K, opKIx_run, keyK_int, copyLR_lst, copyLR_tup, gT2_run, nValsD_run, Option.getD_some, tup_0, lst_0, tup_1, lst_1, tup_2, lst_2, tup_3, lst_3, tup_4, lst_4, tup_5, lst_5, tup_6, lst_6, tup_7, lst_7, tup_8, lst_8, tup_9, lst_9, tup_10, lst_10, tup_11, lst_11, tup_12, lst_12, new_0, new_1, new_2, new_3, new_4, new_5, ↓reduceIte, Nat.reduceAdd, $xs,*] at $h:ident)
section
variable {s : List Int} {ps : List Plug}
end
abbrev l20 (ns : List Int) (x2 x3 x4 x5 x6 x7 x8 x9 x10 x11 x12 : Option SV) : Rho := [some (SV.val (.lst (ns.map D.int))), some (SV.own 0), x2, x3, x4, x5, x6, x7, x8, x9, x10, x11, x12, none]
section
variable {ns : List Int} {ps : List Plug} {ω : Om}
end
section
variable {ns : List Int} {ps : List Plug} {ω : Om}
end
theorem all_tl {x : Str} {p : Nat → Bool} : x.cps.all p = (TL.tl x).all p := by
  show _ = x.cps.toList.all p
  rw [Array.all_toList]
def Wd (x : Str) : Prop := TL.tl x ≠ [] ∧ ∀ c ∈ TL.tl x, 32 < c ∧ c < 128
theorem strOk_of {x : Str} (h : ∀ c ∈ TL.tl x, c < 128) : PyData.strOk x = true := by
  unfold PyData.strOk
  rw [all_tl, List.all_eq_true]
  intro c hc
  have := h c hc
  exact decide_eq_true (by omega)
theorem Wd.ok {x : Str} (h : Wd x) : PyData.strOk x = true := strOk_of fun c hc => (h.2 c hc).2
def numI (i : Int) : Str := Str.ofString (toString i)
theorem tl_numI {i : Int} (h : 0 ≤ i) : TL.tl (numI i) = TL.numL i.toNat := by
  obtain ⟨n, rfl⟩ := Int.eq_ofNat_of_zero_le h
  exact TL.tl_num n
theorem wd_num {i : Int} (h : 0 ≤ i) : Wd (numI i) := by
  unfold Wd
  rw [tl_numI h]
  exact ⟨TL.numL_ne _, fun c hc => by have := TL.numL_digits _ c hc; omega⟩
theorem numI_len {i : Int} (h : 0 ≤ i) (h' : i < 1000) : 1 ≤ (numI i).length ∧ (numI i).length ≤ 3 := by
  rw [TL.len_tl, tl_numI h]
  refine ⟨List.length_pos_iff.mpr (TL.numL_ne _), TL.numL_len (by decide) (by omega)⟩
theorem oStr_run {i : Int} (h : 0 ≤ i) (h' : i < 1000) : oStr [.int i] = some (.str (numI i)) := by
  have : i.natAbs.log2 < 1920 := by
    have h2 : i.natAbs < 2 ^ 10 := by omega
    have := Nat.log2_lt (n := i.natAbs) (k := 10)
    by_cases hz : i.natAbs = 0
    · rw [hz]; decide
    · have := (Nat.log2_lt hz).mpr h2
      omega
  unfold oStr
  dsimp only
  rw [if_pos this]; rfl
abbrev nz (l : List (List Nat)) : List (List Nat) := l.filter fun w => !w.isEmpty
def toks (x : Str) : List Str := (Txt.split x " ").filter fun w => !(w == "")
theorem tl_sp : TL.tl (" " : Str) = [32] := by decide +kernel
theorem tl_nl : TL.tl ("\n" : Str) = [10] := by decide +kernel
theorem tl_nil : TL.tl ("" : Str) = [] := by decide +kernel
theorem empty_tl (w : Str) : (!(w == "")) = !(TL.tl w).isEmpty := by
  by_cases h : w = ""
  · rw [h]; decide +kernel
  · have h2 : (TL.tl w) ≠ [] := fun e => h (TL.ext_tl (e.trans tl_nil.symm))
    rw [beq_false_of_ne h]
    cases q : TL.tl w with
    | nil => exact absurd q h2
    | cons => rfl
theorem split_tl (x : Str) : (Txt.split x " ").map TL.tl = TL.spl [32] 0 [] (TL.tl x) := by
  rw [TL.split_spl x " " (by rw [tl_sp]; simp) (TL.kind_ok (by decide +kernel)), tl_sp]
theorem toks_tl (x : Str) : (toks x).map TL.tl = nz (TL.spl [32] 0 [] (TL.tl x)) := by
  rw [← split_tl]
  unfold toks nz
  rw [List.filter_map]
  congr 1
  exact List.filter_congr fun w _ => empty_tl w
theorem split_lines {ls : List Str} (hne : ls ≠ []) (h : ∀ l ∈ ls, 10 ∉ TL.tl l) : Txt.split (Txt.join "\n" ls) "\n" = ls :=
  TL.split_join tl_nl (by decide +kernel) hne h
theorem joinL_len (S : List Nat) : ∀ ps : List (List Nat), (TL.joinL S ps).length ≤ (ps.map (·.length)).sum + ps.length * S.length
  | [] => by simp [TL.joinL]
  | [p] => by simp [TL.joinL]
  | p :: q :: r => by
    show (p ++ (S ++ TL.joinL S (q :: r))).length ≤ _
    have := joinL_len S (q :: r)
    simp only [List.length_append, List.map_cons, List.sum_cons, List.length_cons, Nat.add_mul, Nat.one_mul] at this ⊢
    omega
theorem sum_le {α : Type} (f : α → Nat) (k : Nat) : ∀ l : List α, (∀ a ∈ l, f a ≤ k) → (l.map f).sum ≤ l.length * k
  | [], _ => by simp
  | a :: l, h => by
    have := h a List.mem_cons_self
    have := sum_le f k l fun b hb => h b (List.mem_cons_of_mem _ hb)
    rw [List.map_cons, List.sum_cons, List.length_cons, Nat.add_mul, Nat.one_mul]
    omega
theorem join_len (y : Str) (k : Nat) {ws : List Str} (h : ∀ w ∈ ws, w.length ≤ k) : (Txt.join y ws).length ≤ ws.length * (k + y.length) := by
  rw [TL.len_tl, TL.join_eq, TL.tl_join]
  have h1 := joinL_len (TL.tl y) (ws.map TL.tl)
  rw [List.map_map, List.length_map] at h1
  have h2 := sum_le (fun w => (TL.tl w).length) k ws fun w hw => by rw [← TL.len_tl]; exact h w hw
  have e : ((List.length ∘ TL.tl) : Str → Nat) = fun w => (TL.tl w).length := rfl
  rw [← TL.len_tl y] at h1
  rw [Nat.mul_add]
  have h3 : (List.map ((fun x => x.length) ∘ TL.tl) ws).sum = (ws.map fun w => (TL.tl w).length).sum := rfl
  omega
theorem joinL_mem (S : List Nat) (c : Nat) : ∀ ps : List (List Nat), c ∈ TL.joinL S ps → c ∈ S ∨ ∃ p ∈ ps, c ∈ p
  | [], h => by cases h
  | [p], h => .inr ⟨p, List.mem_cons_self, h⟩
  | p :: q :: r, h => by
    have h : c ∈ p ++ (S ++ TL.joinL S (q :: r)) := h
    rw [List.mem_append, List.mem_append] at h
    rcases h with h | h | h
    · exact .inr ⟨p, List.mem_cons_self, h⟩
    · exact .inl h
    · rcases joinL_mem S c (q :: r) h with h | ⟨p', hp, h⟩
      · exact .inl h
      · exact .inr ⟨p', List.mem_cons_of_mem _ hp, h⟩
theorem join_mem {y : Str} {c : Nat} {ws : List Str} (h : c ∈ TL.tl (Txt.join y ws)) : c ∈ TL.tl y ∨ ∃ w ∈ ws, c ∈ TL.tl w := by
  rw [TL.join_eq, TL.tl_join] at h
  rcases joinL_mem _ _ _ h with h | ⟨p, hp, h⟩
  · exact .inl h
  · obtain ⟨w, hw, rfl⟩ := List.mem_map.mp hp
    exact .inr ⟨w, hw, h⟩
theorem joinD_run {a : Str} {ys : List Str} (h : (ys.map (·.length)).sum + ys.length * a.length ≤ 16777216) : joinD a (ys.map D.str) = some (.str (Txt.join a ys)) := by
  unfold joinD
  rw [strsD_map]
  dsimp only
  rw [if_pos h]
theorem splitD_sp {x : Str} (h : x.length ≤ 1000) : splitD x (.str " ") = some (.lst ((Txt.split x " ").map D.str)) := by
  have hl : (Txt.split x " ").length ≤ lim := by
   have := congrArg List.length (split_tl x)
   rw [List.length_map] at this
   rw [this]
   have h2 : ∀ (l acc : List Nat), (TL.spl [32] 0 acc l).length ≤ l.length + 1 := by
     intro l
     induction l with
     | nil => intro acc; rw [TL.spl_nil]; simp
     | cons c r ih =>
       intro acc
       by_cases hc : TL.pre [32] (c :: r) = true
       · rw [TL.spl_hit hc]
         have h3 : (TL.spl [32] 0 [] r).length ≤ r.length + 1 := ih []
         have h4 : (TL.spl [32] ([32].length - 1) [] r).length = (TL.spl [32] 0 [] r).length := rfl
         show (TL.spl [32] 0 [] r).length + 1 ≤ r.length + 1 + 1
         omega
       · rw [TL.spl_miss (by simpa using hc)]
         have := ih (acc ++ [c])
         rw [List.length_cons]
         omega
   have := h2 (TL.tl x) []
   rw [← TL.len_tl] at this
   show _ ≤ 16777216
   omega
  unfold splitD
  dsimp only
  rw [if_pos ⟨by decide +kernel, by show _ ≤ 16777216; omega, hl⟩]
theorem splitD_nl {ls : List Str} {x : Str} (h : Txt.split x "\n" = ls) (hx : x.length ≤ 100000) (hl : ls.length ≤ 1000) : splitD x (.str "\n") = some (.lst (ls.map D.str)) := by
  unfold splitD
  dsimp only
  rw [h, if_pos ⟨by decide +kernel, by show _ ≤ 16777216; omega, by show _ ≤ 16777216; omega⟩]
end Pk
namespace Pk
open PySem Dl L2
local macro_rules
  | `(tactic| push_cast [$xs,*]) => `(tactic| simp -implicitDefEqProofs only [↓eC_run, ↓eVar_run, ↓eSlot_run, ↓eBin_run, ↓eUn_run, ↓eTest_run, ↓eAndT_run, ↓eOrT_run, ↓eNotT_run, ↓eTrue_run, ↓eAnd_run, ↓eOr_run, ↓eNot_run, ↓eIf_run, ↓aNil_run, ↓aCons_run, ↓aVal_run, ↓eTup_run, ↓eList_run, ↓eLst_run, ↓eCallB_run, ↓eOnL_run, ↓eIsi_run, ↓eSl_run, ↓ePart_run, ↓eNoPart_run, ↓eChain_run, ↓eIxO_run, ↓eOwnL_run, ↓sNext_run, ↓sSeq_run, ↓sIf_run, ↓sExpr_run, ↓sRet_run, ↓sRetS_run, ↓sRetN_run, ↓sBreak_run, ↓sCont_run, ↓sAsg_run, ↓sSetS_run, ↓sPar_run, ↓sFor_run, ↓sWhile_run, ↓eIt1_run, ↓eIt2_run, ↓eIt3_run, ↓eLc_run, ↓eLc2_run, ↓sNewL_run, ↓sApp_run, ↓sSetIx_run, ↓sRetL_run, ↓sRetNew_run, ↓eCallP_run, ↓eCallE_run, ↓eVal_run, ↓eMake_run, ↓eFld_run, ↓sRaise_run, ↓sRaiseI_run, ↓sTry_run, ↓eIsx_run, ↓sPar3_run, ↓eNewL_run, ↓eNDisp_run, ↓eKDisp_run, ↓eEmptyK_run, ↓eNewN_run, ↓eKM_run, ↓eNGet_run, ↓eKGet_run, ↓eNGetO_run, ↓eCopyN_run, ↓sNPut_run, ↓aStar_run, ↓eRg1_run, ↓eIsi2_run, ↓eCopyL_run, ↓eNVals_run, ↓eJoin_run, ↓eSplit_run, ↓eBinOL_run, bind_ok, bind_exc, out_ok, out_exc, lift_some, obind_next, obind_ret, obind_exc, obind_brk, obind_cont, varR_run, slotR_run, asBl_run, allD_nil, allD_cons, asLst_run, asI_run, chR_run, ownK_run, ownKR_run, ownL_run, ownLR_run, someR_run, someO_run, ixI_run, parR_run, gN_run, gsNil_run, gsCons_run, itSeq_lst, itSeq_tup, itEn_lst, itEn_tup, itZ_lst, itZ_tup, wipeR_nil, wipeR_cons, setIxR_run, finP_ret, finP_next, finP_exc, finE_ret, finE_next, finE_exc, callR_ok, callR_err, valR_run, makeR_ok, makeR_exc, opAdd_int, opI_run, opB_run, opMulA_int, opEq_run, opNe_run, opIsN_run, opNotN_run, opIx_tup, opIx_lst, opNeg_run, oLen_tup, oLen_lst, oInt_int, oInt_bl, oTuple_tup, oTuple_lst, oList_tup, oList_lst, oTupleL_run, oListL_run, oLenL_run, isi_int_non, isi_int_bl, isi_int_int, isi_int_str, isi_int_tup, isi_int_lst, isi_bool_non, isi_bool_bl, isi_bool_int, isi_bool_str, isi_bool_tup, isi_bool_lst, isi_tuple_non, isi_tuple_bl, isi_tuple_int, isi_tuple_str, isi_tuple_tup, isi_tuple_lst, isi_str_non, isi_str_bl, isi_str_int, isi_str_str, isi_str_tup, isi_str_lst, isi_list_non, isi_list_bl, isi_list_int, isi_list_str, isi_list_tup, isi_list_lst, atI_0, atI_1, atI_2, atI_3, atI_4, atI_5, atI_6, atI_7, atI_8, ixN_1_0, ixN_2_0, ixN_2_1, ixN_3_0, ixN_3_1, ixN_3_2, ixN_4_0, ixN_4_1, ixN_4_2, ixN_4_3, ixN_5_0, ixN_5_1, ixN_5_2, ixN_5_3, ixN_5_4, eqD_int, eqD_bl, eqD_non_non, isNon_non, isNon_bl, isNon_int, isNon_str, isNon_tup, isNon_lst, Option.map_some, Option.map_none, Option.bind_some, List.getElem?_cons_zero, List.getElem?_cons_succ, List.set_cons_zero, List.set_cons_succ, List.map_cons, List.map_nil, List.length_cons, List.length_nil, List.cons_append, List.nil_append, rho0, List.replicate, List.take_succ_cons, List.take_zero, List.take_nil, List.take_length, and_self, Bool.false_eq_true, Bool.not_true, Bool.not_false, decide_true, decide_false, raiseI_run1, raiseI_run2, tryO_next, tryO_ret, tryH_nil, unbind_next, unbind_ret, eXf_run, par3R_run, newLR_0, newLR_1, kmR_run, kmR2_run, asK_run, asN_run, getRL_run, getKL_run, ngo0_run, ngo1_run, ngoR_run, ownN_run, ownNR_run, npK_run, starR_run, itNItems_run, itNKeys_run, oDictK_run, opIn2_K, opKIx_run, keyK_int, copyLR_lst, copyLR_tup, gT2_run, nValsD_run, Option.getD_some, tup_0, lst_0, tup_1, lst_1, tup_2, lst_2, tup_3, lst_3, tup_4, lst_4, tup_5, lst_5, tup_6, lst_6, tup_7, lst_7, tup_8, lst_8, tup_9, lst_9, tup_10, lst_10, tup_11, lst_11, tup_12, lst_12, new_0, new_1, new_2, new_3, new_4, new_5, joinR_run, ↓reduceIte, Nat.reduceAdd, $xs,*])
  | `(tactic| push_cast [$xs,*] at $h:ident) => `(tactic| simp -implicitDefEqProofs only [↓eC_run, ↓eVar_run, ↓eSlot_run, ↓eBin_run, ↓eUn_run, ↓eTest_run, ↓eAndT_run, ↓eOrT_run, ↓eNotT_run, ↓eTrue_run, ↓eAnd_run, ↓eOr_run, ↓eNot_run, ↓eIf_run, ↓aNil_run, ↓aCons_run, ↓aVal_run, ↓eTup_run, ↓eList_run, ↓eLst_run, ↓eCallB_run, ↓eOnL_run, ↓eIsi_run, ↓eSl_run, ↓ePart_run, ↓eNoPart_run, ↓eChain_run, ↓eIxO_run, ↓eOwnL_run, ↓sNext_run, ↓sSeq_run, ↓sIf_run, ↓sExpr_run, ↓sRet_run, ↓sRetS_run, ↓sRetN_run, ↓sBreak_run, ↓sCont_run, ↓sAsg_run, ↓sSetS_run, ↓sPar_run, ↓sFor_run, ↓sWhile_run, ↓eIt1_run, ↓eIt2_run, ↓eIt3_run, ↓eLc_run, ↓eLc2_run, ↓sNewL_run, ↓sApp_run, ↓sSetIx_run, ↓sRetL_run, ↓sRetNew_run, ↓eCallP_run, ↓eCallE_run, ↓eVal_run, ↓eMake_run, ↓eFld_run, ↓sRaise_run, ↓sRaiseI_run, ↓sTry_run, ↓eIsx_run, ↓sPar3_run, ↓eNewL_run, ↓eNDisp_run, ↓eKDisp_run, ↓eEmptyK_run, ↓eNewN_run, ↓eKM_run, ↓eNGet_run, ↓eKGet_run, ↓eNGetO_run, ↓eCopyN_run, ↓sNPut_run, ↓aStar_run, ↓eRg1_run, ↓eIsi2_run, ↓eCopyL_run, ↓eNVals_run, ↓eJoin_run, ↓eSplit_run, ↓eBinOL_run, bind_ok, bind_exc, out_ok, out_exc, lift_some, obind_next, obind_ret, obind_exc, obind_brk, obind_cont, varR_run, slotR_run, asBl_run, allD_nil, allD_cons, asLst_run, asI_run, chR_run, ownK_run, ownKR_run, ownL_run, ownLR_run, someR_run, someO_run, ixI_run, parR_run, gN_run, gsNil_run, gsCons_run, itSeq_lst, itSeq_tup, itEn_lst, itEn_tup, itZ_lst, itZ_tup, wipeR_nil, wipeR_cons, setIxR_run, finP_ret, finP_next, finP_exc, finE_ret, finE_next, finE_exc, callR_ok, callR_err, valR_run, makeR_ok, makeR_exc, opAdd_int, opI_run, opB_run, opMulA_int, opEq_run, opNe_run, opIsN_run, opNotN_run, opIx_tup, opIx_lst, opNeg_run, oLen_tup, oLen_lst, oInt_int, oInt_bl, oTuple_tup, oTuple_lst, oList_tup, oList_lst, oTupleL_run, oListL_run, oLenL_run, isi_int_non, isi_int_bl, isi_int_int, isi_int_str, isi_int_tup, isi_int_lst, isi_bool_non, isi_bool_bl, isi_bool_int, isi_bool_str, isi_bool_tup, isi_bool_lst, isi_tuple_non, isi_tuple_bl, isi_tuple_int, isi_tuple_str, isi_tuple_tup, isi_tuple_lst, isi_str_non, isi_str_bl, isi_str_int, isi_str_str, isi_str_tup, isi_str_lst, isi_list_non, isi_list_bl, isi_list_int, isi_list_str, isi_list_tup, isi_list_lst, atI_0, atI_1, atI_2, atI_3, atI_4, atI_5, atI_6, atI_7, atI_8, ixN_1_0, ixN_2_0, ixN_2_1, ixN_3_0, ixN_3_1, ixN_3_2, ixN_4_0, ixN_4_1, ixN_4_2, ixN_4_3, ixN_5_0, ixN_5_1, ixN_5_2, ixN_5_3, ixN_5_4, eqD_int, eqD_bl, eqD_non_non, isNon_non, isNon_bl, isNon_int, isNon_str, isNon_tup, isNon_lst, Option.map_some, Option.map_none, Option.bind_some, List.getElem?_cons_zero, List.getElem?_cons_succ, List.set_cons_zero, List.set_cons_succ, List.map_cons, List.map_nil, List.length_cons, List.length_nil, List.cons_append, List.nil_append, rho0, List.replicate, List.take_succ_cons, List.take_zero, List.take_nil, List.take_length, and_self, Bool.false_eq_true, Bool.not_true, Bool.not_false, decide_true, decide_false, raiseI_run1, raiseI_run2, tryO_next, tryO_ret, tryH_nil, unbind_next, unbind_ret, eXf_run, par3R_run, newLR_0, newLR_1, kmR_run, kmR2_run, asK_run, asN_run, getRL_run, getKL_run, ngo0_run, ngo1_run, ngoR_run, ownN_run, ownNR_run, npK_run, starR_run, itNItems_run, itNKeys_run, oDictK_run, opIn2_K, opKIx_run, keyK_int, copyLR_lst, copyLR_tup, gT2_run, nValsD_run, Option.getD_some, tup_0, lst_0, tup_1, lst_1, tup_2, lst_2, tup_3, lst_3, tup_4, lst_4, tup_5, lst_5, tup_6, lst_6, tup_7, lst_7, tup_8, lst_8, tup_9, lst_9, tup_10, lst_10, tup_11, lst_11, tup_12, lst_12, new_0, new_1, new_2, new_3, new_4, new_5, joinR_run, ↓reduceIte, Nat.reduceAdd, $xs,*] at $h:ident)
theorem tl_digits : TL.tl ("0123456789" : Str) = [48, 49, 50, 51, 52, 53, 54, 55, 56, 57] := by decide +kernel
theorem oLen_s {x : Str} (h : x.length ≤ 1000) : oLen [.str x] = some (.int x.length) := by
  unfold oLen
  dsimp only
  rw [if_pos (by show _ ≤ 16777216; omega)]
def sockW (s : List Int) : List Str := "strip" :: s.map numI
def plugW (p : Plug) : List Str := [("plug" : Str), numI p.1, numI p.2.1] ++ if p.2.2 then [("turns" : Str)] else []
theorem wd_strip : Wd "strip" := by
  unfold Wd
  have e : TL.tl ("strip" : Str) = [115, 116, 114, 105, 112] := by decide +kernel
  rw [e]; decide
theorem wd_plug : Wd "plug" := by
  unfold Wd
  have e : TL.tl ("plug" : Str) = [112, 108, 117, 103] := by decide +kernel
  rw [e]; decide
theorem wd_turns : Wd "turns" := by
  unfold Wd
  have e : TL.tl ("turns" : Str) = [116, 117, 114, 110, 115] := by decide +kernel
  rw [e]; decide
abbrev siR (ws : List Str) (x : Option SV) : Rho := [some (.val (.lst (ws.map D.str))), some (.own 0), x]
theorem strip_bd0 {W L L' : List D} {k low n : Int} (l9 : ((L.length : Int) == 9) = false) (lm : L.length < lim) (ap : L ++ [.int n] = L') 
    (c : (eqD (.lst L) (.lst []) = some true ∧ low = 0) ∨ (eqD (.lst L) (.lst []) = some false ∧ ∃ z, atI L (-1) = some (.int z) ∧ low = z + 1))
    (e : F_number_in [.lst W, .int k, .int 1, .int low, .int 300] = some (.ok (.int n))) :
    bd_strip_in_1 [some (.val (.lst W)), some (.own 0), some (.val (.int k))] [some (.lst L)] = .next [some (.val (.lst W)), some (.own 0), some (.val (.int k))] [some (.lst L')] := by
  unfold bd_strip_in_1
  rcases c with ⟨ne, rfl⟩ | ⟨ne, z, ix, rfl⟩
  · push_cast [l9, ne, e, ap, lm]
  · have ix : ixI L (.int (-1)) = some (.int z) := ix
    push_cast [l9, ne, e, ap, lm, ix]
abbrev wsD (ws : List Str) : D := .lst (ws.map D.str)
structure LnOk (x : Str) : Prop where
  len : x.length ≤ 1000
  sg : ∀ c ∈ TL.tl x, c ≠ 10 ∧ c < 128
theorem spl_mem {c : Nat} : ∀ (l acc : List Nat) (w : List Nat), w ∈ TL.spl [32] 0 acc l → c ∈ w → c ∈ acc ∨ c ∈ l
  | [], acc, w, hw, hc => by
    rw [TL.spl_nil, List.mem_singleton] at hw
    subst hw
    exact .inl hc
  | a :: l, acc, w, hw, hc => by
    by_cases h : TL.pre [32] (a :: l) = true
    · rw [TL.spl_hit h, List.mem_cons] at hw
      rcases hw with rfl | hw
      · exact .inl hc
      · rcases spl_mem l [] w hw hc with h' | h'
        · cases h'
        · exact .inr (List.mem_cons_of_mem _ h')
    · rw [TL.spl_miss (by simpa using h)] at hw
      rcases spl_mem l _ w hw hc with h' | h'
      · rcases List.mem_append.mp h' with h' | h'
        · exact .inl h'
        · exact .inr (by rw [List.mem_singleton] at h'; subst h'; exact List.mem_cons_self)
      · exact .inr (List.mem_cons_of_mem _ h')
theorem LnOk.parts {x w : Str} (h : LnOk x) (hw : w ∈ Txt.split x " ") : PyData.strOk w = true := strOk_of fun c hc => by
  have : TL.tl w ∈ TL.spl [32] 0 [] (TL.tl x) := by rw [← split_tl]; exact List.mem_map.mpr ⟨w, hw, rfl⟩
  rcases spl_mem _ _ _ this hc with h' | h'
  · cases h'
  · exact (h.sg c h').2
theorem split_sp_len {x : Str} (h : x.length ≤ 1000) : (Txt.split x " ").length ≤ lim := by
  have := splitD_sp h
  unfold splitD at this
  dsimp only at this
  split at this
  · rename_i q; exact q.2.2
  · cases this
theorem read_lc1 {x : Str} (h : LnOk x) {a b c d e f : Option SV} {ω : Om} : lc_read_1 [a, b, c, d, e, f, some (.val (.str x)), none] ω = .ok (wsD (toks x)) ω := by
  have sp := splitD_sp h.len
  have l := lcT (tg := gN 7) (tt := eTest (eBin opNe (eVar 7) (eC (.str "")))) (el := eVar 7) (ρ := [a, b, c, d, e, f, some (.val (.str x)), none]) (ω := ω) D.str (fun w => !(w == "")) D.str (Txt.split x " ") [] (by rw [List.length_nil, Nat.zero_add]; exact split_sp_len h.len) (fun w hw => by
    have eq := eqD_str (h.parts hw) (show PyData.strOk "" = true from by decide +kernel)
    refine ⟨_, rfl, ?_, fun _ => ?_⟩
    · push_cast [eq]
    · push_cast [])
  unfold lc_read_1
  have it : itSeq (.lst ((Txt.split x " ").map D.str)) = some ((Txt.split x " ").map D.str) := rfl
  rw [List.nil_append] at l
  have tk : (Txt.split x " ").filter (fun w : Str => !(w == "")) = toks x := rfl
  rw [tk] at l
  generalize (Txt.split x " ").map D.str = S at *
  push_cast [sp, it, l]
theorem read_lc2 {T : Str} {ls : List Str} (hs : splitD T (.str "\n") = some (wsD ls)) (hl : ls.length ≤ 100) (h : ∀ x ∈ ls, LnOk x) {b c d e f : Option SV} {ω : Om} :
    lc_read_2 [some (.val (.str T)), b, c, d, e, f, none, none] ω = .ok (.lst (ls.map fun x => wsD (toks x))) ω := by
  have l := lcT (tg := gN 6) (tt := eTrue) (el := lc_read_1) (ρ := [some (.val (.str T)), b, c, d, e, f, none, none]) (ω := ω) D.str (fun _ => true) (fun x => wsD (toks x)) ls [] (by rw [List.length_nil]; show _ ≤ 16777216; omega) (fun x hx => ⟨_, rfl, rfl, fun _ => read_lc1 (h x hx)⟩)
  rw [List.nil_append, List.filter_eq_self.mpr fun _ _ => rfl] at l
  have it : itSeq (wsD ls) = some (ls.map D.str) := rfl
  unfold lc_read_2
  generalize wsD ls = V at *
  generalize ls.map D.str = S at *
  push_cast [hs, it, l]
theorem atI_head {d : D} {ds : List D} : atI (d :: ds) 0 = some d := by
  unfold atI ixN
  simp
theorem cut1L (d : D) (ds : List D) : slD (some 1) none (.lst (d :: ds)) = some (.lst ds) := by
  have := cut1 (d :: ds)
  unfold slD at this ⊢
  dsimp only at this ⊢
  injection this with h
  injection h with h
  rw [h]; rfl
abbrev lineS (s : List Int) : Str := Txt.join " " (sockW s)
abbrev lineP (p : Plug) : Str := Txt.join " " (plugW p)
abbrev linesW (s : List Int) (ps : List Plug) : List Str := lineS s :: ps.map lineP
theorem sockW_wd {s : List Int} (h : Socks s) : ∀ w ∈ sockW s, Wd w ∧ w.length ≤ 5 := by
  intro w hw
  rcases List.mem_cons.mp hw with rfl | hw
  · exact ⟨wd_strip, by decide +kernel⟩
  · obtain ⟨x, hx, rfl⟩ := List.mem_map.mp hw
    obtain ⟨a, b⟩ := h.rg x hx
    have := numI_len (i := x) a (by omega)
    exact ⟨wd_num a, by omega⟩
theorem plugW_wd {p : Plug} (h : PlugOk p) : ∀ w ∈ plugW p, Wd w ∧ w.length ≤ 5 := by
  obtain ⟨l, r, t⟩ := p
  obtain ⟨l0, l1, r0, r1⟩ : 0 ≤ l ∧ l ≤ 60 ∧ 0 ≤ r ∧ r ≤ 60 := ⟨h.l0, h.l1, h.r0, h.r1⟩
  have n1 := numI_len (i := l) l0 (by omega)
  have n2 := numI_len (i := r) r0 (by omega)
  intro w hw
  rcases List.mem_append.mp hw with hw | hw
  · simp only [List.mem_cons, List.not_mem_nil, or_false] at hw
    rcases hw with rfl | rfl | rfl
    · exact ⟨wd_plug, by decide +kernel⟩
    · exact ⟨wd_num l0, by show (numI l).length ≤ 5; omega⟩
    · exact ⟨wd_num r0, by show (numI r).length ≤ 5; omega⟩
  · cases t with
    | true => 
      rw [if_pos rfl, List.mem_singleton] at hw
      subst hw
      exact ⟨wd_turns, by decide +kernel⟩
    | false => rw [if_neg Bool.false_ne_true] at hw; cases hw
theorem plugW_len (p : Plug) : (plugW p).length ≤ 4 := by
  obtain ⟨l, r, t⟩ := p
  cases t
  · exact (by decide : 3 ≤ 4)
  · exact Nat.le_refl 4
theorem sockW_len (s : List Int) : (sockW s).length = s.length + 1 := by unfold sockW; rw [List.length_cons, List.length_map]
theorem ln_join {ws : List Str} (h : ∀ w ∈ ws, Wd w ∧ w.length ≤ 5) (hl : ws.length ≤ 10) : LnOk (Txt.join " " ws) where
  len := by
    have := join_len " " 5 fun w hw => (h w hw).2
    have e : (" " : Str).length = 1 := by decide +kernel
    rw [e] at this
    omega
  sg := fun c hc => by
    rcases join_mem hc with h' | ⟨w, hw, h'⟩
    · rw [tl_sp, List.mem_singleton] at h'
      omega
    · have := (h w hw).1.2 c h'
      omega
theorem join5 {ws : List Str} (h : ∀ w ∈ ws, Wd w ∧ w.length ≤ 5) (hl : ws.length ≤ 10) : joinD " " (ws.map D.str) = some (.str (Txt.join " " ws)) := joinD_run (by
  have := sum_le (·.length) 5 ws fun w hw => (h w hw).2
  have e : (" " : Str).length = 1 := by decide +kernel
  rw [e]
  omega)
end Pk
namespace Pk
open PySem Dl L2
local macro_rules
  | `(tactic| push_cast [$xs,*]) => `(tactic| simp -implicitDefEqProofs only [↓eC_run, ↓eVar_run, ↓eSlot_run, ↓eBin_run, ↓eUn_run, ↓eTest_run, ↓eAndT_run, ↓eOrT_run, ↓eNotT_run, ↓eTrue_run, ↓eAnd_run, ↓eOr_run, ↓eNot_run, ↓eIf_run, ↓aNil_run, ↓aCons_run, ↓aVal_run, ↓eTup_run, ↓eList_run, ↓eLst_run, ↓eCallB_run, ↓eOnL_run, ↓eIsi_run, ↓eSl_run, ↓ePart_run, ↓eNoPart_run, ↓eChain_run, ↓eIxO_run, ↓eOwnL_run, ↓sNext_run, ↓sSeq_run, ↓sIf_run, ↓sExpr_run, ↓sRet_run, ↓sRetS_run, ↓sRetN_run, ↓sBreak_run, ↓sCont_run, ↓sAsg_run, ↓sSetS_run, ↓sPar_run, ↓sFor_run, ↓sWhile_run, ↓eIt1_run, ↓eIt2_run, ↓eIt3_run, ↓eLc_run, ↓eLc2_run, ↓sNewL_run, ↓sApp_run, ↓sSetIx_run, ↓sRetL_run, ↓sRetNew_run, ↓eCallP_run, ↓eCallE_run, ↓eVal_run, ↓eMake_run, ↓eFld_run, ↓sRaise_run, ↓sRaiseI_run, ↓sTry_run, ↓eIsx_run, ↓sPar3_run, ↓eNewL_run, ↓eNDisp_run, ↓eKDisp_run, ↓eEmptyK_run, ↓eNewN_run, ↓eKM_run, ↓eNGet_run, ↓eKGet_run, ↓eNGetO_run, ↓eCopyN_run, ↓sNPut_run, ↓aStar_run, ↓eRg1_run, ↓eIsi2_run, ↓eCopyL_run, ↓eNVals_run, ↓eJoin_run, ↓eSplit_run, ↓eBinOL_run, ↓eProp_run, bind_ok, bind_exc, out_ok, out_exc, lift_some, obind_next, obind_ret, obind_exc, obind_brk, obind_cont, varR_run, slotR_run, asBl_run, allD_nil, allD_cons, asLst_run, asI_run, chR_run, ownK_run, ownKR_run, ownL_run, ownLR_run, someR_run, someO_run, ixI_run, parR_run, gN_run, gsNil_run, gsCons_run, itSeq_lst, itSeq_tup, itEn_lst, itEn_tup, itZ_lst, itZ_tup, wipeR_nil, wipeR_cons, setIxR_run, finP_ret, finP_next, finP_exc, finE_ret, finE_next, finE_exc, callR_ok, callR_err, valR_run, makeR_ok, makeR_exc, opAdd_int, opI_run, opB_run, opMulA_int, opEq_run, opNe_run, opIsN_run, opNotN_run, opIx_tup, opIx_lst, opNeg_run, oLen_tup, oLen_lst, oInt_int, oInt_bl, oTuple_tup, oTuple_lst, oList_tup, oList_lst, oTupleL_run, oListL_run, oLenL_run, isi_int_non, isi_int_bl, isi_int_int, isi_int_str, isi_int_tup, isi_int_lst, isi_bool_non, isi_bool_bl, isi_bool_int, isi_bool_str, isi_bool_tup, isi_bool_lst, isi_tuple_non, isi_tuple_bl, isi_tuple_int, isi_tuple_str, isi_tuple_tup, isi_tuple_lst, isi_str_non, isi_str_bl, isi_str_int, isi_str_str, isi_str_tup, isi_str_lst, isi_list_non, isi_list_bl, isi_list_int, isi_list_str, isi_list_tup, isi_list_lst, atI_0, atI_1, atI_2, atI_3, atI_4, atI_5, atI_6, atI_7, atI_8, ixN_1_0, ixN_2_0, ixN_2_1, ixN_3_0, ixN_3_1, ixN_3_2, ixN_4_0, ixN_4_1, ixN_4_2, ixN_4_3, ixN_5_0, ixN_5_1, ixN_5_2, ixN_5_3, ixN_5_4, eqD_int, eqD_bl, eqD_non_non, isNon_non, isNon_bl, isNon_int, isNon_str, isNon_tup, isNon_lst, Option.map_some, Option.map_none, Option.bind_some, List.getElem?_cons_zero, List.getElem?_cons_succ, List.set_cons_zero, List.set_cons_succ, List.map_cons, List.map_nil, List.length_cons, List.length_nil, List.cons_append, List.nil_append, rho0, List.replicate, List.take_succ_cons, List.take_zero, List.take_nil, List.take_length, and_self, Bool.false_eq_true, Bool.not_true, Bool.not_false, decide_true, decide_false, raiseI_run1, raiseI_run2, tryO_next, tryO_ret, tryH_nil, unbind_next, unbind_ret, eXf_run, par3R_run, newLR_0, newLR_1, kmR_run, kmR2_run, asK_run, asN_run, getRL_run, getKL_run, ngo0_run, ngo1_run, ngoR_run, ownN_run, ownNR_run, npK_run, starR_run, itNItems_run, itNKeys_run, oDictK_run, opIn2_K, opKIx_run, keyK_int, copyLR_lst, copyLR_tup, gT2_run, nValsD_run, Option.getD_some, tup_0, lst_0, tup_1, lst_1, tup_2, lst_2, tup_3, lst_3, tup_4, lst_4, tup_5, lst_5, tup_6, lst_6, tup_7, lst_7, tup_8, lst_8, tup_9, lst_9, tup_10, lst_10, tup_11, lst_11, tup_12, lst_12, new_0, new_1, new_2, new_3, new_4, new_5, joinR_run, ↓reduceIte, Nat.reduceAdd, $xs,*])
  | `(tactic| push_cast [$xs,*] at $h:ident) => `(tactic| simp -implicitDefEqProofs only [↓eC_run, ↓eVar_run, ↓eSlot_run, ↓eBin_run, ↓eUn_run, ↓eTest_run, ↓eAndT_run, ↓eOrT_run, ↓eNotT_run, ↓eTrue_run, ↓eAnd_run, ↓eOr_run, ↓eNot_run, ↓eIf_run, ↓aNil_run, ↓aCons_run, ↓aVal_run, ↓eTup_run, ↓eList_run, ↓eLst_run, ↓eCallB_run, ↓eOnL_run, ↓eIsi_run, ↓eSl_run, ↓ePart_run, ↓eNoPart_run, ↓eChain_run, ↓eIxO_run, ↓eOwnL_run, ↓sNext_run, ↓sSeq_run, ↓sIf_run, ↓sExpr_run, ↓sRet_run, ↓sRetS_run, ↓sRetN_run, ↓sBreak_run, ↓sCont_run, ↓sAsg_run, ↓sSetS_run, ↓sPar_run, ↓sFor_run, ↓sWhile_run, ↓eIt1_run, ↓eIt2_run, ↓eIt3_run, ↓eLc_run, ↓eLc2_run, ↓sNewL_run, ↓sApp_run, ↓sSetIx_run, ↓sRetL_run, ↓sRetNew_run, ↓eCallP_run, ↓eCallE_run, ↓eVal_run, ↓eMake_run, ↓eFld_run, ↓sRaise_run, ↓sRaiseI_run, ↓sTry_run, ↓eIsx_run, ↓sPar3_run, ↓eNewL_run, ↓eNDisp_run, ↓eKDisp_run, ↓eEmptyK_run, ↓eNewN_run, ↓eKM_run, ↓eNGet_run, ↓eKGet_run, ↓eNGetO_run, ↓eCopyN_run, ↓sNPut_run, ↓aStar_run, ↓eRg1_run, ↓eIsi2_run, ↓eCopyL_run, ↓eNVals_run, ↓eJoin_run, ↓eSplit_run, ↓eBinOL_run, ↓eProp_run, bind_ok, bind_exc, out_ok, out_exc, lift_some, obind_next, obind_ret, obind_exc, obind_brk, obind_cont, varR_run, slotR_run, asBl_run, allD_nil, allD_cons, asLst_run, asI_run, chR_run, ownK_run, ownKR_run, ownL_run, ownLR_run, someR_run, someO_run, ixI_run, parR_run, gN_run, gsNil_run, gsCons_run, itSeq_lst, itSeq_tup, itEn_lst, itEn_tup, itZ_lst, itZ_tup, wipeR_nil, wipeR_cons, setIxR_run, finP_ret, finP_next, finP_exc, finE_ret, finE_next, finE_exc, callR_ok, callR_err, valR_run, makeR_ok, makeR_exc, opAdd_int, opI_run, opB_run, opMulA_int, opEq_run, opNe_run, opIsN_run, opNotN_run, opIx_tup, opIx_lst, opNeg_run, oLen_tup, oLen_lst, oInt_int, oInt_bl, oTuple_tup, oTuple_lst, oList_tup, oList_lst, oTupleL_run, oListL_run, oLenL_run, isi_int_non, isi_int_bl, isi_int_int, isi_int_str, isi_int_tup, isi_int_lst, isi_bool_non, isi_bool_bl, isi_bool_int, isi_bool_str, isi_bool_tup, isi_bool_lst, isi_tuple_non, isi_tuple_bl, isi_tuple_int, isi_tuple_str, isi_tuple_tup, isi_tuple_lst, isi_str_non, isi_str_bl, isi_str_int, isi_str_str, isi_str_tup, isi_str_lst, isi_list_non, isi_list_bl, isi_list_int, isi_list_str, isi_list_tup, isi_list_lst, atI_0, atI_1, atI_2, atI_3, atI_4, atI_5, atI_6, atI_7, atI_8, ixN_1_0, ixN_2_0, ixN_2_1, ixN_3_0, ixN_3_1, ixN_3_2, ixN_4_0, ixN_4_1, ixN_4_2, ixN_4_3, ixN_5_0, ixN_5_1, ixN_5_2, ixN_5_3, ixN_5_4, eqD_int, eqD_bl, eqD_non_non, isNon_non, isNon_bl, isNon_int, isNon_str, isNon_tup, isNon_lst, Option.map_some, Option.map_none, Option.bind_some, List.getElem?_cons_zero, List.getElem?_cons_succ, List.set_cons_zero, List.set_cons_succ, List.map_cons, List.map_nil, List.length_cons, List.length_nil, List.cons_append, List.nil_append, rho0, List.replicate, List.take_succ_cons, List.take_zero, List.take_nil, List.take_length, and_self, Bool.false_eq_true, Bool.not_true, Bool.not_false, decide_true, decide_false, raiseI_run1, raiseI_run2, tryO_next, tryO_ret, tryH_nil, unbind_next, unbind_ret, eXf_run, par3R_run, newLR_0, newLR_1, kmR_run, kmR2_run, asK_run, asN_run, getRL_run, getKL_run, ngo0_run, ngo1_run, ngoR_run, ownN_run, ownNR_run, npK_run, starR_run, itNItems_run, itNKeys_run, oDictK_run, opIn2_K, opKIx_run, keyK_int, copyLR_lst, copyLR_tup, gT2_run, nValsD_run, Option.getD_some, tup_0, lst_0, tup_1, lst_1, tup_2, lst_2, tup_3, lst_3, tup_4, lst_4, tup_5, lst_5, tup_6, lst_6, tup_7, lst_7, tup_8, lst_8, tup_9, lst_9, tup_10, lst_10, tup_11, lst_11, tup_12, lst_12, new_0, new_1, new_2, new_3, new_4, new_5, joinR_run, ↓reduceIte, Nat.reduceAdd, $xs,*] at $h:ident)
theorem nums_lc {s : List Int} (h : Socks s) (h9 : s.length ≤ 9) {ρ : Rho} (hρ : ∀ d, (gN 6) d ρ = some (ρ.set 6 (some (.val d)))) (hg : ∀ d, (ρ.set 6 (some (.val d)))[6]? = some (some (.val d))) {ω : Om} :
    lcL (gN 6) eTrue (eCallB oStr (aCons (aVal (eVar 6)) aNil)) ρ (s.map D.int) [] ω = .ok (wsD (s.map numI)) ω := by
  have l := lcT (tg := gN 6) (tt := eTrue) (el := eCallB oStr (aCons (aVal (eVar 6)) aNil)) (ρ := ρ) (ω := ω) D.int (fun _ => true) (fun x => D.str (numI x)) s [] (by rw [List.length_nil]; show _ ≤ 16777216; omega) (fun x hx => ⟨_, hρ _, rfl, fun _ => by
    obtain ⟨a, b⟩ := h.rg x hx
    have s1 := oStr_run a (by omega)
    have g := hg (.int x)
    generalize ρ.set 6 (some (.val (.int x))) = R at *
    push_cast [g, s1]⟩)
  rw [List.nil_append, List.filter_eq_self.mpr fun _ _ => rfl] at l
  rw [l]
  show Res.ok (D.lst (s.map (D.str ∘ numI))) ω = _
  rw [← List.map_map]
theorem lineP_eq {l r : Int} {t : Bool} (h : PlugOk (l, r, t)) : (((("plug " : Str) ++ numI l) ++ (" " : Str)) ++ numI r) ++ (if t = true then (" turns" : Str) else ("" : Str)) = lineP (l, r, t) := by
  refine TL.ext_tl ?_
  have e1 : TL.tl ("plug " : Str) = TL.tl ("plug" : Str) ++ [32] := by decide +kernel
  have e2 : TL.tl (" turns" : Str) = 32 :: TL.tl ("turns" : Str) := by decide +kernel
  show _ = TL.tl (Txt.join " " (plugW (l, r, t)))
  rw [TL.tl_append, TL.tl_append, TL.tl_append, TL.tl_append, TL.join_eq, TL.tl_join, tl_sp, e1]
  cases t with
  | true =>
    rw [if_pos rfl, e2]
    show _ = TL.tl ("plug" : Str) ++ ([32] ++ (TL.tl (numI l) ++ ([32] ++ (TL.tl (numI r) ++ ([32] ++ TL.tl ("turns" : Str))))))
    simp
  | false =>
    rw [if_neg Bool.false_ne_true, tl_nil]
    show _ = TL.tl ("plug" : Str) ++ ([32] ++ (TL.tl (numI l) ++ ([32] ++ TL.tl (numI r))))
    simp
theorem opAdd_s {a b : Str} (h : a.length + b.length ≤ 1000) : opAdd (.str a) (.str b) = some (.str (a ++ b)) := by
  show (if a.length + b.length ≤ lim then some (D.str (a ++ b)) else none) = _
  rw [if_pos (by show _ ≤ 16777216; omega)]
theorem app_len (a b : Str) : (a ++ b).length = a.length + b.length := by
  rw [TL.len_tl, TL.tl_append, List.length_append, ← TL.len_tl, ← TL.len_tl]
abbrev l21 (ns : List Int) (x2 x3 x4 x5 x6 x7 x8 x9 x10 x11 : Option SV) : Rho := [some (.val (.lst (ns.map D.int))), some (.own 0), x2, x3, x4, x5, x6, x7, x8, x9, x10, x11]
section
variable {ns : List Int} {rest ω : Om} {x2 x3 x4 x5 x6 x7 x8 x9 x10 x11 : Option SV}
end
section
variable {ns : List Int} {rest ω : Om} {x2 x3 x4 x5 x6 x7 x8 x9 x10 x11 : Option SV}
end
theorem saysEq_s (s : List Int) : saysEq F_Strip_d__eq_d_ (stripD s) (stripD s) = true := by
  unfold saysEq
  rw [own_eq, decide_eq_true rfl]
theorem neT_run {s : List Int} {ps : List Plug} : opNeT "Strip" F_Strip_d__eq_d_ (.tup [stripD s, plugsD ps]) (.tup [stripD s, plugsD ps]) = some (.bl false) := by
  have e2 : eqItem "Strip" F_Strip_d__eq_d_ (plugsD ps) (plugsD ps) = true := by
    unfold eqItem
    rw [show (Dl.isObj "Strip" (plugsD ps) && Dl.isObj "Strip" (plugsD ps)) = false from rfl, if_neg Bool.false_ne_true]
    rw [eqD_refl 3 (by unfold plugsD; rw [dOk, List.all_map, List.all_eq_true]; intro p _; rfl) (by decide)]; rfl
  have e1 : eqItem "Strip" F_Strip_d__eq_d_ (stripD s) (stripD s) = true := by
    unfold eqItem
    rw [isObj_s]
    exact saysEq_s s
  unfold opNeT
  dsimp only
  rw [eqItems, eqItems, eqItems, e1, e2]; rfl
section
variable {ns : List Int} {rest ω : Om} {s : List Int} {ps : List Plug} {x2 x3 x4 x5 x6 x7 x8 x9 x10 x11 : Option SV}
end
section
variable {ns : List Int} {rest ω : Om} {x2 x3 x4 x5 x6 x7 x8 x9 x10 x11 : Option SV}
end
end Pk
namespace Pk
open PySem Dl L2
local macro_rules
  | `(tactic| push_cast [$xs,*]) => `(tactic| simp -implicitDefEqProofs only [↓eC_run, ↓eVar_run, ↓eSlot_run, ↓eBin_run, ↓eUn_run, ↓eTest_run, ↓eAndT_run, ↓eOrT_run, ↓eNotT_run, ↓eTrue_run, ↓eAnd_run, ↓eOr_run, ↓eNot_run, ↓eIf_run, ↓aNil_run, ↓aCons_run, ↓aVal_run, ↓eTup_run, ↓eList_run, ↓eLst_run, ↓eCallB_run, ↓eOnL_run, ↓eIsi_run, ↓eSl_run, ↓ePart_run, ↓eNoPart_run, ↓eChain_run, ↓eIxO_run, ↓eOwnL_run, ↓sNext_run, ↓sSeq_run, ↓sIf_run, ↓sExpr_run, ↓sRet_run, ↓sRetS_run, ↓sRetN_run, ↓sBreak_run, ↓sCont_run, ↓sAsg_run, ↓sSetS_run, ↓sPar_run, ↓sFor_run, ↓sWhile_run, ↓eIt1_run, ↓eIt2_run, ↓eIt3_run, ↓eLc_run, ↓eLc2_run, ↓sNewL_run, ↓sApp_run, ↓sSetIx_run, ↓sRetL_run, ↓sRetNew_run, ↓eCallP_run, ↓eCallE_run, ↓eVal_run, ↓eMake_run, ↓eFld_run, ↓sRaise_run, ↓sRaiseI_run, ↓sTry_run, ↓eIsx_run, ↓sPar3_run, ↓eNewL_run, ↓eNDisp_run, ↓eKDisp_run, ↓eEmptyK_run, ↓eNewN_run, ↓eKM_run, ↓eNGet_run, ↓eKGet_run, ↓eNGetO_run, ↓eCopyN_run, ↓sNPut_run, ↓aStar_run, ↓eRg1_run, ↓eIsi2_run, ↓eCopyL_run, ↓eNVals_run, ↓eJoin_run, ↓eSplit_run, ↓eBinOL_run, bind_ok, bind_exc, out_ok, out_exc, lift_some, obind_next, obind_ret, obind_exc, obind_brk, obind_cont, varR_run, slotR_run, asBl_run, allD_nil, allD_cons, asLst_run, asI_run, chR_run, ownK_run, ownKR_run, ownL_run, ownLR_run, someR_run, someO_run, ixI_run, parR_run, gN_run, gsNil_run, gsCons_run, itSeq_lst, itSeq_tup, itEn_lst, itEn_tup, itZ_lst, itZ_tup, wipeR_nil, wipeR_cons, setIxR_run, finP_ret, finP_next, finP_exc, finE_ret, finE_next, finE_exc, callR_ok, callR_err, valR_run, makeR_ok, makeR_exc, opAdd_int, opI_run, opB_run, opMulA_int, opEq_run, opNe_run, opIsN_run, opNotN_run, opIx_tup, opIx_lst, opNeg_run, oLen_tup, oLen_lst, oInt_int, oInt_bl, oTuple_tup, oTuple_lst, oList_tup, oList_lst, oTupleL_run, oListL_run, oLenL_run, isi_int_non, isi_int_bl, isi_int_int, isi_int_str, isi_int_tup, isi_int_lst, isi_bool_non, isi_bool_bl, isi_bool_int, isi_bool_str, isi_bool_tup, isi_bool_lst, isi_tuple_non, isi_tuple_bl, isi_tuple_int, isi_tuple_str, isi_tuple_tup, isi_tuple_lst, isi_str_non, isi_str_bl, isi_str_int, isi_str_str, isi_str_tup, isi_str_lst, isi_list_non, isi_list_bl, isi_list_int, isi_list_str, isi_list_tup, isi_list_lst, atI_0, atI_1, atI_2, atI_3, atI_4, atI_5, atI_6, atI_7, atI_8, ixN_1_0, ixN_2_0, ixN_2_1, ixN_3_0, ixN_3_1, ixN_3_2, ixN_4_0, ixN_4_1, ixN_4_2, ixN_4_3, ixN_5_0, ixN_5_1, ixN_5_2, ixN_5_3, ixN_5_4, eqD_int, eqD_bl, eqD_non_non, isNon_non, isNon_bl, isNon_int, isNon_str, isNon_tup, isNon_lst, Option.map_some, Option.map_none, Option.bind_some, List.getElem?_cons_zero, List.getElem?_cons_succ, List.set_cons_zero, List.set_cons_succ, List.map_cons, List.map_nil, List.length_cons, List.length_nil, List.cons_append, List.nil_append, rho0, List.replicate, List.take_succ_cons, List.take_zero, List.take_nil, List.take_length, and_self, Bool.false_eq_true, Bool.not_true, Bool.not_false, decide_true, decide_false, raiseI_run1, raiseI_run2, tryO_next, tryO_ret, tryH_nil, unbind_next, unbind_ret, eXf_run, par3R_run, newLR_0, newLR_1, kmR_run, kmR2_run, asK_run, asN_run, getRL_run, getKL_run, ngo0_run, ngo1_run, ngoR_run, ownN_run, ownNR_run, npK_run, starR_run, itNItems_run, itNKeys_run, oDictK_run, opIn2_K, opKIx_run, keyK_int, copyLR_lst, copyLR_tup, gT2_run, nValsD_run, Option.getD_some, tup_0, lst_0, tup_1, lst_1, tup_2, lst_2, tup_3, lst_3, tup_4, lst_4, tup_5, lst_5, tup_6, lst_6, tup_7, lst_7, tup_8, lst_8, tup_9, lst_9, tup_10, lst_10, tup_11, lst_11, tup_12, lst_12, new_0, new_1, new_2, new_3, new_4, new_5, joinR_run, ↓reduceIte, Nat.reduceAdd, $xs,*])
  | `(tactic| push_cast [$xs,*] at $h:ident) => `(tactic| simp -implicitDefEqProofs only [↓eC_run, ↓eVar_run, ↓eSlot_run, ↓eBin_run, ↓eUn_run, ↓eTest_run, ↓eAndT_run, ↓eOrT_run, ↓eNotT_run, ↓eTrue_run, ↓eAnd_run, ↓eOr_run, ↓eNot_run, ↓eIf_run, ↓aNil_run, ↓aCons_run, ↓aVal_run, ↓eTup_run, ↓eList_run, ↓eLst_run, ↓eCallB_run, ↓eOnL_run, ↓eIsi_run, ↓eSl_run, ↓ePart_run, ↓eNoPart_run, ↓eChain_run, ↓eIxO_run, ↓eOwnL_run, ↓sNext_run, ↓sSeq_run, ↓sIf_run, ↓sExpr_run, ↓sRet_run, ↓sRetS_run, ↓sRetN_run, ↓sBreak_run, ↓sCont_run, ↓sAsg_run, ↓sSetS_run, ↓sPar_run, ↓sFor_run, ↓sWhile_run, ↓eIt1_run, ↓eIt2_run, ↓eIt3_run, ↓eLc_run, ↓eLc2_run, ↓sNewL_run, ↓sApp_run, ↓sSetIx_run, ↓sRetL_run, ↓sRetNew_run, ↓eCallP_run, ↓eCallE_run, ↓eVal_run, ↓eMake_run, ↓eFld_run, ↓sRaise_run, ↓sRaiseI_run, ↓sTry_run, ↓eIsx_run, ↓sPar3_run, ↓eNewL_run, ↓eNDisp_run, ↓eKDisp_run, ↓eEmptyK_run, ↓eNewN_run, ↓eKM_run, ↓eNGet_run, ↓eKGet_run, ↓eNGetO_run, ↓eCopyN_run, ↓sNPut_run, ↓aStar_run, ↓eRg1_run, ↓eIsi2_run, ↓eCopyL_run, ↓eNVals_run, ↓eJoin_run, ↓eSplit_run, ↓eBinOL_run, bind_ok, bind_exc, out_ok, out_exc, lift_some, obind_next, obind_ret, obind_exc, obind_brk, obind_cont, varR_run, slotR_run, asBl_run, allD_nil, allD_cons, asLst_run, asI_run, chR_run, ownK_run, ownKR_run, ownL_run, ownLR_run, someR_run, someO_run, ixI_run, parR_run, gN_run, gsNil_run, gsCons_run, itSeq_lst, itSeq_tup, itEn_lst, itEn_tup, itZ_lst, itZ_tup, wipeR_nil, wipeR_cons, setIxR_run, finP_ret, finP_next, finP_exc, finE_ret, finE_next, finE_exc, callR_ok, callR_err, valR_run, makeR_ok, makeR_exc, opAdd_int, opI_run, opB_run, opMulA_int, opEq_run, opNe_run, opIsN_run, opNotN_run, opIx_tup, opIx_lst, opNeg_run, oLen_tup, oLen_lst, oInt_int, oInt_bl, oTuple_tup, oTuple_lst, oList_tup, oList_lst, oTupleL_run, oListL_run, oLenL_run, isi_int_non, isi_int_bl, isi_int_int, isi_int_str, isi_int_tup, isi_int_lst, isi_bool_non, isi_bool_bl, isi_bool_int, isi_bool_str, isi_bool_tup, isi_bool_lst, isi_tuple_non, isi_tuple_bl, isi_tuple_int, isi_tuple_str, isi_tuple_tup, isi_tuple_lst, isi_str_non, isi_str_bl, isi_str_int, isi_str_str, isi_str_tup, isi_str_lst, isi_list_non, isi_list_bl, isi_list_int, isi_list_str, isi_list_tup, isi_list_lst, atI_0, atI_1, atI_2, atI_3, atI_4, atI_5, atI_6, atI_7, atI_8, ixN_1_0, ixN_2_0, ixN_2_1, ixN_3_0, ixN_3_1, ixN_3_2, ixN_4_0, ixN_4_1, ixN_4_2, ixN_4_3, ixN_5_0, ixN_5_1, ixN_5_2, ixN_5_3, ixN_5_4, eqD_int, eqD_bl, eqD_non_non, isNon_non, isNon_bl, isNon_int, isNon_str, isNon_tup, isNon_lst, Option.map_some, Option.map_none, Option.bind_some, List.getElem?_cons_zero, List.getElem?_cons_succ, List.set_cons_zero, List.set_cons_succ, List.map_cons, List.map_nil, List.length_cons, List.length_nil, List.cons_append, List.nil_append, rho0, List.replicate, List.take_succ_cons, List.take_zero, List.take_nil, List.take_length, and_self, Bool.false_eq_true, Bool.not_true, Bool.not_false, decide_true, decide_false, raiseI_run1, raiseI_run2, tryO_next, tryO_ret, tryH_nil, unbind_next, unbind_ret, eXf_run, par3R_run, newLR_0, newLR_1, kmR_run, kmR2_run, asK_run, asN_run, getRL_run, getKL_run, ngo0_run, ngo1_run, ngoR_run, ownN_run, ownNR_run, npK_run, starR_run, itNItems_run, itNKeys_run, oDictK_run, opIn2_K, opKIx_run, keyK_int, copyLR_lst, copyLR_tup, gT2_run, nValsD_run, Option.getD_some, tup_0, lst_0, tup_1, lst_1, tup_2, lst_2, tup_3, lst_3, tup_4, lst_4, tup_5, lst_5, tup_6, lst_6, tup_7, lst_7, tup_8, lst_8, tup_9, lst_9, tup_10, lst_10, tup_11, lst_11, tup_12, lst_12, new_0, new_1, new_2, new_3, new_4, new_5, joinR_run, ↓reduceIte, Nat.reduceAdd, $xs,*] at $h:ident)
abbrev isDig (c : Nat) : Bool := decide (48 ≤ c ∧ c ≤ 57)
def digT (w : Str) : Bool := (TL.tl w).all isDig
def valT (w : Str) : Int := ((NumText.digitsVal (TL.tl w) : Nat) : Int)
def goodN (w : Str) (lo hi : Int) : Bool := decide (w.length ≤ 3) && digT w && (numI (valT w) == w) && (decide (lo ≤ valT w) && decide (valT w ≤ hi))
def numAt (ws : List Str) (k : Nat) (lo hi : Int) : Option Int := match ws[k]? with
  | some w => if goodN w lo hi = true then some (valT w) else none
  | none => none
structure WsOk (ws : List Str) : Prop where
  ne : ∀ w ∈ ws, TL.tl w ≠ []
  ok : ∀ w ∈ ws, PyData.strOk w = true
  len : ∀ w ∈ ws, w.length ≤ 1000
theorem digs_val : ∀ (l : List Nat) (a : Nat), NumText.AllDigits l → l.foldl (fun acc c => acc * 10 + (c - 48)) a < (a + 1) * 10 ^ l.length
  | [], a, _ => by simp
  | c :: l, a, h => by
    have h1 := h.head
    have h2 := digs_val l (a * 10 + (c - 48)) h.tail
    rw [List.foldl_cons, List.length_cons, Nat.pow_succ]
    have h3 : a * 10 + (c - 48) + 1 ≤ (a + 1) * 10 := by omega
    calc _ < (a * 10 + (c - 48) + 1) * 10 ^ l.length := h2
      _ ≤ ((a + 1) * 10) * 10 ^ l.length := Nat.mul_le_mul_right _ h3
      _ = (a + 1) * (10 ^ l.length * 10) := by rw [Nat.mul_assoc, Nat.mul_comm 10]
theorem dig_all {w : Str} (h : digT w = true) : NumText.AllDigits (TL.tl w) := fun c hc => of_decide_eq_true (List.all_eq_true.mp h c hc)
theorem valT_rg {w : Str} (h : digT w = true) (h3 : w.length ≤ 3) : 0 ≤ valT w ∧ valT w < 1000 := by
  have := digs_val (TL.tl w) 0 (dig_all h)
  rw [TL.len_tl] at h3
  have h4 : 10 ^ (TL.tl w).length ≤ 10 ^ 3 := Nat.pow_le_pow_right (by decide) h3
  unfold valT NumText.digitsVal
  omega
theorem oIntS_val {w : Str} (h : digT w = true) (hne : TL.tl w ≠ []) (h3 : w.length ≤ 3) : oIntS [.str w] = some (.int (valT w)) := by
  unfold oIntS
  dsimp only
  rw [if_pos (by omega), intText_digits (dig_all h) hne (by omega)]; rfl
theorem in_digits2 {c : Nat} (neg : Bool) : opInS neg (.str ⟨#[c]⟩) (.str "0123456789") = some (.bl (if neg then !isDig c else isDig c)) := by
  have e : decide (c ∈ TL.tl ("0123456789" : Str)) = isDig c := by
    rw [tl_digits]
    have : (c ∈ [48, 49, 50, 51, 52, 53, 54, 55, 56, 57]) ↔ (48 ≤ c ∧ c ≤ 57) := by
      simp only [List.mem_cons, List.not_mem_nil, or_false]
      omega
    exact decide_eq_decide.mpr this
  show some (D.bl (if neg then !decide (c ∈ TL.tl ("0123456789" : Str)) else decide (c ∈ TL.tl ("0123456789" : Str)))) = _
  rw [e]
theorem number_lcA {w : Str} {a b c d e : Option SV} (hl : w.length ≤ 1000) {ω : Om} :
    lc_number_in_1 [a, b, c, d, e, some (.val (.str w)), none] ω = .ok (.lst ((TL.tl w).map fun c => .bl (isDig c))) ω := by
  have it : itStr (.str w) = some ((TL.tl w).map fun c => .str ⟨#[c]⟩) := rfl
  have e5 := lcT (tg := gN 6) (tt := eTrue) (el := eBin (opInS false) (eVar 6) (eC (.str "0123456789"))) (ρ := [a, b, c, d, e, some (.val (.str w)), none]) (ω := ω) (fun c : Nat => D.str ⟨#[c]⟩) (fun _ => true) (fun c => D.bl (isDig c)) (TL.tl w) [] (by rw [List.length_nil, ← TL.len_tl]; show _ ≤ 16777216; omega) (fun x _ => ⟨_, rfl, rfl, fun _ => by
    have i := in_digits2 (c := x) false
    rw [if_neg Bool.false_ne_true] at i
    push_cast [i]⟩)
  rw [List.nil_append, List.filter_eq_self.mpr fun _ _ => rfl] at e5
  unfold lc_number_in_1
  push_cast [it, e5]
theorem number_all {ws : List Str} (W : WsOk ws) {k : Nat} {line low high : Int} :
    F_number_in [wsD ws, .int (k : Int), .int line, .int low, .int high] = some (match numAt ws k low high with
      | some n => .ok (.int n)
      | none => .error ⟨"BadLine", [("word", .int ((k : Int) + 1)), ("line", .int line)]⟩) := by
  have ol : oLen [wsD ws] = some (.int (ws.length : Int)) := by rw [oLen_lst, List.length_map]
  unfold F_number_in
  rw [fnP_run (by rfl)]
  unfold f_number_in numAt
  cases hk : ws[k]? with
  | none =>
    have lt : decide ((k : Int) < (ws.length : Int)) = false := decide_eq_false (by have := List.getElem?_eq_none_iff.mp hk; omega)
    have k4 : ("" : Str).length = 0 := by decide +kernel
    have o0 := oLen_s (x := "") (by rw [k4]; decide)
    rw [k4] at o0
    have c1 : decide ((1 : Int) ≤ ((0 : Nat) : Int)) = false := by decide
    dsimp only
    generalize wsD ws = WD at *
    push_cast [ol, lt, o0, c1]
  | some w =>
    have hm := List.mem_of_getElem? hk
    have hne := W.ne w hm
    have hll := W.len w hm
    have lt : decide ((k : Int) < (ws.length : Int)) = true := decide_eq_true (by have := (List.getElem?_eq_some_iff.mp hk).1; omega)
    have ix : opIx (wsD ws) (.int (k : Int)) = some (.str w) := atI_map D.str hk
    have o1 := oLen_s (x := w) hll
    have c1 : decide ((1 : Int) ≤ (w.length : Int)) = true := decide_eq_true (by
      have : 0 < w.length := by rw [TL.len_tl]; exact List.length_pos_iff.mpr hne
      omega)
    have lc := fun {a b c d e : Option SV} => number_lcA (a := a) (b := b) (c := c) (d := d) (e := e) (w := w) (ω := []) hll
    have al : oAllL ((TL.tl w).map fun c => .bl (isDig c)) = some (.bl (digT w)) := all_mapQ isDig (TL.tl w)
    dsimp only
    unfold goodN
    by_cases h3 : w.length ≤ 3
    · have c2 : decide ((w.length : Int) ≤ 3) = true := decide_eq_true (by omega)
      rw [decide_eq_true h3, Bool.true_and]
      cases hd : digT w with
      | false =>
        rw [hd] at al
        rw [Bool.false_and, Bool.false_and, if_neg Bool.false_ne_true]
        dsimp only
        generalize (TL.tl w).map (fun c => D.bl (isDig c)) = BL at *
        generalize wsD ws = WD at *
        push_cast [ol, lt, ix, o1, c1, c2, lc, al]
      | true =>
        rw [hd] at al
        rw [Bool.true_and]
        have iv := oIntS_val hd hne h3
        obtain ⟨v0, v9⟩ := valT_rg hd h3
        have sv := oStr_run v0 v9
        have eq := eqD_str (wd_num v0).ok (W.ok w hm)
        generalize numI (valT w) = NV at *
        generalize valT w = v at *
        cases hn : (NV == w) with
        | false =>
          rw [hn] at eq
          rw [Bool.false_and, if_neg Bool.false_ne_true]
          dsimp only
          generalize (TL.tl w).map (fun c => D.bl (isDig c)) = BL at *
          generalize wsD ws = WD at *
          push_cast [ol, lt, ix, o1, c1, c2, lc, al, iv, sv, eq]
        | true =>
          rw [hn] at eq
          rw [Bool.true_and]
          cases hlo : decide (low ≤ v) with
          | false =>
            rw [Bool.false_and, if_neg Bool.false_ne_true]
            dsimp only
            generalize (TL.tl w).map (fun c => D.bl (isDig c)) = BL at *
            generalize wsD ws = WD at *
            push_cast [ol, lt, ix, o1, c1, c2, lc, al, iv, sv, eq, hlo]
          | true =>
            rw [Bool.true_and]
            cases hhi : decide (v ≤ high) with
            | false =>
              rw [if_neg Bool.false_ne_true]
              dsimp only
              generalize (TL.tl w).map (fun c => D.bl (isDig c)) = BL at *
              generalize wsD ws = WD at *
              push_cast [ol, lt, ix, o1, c1, c2, lc, al, iv, sv, eq, hlo, hhi]
            | true =>
              rw [if_pos rfl]
              dsimp only
              generalize (TL.tl w).map (fun c => D.bl (isDig c)) = BL at *
              generalize wsD ws = WD at *
              push_cast [ol, lt, ix, o1, c1, c2, lc, al, iv, sv, eq, hlo, hhi]
    · have c2 : decide ((w.length : Int) ≤ 3) = false := decide_eq_false (by omega)
      rw [decide_eq_false h3, Bool.false_and, Bool.false_and, Bool.false_and, if_neg Bool.false_ne_true]
      dsimp only
      generalize wsD ws = WD at *
      push_cast [ol, lt, ix, o1, c1, c2]
theorem bad_lc {ws : List Str} {w : Str} {k : Int} {c d : Option SV} (ix : opIx (wsD ws) (.int k) = some (.str w)) (hl : w.length ≤ 1000) {ω : Om} :
    lc__law_bad_1 [some (.val (wsD ws)), some (.val (.int k)), c, d, none] ω = .ok (.lst (((TL.tl w).filter fun c => !isDig c).map fun c : Nat => D.str ⟨#[c]⟩)) ω := by
  have it : itStr (.str w) = some ((TL.tl w).map fun c => .str ⟨#[c]⟩) := rfl
  have e5 := lcT (tg := gN 4) (tt := eTest (eBin (opInS true) (eVar 4) (eC (.str "0123456789")))) (el := eVar 4) (ρ := [some (.val (wsD ws)), some (.val (.int k)), c, d, none]) (ω := ω) (fun c : Nat => D.str ⟨#[c]⟩) (fun c => !isDig c) (fun c => D.str ⟨#[c]⟩) (TL.tl w) [] (by rw [List.length_nil, ← TL.len_tl]; show _ ≤ 16777216; omega) (fun x _ => ⟨_, rfl, by
    have i := in_digits2 (c := x) true
    rw [if_pos rfl] at i
    push_cast [i], fun _ => by push_cast []⟩)
  rw [List.nil_append] at e5
  unfold lc__law_bad_1
  generalize wsD ws = WD at *
  push_cast [ix, it, e5]
theorem bad_run {ws : List Str} (W : WsOk ws) {k : Nat} {low high : Int} :
    F__law_bad [wsD ws, .int (k : Int), .int low, .int high] = some (.ok (.bl (numAt ws k low high).isNone)) := by
  have ol : oLen [wsD ws] = some (.int (ws.length : Int)) := by rw [oLen_lst, List.length_map]
  unfold F__law_bad
  rw [fnP_run (by rfl)]
  unfold f__law_bad numAt
  cases hk : ws[k]? with
  | none =>
    have lt : decide ((ws.length : Int) ≤ (k : Int)) = true := decide_eq_true (by have := List.getElem?_eq_none_iff.mp hk; omega)
    dsimp only
    generalize wsD ws = WD at *
    push_cast [ol, lt, Option.isNone_none]
  | some w =>
    have hm := List.mem_of_getElem? hk
    have hne := W.ne w hm
    have hll := W.len w hm
    have lt : decide ((ws.length : Int) ≤ (k : Int)) = false := decide_eq_false (by have := (List.getElem?_eq_some_iff.mp hk).1; omega)
    have ix : opIx (wsD ws) (.int (k : Int)) = some (.str w) := atI_map D.str hk
    have o1 := oLen_s (x := w) hll
    have lc := fun {c d : Option SV} => bad_lc (c := c) (d := d) ix hll (ω := [])
    dsimp only
    unfold goodN
    by_cases h3 : w.length ≤ 3
    · have c2 : decide ((3 : Int) < (w.length : Int)) = false := decide_eq_false (by omega)
      rw [decide_eq_true h3, Bool.true_and]
      cases hd : digT w with
      | false =>
        have hnn : eqD (.lst (((TL.tl w).filter fun c => !isDig c).map fun c : Nat => D.str ⟨#[c]⟩)) (.lst []) = some false := by
          cases hf : (TL.tl w).filter (fun c => !isDig c) with
          | nil =>
            have : digT w = true := List.all_eq_true.mpr fun c hc => by
              cases q : isDig c with
              | true => rfl
              | false =>
                have : c ∈ (TL.tl w).filter (fun c => !isDig c) := List.mem_filter.mpr ⟨hc, by rw [q]; rfl⟩
                rw [hf] at this; cases this
            rw [this] at hd; cases hd
          | cons a l =>
            refine eqD_some (n := 1) ?_ (by decide)
            rw [← List.map_cons (f := fun c : Nat => D.str ⟨#[c]⟩), ← hf, dOk, List.all_map, List.all_eq_true]
            intro c hc
            have hc := (List.mem_filter.mp hc).1
            have hs := W.ok w hm
            unfold PyData.strOk at hs
            rw [all_tl, List.all_eq_true] at hs
            have := hs c hc
            show PyData.strOk ⟨#[c]⟩ = true
            unfold PyData.strOk
            rw [all_tl]
            show (List.all [c] _) = true
            rw [List.all_cons, this]; rfl
        rw [Bool.false_and, Bool.false_and, if_neg Bool.false_ne_true]
        generalize ((TL.tl w).filter fun c => !isDig c).map (fun c : Nat => D.str ⟨#[c]⟩) = BL at *
        generalize wsD ws = WD at *
        push_cast [ol, lt, ix, o1, c2, lc, hnn, Option.isNone_none]
      | true =>
        have hf : (TL.tl w).filter (fun c => !isDig c) = [] := List.filter_eq_nil_iff.mpr fun c hc => by
          have : isDig c = true := List.all_eq_true.mp hd c hc
          rw [this]; simp
        rw [hf, List.map_nil] at lc
        have en : eqD (.lst []) (.lst []) = some true := eqD_refl 1 rfl (by decide)
        rw [Bool.true_and]
        have iv := oIntS_val hd hne h3
        obtain ⟨v0, v9⟩ := valT_rg hd h3
        have sv := oStr_run v0 v9
        have eq := eqD_str (wd_num v0).ok (W.ok w hm)
        generalize numI (valT w) = NV at *
        generalize valT w = v at *
        cases hn : (NV == w) with
        | false =>
          rw [hn] at eq
          rw [Bool.false_and, if_neg Bool.false_ne_true]
          generalize wsD ws = WD at *
          push_cast [ol, lt, ix, o1, c2, lc, en, iv, sv, eq, Option.isNone_none]
        | true =>
          rw [hn] at eq
          rw [Bool.true_and]
          cases hlo : decide (low ≤ v) with
          | false =>
            rw [Bool.false_and, if_neg Bool.false_ne_true]
            generalize wsD ws = WD at *
            push_cast [ol, lt, ix, o1, c2, lc, en, iv, sv, eq, hlo, Option.isNone_none]
          | true =>
            rw [Bool.true_and]
            cases hhi : decide (v ≤ high) with
            | false =>
              rw [if_neg Bool.false_ne_true]
              generalize wsD ws = WD at *
              push_cast [ol, lt, ix, o1, c2, lc, en, iv, sv, eq, hlo, hhi, Option.isNone_none]
            | true =>
              rw [if_pos rfl]
              generalize wsD ws = WD at *
              push_cast [ol, lt, ix, o1, c2, lc, en, iv, sv, eq, hlo, hhi, Option.isNone_some]
    · have c2 : decide ((3 : Int) < (w.length : Int)) = true := decide_eq_true (by omega)
      rw [decide_eq_false h3, Bool.false_and, Bool.false_and, Bool.false_and, if_neg Bool.false_ne_true]
      generalize wsD ws = WD at *
      push_cast [ol, lt, ix, o1, c2, Option.isNone_none]
theorem eqD_one {a b : Str} (ha : PyData.strOk a = true) (hb : PyData.strOk b = true) : eqD (.lst [.str a]) (.lst [.str b]) = some (a == b) := by
  unfold eqD
  have e1 : toPy (.lst [.str a]) = some (.list [.str a]) := rfl
  have e2 : toPy (.lst [.str b]) = some (.list [.str b]) := rfl
  rw [e1, e2]
  have s : ∀ x : Str, PyData.strOk x = true → SeqAt.shaped (.list [.str x]) = true := fun x h => by
    unfold SeqAt.shaped
    rw [show PyData.canLay0 (.list [.str x]) = (PyData.strOk x && true) from rfl, h]
    rfl
  dsimp only
  rw [s a ha, s b hb, Bool.and_self, if_pos rfl]
  congr 1
  simp [PyData.eqv, PyData.eqvAll]
theorem eqD_nil1 {b : Str} (hb : PyData.strOk b = true) : eqD (.lst []) (.lst [.str b]) = some false := by
  unfold eqD
  have e1 : toPy (.lst []) = some (.list []) := rfl
  have e2 : toPy (.lst [.str b]) = some (.list [.str b]) := rfl
  rw [e1, e2]
  have s : SeqAt.shaped (.list [.str b]) = true := by
    unfold SeqAt.shaped
    rw [show PyData.canLay0 (.list [.str b]) = (PyData.strOk b && true) from rfl, hb]
    rfl
  dsimp only
  rw [s, show SeqAt.shaped (.list []) = true from rfl, Bool.and_self, if_pos rfl]
  congr 1
def headIs (h : Str) (ws : List Str) : Bool := match ws with
  | [] => false
  | w :: _ => w == h
def plugF (ws : List Str) : Nat :=
  if headIs "plug" ws = false then 1
  else if (numAt ws 1 0 60).isNone = true then 2
  else if (numAt ws 2 0 60).isNone = true then 3
  else match (ws[3]? : Option Str) with
    | none => 0
    | some w => if (w == ("turns" : Str)) = false then 4 else if 4 < ws.length then 5 else 0
def plugV (ws : List Str) : Plug := ((numAt ws 1 0 60).getD 0, (numAt ws 2 0 60).getD 0, decide (3 < ws.length))
theorem head_eq {ws : List Str} (W : WsOk ws) {h : Str} (hh : PyData.strOk h = true) : eqD (.lst ((ws.map D.str).take 1)) (.lst [.str h]) = some (headIs h ws) := by
  cases ws with
  | nil => exact eqD_nil1 hh
  | cons w ws => exact eqD_one (W.ok w List.mem_cons_self) hh
theorem plug_all {ws : List Str} (W : WsOk ws) (line : Int) : F_plug_in [wsD ws, .int line] = some (if plugF ws = 0 then .ok (encP (plugV ws)) else .error ⟨"BadLine", [("word", .int (plugF ws : Nat)), ("line", .int line)]⟩) := by
  have sl : slD none (some 1) (wsD ws) = some (.lst ((ws.map D.str).take 1)) := cutL _ 1
  have eq := head_eq W wd_plug.ok
  have n1 := number_all W (k := 1) (line := line) (low := 0) (high := 60)
  have n2 := number_all W (k := 2) (line := line) (low := 0) (high := 60)
  have i1 : ((1 : Nat) : Int) = 1 := rfl
  have i2 : ((2 : Nat) : Int) = 2 := rfl
  rw [i1] at n1
  rw [i2] at n2
  have p1 : (1 : Int) + 1 = 2 := rfl
  have p2 : (2 : Int) + 1 = 3 := rfl
  rw [p1] at n1
  rw [p2] at n2
  have ol : oLen [wsD ws] = some (.int (ws.length : Int)) := by rw [oLen_lst, List.length_map]
  unfold F_plug_in
  rw [fnP_run (by rfl)]
  unfold f_plug_in plugV
  cases h0 : headIs "plug" ws with
  | false =>
    rw [h0] at eq
    have pf : plugF ws = 1 := by unfold plugF; simp [h0]
    rw [pf, if_neg (by decide), i1]
    generalize wsD ws = WD at *
    generalize (ws.map D.str).take 1 = T1 at *
    push_cast [sl, eq]
  | true =>
    rw [h0] at eq
    cases h1 : numAt ws 1 0 60 with
    | none =>
      rw [h1] at n1
      have pf : plugF ws = 2 := by unfold plugF; simp [h0, h1]
      rw [pf, if_neg (by decide), i2]
      dsimp only at n1
      generalize wsD ws = WD at *
      generalize (ws.map D.str).take 1 = T1 at *
      push_cast [sl, eq, n1]
    | some a =>
      rw [h1] at n1
      cases h2 : numAt ws 2 0 60 with
      | none =>
        rw [h2] at n2
        have pf : plugF ws = 3 := by unfold plugF; simp [h0, h1, h2]
        rw [pf, if_neg (by decide), show ((3 : Nat) : Int) = 3 from rfl]
        dsimp only at n1 n2
        generalize wsD ws = WD at *
        generalize (ws.map D.str).take 1 = T1 at *
        push_cast [sl, eq, n1, n2]
      | some b =>
        rw [h2] at n2
        dsimp only at n1 n2
        cases h3 : ws[3]? with
        | none =>
          have hl : ws.length ≤ 3 := List.getElem?_eq_none_iff.mp h3
          have d1 : decide ((3 : Int) < (ws.length : Int)) = false := decide_eq_false (by omega)
          have d2 : decide ((4 : Int) < (ws.length : Int)) = false := decide_eq_false (by omega)
          have en : D.tup [.int a, .int b, .bl false] = encP (a, b, decide (3 < ws.length)) := by rw [decide_eq_false (by omega)]; rfl
          have pf : plugF ws = 0 := by unfold plugF; rw [h0, h1, h2, h3]; rfl
          rw [pf, if_pos rfl, Option.getD_some, Option.getD_some, ← en]
          generalize wsD ws = WD at *
          generalize (ws.map D.str).take 1 = T1 at *
          push_cast [sl, eq, n1, n2, ol, d1, d2]
        | some w =>
          have hl : 3 < ws.length := (List.getElem?_eq_some_iff.mp h3).1
          have d1 : decide ((3 : Int) < (ws.length : Int)) = true := decide_eq_true (by omega)
          have ix : opIx (wsD ws) (.int 3) = some (.str w) := atI_map D.str h3
          have et := eqD_str (W.ok w (List.mem_of_getElem? h3)) wd_turns.ok
          cases h4 : (w == ("turns" : Str)) with
          | false =>
            rw [h4] at et
            have pf : plugF ws = 4 := by unfold plugF; rw [h0, h1, h2, h3]; show (if (w == ("turns" : Str)) = false then 4 else _) = 4; rw [h4]; rfl
            rw [pf, if_neg (by decide), show ((4 : Nat) : Int) = 4 from rfl]
            generalize wsD ws = WD at *
            generalize (ws.map D.str).take 1 = T1 at *
            push_cast [sl, eq, n1, n2, ol, d1, ix, et]
          | true =>
            rw [h4] at et
            have pq : plugF ws = if 4 < ws.length then 5 else 0 := by unfold plugF; rw [h0, h1, h2, h3]; show (if (w == ("turns" : Str)) = false then 4 else _) = _; rw [h4]; rfl
            by_cases h5 : 4 < ws.length
            · have d2 : decide ((4 : Int) < (ws.length : Int)) = true := decide_eq_true (by omega)
              rw [pq, if_pos h5, if_neg (by decide), show ((5 : Nat) : Int) = 5 from rfl]
              generalize wsD ws = WD at *
              generalize (ws.map D.str).take 1 = T1 at *
              push_cast [sl, eq, n1, n2, ol, d1, d2, ix, et]
            · have d2 : decide ((4 : Int) < (ws.length : Int)) = false := decide_eq_false (by omega)
              have en : D.tup [.int a, .int b, .bl true] = encP (a, b, decide (3 < ws.length)) := by rw [decide_eq_true hl]; rfl
              rw [pq, if_neg h5, if_pos rfl, Option.getD_some, Option.getD_some, ← en]
              generalize wsD ws = WD at *
              generalize (ws.map D.str).take 1 = T1 at *
              push_cast [sl, eq, n1, n2, ol, d1, d2, ix, et]
theorem fault_all {ws : List Str} (W : WsOk ws) : F__law_fault_of [wsD ws] = some (.ok (.int (plugF ws : Nat))) := by
  have i1 : ((1 : Nat) : Int) = 1 := rfl
  have i2 : ((2 : Nat) : Int) = 2 := rfl
  have b1 := bad_run W (k := 1) (low := 0) (high := 60)
  have b2 := bad_run W (k := 2) (low := 0) (high := 60)
  rw [i1] at b1
  rw [i2] at b2
  have ol : oLen [wsD ws] = some (.int (ws.length : Int)) := by rw [oLen_lst, List.length_map]
  unfold F__law_fault_of
  rw [fnP_run (by rfl)]
  unfold f__law_fault_of
  cases hw : ws with
  | nil =>
    have en : eqD (.lst []) (.lst []) = some true := eqD_refl 1 rfl (by decide)
    have pf : plugF [] = 1 := rfl
    rw [pf, i1]
    have wd : wsD [] = .lst [] := rfl
    rw [wd]
    push_cast [en]
  | cons w0 ws' =>
    rw [← hw]
    have en : eqD (wsD ws) (.lst []) = some false := by
      rw [hw]
      refine eqD_some (n := 1) ?_ (by decide)
      rw [← List.map_cons (f := D.str), ← hw, dOk, List.all_map, List.all_eq_true]
      exact fun w hm => W.ok w hm
    have ix0 : opIx (wsD ws) (.int 0) = some (.str w0) := by rw [hw]; exact atI_head
    have eq := eqD_str (W.ok w0 (by rw [hw]; exact List.mem_cons_self)) wd_plug.ok
    have hh : headIs "plug" ws = (w0 == ("plug" : Str)) := by rw [hw]; rfl
    cases h0 : headIs "plug" ws with
    | false =>
      rw [← hh, h0] at eq
      have pf : plugF ws = 1 := by unfold plugF; simp [h0]
      rw [pf, i1]
      generalize wsD ws = WD at *
      push_cast [en, ix0, eq]
    | true =>
      rw [← hh, h0] at eq
      cases h1 : numAt ws 1 0 60 with
      | none =>
        rw [h1] at b1
        have pf : plugF ws = 2 := by unfold plugF; simp [h0, h1]
        rw [pf, i2]
        generalize wsD ws = WD at *
        push_cast [en, ix0, eq, b1, Option.isNone_none]
      | some a =>
        rw [h1] at b1
        cases h2 : numAt ws 2 0 60 with
        | none =>
          rw [h2] at b2
          have pf : plugF ws = 3 := by unfold plugF; simp [h0, h1, h2]
          rw [pf, show ((3 : Nat) : Int) = 3 from rfl]
          generalize wsD ws = WD at *
          push_cast [en, ix0, eq, b1, b2, Option.isNone_none, Option.isNone_some]
        | some b =>
          rw [h2] at b2
          cases h3 : ws[3]? with
          | none =>
            have hl : ws.length ≤ 3 := List.getElem?_eq_none_iff.mp h3
            have d1 : decide ((3 : Int) < (ws.length : Int)) = false := decide_eq_false (by omega)
            have d2 : decide ((4 : Int) < (ws.length : Int)) = false := decide_eq_false (by omega)
            have pf : plugF ws = 0 := by unfold plugF; rw [h0, h1, h2, h3]; rfl
            rw [pf, show ((0 : Nat) : Int) = 0 from rfl]
            generalize wsD ws = WD at *
            push_cast [en, ix0, eq, b1, b2, ol, d1, d2, Option.isNone_some]
          | some w =>
            have hl : 3 < ws.length := (List.getElem?_eq_some_iff.mp h3).1
            have d1 : decide ((3 : Int) < (ws.length : Int)) = true := decide_eq_true (by omega)
            have ix : opIx (wsD ws) (.int 3) = some (.str w) := atI_map D.str h3
            have et := eqD_str (W.ok w (List.mem_of_getElem? h3)) wd_turns.ok
            cases h4 : (w == ("turns" : Str)) with
            | false =>
              rw [h4] at et
              have pf : plugF ws = 4 := by unfold plugF; rw [h0, h1, h2, h3]; show (if (w == ("turns" : Str)) = false then 4 else _) = 4; rw [h4]; rfl
              rw [pf, show ((4 : Nat) : Int) = 4 from rfl]
              generalize wsD ws = WD at *
              push_cast [en, ix0, eq, b1, b2, ol, d1, ix, et, Option.isNone_some]
            | true =>
              rw [h4] at et
              have pq : plugF ws = if 4 < ws.length then 5 else 0 := by unfold plugF; rw [h0, h1, h2, h3]; show (if (w == ("turns" : Str)) = false then 4 else _) = _; rw [h4]; rfl
              by_cases h5 : 4 < ws.length
              · have d2 : decide ((4 : Int) < (ws.length : Int)) = true := decide_eq_true (by omega)
                rw [pq, if_pos h5, show ((5 : Nat) : Int) = 5 from rfl]
                generalize wsD ws = WD at *
                push_cast [en, ix0, eq, b1, b2, ol, d1, d2, ix, et, Option.isNone_some]
              · have d2 : decide ((4 : Int) < (ws.length : Int)) = false := decide_eq_false (by omega)
                rw [pq, if_neg h5, show ((0 : Nat) : Int) = 0 from rfl]
                generalize wsD ws = WD at *
                push_cast [en, ix0, eq, b1, b2, ol, d1, d2, ix, et, Option.isNone_some]
def intsF (k : Nat) : Nat → List D
  | 0 => []
  | n + 1 => .int (k : Int) :: intsF (k + 1) n
theorem rng_ints (n : Nat) : ∀ k : Nat, (List.range n).map (fun i : Nat => D.int ((k : Int) + (i : Int))) = intsF k n := by
  induction n with
  | zero => intro k; rfl
  | succ n ih =>
    intro k
    rw [List.range_succ_eq_map, List.map_cons, List.map_map]
    show _ = D.int (k : Int) :: intsF (k + 1) n
    rw [← ih (k + 1)]
    have e : D.int ((k : Int) + ((0 : Nat) : Int)) = D.int (k : Int) := by rw [show ((k : Int) + ((0 : Nat) : Int)) = (k : Int) from by omega]
    rw [e]
    congr 1
    refine List.map_congr_left fun i _ => ?_
    show D.int ((k : Int) + ((i + 1 : Nat) : Int)) = D.int (((k + 1 : Nat) : Int) + (i : Int))
    congr 1
    omega
def sgo (ws : List Str) : Nat → Nat → Int → Nat
  | 0, _, _ => 0
  | n + 1, k, low => if k = 10 then 11 else match numAt ws k low 300 with
    | none => k + 1
    | some v => sgo ws n (k + 1) (v + 1)
def svals (ws : List Str) : Nat → Nat → Int → List Int
  | 0, _, _ => []
  | n + 1, k, low => if k = 10 then [] else match numAt ws k low 300 with
    | none => []
    | some v => v :: svals ws n (k + 1) (v + 1)
theorem numAt_rg {ws : List Str} {k : Nat} {low hi v : Int} (h : numAt ws k low hi = some v) : low ≤ v ∧ v ≤ hi := by
  unfold numAt at h
  split at h
  · split at h
    · rename_i w _ hg
      cases h
      unfold goodN at hg
      simp only [Bool.and_eq_true, decide_eq_true_eq] at hg
      exact hg.2
    · cases h
  · cases h
theorem svals_ok {ws : List Str} : ∀ (n k : Nat) (low : Int), k ≤ 10 → sgo ws n k low = 0 → (svals ws n k low).length = n ∧ k + n ≤ 10 ∧ (∀ v ∈ svals ws n k low, low ≤ v ∧ v ≤ 300) ∧ (svals ws n k low).Pairwise (· < ·)
  | 0, k, low, hk, _ => ⟨rfl, hk, (fun v hv => by cases hv), List.Pairwise.nil⟩
  | n + 1, k, low, hk, h => by
    unfold sgo at h
    split at h
    · cases h
    · rename_i h10
      cases hv : numAt ws k low 300 with
      | none => rw [hv] at h; cases h
      | some v =>
        rw [hv] at h
        obtain ⟨a, b, c, d⟩ := svals_ok n (k + 1) (v + 1) (by omega) h
        obtain ⟨r1, r2⟩ := numAt_rg hv
        have e : svals ws (n + 1) k low = v :: svals ws n (k + 1) (v + 1) := by
          rw [svals, if_neg h10, hv]
        rw [e]
        refine ⟨by rw [List.length_cons, a], by omega, fun x hx => ?_, List.pairwise_cons.mpr ⟨fun x hx => ?_, d⟩⟩
        · rcases List.mem_cons.mp hx with rfl | hx
          · exact ⟨r1, r2⟩
          · have := c x hx; omega
        · have := c x hx; omega
theorem strip_bd9 {W L : List D} {k : Int} (l9 : ((L.length : Int) == 9) = true) :
    bd_strip_in_1 [some (.val (.lst W)), some (.own 0), some (.val (.int k))] [some (.lst L)] = .exc ⟨"BadLine", [("word", .int (k + 1)), ("line", .int 1)]⟩ [some (.val (.lst W)), some (.own 0), some (.val (.int k))] [some (.lst L)] := by
  unfold bd_strip_in_1
  push_cast [l9]
theorem strip_bd1 {W L : List D} {k low : Int} {x : Exn} (l9 : ((L.length : Int) == 9) = false) 
    (c : (eqD (.lst L) (.lst []) = some true ∧ low = 0) ∨ (eqD (.lst L) (.lst []) = some false ∧ ∃ z, atI L (-1) = some (.int z) ∧ low = z + 1))
    (e : F_number_in [.lst W, .int k, .int 1, .int low, .int 300] = some (.error x)) :
    bd_strip_in_1 [some (.val (.lst W)), some (.own 0), some (.val (.int k))] [some (.lst L)] = .exc x [some (.val (.lst W)), some (.own 0), some (.val (.int k))] [some (.lst L)] := by
  unfold bd_strip_in_1
  rcases c with ⟨ne, rfl⟩ | ⟨ne, z, ix, rfl⟩
  · push_cast [l9, ne, e]
  · have ix : ixI L (.int (-1)) = some (.int z) := ix
    push_cast [l9, ne, e, ix]
theorem last_cond {done : List Int} {low : Int} (hlow : (done = [] ∧ low = 0) ∨ ∃ pre z, done = pre ++ [z] ∧ low = z + 1) :
    (eqD (.lst (done.map D.int)) (.lst []) = some true ∧ low = 0) ∨ (eqD (.lst (done.map D.int)) (.lst []) = some false ∧ ∃ z, atI (done.map D.int) (-1) = some (.int z) ∧ low = z + 1) := by
  rcases hlow with ⟨rfl, rfl⟩ | ⟨pre, z, rfl, rfl⟩
  · exact .inl ⟨eqD_refl 1 rfl (by decide), rfl⟩
  · refine .inr ⟨?_, z, by rw [List.map_append]; exact atI_end, rfl⟩
    cases hq : pre ++ [z] with
    | nil => simp at hq
    | cons a b => exact eqD_some (n := 2) (by rw [← List.map_cons, dOk, List.all_map, List.all_eq_true]; intro a _; rfl) (by decide)
theorem strip_loop {ws : List Str} (W : WsOk ws) : ∀ (n : Nat) (done : List Int) (low : Int) (x : Option SV), done.length ≤ 9 → ((done = [] ∧ low = 0) ∨ ∃ pre z, done = pre ++ [z] ∧ low = z + 1) →
    ∃ y ω', forL (gN 2) bd_strip_in_1 (intsF (done.length + 1) n) (siR ws x) [some (.lst (done.map D.int))] =
      if sgo ws n (done.length + 1) low = 0 then .next (siR ws y) [some (.lst ((done ++ svals ws n (done.length + 1) low).map D.int))]
      else .exc ⟨"BadLine", [("word", .int (sgo ws n (done.length + 1) low : Nat)), ("line", .int 1)]⟩ (siR ws y) ω'
  | 0, done, low, x, _, _ => ⟨x, [], by rw [sgo, if_pos rfl, svals, List.append_nil]; rfl⟩
  | n + 1, done, low, x, hd, hlow => by
    have hl : (done.map D.int).length = done.length := by rw [List.length_map]
    have w2 : ((done.length + 1 : Nat) : Int) + 1 = ((done.length + 1 + 1 : Nat) : Int) := by omega
    have n1 := number_all W (k := done.length + 1) (line := 1) (low := low) (high := 300)
    have n1 : F_number_in [.lst (ws.map D.str), .int ((done.length + 1 : Nat) : Int), .int 1, .int low, .int 300] = _ := n1
    rw [w2] at n1
    have hc := last_cond hlow
    rw [show intsF (done.length + 1) (n + 1) = .int ((done.length + 1 : Nat) : Int) :: intsF (done.length + 1 + 1) n from rfl]
    unfold sgo svals
    by_cases h9 : done.length = 9
    · have l9 : (((done.map D.int).length : Int) == 9) = true := by rw [hl, h9]; rfl
      have b := strip_bd9 (W := ws.map D.str) (k := ((done.length + 1 : Nat) : Int)) l9
      refine ⟨some (.val (.int ((done.length + 1 : Nat) : Int))), [some (.lst (done.map D.int))], ?_⟩
      rw [if_pos (show done.length + 1 = 10 by omega), if_neg (by decide), forL_exc (ρ1 := siR ws (some (.val (.int ((done.length + 1 : Nat) : Int))))) rfl b, h9]
      rfl
    · have l9 : (((done.map D.int).length : Int) == 9) = false := by rw [hl]; exact beq_false_of_ne (by omega)
      have lm : (done.map D.int).length < lim := by rw [hl]; show _ < 16777216; omega
      rw [if_neg (show ¬ done.length + 1 = 10 by omega), if_neg (show ¬ done.length + 1 = 10 by omega)]
      cases hv : numAt ws (done.length + 1) low 300 with
      | none =>
        rw [hv] at n1
        dsimp only at n1 ⊢
        have b := strip_bd1 l9 hc n1
        refine ⟨some (.val (.int ((done.length + 1 : Nat) : Int))), [some (.lst (done.map D.int))], ?_⟩
        rw [if_neg (by omega), forL_exc (ρ1 := siR ws (some (.val (.int ((done.length + 1 : Nat) : Int))))) rfl b]
      | some v =>
        rw [hv] at n1
        dsimp only at n1 ⊢
        have b := strip_bd0 (L' := (done ++ [v]).map D.int) l9 lm (by rw [List.map_append]; rfl) hc n1
        obtain ⟨y, ω', e⟩ := strip_loop W n (done ++ [v]) (v + 1) (some (.val (.int ((done.length + 1 : Nat) : Int)))) (by rw [List.length_append]; show done.length + 1 ≤ 9; omega) (.inr ⟨done, v, rfl, rfl⟩)
        have hl2 : (done ++ [v]).length = done.length + 1 := by rw [List.length_append]; rfl
        rw [hl2] at e
        refine ⟨y, ω', ?_⟩
        rw [forL_next (ρ1 := siR ws (some (.val (.int ((done.length + 1 : Nat) : Int))))) rfl b]
        refine e.trans ?_
        rw [List.append_assoc]; rfl
abbrev stN (ws : List Str) : Nat := max 1 (ws.length - 1)
def stripF (ws : List Str) : Nat := if headIs "strip" ws = false then 1 else sgo ws (stN ws) 1 0
def stripV (ws : List Str) : List Int := svals ws (stN ws) 1 0
theorem stripV_ok {ws : List Str} (h : stripF ws = 0) : Socks (stripV ws) ∧ (stripV ws).length ≤ 9 := by
  unfold stripF at h
  split at h
  · cases h
  · obtain ⟨a, b, c, d⟩ := svals_ok (stN ws) 1 0 (by decide) h
    have hp : 0 < (stripV ws).length := by
      show 0 < (svals ws (stN ws) 1 0).length
      rw [a]
      exact Nat.lt_of_lt_of_le Nat.zero_lt_one (Nat.le_max_left _ _)
    refine ⟨⟨(fun e => by rw [e] at hp; cases hp), d, fun x hx => c x hx⟩, ?_⟩
    show (svals ws (stN ws) 1 0).length ≤ 9
    rw [a]; omega
theorem max_run {n : Nat} : oMax [.int 2, .int (n : Int)] = some (.int ((max 1 (n - 1) : Nat) + 1 : Int)) := by
  show some (D.int (if ((n : Int)) > 2 then _ else 2)) = _
  congr 2
  split
  · omega
  · omega
theorem rng_two {n : Nat} (hn : n ≤ 1000) : itR2 (.int 1) (.int ((n : Int) + 1)) = some (intsF 1 n) := by
  unfold itR2
  dsimp only
  rw [if_pos (by unfold big; omega)]
  congr 1
  unfold rngD
  rw [show ((n : Int) + 1 - 1).toNat = n by omega]
  exact rng_ints n 1
theorem strip_all {ws : List Str} (W : WsOk ws) (hl : ws.length ≤ 1001) : F_strip_in [wsD ws] = some (if stripF ws = 0 then .ok (stripD (stripV ws)) else .error ⟨"BadLine", [("word", .int (stripF ws : Nat)), ("line", .int 1)]⟩) := by
  have sl : slD none (some 1) (wsD ws) = some (.lst ((ws.map D.str).take 1)) := cutL _ 1
  have eq := head_eq W wd_strip.ok
  have ol : oLen [wsD ws] = some (.int (ws.length : Int)) := by rw [oLen_lst, List.length_map]
  have mx := max_run (n := ws.length)
  have hst : stN ws ≤ 1000 := by show max 1 (ws.length - 1) ≤ 1000; omega
  have it := rng_two hst
  have it : itR2 (.int 1) (.int ((max 1 (ws.length - 1) : Nat) + 1 : Int)) = some (intsF 1 (stN ws)) := it
  obtain ⟨y, ω', e⟩ := strip_loop W (stN ws) [] 0 none (by decide) (.inl ⟨rfl, rfl⟩)
  have e : forL (gN 2) bd_strip_in_1 (intsF 1 (stN ws)) [some (.val (wsD ws)), some (.own 0), none] [some (.lst [])] = if sgo ws (stN ws) 1 0 = 0 then .next [some (.val (wsD ws)), some (.own 0), y] [some (.lst ((stripV ws).map D.int))] else .exc ⟨"BadLine", [("word", .int (sgo ws (stN ws) 1 0 : Nat)), ("line", .int 1)]⟩ [some (.val (wsD ws)), some (.own 0), y] ω' := e
  unfold F_strip_in
  rw [fnP_run (by rfl)]
  unfold f_strip_in
  cases h0 : headIs "strip" ws with
  | false =>
    rw [h0] at eq
    have pf : stripF ws = 1 := by unfold stripF; rw [h0, if_pos rfl]
    rw [pf, if_neg (by decide), show ((1 : Nat) : Int) = 1 from rfl]
    generalize wsD ws = WD at *
    generalize (ws.map D.str).take 1 = T1 at *
    push_cast [sl, eq]
  | true =>
    rw [h0] at eq
    have pf : stripF ws = sgo ws (stN ws) 1 0 := by unfold stripF; rw [h0, if_neg (by decide)]
    by_cases hz : sgo ws (stN ws) 1 0 = 0
    · have hf : stripF ws = 0 := pf.trans hz
      obtain ⟨hS, h9⟩ := stripV_ok hf
      have m1 := strip_init2 hS h9
      have st : D.obj "Strip" [("rows", socksD (stripV ws))] = stripD (stripV ws) := rfl
      have sd : D.tup ((stripV ws).map D.int) = socksD (stripV ws) := rfl
      rw [if_pos hz] at e
      rw [if_pos hf]
      generalize intsF 1 (stN ws) = RG at *
      generalize ((max 1 (ws.length - 1) : Nat) + 1 : Int) = MX at *
      generalize wsD ws = WD at *
      generalize (ws.map D.str).take 1 = T1 at *
      push_cast [sl, eq, ol, mx, it, e, m1, sd, st]
    · rw [if_neg hz] at e
      rw [if_neg (by rw [pf]; exact hz), pf]
      generalize intsF 1 (stN ws) = RG at *
      generalize ((max 1 (ws.length - 1) : Nat) + 1 : Int) = MX at *
      generalize wsD ws = WD at *
      generalize (ws.map D.str).take 1 = T1 at *
      push_cast [sl, eq, ol, mx, it, e]
abbrev fiR (ws : List Str) (low : Int) (x : Option SV) : Rho := [some (.val (wsD ws)), some (.val (.int low)), x]
theorem numAt_some {ws : List Str} (W : WsOk ws) {k : Nat} {low hi v : Int} (h : numAt ws k low hi = some v) : ∃ w, ws[k]? = some w ∧ oIntS [.str w] = some (.int v) := by
  unfold numAt at h
  split at h
  · rename_i w hw
    split at h
    · rename_i hg
      cases h
      unfold goodN at hg
      simp only [Bool.and_eq_true, decide_eq_true_eq] at hg
      exact ⟨w, hw, oIntS_val hg.1.1.2 (W.ne w (List.mem_of_getElem? hw)) hg.1.1.1⟩
    · cases h
  · cases h
theorem first_bdT {ws : List Str} {low : Int} {k : Nat} (h : k = 10 ∨ F__law_bad [wsD ws, .int (k : Int), .int low, .int 300] = some (.ok (.bl true))) :
    bd__law_first_2_1 (fiR ws low (some (.val (.int (k : Int))))) [] = .ret (.val (.int ((k + 1 : Nat) : Int))) [] := by
  have w2 : (k : Int) + 1 = ((k + 1 : Nat) : Int) := by omega
  unfold bd__law_first_2_1
  by_cases h10 : k = 10
  · have z : ((k : Int) == 10) = true := by rw [h10]; rfl
    generalize wsD ws = WD at *
    push_cast [fiR, z, w2]
  · have z : ((k : Int) == 10) = false := beq_false_of_ne (by omega)
    have h := h.resolve_left h10
    simp only [fiR]
    generalize wsD ws = WD at *
    push_cast [fiR, z, h, w2]
theorem first_bdF {ws : List Str} {low v : Int} {k : Nat} {w : Str} (h10 : k ≠ 10) (h : F__law_bad [wsD ws, .int (k : Int), .int low, .int 300] = some (.ok (.bl false))) (hk : ws[k]? = some w) (iv : oIntS [.str w] = some (.int v)) :
    bd__law_first_2_1 (fiR ws low (some (.val (.int (k : Int))))) [] = .next (fiR ws (v + 1) (some (.val (.int (k : Int))))) [] := by
  have ix : opIx (wsD ws) (.int (k : Int)) = some (.str w) := atI_map D.str hk
  have z : ((k : Int) == 10) = false := beq_false_of_ne (by omega)
  unfold bd__law_first_2_1
  simp only [fiR]
  generalize wsD ws = WD at *
  push_cast [z, h, ix, iv]
theorem first_loop {ws : List Str} (W : WsOk ws) : ∀ (n k : Nat) (low : Int) (x : Option SV),
    ∃ low' y, forL (gN 2) bd__law_first_2_1 (intsF k n) (fiR ws low x) [] =
      if sgo ws n k low = 0 then .next (fiR ws low' y) [] else .ret (.val (.int (sgo ws n k low : Nat))) []
  | 0, k, low, x => ⟨low, x, rfl⟩
  | n + 1, k, low, x => by
    rw [show intsF k (n + 1) = .int (k : Int) :: intsF (k + 1) n from rfl]
    have b := bad_run W (k := k) (low := low) (high := 300)
    unfold sgo
    by_cases h10 : k = 10
    · refine ⟨low, x, ?_⟩
      rw [if_pos h10, if_neg (by decide), forL_ret (ρ1 := fiR ws low (some (.val (.int (k : Int))))) rfl (first_bdT (.inl h10)), h10]
    · rw [if_neg h10]
      cases hv : numAt ws k low 300 with
      | none =>
        rw [hv] at b
        refine ⟨low, x, ?_⟩
        dsimp only
        rw [if_neg (by omega), forL_ret (ρ1 := fiR ws low (some (.val (.int (k : Int))))) rfl (first_bdT (.inr b))]
      | some v =>
        rw [hv] at b
        obtain ⟨w, hw, iv⟩ := numAt_some W hv
        obtain ⟨low', y, e⟩ := first_loop W n (k + 1) (v + 1) (some (.val (.int (k : Int))))
        refine ⟨low', y, ?_⟩
        dsimp only
        rw [forL_next (ρ1 := fiR ws low (some (.val (.int (k : Int))))) rfl (first_bdF h10 b hw iv)]
        exact e
theorem first_all {ws : List Str} (W : WsOk ws) (hl : ws.length ≤ 1001) : F__law_first_2 [wsD ws] = some (.ok (.int (stripF ws : Nat))) := by
  have ol : oLen [wsD ws] = some (.int (ws.length : Int)) := by rw [oLen_lst, List.length_map]
  unfold F__law_first_2
  rw [fnP_run (by rfl)]
  unfold f__law_first_2
  cases hw : ws with
  | nil =>
    have en : eqD (.lst []) (.lst []) = some true := eqD_refl 1 rfl (by decide)
    have pf : stripF [] = 1 := rfl
    have wd : wsD [] = .lst [] := rfl
    rw [pf, wd, show ((1 : Nat) : Int) = 1 from rfl]
    push_cast [en]
  | cons w0 ws' =>
    rw [← hw]
    have en : eqD (wsD ws) (.lst []) = some false := by
      rw [hw]
      refine eqD_some (n := 1) ?_ (by decide)
      rw [← List.map_cons (f := D.str), ← hw, dOk, List.all_map, List.all_eq_true]
      exact fun w hm => W.ok w hm
    have ix0 : opIx (wsD ws) (.int 0) = some (.str w0) := by rw [hw]; exact atI_head
    have eq := eqD_str (W.ok w0 (by rw [hw]; exact List.mem_cons_self)) wd_strip.ok
    have hh : headIs "strip" ws = (w0 == ("strip" : Str)) := by rw [hw]; rfl
    cases h0 : headIs "strip" ws with
    | false =>
      rw [← hh, h0] at eq
      have pf : stripF ws = 1 := by unfold stripF; rw [h0, if_pos rfl]
      rw [pf, show ((1 : Nat) : Int) = 1 from rfl]
      generalize wsD ws = WD at *
      push_cast [en, ix0, eq]
    | true =>
      rw [← hh, h0] at eq
      have pf : stripF ws = sgo ws (stN ws) 1 0 := by unfold stripF; rw [h0, if_neg (by decide)]
      have mx := max_run (n := ws.length)
      have hst : stN ws ≤ 1000 := by show max 1 (ws.length - 1) ≤ 1000; omega
      have it := rng_two hst
      have it : itR2 (.int 1) (.int ((max 1 (ws.length - 1) : Nat) + 1 : Int)) = some (intsF 1 (stN ws)) := it
      obtain ⟨low', y, e⟩ := first_loop W (stN ws) 1 0 none
      rw [pf]
      by_cases hz : sgo ws (stN ws) 1 0 = 0
      · rw [if_pos hz] at e
        rw [hz, show ((0 : Nat) : Int) = 0 from rfl]
        simp only [fiR] at e
        generalize intsF 1 (stN ws) = RG at *
        generalize ((max 1 (ws.length - 1) : Nat) + 1 : Int) = MX at *
        generalize wsD ws = WD at *
        push_cast [en, ix0, eq, ol, mx, it, e]
      · rw [if_neg hz] at e
        simp only [fiR] at e
        generalize intsF 1 (stN ws) = RG at *
        generalize ((max 1 (ws.length - 1) : Nat) + 1 : Int) = MX at *
        generalize wsD ws = WD at *
        push_cast [en, ix0, eq, ol, mx, it, e]
theorem toks_ok {x : Str} (h : LnOk x) : WsOk (toks x) ∧ (toks x).length ≤ 1001 := by
  have hm : ∀ w ∈ toks x, w ∈ Txt.split x " " ∧ TL.tl w ≠ [] := fun w hw => by
    obtain ⟨a, b⟩ := List.mem_filter.mp hw
    refine ⟨a, fun e => ?_⟩
    rw [empty_tl, e] at b
    cases b
  have sl : ∀ (l acc : List Nat) (w : List Nat), w ∈ TL.spl [32] 0 acc l → w.length ≤ acc.length + l.length := by
    intro l
    induction l with
    | nil => intro acc w hw; rw [TL.spl_nil, List.mem_singleton] at hw; subst hw; simp
    | cons c r ih =>
      intro acc w hw
      by_cases hc : TL.pre [32] (c :: r) = true
      · rw [TL.spl_hit hc, List.mem_cons] at hw
        rcases hw with rfl | hw
        · simp
        · have := ih [] w hw
          rw [List.length_cons]
          simp at this
          omega
      · rw [TL.spl_miss (by simpa using hc)] at hw
        have := ih _ w hw
        rw [List.length_append] at this
        rw [List.length_cons]
        simp at this
        omega
  have nl : ∀ (l acc : List Nat), (TL.spl [32] 0 acc l).length ≤ l.length + 1 := by
    intro l
    induction l with
    | nil => intro acc; rw [TL.spl_nil]; simp
    | cons c r ih =>
      intro acc
      by_cases hc : TL.pre [32] (c :: r) = true
      · rw [TL.spl_hit hc]
        have h3 : (TL.spl [32] 0 [] r).length ≤ r.length + 1 := ih []
        show (TL.spl [32] 0 [] r).length + 1 ≤ r.length + 1 + 1
        omega
      · rw [TL.spl_miss (by simpa using hc)]
        have := ih (acc ++ [c])
        rw [List.length_cons]
        omega
  refine ⟨⟨fun w hw => (hm w hw).2, fun w hw => h.parts (hm w hw).1, fun w hw => ?_⟩, ?_⟩
  · have : TL.tl w ∈ TL.spl [32] 0 [] (TL.tl x) := by rw [← split_tl]; exact List.mem_map.mpr ⟨w, (hm w hw).1, rfl⟩
    have := sl _ _ _ this
    have hx := h.len
    rw [TL.len_tl] at hx
    rw [TL.len_tl]
    rw [List.length_nil, Nat.zero_add] at this
    exact Nat.le_trans this hx
  · have h1 : (toks x).length ≤ (nz (TL.spl [32] 0 [] (TL.tl x))).length := by rw [← toks_tl, List.length_map]; exact Nat.le_refl _
    have h3 := List.length_filter_le (fun w : List Nat => !w.isEmpty) (TL.spl [32] 0 [] (TL.tl x))
    have h4 := nl (TL.tl x) []
    have hx := h.len
    rw [TL.len_tl] at hx
    exact Nat.le_trans h1 (Nat.le_trans h3 (Nat.le_trans h4 (Nat.succ_le_succ hx)))
def restF : List (List Str) → Nat → Option (Nat × Nat)
  | [], _ => none
  | r :: rs, i => if i = 5 then some (7, 1) else if plugF r = 0 then restF rs (i + 1) else some (i + 2, plugF r)
def badL (a b : Nat) : Exn := ⟨"BadLine", [("word", .int (b : Int)), ("line", .int (a : Int))]⟩
abbrev rdA (T S LS : D) (x y : Option SV) : Rho := [some (.val T), some (.val LS), some (.val S), some (.own 0), x, y, none, none]
theorem read_bd5 {T S LS W : D} {L : List D} {i : Int} (l5 : ((L.length : Int) == 5) = true) :
    bd_read_3 (rdA T S LS (some (.val (.int i))) (some (.val W))) [some (.lst L)] = .exc ⟨"BadLine", [("word", .int 1), ("line", .int (i + 2))]⟩ (rdA T S LS (some (.val (.int i))) (some (.val W))) [some (.lst L)] := by
  unfold bd_read_3
  push_cast [rdA, l5]
theorem read_bdE {T S LS W : D} {L : List D} {i : Int} {x : Exn} (l5 : ((L.length : Int) == 5) = false) (e : F_plug_in [W, .int (i + 2)] = some (.error x)) :
    bd_read_3 (rdA T S LS (some (.val (.int i))) (some (.val W))) [some (.lst L)] = .exc x (rdA T S LS (some (.val (.int i))) (some (.val W))) [some (.lst L)] := by
  unfold bd_read_3
  push_cast [rdA, l5, e]
theorem read_bdN {T S LS W d : D} {L : List D} {i : Int} (l5 : ((L.length : Int) == 5) = false) (lm : L.length < lim) (e : F_plug_in [W, .int (i + 2)] = some (.ok d)) :
    bd_read_3 (rdA T S LS (some (.val (.int i))) (some (.val W))) [some (.lst L)] = .next (rdA T S LS (some (.val (.int i))) (some (.val W))) [some (.lst (L ++ [d]))] := by
  unfold bd_read_3
  push_cast [rdA, l5, lm, e]
abbrev tgR : FG := gT 2 (gsCons (gN 4) (gsCons (gN 5) gsNil))
theorem read_loopA {T S LS : D} : ∀ (rs : List (List Str)) (ps : List Plug) (x y : Option SV), (∀ r ∈ rs, WsOk r) → ps.length ≤ 5 →
    ∃ x' y' ω', forL tgR bd_read_3 ((rs.map wsD).mapIdx fun j e => pairI (ps.length + j) e) (rdA T S LS x y) [some (.lst (ps.map encP))] =
      match restF rs ps.length with
      | some (a, b) => .exc (badL a b) (rdA T S LS x' y') ω'
      | none => .next (rdA T S LS x' y') [some (.lst ((ps ++ rs.map plugV).map encP))]
  | [], ps, x, y, _, _ => ⟨x, y, [], by rw [restF, List.map_nil, List.map_nil, List.append_nil]; rfl⟩
  | r :: rs, ps, x, y, h, hp => by
    rw [List.map_cons, enum_cons]
    unfold restF
    have W := h r List.mem_cons_self
    have pa := plug_all W ((ps.length : Int) + 2)
    have tg : tgR (pairI ps.length (wsD r)) (rdA T S LS x y) = some (rdA T S LS (some (.val (.int (ps.length : Int)))) (some (.val (wsD r)))) := rfl
    by_cases h5 : ps.length = 5
    · have l5 : (((ps.map encP).length : Int) == 5) = true := by rw [List.length_map, h5]; rfl
      refine ⟨some (.val (.int (ps.length : Int))), some (.val (wsD r)), [some (.lst (ps.map encP))], ?_⟩
      rw [if_pos h5, forL_exc tg (read_bd5 l5), h5]
      rfl
    · have l5 : (((ps.map encP).length : Int) == 5) = false := by rw [List.length_map]; exact beq_false_of_ne (by omega)
      have lm : (ps.map encP).length < lim := by rw [List.length_map]; show _ < 16777216; omega
      rw [if_neg h5]
      by_cases hf : plugF r = 0
      · rw [if_pos hf] at pa
        rw [if_pos hf, forL_next tg (read_bdN l5 lm pa)]
        obtain ⟨x', y', ω', e⟩ := read_loopA (T := T) (S := S) (LS := LS) rs (ps ++ [plugV r]) (some (.val (.int (ps.length : Int)))) (some (.val (wsD r))) (fun r' hr => h r' (List.mem_cons_of_mem _ hr)) (by rw [List.length_append]; show ps.length + 1 ≤ 5; omega)
        have hl : (ps ++ [plugV r]).length = ps.length + 1 := by rw [List.length_append]; rfl
        rw [hl, List.map_append] at e
        refine ⟨x', y', ω', e.trans ?_⟩
        rw [List.append_assoc]; rfl
      · rw [if_neg hf] at pa
        refine ⟨some (.val (.int (ps.length : Int))), some (.val (wsD r)), [some (.lst (ps.map encP))], ?_⟩
        rw [if_neg hf, forL_exc tg (read_bdE l5 pa)]
        dsimp only
        unfold badL
        rw [show ((ps.length + 2 : Nat) : Int) = (ps.length : Int) + 2 by omega]
def outR (l : List Str) (rs : List (List Str)) : Except (Nat × Nat) (List Int × List Plug) :=
  if stripF l = 0 then match restF rs 0 with
    | some ab => .error ab
    | none => if rs = [] then .error (2, 1) else .ok (stripV l, rs.map plugV)
  else .error (1, stripF l)
def resD : Except (Nat × Nat) (List Int × List Plug) → Except Exn D
  | .error (a, b) => .error (badL a b)
  | .ok (s, ps) => .ok (.tup [stripD s, plugsD ps])
def valD17 : Except (Nat × Nat) (List Int × List Plug) → D
  | .error (a, b) => .lst [.str "line", .int (a : Int), .int (b : Int)]
  | .ok (s, ps) => .tup [stripD s, plugsD ps]
theorem read_all {T : Str} {l : Str} {ls : List Str} (hs : splitD T (.str "\n") = some (wsD (l :: ls))) (h : ∀ x ∈ l :: ls, LnOk x) (hn : ls.length ≤ 90) : F_read [.str T] = some (resD (outR (toks l) (ls.map toks))) := by
  have lc := fun {b c d e f : Option SV} => read_lc2 (b := b) (c := c) (d := d) (e := e) (f := f) hs (by rw [List.length_cons]; omega) h (ω := [])
  have e0 : (l :: ls).map (fun x => wsD (toks x)) = wsD (toks l) :: (ls.map toks).map wsD := by rw [List.map_cons, List.map_map]; rfl
  rw [e0] at lc
  obtain ⟨W, Wl⟩ := toks_ok (h l List.mem_cons_self)
  have Ws : ∀ r ∈ ls.map toks, WsOk r := fun r hr => by
    obtain ⟨x, hx, rfl⟩ := List.mem_map.mp hr
    exact (toks_ok (h x (List.mem_cons_of_mem _ hx))).1
  have ix : opIx (.lst (wsD (toks l) :: (ls.map toks).map wsD)) (.int 0) = some (wsD (toks l)) := atI_head
  have sa := strip_all W Wl
  have sl : slD (some 1) none (.lst (wsD (toks l) :: (ls.map toks).map wsD)) = some (.lst ((ls.map toks).map wsD)) := cut1L _ _
  have it : itEn (.lst ((ls.map toks).map wsD)) = some (enumD ((ls.map toks).map wsD)) := rfl
  unfold F_read
  rw [fnP_run (by rfl)]
  unfold f_read outR
  by_cases hz : stripF (toks l) = 0
  · rw [if_pos hz] at sa
    rw [if_pos hz]
    obtain ⟨x', y', ω', e⟩ := read_loopA (T := .str T) (S := stripD (stripV (toks l))) (LS := .lst (wsD (toks l) :: (ls.map toks).map wsD)) (ls.map toks) [] none none Ws (by decide)
    have ez : (List.mapIdx (fun j e => pairI (([] : List Plug).length + j) e) ((ls.map toks).map wsD)) = enumD ((ls.map toks).map wsD) := (enum_zero _).symm
    rw [ez] at e
    cases hr : restF (ls.map toks) 0 with
    | some ab =>
      obtain ⟨a, b⟩ := ab
      have hr' : restF (ls.map toks) ([] : List Plug).length = some (a, b) := hr
      rw [hr'] at e
      have rd : resD (match (some (a, b) : Option (Nat × Nat)) with
        | some ab => .error ab
        | none => if ls.map toks = [] then .error (2, 1) else .ok (stripV (toks l), (ls.map toks).map plugV)) = .error (badL a b) := rfl
      rw [rd]
      simp only [tgR, rdA, List.map_nil] at e
      generalize enumD ((ls.map toks).map wsD) = EN at *
      generalize wsD (toks l) :: (ls.map toks).map wsD = ALL at *
      generalize (ls.map toks).map wsD = R at *
      generalize wsD (toks l) = W0 at *
      generalize stripD (stripV (toks l)) = ST at *
      generalize badL a b = BL at *
      push_cast [lc, ix, sa, sl, it, e]
    | none =>
      have hr' : restF (ls.map toks) ([] : List Plug).length = none := hr
      rw [hr'] at e
      have ap : ([] ++ (ls.map toks).map plugV : List Plug) = (ls.map toks).map plugV := List.nil_append _
      rw [ap] at e
      have rd : resD (match (none : Option (Nat × Nat)) with
        | some ab => .error ab
        | none => if ls.map toks = [] then .error (2, 1) else .ok (stripV (toks l), (ls.map toks).map plugV)) = if ls.map toks = [] then .error (badL 2 1) else .ok (.tup [stripD (stripV (toks l)), plugsD ((ls.map toks).map plugV)]) := by
        dsimp only
        split <;> rfl
      rw [rd]
      by_cases hn : ls.map toks = []
      · rw [if_pos hn]
        have ne : eqD (.lst (((ls.map toks).map plugV).map encP)) (.lst []) = some true := by rw [hn]; exact eqD_refl 1 rfl (by decide)
        have bl : badL 2 1 = ⟨"BadLine", [("word", .int 1), ("line", .int 2)]⟩ := rfl
        rw [bl]
        simp only [tgR, rdA, List.map_nil] at e
        generalize enumD ((ls.map toks).map wsD) = EN at *
        generalize wsD (toks l) :: (ls.map toks).map wsD = ALL at *
        generalize (ls.map toks).map wsD = R at *
        generalize wsD (toks l) = W0 at *
        generalize stripD (stripV (toks l)) = ST at *
        generalize (((ls.map toks).map plugV).map encP) = PE at *
        push_cast [lc, ix, sa, sl, it, e, ne]
      · rw [if_neg hn]
        have ne : eqD (.lst (((ls.map toks).map plugV).map encP)) (.lst []) = some false := by
          cases hq : ls.map toks with
          | nil => exact absurd hq hn
          | cons a b => exact eqD_some (n := 3) (by rw [← List.map_cons, ← List.map_cons, dOk, List.all_map, List.all_eq_true]; intro a _; rfl) (by decide)
        have tp : D.tup (((ls.map toks).map plugV).map encP) = plugsD ((ls.map toks).map plugV) := rfl
        simp only [tgR, rdA, List.map_nil] at e
        generalize plugsD ((ls.map toks).map plugV) = PD at *
        generalize enumD ((ls.map toks).map wsD) = EN at *
        generalize wsD (toks l) :: (ls.map toks).map wsD = ALL at *
        generalize (ls.map toks).map wsD = R at *
        generalize wsD (toks l) = W0 at *
        generalize stripD (stripV (toks l)) = ST at *
        generalize (((ls.map toks).map plugV).map encP) = PE at *
        push_cast [lc, ix, sa, sl, it, e, ne, tp]
  · rw [if_neg hz] at sa
    rw [if_neg hz]
    have rd : resD (.error (1, stripF (toks l))) = .error ⟨"BadLine", [("word", .int (stripF (toks l) : Nat)), ("line", .int 1)]⟩ := rfl
    rw [rd]
    generalize wsD (toks l) :: (ls.map toks).map wsD = ALL at *
    generalize wsD (toks l) = W0 at *
    push_cast [lc, ix, sa]
theorem told17_ok {T d : D} (h : F_read [T] = some (.ok d)) : F__law_told_there_4 [T] = some (.ok d) := by
  have t : tr__law_told_there_4_1 [some (.val T), some (.val .non), none] [] = .next [some (.val T), some (.val d), none] [] := by
    unfold tr__law_told_there_4_1
    push_cast [h]
  unfold F__law_told_there_4; rw [fnP_run (by rfl)]; unfold f__law_told_there_4
  push_cast [t]
theorem told17_bad {T : D} {a b : Nat} (h : F_read [T] = some (.error (badL a b))) : F__law_told_there_4 [T] = some (.ok (.lst [.str "line", .int (a : Int), .int (b : Int)])) := by
  have t : tr__law_told_there_4_1 [some (.val T), some (.val .non), none] [] = .exc (badL a b) [some (.val T), some (.val .non), none] [] := by
    unfold tr__law_told_there_4_1
    push_cast [h]
  unfold F__law_told_there_4; rw [fnP_run (by rfl)]; unfold f__law_told_there_4
  have s1 : subX "BadLine" "BadLine" = true := by decide +kernel
  have s2 : subX "BadLine" "StripError" = true := by decide +kernel
  have e1 : ("line" == ("word" : Str)) = false := by decide +kernel
  unfold badL at t
  push_cast [t]
  rw [tryO_exc (c := "BadLine"), tryH_yes s1]
  · push_cast [s2, List.lookup, beq_self_eq_true]
    rfl
  · decide +kernel
  · show 2 < 3; decide
theorem told17 {T : D} {r : Except (Nat × Nat) (List Int × List Plug)} (h : F_read [T] = some (resD r)) : F__law_told_there_4 [T] = some (.ok (valD17 r)) := by
  cases r with
  | error ab => exact told17_bad h
  | ok sp => exact told17_ok h
theorem sv_drop {ws : List Str} (W : WsOk ws) : ∀ (n k : Nat) (low : Int), k + n = ws.length → sgo ws n k low = 0 → (ws.drop k).map valT = svals ws n k low ∧ ∀ w ∈ ws.drop k, oIntS [.str w] = some (.int (valT w))
  | 0, k, low, hk, _ => by
    rw [List.drop_of_length_le (by omega)]
    exact ⟨rfl, fun w hw => by cases hw⟩
  | n + 1, k, low, hk, h => by
    unfold sgo at h
    split at h
    · cases h
    · rename_i h10
      cases hv : numAt ws k low 300 with
      | none => rw [hv] at h; cases h
      | some v =>
        rw [hv] at h
        obtain ⟨a, b⟩ := sv_drop W n (k + 1) (v + 1) (by omega) h
        have hlt : k < ws.length := by omega
        obtain ⟨w, hw, iv⟩ := numAt_some W hv
        have hw' : ws[k] = w := by rw [List.getElem?_eq_getElem hlt] at hw; exact Option.some.inj hw
        have ev : valT w = v := by
          unfold numAt at hv
          rw [hw] at hv
          dsimp only at hv
          split at hv
          · exact Option.some.inj hv
          · cases hv
        have e : svals ws (n + 1) k low = v :: svals ws n (k + 1) (v + 1) := by rw [svals, if_neg h10, hv]
        rw [List.drop_eq_getElem_cons hlt, hw', e, List.map_cons, a, ev]
        refine ⟨rfl, fun x hx => ?_⟩
        rcases List.mem_cons.mp hx with rfl | hx
        · rw [ev]; exact iv
        · exact b x hx
theorem strip_drop {ws : List Str} (W : WsOk ws) (h : stripF ws = 0) : (ws.drop 1).map valT = stripV ws ∧ ∀ w ∈ ws.drop 1, oIntS [.str w] = some (.int (valT w)) := by
  unfold stripF at h
  split at h
  · cases h
  · have hl : 1 + stN ws = ws.length := by
      by_cases h2 : 2 ≤ ws.length
      · show 1 + max 1 (ws.length - 1) = _; omega
      · have hn : numAt ws 1 0 300 = none := by
          unfold numAt
          rw [List.getElem?_eq_none_iff.mpr (by omega)]
        have : stN ws = 0 + 1 := by show max 1 (ws.length - 1) = _; omega
        rw [this] at h
        unfold sgo at h
        rw [if_neg (by decide), hn] at h
        cases h
    exact sv_drop W (stN ws) 1 0 hl h
abbrev duR (T LS : D) (k p s pt ft : Option SV) : Rho := [some (.val T), k, some (.val LS), p, s, pt, ft, none]
theorem due_lc1 {T : D} {ls : List Str} {x : Str} {k : Nat} (hk : ls[k]? = some x) (h : LnOk x) {p s pt ft : Option SV} : lc__law_due_1 (duR T (wsD ls) (some (.val (.int (k : Int)))) p s pt ft) [] = .ok (wsD (toks x)) [] := by
  have ix : opIx (wsD ls) (.int (k : Int)) = some (.str x) := atI_map D.str hk
  have sp := splitD_sp h.len
  have l := lcT (tg := gN 7) (tt := eTest (eBin opNe (eVar 7) (eC (.str "")))) (el := eVar 7) (ρ := duR T (wsD ls) (some (.val (.int (k : Int)))) p s pt ft) (ω := []) D.str (fun w => !(w == "")) D.str (Txt.split x " ") [] (by rw [List.length_nil, Nat.zero_add]; exact split_sp_len h.len) (fun w hw => by
    have eq := eqD_str (h.parts hw) (show PyData.strOk "" = true from by decide +kernel)
    refine ⟨_, rfl, ?_, fun _ => ?_⟩
    · push_cast [duR, eq]
    · push_cast [duR])
  unfold lc__law_due_1
  have it : itSeq (.lst ((Txt.split x " ").map D.str)) = some ((Txt.split x " ").map D.str) := rfl
  rw [List.nil_append] at l
  have tk : (Txt.split x " ").filter (fun w : Str => !(w == "")) = toks x := rfl
  rw [tk] at l
  simp only [duR] at l
  generalize (Txt.split x " ").map D.str = S at *
  generalize wsD ls = LD at *
  push_cast [duR, ix, sp, it, l]
theorem due_bd0 {T : D} {x : Str} {ls : List Str} (h : LnOk x) {p s pt ft : Option SV} :
    bd__law_due_3 (duR T (wsD (x :: ls)) (some (.val (.int 0))) p s pt ft) [] = 
      if stripF (toks x) = 0 then .next (duR T (wsD (x :: ls)) (some (.val (.int 0))) p (some (.val (socksD (stripV (toks x))))) (some (.val (wsD (toks x)))) (some (.val (.int 0)))) []
      else .ret (.val (.lst [.str "line", .int 1, .int (stripF (toks x) : Nat)])) [] := by
  obtain ⟨W, Wl⟩ := toks_ok h
  have lc := due_lc1 (T := T) (ls := x :: ls) (k := 0) rfl h (p := p) (s := s) (pt := pt) (ft := ft)
  have lc : lc__law_due_1 (duR T (wsD (x :: ls)) (some (.val (.int 0))) p s pt ft) [] = .ok (wsD (toks x)) [] := lc
  have fa := first_all W Wl
  have z0 : ((0 : Int) == 0) = true := rfl
  have z6 : ((0 : Int) == 6) = false := rfl
  have s1 : (0 : Int) + 1 = 1 := rfl
  unfold bd__law_due_3
  by_cases hz : stripF (toks x) = 0
  · rw [if_pos hz]
    rw [hz, show ((0 : Nat) : Int) = 0 from rfl] at fa
    have d0 : decide ((0 : Int) < 0) = false := rfl
    obtain ⟨sv, si⟩ := strip_drop W hz
    have sl : slD (some 1) none (wsD (toks x)) = some (.lst (((toks x).drop 1).map D.str)) := by
      have := cut1 ((toks x).map D.str)
      unfold slD at this ⊢
      dsimp only at this ⊢
      injection this with h
      injection h with h
      rw [h, List.map_drop]
    have l2 := lcT (tg := gN 7) (tt := eTrue) (el := eCallB oIntS (aCons (aVal (eVar 7)) aNil)) (ρ := duR T (wsD (x :: ls)) (some (.val (.int 0))) p s (some (.val (wsD (toks x)))) (some (.val (.int 0)))) (ω := []) D.str (fun _ => true) (fun w => D.int (valT w)) ((toks x).drop 1) [] (by rw [List.length_nil, List.length_drop]; show _ ≤ 16777216; omega) (fun w hw => ⟨_, rfl, rfl, fun _ => by
      have iv := si w hw
      push_cast [duR, iv]⟩)
    rw [List.nil_append, List.filter_eq_self.mpr fun _ _ => rfl] at l2
    have e2 : ((toks x).drop 1).map (fun w => D.int (valT w)) = (stripV (toks x)).map D.int := by rw [← sv, List.map_map]; rfl
    rw [e2] at l2
    have it : itSeq (.lst (((toks x).drop 1).map D.str)) = some (((toks x).drop 1).map D.str) := rfl
    have ot : oTuple [.lst ((stripV (toks x)).map D.int)] = some (socksD (stripV (toks x))) := rfl
    unfold lc__law_due_2
    simp only [duR] at l2 lc ⊢
    generalize socksD (stripV (toks x)) = SS at *
    generalize (stripV (toks x)).map D.int = SI at *
    generalize ((toks x).drop 1).map D.str = DS at *
    generalize wsD (toks x) = WT at *
    generalize wsD (x :: ls) = WL at *
    push_cast [lc, fa, z0, z6, d0, sl, it, l2, ot]
  · rw [if_neg hz]
    have d0 : decide ((0 : Int) < (stripF (toks x) : Nat)) = true := decide_eq_true (by omega)
    simp only [duR] at lc ⊢
    generalize wsD (toks x) = WT at *
    generalize wsD (x :: ls) = WL at *
    push_cast [lc, fa, z0, z6, d0, s1]
theorem due_bdK {T : D} {x : Str} {ls : List Str} {k : Nat} (hk : ls[k]? = some x) (h1 : 1 ≤ k) (h : LnOk x) {ps : List Plug} (hp : ps.length ≤ 1000) {s pt ft : Option SV} :
    ∃ ft', bd__law_due_3 (duR T (wsD ls) (some (.val (.int (k : Int)))) (some (.val (plugsD ps))) s pt ft) [] = 
      if k = 6 then .ret (.val (.lst [.str "line", .int ((k + 1 : Nat) : Int), .int 1])) []
      else if plugF (toks x) = 0 then .next (duR T (wsD ls) (some (.val (.int (k : Int)))) (some (.val (plugsD (ps ++ [plugV (toks x)])))) s (some (.val (wsD (toks x)))) ft') []
      else .ret (.val (.lst [.str "line", .int ((k + 1 : Nat) : Int), .int (plugF (toks x) : Nat)])) [] := by
  obtain ⟨W, Wl⟩ := toks_ok h
  have lc := due_lc1 (T := T) hk h (p := some (.val (plugsD ps))) (s := s) (pt := pt) (ft := ft)
  have fa := fault_all W
  have z0 : ((k : Int) == 0) = false := beq_false_of_ne (by omega)
  have w1 : (k : Int) + 1 = ((k + 1 : Nat) : Int) := by omega
  have d1 : decide ((0 : Int) < 1) = true := rfl
  refine ⟨some (.val (.int 0)), ?_⟩
  unfold bd__law_due_3
  by_cases h6 : k = 6
  · have z6 : ((k : Int) == 6) = true := by rw [h6]; rfl
    rw [if_pos h6]
    simp only [duR] at lc ⊢
    generalize wsD (toks x) = WT at *
    generalize wsD ls = WL at *
    push_cast [lc, fa, z0, z6, d1, w1]
  · have z6 : ((k : Int) == 6) = false := beq_false_of_ne (by omega)
    rw [if_neg h6]
    by_cases hz : plugF (toks x) = 0
    · rw [if_pos hz]
      rw [hz, show ((0 : Nat) : Int) = 0 from rfl] at fa
      have d0 : decide ((0 : Int) < 0) = false := rfl
      have hz' := hz
      unfold plugF at hz'
      split at hz'
      · cases hz'
      · split at hz'
        · cases hz'
        · rename_i n1
          split at hz'
          · cases hz'
          · rename_i n2
            cases q1 : numAt (toks x) 1 0 60 with
            | none => rw [q1] at n1; exact absurd rfl n1
            | some a =>
              cases q2 : numAt (toks x) 2 0 60 with
              | none => rw [q2] at n2; exact absurd rfl n2
              | some b =>
                obtain ⟨v1, e1, i1⟩ := numAt_some W q1
                obtain ⟨v2, e2, i2⟩ := numAt_some W q2
                have x1 : opIx (wsD (toks x)) (.int 1) = some (.str v1) := atI_map D.str e1
                have x2 : opIx (wsD (toks x)) (.int 2) = some (.str v2) := atI_map D.str e2
                have ol : oLen [wsD (toks x)] = some (.int ((toks x).length : Int)) := by rw [oLen_lst, List.length_map]
                have pv : D.tup [.int a, .int b, .bl (decide ((3 : Int) < ((toks x).length : Int)))] = encP (plugV (toks x)) := by
                  unfold plugV
                  rw [q1, q2]
                  have : decide ((3 : Int) < ((toks x).length : Int)) = decide (3 < (toks x).length) := decide_eq_decide.mpr (by omega)
                  rw [this]; rfl
                have ad : opAdd (plugsD ps) (.tup [encP (plugV (toks x))]) = some (plugsD (ps ++ [plugV (toks x)])) := by
                  unfold plugsD
                  rw [opAdd_tup (by rw [List.length_map]; show _ + 1 ≤ 16777216; omega), List.map_append]; rfl
                simp only [duR] at lc ⊢
                generalize plugsD (ps ++ [plugV (toks x)]) = PN at *
                generalize plugsD ps = PP at *
                generalize encP (plugV (toks x)) = EP at *
                generalize wsD (toks x) = WT at *
                generalize wsD ls = WL at *
                push_cast [lc, fa, z0, z6, d0, x1, x2, i1, i2, ol, pv, ad]
    · rw [if_neg hz]
      have d0 : decide ((0 : Int) < (plugF (toks x) : Nat)) = true := decide_eq_true (by omega)
      simp only [duR] at lc ⊢
      generalize wsD (toks x) = WT at *
      generalize wsD ls = WL at *
      push_cast [lc, fa, z0, z6, d0, w1]
theorem due_loop {T : D} {LS : List Str} {s : Option SV} : ∀ (rs : List Str) (k : Nat) (ps : List Plug) (x pt ft : Option SV), LS.drop k = rs → k = ps.length + 1 → (∀ x ∈ rs, LnOk x) → ps.length ≤ 5 →
    ∃ x' pt' ft', forL (gN 1) bd__law_due_3 (intsF k rs.length) (duR T (wsD LS) x (some (.val (plugsD ps))) s pt ft) [] =
      match restF (rs.map toks) ps.length with
      | some (a, b) => .ret (.val (.lst [.str "line", .int (a : Int), .int (b : Int)])) []
      | none => .next (duR T (wsD LS) x' (some (.val (plugsD (ps ++ (rs.map toks).map plugV)))) s pt' ft') []
  | [], k, ps, x, pt, ft, _, _, _, _ => ⟨x, pt, ft, by rw [List.map_nil, restF, List.map_nil, List.append_nil]; rfl⟩
  | r :: rs, k, ps, x, pt, ft, hd, hk, h, hp => by
    have hr : LS[k]? = some r := by rw [← List.head?_drop, hd]; rfl
    have hd' : LS.drop (k + 1) = rs := by rw [← List.drop_drop, hd]; rfl
    obtain ⟨f', b⟩ := due_bdK (T := T) hr (by omega) (h r List.mem_cons_self) (ps := ps) (by omega) (s := s) (pt := pt) (ft := ft)
    rw [show intsF k (r :: rs).length = .int (k : Int) :: intsF (k + 1) rs.length from rfl, List.map_cons]
    unfold restF
    have tg : (gN 1) (.int (k : Int)) (duR T (wsD LS) x (some (.val (plugsD ps))) s pt ft) = some (duR T (wsD LS) (some (.val (.int (k : Int)))) (some (.val (plugsD ps))) s pt ft) := rfl
    by_cases h5 : ps.length = 5
    · rw [if_pos (show k = 6 by omega)] at b
      refine ⟨none, none, none, ?_⟩
      rw [if_pos h5, forL_ret tg b, hk, h5]
      rfl
    · rw [if_neg (show ¬ k = 6 by omega)] at b
      rw [if_neg h5]
      by_cases hz : plugF (toks r) = 0
      · rw [if_pos hz] at b
        rw [if_pos hz, forL_next tg b]
        obtain ⟨x', pt', ft', e⟩ := due_loop (T := T) (s := s) rs (k + 1) (ps ++ [plugV (toks r)]) (some (.val (.int (k : Int)))) (some (.val (wsD (toks r)))) f' hd' (by rw [List.length_append, hk]; rfl) (fun y hy => h y (List.mem_cons_of_mem _ hy)) (by rw [List.length_append]; show ps.length + 1 ≤ 5; omega)
        have hl : (ps ++ [plugV (toks r)]).length = ps.length + 1 := by rw [List.length_append]; rfl
        rw [hl] at e
        refine ⟨x', pt', ft', e.trans ?_⟩
        rw [List.append_assoc]; rfl
      · rw [if_neg hz] at b
        refine ⟨none, none, none, ?_⟩
        rw [if_neg hz, forL_ret tg b, show k + 1 = ps.length + 2 by omega]
theorem eqD_someT {n : Nat} {d : D} {ds : List D} (h : dOk n (.tup (d :: ds)) = true) (hn : n ≤ 64) : eqD (.tup (d :: ds)) (.tup []) = some false := by
  obtain ⟨p, h1, h2, h3⟩ := toPy_ok n _ h
  unfold eqD
  rw [h1, show toPy (.tup []) = some (.tuple []) from rfl]
  have hs : SeqAt.shaped p = true := by unfold SeqAt.shaped; rw [h2, Bool.true_and, decide_eq_true_eq]; omega
  dsimp only
  rw [hs, show SeqAt.shaped (.tuple []) = true from by decide]
  rw [toPy, toPys] at h1
  cases u : toPy d with
  | none => rw [u] at h1; cases h1
  | some x =>
    rw [u] at h1
    cases u2 : toPys ds with
    | none => rw [u2] at h1; cases h1
    | some y =>
      rw [u2] at h1
      cases h1
      simp [PyData.eqv, PyData.eqvAll]
theorem due_all {T : Str} {l : Str} {ls : List Str} (hs : splitD T (.str "\n") = some (wsD (l :: ls))) (h : ∀ x ∈ l :: ls, LnOk x) (hn : ls.length ≤ 90) : F__law_due [.str T] = some (.ok (valD17 (outR (toks l) (ls.map toks)))) := by
  have ol : oLen [wsD (l :: ls)] = some (.int ((ls.length + 1 : Nat) : Int)) := by rw [oLen_lst, List.length_map]; rfl
  have it : itR1 (.int ((ls.length + 1 : Nat) : Int)) = some (.int 0 :: intsF 1 ls.length) := by
    rw [itR1_run (by omega) (by omega)]
    congr 1
    unfold rngD
    rw [show (((ls.length + 1 : Nat) : Int) - 0).toNat = ls.length + 1 by omega]
    exact rng_ints (ls.length + 1) 0
  have b0 := due_bd0 (T := .str T) (ls := ls) (h l List.mem_cons_self) (p := some (.val (plugsD []))) (s := some (.val (.tup []))) (pt := none) (ft := none)
  have tg : (gN 1) (.int 0) (duR (.str T) (wsD (l :: ls)) none (some (.val (plugsD []))) (some (.val (.tup []))) none none) = some (duR (.str T) (wsD (l :: ls)) (some (.val (.int 0))) (some (.val (plugsD []))) (some (.val (.tup []))) none none) := rfl
  unfold F__law_due
  rw [fnP_run (by rfl)]
  unfold f__law_due outR
  have pn : plugsD [] = .tup [] := rfl
  by_cases hz : stripF (toks l) = 0
  · rw [if_pos hz] at b0
    rw [if_pos hz]
    obtain ⟨x', pt', ft', e⟩ := due_loop (T := .str T) (LS := l :: ls) (s := some (.val (socksD (stripV (toks l))))) ls 1 [] (some (.val (.int 0))) (some (.val (wsD (toks l)))) (some (.val (.int 0))) rfl rfl (fun y hy => h y (List.mem_cons_of_mem _ hy)) (by decide)
    have lp := (forL_next tg b0 (ds := intsF 1 ls.length)).trans e
    obtain ⟨hS, h9⟩ := stripV_ok hz
    have m1 := strip_init2 hS h9
    have st : D.obj "Strip" [("rows", socksD (stripV (toks l)))] = stripD (stripV (toks l)) := rfl
    cases hr : restF (ls.map toks) 0 with
    | some ab =>
      obtain ⟨a, b⟩ := ab
      have hr' : restF (ls.map toks) ([] : List Plug).length = some (a, b) := hr
      rw [hr'] at lp
      have rd : valD17 (match (some (a, b) : Option (Nat × Nat)) with
        | some ab => .error ab
        | none => if ls.map toks = [] then .error (2, 1) else .ok (stripV (toks l), (ls.map toks).map plugV)) = .lst [.str "line", .int (a : Int), .int (b : Int)] := rfl
      rw [rd]
      simp only [duR, pn] at lp
      generalize (.int 0 :: intsF 1 ls.length : List D) = RG at *
      generalize wsD (l :: ls) = WL at *
      push_cast [hs, ol, it, lp]
    | none =>
      have hr' : restF (ls.map toks) ([] : List Plug).length = none := hr
      rw [hr', List.nil_append] at lp
      by_cases hn' : ls.map toks = []
      · have rd : valD17 (match (none : Option (Nat × Nat)) with
          | some ab => .error ab
          | none => if ls.map toks = [] then .error (2, 1) else .ok (stripV (toks l), (ls.map toks).map plugV)) = .lst [.str "line", .int 2, .int 1] := by
          dsimp only
          rw [if_pos hn']; rfl
        rw [rd]
        rw [hn', List.map_nil, pn] at lp
        have en : eqD (.tup []) (.tup []) = some true := eqD_refl 1 rfl (by decide)
        simp only [duR, pn] at lp
        generalize (.int 0 :: intsF 1 ls.length : List D) = RG at *
        generalize wsD (l :: ls) = WL at *
        push_cast [hs, ol, it, lp, en]
      · have rd : valD17 (match (none : Option (Nat × Nat)) with
          | some ab => .error ab
          | none => if ls.map toks = [] then .error (2, 1) else .ok (stripV (toks l), (ls.map toks).map plugV)) = .tup [stripD (stripV (toks l)), plugsD ((ls.map toks).map plugV)] := by
          dsimp only
          rw [if_neg hn']; rfl
        rw [rd]
        have en : eqD (plugsD ((ls.map toks).map plugV)) (.tup []) = some false := by
          unfold plugsD
          cases hq : ls.map toks with
          | nil => exact absurd hq hn'
          | cons a b => exact eqD_someT (n := 3) (by rw [← List.map_cons, ← List.map_cons, dOk, List.all_map, List.all_eq_true]; intro a _; rfl) (by decide)
        simp only [duR, pn] at lp
        generalize plugsD ((ls.map toks).map plugV) = PD at *
        generalize (.int 0 :: intsF 1 ls.length : List D) = RG at *
        generalize wsD (l :: ls) = WL at *
        generalize socksD (stripV (toks l)) = SS at *
        push_cast [hs, ol, it, lp, en, m1, st]
  · rw [if_neg hz] at b0
    rw [if_neg hz]
    have lp := forL_ret tg b0 (ds := intsF 1 ls.length)
    have rd : valD17 (.error (1, stripF (toks l))) = .lst [.str "line", .int 1, .int (stripF (toks l) : Nat)] := rfl
    rw [rd]
    simp only [duR, pn] at lp
    generalize (.int 0 :: intsF 1 ls.length : List D) = RG at *
    generalize wsD (l :: ls) = WL at *
    push_cast [hs, ol, it, lp]
theorem ne17 (r : Except (Nat × Nat) (List Int × List Plug)) : opNeT "Strip" F_Strip_d__eq_d_ (valD17 r) (valD17 r) = some (.bl false) := by
  cases r with
  | ok sp => exact neT_run
  | error ab =>
    have e : eqD (valD17 (.error ab)) (valD17 (.error ab)) = some true := eqD_refl 1 (by show (PyData.strOk "line" && (true && (true && true))) = true; decide +kernel) (by decide)
    show opNe (valD17 (.error ab)) (valD17 (.error ab)) = _
    unfold opNe
    rw [e]; rfl
theorem agree17 {L : List Str} (hne : L ≠ []) (h : ∀ x ∈ L, LnOk x) (hn : L.length ≤ 90) : ∃ d, F__law_told_there_4 [.str (Txt.join "\n" L)] = some (.ok d) ∧ F__law_due [.str (Txt.join "\n" L)] = some (.ok d) ∧ opNeT "Strip" F_Strip_d__eq_d_ d d = some (.bl false) := by
  cases L with
  | nil => exact absurd rfl hne
  | cons l ls =>
    rw [List.length_cons] at hn
    have hs : splitD (Txt.join "\n" (l :: ls)) (.str "\n") = some (wsD (l :: ls)) := splitD_nl (split_lines (by simp) fun x hx hm => ((h x hx).sg _ hm).1 rfl) (by
      have := join_len "\n" 1000 fun w hw => (h w hw).len
      have e : ("\n" : Str).length = 1 := by decide +kernel
      rw [e, List.length_cons] at this
      omega) (by rw [List.length_cons]; omega)
    exact ⟨_, told17 (read_all hs h (by omega)), due_all hs h (by omega), ne17 _⟩
abbrev wtE (K : Nat) (S P : D) (x y z : Option SV) : Rho := [some (.val S), some (.val P), some (.own K), x, y, z, none]
theorem tg3E_run {K : Nat} {l r : Int} {t : Bool} {S P : D} {x y z : Option SV} : gT 3 (gsCons (gN 3) (gsCons (gN 4) (gsCons (gN 5) gsNil))) (encP (l, r, t)) (wtE K S P x y z) = some (wtE K S P (some (.val (.int l))) (some (.val (.int r))) (some (.val (.bl t)))) := rfl
theorem law_linesE_bd {ω : Om} {l r : Int} {t : Bool} {S P : D} {L : List Str} (h : PlugOk (l, r, t)) (hl : L.length ≤ 6) :
    bd__law_linesE_2 (wtE ω.length S P (some (.val (.int l))) (some (.val (.int r))) (some (.val (.bl t)))) (ω ++ [some (.lst (L.map D.str))]) = .next (wtE ω.length S P (some (.val (.int l))) (some (.val (.int r))) (some (.val (.bl t)))) (ω ++ [some (.lst ((L ++ [lineP (l, r, t)]).map D.str))]) := by
  obtain ⟨l0, l1, r0, r1⟩ : 0 ≤ l ∧ l ≤ 60 ∧ 0 ≤ r ∧ r ≤ 60 := ⟨h.l0, h.l1, h.r0, h.r1⟩
  have s1 := oStr_run l0 (by omega)
  have s2 := oStr_run r0 (by omega)
  have n1 := numI_len (i := l) l0 (by omega)
  have n2 := numI_len (i := r) r0 (by omega)
  have lm : ((L.map D.str).length < lim) := by rw [List.length_map]; show _ < 16777216; omega
  have ap : L.map D.str ++ [D.str (lineP (l, r, t))] = (L ++ [lineP (l, r, t)]).map D.str := by rw [List.map_append]; rfl
  have k1 : ("plug " : Str).length = 5 := by decide +kernel
  have k2 : (" " : Str).length = 1 := by decide +kernel
  have k3 : (" turns" : Str).length = 6 := by decide +kernel
  have k4 : ("" : Str).length = 0 := by decide +kernel
  have a1 : opAdd (.str "plug ") (.str (numI l)) = some (.str ("plug " ++ numI l)) := opAdd_s (by rw [k1]; omega)
  have a2 : opAdd (.str ("plug " ++ numI l)) (.str " ") = some (.str ("plug " ++ numI l ++ " ")) := opAdd_s (by rw [app_len, k1, k2]; omega)
  have a3 : opAdd (.str ("plug " ++ numI l ++ " ")) (.str (numI r)) = some (.str ("plug " ++ numI l ++ " " ++ numI r)) := opAdd_s (by rw [app_len, app_len, k1, k2]; omega)
  have e := lineP_eq h
  have og : ∀ x : Option OD, (ω ++ [x])[ω.length]? = some x := fun x => by simp
  have os : ∀ x y : Option OD, (ω ++ [x]).set ω.length y = ω ++ [y] := fun x y => by simp
  unfold bd__law_linesE_2
  cases t with
  | true =>
    have a4 : opAdd (.str ("plug " ++ numI l ++ " " ++ numI r)) (.str " turns") = some (.str (lineP (l, r, true))) := by
      rw [opAdd_s (by rw [app_len, app_len, app_len, k1, k2, k3]; omega)]
      rw [if_pos rfl] at e
      rw [← e]
    generalize ("plug " ++ numI l ++ " " ++ numI r : Str) = A3 at *
    generalize ("plug " ++ numI l ++ " " : Str) = A2 at *
    generalize ("plug " ++ numI l : Str) = A1 at *
    generalize (L ++ [lineP (l, r, true)]).map D.str = L' at *
    generalize lineP (l, r, true) = LP at *
    generalize L.map D.str = L0 at *
    generalize numI l = A at *
    generalize numI r = B at *
    push_cast [wtE, og, os, s1, s2, lm, ap, a1, a2, a3, a4]
  | false =>
    have a4 : opAdd (.str ("plug " ++ numI l ++ " " ++ numI r)) (.str "") = some (.str (lineP (l, r, false))) := by
      rw [opAdd_s (by rw [app_len, app_len, app_len, k1, k2, k4]; omega)]
      rw [if_neg Bool.false_ne_true] at e
      rw [← e]
    generalize ("plug " ++ numI l ++ " " ++ numI r : Str) = A3 at *
    generalize ("plug " ++ numI l ++ " " : Str) = A2 at *
    generalize ("plug " ++ numI l : Str) = A1 at *
    generalize (L ++ [lineP (l, r, false)]).map D.str = L' at *
    generalize lineP (l, r, false) = LP at *
    generalize L.map D.str = L0 at *
    generalize numI l = A at *
    generalize numI r = B at *
    push_cast [wtE, og, os, s1, s2, lm, ap, a1, a2, a3, a4]
theorem lnsE_loop {ω : Om} {b : FS} {S P : D} (hb : ∀ {l r : Int} {t : Bool} {L : List Str}, PlugOk (l, r, t) → L.length ≤ 6 → b (wtE ω.length S P (some (.val (.int l))) (some (.val (.int r))) (some (.val (.bl t)))) (ω ++ [some (.lst (L.map D.str))]) = .next (wtE ω.length S P (some (.val (.int l))) (some (.val (.int r))) (some (.val (.bl t)))) (ω ++ [some (.lst ((L ++ [lineP (l, r, t)]).map D.str))])) :
    ∀ (ps : List Plug) (L : List Str) (x y z : Option SV), (∀ p ∈ ps, PlugOk p) → L.length + ps.length ≤ 6 →
    ∃ x' y' z', forL (gT 3 (gsCons (gN 3) (gsCons (gN 4) (gsCons (gN 5) gsNil)))) b (ps.map encP) (wtE ω.length S P x y z) (ω ++ [some (.lst (L.map D.str))]) = .next (wtE ω.length S P x' y' z') (ω ++ [some (.lst ((L ++ ps.map lineP).map D.str))])
  | [], L, x, y, z, _, _ => ⟨x, y, z, by rw [List.map_nil, List.map_nil, List.append_nil]; rfl⟩
  | (l, r, t) :: ps, L, x, y, z, h, hl => by
    rw [List.length_cons] at hl
    rw [List.map_cons, forL_next tg3E_run (hb (h _ List.mem_cons_self) (by omega))]
    obtain ⟨x', y', z', e⟩ := lnsE_loop hb ps (L ++ [lineP (l, r, t)]) (some (.val (.int l))) (some (.val (.int r))) (some (.val (.bl t))) (fun p hp => h p (List.mem_cons_of_mem _ hp)) (by rw [List.length_append]; simp; omega)
    refine ⟨x', y', z', e.trans ?_⟩
    rw [List.append_assoc]; rfl
theorem linesE_run {s : List Int} {ps : List Plug} (h : Socks s) (h9 : s.length ≤ 9) (hp : ∀ p ∈ ps, PlugOk p) (h5 : ps.length ≤ 5) (ω : Om) : F__law_linesE [.val (socksD s), .val (plugsD ps)] ω = .ok (.own ω.length) (ω ++ [some (.lst ((linesW s ps).map D.str))]) := by
  have lc := nums_lc h h9 (ρ := [some (.val (socksD s)), some (.val (plugsD ps)), none, none, none, none, none]) (fun d => rfl) (fun d => rfl) (ω := ω)
  have j := join5 (sockW_wd h) (by rw [sockW_len]; omega)
  have j : joinD " " ([D.str "strip"] ++ (s.map numI).map D.str) = some (.str (lineS s)) := j
  have ad : opAdd (.lst [D.str "strip"]) (wsD (s.map numI)) = some (.lst ([D.str "strip"] ++ (s.map numI).map D.str)) := opAdd_lst (by
    rw [List.length_map, List.length_map]; show 1 + _ ≤ 16777216; omega)
  have it : itSeq (socksD s) = some (s.map D.int) := rfl
  have it2 : itSeq (plugsD ps) = some (ps.map encP) := rfl
  obtain ⟨x, y, z, lp⟩ := lnsE_loop (ω := ω) (b := bd__law_linesE_2) (S := socksD s) (P := plugsD ps) (fun h hl => law_linesE_bd h hl) ps [lineS s] none none none hp (by show 1 + _ ≤ 6; omega)
  have lp : forL (gT 3 (gsCons (gN 3) (gsCons (gN 4) (gsCons (gN 5) gsNil)))) bd__law_linesE_2 (ps.map encP) [some (.val (socksD s)), some (.val (plugsD ps)), some (.own ω.length), none, none, none, none] (ω ++ [some (.lst [D.str (lineS s)])]) = .next [some (.val (socksD s)), some (.val (plugsD ps)), some (.own ω.length), x, y, z, none] (ω ++ [some (.lst ((linesW s ps).map D.str))]) := lp
  unfold F__law_linesE
  rw [fnE_run (by rfl)]
  unfold f__law_linesE lc__law_linesE_1
  generalize (linesW s ps).map D.str = LS at *
  generalize lineS s = L0 at *
  generalize [D.str "strip"] ++ (s.map numI).map D.str = SL at *
  generalize wsD (s.map numI) = V at *
  generalize socksD s = SD at *
  generalize plugsD ps = P at *
  push_cast [it, it2, lc, ad, j, lp]
  unfold finE
  dsimp only
  rw [if_neg (Nat.lt_irrefl _), if_pos rfl, List.take_of_length_le (by simp)]
def oddW : List Str := ["", "0", "1", "60", "61", "300", "301", "-1", "01", "strip", "plug", "turns", "x", "10", "1\t", "+3", "1000"]
theorem oddW_ok : ∀ w ∈ oddW, w.length ≤ 5 ∧ ∀ c ∈ TL.tl w, c ≠ 10 ∧ c < 128 := by
  have : ∀ i : Fin 17, (oddW.get i).length ≤ 5 ∧ (TL.tl (oddW.get i)).all (fun c => decide (c ≠ 10 ∧ c < 128)) = true := by decide +kernel
  intro w hw
  obtain ⟨i, hi, rfl⟩ := List.getElem_of_mem hw
  obtain ⟨a, b⟩ := this ⟨i, hi⟩
  exact ⟨a, fun c hc => of_decide_eq_true (List.all_eq_true.mp b c hc)⟩
structure LnB (b : Nat) (x : Str) : Prop where
  len : x.length ≤ b
  sg : ∀ c ∈ TL.tl x, c ≠ 10 ∧ c < 128
theorem LnB.ok {b : Nat} {x : Str} (h : LnB b x) (hb : b ≤ 1000) : LnOk x := ⟨Nat.le_trans h.len hb, h.sg⟩
theorem LnB.mono {b b' : Nat} {x : Str} (h : LnB b x) (hb : b ≤ b') : LnB b' x := ⟨Nat.le_trans h.len hb, h.sg⟩
structure Parts (b : Nat) (ps : List Str) : Prop where
  sum : (ps.map (·.length)).sum + ps.length ≤ b
  sg : ∀ w ∈ ps, ∀ c ∈ TL.tl w, c ≠ 10 ∧ c < 128
theorem Parts.join {b : Nat} {ps : List Str} (h : Parts b ps) (hb : b ≤ 1000) : LnB b (Txt.join " " ps) ∧ joinD " " (ps.map D.str) = some (.str (Txt.join " " ps)) := by
  have e : (" " : Str).length = 1 := by decide +kernel
  refine ⟨⟨?_, fun c hc => ?_⟩, joinD_run (by rw [e]; have := h.sum; omega)⟩
  · have := joinL_len (TL.tl (" " : Str)) (ps.map TL.tl)
    rw [TL.len_tl, TL.join_eq, TL.tl_join]
    rw [List.map_map, List.length_map, ← TL.len_tl, e] at this
    have e2 : (List.map ((fun x => x.length) ∘ TL.tl) ps).sum = (ps.map (·.length)).sum := by
      exact congrArg List.sum (List.map_congr_left fun w _ => (TL.len_tl w).symm)
    rw [e2] at this
    have := h.sum
    omega
  · rcases join_mem hc with h' | ⟨w, hw, h'⟩
    · rw [tl_sp, List.mem_singleton] at h'
      omega
    · exact h.sg w hw c h'
theorem spl_sum : ∀ (l acc : List Nat), ((TL.spl [32] 0 acc l).map (·.length)).sum + (TL.spl [32] 0 acc l).length = acc.length + l.length + 1
  | [], acc => by rw [TL.spl_nil]; simp
  | c :: r, acc => by
    by_cases hc : TL.pre [32] (c :: r) = true
    · rw [TL.spl_hit hc]
      have h3 : ((TL.spl [32] 0 [] r).map (·.length)).sum + (TL.spl [32] 0 [] r).length = [].length + r.length + 1 := spl_sum r []
      show ((acc :: TL.spl [32] 0 [] r).map (·.length)).sum + (acc :: TL.spl [32] 0 [] r).length = _
      rw [List.map_cons, List.sum_cons, List.length_cons, List.length_cons]
      rw [List.length_nil] at h3
      omega
    · rw [TL.spl_miss (by simpa using hc)]
      have := spl_sum r (acc ++ [c])
      have e1 : (acc ++ [c]).length = acc.length + 1 := by rw [List.length_append]; rfl
      have e2 : (c :: r).length = r.length + 1 := rfl
      rw [e1] at this
      rw [e2, this]
      omega
theorem parts_of {b : Nat} {x : Str} (h : LnB b x) : Parts (b + 1) (Txt.split x " ") := by
  refine ⟨?_, fun w hw c hc => ?_⟩
  · have := spl_sum (TL.tl x) []
    rw [← split_tl, List.map_map, List.length_map] at this
    have e2 : (List.map ((fun x => x.length) ∘ TL.tl) (Txt.split x " ")).sum = ((Txt.split x " ").map (·.length)).sum := by
      exact congrArg List.sum (List.map_congr_left fun w _ => (TL.len_tl w).symm)
    rw [e2, List.length_nil, ← TL.len_tl] at this
    have := h.len
    omega
  · have : TL.tl w ∈ TL.spl [32] 0 [] (TL.tl x) := by rw [← split_tl]; exact List.mem_map.mpr ⟨w, hw, rfl⟩
    rcases spl_mem _ _ _ this hc with h' | h'
    · cases h'
    · exact h.sg c h'
def sz (l : List Str) : Nat := (l.map (·.length)).sum + l.length
theorem sz_app (a b : List Str) : sz (a ++ b) = sz a + sz b := by
  unfold sz
  rw [List.map_append, List.sum_append, List.length_append]; omega
theorem sz_cut (l : List Str) (k : Nat) : sz (l.take k) + sz (l.drop k) = sz l := by rw [← sz_app, List.take_append_drop]
theorem sz_drop (l : List Str) (k : Nat) : sz (l.drop (k + 1)) ≤ sz (l.drop k) := by
  have := sz_cut (l.drop k) 1
  rw [List.drop_drop] at this
  omega
theorem sz_one {l : List Str} {w : Str} (h : w ∈ l) : sz [w] ≤ sz l := by
  obtain ⟨a, b, rfl⟩ := List.append_of_mem h
  rw [sz_app, show w :: b = [w] ++ b from rfl, sz_app]; omega
theorem cut_hiL0 (ds : List D) (k : Nat) : slD (some (k : Int)) none (.lst ds) = some (.lst (ds.drop k)) := by
  show some (D.lst (cutD ds (some (k : Int)) none)) = _
  unfold cutD
  have : HT.sIx ds.length 0 (some (k : Int)) = min k ds.length := HT.sIx_nat _ _ k
  rw [this, HT.sIx_none]
  by_cases h : k ≤ ds.length
  · rw [Nat.min_eq_left h]
    rw [List.take_of_length_le (by rw [List.length_drop]; exact Nat.le_refl _)]
  · rw [Nat.min_eq_right (by omega), List.drop_of_length_le (Nat.le_refl _), List.drop_of_length_le (show ds.length ≤ k by omega)]
    simp
section
variable {ns : List Int} {rest ω : Om}
theorem spoilt_run (hr : IsRow ns rest ω) {b : Nat} {x : Str} (h : LnB b x) (hb : b ≤ 400) : ∃ (y : Str) (ω' : Om), IsRow ns rest ω' ∧ LnB (2 * b + 20) y ∧ F__law_spoilt [.own 0, .val (.str x)] ω = .ok (.val (.str y)) ω' := by
  have P := parts_of h
  have sp := splitD_sp (h.ok (by omega)).len
  generalize hP : Txt.split x " " = PP at *
  have hpos : 0 < PP.length := by
    have := congrArg List.length (split_tl x)
    rw [List.length_map, hP] at this
    rw [this]
    have := spl_sum (TL.tl x) []
    cases q : TL.spl [32] 0 [] (TL.tl x) with
    | nil => rw [q] at this; simp at this
    | cons a l => simp
  have hs : sz PP ≤ b + 1 := P.sum
  have hpl : PP.length ≤ b + 1 := by unfold sz at hs; omega
  obtain ⟨r1, ω1, w1, a1, b1, e1⟩ := pick (m := (PP.length : Int)) hr (by omega) (by omega)
  obtain ⟨r2, ω2, w2, a2, b2, e2⟩ := pick (m := 6) w1 (by decide) (by decide)
  obtain ⟨r3, ω3, w3, a3, b3, e3⟩ := pick (m := 17) w2 (by decide) (by decide)
  obtain ⟨k, rfl⟩ : ∃ k : Nat, r1 = k := ⟨r1.toNat, by omega⟩
  have hk : k < PP.length := by omega
  obtain ⟨d3, hd3, e3'⟩ := atI_mem (xs := oddW.map D.str) a3 (by show r3 < 17; exact b3)
  obtain ⟨o, ho, rfl⟩ := List.mem_map.mp hd3
  obtain ⟨ol, og⟩ := oddW_ok o ho
  have pg : ∀ w ∈ PP, ∀ c ∈ TL.tl w, c ≠ 10 ∧ c < 128 := P.sg
  have ok : ∀ Q : List Str, sz Q ≤ 2 * b + 20 → (∀ w ∈ Q, w ∈ PP ∨ w = o) → Parts (2 * b + 20) Q := fun Q hq hm => ⟨hq, fun w hw c hc => by
    rcases hm w hw with h' | rfl
    · exact pg w h' c hc
    · exact og c hc⟩
  have cut := sz_cut PP k
  have dr := sz_drop PP k
  have one := sz_one (List.getElem_mem hk)
  have szo : sz [o] ≤ 6 := by unfold sz; simp; omega
  have oL : oLen [.lst (PP.map D.str)] = some (.int (PP.length : Int)) := by rw [oLen_lst, List.length_map]
  have t1 : slD none (some (k : Int)) (.lst (PP.map D.str)) = some (.lst ((PP.take k).map D.str)) := by rw [cutL, List.map_take]
  have t2 : slD (some ((k : Int) + 1)) none (.lst (PP.map D.str)) = some (.lst ((PP.drop (k + 1)).map D.str)) := by
    have := cut_hiL0 (PP.map D.str) (k + 1)
    rw [show (((k + 1 : Nat)) : Int) = (k : Int) + 1 by omega] at this
    rw [this, List.map_drop]
  have t3 : slD (some (k : Int)) none (.lst (PP.map D.str)) = some (.lst ((PP.drop k).map D.str)) := by rw [cut_hiL0, List.map_drop]
  have t3' : slD (some ((k : Int) + 0)) none (.lst (PP.map D.str)) = some (.lst ((PP.drop k).map D.str)) := by rw [Int.add_zero]; exact t3
  have ix : opIx (.lst (PP.map D.str)) (.int (k : Int)) = some (.str PP[k]) := atI_map D.str (List.getElem?_eq_getElem hk)
  have ad : ∀ A B : List Str, A.length + B.length ≤ 100000 → opAdd (.lst (A.map D.str)) (.lst (B.map D.str)) = some (.lst ((A ++ B).map D.str)) := fun A B hAB => by
    rw [opAdd_lst (by rw [List.length_map, List.length_map]; show _ ≤ 16777216; omega), List.map_append]
  have lt : (PP.take k).length ≤ b + 1 := by rw [List.length_take]; omega
  have ld : ∀ j, (PP.drop j).length ≤ b + 1 := fun j => by rw [List.length_drop]; omega
  have mt : ∀ w ∈ PP.take k, w ∈ PP ∨ w = o := fun w hw => .inl (List.mem_of_mem_take hw)
  have md : ∀ j, ∀ w ∈ PP.drop j, w ∈ PP ∨ w = o := fun j w hw => .inl (List.mem_of_mem_drop hw)
  have oD : oddW.map D.str = [.str "", .str "0", .str "1", .str "60", .str "61", .str "300", .str "301", .str "-1", .str "01", .str "strip", .str "plug", .str "turns", .str "x", .str "10", .str "1\t", .str "+3", .str "1000"] := rfl
  have a17 : opAdd (.lst [.str "", .str "0", .str "1", .str "60", .str "61", .str "300", .str "301", .str "-1", .str "01", .str "strip", .str "plug", .str "turns", .str "x", .str "10", .str "1\t"]) (.lst [.str "+3", .str "1000"]) = some (.lst (oddW.map D.str)) := rfl
  have e3i : opIx (.lst (oddW.map D.str)) (.int r3) = some (.str o) := e3'
  have l15 := fun ds : List D => lstR_run (ds := ds) (show 15 ≤ lim by decide)
  have q0 := ok (PP.take k ++ PP.drop (k + 1)) (by rw [sz_app]; omega) (fun w hw => (List.mem_append.mp hw).elim (mt w) (md _ w))
  have q1 := ok (PP.take k ++ [PP[k]] ++ PP.drop k) (by rw [sz_app, sz_app]; omega) (fun w hw => by
    rcases List.mem_append.mp hw with hw | hw
    · rcases List.mem_append.mp hw with hw | hw
      · exact mt w hw
      · rw [List.mem_singleton] at hw; subst hw; exact .inl (List.getElem_mem hk)
    · exact md _ w hw)
  have q2 := ok (PP.take k) (by omega) mt
  have q3 := ok (PP.take k ++ [o] ++ PP.drop (k + 1)) (by rw [sz_app, sz_app]; omega) (fun w hw => by
    rcases List.mem_append.mp hw with hw | hw
    · rcases List.mem_append.mp hw with hw | hw
      · exact mt w hw
      · rw [List.mem_singleton] at hw; exact .inr hw
    · exact md _ w hw)
  have q5 := ok (PP.take k ++ [o] ++ PP.drop k) (by rw [sz_app, sz_app]; omega) (fun w hw => by
    rcases List.mem_append.mp hw with hw | hw
    · rcases List.mem_append.mp hw with hw | hw
      · exact mt w hw
      · rw [List.mem_singleton] at hw; exact .inr hw
    · exact md _ w hw)
  have g1 := ad (PP.take k) (PP.drop (k + 1)) (by have := ld (k + 1); omega)
  have g2 := ad (PP.take k) [PP[k]] (by show _ + 1 ≤ _; omega)
  have g3 := ad (PP.take k ++ [PP[k]]) (PP.drop k) (by have := ld k; rw [List.length_append]; show _ + 1 + _ ≤ _; omega)
  have g4 := ad (PP.take k) [o] (by show _ + 1 ≤ _; omega)
  have g5 := ad (PP.take k ++ [o]) (PP.drop (k + 1)) (by have := ld (k + 1); rw [List.length_append]; show _ + 1 + _ ≤ _; omega)
  have g6 := ad (PP.take k ++ [o]) (PP.drop k) (by have := ld k; rw [List.length_append]; show _ + 1 + _ ≤ _; omega)
  have hb' : 2 * b + 20 ≤ 1000 := by omega
  obtain ⟨y0, j0⟩ := q0.join hb'
  obtain ⟨y1, j1⟩ := q1.join hb'
  obtain ⟨y2, j2⟩ := q2.join hb'
  obtain ⟨y3, j3⟩ := q3.join hb'
  obtain ⟨y5, j5⟩ := q5.join hb'
  have cases6 : r2 = 0 ∨ r2 = 1 ∨ r2 = 2 ∨ r2 = 3 ∨ r2 = 4 ∨ r2 = 5 := by omega
  have s1 : [D.str PP[k]] = [PP[k]].map D.str := rfl
  have s2 : [D.str o] = [o].map D.str := rfl
  unfold F__law_spoilt
  rw [fnE_run (by rfl)]
  unfold f__law_spoilt
  clear oD q0 q1 q2 q3 q5 ok pg mt md ad
  generalize Txt.join " " (PP.take k ++ PP.drop (k + 1)) = J0 at *
  generalize Txt.join " " (PP.take k ++ [PP[k]] ++ PP.drop k) = J1 at *
  generalize Txt.join " " (PP.take k ++ [o] ++ PP.drop (k + 1)) = J3 at *
  generalize Txt.join " " (PP.take k ++ [o] ++ PP.drop k) = J5 at *
  generalize Txt.join " " (PP.take k) = J2 at *
  rw [← s1] at g2
  rw [← s2] at g4
  generalize (PP.take k ++ PP.drop (k + 1)).map D.str = M0 at *
  generalize (PP.take k ++ [PP[k]] ++ PP.drop k).map D.str = M1 at *
  generalize (PP.take k ++ [o] ++ PP.drop (k + 1)).map D.str = M3 at *
  generalize (PP.take k ++ [o] ++ PP.drop k).map D.str = M5 at *
  generalize (PP.take k ++ [PP[k]]).map D.str = M6 at *
  generalize (PP.take k ++ [o]).map D.str = M7 at *
  generalize (PP.take k).map D.str = M8 at *
  generalize (PP.drop (k + 1)).map D.str = M9 at *
  generalize (PP.drop k).map D.str = MA at *
  generalize PP.map D.str = MP at *
  generalize oddW.map D.str = MO at *
  generalize (PP.length : Int) = PL at *
  have tk := row_take hr w2
  have tk3 := row_take hr w3
  rcases cases6 with rfl | rfl | rfl | rfl | rfl | rfl
  · have z0 : ((0 : Int) == 0) = true := rfl
    refine ⟨J0, ω2, w2, y0, ?_⟩
    push_cast [sp, oL, e1, e2, a17, l15, z0, t1, t2, g1, j0, tk]
  · have z0 : ((1 : Int) == 0) = false := rfl
    have z1 : ((1 : Int) == 1) = true := rfl
    refine ⟨J1, ω2, w2, y1, ?_⟩
    push_cast [sp, oL, e1, e2, a17, l15, z0, z1, t1, t3, ix, g2, g3, j1, tk]
  · have z0 : ((2 : Int) == 0) = false := rfl
    have z1 : ((2 : Int) == 1) = false := rfl
    have z2 : ((2 : Int) == 2) = true := rfl
    refine ⟨J2, ω2, w2, y2, ?_⟩
    push_cast [sp, oL, e1, e2, a17, l15, z0, z1, z2, t1, j2, tk]
  · have z0 : ((3 : Int) == 0) = false := rfl
    have z1 : ((3 : Int) == 1) = false := rfl
    have z2 : ((3 : Int) == 2) = false := rfl
    have lt5 : decide ((3 : Int) < 5) = true := rfl
    have lb1 : (if true = true then (1 : Int) else 0) = 1 := rfl
    refine ⟨J3, ω3, w3, y3, ?_⟩
    push_cast [sp, oL, e1, e2, a17, l15, z0, z1, z2, t1, t2, e3, e3i, g4, g5, j3, tk3, lt5, lb1]
  · have z0 : ((4 : Int) == 0) = false := rfl
    have z1 : ((4 : Int) == 1) = false := rfl
    have z2 : ((4 : Int) == 2) = false := rfl
    have lt5 : decide ((4 : Int) < 5) = true := rfl
    have lb1 : (if true = true then (1 : Int) else 0) = 1 := rfl
    refine ⟨J3, ω3, w3, y3, ?_⟩
    push_cast [sp, oL, e1, e2, a17, l15, z0, z1, z2, t1, t2, e3, e3i, g4, g5, j3, tk3, lt5, lb1]
  · have z0 : ((5 : Int) == 0) = false := rfl
    have z1 : ((5 : Int) == 1) = false := rfl
    have z2 : ((5 : Int) == 2) = false := rfl
    have lt5 : decide ((5 : Int) < 5) = false := rfl
    refine ⟨J5, ω3, w3, y5, ?_⟩
    push_cast [sp, oL, e1, e2, a17, l15, z0, z1, z2, t1, t3', e3, e3i, g4, g6, j5, tk3, lt5, Bool.false_eq_true]
end
end Pk
-- RUN+ ↓eJoin_run ↓eSplit_run joinR_run ↓eBinOL_run ↓eAddL_run ↓eSlO_run
namespace Pk
open PySem Dl L2
structure LsB (b n : Nat) (L : List Str) : Prop where
  ne : L ≠ []
  len : L.length ≤ n
  ok : ∀ x ∈ L, LnB b x
theorem tail_text : (" 290 291 292 293" : Str).length = 16 ∧ ∀ c ∈ TL.tl (" 290 291 292 293" : Str), c ≠ 10 ∧ c < 128 := by
  refine ⟨by decide +kernel, ?_⟩
  have : (TL.tl (" 290 291 292 293" : Str)).all (fun c => decide (c ≠ 10 ∧ c < 128)) = true := by decide +kernel
  exact fun c hc => of_decide_eq_true (List.all_eq_true.mp this c hc)
theorem LnB.add {b : Nat} {x : Str} (h : LnB b x) : LnB (2 * b + 20) (x ++ " 290 291 292 293") := by
  obtain ⟨a, g⟩ := tail_text
  refine ⟨by rw [app_len, a]; have := h.len; omega, fun c hc => ?_⟩
  rw [TL.tl_append] at hc
  rcases List.mem_append.mp hc with hc | hc
  · exact h.sg c hc
  · exact g c hc
abbrev l23 (ns : List Int) (x2 x3 x4 x5 x6 x7 : Option SV) : Rho := [some (.val (.lst (ns.map D.int))), some (.own 0), x2, x3, x4, x5, x6, x7]
structure Own23 (ns : List Int) (b n : Nat) (L : List Str) (K : Nat) (ω : Om) : Prop where
  row : ∃ rest, IsRow ns rest ω
  at_ : ω[K]? = some (some (.lst (L.map D.str)))
  pos : 0 < K
  ls : LsB b n L
theorem row_keep {ns : List Int} {rest ω ω' : Om} (h : IsRow ns rest ω) (h' : IsRow ns rest ω') {K : Nat} (hK : 0 < K) : ω'[K]? = ω[K]? := by
  obtain ⟨a, b, c, k, rfl⟩ := h
  obtain ⟨a', b', c', k', rfl⟩ := h'
  obtain ⟨j, rfl⟩ : ∃ j, K = j + 1 := ⟨K - 1, by omega⟩
  rfl
theorem row_app {ns : List Int} {rest ω : Om} (h : IsRow ns rest ω) (x : Om) : IsRow ns (rest ++ x) (ω ++ x) := by
  obtain ⟨a, b, c, k, rfl⟩ := h
  exact ⟨a, b, c, k, rfl⟩
theorem row_set {ns : List Int} {rest ω : Om} (h : IsRow ns rest ω) {K : Nat} (hK : 0 < K) (y : Option OD) : ∃ rest', IsRow ns rest' (ω.set K y) := by
  obtain ⟨a, b, c, k, rfl⟩ := h
  obtain ⟨j, rfl⟩ : ∃ j, K = j + 1 := ⟨K - 1, by omega⟩
  exact ⟨rest.set j y, a, b, c, k, rfl⟩
end Pk
namespace Pk
open PySem Dl L2
local macro_rules
  | `(tactic| push_cast [$xs,*]) => `(tactic| simp -implicitDefEqProofs only [↓eC_run, ↓eVar_run, ↓eSlot_run, ↓eBin_run, ↓eUn_run, ↓eTest_run, ↓eAndT_run, ↓eOrT_run, ↓eNotT_run, ↓eTrue_run, ↓eAnd_run, ↓eOr_run, ↓eNot_run, ↓eIf_run, ↓aNil_run, ↓aCons_run, ↓aVal_run, ↓eTup_run, ↓eList_run, ↓eLst_run, ↓eCallB_run, ↓eOnL_run, ↓eIsi_run, ↓eSl_run, ↓ePart_run, ↓eNoPart_run, ↓eChain_run, ↓eIxO_run, ↓eOwnL_run, ↓sNext_run, ↓sSeq_run, ↓sIf_run, ↓sExpr_run, ↓sRet_run, ↓sRetS_run, ↓sRetN_run, ↓sBreak_run, ↓sCont_run, ↓sAsg_run, ↓sSetS_run, ↓sPar_run, ↓sFor_run, ↓sWhile_run, ↓eIt1_run, ↓eIt2_run, ↓eIt3_run, ↓eLc_run, ↓eLc2_run, ↓sNewL_run, ↓sApp_run, ↓sSetIx_run, ↓sRetL_run, ↓sRetNew_run, ↓eCallP_run, ↓eCallE_run, ↓eVal_run, ↓eMake_run, ↓eFld_run, ↓sRaise_run, ↓sRaiseI_run, ↓sTry_run, ↓eIsx_run, ↓sPar3_run, ↓eNewL_run, ↓eNDisp_run, ↓eKDisp_run, ↓eEmptyK_run, ↓eNewN_run, ↓eKM_run, ↓eNGet_run, ↓eKGet_run, ↓eNGetO_run, ↓eCopyN_run, ↓sNPut_run, ↓aStar_run, ↓eRg1_run, ↓eIsi2_run, ↓eCopyL_run, ↓eNVals_run, ↓eJoin_run, ↓eSplit_run, ↓eBinOL_run, ↓eAddL_run, ↓eSlO_run, bind_ok, bind_exc, out_ok, out_exc, lift_some, obind_next, obind_ret, obind_exc, obind_brk, obind_cont, varR_run, slotR_run, asBl_run, allD_nil, allD_cons, asLst_run, asI_run, chR_run, ownK_run, ownKR_run, ownL_run, ownLR_run, someR_run, someO_run, ixI_run, parR_run, gN_run, gsNil_run, gsCons_run, itSeq_lst, itSeq_tup, itEn_lst, itEn_tup, itZ_lst, itZ_tup, wipeR_nil, wipeR_cons, setIxR_run, finP_ret, finP_next, finP_exc, finE_ret, finE_next, finE_exc, callR_ok, callR_err, valR_run, makeR_ok, makeR_exc, opAdd_int, opI_run, opB_run, opMulA_int, opEq_run, opNe_run, opIsN_run, opNotN_run, opIx_tup, opIx_lst, opNeg_run, oLen_tup, oLen_lst, oInt_int, oInt_bl, oTuple_tup, oTuple_lst, oList_tup, oList_lst, oTupleL_run, oListL_run, oLenL_run, isi_int_non, isi_int_bl, isi_int_int, isi_int_str, isi_int_tup, isi_int_lst, isi_bool_non, isi_bool_bl, isi_bool_int, isi_bool_str, isi_bool_tup, isi_bool_lst, isi_tuple_non, isi_tuple_bl, isi_tuple_int, isi_tuple_str, isi_tuple_tup, isi_tuple_lst, isi_str_non, isi_str_bl, isi_str_int, isi_str_str, isi_str_tup, isi_str_lst, isi_list_non, isi_list_bl, isi_list_int, isi_list_str, isi_list_tup, isi_list_lst, atI_0, atI_1, atI_2, atI_3, atI_4, atI_5, atI_6, atI_7, atI_8, ixN_1_0, ixN_2_0, ixN_2_1, ixN_3_0, ixN_3_1, ixN_3_2, ixN_4_0, ixN_4_1, ixN_4_2, ixN_4_3, ixN_5_0, ixN_5_1, ixN_5_2, ixN_5_3, ixN_5_4, eqD_int, eqD_bl, eqD_non_non, isNon_non, isNon_bl, isNon_int, isNon_str, isNon_tup, isNon_lst, Option.map_some, Option.map_none, Option.bind_some, List.getElem?_cons_zero, List.getElem?_cons_succ, List.set_cons_zero, List.set_cons_succ, List.map_cons, List.map_nil, List.length_cons, List.length_nil, List.cons_append, List.nil_append, rho0, List.replicate, List.take_succ_cons, List.take_zero, List.take_nil, List.take_length, and_self, Bool.false_eq_true, Bool.not_true, Bool.not_false, decide_true, decide_false, raiseI_run1, raiseI_run2, tryO_next, tryO_ret, tryH_nil, unbind_next, unbind_ret, eXf_run, par3R_run, newLR_0, newLR_1, kmR_run, kmR2_run, asK_run, asN_run, getRL_run, getKL_run, ngo0_run, ngo1_run, ngoR_run, ownN_run, ownNR_run, npK_run, starR_run, itNItems_run, itNKeys_run, oDictK_run, opIn2_K, opKIx_run, keyK_int, copyLR_lst, copyLR_tup, gT2_run, nValsD_run, Option.getD_some, tup_0, lst_0, tup_1, lst_1, tup_2, lst_2, tup_3, lst_3, tup_4, lst_4, tup_5, lst_5, tup_6, lst_6, tup_7, lst_7, tup_8, lst_8, tup_9, lst_9, tup_10, lst_10, tup_11, lst_11, tup_12, lst_12, new_0, new_1, new_2, new_3, new_4, new_5, joinR_run, ↓reduceIte, Nat.reduceAdd, $xs,*])
  | `(tactic| push_cast [$xs,*] at $h:ident) => `(tactic| simp -implicitDefEqProofs only [↓eC_run, ↓eVar_run, ↓eSlot_run, ↓eBin_run, ↓eUn_run, ↓eTest_run, ↓eAndT_run, ↓eOrT_run, ↓eNotT_run, ↓eTrue_run, ↓eAnd_run, ↓eOr_run, ↓eNot_run, ↓eIf_run, ↓aNil_run, ↓aCons_run, ↓aVal_run, ↓eTup_run, ↓eList_run, ↓eLst_run, ↓eCallB_run, ↓eOnL_run, ↓eIsi_run, ↓eSl_run, ↓ePart_run, ↓eNoPart_run, ↓eChain_run, ↓eIxO_run, ↓eOwnL_run, ↓sNext_run, ↓sSeq_run, ↓sIf_run, ↓sExpr_run, ↓sRet_run, ↓sRetS_run, ↓sRetN_run, ↓sBreak_run, ↓sCont_run, ↓sAsg_run, ↓sSetS_run, ↓sPar_run, ↓sFor_run, ↓sWhile_run, ↓eIt1_run, ↓eIt2_run, ↓eIt3_run, ↓eLc_run, ↓eLc2_run, ↓sNewL_run, ↓sApp_run, ↓sSetIx_run, ↓sRetL_run, ↓sRetNew_run, ↓eCallP_run, ↓eCallE_run, ↓eVal_run, ↓eMake_run, ↓eFld_run, ↓sRaise_run, ↓sRaiseI_run, ↓sTry_run, ↓eIsx_run, ↓sPar3_run, ↓eNewL_run, ↓eNDisp_run, ↓eKDisp_run, ↓eEmptyK_run, ↓eNewN_run, ↓eKM_run, ↓eNGet_run, ↓eKGet_run, ↓eNGetO_run, ↓eCopyN_run, ↓sNPut_run, ↓aStar_run, ↓eRg1_run, ↓eIsi2_run, ↓eCopyL_run, ↓eNVals_run, ↓eJoin_run, ↓eSplit_run, ↓eBinOL_run, ↓eAddL_run, ↓eSlO_run, bind_ok, bind_exc, out_ok, out_exc, lift_some, obind_next, obind_ret, obind_exc, obind_brk, obind_cont, varR_run, slotR_run, asBl_run, allD_nil, allD_cons, asLst_run, asI_run, chR_run, ownK_run, ownKR_run, ownL_run, ownLR_run, someR_run, someO_run, ixI_run, parR_run, gN_run, gsNil_run, gsCons_run, itSeq_lst, itSeq_tup, itEn_lst, itEn_tup, itZ_lst, itZ_tup, wipeR_nil, wipeR_cons, setIxR_run, finP_ret, finP_next, finP_exc, finE_ret, finE_next, finE_exc, callR_ok, callR_err, valR_run, makeR_ok, makeR_exc, opAdd_int, opI_run, opB_run, opMulA_int, opEq_run, opNe_run, opIsN_run, opNotN_run, opIx_tup, opIx_lst, opNeg_run, oLen_tup, oLen_lst, oInt_int, oInt_bl, oTuple_tup, oTuple_lst, oList_tup, oList_lst, oTupleL_run, oListL_run, oLenL_run, isi_int_non, isi_int_bl, isi_int_int, isi_int_str, isi_int_tup, isi_int_lst, isi_bool_non, isi_bool_bl, isi_bool_int, isi_bool_str, isi_bool_tup, isi_bool_lst, isi_tuple_non, isi_tuple_bl, isi_tuple_int, isi_tuple_str, isi_tuple_tup, isi_tuple_lst, isi_str_non, isi_str_bl, isi_str_int, isi_str_str, isi_str_tup, isi_str_lst, isi_list_non, isi_list_bl, isi_list_int, isi_list_str, isi_list_tup, isi_list_lst, atI_0, atI_1, atI_2, atI_3, atI_4, atI_5, atI_6, atI_7, atI_8, ixN_1_0, ixN_2_0, ixN_2_1, ixN_3_0, ixN_3_1, ixN_3_2, ixN_4_0, ixN_4_1, ixN_4_2, ixN_4_3, ixN_5_0, ixN_5_1, ixN_5_2, ixN_5_3, ixN_5_4, eqD_int, eqD_bl, eqD_non_non, isNon_non, isNon_bl, isNon_int, isNon_str, isNon_tup, isNon_lst, Option.map_some, Option.map_none, Option.bind_some, List.getElem?_cons_zero, List.getElem?_cons_succ, List.set_cons_zero, List.set_cons_succ, List.map_cons, List.map_nil, List.length_cons, List.length_nil, List.cons_append, List.nil_append, rho0, List.replicate, List.take_succ_cons, List.take_zero, List.take_nil, List.take_length, and_self, Bool.false_eq_true, Bool.not_true, Bool.not_false, decide_true, decide_false, raiseI_run1, raiseI_run2, tryO_next, tryO_ret, tryH_nil, unbind_next, unbind_ret, eXf_run, par3R_run, newLR_0, newLR_1, kmR_run, kmR2_run, asK_run, asN_run, getRL_run, getKL_run, ngo0_run, ngo1_run, ngoR_run, ownN_run, ownNR_run, npK_run, starR_run, itNItems_run, itNKeys_run, oDictK_run, opIn2_K, opKIx_run, keyK_int, copyLR_lst, copyLR_tup, gT2_run, nValsD_run, Option.getD_some, tup_0, lst_0, tup_1, lst_1, tup_2, lst_2, tup_3, lst_3, tup_4, lst_4, tup_5, lst_5, tup_6, lst_6, tup_7, lst_7, tup_8, lst_8, tup_9, lst_9, tup_10, lst_10, tup_11, lst_11, tup_12, lst_12, new_0, new_1, new_2, new_3, new_4, new_5, joinR_run, ↓reduceIte, Nat.reduceAdd, $xs,*] at $h:ident)
section
variable {ns : List Int} {x2 x4 x5 x6 x7 : Option SV}
theorem turn23 {b n K : Nat} {L : List Str} {ω : Om} (O : Own23 ns b n L K ω) (hb : b ≤ 400) (hn : n ≤ 50) : ∃ (L' : List Str) (K' : Nat) (y5 y6 y7 : Option SV) (ω' : Om), Own23 ns (2 * b + 20) (n + 4) L' K' ω' ∧
    bd_law_23_1 (l23 ns x2 (some (.own K)) x4 x5 x6 x7) ω = .next (l23 ns x2 (some (.own K')) x4 y5 y6 y7) ω' := by
  obtain ⟨⟨rest, hr⟩, hat, hK, ⟨hne, hlen, hok⟩⟩ := O
  have hpos : 0 < L.length := List.length_pos_iff.mpr hne
  have hll : (L.map D.str).length = L.length := by rw [List.length_map]
  obtain ⟨r1, ω1, w1, a1, b1, e1⟩ := pick (m := (L.length : Int)) hr (by omega) (by omega)
  obtain ⟨r2, ω2, w2, a2, b2, e2⟩ := pick (m := 8) w1 (by decide) (by decide)
  obtain ⟨k, rfl⟩ : ∃ k : Nat, r1 = k := ⟨r1.toNat, by omega⟩
  have hk : k < L.length := by omega
  have at2 : ω2[K]? = some (some (.lst (L.map D.str))) := by rw [row_keep hr w2 hK]; exact hat
  have ol : oLenL (L.map D.str) = some (.int (L.length : Int)) := by unfold oLenL; rw [hll]
  have mono : ∀ x ∈ L, LnB (2 * b + 20) x := fun x hx => (hok x hx).mono (by omega)
  have w2p : 0 < ω2.length := by
    obtain ⟨a, b, c, k, rfl⟩ := w2
    simp
  have fresh : ∀ L' : List Str, LsB (2 * b + 20) (n + 4) L' → Own23 ns (2 * b + 20) (n + 4) L' ω2.length (ω2 ++ [some (.lst (L'.map D.str))]) := fun L' h => ⟨⟨_, row_app w2 _⟩, by simp, w2p, h⟩
  have t1 : slD none (some (k : Int)) (.lst (L.map D.str)) = some (.lst ((L.take k).map D.str)) := by rw [cutL, List.map_take]
  have t2 : slD (some ((k : Int) + 1)) none (.lst (L.map D.str)) = some (.lst ((L.drop (k + 1)).map D.str)) := by
    have := cut_hiL0 (L.map D.str) (k + 1)
    rw [show (((k + 1 : Nat)) : Int) = (k : Int) + 1 by omega] at this
    rw [this, List.map_drop]
  have t3 : slD (some (k : Int)) none (.lst (L.map D.str)) = some (.lst ((L.drop k).map D.str)) := by rw [cut_hiL0, List.map_drop]
  by_cases h0 : r2 = 0 ∧ 1 < L.length
  · obtain ⟨rfl, h1⟩ := h0
    have d1 : decide ((1 : Int) < (L.length : Int)) = true := decide_eq_true (by omega)
    have z0 : ((0 : Int) == 0) = true := rfl
    have al := addLR_run (ω := ω2) (a := (L.take k).map D.str) (b := (L.drop (k + 1)).map D.str) (by rw [List.length_map, List.length_map, List.length_take, List.length_drop]; show _ ≤ 16777216; omega)
    rw [← List.map_append] at al
    refine ⟨L.take k ++ L.drop (k + 1), ω2.length, some (.val (.int (k : Int))), some (.val (.int 0)), x7, _, fresh _ ⟨fun e => ?_, ?_, fun x hx => ?_⟩, ?_⟩
    · have := congrArg List.length e
      rw [List.length_append, List.length_take, List.length_drop, List.length_nil] at this
      omega
    · rw [List.length_append, List.length_take, List.length_drop]; omega
    · rcases List.mem_append.mp hx with hx | hx
      · exact mono x (List.mem_of_mem_take hx)
      · exact mono x (List.mem_of_mem_drop hx)
    · unfold bd_law_23_1
      generalize (L.take k ++ L.drop (k + 1)).map D.str = M1 at *
      generalize (L.take k).map D.str = M2 at *
      generalize (L.drop (k + 1)).map D.str = M3 at *
      generalize (L.drop k).map D.str = M4 at *
      generalize L.map D.str = LL at *
      push_cast [l23, hat, hll, e1, e2, z0, at2, d1, t1, t2, al]
  · have ixk : ixI (L.map D.str) (.int (k : Int)) = some (.str L[k]) := atI_map D.str (List.getElem?_eq_getElem hk)
    by_cases h1 : r2 = 1
    · subst h1
      have z0 : ((1 : Int) == 0) = false := rfl
      have z1 : ((1 : Int) == 1) = true := rfl
      obtain ⟨r3, ω3, w3, a3, b3, e3⟩ := pick (m := 2) w2 (by decide) (by decide)
      have at3 : ω3[K]? = some (some (.lst (L.map D.str))) := by rw [row_keep w2 w3 hK]; exact at2
      have g1 : opAdd (.lst [.str L[k]]) (.lst ((L.drop k).map D.str)) = some (.lst ((L[k] :: L.drop k).map D.str)) := opAdd_lst (by
        rw [List.length_map, List.length_drop]; show 1 + _ ≤ 16777216; omega)
      have g2 : slD none (some 1) (.lst ((L[k] :: L.drop k).map D.str)) = some (.lst [.str L[k]]) := cutL _ 1
      have g3 : opAdd (.lst [.str L[k]]) (.lst [.str L[k]]) = some (.lst [.str L[k], .str L[k]]) := rfl
      have g4 : opAdd (.lst [.str L[k], .str L[k]]) (.lst ((L[k] :: L.drop k).map D.str)) = some (.lst ((L[k] :: L[k] :: L[k] :: L.drop k).map D.str)) := opAdd_lst (by
        simp only [List.length_map, List.length_cons, List.length_nil, List.length_drop]; show _ ≤ 16777216; omega)
      obtain ⟨V, hV, e4⟩ := atI_mem (xs := [D.lst ((L[k] :: L.drop k).map D.str), .lst ((L[k] :: L[k] :: L[k] :: L.drop k).map D.str)]) a3 (by show r3 < 2; exact b3)
      have e4 : opIx (.lst [D.lst ((L[k] :: L.drop k).map D.str), .lst ((L[k] :: L[k] :: L[k] :: L.drop k).map D.str)]) (.int r3) = some V := e4
      obtain ⟨B, rfl, hBl, hBm⟩ : ∃ B : List Str, V = .lst (B.map D.str) ∧ (1 ≤ B.length ∧ B.length + k ≤ L.length + 3) ∧ ∀ x ∈ B, x ∈ L := by
        have hd : ∀ x ∈ L.drop k, x ∈ L := fun x hx => List.mem_of_mem_drop hx
        have hg := List.getElem_mem hk
        simp only [List.mem_cons, List.not_mem_nil, or_false] at hV
        rcases hV with rfl | rfl
        · refine ⟨_, rfl, ⟨by simp, by rw [List.length_cons, List.length_drop]; omega⟩, fun x hx => ?_⟩
          rcases List.mem_cons.mp hx with rfl | hx
          · exact hg
          · exact hd x hx
        · refine ⟨_, rfl, ⟨by simp, by rw [List.length_cons, List.length_cons, List.length_cons, List.length_drop]; omega⟩, fun x hx => ?_⟩
          simp only [List.mem_cons] at hx
          rcases hx with rfl | rfl | rfl | hx
          · exact hg
          · exact hg
          · exact hg
          · exact hd x hx
      have w3p : 0 < ω3.length := by
        obtain ⟨a, b, c, k, rfl⟩ := w3
        simp
      have al := addLR_run (ω := ω3) (a := (L.take k).map D.str) (b := B.map D.str) (by rw [List.length_map, List.length_map, List.length_take]; show _ ≤ 16777216; omega)
      rw [← List.map_append] at al
      refine ⟨L.take k ++ B, ω3.length, some (.val (.int (k : Int))), some (.val (.int 1)), some (.val (.lst ((L[k] :: L.drop k).map D.str))), ω3 ++ [some (.lst ((L.take k ++ B).map D.str))], ⟨⟨_, row_app w3 _⟩, (by rw [List.getElem?_append_right (Nat.le_refl _), Nat.sub_self]; rfl), w3p, ⟨fun e => ?_, ?_, fun x hx => ?_⟩⟩, ?_⟩
      · have := congrArg List.length e
        rw [List.length_append, List.length_nil] at this
        omega
      · rw [List.length_append, List.length_take]; omega
      · rcases List.mem_append.mp hx with hx | hx
        · exact mono x (List.mem_of_mem_take hx)
        · exact mono x (hBm x hx)
      · unfold bd_law_23_1
        generalize (L.take k ++ B).map D.str = M1 at *
        generalize (L[k] :: L[k] :: L[k] :: L.drop k).map D.str = M6 at *
        generalize (L[k] :: L.drop k).map D.str = M5 at *
        generalize L[k] = LK at *
        generalize (L.take k).map D.str = M2 at *
        generalize (L.drop (k + 1)).map D.str = M3 at *
        generalize (L.drop k).map D.str = M4 at *
        generalize B.map D.str = MB at *
        generalize L.map D.str = LL at *
        push_cast [l23, hat, hll, e1, e2, e3, z0, z1, at2, at3, t1, t3, ixk, g1, g2, g3, g4, e4, al]
    · have setl : ∀ (j : Nat) (y : Str), LnB (2 * b + 20) y → j < L.length → LsB (2 * b + 20) (n + 4) (L.set j y) := fun j y hy hj => ⟨fun e => by
          have := congrArg List.length e
          rw [List.length_set, List.length_nil] at this
          omega, by rw [List.length_set]; omega, fun x hx => by
          rcases List.mem_or_eq_of_mem_set hx with hx | rfl
          · exact mono x hx
          · exact hy⟩
      have sm : ∀ (j : Nat) (y : Str), (L.map D.str).set j (.str y) = (L.set j y).map D.str := fun j y => by rw [List.map_set]
      have z1 : (r2 == 1) = false := beq_false_of_ne h1
      by_cases h2 : r2 = 2
      · subst h2
        have z0 : ((2 : Int) == 0) = false := rfl
        have z2 : ((2 : Int) == 2) = true := rfl
        have i0 : ixN L.length 0 = some 0 := by
          unfold ixN
          rw [if_pos (by decide), if_pos (by omega)]; rfl
        have ix0 : ixI (L.map D.str) (.int 0) = some (.str L[0]) := atI_map D.str (List.getElem?_eq_getElem hpos)
        have hl0 := hok _ (List.getElem_mem hpos)
        have ad : opAdd (.str L[0]) (.str " 290 291 292 293") = some (.str (L[0] ++ " 290 291 292 293")) := opAdd_s (by rw [tail_text.1]; have := hl0.len; omega)
        have y0 := LnB.add hl0
        obtain ⟨rest', w4⟩ := row_set w2 hK (some (.lst ((L.set 0 (L[0] ++ " 290 291 292 293")).map D.str)))
        have hKl : K < ω2.length := (List.getElem?_eq_some_iff.mp at2).1
        refine ⟨L.set 0 (L[0] ++ " 290 291 292 293"), K, some (.val (.int (k : Int))), some (.val (.int 2)), x7, ω2.set K (some (.lst ((L.set 0 (L[0] ++ " 290 291 292 293")).map D.str))), ⟨⟨rest', w4⟩, by rw [List.getElem?_set_self hKl], hK, setl 0 _ y0 hpos⟩, ?_⟩
        rw [← sm]
        unfold bd_law_23_1
        generalize L[0] ++ " 290 291 292 293" = LY at *
        generalize L[0] = L0 at *
        generalize L.map D.str = LL at *
        push_cast [l23, hat, hll, e1, e2, z0, z1, z2, at2, ix0, ad, i0]
      · have z2 : (r2 == 2) = false := beq_false_of_ne h2
        obtain ⟨y, ω3, w3, hy, e3⟩ := spoilt_run w2 (hok _ (List.getElem_mem hk)) hb
        have at3 : ω3[K]? = some (some (.lst (L.map D.str))) := by rw [row_keep w2 w3 hK]; exact at2
        obtain ⟨rest', w4⟩ := row_set w3 hK (some (.lst ((L.set k y).map D.str)))
        have hKl : K < ω3.length := (List.getElem?_eq_some_iff.mp at3).1
        have ik : ixN L.length (k : Int) = some k := by
          unfold ixN
          rw [if_pos (by omega), if_pos (by omega)]
          congr 1
        refine ⟨L.set k y, K, some (.val (.int (k : Int))), some (.val (.int r2)), x7, ω3.set K (some (.lst ((L.set k y).map D.str))), ⟨⟨rest', w4⟩, by rw [List.getElem?_set_self hKl], hK, setl k _ hy hk⟩, ?_⟩
        rw [← sm]
        unfold bd_law_23_1
        by_cases hz : r2 = 0
        · have z0 : (r2 == 0) = true := by rw [hz]; rfl
          have d1 : decide ((1 : Int) < (L.length : Int)) = false := decide_eq_false (by omega)
          generalize L[k] = LK at *
          generalize L.map D.str = LL at *
          push_cast [l23, hat, hll, e1, e2, z0, z1, z2, d1, at2, at3, ixk, e3, ik]
        · have z0 : (r2 == 0) = false := beq_false_of_ne hz
          generalize L[k] = LK at *
          generalize L.map D.str = LL at *
          push_cast [l23, hat, hll, e1, e2, z0, z1, z2, at2, at3, ixk, e3, ik]
end
end Pk
namespace Pk
open PySem Dl L2
local macro_rules
  | `(tactic| push_cast [$xs,*]) => `(tactic| simp -implicitDefEqProofs only [↓eC_run, ↓eVar_run, ↓eSlot_run, ↓eBin_run, ↓eUn_run, ↓eTest_run, ↓eAndT_run, ↓eOrT_run, ↓eNotT_run, ↓eTrue_run, ↓eAnd_run, ↓eOr_run, ↓eNot_run, ↓eIf_run, ↓aNil_run, ↓aCons_run, ↓aVal_run, ↓eTup_run, ↓eList_run, ↓eLst_run, ↓eCallB_run, ↓eOnL_run, ↓eIsi_run, ↓eSl_run, ↓ePart_run, ↓eNoPart_run, ↓eChain_run, ↓eIxO_run, ↓eOwnL_run, ↓sNext_run, ↓sSeq_run, ↓sIf_run, ↓sExpr_run, ↓sRet_run, ↓sRetS_run, ↓sRetN_run, ↓sBreak_run, ↓sCont_run, ↓sAsg_run, ↓sSetS_run, ↓sPar_run, ↓sFor_run, ↓sWhile_run, ↓eIt1_run, ↓eIt2_run, ↓eIt3_run, ↓eLc_run, ↓eLc2_run, ↓sNewL_run, ↓sApp_run, ↓sSetIx_run, ↓sRetL_run, ↓sRetNew_run, ↓eCallP_run, ↓eCallE_run, ↓eVal_run, ↓eMake_run, ↓eFld_run, ↓sRaise_run, ↓sRaiseI_run, ↓sTry_run, ↓eIsx_run, ↓sPar3_run, ↓eNewL_run, ↓eNDisp_run, ↓eKDisp_run, ↓eEmptyK_run, ↓eNewN_run, ↓eKM_run, ↓eNGet_run, ↓eKGet_run, ↓eNGetO_run, ↓eCopyN_run, ↓sNPut_run, ↓aStar_run, ↓eRg1_run, ↓eIsi2_run, ↓eCopyL_run, ↓eNVals_run, ↓eJoin_run, ↓eSplit_run, ↓eBinOL_run, ↓eAddL_run, ↓eSlO_run, ↓eProp_run, bind_ok, bind_exc, out_ok, out_exc, lift_some, obind_next, obind_ret, obind_exc, obind_brk, obind_cont, varR_run, slotR_run, asBl_run, allD_nil, allD_cons, asLst_run, asI_run, chR_run, ownK_run, ownKR_run, ownL_run, ownLR_run, someR_run, someO_run, ixI_run, parR_run, gN_run, gsNil_run, gsCons_run, itSeq_lst, itSeq_tup, itEn_lst, itEn_tup, itZ_lst, itZ_tup, wipeR_nil, wipeR_cons, setIxR_run, finP_ret, finP_next, finP_exc, finE_ret, finE_next, finE_exc, callR_ok, callR_err, valR_run, makeR_ok, makeR_exc, opAdd_int, opI_run, opB_run, opMulA_int, opEq_run, opNe_run, opIsN_run, opNotN_run, opIx_tup, opIx_lst, opNeg_run, oLen_tup, oLen_lst, oInt_int, oInt_bl, oTuple_tup, oTuple_lst, oList_tup, oList_lst, oTupleL_run, oListL_run, oLenL_run, isi_int_non, isi_int_bl, isi_int_int, isi_int_str, isi_int_tup, isi_int_lst, isi_bool_non, isi_bool_bl, isi_bool_int, isi_bool_str, isi_bool_tup, isi_bool_lst, isi_tuple_non, isi_tuple_bl, isi_tuple_int, isi_tuple_str, isi_tuple_tup, isi_tuple_lst, isi_str_non, isi_str_bl, isi_str_int, isi_str_str, isi_str_tup, isi_str_lst, isi_list_non, isi_list_bl, isi_list_int, isi_list_str, isi_list_tup, isi_list_lst, atI_0, atI_1, atI_2, atI_3, atI_4, atI_5, atI_6, atI_7, atI_8, ixN_1_0, ixN_2_0, ixN_2_1, ixN_3_0, ixN_3_1, ixN_3_2, ixN_4_0, ixN_4_1, ixN_4_2, ixN_4_3, ixN_5_0, ixN_5_1, ixN_5_2, ixN_5_3, ixN_5_4, eqD_int, eqD_bl, eqD_non_non, isNon_non, isNon_bl, isNon_int, isNon_str, isNon_tup, isNon_lst, Option.map_some, Option.map_none, Option.bind_some, List.getElem?_cons_zero, List.getElem?_cons_succ, List.set_cons_zero, List.set_cons_succ, List.map_cons, List.map_nil, List.length_cons, List.length_nil, List.cons_append, List.nil_append, rho0, List.replicate, List.take_succ_cons, List.take_zero, List.take_nil, List.take_length, and_self, Bool.false_eq_true, Bool.not_true, Bool.not_false, decide_true, decide_false, raiseI_run1, raiseI_run2, tryO_next, tryO_ret, tryH_nil, unbind_next, unbind_ret, eXf_run, par3R_run, newLR_0, newLR_1, kmR_run, kmR2_run, asK_run, asN_run, getRL_run, getKL_run, ngo0_run, ngo1_run, ngoR_run, ownN_run, ownNR_run, npK_run, starR_run, itNItems_run, itNKeys_run, oDictK_run, opIn2_K, opKIx_run, keyK_int, copyLR_lst, copyLR_tup, gT2_run, nValsD_run, Option.getD_some, tup_0, lst_0, tup_1, lst_1, tup_2, lst_2, tup_3, lst_3, tup_4, lst_4, tup_5, lst_5, tup_6, lst_6, tup_7, lst_7, tup_8, lst_8, tup_9, lst_9, tup_10, lst_10, tup_11, lst_11, tup_12, lst_12, new_0, new_1, new_2, new_3, new_4, new_5, joinR_run, ↓reduceIte, Nat.reduceAdd, $xs,*])
  | `(tactic| push_cast [$xs,*] at $h:ident) => `(tactic| simp -implicitDefEqProofs only [↓eC_run, ↓eVar_run, ↓eSlot_run, ↓eBin_run, ↓eUn_run, ↓eTest_run, ↓eAndT_run, ↓eOrT_run, ↓eNotT_run, ↓eTrue_run, ↓eAnd_run, ↓eOr_run, ↓eNot_run, ↓eIf_run, ↓aNil_run, ↓aCons_run, ↓aVal_run, ↓eTup_run, ↓eList_run, ↓eLst_run, ↓eCallB_run, ↓eOnL_run, ↓eIsi_run, ↓eSl_run, ↓ePart_run, ↓eNoPart_run, ↓eChain_run, ↓eIxO_run, ↓eOwnL_run, ↓sNext_run, ↓sSeq_run, ↓sIf_run, ↓sExpr_run, ↓sRet_run, ↓sRetS_run, ↓sRetN_run, ↓sBreak_run, ↓sCont_run, ↓sAsg_run, ↓sSetS_run, ↓sPar_run, ↓sFor_run, ↓sWhile_run, ↓eIt1_run, ↓eIt2_run, ↓eIt3_run, ↓eLc_run, ↓eLc2_run, ↓sNewL_run, ↓sApp_run, ↓sSetIx_run, ↓sRetL_run, ↓sRetNew_run, ↓eCallP_run, ↓eCallE_run, ↓eVal_run, ↓eMake_run, ↓eFld_run, ↓sRaise_run, ↓sRaiseI_run, ↓sTry_run, ↓eIsx_run, ↓sPar3_run, ↓eNewL_run, ↓eNDisp_run, ↓eKDisp_run, ↓eEmptyK_run, ↓eNewN_run, ↓eKM_run, ↓eNGet_run, ↓eKGet_run, ↓eNGetO_run, ↓eCopyN_run, ↓sNPut_run, ↓aStar_run, ↓eRg1_run, ↓eIsi2_run, ↓eCopyL_run, ↓eNVals_run, ↓eJoin_run, ↓eSplit_run, ↓eBinOL_run, ↓eAddL_run, ↓eSlO_run, ↓eProp_run, bind_ok, bind_exc, out_ok, out_exc, lift_some, obind_next, obind_ret, obind_exc, obind_brk, obind_cont, varR_run, slotR_run, asBl_run, allD_nil, allD_cons, asLst_run, asI_run, chR_run, ownK_run, ownKR_run, ownL_run, ownLR_run, someR_run, someO_run, ixI_run, parR_run, gN_run, gsNil_run, gsCons_run, itSeq_lst, itSeq_tup, itEn_lst, itEn_tup, itZ_lst, itZ_tup, wipeR_nil, wipeR_cons, setIxR_run, finP_ret, finP_next, finP_exc, finE_ret, finE_next, finE_exc, callR_ok, callR_err, valR_run, makeR_ok, makeR_exc, opAdd_int, opI_run, opB_run, opMulA_int, opEq_run, opNe_run, opIsN_run, opNotN_run, opIx_tup, opIx_lst, opNeg_run, oLen_tup, oLen_lst, oInt_int, oInt_bl, oTuple_tup, oTuple_lst, oList_tup, oList_lst, oTupleL_run, oListL_run, oLenL_run, isi_int_non, isi_int_bl, isi_int_int, isi_int_str, isi_int_tup, isi_int_lst, isi_bool_non, isi_bool_bl, isi_bool_int, isi_bool_str, isi_bool_tup, isi_bool_lst, isi_tuple_non, isi_tuple_bl, isi_tuple_int, isi_tuple_str, isi_tuple_tup, isi_tuple_lst, isi_str_non, isi_str_bl, isi_str_int, isi_str_str, isi_str_tup, isi_str_lst, isi_list_non, isi_list_bl, isi_list_int, isi_list_str, isi_list_tup, isi_list_lst, atI_0, atI_1, atI_2, atI_3, atI_4, atI_5, atI_6, atI_7, atI_8, ixN_1_0, ixN_2_0, ixN_2_1, ixN_3_0, ixN_3_1, ixN_3_2, ixN_4_0, ixN_4_1, ixN_4_2, ixN_4_3, ixN_5_0, ixN_5_1, ixN_5_2, ixN_5_3, ixN_5_4, eqD_int, eqD_bl, eqD_non_non, isNon_non, isNon_bl, isNon_int, isNon_str, isNon_tup, isNon_lst, Option.map_some, Option.map_none, Option.bind_some, List.getElem?_cons_zero, List.getElem?_cons_succ, List.set_cons_zero, List.set_cons_succ, List.map_cons, List.map_nil, List.length_cons, List.length_nil, List.cons_append, List.nil_append, rho0, List.replicate, List.take_succ_cons, List.take_zero, List.take_nil, List.take_length, and_self, Bool.false_eq_true, Bool.not_true, Bool.not_false, decide_true, decide_false, raiseI_run1, raiseI_run2, tryO_next, tryO_ret, tryH_nil, unbind_next, unbind_ret, eXf_run, par3R_run, newLR_0, newLR_1, kmR_run, kmR2_run, asK_run, asN_run, getRL_run, getKL_run, ngo0_run, ngo1_run, ngoR_run, ownN_run, ownNR_run, npK_run, starR_run, itNItems_run, itNKeys_run, oDictK_run, opIn2_K, opKIx_run, keyK_int, copyLR_lst, copyLR_tup, gT2_run, nValsD_run, Option.getD_some, tup_0, lst_0, tup_1, lst_1, tup_2, lst_2, tup_3, lst_3, tup_4, lst_4, tup_5, lst_5, tup_6, lst_6, tup_7, lst_7, tup_8, lst_8, tup_9, lst_9, tup_10, lst_10, tup_11, lst_11, tup_12, lst_12, new_0, new_1, new_2, new_3, new_4, new_5, joinR_run, ↓reduceIte, Nat.reduceAdd, $xs,*] at $h:ident)
theorem lnb_join {ws : List Str} (h : ∀ w ∈ ws, Wd w ∧ w.length ≤ 5) (hl : ws.length ≤ 10) : LnB 60 (Txt.join " " ws) := by
  refine ⟨?_, (ln_join h hl).sg⟩
  have := join_len " " 5 fun w hw => (h w hw).2
  have e : (" " : Str).length = 1 := by decide +kernel
  rw [e] at this
  omega
theorem lines_b {s : List Int} {ps : List Plug} (h : Socks s) (h9 : s.length ≤ 9) (hp : ∀ p ∈ ps, PlugOk p) : ∀ x ∈ linesW s ps, LnB 60 x := by
  intro x hx
  rcases List.mem_cons.mp hx with rfl | hx
  · exact lnb_join (sockW_wd h) (by rw [sockW_len]; omega)
  · obtain ⟨p, hp', rfl⟩ := List.mem_map.mp hx
    exact lnb_join (plugW_wd (hp p hp')) (by have := plugW_len p; omega)
theorem join_nlB {b : Nat} {ls : List Str} (h : ∀ x ∈ ls, LnB b x) (hb : b ≤ 1000) (hl : ls.length ≤ 90) : joinD "\n" (ls.map D.str) = some (.str (Txt.join "\n" ls)) := joinD_run (by
  have := sum_le (·.length) 1000 ls fun w hw => Nat.le_trans (h w hw).len hb
  have e : ("\n" : Str).length = 1 := by decide +kernel
  rw [e]
  omega)
section
variable {ns : List Int} {rest ω : Om} {x2 x3 x4 x5 x6 x7 : Option SV}
theorem loop23s {K : Nat} {L : List Str} (O : Own23 ns 60 6 L K ω) {r : Int} (h0 : 0 ≤ r) (h3 : r < 3) : ∃ (L' : List Str) (K' : Nat) (y4 y5 y6 y7 : Option SV) (ω' : Om), Own23 ns 300 14 L' K' ω' ∧
    forL (gN 4) bd_law_23_1 (rngD 0 r) (l23 ns x2 (some (.own K)) x4 x5 x6 x7) ω = .next (l23 ns x2 (some (.own K')) y4 y5 y6 y7) ω' := by
  have hl : (rngD 0 r).length ≤ 2 := by rw [rngD_len]; omega
  obtain ⟨ρ', ω', e, L', K', y4, y5, y6, y7, O', rfl⟩ := forL_all (tg := gN 4) (b := bd_law_23_1) (ds := rngD 0 r) (ω := ω) (ρ := l23 ns x2 (some (.own K)) x4 x5 x6 x7)
    (fun i ρ ω => ∃ (L' : List Str) (K' : Nat) (y4 y5 y6 y7 : Option SV), Own23 ns (80 * 2 ^ i - 20) (6 + 4 * i) L' K' ω ∧ ρ = l23 ns x2 (some (.own K')) y4 y5 y6 y7)
    ⟨L, K, x4, x5, x6, x7, O, rfl⟩ (by
    rintro i d ρ ω hd ⟨L', K', y4, y5, y6, y7, O', rfl⟩
    have hi : i < 2 := by
      have := (List.getElem?_eq_some_iff.mp hd).1
      omega
    obtain ⟨L2, K2, z5, z6, z7, ω2, O2, e2⟩ := turn23 O' (x2 := x2) (x4 := some (.val d)) (x5 := y5) (x6 := y6) (x7 := y7) (by
      rcases i with _ | _ | i
      · decide
      · decide
      · omega) (by omega)
    refine ⟨_, _, ω2, rfl, e2, L2, K2, _, _, _, _, ?_, rfl⟩
    have e3 : 2 * (80 * 2 ^ i - 20) + 20 = 80 * 2 ^ (i + 1) - 20 := by
      rcases i with _ | _ | i
      · decide
      · decide
      · omega
    rw [← e3]
    exact O2)
  refine ⟨L', K', y4, y5, y6, y7, ω', ?_, e⟩
  have hb : 80 * 2 ^ (rngD 0 r).length - 20 ≤ 300 ∧ 6 + 4 * (rngD 0 r).length ≤ 14 := by
    generalize (rngD 0 r).length = i at *
    rcases i with _ | _ | _ | i
    · decide
    · decide
    · decide
    · omega
  exact ⟨O'.row, O'.at_, O'.pos, ⟨O'.ls.ne, Nat.le_trans O'.ls.len hb.2, fun x hx => (O'.ls.ok x hx).mono hb.1⟩⟩
theorem turn23b (hr : IsRow ns rest ω) : ∃ (y3 y4 y5 y6 y7 : Option SV) (rest' ω' : Om), IsRow ns rest' ω' ∧
    bd_law_23_2 (l23 ns x2 x3 x4 x5 x6 x7) ω = .next (l23 ns x2 y3 y4 y5 y6 y7) ω' := by
  obtain ⟨s, ω1, w1, hS, hs9, e1⟩ := sockets (most := 9) hr (by decide) (by decide)
  obtain ⟨ps, ω2, w2, hp, hne, h5, e2⟩ := plugs (most := 5) w1 (by decide) (by decide)
  have h9 : s.length ≤ 9 := by omega
  have h5 : ps.length ≤ 5 := by omega
  have e1 : F__law_sockets [.own 0, .val (.int 9)] ω = .ok (.val (socksD s)) ω1 := e1
  have e3 := linesE_run hS h9 hp h5 ω2
  have w3 := row_app w2 [some (.lst ((linesW s ps).map D.str))]
  have hpos : 0 < ω2.length := by
    obtain ⟨a, b, c, k, rfl⟩ := w2
    exact Nat.succ_pos _
  obtain ⟨r, ω4, w4, a4, b4, e4⟩ := pick (m := 3) w3 (by decide) (by decide)
  have at4 : ω4[ω2.length]? = some (some (.lst ((linesW s ps).map D.str))) := by
    rw [row_keep w3 w4 hpos]
    simp
  have O : Own23 ns 60 6 (linesW s ps) ω2.length ω4 := ⟨⟨_, w4⟩, at4, hpos, ⟨by simp, by rw [List.length_cons, List.length_map]; omega, lines_b hS h9 hp⟩⟩
  obtain ⟨L', K', y4, y5, y6, y7, ω5, O5, e5⟩ := loop23s (x2 := x2) (x4 := x4) (x5 := x5) (x6 := x6) (x7 := x7) O a4 b4
  obtain ⟨rest', w5⟩ := O5.row
  have hn : L'.length ≤ 90 := by have := O5.ls.len; omega
  obtain ⟨d, t1, t2, t3⟩ := agree17 O5.ls.ne (fun x hx => (O5.ls.ok x hx).ok (by decide)) hn
  have jn := join_nlB O5.ls.ok (by decide) hn
  have at5 := O5.at_
  have it : itR1 (.int r) = some (rngD 0 r) := itR1_run a4 (by omega)
  refine ⟨some (.own K'), y4, y5, y6, y7, rest', ω5, w5, ?_⟩
  unfold bd_law_23_2
  simp only [l23] at e5
  generalize Txt.join "\n" L' = T at *
  generalize L'.map D.str = LL at *
  generalize (linesW s ps).map D.str = LS at *
  push_cast [l23, e1, e2, e3, e4, it, e5, at5, jn, t1, t2, t3]
end
theorem last23 : F__law_told_there_4 [.str ""] = some (.ok (.lst [.str "line", .int 1, .int 1])) := by
  have hs : splitD "" (.str "\n") = some (wsD [""]) := by rfl
  have h := read_all (l := "") (ls := []) hs (fun x hx => by
    rw [List.mem_singleton] at hx
    subst hx
    exact ⟨by decide +kernel, fun c hc => by cases hc⟩) (by decide)
  have e := told17 h
  have t : toks ("" : Str) = [] := by decide +kernel
  rw [t] at e
  exact e
theorem law_true_23 (ns : List Int) : F_law_23 [.lst (ns.map D.int)] = some (.ok (.bl true)) := by
  have h8 : itR1 (.int 8) = some (rngD 0 8) := itR1_run (by decide) (by decide)
  obtain ⟨ρ', ω', e, rest, w, x2, x3, x4, x5, x6, x7, rfl⟩ := forL_all (tg := gN 2) (b := bd_law_23_2) (ds := rngD 0 8) (ω := [some (.lst (rowD ns 0 0 7))]) (ρ := l23 ns none none none none none none)
    (fun i ρ ω => ∃ rest, IsRow ns rest ω ∧ ∃ (x2 x3 x4 x5 x6 x7 : Option SV), ρ = l23 ns x2 x3 x4 x5 x6 x7)
    ⟨[], draws_row ns, none, none, none, none, none, none, rfl⟩ (by
    rintro i d ρ ω hd ⟨rest, w, x2, x3, x4, x5, x6, x7, rfl⟩
    obtain ⟨y3, y4, y5, y6, y7, rest', ω', w', e⟩ := turn23b w (x2 := some (.val d)) (x3 := x3) (x4 := x4) (x5 := x5) (x6 := x6) (x7 := x7)
    exact ⟨_, _, ω', rfl, e, rest', w', _, _, _, _, _, _, rfl⟩)
  have eq : eqD (.lst [.str "line", .int 1, .int 1]) (.lst [.str "line", .int 1, .int 1]) = some true := eqD_refl 1 (by show (PyData.strOk "line" && (true && (true && true))) = true; decide +kernel) (by decide)
  have l0 := last23
  unfold F_law_23
  rw [fnP_run (by rfl)]
  unfold f_law_23
  simp only [l23] at e
  push_cast [draws_run, h8, e, l0, eq]
end Pk
namespace K17
open PySem L2 Dl
def topS (i : Nat) : Stmt := PySem.Challenge.pw_plugstrip_k17_texts_refused.main.body.getD i (.Pass ⟨0, 0, 0, 0⟩)
abbrev s_BadLine_d__init_d_ : Stmt := inClass (topS 3) 0
abbrev N_BadLine_d__init_d_ : List Str := ["self", "line", "word"]
theorem sc_BadLine_d__init_d_ : FnScope N_BadLine_d__init_d_ ["self", "line", "word"] (defScope s_BadLine_d__init_d_) := ⟨rfl, rfl, rfl, by decide +kernel, rfl, by decide +kernel, by decide +kernel⟩
abbrev s__law_linesE : Stmt := topS 27
abbrev N__law_linesE : List Str := ["_law_sockets_here", "_law_plugs_here", "_law_lines_here", "_law_left", "_law_right", "_law_turns", "_law_one"]
theorem sc__law_linesE : FnScope N__law_linesE ["_law_sockets_here", "_law_plugs_here"] (defScope s__law_linesE) := ⟨rfl, rfl, rfl, by decide +kernel, rfl, by decide +kernel, by decide +kernel⟩
abbrev s__law_draws : Stmt := topS 22
abbrev N__law_draws : List Str := ["_law_script"]
theorem sc__law_draws : FnScope N__law_draws ["_law_script"] (defScope s__law_draws) := ⟨rfl, rfl, rfl, by decide +kernel, rfl, by decide +kernel, by decide +kernel⟩
abbrev s__law_lines : Stmt := topS 27
abbrev s_Strip_d__eq_d_ : Stmt := inClass (topS 10) 3
abbrev N_Strip_d__eq_d_ : List Str := ["self", "other"]
theorem sc_Strip_d__eq_d_ : FnScope N_Strip_d__eq_d_ ["self", "other"] (defScope s_Strip_d__eq_d_) := ⟨rfl, rfl, rfl, by decide +kernel, rfl, by decide +kernel, by decide +kernel⟩
abbrev s__law_pick : Stmt := topS 23
abbrev N__law_pick : List Str := ["_law_row", "_law_many", "_law_found", "_law_cell"]
theorem sc__law_pick : FnScope N__law_pick ["_law_row", "_law_many"] (defScope s__law_pick) := ⟨rfl, rfl, rfl, by decide +kernel, rfl, by decide +kernel, by decide +kernel⟩
abbrev s__law_sockets : Stmt := topS 24
abbrev N__law_sockets : List Str := ["_law_row", "_law_most", "_law_k", "_law_found", "_law_here"]
theorem sc__law_sockets : FnScope N__law_sockets ["_law_row", "_law_most"] (defScope s__law_sockets) := ⟨rfl, rfl, rfl, by decide +kernel, rfl, by decide +kernel, by decide +kernel⟩
abbrev s__law_plug : Stmt := topS 25
abbrev N__law_plug : List Str := ["_law_row", "_law_left", "_law_right"]
theorem sc__law_plug : FnScope N__law_plug ["_law_row"] (defScope s__law_plug) := ⟨rfl, rfl, rfl, by decide +kernel, rfl, by decide +kernel, by decide +kernel⟩
abbrev s__law_plugs : Stmt := topS 26
abbrev N__law_plugs : List Str := ["_law_row", "_law_most", "_law_k"]
theorem sc__law_plugs : FnScope N__law_plugs ["_law_row", "_law_most"] (defScope s__law_plugs) := ⟨rfl, rfl, rfl, by decide +kernel, rfl, by decide +kernel, by decide +kernel⟩
abbrev s_number_in : Stmt := topS 17
abbrev N_number_in : List Str := ["words", "at", "line", "low", "high", "word", "sign"]
theorem sc_number_in : FnScope N_number_in ["words", "at", "line", "low", "high"] (defScope s_number_in) := ⟨rfl, rfl, rfl, by decide +kernel, rfl, by decide +kernel, by decide +kernel⟩
abbrev s_is_from : Stmt := topS 9
abbrev N_is_from : List Str := ["value", "low", "high"]
theorem sc_is_from : FnScope N_is_from ["value", "low", "high"] (defScope s_is_from) := ⟨rfl, rfl, rfl, by decide +kernel, rfl, by decide +kernel, by decide +kernel⟩
abbrev s_Strip_d__init_d_ : Stmt := inClass (topS 10) 0
abbrev N_Strip_d__init_d_ : List Str := ["self", "sockets", "one", "other"]
theorem sc_Strip_d__init_d_ : FnScope N_Strip_d__init_d_ ["self", "sockets"] (defScope s_Strip_d__init_d_) := ⟨rfl, rfl, rfl, by decide +kernel, rfl, by decide +kernel, by decide +kernel⟩
abbrev s_strip_in : Stmt := topS 18
abbrev N_strip_in : List Str := ["words", "found", "at"]
theorem sc_strip_in : FnScope N_strip_in ["words"] (defScope s_strip_in) := ⟨rfl, rfl, rfl, by decide +kernel, rfl, by decide +kernel, by decide +kernel⟩
abbrev s_plug_in : Stmt := topS 19
abbrev N_plug_in : List Str := ["words", "line", "left", "right"]
theorem sc_plug_in : FnScope N_plug_in ["words", "line"] (defScope s_plug_in) := ⟨rfl, rfl, rfl, by decide +kernel, rfl, by decide +kernel, by decide +kernel⟩
abbrev s_read : Stmt := topS 20
abbrev N_read : List Str := ["text", "lines", "strip", "found", "at", "words", "line", "word"]
theorem sc_read : FnScope N_read ["text"] (defScope s_read) := ⟨rfl, rfl, rfl, by decide +kernel, rfl, by decide +kernel, by decide +kernel⟩
abbrev s__law_told_there : Stmt := topS 32
abbrev N__law_told_there : List Str := ["_law_text", "_law_told_there_here", "e"]
theorem sc__law_told_there : FnScope N__law_told_there ["_law_text"] (defScope s__law_told_there) := ⟨rfl, rfl, rfl, by decide +kernel, rfl, by decide +kernel, by decide +kernel⟩
abbrev s__law_bad : Stmt := topS 28
abbrev N__law_bad : List Str := ["_law_parts", "_law_k", "_law_low", "_law_high", "_law_sign"]
theorem sc__law_bad : FnScope N__law_bad ["_law_parts", "_law_k", "_law_low", "_law_high"] (defScope s__law_bad) := ⟨rfl, rfl, rfl, by decide +kernel, rfl, by decide +kernel, by decide +kernel⟩
abbrev s__law_first : Stmt := topS 29
abbrev N__law_first : List Str := ["_law_parts", "_law_low", "_law_k"]
theorem sc__law_first : FnScope N__law_first ["_law_parts"] (defScope s__law_first) := ⟨rfl, rfl, rfl, by decide +kernel, rfl, by decide +kernel, by decide +kernel⟩
abbrev s__law_fault_of : Stmt := topS 30
abbrev N__law_fault_of : List Str := ["_law_parts"]
theorem sc__law_fault_of : FnScope N__law_fault_of ["_law_parts"] (defScope s__law_fault_of) := ⟨rfl, rfl, rfl, by decide +kernel, rfl, by decide +kernel, by decide +kernel⟩
abbrev s__law_due : Stmt := topS 31
abbrev N__law_due : List Str := ["_law_text", "_law_k", "_law_lines_here", "_law_plugs_here", "_law_sockets_here", "_law_parts", "_law_fault", "_law_word"]
theorem sc__law_due : FnScope N__law_due ["_law_text"] (defScope s__law_due) := ⟨rfl, rfl, rfl, by decide +kernel, rfl, by decide +kernel, by decide +kernel⟩
abbrev s__law_spoilt : Stmt := topS 33
abbrev N__law_spoilt : List Str := ["_law_row", "_law_line", "_law_parts", "_law_odd", "_law_rest", "_law_spot", "_law_turn_of"]
theorem sc__law_spoilt : FnScope N__law_spoilt ["_law_row", "_law_line"] (defScope s__law_spoilt) := ⟨rfl, rfl, rfl, by decide +kernel, rfl, by decide +kernel, by decide +kernel⟩
abbrev s_law : Stmt := topS 34
abbrev N_law : List Str := ["_law_script", "_law_row", "_law_turn", "_law_lines_here", "_law_k", "_law_spot", "_law_turn_of", "_law_twice"]
theorem sc_law : FnScope N_law ["_law_script"] (defScope s_law) := ⟨rfl, rfl, rfl, by decide +kernel, rfl, by decide +kernel, by decide +kernel⟩
structure Env (K : PySem.W.Frag) (mg : MG) where
  a_BadLine_d__init_d_ : Addr
  d_BadLine_d__init_d_ : FuncData
  h_BadLine_d__init_d_ : DefAt K "__init__" "BadLine.__init__" s_BadLine_d__init_d_ a_BadLine_d__init_d_ d_BadLine_d__init_d_ ["self", "line", "word"]
  a__law_linesE : Addr
  d__law_linesE : FuncData
  h__law_linesE : DefAt K "_law_lines" "_law_lines" s__law_linesE a__law_linesE d__law_linesE ["_law_sockets_here", "_law_plugs_here"]
  l__law_linesE : mg "_law_lines" = some (.ref a__law_linesE)
  a__law_draws : Addr
  d__law_draws : FuncData
  h__law_draws : DefAt K "_law_draws" "_law_draws" s__law_draws a__law_draws d__law_draws ["_law_script"]
  l__law_draws : mg "_law_draws" = some (.ref a__law_draws)
  a__law_lines : Addr
  d__law_lines : FuncData
  h__law_lines : DefAt K "_law_lines" "_law_lines" s__law_lines a__law_lines d__law_lines ["_law_sockets_here", "_law_plugs_here"]
  l__law_lines : mg "_law_lines" = some (.ref a__law_lines)
  a_Strip_d__eq_d_ : Addr
  d_Strip_d__eq_d_ : FuncData
  h_Strip_d__eq_d_ : DefAt K "__eq__" "Strip.__eq__" s_Strip_d__eq_d_ a_Strip_d__eq_d_ d_Strip_d__eq_d_ ["self", "other"]
  a__law_pick : Addr
  d__law_pick : FuncData
  h__law_pick : DefAt K "_law_pick" "_law_pick" s__law_pick a__law_pick d__law_pick ["_law_row", "_law_many"]
  l__law_pick : mg "_law_pick" = some (.ref a__law_pick)
  a__law_sockets : Addr
  d__law_sockets : FuncData
  h__law_sockets : DefAt K "_law_sockets" "_law_sockets" s__law_sockets a__law_sockets d__law_sockets ["_law_row", "_law_most"]
  l__law_sockets : mg "_law_sockets" = some (.ref a__law_sockets)
  a__law_plug : Addr
  d__law_plug : FuncData
  h__law_plug : DefAt K "_law_plug" "_law_plug" s__law_plug a__law_plug d__law_plug ["_law_row"]
  l__law_plug : mg "_law_plug" = some (.ref a__law_plug)
  a__law_plugs : Addr
  d__law_plugs : FuncData
  h__law_plugs : DefAt K "_law_plugs" "_law_plugs" s__law_plugs a__law_plugs d__law_plugs ["_law_row", "_law_most"]
  l__law_plugs : mg "_law_plugs" = some (.ref a__law_plugs)
  a_number_in : Addr
  d_number_in : FuncData
  h_number_in : DefAt K "number_in" "number_in" s_number_in a_number_in d_number_in ["words", "at", "line", "low", "high"]
  l_number_in : mg "number_in" = some (.ref a_number_in)
  a_is_from : Addr
  d_is_from : FuncData
  h_is_from : DefAt K "is_from" "is_from" s_is_from a_is_from d_is_from ["value", "low", "high"]
  l_is_from : mg "is_from" = some (.ref a_is_from)
  a_Strip_d__init_d_ : Addr
  d_Strip_d__init_d_ : FuncData
  h_Strip_d__init_d_ : DefAt K "__init__" "Strip.__init__" s_Strip_d__init_d_ a_Strip_d__init_d_ d_Strip_d__init_d_ ["self", "sockets"]
  a_strip_in : Addr
  d_strip_in : FuncData
  h_strip_in : DefAt K "strip_in" "strip_in" s_strip_in a_strip_in d_strip_in ["words"]
  l_strip_in : mg "strip_in" = some (.ref a_strip_in)
  a_plug_in : Addr
  d_plug_in : FuncData
  h_plug_in : DefAt K "plug_in" "plug_in" s_plug_in a_plug_in d_plug_in ["words", "line"]
  l_plug_in : mg "plug_in" = some (.ref a_plug_in)
  a_read : Addr
  d_read : FuncData
  h_read : DefAt K "read" "read" s_read a_read d_read ["text"]
  l_read : mg "read" = some (.ref a_read)
  a__law_told_there : Addr
  d__law_told_there : FuncData
  h__law_told_there : DefAt K "_law_told_there" "_law_told_there" s__law_told_there a__law_told_there d__law_told_there ["_law_text"]
  l__law_told_there : mg "_law_told_there" = some (.ref a__law_told_there)
  a__law_bad : Addr
  d__law_bad : FuncData
  h__law_bad : DefAt K "_law_bad" "_law_bad" s__law_bad a__law_bad d__law_bad ["_law_parts", "_law_k", "_law_low", "_law_high"]
  l__law_bad : mg "_law_bad" = some (.ref a__law_bad)
  a__law_first : Addr
  d__law_first : FuncData
  h__law_first : DefAt K "_law_first" "_law_first" s__law_first a__law_first d__law_first ["_law_parts"]
  l__law_first : mg "_law_first" = some (.ref a__law_first)
  a__law_fault_of : Addr
  d__law_fault_of : FuncData
  h__law_fault_of : DefAt K "_law_fault_of" "_law_fault_of" s__law_fault_of a__law_fault_of d__law_fault_of ["_law_parts"]
  l__law_fault_of : mg "_law_fault_of" = some (.ref a__law_fault_of)
  a__law_due : Addr
  d__law_due : FuncData
  h__law_due : DefAt K "_law_due" "_law_due" s__law_due a__law_due d__law_due ["_law_text"]
  l__law_due : mg "_law_due" = some (.ref a__law_due)
  a__law_spoilt : Addr
  d__law_spoilt : FuncData
  h__law_spoilt : DefAt K "_law_spoilt" "_law_spoilt" s__law_spoilt a__law_spoilt d__law_spoilt ["_law_row", "_law_line"]
  l__law_spoilt : mg "_law_spoilt" = some (.ref a__law_spoilt)
  a_law : Addr
  d_law : FuncData
  h_law : DefAt K "law" "law" s_law a_law d_law ["_law_script"]
  l_law : mg "law" = some (.ref a_law)
  c_Strip : Addr
  k_Strip : ClsD K mg "Strip" c_Strip
  m_Strip : Mk K c_Strip a_Strip_d__init_d_
  fi_Strip_d__eq_d_ : PySem.W.findIn K (.ref c_Strip) "__eq__" = some (some (.ref a_Strip_d__eq_d_))
  if_Strip_d__eq_d_ : PySem.W.isFn K (.ref a_Strip_d__eq_d_) = true
  ic_Strip : IsiC K c_Strip
  c_BadLine : Addr
  c_BadSockets : Addr
  c_StripError : Addr
  r_BadSockets : ErrC K mg "BadSockets" c_BadSockets
  r_BadLine : ErrI K mg "BadLine" c_BadLine a_BadLine_d__init_d_
  no_BadLine_line : PySem.W.findIn K (.ref c_BadLine) "line" = some none
  no_BadLine_word : PySem.W.findIn K (.ref c_BadLine) "word" = some none
  x_BadLine : ErrX K mg "BadLine" c_BadLine
  x_BadSockets : ErrX K mg "BadSockets" c_BadSockets
  x_StripError : ErrX K mg "StripError" c_StripError
  s_BadLine_BadLine : PySem.W.subIn K (.ref c_BadLine) (.ref c_BadLine) = some (subX "BadLine" "BadLine")
  s_BadLine_StripError : PySem.W.subIn K (.ref c_BadLine) (.ref c_StripError) = some (subX "BadLine" "StripError")
  s_BadSockets_BadLine : PySem.W.subIn K (.ref c_BadSockets) (.ref c_BadLine) = some (subX "BadSockets" "BadLine")
  s_BadSockets_StripError : PySem.W.subIn K (.ref c_BadSockets) (.ref c_StripError) = some (subX "BadSockets" "StripError")
  f_BadLine_line : XfD K mg "BadLine" "line" c_BadLine
  f_BadLine_word : XfD K mg "BadLine" "word" c_BadLine
  n_Strip_rows : NoAttr K c_Strip "rows"
  b_all : mg "all" = none
  b_bool : mg "bool" = none
  b_enumerate : mg "enumerate" = none
  b_int : mg "int" = none
  b_isinstance : mg "isinstance" = none
  b_len : mg "len" = none
  b_list : mg "list" = none
  b_max : mg "max" = none
  b_range : mg "range" = none
  b_str : mg "str" = none
  b_tuple : mg "tuple" = none
  b_zip : mg "zip" = none
  t_DIGITS : Tok
  g_DIGITS : mg "DIGITS" = some (.str "0123456789" t_DIGITS)
  t_MOST_AT : Tok
  g_MOST_AT : mg "MOST_AT" = some (.int (300) t_MOST_AT)
  t_MOST_FIGURES : Tok
  g_MOST_FIGURES : mg "MOST_FIGURES" = some (.int (3) t_MOST_FIGURES)
  t_MOST_PLUGS : Tok
  g_MOST_PLUGS : mg "MOST_PLUGS" = some (.int (5) t_MOST_PLUGS)
  t_MOST_SIDE : Tok
  g_MOST_SIDE : mg "MOST_SIDE" = some (.int (60) t_MOST_SIDE)
  t_MOST_SOCKETS : Tok
  g_MOST_SOCKETS : mg "MOST_SOCKETS" = some (.int (9) t_MOST_SOCKETS)
  t_PLUG : Tok
  g_PLUG : mg "PLUG" = some (.str "plug" t_PLUG)
  t_STRIP : Tok
  g_STRIP : mg "STRIP" = some (.str "strip" t_STRIP)
  t_TURNS : Tok
  g_TURNS : mg "TURNS" = some (.str "turns" t_TURNS)
theorem ok_BadLine_d__init_d_ {P : Program} {w : World} {K : PySem.W.Frag} {mg : MG} {base : Heap} (T : Env K mg) : FnOk P w K mg base (L2.CX P w) 1 T.a_BadLine_d__init_d_ T.d_BadLine_d__init_d_ ["self", "line", "word"] (spIni T.c_BadLine ["line", "word"]) :=
  ini_ok2 T.h_BadLine_d__init_d_.fn sc_BadLine_d__init_d_ T.r_BadLine.ox T.no_BadLine_line T.no_BadLine_word rfl (fun _ _ _ _ _ _ => ⟨_, ps_ost (pe_var (i := 0) rfl (.inl rfl)) (pe_var (i := 1) rfl (.inl rfl)), rfl⟩) (fun _ _ _ _ _ _ => ⟨_, ps_ost (pe_var (i := 0) rfl (.inl rfl)) (pe_var (i := 2) rfl (.inl rfl)), rfl⟩)
theorem ok__law_linesE {P : Program} {w : World} {K : PySem.W.Frag} {mg : MG} {base : Heap} (T : Env K mg) : FnOk P w K mg base (L2.CX P w) 1 T.a__law_linesE T.d__law_linesE ["_law_sockets_here", "_law_plugs_here"] (spE K mg Pk.F__law_linesE) := by
  refine fn_okE (k := 0) T.h__law_linesE.fn sc__law_linesE rfl fun cdv A outer s H E hr => ?_
  have tk : Takes (cxOf (L2.CX P w) P w K mg base N__law_linesE "_law_lines" (defScope s__law_linesE) T.a__law_linesE cdv A outer s H E) (fun c d _ H' => E c d H') := takes_of rfl rfl rfl rfl
  exact (dss_cons (ds_newL (i := 2) sc__law_linesE.nd (da_val (de_join de_str (dl_of (de_add (de_lst (da_val de_str da_nil)) (de_lc (own := [("_law_one", 6)]) rfl sc__law_linesE.nd (di_seq (de_var 0)) (blkOk_by (own := [("_law_one", 6)]) (N := N__law_linesE) (sc := defScope s__law_linesE) (by decide +kernel)) (fun _ _ _ _ _ => (dg_name (i := 6) sc__law_linesE.nd)) (fun _ _ _ _ _ => dts_nil) (fun _ _ _ _ _ => (de_callTy T.b_str call_str_int cop_str (da_val (de_var 6) da_nil))) (by decide))))) da_nil))
      (dss_cons (ds_for (passes_of rfl) rfl (di_seq (de_var 1)) (dg_tup rfl (dgs_cons (dg_name (i := 3) sc__law_linesE.nd) (dgs_cons (dg_name (i := 4) sc__law_linesE.nd) (dgs_cons (dg_name (i := 5) sc__law_linesE.nd) dgs_nil))))
      (dss_one (ds_app 2 (de_add (de_add (de_add (de_add de_str (de_callTy T.b_str call_str_int cop_str (da_val (de_var 3) da_nil))) de_str) (de_callTy T.b_str call_str_int cop_str (da_val (de_var 4) da_nil))) (de_if (dt_val (de_var 5)) de_str de_str)))))
      (dss_one (ds_retS (dv_var 2)))))
theorem ok__law_draws {P : Program} {w : World} {K : PySem.W.Frag} {mg : MG} {base : Heap} (T : Env K mg) : FnOk P w K mg base (L2.CX P w) 1 T.a__law_draws T.d__law_draws ["_law_script"] (spE K mg Pk.F__law_draws) := by
  refine fn_okE (k := 0) T.h__law_draws.fn sc__law_draws rfl fun cdv A outer s H E hr => ?_
  have tk : Takes (cxOf (L2.CX P w) P w K mg base N__law_draws "_law_draws" (defScope s__law_draws) T.a__law_draws cdv A outer s H E) (fun c d _ H' => E c d H') := takes_of rfl rfl rfl rfl
  exact (dss_one (ds_retNew (da_val (de_callTy T.b_list call_list_of cop_list (da_val (de_var 0) da_nil)) (da_val de_int (da_val de_int (da_val de_int da_nil))))))
theorem ok_Strip_d__eq_d_ {P : Program} {w : World} {K : PySem.W.Frag} {mg : MG} {base : Heap} (T : Env K mg) : FnOk P w K mg base (L2.CX P w) 1 T.a_Strip_d__eq_d_ T.d_Strip_d__eq_d_ ["self", "other"] (spP K mg Pk.F_Strip_d__eq_d_) := by
  refine fn_okP (k := 0) T.h_Strip_d__eq_d_.fn sc_Strip_d__eq_d_ rfl fun cdv A outer s H E hr => ?_
  have tk : Takes (cxOf (L2.CX P w) P w K mg base N_Strip_d__eq_d_ "Strip.__eq__" (defScope s_Strip_d__eq_d_) T.a_Strip_d__eq_d_ cdv A outer s H E) (fun c d _ H' => E c d H') := takes_of rfl rfl rfl rfl
  exact (dss_one (ds_ret (de_and (de_isiC T.b_isinstance T.k_Strip T.ic_Strip (de_var 1)) (de_one (de_c (cmp_eq hr) (de_fld T.k_Strip T.n_Strip_rows (de_var 0)) (de_fld T.k_Strip T.n_Strip_rows (de_var 1)))))))
theorem ok__law_pick {P : Program} {w : World} {K : PySem.W.Frag} {mg : MG} {base : Heap} (T : Env K mg) : FnOk P w K mg base (L2.CX P w) 1 T.a__law_pick T.d__law_pick ["_law_row", "_law_many"] (spE K mg Pk.F__law_pick) := by
  refine fn_okE (k := 0) T.h__law_pick.fn sc__law_pick rfl fun cdv A outer s H E hr => ?_
  have tk : Takes (cxOf (L2.CX P w) P w K mg base N__law_pick "_law_pick" (defScope s__law_pick) T.a__law_pick cdv A outer s H E) (fun c d _ H' => E c d H') := takes_of rfl rfl rfl rfl
  exact (dss_cons (ds_if (dt_c (cmp_eq hr) (de_ixO 0 de_int) de_int) (dss_one (ds_if (dt_c cmp_lt (de_ixO 0 de_int) (de_callB T.b_len call_len cop_len (da_val (de_ixO 0 de_int) da_nil))) (dss_cons (ds_set (i := 3) sc__law_pick.nd (de_sub1 (de_ixO 0 de_int) (de_ixO 0 de_int)))
      (dss_cons (ds_setIx 0 de_int (de_add (de_ixO 0 de_int) de_int))
      (dss_one (ds_if (dt_c cmp_ge (de_var 3) (de_pow de_int de_int)) (dss_one (ds_setIx 0 de_int (de_var 3))) (dss_one (ds_setIx 0 de_int (de_mod (de_callTy T.b_int call_int1 cop_int (da_val (de_add (de_add (de_mulA (de_ixO 0 de_int) de_int) (de_mulA (de_var 3) de_int)) de_int) da_nil)) de_int))))))) (dss_one (ds_setIx 0 de_int (de_mod (de_callTy T.b_int call_int1 cop_int (da_val (de_add (de_mulA (de_ixO 0 de_int) de_int) de_int) da_nil)) de_int))))) dss_nil)
      (dss_cons (ds_if (dt_c cmp_gt (de_ixO 0 de_int) de_int) (dss_cons (ds_set (i := 2) sc__law_pick.nd (de_mod (de_callTy T.b_int call_int1 cop_int (da_val (de_ixO 0 de_int) da_nil)) (de_var 1)))
      (dss_cons (ds_setIx 0 de_int (de_div (de_ixO 0 de_int) (de_var 1)))
      (dss_one (ds_ret (de_var 2))))) dss_nil)
      (dss_one (ds_ret (de_mod (de_mod (de_callTy T.b_int call_int1 cop_int (da_val (de_mulA (de_ixO 0 de_int) de_int) da_nil)) de_int) (de_var 1))))))
theorem ok__law_sockets {P : Program} {w : World} {K : PySem.W.Frag} {mg : MG} {base : Heap} (T : Env K mg) : FnOk P w K mg base (L2.CX P w) 2 T.a__law_sockets T.d__law_sockets ["_law_row", "_law_most"] (spE K mg Pk.F__law_sockets) := by
  have G__law_pick := ok__law_pick (P := P) (w := w) (base := base) T
  refine fn_okE (k := 1) T.h__law_sockets.fn sc__law_sockets rfl fun cdv A outer s H E hr => ?_
  have tk : Takes (cxOf (L2.CX P w) P w K mg base N__law_sockets "_law_sockets" (defScope s__law_sockets) T.a__law_sockets cdv A outer s H E) (fun c d _ H' => E c d H') := takes_of rfl rfl rfl rfl
  exact (dss_cons (ds_par (i := 3) (j := 4) rfl sc__law_sockets.nd (by decide) (da_val (de_tup da_nil) (da_val (de_val (dv_callE tk (hr.mono (by decide)) ⟨G__law_pick, T.l__law_pick, T.h__law_pick.fn.kp, T.h__law_pick.bd⟩ (da_cons (dv_var 0) (da_val de_int da_nil)))) da_nil)) (by rfl))
      (dss_cons (ds_for (passes_of rfl) rfl (di_range1 T.b_range (de_add de_int (de_val (dv_callE tk (hr.mono (by decide)) ⟨G__law_pick, T.l__law_pick, T.h__law_pick.fn.kp, T.h__law_pick.bd⟩ (da_cons (dv_var 0) (da_val (de_var 1) da_nil)))))) (dg_name (i := 2) sc__law_sockets.nd)
      (dss_cons (ds_if (dt_c cmp_le (de_var 4) de_int) (dss_one (ds_set (i := 3) sc__law_sockets.nd (de_add (de_var 3) (de_tup (da_val (de_var 4) da_nil))))) dss_nil)
      (dss_one (ds_set (i := 4) sc__law_sockets.nd (de_add (de_var 4) (de_sub1 (de_lst (da_val de_int (da_val (de_add de_int (de_val (dv_callE tk (hr.mono (by decide)) ⟨G__law_pick, T.l__law_pick, T.h__law_pick.fn.kp, T.h__law_pick.bd⟩ (da_cons (dv_var 0) (da_val de_int da_nil))))) (da_val de_int da_nil)))) (de_val (dv_callE tk (hr.mono (by decide)) ⟨G__law_pick, T.l__law_pick, T.h__law_pick.fn.kp, T.h__law_pick.bd⟩ (da_cons (dv_var 0) (da_val de_int da_nil))))))))))
      (dss_one (ds_ret (de_var 3)))))
theorem ok__law_plug {P : Program} {w : World} {K : PySem.W.Frag} {mg : MG} {base : Heap} (T : Env K mg) : FnOk P w K mg base (L2.CX P w) 2 T.a__law_plug T.d__law_plug ["_law_row"] (spE K mg Pk.F__law_plug) := by
  have G__law_pick := ok__law_pick (P := P) (w := w) (base := base) T
  refine fn_okE (k := 1) T.h__law_plug.fn sc__law_plug rfl fun cdv A outer s H E hr => ?_
  have tk : Takes (cxOf (L2.CX P w) P w K mg base N__law_plug "_law_plug" (defScope s__law_plug) T.a__law_plug cdv A outer s H E) (fun c d _ H' => E c d H') := takes_of rfl rfl rfl rfl
  exact (dss_cons (ds_par (i := 1) (j := 2) rfl sc__law_plug.nd (by decide) (da_val (de_sub1 (de_lst (da_val de_int (da_val de_int (da_val de_int (da_val de_int (da_val de_int (da_val de_int (da_val de_int (da_val de_int da_nil))))))))) (de_val (dv_callE tk (hr.mono (by decide)) ⟨G__law_pick, T.l__law_pick, T.h__law_pick.fn.kp, T.h__law_pick.bd⟩ (da_cons (dv_var 0) (da_val de_int da_nil))))) (da_val (de_val (dv_callE tk (hr.mono (by decide)) ⟨G__law_pick, T.l__law_pick, T.h__law_pick.fn.kp, T.h__law_pick.bd⟩ (da_cons (dv_var 0) (da_val de_int da_nil)))) da_nil)) (by rfl))
      (dss_one (ds_ret (de_tup (da_val (de_var 1) (da_val (de_sub1 (de_lst (da_val (de_var 2) (da_val de_int (da_val (de_var 1) da_nil)))) (de_val (dv_callE tk (hr.mono (by decide)) ⟨G__law_pick, T.l__law_pick, T.h__law_pick.fn.kp, T.h__law_pick.bd⟩ (da_cons (dv_var 0) (da_val de_int da_nil))))) (da_val (de_c (cmp_eq hr) (de_val (dv_callE tk (hr.mono (by decide)) ⟨G__law_pick, T.l__law_pick, T.h__law_pick.fn.kp, T.h__law_pick.bd⟩ (da_cons (dv_var 0) (da_val de_int da_nil)))) de_int) da_nil)))))))
theorem ok__law_plugs {P : Program} {w : World} {K : PySem.W.Frag} {mg : MG} {base : Heap} (T : Env K mg) : FnOk P w K mg base (L2.CX P w) 3 T.a__law_plugs T.d__law_plugs ["_law_row", "_law_most"] (spE K mg Pk.F__law_plugs) := by
  have G__law_pick := ok__law_pick (P := P) (w := w) (base := base) T
  have G__law_plug := ok__law_plug (P := P) (w := w) (base := base) T
  refine fn_okE (k := 2) T.h__law_plugs.fn sc__law_plugs rfl fun cdv A outer s H E hr => ?_
  have tk : Takes (cxOf (L2.CX P w) P w K mg base N__law_plugs "_law_plugs" (defScope s__law_plugs) T.a__law_plugs cdv A outer s H E) (fun c d _ H' => E c d H') := takes_of rfl rfl rfl rfl
  exact (dss_one (ds_ret (de_callTy T.b_tuple call_tuple_of cop_tuple (da_val (de_lc (own := [("_law_k", 2)]) rfl sc__law_plugs.nd (di_range1 T.b_range (de_add de_int (de_val (dv_callE tk (hr.mono (by decide)) ⟨G__law_pick, T.l__law_pick, T.h__law_pick.fn.kp, T.h__law_pick.bd⟩ (da_cons (dv_var 0) (da_val (de_var 1) da_nil)))))) (blkOk_by (own := [("_law_k", 2)]) (N := N__law_plugs) (sc := defScope s__law_plugs) (by decide +kernel)) (fun _ _ _ _ _ => (dg_name (i := 2) sc__law_plugs.nd)) (fun _ _ _ _ _ => dts_nil) (fun _ _ _ _ _ => (de_val (dv_callE takes0 (hr.mono (by decide)) ⟨G__law_plug, T.l__law_plug, T.h__law_plug.fn.kp, T.h__law_plug.bd⟩ (da_cons (dv_var 0) da_nil)))) (by decide)) da_nil))))
theorem ok_number_in {P : Program} {w : World} {K : PySem.W.Frag} {mg : MG} {base : Heap} (T : Env K mg) : FnOk P w K mg base (L2.CX P w) 3 T.a_number_in T.d_number_in ["words", "at", "line", "low", "high"] (spP K mg Pk.F_number_in) := by
  have G_BadLine_d__init_d_ := ok_BadLine_d__init_d_ (P := P) (w := w) (base := base) T
  refine fn_okP (k := 2) T.h_number_in.fn sc_number_in rfl fun cdv A outer s H E hr => ?_
  have tk : Takes (cxOf (L2.CX P w) P w K mg base N_number_in "number_in" (defScope s_number_in) T.a_number_in cdv A outer s H E) (fun c d _ H' => E c d H') := takes_of rfl rfl rfl rfl
  exact (dss_cons (ds_set (i := 5) sc_number_in.nd (de_if (dt_c cmp_lt (de_var 1) (de_callB T.b_len call_len cop_len (da_val (de_var 0) da_nil))) (de_sub1 (de_var 0) (de_var 1)) de_str))
      (dss_cons (ds_if (dt_w (dw_or (dt_not (dt_chain cmp_le cmp_le de_int (de_callB T.b_len call_len cop_len (da_val (de_var 5) da_nil)) (de_globI T.g_MOST_FIGURES))) (dw_or1 (dt_not (dt_val (de_callBL T.b_all (cr_all rfl) copL_all (dl_of (de_lc (own := [("sign", 6)]) rfl sc_number_in.nd (di_str (de_var 5)) (blkOk_by (own := [("sign", 6)]) (N := N_number_in) (sc := defScope s_number_in) (by decide +kernel)) (fun _ _ _ _ _ => (dg_name (i := 6) sc_number_in.nd)) (fun _ _ _ _ _ => dts_nil) (fun _ _ _ _ _ => (de_c cmp_inS (de_var 6) (de_globS T.g_DIGITS))) (by decide))))))))) (dss_one (ds_raiseI (fls := ["line", "word"]) tk T.r_BadLine G_BadLine_d__init_d_ (hr.mono (by decide)) T.h_BadLine_d__init_d_.bd (da_val (de_var 2) (da_val (de_add (de_var 1) de_int) da_nil)))) dss_nil)
      (dss_cons (ds_if (dt_w (dw_or (dt_c (cmp_ne hr) (de_callTy T.b_str call_str_int cop_str (da_val (de_callTy T.b_int call_int_str cop_intS (da_val (de_var 5) da_nil)) da_nil)) (de_var 5)) (dw_or1 (dt_not (dt_chain cmp_le cmp_le (de_var 3) (de_callTy T.b_int call_int_str cop_intS (da_val (de_var 5) da_nil)) (de_var 4)))))) (dss_one (ds_raiseI (fls := ["line", "word"]) tk T.r_BadLine G_BadLine_d__init_d_ (hr.mono (by decide)) T.h_BadLine_d__init_d_.bd (da_val (de_var 2) (da_val (de_add (de_var 1) de_int) da_nil)))) dss_nil)
      (dss_one (ds_ret (de_callTy T.b_int call_int_str cop_intS (da_val (de_var 5) da_nil)))))))
theorem ok_is_from {P : Program} {w : World} {K : PySem.W.Frag} {mg : MG} {base : Heap} (T : Env K mg) : FnOk P w K mg base (L2.CX P w) 1 T.a_is_from T.d_is_from ["value", "low", "high"] (spP K mg Pk.F_is_from) := by
  refine fn_okP (k := 0) T.h_is_from.fn sc_is_from rfl fun cdv A outer s H E hr => ?_
  have tk : Takes (cxOf (L2.CX P w) P w K mg base N_is_from "is_from" (defScope s_is_from) T.a_is_from cdv A outer s H E) (fun c d _ H' => E c d H') := takes_of rfl rfl rfl rfl
  exact (dss_one (ds_ret (de_and (de_isi T.b_isinstance T.b_int ask_int (de_var 0)) (de_and (de_not (de_isi T.b_isinstance T.b_bool ask_bool (de_var 0))) (de_one (de_chain cmp_le cmp_le (de_var 1) (de_var 0) (de_var 2)))))))
theorem ok_Strip_d__init_d_ {P : Program} {w : World} {K : PySem.W.Frag} {mg : MG} {base : Heap} (T : Env K mg) : FnOk P w K mg base (L2.CX P w) 2 T.a_Strip_d__init_d_ T.d_Strip_d__init_d_ ["self", "sockets"] (spE K mg Pk.F_Strip_d__init_d__2) := by
  have G_is_from := ok_is_from (P := P) (w := w) (base := base) T
  refine fn_okE (k := 1) T.h_Strip_d__init_d_.fn sc_Strip_d__init_d_ rfl fun cdv A outer s H E hr => ?_
  have tk : Takes (cxOf (L2.CX P w) P w K mg base N_Strip_d__init_d_ "Strip.__init__" (defScope s_Strip_d__init_d_) T.a_Strip_d__init_d_ cdv A outer s H E) (fun c d _ H' => E c d H') := takes_of rfl rfl rfl rfl
  exact (dss_cons (ds_if (dt_w (dw_or (dt_not (dt_val (de_isi T.b_isinstance T.b_tuple ask_tuple (de_var 1)))) (dw_or1 (dt_not (dt_chain cmp_le cmp_le de_int (de_callB T.b_len call_len cop_len (da_val (de_var 1) da_nil)) (de_globI T.g_MOST_SOCKETS)))))) (dss_one (ds_raise tk T.r_BadSockets)) dss_nil)
      (dss_cons (ds_if (dt_not (dt_val (de_callBL T.b_all (cr_all rfl) copL_all (dl_of (de_lc (own := [("one", 2)]) rfl sc_Strip_d__init_d_.nd (di_seq (de_var 1)) (blkOk_by (own := [("one", 2)]) (N := N_Strip_d__init_d_) (sc := defScope s_Strip_d__init_d_) (by decide +kernel)) (fun _ _ _ _ _ => (dg_name (i := 2) sc_Strip_d__init_d_.nd)) (fun _ _ _ _ _ => dts_nil) (fun _ _ _ _ _ => (de_call takes0 (hr.mono (by decide)) ⟨G_is_from, T.l_is_from, T.h_is_from.fn.kp, T.h_is_from.bd⟩ (da_val (de_var 2) (da_val de_int (da_val (de_globI T.g_MOST_AT) da_nil))))) (by decide)))))) (dss_one (ds_raise tk T.r_BadSockets)) dss_nil)
      (dss_cons (ds_if (dt_not (dt_val (de_callBL T.b_all (cr_all rfl) copL_all (dl_of (de_lc (own := [("one", 2), ("other", 3)]) rfl sc_Strip_d__init_d_.nd (di_zip T.b_zip (de_var 1) (de_slice (de_var 1) (do_some de_int) do_none)) (blkOk_by (own := [("one", 2), ("other", 3)]) (N := N_Strip_d__init_d_) (sc := defScope s_Strip_d__init_d_) (by decide +kernel)) (fun _ _ _ _ _ => (dg_tup rfl (dgs_cons (dg_name (i := 2) sc_Strip_d__init_d_.nd) (dgs_cons (dg_name (i := 3) sc_Strip_d__init_d_.nd) dgs_nil)))) (fun _ _ _ _ _ => dts_nil) (fun _ _ _ _ _ => (de_c cmp_lt (de_var 2) (de_var 3))) (by decide)))))) (dss_one (ds_raise tk T.r_BadSockets)) dss_nil)
      (dss_one (ds_fldO 0 T.k_Strip T.n_Strip_rows (de_var 1))))))
theorem ok_strip_in {P : Program} {w : World} {K : PySem.W.Frag} {mg : MG} {base : Heap} (T : Env K mg) : FnOk P w K mg base (L2.CX P w) 4 T.a_strip_in T.d_strip_in ["words"] (spP K mg Pk.F_strip_in) := by
  have G_BadLine_d__init_d_ := ok_BadLine_d__init_d_ (P := P) (w := w) (base := base) T
  have G_Strip_d__init_d_ := ok_Strip_d__init_d_ (P := P) (w := w) (base := base) T
  have G_number_in := ok_number_in (P := P) (w := w) (base := base) T
  refine fn_okP (k := 3) T.h_strip_in.fn sc_strip_in rfl fun cdv A outer s H E hr => ?_
  have tk : Takes (cxOf (L2.CX P w) P w K mg base N_strip_in "strip_in" (defScope s_strip_in) T.a_strip_in cdv A outer s H E) (fun c d _ H' => E c d H') := takes_of rfl rfl rfl rfl
  exact (dss_cons (ds_if (dt_c (cmp_ne hr) (de_slice (de_var 0) do_none (do_some de_int)) (de_lst (da_val (de_globS T.g_STRIP) da_nil))) (dss_one (ds_raiseI (fls := ["line", "word"]) tk T.r_BadLine G_BadLine_d__init_d_ (hr.mono (by decide)) T.h_BadLine_d__init_d_.bd (da_val de_int (da_val de_int da_nil)))) dss_nil)
      (dss_cons (ds_newL (i := 1) sc_strip_in.nd da_nil)
      (dss_cons (ds_for (passes_of rfl) rfl (di_range2 T.b_range de_int (de_callB T.b_max (call_max2 rfl) cop_max (da_val de_int (da_val (de_callB T.b_len call_len cop_len (da_val (de_var 0) da_nil)) da_nil)))) (dg_name (i := 2) sc_strip_in.nd)
      (dss_cons (ds_if (dt_c (cmp_eq hr) (de_callBL T.b_len call_len copL_len (dl_var 1)) (de_globI T.g_MOST_SOCKETS)) (dss_one (ds_raiseI (fls := ["line", "word"]) tk T.r_BadLine G_BadLine_d__init_d_ (hr.mono (by decide)) T.h_BadLine_d__init_d_.bd (da_val de_int (da_val (de_add (de_var 2) de_int) da_nil)))) dss_nil)
      (dss_one (ds_app 1 (de_call tk (hr.mono (by decide)) ⟨G_number_in, T.l_number_in, T.h_number_in.fn.kp, T.h_number_in.bd⟩ (da_val (de_var 0) (da_val (de_var 2) (da_val de_int (da_val (de_if (dt_cOL 1 (cmp_ne hr) givesB_ne (de_lst da_nil)) (de_add (de_ixO 1 (de_neg de_int)) de_int) de_int) (da_val (de_globI T.g_MOST_AT) da_nil))))))))))
      (dss_one (ds_ret (de_make tk (hr.mono (by decide)) T.m_Strip G_Strip_d__init_d_ T.k_Strip.gl T.h_Strip_d__init_d_.bd (da_val (de_callTyL T.b_tuple call_tuple_of copL_tuple (dl_var 1)) da_nil)))))))
theorem ok_plug_in {P : Program} {w : World} {K : PySem.W.Frag} {mg : MG} {base : Heap} (T : Env K mg) : FnOk P w K mg base (L2.CX P w) 4 T.a_plug_in T.d_plug_in ["words", "line"] (spP K mg Pk.F_plug_in) := by
  have G_BadLine_d__init_d_ := ok_BadLine_d__init_d_ (P := P) (w := w) (base := base) T
  have G_number_in := ok_number_in (P := P) (w := w) (base := base) T
  refine fn_okP (k := 3) T.h_plug_in.fn sc_plug_in rfl fun cdv A outer s H E hr => ?_
  have tk : Takes (cxOf (L2.CX P w) P w K mg base N_plug_in "plug_in" (defScope s_plug_in) T.a_plug_in cdv A outer s H E) (fun c d _ H' => E c d H') := takes_of rfl rfl rfl rfl
  exact (dss_cons (ds_if (dt_c (cmp_ne hr) (de_slice (de_var 0) do_none (do_some de_int)) (de_lst (da_val (de_globS T.g_PLUG) da_nil))) (dss_one (ds_raiseI (fls := ["line", "word"]) tk T.r_BadLine G_BadLine_d__init_d_ (hr.mono (by decide)) T.h_BadLine_d__init_d_.bd (da_val (de_var 1) (da_val de_int da_nil)))) dss_nil)
      (dss_cons (ds_par (i := 2) (j := 3) rfl sc_plug_in.nd (by decide) (da_val (de_call tk (hr.mono (by decide)) ⟨G_number_in, T.l_number_in, T.h_number_in.fn.kp, T.h_number_in.bd⟩ (da_val (de_var 0) (da_val de_int (da_val (de_var 1) (da_val de_int (da_val (de_globI T.g_MOST_SIDE) da_nil)))))) (da_val (de_call tk (hr.mono (by decide)) ⟨G_number_in, T.l_number_in, T.h_number_in.fn.kp, T.h_number_in.bd⟩ (da_val (de_var 0) (da_val de_int (da_val (de_var 1) (da_val de_int (da_val (de_globI T.g_MOST_SIDE) da_nil)))))) da_nil)) (by rfl))
      (dss_cons (ds_if (dt_w (dw_and (dt_c cmp_gt (de_callB T.b_len call_len cop_len (da_val (de_var 0) da_nil)) de_int) (dw_and1 (dt_c (cmp_ne hr) (de_sub1 (de_var 0) de_int) (de_globS T.g_TURNS))))) (dss_one (ds_raiseI (fls := ["line", "word"]) tk T.r_BadLine G_BadLine_d__init_d_ (hr.mono (by decide)) T.h_BadLine_d__init_d_.bd (da_val (de_var 1) (da_val de_int da_nil)))) dss_nil)
      (dss_cons (ds_if (dt_c cmp_gt (de_callB T.b_len call_len cop_len (da_val (de_var 0) da_nil)) de_int) (dss_one (ds_raiseI (fls := ["line", "word"]) tk T.r_BadLine G_BadLine_d__init_d_ (hr.mono (by decide)) T.h_BadLine_d__init_d_.bd (da_val (de_var 1) (da_val de_int da_nil)))) dss_nil)
      (dss_one (ds_ret (de_tup (da_val (de_var 2) (da_val (de_var 3) (da_val (de_c cmp_gt (de_callB T.b_len call_len cop_len (da_val (de_var 0) da_nil)) de_int) da_nil))))))))))
theorem ok_read {P : Program} {w : World} {K : PySem.W.Frag} {mg : MG} {base : Heap} (T : Env K mg) : FnOk P w K mg base (L2.CX P w) 5 T.a_read T.d_read ["text"] (spP K mg Pk.F_read) := by
  have G_BadLine_d__init_d_ := ok_BadLine_d__init_d_ (P := P) (w := w) (base := base) T
  have G_plug_in := ok_plug_in (P := P) (w := w) (base := base) T
  have G_strip_in := ok_strip_in (P := P) (w := w) (base := base) T
  refine fn_okP (k := 4) T.h_read.fn sc_read rfl fun cdv A outer s H E hr => ?_
  have tk : Takes (cxOf (L2.CX P w) P w K mg base N_read "read" (defScope s_read) T.a_read cdv A outer s H E) (fun c d _ H' => E c d H') := takes_of rfl rfl rfl rfl
  exact (dss_cons (ds_setLc (i := 1) (own := [("line", 6)]) rfl sc_read.nd (sw_true rfl rfl rfl (by decide +kernel)) (di_seq (de_split (de_var 0) de_str)) (blkOk_by (own := [("line", 6)]) (N := N_read) (sc := defScope s_read) (by decide +kernel)) (fun _ _ _ _ _ => (dg_name (i := 6) sc_read.nd)) (fun _ _ _ _ _ => dts_nil) (fun _ _ _ _ _ => (de_lc (own := [("word", 7)]) rfl sc_read.nd (di_seq (de_split (de_var 6) de_str)) (blkOk_by (own := [("word", 7)]) (by rfl)) (fun _ _ _ _ _ => (dg_name (i := 7) sc_read.nd)) (fun _ _ _ _ _ => (dts_one (dt_c (cmp_ne hr) (de_var 7) de_str))) (fun _ _ _ _ _ => (de_var 7)) (by decide))) (by decide))
      (dss_cons (ds_par (i := 2) (j := 3) rfl sc_read.nd (by decide) (da_val (de_call tk (hr.mono (by decide)) ⟨G_strip_in, T.l_strip_in, T.h_strip_in.fn.kp, T.h_strip_in.bd⟩ (da_val (de_sub1 (de_var 1) de_int) da_nil)) (da_cons (dv_newL da_nil) da_nil)) (by rfl))
      (dss_cons (ds_for (passes_of rfl) rfl (di_enum T.b_enumerate (de_slice (de_var 1) (do_some de_int) do_none)) (dg_tup rfl (dgs_cons (dg_name (i := 4) sc_read.nd) (dgs_cons (dg_name (i := 5) sc_read.nd) dgs_nil)))
      (dss_cons (ds_if (dt_c (cmp_eq hr) (de_callBL T.b_len call_len copL_len (dl_var 3)) (de_globI T.g_MOST_PLUGS)) (dss_one (ds_raiseI (fls := ["line", "word"]) tk T.r_BadLine G_BadLine_d__init_d_ (hr.mono (by decide)) T.h_BadLine_d__init_d_.bd (da_val (de_add (de_var 4) de_int) (da_val de_int da_nil)))) dss_nil)
      (dss_one (ds_app 3 (de_call tk (hr.mono (by decide)) ⟨G_plug_in, T.l_plug_in, T.h_plug_in.fn.kp, T.h_plug_in.bd⟩ (da_val (de_var 5) (da_val (de_add (de_var 4) de_int) da_nil)))))))
      (dss_cons (ds_if (dt_cOL 3 (cmp_eq hr) givesB_eq (de_lst da_nil)) (dss_one (ds_raiseI (fls := ["line", "word"]) tk T.r_BadLine G_BadLine_d__init_d_ (hr.mono (by decide)) T.h_BadLine_d__init_d_.bd (da_val de_int (da_val de_int da_nil)))) dss_nil)
      (dss_one (ds_ret (de_tup (da_val (de_var 2) (da_val (de_callTyL T.b_tuple call_tuple_of copL_tuple (dl_var 3)) da_nil)))))))))
theorem ok__law_told_there {P : Program} {w : World} {K : PySem.W.Frag} {mg : MG} {base : Heap} (T : Env K mg) : FnOk P w K mg base (L2.CX P w) 6 T.a__law_told_there T.d__law_told_there ["_law_text"] (spP K mg Pk.F__law_told_there_4) := by
  have G_read := ok_read (P := P) (w := w) (base := base) T
  refine fn_okP (k := 5) T.h__law_told_there.fn sc__law_told_there rfl fun cdv A outer s H E hr => ?_
  have tk : Takes (cxOf (L2.CX P w) P w K mg base N__law_told_there "_law_told_there" (defScope s__law_told_there) T.a__law_told_there cdv A outer s H E) (fun c d _ H' => E c d H') := takes_of rfl rfl rfl rfl
  exact (dss_cons (ds_set (i := 1) sc__law_told_there.nd de_non)
      (dss_cons (ds_try (nms := ["BadSockets", "BadLine"]) (i := 2) (hN := sc__law_told_there.nd) tk (hb := fun _ _ _ tk1 hp1 => (dss_one (ds_set (i := 1) sc__law_told_there.nd (de_call tk1 (hr.mono (by decide)) ⟨G_read, T.l_read, T.h_read.fn.kp, T.h_read.bd⟩ (da_val (de_var 0) da_nil)))))
      (hh := (.cons rfl (by decide) T.x_BadLine.gl (catches_cons T.x_BadLine T.x_BadSockets T.s_BadSockets_BadLine (catches_cons T.x_BadLine T.x_BadLine T.s_BadLine_BadLine catches_nil)) (su_set (j := 1) (dx_if (dx_isi T.b_isinstance T.x_StripError.gl (isx_cons T.x_StripError T.x_BadSockets T.s_BadSockets_StripError (isx_cons T.x_StripError T.x_BadLine T.s_BadLine_StripError isx_nil))) (dx_lst (dxa_cons (dx_of fun _ _ _ => de_str) (dxa_cons (dx_fld T.f_BadLine_line) (dxa_cons (dx_fld T.f_BadLine_word) dxa_nil)))) (dx_of fun _ _ _ => de_str)) sc__law_told_there.nd) .nil)))
      (dss_one (ds_ret (de_var 1)))))
theorem ok__law_bad {P : Program} {w : World} {K : PySem.W.Frag} {mg : MG} {base : Heap} (T : Env K mg) : FnOk P w K mg base (L2.CX P w) 1 T.a__law_bad T.d__law_bad ["_law_parts", "_law_k", "_law_low", "_law_high"] (spP K mg Pk.F__law_bad) := by
  refine fn_okP (k := 0) T.h__law_bad.fn sc__law_bad rfl fun cdv A outer s H E hr => ?_
  have tk : Takes (cxOf (L2.CX P w) P w K mg base N__law_bad "_law_bad" (defScope s__law_bad) T.a__law_bad cdv A outer s H E) (fun c d _ H' => E c d H') := takes_of rfl rfl rfl rfl
  exact (dss_cons (ds_if (dt_w (dw_or (dt_c cmp_ge (de_var 1) (de_callB T.b_len call_len cop_len (da_val (de_var 0) da_nil))) (dw_or1 (dt_c cmp_gt (de_callB T.b_len call_len cop_len (da_val (de_sub1 (de_var 0) (de_var 1)) da_nil)) de_int)))) (dss_one (ds_ret de_bl)) dss_nil)
      (dss_cons (ds_if (dt_c (cmp_ne hr) (de_lc (own := [("_law_sign", 4)]) rfl sc__law_bad.nd (di_str (de_sub1 (de_var 0) (de_var 1))) (blkOk_by (own := [("_law_sign", 4)]) (N := N__law_bad) (sc := defScope s__law_bad) (by decide +kernel)) (fun _ _ _ _ _ => (dg_name (i := 4) sc__law_bad.nd)) (fun _ _ _ _ _ => (dts_one (dt_c cmp_notInS (de_var 4) de_str))) (fun _ _ _ _ _ => (de_var 4)) (by decide)) (de_lst da_nil)) (dss_one (ds_ret de_bl)) dss_nil)
      (dss_one (ds_ret (de_or (de_c (cmp_ne hr) (de_callTy T.b_str call_str_int cop_str (da_val (de_callTy T.b_int call_int_str cop_intS (da_val (de_sub1 (de_var 0) (de_var 1)) da_nil)) da_nil)) (de_sub1 (de_var 0) (de_var 1))) (de_one (de_not (de_chain cmp_le cmp_le (de_var 2) (de_callTy T.b_int call_int_str cop_intS (da_val (de_sub1 (de_var 0) (de_var 1)) da_nil)) (de_var 3)))))))))
theorem ok__law_first {P : Program} {w : World} {K : PySem.W.Frag} {mg : MG} {base : Heap} (T : Env K mg) : FnOk P w K mg base (L2.CX P w) 2 T.a__law_first T.d__law_first ["_law_parts"] (spP K mg Pk.F__law_first_2) := by
  have G__law_bad := ok__law_bad (P := P) (w := w) (base := base) T
  refine fn_okP (k := 1) T.h__law_first.fn sc__law_first rfl fun cdv A outer s H E hr => ?_
  have tk : Takes (cxOf (L2.CX P w) P w K mg base N__law_first "_law_first" (defScope s__law_first) T.a__law_first cdv A outer s H E) (fun c d _ H' => E c d H') := takes_of rfl rfl rfl rfl
  exact (dss_cons (ds_if (dt_w (dw_or (dt_c (cmp_eq hr) (de_var 0) (de_lst da_nil)) (dw_or1 (dt_c (cmp_ne hr) (de_sub1 (de_var 0) de_int) de_str)))) (dss_one (ds_ret de_int)) dss_nil)
      (dss_cons (ds_set (i := 1) sc__law_first.nd de_int)
      (dss_cons (ds_for (passes_of rfl) rfl (di_range2 T.b_range de_int (de_callB T.b_max (call_max2 rfl) cop_max (da_val de_int (da_val (de_callB T.b_len call_len cop_len (da_val (de_var 0) da_nil)) da_nil)))) (dg_name (i := 2) sc__law_first.nd)
      (dss_cons (ds_if (dt_w (dw_or (dt_c (cmp_eq hr) (de_var 2) de_int) (dw_or1 (dt_val (de_call tk (hr.mono (by decide)) ⟨G__law_bad, T.l__law_bad, T.h__law_bad.fn.kp, T.h__law_bad.bd⟩ (da_val (de_var 0) (da_val (de_var 2) (da_val (de_var 1) (da_val de_int da_nil))))))))) (dss_one (ds_ret (de_add (de_var 2) de_int))) dss_nil)
      (dss_one (ds_set (i := 1) sc__law_first.nd (de_add (de_callTy T.b_int call_int_str cop_intS (da_val (de_sub1 (de_var 0) (de_var 2)) da_nil)) de_int)))))
      (dss_one (ds_ret de_int)))))
theorem ok__law_fault_of {P : Program} {w : World} {K : PySem.W.Frag} {mg : MG} {base : Heap} (T : Env K mg) : FnOk P w K mg base (L2.CX P w) 2 T.a__law_fault_of T.d__law_fault_of ["_law_parts"] (spP K mg Pk.F__law_fault_of) := by
  have G__law_bad := ok__law_bad (P := P) (w := w) (base := base) T
  refine fn_okP (k := 1) T.h__law_fault_of.fn sc__law_fault_of rfl fun cdv A outer s H E hr => ?_
  have tk : Takes (cxOf (L2.CX P w) P w K mg base N__law_fault_of "_law_fault_of" (defScope s__law_fault_of) T.a__law_fault_of cdv A outer s H E) (fun c d _ H' => E c d H') := takes_of rfl rfl rfl rfl
  exact (dss_cons (ds_if (dt_w (dw_or (dt_c (cmp_eq hr) (de_var 0) (de_lst da_nil)) (dw_or1 (dt_c (cmp_ne hr) (de_sub1 (de_var 0) de_int) de_str)))) (dss_one (ds_ret de_int)) dss_nil)
      (dss_cons (ds_if (dt_val (de_call tk (hr.mono (by decide)) ⟨G__law_bad, T.l__law_bad, T.h__law_bad.fn.kp, T.h__law_bad.bd⟩ (da_val (de_var 0) (da_val de_int (da_val de_int (da_val de_int da_nil)))))) (dss_one (ds_ret de_int)) dss_nil)
      (dss_cons (ds_if (dt_val (de_call tk (hr.mono (by decide)) ⟨G__law_bad, T.l__law_bad, T.h__law_bad.fn.kp, T.h__law_bad.bd⟩ (da_val (de_var 0) (da_val de_int (da_val de_int (da_val de_int da_nil)))))) (dss_one (ds_ret de_int)) dss_nil)
      (dss_cons (ds_if (dt_w (dw_and (dt_c cmp_gt (de_callB T.b_len call_len cop_len (da_val (de_var 0) da_nil)) de_int) (dw_and1 (dt_c (cmp_ne hr) (de_sub1 (de_var 0) de_int) de_str)))) (dss_one (ds_ret de_int)) dss_nil)
      (dss_one (ds_ret (de_if (dt_c cmp_gt (de_callB T.b_len call_len cop_len (da_val (de_var 0) da_nil)) de_int) de_int de_int)))))))
theorem ok__law_due {P : Program} {w : World} {K : PySem.W.Frag} {mg : MG} {base : Heap} (T : Env K mg) : FnOk P w K mg base (L2.CX P w) 4 T.a__law_due T.d__law_due ["_law_text"] (spP K mg Pk.F__law_due) := by
  have G_Strip_d__init_d_ := ok_Strip_d__init_d_ (P := P) (w := w) (base := base) T
  have G__law_fault_of := ok__law_fault_of (P := P) (w := w) (base := base) T
  have G__law_first := ok__law_first (P := P) (w := w) (base := base) T
  refine fn_okP (k := 3) T.h__law_due.fn sc__law_due rfl fun cdv A outer s H E hr => ?_
  have tk : Takes (cxOf (L2.CX P w) P w K mg base N__law_due "_law_due" (defScope s__law_due) T.a__law_due cdv A outer s H E) (fun c d _ H' => E c d H') := takes_of rfl rfl rfl rfl
  exact (dss_cons (ds_par3 (i := 2) (j := 3) (l := 4) rfl sc__law_due.nd (by decide) (da_val (de_split (de_var 0) de_str) (da_val (de_tup da_nil) (da_val (de_tup da_nil) da_nil))) (by rfl))
      (dss_cons (ds_for (passes_of rfl) rfl (di_range1 T.b_range (de_callB T.b_len call_len cop_len (da_val (de_var 2) da_nil))) (dg_name (i := 1) sc__law_due.nd)
      (dss_cons (ds_setLc (i := 5) (own := [("_law_word", 7)]) rfl sc__law_due.nd (sw_true rfl rfl rfl (by decide +kernel)) (di_seq (de_split (de_sub1 (de_var 2) (de_var 1)) de_str)) (blkOk_by (own := [("_law_word", 7)]) (N := N__law_due) (sc := defScope s__law_due) (by decide +kernel)) (fun _ _ _ _ _ => (dg_name (i := 7) sc__law_due.nd)) (fun _ _ _ _ _ => (dts_one (dt_c (cmp_ne hr) (de_var 7) de_str))) (fun _ _ _ _ _ => (de_var 7)) (by decide))
      (dss_cons (ds_set (i := 6) sc__law_due.nd (de_if (dt_c (cmp_eq hr) (de_var 1) de_int) (de_call tk (hr.mono (by decide)) ⟨G__law_first, T.l__law_first, T.h__law_first.fn.kp, T.h__law_first.bd⟩ (da_val (de_var 5) da_nil)) (de_call tk (hr.mono (by decide)) ⟨G__law_fault_of, T.l__law_fault_of, T.h__law_fault_of.fn.kp, T.h__law_fault_of.bd⟩ (da_val (de_var 5) da_nil))))
      (dss_cons (ds_set (i := 6) sc__law_due.nd (de_if (dt_c (cmp_eq hr) (de_var 1) de_int) de_int (de_var 6)))
      (dss_cons (ds_if (dt_c cmp_gt (de_var 6) de_int) (dss_one (ds_ret (de_lst (da_val de_str (da_val (de_add (de_var 1) de_int) (da_val (de_var 6) da_nil)))))) dss_nil)
      (dss_one (ds_if (dt_c (cmp_eq hr) (de_var 1) de_int) (dss_one (ds_set (i := 4) sc__law_due.nd (de_callTy T.b_tuple call_tuple_of cop_tuple (da_val (de_lc (own := [("_law_word", 7)]) rfl sc__law_due.nd (di_seq (de_slice (de_var 5) (do_some de_int) do_none)) (blkOk_by (own := [("_law_word", 7)]) (N := N__law_due) (sc := defScope s__law_due) (by decide +kernel)) (fun _ _ _ _ _ => (dg_name (i := 7) sc__law_due.nd)) (fun _ _ _ _ _ => dts_nil) (fun _ _ _ _ _ => (de_callTy T.b_int call_int_str cop_intS (da_val (de_var 7) da_nil))) (by decide)) da_nil)))) (dss_one (ds_set (i := 3) sc__law_due.nd (de_add (de_var 3) (de_tup (da_val (de_tup (da_val (de_callTy T.b_int call_int_str cop_intS (da_val (de_sub1 (de_var 5) de_int) da_nil)) (da_val (de_callTy T.b_int call_int_str cop_intS (da_val (de_sub1 (de_var 5) de_int) da_nil)) (da_val (de_c cmp_gt (de_callB T.b_len call_len cop_len (da_val (de_var 5) da_nil)) de_int) da_nil)))) da_nil))))))))))))
      (dss_one (ds_ret (de_if (dt_c (cmp_ne hr) (de_var 3) (de_tup da_nil)) (de_tup (da_val (de_make tk (hr.mono (by decide)) T.m_Strip G_Strip_d__init_d_ T.k_Strip.gl T.h_Strip_d__init_d_.bd (da_val (de_var 4) da_nil)) (da_val (de_var 3) da_nil))) (de_lst (da_val de_str (da_val de_int (da_val de_int da_nil)))))))))
theorem ok__law_spoilt {P : Program} {w : World} {K : PySem.W.Frag} {mg : MG} {base : Heap} (T : Env K mg) : FnOk P w K mg base (L2.CX P w) 2 T.a__law_spoilt T.d__law_spoilt ["_law_row", "_law_line"] (spE K mg Pk.F__law_spoilt) := by
  have G__law_pick := ok__law_pick (P := P) (w := w) (base := base) T
  refine fn_okE (k := 1) T.h__law_spoilt.fn sc__law_spoilt rfl fun cdv A outer s H E hr => ?_
  have tk : Takes (cxOf (L2.CX P w) P w K mg base N__law_spoilt "_law_spoilt" (defScope s__law_spoilt) T.a__law_spoilt cdv A outer s H E) (fun c d _ H' => E c d H') := takes_of rfl rfl rfl rfl
  exact (dss_cons (ds_set (i := 2) sc__law_spoilt.nd (de_split (de_var 1) de_str))
      (dss_cons (ds_par (i := 5) (j := 6) rfl sc__law_spoilt.nd (by decide) (da_val (de_val (dv_callE tk (hr.mono (by decide)) ⟨G__law_pick, T.l__law_pick, T.h__law_pick.fn.kp, T.h__law_pick.bd⟩ (da_cons (dv_var 0) (da_val (de_callB T.b_len call_len cop_len (da_val (de_var 2) da_nil)) da_nil)))) (da_val (de_val (dv_callE tk (hr.mono (by decide)) ⟨G__law_pick, T.l__law_pick, T.h__law_pick.fn.kp, T.h__law_pick.bd⟩ (da_cons (dv_var 0) (da_val de_int da_nil)))) da_nil)) (by rfl))
      (dss_cons (ds_set (i := 3) sc__law_spoilt.nd (de_lst (da_val de_str (da_val de_str (da_val de_str (da_val de_str (da_val de_str (da_val de_str (da_val de_str (da_val de_str (da_val de_str (da_val de_str (da_val de_str (da_val de_str (da_val de_str (da_val de_str (da_val de_str da_nil)))))))))))))))))
      (dss_cons (ds_set (i := 3) sc__law_spoilt.nd (de_add (de_var 3) (de_lst (da_val de_str (da_val de_str da_nil)))))
      (dss_cons (ds_if (dt_c (cmp_eq hr) (de_var 6) de_int) (dss_one (ds_ret (de_join de_str (dl_of (de_add (de_slice (de_var 2) do_none (do_some (de_var 5))) (de_slice (de_var 2) (do_some (de_add (de_var 5) de_int)) do_none)))))) dss_nil)
      (dss_cons (ds_if (dt_c (cmp_eq hr) (de_var 6) de_int) (dss_one (ds_ret (de_join de_str (dl_of (de_add (de_add (de_slice (de_var 2) do_none (do_some (de_var 5))) (de_lst (da_val (de_sub1 (de_var 2) (de_var 5)) da_nil))) (de_slice (de_var 2) (do_some (de_var 5)) do_none)))))) dss_nil)
      (dss_cons (ds_if (dt_c (cmp_eq hr) (de_var 6) de_int) (dss_one (ds_ret (de_join de_str (dl_of (de_slice (de_var 2) do_none (do_some (de_var 5))))))) dss_nil)
      (dss_cons (ds_set (i := 4) sc__law_spoilt.nd (de_slice (de_var 2) (do_some (de_add (de_var 5) (de_callTy T.b_int call_int1 cop_int (da_val (de_c cmp_lt (de_var 6) de_int) da_nil)))) do_none))
      (dss_one (ds_ret (de_join de_str (dl_of (de_add (de_add (de_slice (de_var 2) do_none (do_some (de_var 5))) (de_lst (da_val (de_sub1 (de_var 3) (de_val (dv_callE tk (hr.mono (by decide)) ⟨G__law_pick, T.l__law_pick, T.h__law_pick.fn.kp, T.h__law_pick.bd⟩ (da_cons (dv_var 0) (da_val de_int da_nil))))) da_nil))) (de_var 4))))))))))))))
theorem ok_law {P : Program} {w : World} {K : PySem.W.Frag} {mg : MG} {base : Heap} (T : Env K mg) : FnOk P w K mg base (L2.CX P w) 7 T.a_law T.d_law ["_law_script"] (spP K mg Pk.F_law_23) := by
  have G_Strip_d__eq_d_ := ok_Strip_d__eq_d_ (P := P) (w := w) (base := base) T
  have G__law_draws := ok__law_draws (P := P) (w := w) (base := base) T
  have G__law_due := ok__law_due (P := P) (w := w) (base := base) T
  have G__law_linesE := ok__law_linesE (P := P) (w := w) (base := base) T
  have G__law_pick := ok__law_pick (P := P) (w := w) (base := base) T
  have G__law_plugs := ok__law_plugs (P := P) (w := w) (base := base) T
  have G__law_sockets := ok__law_sockets (P := P) (w := w) (base := base) T
  have G__law_spoilt := ok__law_spoilt (P := P) (w := w) (base := base) T
  have G__law_told_there := ok__law_told_there (P := P) (w := w) (base := base) T
  refine fn_okP (k := 6) T.h_law.fn sc_law rfl fun cdv A outer s H E hr => ?_
  have tk : Takes (cxOf (L2.CX P w) P w K mg base N_law "law" (defScope s_law) T.a_law cdv A outer s H E) (fun c d _ H' => E c d H') := takes_of rfl rfl rfl rfl
  exact (dss_cons (ds_setS (i := 1) sc_law.nd (dv_callE tk (hr.mono (by decide)) ⟨G__law_draws, T.l__law_draws, T.h__law_draws.fn.kp, T.h__law_draws.bd⟩ (da_val (de_var 0) da_nil)))
      (dss_cons (ds_for (passes_of rfl) rfl (di_range1 T.b_range de_int) (dg_name (i := 2) sc_law.nd)
      (dss_cons (ds_setS (i := 3) sc_law.nd (dv_callE tk (hr.mono (by decide)) ⟨G__law_linesE, T.l__law_linesE, T.h__law_linesE.fn.kp, T.h__law_linesE.bd⟩ (da_val (de_val (dv_callE tk (hr.mono (by decide)) ⟨G__law_sockets, T.l__law_sockets, T.h__law_sockets.fn.kp, T.h__law_sockets.bd⟩ (da_cons (dv_var 1) (da_val de_int da_nil)))) (da_val (de_val (dv_callE tk (hr.mono (by decide)) ⟨G__law_plugs, T.l__law_plugs, T.h__law_plugs.fn.kp, T.h__law_plugs.bd⟩ (da_cons (dv_var 1) (da_val de_int da_nil)))) da_nil))))
      (dss_cons (ds_for (passes_of rfl) rfl (di_range1 T.b_range (de_val (dv_callE tk (hr.mono (by decide)) ⟨G__law_pick, T.l__law_pick, T.h__law_pick.fn.kp, T.h__law_pick.bd⟩ (da_cons (dv_var 1) (da_val de_int da_nil))))) (dg_name (i := 4) sc_law.nd)
      (dss_cons (ds_par (i := 5) (j := 6) rfl sc_law.nd (by decide) (da_val (de_val (dv_callE tk (hr.mono (by decide)) ⟨G__law_pick, T.l__law_pick, T.h__law_pick.fn.kp, T.h__law_pick.bd⟩ (da_cons (dv_var 1) (da_val (de_callBL T.b_len call_len copL_len (dl_var 3)) da_nil)))) (da_val (de_val (dv_callE tk (hr.mono (by decide)) ⟨G__law_pick, T.l__law_pick, T.h__law_pick.fn.kp, T.h__law_pick.bd⟩ (da_cons (dv_var 1) (da_val de_int da_nil)))) da_nil)) (by rfl))
      (dss_one (ds_if (dt_w (dw_and (dt_c (cmp_eq hr) (de_var 6) de_int) (dw_and1 (dt_c cmp_gt (de_callBL T.b_len call_len copL_len (dl_var 3)) de_int)))) (dss_one (ds_setS (i := 3) sc_law.nd (dv_addL (de_slO 3 do_none (do_some (de_var 5))) (de_slO 3 (do_some (de_add (de_var 5) de_int)) do_none)))) (dss_one (ds_if (dt_c (cmp_eq hr) (de_var 6) de_int) (dss_cons (ds_set (i := 7) sc_law.nd (de_add (de_lst (da_val (de_ixO 3 (de_var 5)) da_nil)) (de_slO 3 (do_some (de_var 5)) do_none)))
      (dss_one (ds_setS (i := 3) sc_law.nd (dv_addL (de_slO 3 do_none (do_some (de_var 5))) (de_sub1 (de_lst (da_val (de_var 7) (da_val (de_add (de_add (de_slice (de_var 7) do_none (do_some de_int)) (de_slice (de_var 7) do_none (do_some de_int))) (de_var 7)) da_nil))) (de_val (dv_callE tk (hr.mono (by decide)) ⟨G__law_pick, T.l__law_pick, T.h__law_pick.fn.kp, T.h__law_pick.bd⟩ (da_cons (dv_var 1) (da_val de_int da_nil))))))))) (dss_one (ds_if (dt_c (cmp_eq hr) (de_var 6) de_int) (dss_one (ds_setIx 3 de_int (de_add (de_ixO 3 de_int) de_str))) (dss_one (ds_setIx 3 (de_var 5) (de_val (dv_callE tk (hr.mono (by decide)) ⟨G__law_spoilt, T.l__law_spoilt, T.h__law_spoilt.fn.kp, T.h__law_spoilt.bd⟩ (da_cons (dv_var 1) (da_val (de_ixO 3 (de_var 5)) da_nil))))))))))))))
      (dss_one (ds_if (dt_c (cmp_neT T.k_Strip T.fi_Strip_d__eq_d_ T.if_Strip_d__eq_d_ G_Strip_d__eq_d_ (hr.mono (by decide)) T.h_Strip_d__eq_d_.bd) (de_call tk (hr.mono (by decide)) ⟨G__law_told_there, T.l__law_told_there, T.h__law_told_there.fn.kp, T.h__law_told_there.bd⟩ (da_val (de_join de_str (dl_var 3)) da_nil)) (de_call tk (hr.mono (by decide)) ⟨G__law_due, T.l__law_due, T.h__law_due.fn.kp, T.h__law_due.bd⟩ (da_val (de_join de_str (dl_var 3)) da_nil))) (dss_one (ds_ret de_bl)) dss_nil)))))
      (dss_one (ds_ret (de_c (cmp_eq hr) (de_call tk (hr.mono (by decide)) ⟨G__law_told_there, T.l__law_told_there, T.h__law_told_there.fn.kp, T.h__law_told_there.bd⟩ (da_val de_str da_nil)) (de_lst (da_val de_str (da_val de_int (da_val de_int da_nil)))))))))
end K17
namespace K17
open PySem L2 Dl
theorem all_mk {l : PySem.W.OpenLaw} {w : World} {K : PySem.W.Frag} {h : Heap} {mg : Str → Option Value} {fa : Addr} (X : K.In h) (G : h.Ns mainGlobals mg) (hfa : mg "law" = some (.ref fa))
    {c_Strip : Addr}
    {c_BadLine : Addr}
    {c_BadSockets : Addr}
    {c_StripError : Addr}
    {f0 : Addr} {od0 an0 : Option Addr} {sl0 : Array (Option Value)} {oc0 kV0 dc0 pm0 cd0 ct0 : Value}
    {f1 : Addr} {od1 an1 : Option Addr} {sl1 : Array (Option Value)} {oc1 kV1 dc1 pm1 cd1 ct1 : Value}
    {f2 : Addr} {od2 an2 : Option Addr} {sl2 : Array (Option Value)} {oc2 kV2 dc2 pm2 cd2 ct2 : Value}
    {f3 : Addr} {od3 an3 : Option Addr} {sl3 : Array (Option Value)} {oc3 kV3 dc3 pm3 cd3 ct3 : Value}
    {f4 : Addr} {od4 an4 : Option Addr} {sl4 : Array (Option Value)} {oc4 kV4 dc4 pm4 cd4 ct4 : Value}
    {f5 : Addr} {od5 an5 : Option Addr} {sl5 : Array (Option Value)} {oc5 kV5 dc5 pm5 cd5 ct5 : Value}
    {f6 : Addr} {od6 an6 : Option Addr} {sl6 : Array (Option Value)} {oc6 kV6 dc6 pm6 cd6 ct6 : Value}
    {f7 : Addr} {od7 an7 : Option Addr} {sl7 : Array (Option Value)} {oc7 kV7 dc7 pm7 cd7 ct7 : Value}
    {f8 : Addr} {od8 an8 : Option Addr} {sl8 : Array (Option Value)} {oc8 kV8 dc8 pm8 cd8 ct8 : Value}
    {f9 : Addr} {od9 an9 : Option Addr} {sl9 : Array (Option Value)} {oc9 kV9 dc9 pm9 cd9 ct9 : Value}
    {f10 : Addr} {od10 an10 : Option Addr} {sl10 : Array (Option Value)} {oc10 kV10 dc10 pm10 cd10 ct10 : Value}
    {f11 : Addr} {od11 an11 : Option Addr} {sl11 : Array (Option Value)} {oc11 kV11 dc11 pm11 cd11 ct11 : Value}
    {f12 : Addr} {od12 an12 : Option Addr} {sl12 : Array (Option Value)} {oc12 kV12 dc12 pm12 cd12 ct12 : Value}
    {f13 : Addr} {od13 an13 : Option Addr} {sl13 : Array (Option Value)} {oc13 kV13 dc13 pm13 cd13 ct13 : Value}
    {f14 : Addr} {od14 an14 : Option Addr} {sl14 : Array (Option Value)} {oc14 kV14 dc14 pm14 cd14 ct14 : Value}
    {f15 : Addr} {od15 an15 : Option Addr} {sl15 : Array (Option Value)} {oc15 kV15 dc15 pm15 cd15 ct15 : Value}
    {f16 : Addr} {od16 an16 : Option Addr} {sl16 : Array (Option Value)} {oc16 kV16 dc16 pm16 cd16 ct16 : Value}
    {f17 : Addr} {od17 an17 : Option Addr} {sl17 : Array (Option Value)} {oc17 kV17 dc17 pm17 cd17 ct17 : Value}
    {f18 : Addr} {od18 an18 : Option Addr} {sl18 : Array (Option Value)} {oc18 kV18 dc18 pm18 cd18 ct18 : Value}
    {f19 : Addr} {od19 an19 : Option Addr} {sl19 : Array (Option Value)} {oc19 kV19 dc19 pm19 cd19 ct19 : Value}
    {f20 : Addr} {od20 an20 : Option Addr} {sl20 : Array (Option Value)} {oc20 kV20 dc20 pm20 cd20 ct20 : Value}
    {f21 : Addr} {od21 an21 : Option Addr} {sl21 : Array (Option Value)} {oc21 kV21 dc21 pm21 cd21 ct21 : Value}
    {t_DIGITS : Tok}
    {t_MOST_AT : Tok}
    {t_MOST_FIGURES : Tok}
    {t_MOST_PLUGS : Tok}
    {t_MOST_SIDE : Tok}
    {t_MOST_SOCKETS : Tok}
    {t_PLUG : Tok}
    {t_STRIP : Tok}
    {t_TURNS : Tok}
    (aC_Strip : PySem.W.nsIn K mainGlobals "Strip" = some (some (.ref c_Strip)))
    (aE_BadLine : PySem.W.nsIn K mainGlobals "BadLine" = some (some (.ref c_BadLine)))
    (aE_BadSockets : PySem.W.nsIn K mainGlobals "BadSockets" = some (some (.ref c_BadSockets)))
    (aE_StripError : PySem.W.nsIn K mainGlobals "StripError" = some (some (.ref c_StripError)))
    (a0 : PySem.W.findIn K (.ref c_BadLine) "__init__" = some (some (.ref f0)))
    (i0 : PySem.W.isFn K (.ref f0) = true)
    (l0 : K.lookup f0 = some ⟨oc0, od0, .func (PySem.W.fnOf "__init__" "BadLine.__init__" (defArgs s_BadLine_d__init_d_) (defBody s_BadLine_d__init_d_) (defScope s_BadLine_d__init_d_) .none kV0 dc0 pm0 an0 cd0 ct0), sl0⟩)
    (c0 : PySem.W.codeIn K cd0 "BadLine.__init__" = true)
    (k0 : PySem.W.keepIn K (.ref f0) = true)
    (a1 : PySem.W.nsIn K mainGlobals "_law_lines" = some (some (.ref f1)))
    (l1 : K.lookup f1 = some ⟨oc1, od1, .func (PySem.W.fnOf "_law_lines" "_law_lines" (defArgs s__law_linesE) (defBody s__law_linesE) (defScope s__law_linesE) .none kV1 dc1 pm1 an1 cd1 ct1), sl1⟩)
    (c1 : PySem.W.codeIn K cd1 "_law_lines" = true)
    (k1 : PySem.W.keepIn K (.ref f1) = true)
    (a2 : PySem.W.nsIn K mainGlobals "_law_draws" = some (some (.ref f2)))
    (l2 : K.lookup f2 = some ⟨oc2, od2, .func (PySem.W.fnOf "_law_draws" "_law_draws" (defArgs s__law_draws) (defBody s__law_draws) (defScope s__law_draws) .none kV2 dc2 pm2 an2 cd2 ct2), sl2⟩)
    (c2 : PySem.W.codeIn K cd2 "_law_draws" = true)
    (k2 : PySem.W.keepIn K (.ref f2) = true)
    (a3 : PySem.W.nsIn K mainGlobals "_law_lines" = some (some (.ref f3)))
    (l3 : K.lookup f3 = some ⟨oc3, od3, .func (PySem.W.fnOf "_law_lines" "_law_lines" (defArgs s__law_lines) (defBody s__law_lines) (defScope s__law_lines) .none kV3 dc3 pm3 an3 cd3 ct3), sl3⟩)
    (c3 : PySem.W.codeIn K cd3 "_law_lines" = true)
    (k3 : PySem.W.keepIn K (.ref f3) = true)
    (a4 : PySem.W.findIn K (.ref c_Strip) "__eq__" = some (some (.ref f4)))
    (i4 : PySem.W.isFn K (.ref f4) = true)
    (l4 : K.lookup f4 = some ⟨oc4, od4, .func (PySem.W.fnOf "__eq__" "Strip.__eq__" (defArgs s_Strip_d__eq_d_) (defBody s_Strip_d__eq_d_) (defScope s_Strip_d__eq_d_) .none kV4 dc4 pm4 an4 cd4 ct4), sl4⟩)
    (c4 : PySem.W.codeIn K cd4 "Strip.__eq__" = true)
    (k4 : PySem.W.keepIn K (.ref f4) = true)
    (a5 : PySem.W.nsIn K mainGlobals "_law_pick" = some (some (.ref f5)))
    (l5 : K.lookup f5 = some ⟨oc5, od5, .func (PySem.W.fnOf "_law_pick" "_law_pick" (defArgs s__law_pick) (defBody s__law_pick) (defScope s__law_pick) .none kV5 dc5 pm5 an5 cd5 ct5), sl5⟩)
    (c5 : PySem.W.codeIn K cd5 "_law_pick" = true)
    (k5 : PySem.W.keepIn K (.ref f5) = true)
    (a6 : PySem.W.nsIn K mainGlobals "_law_sockets" = some (some (.ref f6)))
    (l6 : K.lookup f6 = some ⟨oc6, od6, .func (PySem.W.fnOf "_law_sockets" "_law_sockets" (defArgs s__law_sockets) (defBody s__law_sockets) (defScope s__law_sockets) .none kV6 dc6 pm6 an6 cd6 ct6), sl6⟩)
    (c6 : PySem.W.codeIn K cd6 "_law_sockets" = true)
    (k6 : PySem.W.keepIn K (.ref f6) = true)
    (a7 : PySem.W.nsIn K mainGlobals "_law_plug" = some (some (.ref f7)))
    (l7 : K.lookup f7 = some ⟨oc7, od7, .func (PySem.W.fnOf "_law_plug" "_law_plug" (defArgs s__law_plug) (defBody s__law_plug) (defScope s__law_plug) .none kV7 dc7 pm7 an7 cd7 ct7), sl7⟩)
    (c7 : PySem.W.codeIn K cd7 "_law_plug" = true)
    (k7 : PySem.W.keepIn K (.ref f7) = true)
    (a8 : PySem.W.nsIn K mainGlobals "_law_plugs" = some (some (.ref f8)))
    (l8 : K.lookup f8 = some ⟨oc8, od8, .func (PySem.W.fnOf "_law_plugs" "_law_plugs" (defArgs s__law_plugs) (defBody s__law_plugs) (defScope s__law_plugs) .none kV8 dc8 pm8 an8 cd8 ct8), sl8⟩)
    (c8 : PySem.W.codeIn K cd8 "_law_plugs" = true)
    (k8 : PySem.W.keepIn K (.ref f8) = true)
    (a9 : PySem.W.nsIn K mainGlobals "number_in" = some (some (.ref f9)))
    (l9 : K.lookup f9 = some ⟨oc9, od9, .func (PySem.W.fnOf "number_in" "number_in" (defArgs s_number_in) (defBody s_number_in) (defScope s_number_in) .none kV9 dc9 pm9 an9 cd9 ct9), sl9⟩)
    (c9 : PySem.W.codeIn K cd9 "number_in" = true)
    (k9 : PySem.W.keepIn K (.ref f9) = true)
    (a10 : PySem.W.nsIn K mainGlobals "is_from" = some (some (.ref f10)))
    (l10 : K.lookup f10 = some ⟨oc10, od10, .func (PySem.W.fnOf "is_from" "is_from" (defArgs s_is_from) (defBody s_is_from) (defScope s_is_from) .none kV10 dc10 pm10 an10 cd10 ct10), sl10⟩)
    (c10 : PySem.W.codeIn K cd10 "is_from" = true)
    (k10 : PySem.W.keepIn K (.ref f10) = true)
    (a11 : PySem.W.findIn K (.ref c_Strip) "__init__" = some (some (.ref f11)))
    (i11 : PySem.W.isFn K (.ref f11) = true)
    (l11 : K.lookup f11 = some ⟨oc11, od11, .func (PySem.W.fnOf "__init__" "Strip.__init__" (defArgs s_Strip_d__init_d_) (defBody s_Strip_d__init_d_) (defScope s_Strip_d__init_d_) .none kV11 dc11 pm11 an11 cd11 ct11), sl11⟩)
    (c11 : PySem.W.codeIn K cd11 "Strip.__init__" = true)
    (k11 : PySem.W.keepIn K (.ref f11) = true)
    (a12 : PySem.W.nsIn K mainGlobals "strip_in" = some (some (.ref f12)))
    (l12 : K.lookup f12 = some ⟨oc12, od12, .func (PySem.W.fnOf "strip_in" "strip_in" (defArgs s_strip_in) (defBody s_strip_in) (defScope s_strip_in) .none kV12 dc12 pm12 an12 cd12 ct12), sl12⟩)
    (c12 : PySem.W.codeIn K cd12 "strip_in" = true)
    (k12 : PySem.W.keepIn K (.ref f12) = true)
    (a13 : PySem.W.nsIn K mainGlobals "plug_in" = some (some (.ref f13)))
    (l13 : K.lookup f13 = some ⟨oc13, od13, .func (PySem.W.fnOf "plug_in" "plug_in" (defArgs s_plug_in) (defBody s_plug_in) (defScope s_plug_in) .none kV13 dc13 pm13 an13 cd13 ct13), sl13⟩)
    (c13 : PySem.W.codeIn K cd13 "plug_in" = true)
    (k13 : PySem.W.keepIn K (.ref f13) = true)
    (a14 : PySem.W.nsIn K mainGlobals "read" = some (some (.ref f14)))
    (l14 : K.lookup f14 = some ⟨oc14, od14, .func (PySem.W.fnOf "read" "read" (defArgs s_read) (defBody s_read) (defScope s_read) .none kV14 dc14 pm14 an14 cd14 ct14), sl14⟩)
    (c14 : PySem.W.codeIn K cd14 "read" = true)
    (k14 : PySem.W.keepIn K (.ref f14) = true)
    (a15 : PySem.W.nsIn K mainGlobals "_law_told_there" = some (some (.ref f15)))
    (l15 : K.lookup f15 = some ⟨oc15, od15, .func (PySem.W.fnOf "_law_told_there" "_law_told_there" (defArgs s__law_told_there) (defBody s__law_told_there) (defScope s__law_told_there) .none kV15 dc15 pm15 an15 cd15 ct15), sl15⟩)
    (c15 : PySem.W.codeIn K cd15 "_law_told_there" = true)
    (k15 : PySem.W.keepIn K (.ref f15) = true)
    (a16 : PySem.W.nsIn K mainGlobals "_law_bad" = some (some (.ref f16)))
    (l16 : K.lookup f16 = some ⟨oc16, od16, .func (PySem.W.fnOf "_law_bad" "_law_bad" (defArgs s__law_bad) (defBody s__law_bad) (defScope s__law_bad) .none kV16 dc16 pm16 an16 cd16 ct16), sl16⟩)
    (c16 : PySem.W.codeIn K cd16 "_law_bad" = true)
    (k16 : PySem.W.keepIn K (.ref f16) = true)
    (a17 : PySem.W.nsIn K mainGlobals "_law_first" = some (some (.ref f17)))
    (l17 : K.lookup f17 = some ⟨oc17, od17, .func (PySem.W.fnOf "_law_first" "_law_first" (defArgs s__law_first) (defBody s__law_first) (defScope s__law_first) .none kV17 dc17 pm17 an17 cd17 ct17), sl17⟩)
    (c17 : PySem.W.codeIn K cd17 "_law_first" = true)
    (k17 : PySem.W.keepIn K (.ref f17) = true)
    (a18 : PySem.W.nsIn K mainGlobals "_law_fault_of" = some (some (.ref f18)))
    (l18 : K.lookup f18 = some ⟨oc18, od18, .func (PySem.W.fnOf "_law_fault_of" "_law_fault_of" (defArgs s__law_fault_of) (defBody s__law_fault_of) (defScope s__law_fault_of) .none kV18 dc18 pm18 an18 cd18 ct18), sl18⟩)
    (c18 : PySem.W.codeIn K cd18 "_law_fault_of" = true)
    (k18 : PySem.W.keepIn K (.ref f18) = true)
    (a19 : PySem.W.nsIn K mainGlobals "_law_due" = some (some (.ref f19)))
    (l19 : K.lookup f19 = some ⟨oc19, od19, .func (PySem.W.fnOf "_law_due" "_law_due" (defArgs s__law_due) (defBody s__law_due) (defScope s__law_due) .none kV19 dc19 pm19 an19 cd19 ct19), sl19⟩)
    (c19 : PySem.W.codeIn K cd19 "_law_due" = true)
    (k19 : PySem.W.keepIn K (.ref f19) = true)
    (a20 : PySem.W.nsIn K mainGlobals "_law_spoilt" = some (some (.ref f20)))
    (l20 : K.lookup f20 = some ⟨oc20, od20, .func (PySem.W.fnOf "_law_spoilt" "_law_spoilt" (defArgs s__law_spoilt) (defBody s__law_spoilt) (defScope s__law_spoilt) .none kV20 dc20 pm20 an20 cd20 ct20), sl20⟩)
    (c20 : PySem.W.codeIn K cd20 "_law_spoilt" = true)
    (k20 : PySem.W.keepIn K (.ref f20) = true)
    (a21 : PySem.W.nsIn K mainGlobals "law" = some (some (.ref f21)))
    (l21 : K.lookup f21 = some ⟨oc21, od21, .func (PySem.W.fnOf "law" "law" (defArgs s_law) (defBody s_law) (defScope s_law) .none kV21 dc21 pm21 an21 cd21 ct21), sl21⟩)
    (c21 : PySem.W.codeIn K cd21 "law" = true)
    (k21 : PySem.W.keepIn K (.ref f21) = true)
    (pg_Strip : PySem.W.plainGet K c_Strip Str.empty = true)
    (hd_Strip : PySem.W.hasDictIn K c_Strip = true)
    (po_Strip : PySem.W.plainOver K c_Strip = true)
    (sa_Strip : PySem.W.findIn K (.ref c_Strip) "__setattr__" = some (some (.builtin "object.__setattr__")))
    (mk_Strip : PySem.W.makesIn K c_Strip = true)
    (kc_Strip : PySem.W.keepIn K (.ref c_Strip) = true)
    (ex_BadSockets : PySem.W.excIn K c_BadSockets veMro "ValueError.__new__" = true)
    (kp_BadLine : PySem.W.keepIn K (.ref c_BadLine) = true)
    (sb_BadLine : PySem.W.subIn K (.ref c_BadLine) (.type "BaseException") = some true)
    (ty_BadLine : PySem.W.typeIn K (.ref c_BadLine) = some (.type "type"))
    (kp_BadSockets : PySem.W.keepIn K (.ref c_BadSockets) = true)
    (sb_BadSockets : PySem.W.subIn K (.ref c_BadSockets) (.type "BaseException") = some true)
    (ty_BadSockets : PySem.W.typeIn K (.ref c_BadSockets) = some (.type "type"))
    (ox_BadLine : oexB K c_BadLine = true)
    (osa_BadLine : PySem.W.findIn K (.ref c_BadLine) "__setattr__" = some (some (.builtin "object.__setattr__")))
    (en_BadLine_line : PySem.W.findIn K (.ref c_BadLine) "line" = some none)
    (en_BadLine_word : PySem.W.findIn K (.ref c_BadLine) "word" = some none)
    (xsp : PySem.W.specialIn K (.builtin "object.__class__") "__get__" = some (some (.builtin "getset_descriptor.__get__")))
    (xtk : PySem.W.takesIn K (.builtin "object.__class__") = some true)
    (xg_BadLine : PySem.W.findIn K (.ref c_BadLine) "__getattribute__" = some (some (.builtin "BaseException.__getattribute__")))
    (xk_BadLine : PySem.W.findIn K (.ref c_BadLine) "__getattr__" = some none)
    (xs_BadLine : PySem.W.subIn K (.ref c_BadLine) (.type "BaseException") = some true)
    (xd_BadLine : PySem.W.hasDictIn K c_BadLine = true)
    (xa_BadLine : PySem.W.findIn K (.ref c_BadLine) "__class__" = some (some (.builtin "object.__class__")))
    (xm_BadLine : PySem.W.mroIn K c_BadLine (.type "object") = some true)
    (xt_BadLine : PySem.W.typeIn K (.ref c_BadLine) = some (.type "type"))
    (xx_BadLine : PySem.W.subIn K (.ref c_BadLine) (.ref c_BadLine) = some true)
    (xg_BadSockets : PySem.W.findIn K (.ref c_BadSockets) "__getattribute__" = some (some (.builtin "BaseException.__getattribute__")))
    (xk_BadSockets : PySem.W.findIn K (.ref c_BadSockets) "__getattr__" = some none)
    (xs_BadSockets : PySem.W.subIn K (.ref c_BadSockets) (.type "BaseException") = some true)
    (xd_BadSockets : PySem.W.hasDictIn K c_BadSockets = true)
    (xa_BadSockets : PySem.W.findIn K (.ref c_BadSockets) "__class__" = some (some (.builtin "object.__class__")))
    (xm_BadSockets : PySem.W.mroIn K c_BadSockets (.type "object") = some true)
    (xt_BadSockets : PySem.W.typeIn K (.ref c_BadSockets) = some (.type "type"))
    (xx_BadSockets : PySem.W.subIn K (.ref c_BadSockets) (.ref c_BadSockets) = some true)
    (xg_StripError : PySem.W.findIn K (.ref c_StripError) "__getattribute__" = some (some (.builtin "BaseException.__getattribute__")))
    (xk_StripError : PySem.W.findIn K (.ref c_StripError) "__getattr__" = some none)
    (xs_StripError : PySem.W.subIn K (.ref c_StripError) (.type "BaseException") = some true)
    (xd_StripError : PySem.W.hasDictIn K c_StripError = true)
    (xa_StripError : PySem.W.findIn K (.ref c_StripError) "__class__" = some (some (.builtin "object.__class__")))
    (xm_StripError : PySem.W.mroIn K c_StripError (.type "object") = some true)
    (xt_StripError : PySem.W.typeIn K (.ref c_StripError) = some (.type "type"))
    (xx_StripError : PySem.W.subIn K (.ref c_StripError) (.ref c_StripError) = some true)
    (su_BadLine_BadLine : PySem.W.subIn K (.ref c_BadLine) (.ref c_BadLine) = some true)
    (su_BadLine_StripError : PySem.W.subIn K (.ref c_BadLine) (.ref c_StripError) = some true)
    (su_BadSockets_BadLine : PySem.W.subIn K (.ref c_BadSockets) (.ref c_BadLine) = some false)
    (su_BadSockets_StripError : PySem.W.subIn K (.ref c_BadSockets) (.ref c_StripError) = some true)
    (xf_BadLine_line : PySem.W.findIn K (.ref c_BadLine) "line" = some none)
    (xf_BadLine_word : PySem.W.findIn K (.ref c_BadLine) "word" = some none)
    (no_Strip_rows : PySem.W.findIn K (.ref c_Strip) "rows" = some none)
    (tn_Strip_NoneType : PySem.W.subIn K (.type "NoneType") (.ref c_Strip) = some false)
    (tn_Strip_bool : PySem.W.subIn K (.type "bool") (.ref c_Strip) = some false)
    (tn_Strip_int : PySem.W.subIn K (.type "int") (.ref c_Strip) = some false)
    (tn_Strip_str : PySem.W.subIn K (.type "str") (.ref c_Strip) = some false)
    (tn_Strip_tuple : PySem.W.subIn K (.type "tuple") (.ref c_Strip) = some false)
    (tn_Strip_list : PySem.W.subIn K (.type "list") (.ref c_Strip) = some false)
    (icy_Strip : PySem.W.typeIn K (.ref c_Strip) = some (.type "type"))
    (ica_Strip : PySem.W.findIn K (.ref c_Strip) "__class__" = some (some (.builtin "object.__class__")))
    (icn_Strip : PySem.W.specialIn K (.builtin "object.__class__") "__get__" = some (some (.builtin "getset_descriptor.__get__")))
    (ict_Strip : PySem.W.takesIn K (.builtin "object.__class__") = some true)
    (icm_Strip : PySem.W.mroIn K c_Strip (.type "object") = some true)
    (z_all : PySem.W.nsIn K mainGlobals "all" = some none)
    (z_bool : PySem.W.nsIn K mainGlobals "bool" = some none)
    (z_enumerate : PySem.W.nsIn K mainGlobals "enumerate" = some none)
    (z_int : PySem.W.nsIn K mainGlobals "int" = some none)
    (z_isinstance : PySem.W.nsIn K mainGlobals "isinstance" = some none)
    (z_len : PySem.W.nsIn K mainGlobals "len" = some none)
    (z_list : PySem.W.nsIn K mainGlobals "list" = some none)
    (z_max : PySem.W.nsIn K mainGlobals "max" = some none)
    (z_range : PySem.W.nsIn K mainGlobals "range" = some none)
    (z_str : PySem.W.nsIn K mainGlobals "str" = some none)
    (z_tuple : PySem.W.nsIn K mainGlobals "tuple" = some none)
    (z_zip : PySem.W.nsIn K mainGlobals "zip" = some none)
    (y_DIGITS : PySem.W.nsIn K mainGlobals "DIGITS" = some (some (.str "0123456789" t_DIGITS)))
    (y_MOST_AT : PySem.W.nsIn K mainGlobals "MOST_AT" = some (some (.int (300) t_MOST_AT)))
    (y_MOST_FIGURES : PySem.W.nsIn K mainGlobals "MOST_FIGURES" = some (some (.int (3) t_MOST_FIGURES)))
    (y_MOST_PLUGS : PySem.W.nsIn K mainGlobals "MOST_PLUGS" = some (some (.int (5) t_MOST_PLUGS)))
    (y_MOST_SIDE : PySem.W.nsIn K mainGlobals "MOST_SIDE" = some (some (.int (60) t_MOST_SIDE)))
    (y_MOST_SOCKETS : PySem.W.nsIn K mainGlobals "MOST_SOCKETS" = some (some (.int (9) t_MOST_SOCKETS)))
    (y_PLUG : PySem.W.nsIn K mainGlobals "PLUG" = some (some (.str "plug" t_PLUG)))
    (y_STRIP : PySem.W.nsIn K mainGlobals "STRIP" = some (some (.str "strip" t_STRIP)))
    (y_TURNS : PySem.W.nsIn K mainGlobals "TURNS" = some (some (.str "turns" t_TURNS)))
    : ∃ fd : FuncData, (∀ (s : Shared) (v : Value), BindsTo s fd ⟨[v], []⟩ [("_law_script", v)]) ∧ ∀ base : Heap, K.In base → base.Ns mainGlobals mg → FnOk l.prog w K mg base (L2.CX l.prog w) 7 fa fd ["_law_script"] (spLaw K) := by
  have e := hfa.symm.trans (PySem.W.mg_of X G a21)
  cases e
  have F0 := fun_mk (st := s_BadLine_d__init_d_) l0 c0 k0
  have B0 := F0.binds (ps := ["self", "line", "word"]) fun _ _ _ _ _ _ us hl => match us, hl with | [_, _, _], _ => rfl
  have F1 := fun_mk (st := s__law_linesE) l1 c1 k1
  have B1 := F1.binds (ps := ["_law_sockets_here", "_law_plugs_here"]) fun _ _ _ _ _ _ us hl => match us, hl with | [_, _], _ => rfl
  have F2 := fun_mk (st := s__law_draws) l2 c2 k2
  have B2 := F2.binds (ps := ["_law_script"]) fun _ _ _ _ _ _ us hl => match us, hl with | [_], _ => rfl
  have F3 := fun_mk (st := s__law_lines) l3 c3 k3
  have B3 := F3.binds (ps := ["_law_sockets_here", "_law_plugs_here"]) fun _ _ _ _ _ _ us hl => match us, hl with | [_, _], _ => rfl
  have F4 := fun_mk (st := s_Strip_d__eq_d_) l4 c4 k4
  have B4 := F4.binds (ps := ["self", "other"]) fun _ _ _ _ _ _ us hl => match us, hl with | [_, _], _ => rfl
  have F5 := fun_mk (st := s__law_pick) l5 c5 k5
  have B5 := F5.binds (ps := ["_law_row", "_law_many"]) fun _ _ _ _ _ _ us hl => match us, hl with | [_, _], _ => rfl
  have F6 := fun_mk (st := s__law_sockets) l6 c6 k6
  have B6 := F6.binds (ps := ["_law_row", "_law_most"]) fun _ _ _ _ _ _ us hl => match us, hl with | [_, _], _ => rfl
  have F7 := fun_mk (st := s__law_plug) l7 c7 k7
  have B7 := F7.binds (ps := ["_law_row"]) fun _ _ _ _ _ _ us hl => match us, hl with | [_], _ => rfl
  have F8 := fun_mk (st := s__law_plugs) l8 c8 k8
  have B8 := F8.binds (ps := ["_law_row", "_law_most"]) fun _ _ _ _ _ _ us hl => match us, hl with | [_, _], _ => rfl
  have F9 := fun_mk (st := s_number_in) l9 c9 k9
  have B9 := F9.binds (ps := ["words", "at", "line", "low", "high"]) fun _ _ _ _ _ _ us hl => match us, hl with | [_, _, _, _, _], _ => rfl
  have F10 := fun_mk (st := s_is_from) l10 c10 k10
  have B10 := F10.binds (ps := ["value", "low", "high"]) fun _ _ _ _ _ _ us hl => match us, hl with | [_, _, _], _ => rfl
  have F11 := fun_mk (st := s_Strip_d__init_d_) l11 c11 k11
  have B11 := F11.binds (ps := ["self", "sockets"]) fun _ _ _ _ _ _ us hl => match us, hl with | [_, _], _ => rfl
  have F12 := fun_mk (st := s_strip_in) l12 c12 k12
  have B12 := F12.binds (ps := ["words"]) fun _ _ _ _ _ _ us hl => match us, hl with | [_], _ => rfl
  have F13 := fun_mk (st := s_plug_in) l13 c13 k13
  have B13 := F13.binds (ps := ["words", "line"]) fun _ _ _ _ _ _ us hl => match us, hl with | [_, _], _ => rfl
  have F14 := fun_mk (st := s_read) l14 c14 k14
  have B14 := F14.binds (ps := ["text"]) fun _ _ _ _ _ _ us hl => match us, hl with | [_], _ => rfl
  have F15 := fun_mk (st := s__law_told_there) l15 c15 k15
  have B15 := F15.binds (ps := ["_law_text"]) fun _ _ _ _ _ _ us hl => match us, hl with | [_], _ => rfl
  have F16 := fun_mk (st := s__law_bad) l16 c16 k16
  have B16 := F16.binds (ps := ["_law_parts", "_law_k", "_law_low", "_law_high"]) fun _ _ _ _ _ _ us hl => match us, hl with | [_, _, _, _], _ => rfl
  have F17 := fun_mk (st := s__law_first) l17 c17 k17
  have B17 := F17.binds (ps := ["_law_parts"]) fun _ _ _ _ _ _ us hl => match us, hl with | [_], _ => rfl
  have F18 := fun_mk (st := s__law_fault_of) l18 c18 k18
  have B18 := F18.binds (ps := ["_law_parts"]) fun _ _ _ _ _ _ us hl => match us, hl with | [_], _ => rfl
  have F19 := fun_mk (st := s__law_due) l19 c19 k19
  have B19 := F19.binds (ps := ["_law_text"]) fun _ _ _ _ _ _ us hl => match us, hl with | [_], _ => rfl
  have F20 := fun_mk (st := s__law_spoilt) l20 c20 k20
  have B20 := F20.binds (ps := ["_law_row", "_law_line"]) fun _ _ _ _ _ _ us hl => match us, hl with | [_, _], _ => rfl
  have F21 := fun_mk (st := s_law) l21 c21 k21
  have B21 := F21.binds (ps := ["_law_script"]) fun _ _ _ _ _ _ us hl => match us, hl with | [_], _ => rfl
  let T : Env K mg := { a_BadLine_d__init_d_ := f0, d_BadLine_d__init_d_ := _, h_BadLine_d__init_d_ := ⟨F0, B0⟩, a__law_linesE := f1, d__law_linesE := _, h__law_linesE := ⟨F1, B1⟩, l__law_linesE := PySem.W.mg_of X G a1, a__law_draws := f2, d__law_draws := _, h__law_draws := ⟨F2, B2⟩, l__law_draws := PySem.W.mg_of X G a2, a__law_lines := f3, d__law_lines := _, h__law_lines := ⟨F3, B3⟩, l__law_lines := PySem.W.mg_of X G a3, a_Strip_d__eq_d_ := f4, d_Strip_d__eq_d_ := _, h_Strip_d__eq_d_ := ⟨F4, B4⟩, a__law_pick := f5, d__law_pick := _, h__law_pick := ⟨F5, B5⟩, l__law_pick := PySem.W.mg_of X G a5, a__law_sockets := f6, d__law_sockets := _, h__law_sockets := ⟨F6, B6⟩, l__law_sockets := PySem.W.mg_of X G a6, a__law_plug := f7, d__law_plug := _, h__law_plug := ⟨F7, B7⟩, l__law_plug := PySem.W.mg_of X G a7, a__law_plugs := f8, d__law_plugs := _, h__law_plugs := ⟨F8, B8⟩, l__law_plugs := PySem.W.mg_of X G a8, a_number_in := f9, d_number_in := _, h_number_in := ⟨F9, B9⟩, l_number_in := PySem.W.mg_of X G a9, a_is_from := f10, d_is_from := _, h_is_from := ⟨F10, B10⟩, l_is_from := PySem.W.mg_of X G a10, a_Strip_d__init_d_ := f11, d_Strip_d__init_d_ := _, h_Strip_d__init_d_ := ⟨F11, B11⟩, a_strip_in := f12, d_strip_in := _, h_strip_in := ⟨F12, B12⟩, l_strip_in := PySem.W.mg_of X G a12, a_plug_in := f13, d_plug_in := _, h_plug_in := ⟨F13, B13⟩, l_plug_in := PySem.W.mg_of X G a13, a_read := f14, d_read := _, h_read := ⟨F14, B14⟩, l_read := PySem.W.mg_of X G a14, a__law_told_there := f15, d__law_told_there := _, h__law_told_there := ⟨F15, B15⟩, l__law_told_there := PySem.W.mg_of X G a15, a__law_bad := f16, d__law_bad := _, h__law_bad := ⟨F16, B16⟩, l__law_bad := PySem.W.mg_of X G a16, a__law_first := f17, d__law_first := _, h__law_first := ⟨F17, B17⟩, l__law_first := PySem.W.mg_of X G a17, a__law_fault_of := f18, d__law_fault_of := _, h__law_fault_of := ⟨F18, B18⟩, l__law_fault_of := PySem.W.mg_of X G a18, a__law_due := f19, d__law_due := _, h__law_due := ⟨F19, B19⟩, l__law_due := PySem.W.mg_of X G a19, a__law_spoilt := f20, d__law_spoilt := _, h__law_spoilt := ⟨F20, B20⟩, l__law_spoilt := PySem.W.mg_of X G a20, a_law := fa, d_law := _, h_law := ⟨F21, B21⟩, l_law := PySem.W.mg_of X G a21, c_Strip := c_Strip, k_Strip := ⟨PySem.W.mg_of X G aC_Strip, ⟨pg_Strip, hd_Strip, po_Strip, sa_Strip⟩⟩, c_BadLine := c_BadLine, c_BadSockets := c_BadSockets, c_StripError := c_StripError, r_BadSockets := ⟨PySem.W.mg_of X G aE_BadSockets, ex_BadSockets, kp_BadSockets, sb_BadSockets, ty_BadSockets⟩, r_BadLine := ⟨PySem.W.mg_of X G aE_BadLine, ⟨oexB_ok ox_BadLine, osa_BadLine, sb_BadLine, ty_BadLine, kp_BadLine⟩, a0, isFn_ty i0⟩, no_BadLine_line := en_BadLine_line, no_BadLine_word := en_BadLine_word, x_BadLine := ⟨PySem.W.mg_of X G aE_BadLine, ⟨xg_BadLine, xk_BadLine, xs_BadLine, xd_BadLine, xa_BadLine, xsp, xtk, xm_BadLine⟩, xt_BadLine, xx_BadLine⟩, x_BadSockets := ⟨PySem.W.mg_of X G aE_BadSockets, ⟨xg_BadSockets, xk_BadSockets, xs_BadSockets, xd_BadSockets, xa_BadSockets, xsp, xtk, xm_BadSockets⟩, xt_BadSockets, xx_BadSockets⟩, x_StripError := ⟨PySem.W.mg_of X G aE_StripError, ⟨xg_StripError, xk_StripError, xs_StripError, xd_StripError, xa_StripError, xsp, xtk, xm_StripError⟩, xt_StripError, xx_StripError⟩, s_BadLine_BadLine := su_BadLine_BadLine.trans (by rw [show subX "BadLine" "BadLine" = true from by decide +kernel]), s_BadLine_StripError := su_BadLine_StripError.trans (by rw [show subX "BadLine" "StripError" = true from by decide +kernel]), s_BadSockets_BadLine := su_BadSockets_BadLine.trans (by rw [show subX "BadSockets" "BadLine" = false from by decide +kernel]), s_BadSockets_StripError := su_BadSockets_StripError.trans (by rw [show subX "BadSockets" "StripError" = true from by decide +kernel]), f_BadLine_line := ⟨PySem.W.mg_of X G aE_BadLine, ⟨xg_BadLine, xk_BadLine, xs_BadLine, xd_BadLine⟩, xf_BadLine_line⟩, f_BadLine_word := ⟨PySem.W.mg_of X G aE_BadLine, ⟨xg_BadLine, xk_BadLine, xs_BadLine, xd_BadLine⟩, xf_BadLine_word⟩, m_Strip := ⟨mk_Strip, a11, i11, kc_Strip⟩, n_Strip_rows := no_Strip_rows, fi_Strip_d__eq_d_ := a4, if_Strip_d__eq_d_ := i4, ic_Strip := isiC_of hd_Strip icy_Strip (by intro t ht; simp only [tyNames, List.mem_cons, List.not_mem_nil, or_false] at ht; rcases ht with rfl | rfl | rfl | rfl | rfl | rfl <;> assumption) ica_Strip icn_Strip ict_Strip icm_Strip, b_all := PySem.W.mg_none_of X G z_all, b_bool := PySem.W.mg_none_of X G z_bool, b_enumerate := PySem.W.mg_none_of X G z_enumerate, b_int := PySem.W.mg_none_of X G z_int, b_isinstance := PySem.W.mg_none_of X G z_isinstance, b_len := PySem.W.mg_none_of X G z_len, b_list := PySem.W.mg_none_of X G z_list, b_max := PySem.W.mg_none_of X G z_max, b_range := PySem.W.mg_none_of X G z_range, b_str := PySem.W.mg_none_of X G z_str, b_tuple := PySem.W.mg_none_of X G z_tuple, b_zip := PySem.W.mg_none_of X G z_zip, t_DIGITS := t_DIGITS, g_DIGITS := PySem.W.mg_of X G y_DIGITS, t_MOST_AT := t_MOST_AT, g_MOST_AT := PySem.W.mg_of X G y_MOST_AT, t_MOST_FIGURES := t_MOST_FIGURES, g_MOST_FIGURES := PySem.W.mg_of X G y_MOST_FIGURES, t_MOST_PLUGS := t_MOST_PLUGS, g_MOST_PLUGS := PySem.W.mg_of X G y_MOST_PLUGS, t_MOST_SIDE := t_MOST_SIDE, g_MOST_SIDE := PySem.W.mg_of X G y_MOST_SIDE, t_MOST_SOCKETS := t_MOST_SOCKETS, g_MOST_SOCKETS := PySem.W.mg_of X G y_MOST_SOCKETS, t_PLUG := t_PLUG, g_PLUG := PySem.W.mg_of X G y_PLUG, t_STRIP := t_STRIP, g_STRIP := PySem.W.mg_of X G y_STRIP, t_TURNS := t_TURNS, g_TURNS := PySem.W.mg_of X G y_TURNS }
  exact ⟨T.d_law, fun s v => .of_eq rfl, fun base _ _ => law_ok (fun ns _ => Pk.law_true_23 ns) (ok_law T)⟩
end K17
open PySem PySem.W PyProof.Rows
set_option maxRecDepth 100000 in
set_option maxHeartbeats 0 in
theorem PySem.Challenge.cw_plugstrip_k17_texts_refused_holds : PySem.Challenge.rw_plugstrip_k17_texts_refused.Holds := by
  w_on; o_law; k_head; (case hw => w_witness2)
  k_fill
  refine Dl.walk (l := PySem.Challenge.rw_plugstrip_k17_texts_refused) (k := 7) (x := "_law_script") rfl rfl (by decide) (fun w h Y => PySem.W.kIn_of Y) ?F
  case F =>
    intro w mg fa h KX G hmg
    refine' K17.all_mk KX G hmg ?aC_Strip ?aE_BadLine ?aE_BadSockets ?aE_StripError ?a0 ?i0 ?l0 ?c0 ?k0 ?a1 ?l1 ?c1 ?k1 ?a2 ?l2 ?c2 ?k2 ?a3 ?l3 ?c3 ?k3 ?a4 ?i4 ?l4 ?c4 ?k4 ?a5 ?l5 ?c5 ?k5 ?a6 ?l6 ?c6 ?k6 ?a7 ?l7 ?c7 ?k7 ?a8 ?l8 ?c8 ?k8 ?a9 ?l9 ?c9 ?k9 ?a10 ?l10 ?c10 ?k10 ?a11 ?i11 ?l11 ?c11 ?k11 ?a12 ?l12 ?c12 ?k12 ?a13 ?l13 ?c13 ?k13 ?a14 ?l14 ?c14 ?k14 ?a15 ?l15 ?c15 ?k15 ?a16 ?l16 ?c16 ?k16 ?a17 ?l17 ?c17 ?k17 ?a18 ?l18 ?c18 ?k18 ?a19 ?l19 ?c19 ?k19 ?a20 ?l20 ?c20 ?k20 ?a21 ?l21 ?c21 ?k21 ?pg_Strip ?hd_Strip ?po_Strip ?sa_Strip ?mk_Strip ?kc_Strip ?ex_BadSockets ?kp_BadLine ?sb_BadLine ?ty_BadLine ?kp_BadSockets ?sb_BadSockets ?ty_BadSockets ?ox_BadLine ?osa_BadLine ?en_BadLine_line ?en_BadLine_word ?xsp ?xtk ?xg_BadLine ?xk_BadLine ?xs_BadLine ?xd_BadLine ?xa_BadLine ?xm_BadLine ?xt_BadLine ?xx_BadLine ?xg_BadSockets ?xk_BadSockets ?xs_BadSockets ?xd_BadSockets ?xa_BadSockets ?xm_BadSockets ?xt_BadSockets ?xx_BadSockets ?xg_StripError ?xk_StripError ?xs_StripError ?xd_StripError ?xa_StripError ?xm_StripError ?xt_StripError ?xx_StripError ?su_BadLine_BadLine ?su_BadLine_StripError ?su_BadSockets_BadLine ?su_BadSockets_StripError ?xf_BadLine_line ?xf_BadLine_word ?no_Strip_rows ?tn_Strip_NoneType ?tn_Strip_bool ?tn_Strip_int ?tn_Strip_str ?tn_Strip_tuple ?tn_Strip_list ?icy_Strip ?ica_Strip ?icn_Strip ?ict_Strip ?icm_Strip ?z_all ?z_bool ?z_enumerate ?z_int ?z_isinstance ?z_len ?z_list ?z_max ?z_range ?z_str ?z_tuple ?z_zip ?y_DIGITS ?y_MOST_AT ?y_MOST_FIGURES ?y_MOST_PLUGS ?y_MOST_SIDE ?y_MOST_SOCKETS ?y_PLUG ?y_STRIP ?y_TURNS
    (case aC_Strip => k_is)
    (case aE_BadLine => k_is)
    (case aE_BadSockets => k_is)
    (case aE_StripError => k_is)
    (case a0 => k_is)
    (case i0 => k_is)
    (case l0 => k_is)
    (case c0 => k_is)
    (case k0 => k_is)
    (case a1 => k_is)
    (case l1 => k_is)
    (case c1 => k_is)
    (case k1 => k_is)
    (case a2 => k_is)
    (case l2 => k_is)
    (case c2 => k_is)
    (case k2 => k_is)
    (case a3 => k_is)
    (case l3 => k_is)
    (case c3 => k_is)
    (case k3 => k_is)
    (case a4 => k_is)
    (case i4 => k_is)
    (case l4 => k_is)
    (case c4 => k_is)
    (case k4 => k_is)
    (case a5 => k_is)
    (case l5 => k_is)
    (case c5 => k_is)
    (case k5 => k_is)
    (case a6 => k_is)
    (case l6 => k_is)
    (case c6 => k_is)
    (case k6 => k_is)
    (case a7 => k_is)
    (case l7 => k_is)
    (case c7 => k_is)
    (case k7 => k_is)
    (case a8 => k_is)
    (case l8 => k_is)
    (case c8 => k_is)
    (case k8 => k_is)
    (case a9 => k_is)
    (case l9 => k_is)
    (case c9 => k_is)
    (case k9 => k_is)
    (case a10 => k_is)
    (case l10 => k_is)
    (case c10 => k_is)
    (case k10 => k_is)
    (case a11 => k_is)
    (case i11 => k_is)
    (case l11 => k_is)
    (case c11 => k_is)
    (case k11 => k_is)
    (case a12 => k_is)
    (case l12 => k_is)
    (case c12 => k_is)
    (case k12 => k_is)
    (case a13 => k_is)
    (case l13 => k_is)
    (case c13 => k_is)
    (case k13 => k_is)
    (case a14 => k_is)
    (case l14 => k_is)
    (case c14 => k_is)
    (case k14 => k_is)
    (case a15 => k_is)
    (case l15 => k_is)
    (case c15 => k_is)
    (case k15 => k_is)
    (case a16 => k_is)
    (case l16 => k_is)
    (case c16 => k_is)
    (case k16 => k_is)
    (case a17 => k_is)
    (case l17 => k_is)
    (case c17 => k_is)
    (case k17 => k_is)
    (case a18 => k_is)
    (case l18 => k_is)
    (case c18 => k_is)
    (case k18 => k_is)
    (case a19 => k_is)
    (case l19 => k_is)
    (case c19 => k_is)
    (case k19 => k_is)
    (case a20 => k_is)
    (case l20 => k_is)
    (case c20 => k_is)
    (case k20 => k_is)
    (case a21 => k_is)
    (case l21 => k_is)
    (case c21 => k_is)
    (case k21 => k_is)
    (case pg_Strip => k_is)
    (case hd_Strip => k_is)
    (case po_Strip => k_is)
    (case sa_Strip => k_is)
    (case mk_Strip => k_is)
    (case kc_Strip => k_is)
    (case ex_BadSockets => k_exc)
    (case kp_BadLine => k_is)
    (case sb_BadLine => k_is)
    (case ty_BadLine => k_is)
    (case kp_BadSockets => k_is)
    (case sb_BadSockets => k_is)
    (case ty_BadSockets => k_is)
    (case ox_BadLine => (first | exact Eq.refl true | decide +kernel))
    (case osa_BadLine => k_is)
    (case en_BadLine_line => k_is)
    (case en_BadLine_word => k_is)
    (case xsp => k_is)
    (case xtk => k_is)
    (case xg_BadLine => k_is)
    (case xk_BadLine => k_is)
    (case xs_BadLine => k_is)
    (case xd_BadLine => k_is)
    (case xa_BadLine => k_is)
    (case xm_BadLine => k_is)
    (case xt_BadLine => k_is)
    (case xx_BadLine => k_is)
    (case xg_BadSockets => k_is)
    (case xk_BadSockets => k_is)
    (case xs_BadSockets => k_is)
    (case xd_BadSockets => k_is)
    (case xa_BadSockets => k_is)
    (case xm_BadSockets => k_is)
    (case xt_BadSockets => k_is)
    (case xx_BadSockets => k_is)
    (case xg_StripError => k_is)
    (case xk_StripError => k_is)
    (case xs_StripError => k_is)
    (case xd_StripError => k_is)
    (case xa_StripError => k_is)
    (case xm_StripError => k_is)
    (case xt_StripError => k_is)
    (case xx_StripError => k_is)
    (case su_BadLine_BadLine => k_is)
    (case su_BadLine_StripError => k_is)
    (case su_BadSockets_BadLine => k_is)
    (case su_BadSockets_StripError => k_is)
    (case xf_BadLine_line => k_is)
    (case xf_BadLine_word => k_is)
    (case no_Strip_rows => k_is)
    (case tn_Strip_NoneType => k_is)
    (case tn_Strip_bool => k_is)
    (case tn_Strip_int => k_is)
    (case tn_Strip_str => k_is)
    (case tn_Strip_tuple => k_is)
    (case tn_Strip_list => k_is)
    (case icy_Strip => k_is)
    (case ica_Strip => k_is)
    (case icn_Strip => k_is)
    (case ict_Strip => k_is)
    (case icm_Strip => k_is)
    (case z_all => k_is)
    (case z_bool => k_is)
    (case z_enumerate => k_is)
    (case z_int => k_is)
    (case z_isinstance => k_is)
    (case z_len => k_is)
    (case z_list => k_is)
    (case z_max => k_is)
    (case z_range => k_is)
    (case z_str => k_is)
    (case z_tuple => k_is)
    (case z_zip => k_is)
    (case y_DIGITS => k_is)
    (case y_MOST_AT => k_is)
    (case y_MOST_FIGURES => k_is)
    (case y_MOST_PLUGS => k_is)
    (case y_MOST_SIDE => k_is)
    (case y_MOST_SOCKETS => k_is)
    (case y_PLUG => k_is)
    (case y_STRIP => k_is)
    (case y_TURNS => k_is)
