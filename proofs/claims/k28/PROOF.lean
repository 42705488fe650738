import PyProof.Rows.All
import Wide.All
import OpenK.AllK
import Wide.FinOn
import HandS.ForMost
import HandS.ForExc
import HandS.Exc
import HandS.TupAny
import HandS.IsInst
import HandS.CallSlots
import KE.KDictKeyed
import KE.KDictWalk
import HandS.Deep
import HandS.Zip
import KE.GoesMore
import KE.GoesEnum
import HandS.NoneIn
import HandS.Property
import HandS.TupMul
import HandS.TryMany
import HandS.ExcIs
import HandS.ExcField
import HandS.ExcInit
import HandS.Small
import KE.KExcIs
import HandS.Style
import HandS.Dict
import HandS.Iter
import KE.KDictOf
import KE.KDictDisplayH
import KE.KDictCopyH
import PyProof.DictUpdate
import HandS.More
import HandS.WordsDict
import HandS.Star
import KE.SortData
import KE.DataMinMax
import HandS.Conv
import KE.DataEq
import HandS.OwnEq
import PyProof.ListMulAny
import PyProof.Rows.ListMulArg
import PyProof.InstEq
import PyProof.EqKinds
import HandS.DictComp
import KE.LtData
import KE.DataMinKey
import HandS.SortKw
import HandS.SetFor
import HandS.SortInts
import PyProof.SumWalkG
import HandS.ExcCtx
import HandS.SuiteRaise
import HandS.ExcInitHot
import HandS.HotCalls
import HandS.RaiseFrom
import PySem.Challenge.RW_plugstrip_k28_common_strips
set_option Elab.async false
set_option linter.all false
set_option maxRecDepth 100000
set_option maxHeartbeats 4000000
namespace Dl
open PySem L2
inductive D where
  | non | bl (b : Bool) | int (i : Int) | str (x : Str)
  | tup (ds : List D) | lst (ds : List D)
  | obj (c : Str) (fs : List (Str × D))
  | dcK (kvs : List (Key × D)) | dcN (kvs : List (D × D))
def nk : D → NestedKey
  | .int i => .num i
  | .bl b => .num (if b = true then 1 else 0)
  | .str x => .text x
  | .tup ds => .tup (nks ds)
  | _ => .none
where nks : List D → List NestedKey
  | [] => []
  | d :: ds => nk d :: nks ds
def keyOk : Nat → D → Bool
  | _, .int _ => true
  | _, .bl _ => true
  | n + 1, .tup ds => keyOks n ds
  | _, _ => false
where keyOks : Nat → List D → Bool
  | _, [] => true
  | n, d :: ds => keyOk n d && keyOks n ds
structure Exn where
  cls : Str
  fs : List (Str × D)
inductive OD where
  | lst (ds : List D)
  | ins (c : Str) (fs : List (Str × D))
  | dcK (kvs : List (Key × D))
  | dcN (kvs : List (D × D))
inductive SV where
  | val (d : D) | own (k : Nat) | exc (x : Exn)
abbrev Om := List (Option OD)
abbrev Rho := List (Option SV)
inductive Res (β : Type) where
  | stuck | ok (a : β) (ω : Om) | exc (x : Exn) (ω : Om)
def Res.bind {β γ : Type} (r : Res β) (g : β → Om → Res γ) : Res γ := match r with
  | .stuck => .stuck
  | .ok a ω => g a ω
  | .exc x ω => .exc x ω
def Res.lift {β : Type} (o : Option β) (ω : Om) : Res β := match o with
  | some b => .ok b ω
  | none => .stuck
abbrev MG := Str → Option Value
mutual
def hashN : NestedKey → Int
  | .num i => hashInt i
  | .tup ks => reduceHash (Builtin.Tuple.tupleHashOf (hashNs ks))
  | _ => 0
def hashNs : List NestedKey → List Int
  | [] => []
  | k :: ks => hashN k :: hashNs ks
end
def dnAt (a : Addr) (ep : Nat) (es : List (NestedKey × Addr × V)) (h : Heap) : Prop := (a == sysModules) = false ∧ es.length ≤ sizeLine ∧ (es.map (·.1)).Nodup ∧ ∃ xs : List (NestedKey × Addr × Value), Paired (fun e x => e.1 = x.1 ∧ e.2.1 = x.2.1 ∧ RelV e.2.2 x.2.2) es xs ∧
  ∃ o ens, h.get? a = some o ∧ o.ExactDict ∧ o.data = .dict ens ep ∧ ens.toList = xs.map fun x => ⟨hashN x.1, .ref x.2.1, x.2.2⟩
def dnO (a : Addr) (ep : Nat) (es : List (NestedKey × Addr × V)) : HO := .ext (dnAt a ep es)
mutual
def Rep (K : PySem.W.Frag) (mg : MG) (G : Hp) : D → V → Prop
  | .non, v => v = .non
  | .bl b, v => v = .bl b
  | .int i, v => v = .int i
  | .str x, v => v = .str x
  | .tup ds, v => ∃ a vs, v = .ref a ∧ SqT K G a vs ∧ Reps K mg G ds vs
  | .lst ds, v => ∃ a vs, v = .ref a ∧ SqL K G a vs ∧ Reps K mg G ds vs
  | .obj c fs, v => ∃ a C dx fvs, v = .ref a ∧ mg c = some (.ref C) ∧ G a = some (.ins C dx fvs) ∧ RepF K mg G fs fvs
  | .dcK kvs, v => ∃ a kv, v = .ref a ∧ G a = some (.dK kv) ∧ RepK K mg G kvs kv
  | .dcN kvs, v => ∃ a ep es, v = .ref a ∧ G a = some (dnO a ep es) ∧ RepN K mg G kvs es
def RepK (K : PySem.W.Frag) (mg : MG) (G : Hp) : List (Key × D) → List (Key × V) → Prop
  | [], vs => vs = []
  | (k, d) :: ds, vs => ∃ v r, vs = (k, v) :: r ∧ Rep K mg G d v ∧ RepK K mg G ds r
def RepN (K : PySem.W.Frag) (mg : MG) (G : Hp) : List (D × D) → List (NestedKey × Addr × V) → Prop
  | [], vs => vs = []
  | (k, d) :: ds, vs => ∃ b v r, vs = (nk k, b, v) :: r ∧ keyOk 8 k = true ∧ Rep K mg G k (.ref b) ∧ Rep K mg G d v ∧ RepN K mg G ds r
def Reps (K : PySem.W.Frag) (mg : MG) (G : Hp) : List D → List V → Prop
  | [], vs => vs = []
  | d :: ds, vs => ∃ v r, vs = v :: r ∧ Rep K mg G d v ∧ Reps K mg G ds r
def RepF (K : PySem.W.Frag) (mg : MG) (G : Hp) : List (Str × D) → List (Str × V) → Prop
  | [], vs => vs = []
  | (f, d) :: ds, vs => ∃ v r, vs = (f, v) :: r ∧ Rep K mg G d v ∧ RepF K mg G ds r
end
section
variable {K : PySem.W.Frag} {mg : MG} {G G' H H' : Hp}
theorem Same.sqT {a : Addr} {xs : List V} (e : Same H H') (h : SqT K H a xs) : SqT K H' a xs := by
  rcases h with (h | ⟨o, h⟩) | h
  · exact .inl (.inl (e _ _ h))
  · exact .inl (.inr ⟨o, e _ _ h⟩)
  · exact .inr h
mutual
theorem Rep.mono (s : Same G G') : ∀ (d : D) (v : V), Rep K mg G d v → Rep K mg G' d v
  | .non, _, h => by unfold Rep at *; exact h
  | .bl _, _, h => by unfold Rep at *; exact h
  | .int _, _, h => by unfold Rep at *; exact h
  | .str _, _, h => by unfold Rep at *; exact h
  | .tup ds, _, h => by
    unfold Rep at *
    obtain ⟨a, vs, e, q, r⟩ := h
    exact ⟨a, vs, e, Same.sqT s q, Reps.mono s ds vs r⟩
  | .lst ds, _, h => by
    unfold Rep at *
    obtain ⟨a, vs, e, q, r⟩ := h
    exact ⟨a, vs, e, s.seq q, Reps.mono s ds vs r⟩
  | .obj c fs, _, h => by
    unfold Rep at *
    obtain ⟨a, C, dx, fvs, e, m, q, r⟩ := h
    exact ⟨a, C, dx, fvs, e, m, s _ _ q, RepF.mono s fs fvs r⟩
  | .dcK kvs, _, h => by
    unfold Rep at *
    obtain ⟨a, kv, e, q, r⟩ := h
    exact ⟨a, kv, e, s _ _ q, RepK.mono s kvs kv r⟩
  | .dcN kvs, _, h => by
    unfold Rep at *
    obtain ⟨a, ep, es, e, q, r⟩ := h
    exact ⟨a, ep, es, e, s _ _ q, RepN.mono s kvs es r⟩
theorem RepK.mono (s : Same G G') : ∀ (ds : List (Key × D)) (vs : List (Key × V)), RepK K mg G ds vs → RepK K mg G' ds vs
  | [], _, h => by unfold RepK at *; exact h
  | (k, d) :: ds, _, h => by
    unfold RepK at *
    obtain ⟨v, r, e, h1, h2⟩ := h
    exact ⟨v, r, e, Rep.mono s d v h1, RepK.mono s ds r h2⟩
theorem RepN.mono (s : Same G G') : ∀ (ds : List (D × D)) (vs : List (NestedKey × Addr × V)), RepN K mg G ds vs → RepN K mg G' ds vs
  | [], _, h => by unfold RepN at *; exact h
  | (k, d) :: ds, _, h => by
    unfold RepN at *
    obtain ⟨b, v, r, e, ok, h1, h2, h3⟩ := h
    exact ⟨b, v, r, e, ok, Rep.mono s k _ h1, Rep.mono s d v h2, RepN.mono s ds r h3⟩
theorem Reps.mono (s : Same G G') : ∀ (ds : List D) (vs : List V), Reps K mg G ds vs → Reps K mg G' ds vs
  | [], _, h => by unfold Reps at *; exact h
  | d :: ds, _, h => by
    unfold Reps at *
    obtain ⟨v, r, e, h1, h2⟩ := h
    exact ⟨v, r, e, Rep.mono s d v h1, Reps.mono s ds r h2⟩
theorem RepF.mono (s : Same G G') : ∀ (ds : List (Str × D)) (vs : List (Str × V)), RepF K mg G ds vs → RepF K mg G' ds vs
  | [], _, h => by unfold RepF at *; exact h
  | (f, d) :: ds, _, h => by
    unfold RepF at *
    obtain ⟨v, r, e, h1, h2⟩ := h
    exact ⟨v, r, e, Rep.mono s d v h1, RepF.mono s ds r h2⟩
end
theorem rep_non {v : V} : Rep K mg G .non v ↔ v = .non := by unfold Rep; exact Iff.rfl
theorem rep_bl {v : V} {b : Bool} : Rep K mg G (.bl b) v ↔ v = .bl b := by unfold Rep; exact Iff.rfl
theorem rep_int {v : V} {b : Int} : Rep K mg G (.int b) v ↔ v = .int b := by unfold Rep; exact Iff.rfl
theorem rep_str {v : V} {b : Str} : Rep K mg G (.str b) v ↔ v = .str b := by unfold Rep; exact Iff.rfl
theorem rep_tup {v : V} {ds : List D} : Rep K mg G (.tup ds) v ↔ ∃ a vs, v = .ref a ∧ SqT K G a vs ∧ Reps K mg G ds vs := by rw [Rep]
theorem rep_lst {v : V} {ds : List D} : Rep K mg G (.lst ds) v ↔ ∃ a vs, v = .ref a ∧ SqL K G a vs ∧ Reps K mg G ds vs := by rw [Rep]
theorem rep_obj {v : V} {c : Str} {fs : List (Str × D)} : Rep K mg G (.obj c fs) v ↔ ∃ a C dx fvs, v = .ref a ∧ mg c = some (.ref C) ∧ G a = some (.ins C dx fvs) ∧ RepF K mg G fs fvs := by rw [Rep]
theorem rep_dcK {v : V} {kvs : List (Key × D)} : Rep K mg G (.dcK kvs) v ↔ ∃ a kv, v = .ref a ∧ G a = some (.dK kv) ∧ RepK K mg G kvs kv := by rw [Rep]
theorem rep_dcN {v : V} {kvs : List (D × D)} : Rep K mg G (.dcN kvs) v ↔ ∃ a ep es, v = .ref a ∧ G a = some (dnO a ep es) ∧ RepN K mg G kvs es := by rw [Rep]
theorem repK_nil {vs : List (Key × V)} : RepK K mg G [] vs ↔ vs = [] := by rw [RepK]
theorem repK_cons {vs : List (Key × V)} {k : Key} {d : D} {ds : List (Key × D)} : RepK K mg G ((k, d) :: ds) vs ↔ ∃ v r, vs = (k, v) :: r ∧ Rep K mg G d v ∧ RepK K mg G ds r := by rw [RepK]
theorem repN_nil {vs : List (NestedKey × Addr × V)} : RepN K mg G [] vs ↔ vs = [] := by rw [RepN]
theorem repN_cons {vs : List (NestedKey × Addr × V)} {k d : D} {ds : List (D × D)} : RepN K mg G ((k, d) :: ds) vs ↔ ∃ b v r, vs = (nk k, b, v) :: r ∧ keyOk 8 k = true ∧ Rep K mg G k (.ref b) ∧ Rep K mg G d v ∧ RepN K mg G ds r := by rw [RepN]
theorem reps_nil {vs : List V} : Reps K mg G [] vs ↔ vs = [] := by rw [Reps]
theorem reps_cons {vs : List V} {d : D} {ds : List D} : Reps K mg G (d :: ds) vs ↔ ∃ v r, vs = v :: r ∧ Rep K mg G d v ∧ Reps K mg G ds r := by rw [Reps]
theorem repF_nil {vs : List (Str × V)} : RepF K mg G [] vs ↔ vs = [] := by rw [RepF]
theorem repF_cons {vs : List (Str × V)} {f : Str} {d : D} {ds : List (Str × D)} : RepF K mg G ((f, d) :: ds) vs ↔ ∃ v r, vs = (f, v) :: r ∧ Rep K mg G d v ∧ RepF K mg G ds r := by rw [RepF]
theorem Reps.length : ∀ {ds : List D} {vs : List V}, Reps K mg G ds vs → vs.length = ds.length
  | [], vs, h => by rw [reps_nil] at h; rw [h]; rfl
  | d :: ds, vs, h => by
    rw [reps_cons] at h
    obtain ⟨v, r, e, _, h2⟩ := h
    rw [e, List.length_cons, List.length_cons, Reps.length h2]
theorem Reps.get : ∀ {ds : List D} {vs : List V} {i : Nat} {d : D}, Reps K mg G ds vs → ds[i]? = some d → ∃ v, vs[i]? = some v ∧ Rep K mg G d v
  | [], _, i, d, _, e => by simp at e
  | d :: ds, vs, 0, d', h, e => by
    rw [reps_cons] at h
    obtain ⟨v, r, rfl, h1, _⟩ := h
    simp at e; subst e
    exact ⟨v, rfl, h1⟩
  | d :: ds, vs, i + 1, d', h, e => by
    rw [reps_cons] at h
    obtain ⟨v, r, rfl, _, h2⟩ := h
    obtain ⟨w, h3, h4⟩ := Reps.get (i := i) (d := d') h2 (by simpa using e)
    exact ⟨w, by simpa using h3, h4⟩
theorem Reps.append : ∀ {ds es : List D} {vs us : List V}, Reps K mg G ds vs → Reps K mg G es us → Reps K mg G (ds ++ es) (vs ++ us)
  | [], _, _, _, h, q => by rw [reps_nil] at h; subst h; exact q
  | d :: ds, es, vs, us, h, q => by
    rw [reps_cons] at h
    obtain ⟨v, r, rfl, h1, h2⟩ := h
    rw [List.cons_append, reps_cons]
    exact ⟨v, r ++ us, rfl, h1, Reps.append h2 q⟩
theorem Reps.take : ∀ {ds : List D} {vs : List V} (n : Nat), Reps K mg G ds vs → Reps K mg G (ds.take n) (vs.take n)
  | _, _, 0, _ => by rw [List.take_zero, List.take_zero, reps_nil]
  | [], vs, n + 1, h => by rw [reps_nil] at h; subst h; rw [List.take_nil, List.take_nil, reps_nil]
  | d :: ds, vs, n + 1, h => by
    rw [reps_cons] at h
    obtain ⟨v, r, rfl, h1, h2⟩ := h
    rw [List.take_succ_cons, List.take_succ_cons, reps_cons]
    exact ⟨v, _, rfl, h1, Reps.take n h2⟩
theorem Reps.drop : ∀ {ds : List D} {vs : List V} (n : Nat), Reps K mg G ds vs → Reps K mg G (ds.drop n) (vs.drop n)
  | _, _, 0, h => by rw [List.drop_zero, List.drop_zero]; exact h
  | [], vs, n + 1, h => by rw [reps_nil] at h; subst h; rw [List.drop_nil, List.drop_nil, reps_nil]
  | d :: ds, vs, n + 1, h => by
    rw [reps_cons] at h
    obtain ⟨v, r, rfl, h1, h2⟩ := h
    rw [List.drop_succ_cons, List.drop_succ_cons]
    exact Reps.drop n h2
theorem Reps.set {d : D} {v : V} (h : Rep K mg G d v) : ∀ {ds : List D} {vs : List V} (i : Nat), Reps K mg G ds vs → Reps K mg G (ds.set i d) (vs.set i v)
  | [], vs, i, q => by rw [reps_nil] at q; subst q; rw [List.set_nil, List.set_nil, reps_nil]
  | e :: ds, vs, 0, q => by
    rw [reps_cons] at q
    obtain ⟨w, r, rfl, h1, h2⟩ := q
    rw [List.set_cons_zero, List.set_cons_zero, reps_cons]
    exact ⟨v, r, rfl, h, h2⟩
  | e :: ds, vs, i + 1, q => by
    rw [reps_cons] at q
    obtain ⟨w, r, rfl, h1, h2⟩ := q
    rw [List.set_cons_succ, List.set_cons_succ, reps_cons]
    exact ⟨w, _, rfl, h1, Reps.set h i h2⟩
theorem Reps.one {d : D} {v : V} (h : Rep K mg G d v) : Reps K mg G [d] [v] := by
  rw [reps_cons]; exact ⟨v, [], rfl, h, by rw [reps_nil]⟩
theorem Reps.ints : ∀ {ns : List Int} {vs : List V}, Reps K mg G (ns.map D.int) vs → vs = ns.map V.int
  | [], vs, h => by rw [List.map_nil, reps_nil] at h; rw [h]; rfl
  | n :: ns, vs, h => by
    rw [List.map_cons, reps_cons] at h
    obtain ⟨v, r, rfl, h1, h2⟩ := h
    rw [rep_int] at h1
    rw [h1, Reps.ints h2]; rfl
theorem reps_ints : ∀ (ns : List Int), Reps K mg G (ns.map D.int) (ns.map V.int)
  | [] => by rw [List.map_nil, reps_nil]; rfl
  | n :: ns => by
    rw [List.map_cons, reps_cons]
    exact ⟨_, _, rfl, rep_int.mpr rfl, reps_ints ns⟩
theorem RepF.look : ∀ {fs : List (Str × D)} {vs : List (Str × V)} {f : Str} {d : D}, RepF K mg G fs vs → fs.lookup f = some d → ∃ v, vs.lookup f = some v ∧ Rep K mg G d v
  | [], _, f, d, _, e => by simp at e
  | (g, x) :: fs, vs, f, d, h, e => by
    rw [repF_cons] at h
    obtain ⟨v, r, rfl, h1, h2⟩ := h
    rw [List.lookup_cons] at e ⊢
    cases q : (f == g) with
    | true => rw [q] at e; cases e; exact ⟨v, rfl, h1⟩
    | false => rw [q] at e; exact RepF.look h2 e
theorem RepF.no : ∀ {fs : List (Str × D)} {vs : List (Str × V)} {f : Str}, RepF K mg G fs vs → fs.lookup f = none → vs.lookup f = none
  | [], _, f, h, e => by rw [repF_nil] at h; subst h; rfl
  | (g, x) :: fs, vs, f, h, e => by
    rw [repF_cons] at h
    obtain ⟨v, r, rfl, h1, h2⟩ := h
    rw [List.lookup_cons] at e ⊢
    cases q : (f == g) with
    | true => rw [q] at e; cases e
    | false => rw [q] at e; exact RepF.no h2 e
theorem RepF.length : ∀ {fs : List (Str × D)} {vs : List (Str × V)}, RepF K mg G fs vs → vs.length = fs.length
  | [], _, h => by rw [repF_nil] at h; rw [h]; rfl
  | (g, x) :: fs, vs, h => by
    rw [repF_cons] at h
    obtain ⟨v, r, rfl, h1, h2⟩ := h
    rw [List.length_cons, List.length_cons, RepF.length h2]
def putD (f : Str) (d : D) : List (Str × D) → List (Str × D)
  | [] => [(f, d)]
  | (g, x) :: r => if g = f then (f, d) :: r else (g, x) :: putD f d r
end
def exV (cls : Value) (d : Option Addr) (a : Addr) : HO := .ext fun h => ∃ (oe : Obj) (vs : Array Value), h.get? a = some oe ∧ Zc cls d oe ∧ oe.data = .fields vs
section
variable (K : PySem.W.Frag) (mg : MG)
def OwnAt (G H : Hp) (a : Addr) : OD → Prop
  | .lst ds => ∃ vs, H a = some (.lst vs) ∧ Reps K mg G ds vs
  | .ins c fs => ∃ C dx fvs, mg c = some (.ref C) ∧ H a = some (.ins C dx fvs) ∧ RepF K mg G fs fvs
  | .dcK kvs => ∃ kv, H a = some (.dK kv) ∧ RepK K mg G kvs kv
  | .dcN kvs => ∃ ep es, H a = some (dnO a ep es) ∧ RepN K mg G kvs es
structure Own (G : Hp) (α : List Addr) (ω : Om) (H : Hp) : Prop where
  sub : Same G H
  len : α.length = ω.length
  nd : α.Nodup
  ex : ∀ a ∈ α, ∃ o, H a = some o
  obj : ∀ (k : Nat) o a, ω[k]? = some (some o) → α[k]? = some a → G a = none ∧ OwnAt K mg G H a o
def RepX (G : Hp) (x : Exn) (c : Value) (dd : Option Addr) : Prop :=
  ∃ C, mg x.cls = some (.ref C) ∧ c = .ref C ∧ ((x.fs = [] ∧ dd = none) ∨ ∃ d fvs, dd = some d ∧ G d = some (.xd fvs) ∧ RepF K mg G x.fs fvs)
def RepV (G : Hp) (α : List Addr) : SV → V → Prop
  | .val d, v => Rep K mg G d v
  | .own k, v => ∃ a, α[k]? = some a ∧ v = .ref a
  | .exc x, v => ∃ a cls d, v = .ref a ∧ G a = some (exV cls d a) ∧ RepX K mg G x cls d
def RepVs (G : Hp) (α : List Addr) : List SV → List V → Prop := Paired (RepV K mg G α)
structure Slots (G : Hp) (α : List Addr) (ρ : Rho) (σ : St) : Prop where
  len : σ.length = ρ.length
  val : ∀ (i : Nat) x, ρ[i]? = some (some x) → ∃ v, σ[i]? = some (some v) ∧ RepV K mg G α x v
end
structure Ext (G : Hp) (α : List Addr) (H G' : Hp) (α' : List Addr) (H' : Hp) : Prop where
  g : Same G G'
  new : ∀ a o, G' a = some o → G a = some o ∨ H a = none ∨ a ∈ α
  keep : ∀ a o, H a = some o → a ∉ α → H' a = some o
  live : ∀ a o, H a = some o → ∃ o', H' a = some o'
  pre : ∃ more, α' = α ++ more ∧ ∀ a ∈ more, H a = none
structure Grow (G H G' H' : Hp) : Prop where
  g : Same G G'
  h : Same H H'
  s : Same G' H'
  new : ∀ a o, G' a = some o → G a = some o ∨ H a = none
section
variable {K : PySem.W.Frag} {mg : MG} {G G1 G2 H H1 H2 : Hp} {α α1 α2 : List Addr} {ω : Om}
theorem Ext.refl : Ext G α H G α H := ⟨Same.refl _, fun _ _ h => .inl h, fun _ _ h _ => h, fun _ o h => ⟨o, h⟩, [], by simp, by simp⟩
theorem Ext.trans (a : Ext G α H G1 α1 H1) (b : Ext G1 α1 H1 G2 α2 H2) : Ext G α H G2 α2 H2 := by
  obtain ⟨m1, e1, n1⟩ := a.pre
  obtain ⟨m2, e2, n2⟩ := b.pre
  have dead : ∀ x, H1 x = none → H x = none := fun x hx => by
    cases q : H x with
    | none => rfl
    | some o => obtain ⟨o', q'⟩ := a.live x o q; rw [hx] at q'; cases q'
  refine ⟨a.g.trans b.g, fun x o h => ?_, fun x o h n => ?_, fun x o h => ?_, m1 ++ m2, by rw [e2, e1, List.append_assoc], fun x hx => ?_⟩
  · rcases b.new x o h with h | h | h
    · exact a.new x o h
    · exact .inr (.inl (dead x h))
    · rw [e1] at h
      rcases List.mem_append.mp h with h | h
      · exact .inr (.inr h)
      · exact .inr (.inl (n1 x h))
  · refine b.keep x o (a.keep x o h n) fun z => ?_
    rw [e1] at z
    rcases List.mem_append.mp z with z | z
    · exact n z
    · rw [n1 x z] at h; cases h
  · obtain ⟨o', h'⟩ := a.live x o h
    exact b.live x o' h'
  · rcases List.mem_append.mp hx with z | z
    · exact n1 x z
    · exact dead x (n2 x z)
theorem Grow.refl (s : Same G H) : Grow G H G H := ⟨Same.refl _, Same.refl _, s, fun _ _ h => .inl h⟩
theorem Grow.trans (a : Grow G H G1 H1) (b : Grow G1 H1 G2 H2) : Grow G H G2 H2 :=
  ⟨a.g.trans b.g, a.h.trans b.h, b.s, fun x o h => (b.new x o h).elim (a.new x o) fun z => .inr (a.h.free z)⟩
theorem Same.upd {p : Addr} {o : HO} (h : H p = none) : Same H (L2.upd H p o) := fun b u e => by rw [upd_ne (ne_of_none e h)]; exact e
theorem Grow.put {p : Addr} {o : HO} (s : Same G H) (h : H p = none) : Grow G H (L2.upd G p o) (L2.upd H p o) := by
  have hg := s.free h
  refine ⟨Same.upd hg, Same.upd h, fun b u e => ?_, fun a u e => ?_⟩
  · by_cases q : b = p
    · subst q; rw [upd_same] at e ⊢; exact e
    · rw [upd_ne q] at e ⊢; exact s b u e
  · by_cases q : a = p
    · subst q; exact .inr h
    · rw [upd_ne q] at e; exact .inl e
theorem Grow.side {p : Addr} {o : HO} (s : Same G H) (h : H p = none) : Grow G H G (L2.upd H p o) :=
  ⟨Same.refl _, Same.upd h, s.trans (Same.upd h), fun _ _ e => .inl e⟩
theorem OwnAt.mono {a : Addr} (sg : Same G G1) (e : H1 a = H a) : ∀ {o : OD}, OwnAt K mg G H a o → OwnAt K mg G1 H1 a o
  | .lst ds, ⟨vs, h1, h2⟩ => ⟨vs, e.trans h1, Reps.mono sg _ _ h2⟩
  | .ins c fs, ⟨C, dx, fvs, m, h1, h2⟩ => ⟨C, dx, fvs, m, e.trans h1, RepF.mono sg _ _ h2⟩
  | .dcK kvs, ⟨kv, h1, h2⟩ => ⟨kv, e.trans h1, RepK.mono sg _ _ h2⟩
  | .dcN kvs, ⟨ep, es, h1, h2⟩ => ⟨ep, es, e.trans h1, RepN.mono sg _ _ h2⟩
theorem OwnAt.there {a : Addr} : ∀ {o : OD}, OwnAt K mg G H a o → ∃ u, H a = some u
  | .lst ds, ⟨vs, h1, h2⟩ => ⟨_, h1⟩
  | .ins c fs, ⟨C, dx, fvs, m, h1, h2⟩ => ⟨_, h1⟩
  | .dcK kvs, ⟨kv, h1, h2⟩ => ⟨_, h1⟩
  | .dcN kvs, ⟨ep, es, h1, h2⟩ => ⟨_, h1⟩
theorem Own.grow (O : Own K mg G α ω H) (g : Grow G H G1 H1) : Own K mg G1 α ω H1 := by
  refine ⟨g.s, O.len, O.nd, fun a ha => let ⟨o, h⟩ := O.ex a ha; ⟨o, g.h a o h⟩, fun k o a h1 h2 => ?_⟩
  obtain ⟨n, q⟩ := O.obj k o a h1 h2
  obtain ⟨u, hu⟩ := q.there
  refine ⟨?_, q.mono g.g ((g.h a u hu).trans hu.symm)⟩
  cases z : G1 a with
  | none => rfl
  | some w =>
    rcases g.new a w z with y | y
    · rw [n] at y; cases y
    · rw [hu] at y; cases y
theorem Grow.ext (g : Grow G H G1 H1) : Ext G α H G1 α H1 :=
  ⟨g.g, fun a o h => (g.new a o h).elim .inl fun z => .inr (.inl z), fun a o h _ => g.h a o h, fun a o h => ⟨o, g.h a o h⟩, [], by simp, by simp⟩
theorem RepX.mono {K : PySem.W.Frag} {mg : MG} {G G1 : Hp} {x : Exn} {cls : Value} {d : Option Addr} (s : Same G G1) (r : RepX K mg G x cls d) : RepX K mg G1 x cls d := by
  obtain ⟨C, h1, h2, h3 | ⟨dd, fvs, h3, h4, h5⟩⟩ := r
  · exact ⟨C, h1, h2, .inl h3⟩
  · exact ⟨C, h1, h2, .inr ⟨dd, fvs, h3, s _ _ h4, RepF.mono s _ _ h5⟩⟩
theorem RepV.mono (s : Same G G1) (p : ∃ more, α1 = α ++ more) : ∀ {x : SV} {v : V}, RepV K mg G α x v → RepV K mg G1 α1 x v
  | .val d, v, h => Rep.mono s d v h
  | .own k, v, ⟨a, h1, h2⟩ => by
    obtain ⟨m, rfl⟩ := p
    refine ⟨a, ?_, h2⟩
    rw [List.getElem?_append_left (List.getElem?_eq_some_iff.mp h1).1]
    exact h1
  | .exc x, v, ⟨a, cls, d, h1, h2, h3⟩ => ⟨a, cls, d, h1, s _ _ h2, RepX.mono s h3⟩
theorem Ext.pre' (e : Ext G α H G1 α1 H1) : ∃ more, α1 = α ++ more := let ⟨m, h, _⟩ := e.pre; ⟨m, h⟩
theorem Slots.mono {ρ : Rho} {σ : St} (S : Slots K mg G α ρ σ) (e : Ext G α H G1 α1 H1) : Slots K mg G1 α1 ρ σ :=
  ⟨S.len, fun i x h => let ⟨v, h1, h2⟩ := S.val i x h; ⟨v, h1, h2.mono e.g e.pre'⟩⟩
theorem RepVs.mono (s : Same G G1) (p : ∃ more, α1 = α ++ more) : ∀ {xs : List SV} {vs : List V}, RepVs K mg G α xs vs → RepVs K mg G1 α1 xs vs
  | _, _, .nil => .nil
  | _, _, .cons h t => .cons (h.mono s p) (RepVs.mono s p t)
theorem Slots.set {ρ : Rho} {σ : St} {x : SV} {v : V} (S : Slots K mg G α ρ σ) (i : Nat) (h : RepV K mg G α x v) : Slots K mg G α (ρ.set i (some x)) (σ.set i (some v)) := by
  refine ⟨by simp [S.len], fun j y e => ?_⟩
  by_cases q : i = j
  · subst q
    by_cases hl : i < ρ.length
    · rw [List.getElem?_set_self hl] at e
      cases e
      exact ⟨v, List.getElem?_set_self (by rw [S.len]; exact hl), h⟩
    · rw [List.getElem?_eq_none (by simp; omega)] at e; cases e
  · rw [List.getElem?_set_ne q] at e
    obtain ⟨w, h1, h2⟩ := S.val j y e
    exact ⟨w, by rw [List.getElem?_set_ne q]; exact h1, h2⟩
end
end Dl
namespace Dl
open PySem L2
section
variable (K : PySem.W.Frag) (mg : MG)
def Post {β γ : Type} (R : Hp → List Addr → Hp → β → γ → Prop) (G : Hp) (α : List Addr) (H : Hp) (Q : γ → Hp → Prop) (E : XK) : Res β → Prop
  | .stuck => False
  | .ok b ω' => ∀ v G' α' H', Ext G α H G' α' H' → Own K mg G' α' ω' H' → R G' α' H' b v → Q v H'
  | .exc x ω' => ∀ c dd G' α' H', Ext G α H G' α' H' → Own K mg G' α' ω' H' → RepX K mg G' x c dd → E c dd H'
def RD : Hp → List Addr → Hp → D → V → Prop := fun G _ _ d v => Rep K mg G d v
def RS : Hp → List Addr → Hp → SV → V → Prop := fun G α _ x v => RepV K mg G α x v
def RL : Hp → List Addr → Hp → List D → V → Prop := fun G _ H ds v => ∃ a vs, v = .ref a ∧ SqL K H a vs ∧ Reps K mg G ds vs
def RB : Hp → List Addr → Hp → Bool → Bool → Prop := fun _ _ _ b c => b = c
def RA : Hp → List Addr → Hp → List SV → List V → Prop := fun G α _ xs vs => RepVs K mg G α xs vs
end
section
variable {K : PySem.W.Frag} {mg : MG} {β γ β2 γ2 : Type} {R : Hp → List Addr → Hp → β → γ → Prop} {R2 : Hp → List Addr → Hp → β2 → γ2 → Prop}
  {G G1 H H1 : Hp} {α α1 : List Addr} {Q Q1 : γ → Hp → Prop} {Q2 : γ2 → Hp → Prop} {E : XK} {ω : Om}
theorem Post.weak {r : Res β} (e : Ext G α H G1 α1 H1) (h : Post K mg R G α H Q E r) : Post K mg R G1 α1 H1 Q E r := by
  cases r with
  | stuck => exact h
  | ok b ω' => exact fun v G' α' H' e' O q => h v G' α' H' (e.trans e') O q
  | exc x ω' => exact fun c dd G' α' H' e' O q => h c dd G' α' H' (e.trans e') O q
theorem Post.step {t : (γ → Hp → Prop) → Prop} {r : Res β} {g : β → Om → Res β2} (J : ∀ Q, Post K mg R G α H Q E r → t Q) (h : Post K mg R2 G α H Q2 E (r.bind g))
    (k : ∀ b ω1 v G' α' H', Ext G α H G' α' H' → Own K mg G' α' ω1 H' → R G' α' H' b v → Post K mg R2 G' α' H' Q2 E (g b ω1) → Q1 v H') : t Q1 := by
  cases r with
  | stuck => exact h.elim
  | ok b ω' => exact J Q1 fun v G' α' H' e O q => k b ω' v G' α' H' e O q (h.weak e)
  | exc x ω' => exact J Q1 h
theorem Post.grow {b : β} {v : γ} (O : Own K mg G α ω H) (g : Grow G H G1 H1) (q : R G1 α H1 b v) (h : Post K mg R G α H Q E (.ok b ω)) : Q v H1 :=
  h v G1 α H1 g.ext (O.grow g) q
theorem Post.here {b : β} {v : γ} (O : Own K mg G α ω H) (q : R G α H b v) (h : Post K mg R G α H Q E (.ok b ω)) : Q v H :=
  h v G α H Ext.refl O q
theorem Post.lift {o : Option β} (h : Post K mg R G α H Q E (Res.lift o ω)) : ∃ b, o = some b ∧ Post K mg R G α H Q E (.ok b ω) := by
  cases o with
  | none => exact h.elim
  | some b => exact ⟨b, rfl, h⟩
end
abbrev FE (β : Type) := Rho → Om → Res β
def Je {β : Type} (R : PySem.W.Frag → MG → Hp → List Addr → Hp → β → V → Prop) (X : Cx) (W : WX) (e : Expr) (f : FE β) : Prop :=
  ∃ t, PE X e t ∧ ∀ G α ρ ω σ H Q, Own X.K X.mg G α ω H → Slots X.K X.mg G α ρ σ → Post X.K X.mg (R X.K X.mg) G α H Q (fun c d H' => W c d σ H') (f ρ ω) → t σ H Q
abbrev De (X : Cx) (W : WX) (e : Expr) (f : FE D) : Prop := Je RD X W e f
abbrev Dv (X : Cx) (W : WX) (e : Expr) (f : FE SV) : Prop := Je RS X W e f
abbrev Dl (X : Cx) (W : WX) (e : Expr) (f : FE (List D)) : Prop := Je RL X W e f
def Dt (X : Cx) (W : WX) (e : Expr) (f : FE Bool) : Prop :=
  ∃ t, PT X e t ∧ ∀ G α ρ ω σ H Q, Own X.K X.mg G α ω H → Slots X.K X.mg G α ρ σ → Post X.K X.mg RB G α H Q (fun c d H' => W c d σ H') (f ρ ω) → t σ H Q
def Dw (X : Cx) (W : WX) (e : Expr) (f : FE Bool) : Prop :=
  ∃ t, PW X e t ∧ ∀ G α ρ ω σ H Q, Own X.K X.mg G α ω H → Slots X.K X.mg G α ρ σ → Post X.K X.mg RB G α H Q (fun c d H' => W c d σ H') (f ρ ω) → t σ H Q
def Da (X : Cx) (W : WX) (es : List Expr) (f : FE (List SV)) : Prop :=
  ∃ t, PA X es t ∧ ∀ G α ρ ω σ H Q, Own X.K X.mg G α ω H → Slots X.K X.mg G α ρ σ → Post X.K X.mg (RA X.K X.mg) G α H Q (fun c d H' => W c d σ H') (f ρ ω) → t σ H Q
def eC (d : D) : FE D := fun _ ω => .ok d ω
def eVar (i : Nat) : FE D := fun ρ ω => match ρ[i]? with
  | some (some (.val d)) => .ok d ω
  | _ => .stuck
def eSlot (i : Nat) : FE SV := fun ρ ω => match ρ[i]? with
  | some (some x) => .ok x ω
  | _ => .stuck
def eOwnL (i : Nat) : FE (List D) := fun ρ ω => match ρ[i]? with
  | some (some (.own k)) => match ω[k]? with
    | some (some (.lst ds)) => .ok ds ω
    | _ => .stuck
  | _ => .stuck
section
variable {X : Cx} {W : WX} {a b c e : Expr} {pos : Pos}
theorem de_of {v : V} {d : D} (h : PE X e (tC v)) (r : ∀ G, Rep X.K X.mg G d v) : De X W e (eC d) :=
  ⟨_, h, fun G α ρ ω σ H Q O S P => Post.here O (r G) P⟩
theorem de_int {i : Int} {j} : De X W (.Constant (.int i) j pos) (eC (.int i)) := de_of pe_int fun _ => rep_int.mpr rfl
theorem de_bl {b : Bool} {j} : De X W (.Constant (.bool b) j pos) (eC (.bl b)) := de_of pe_bl fun _ => rep_bl.mpr rfl
theorem de_non {j} : De X W (.Constant .none j pos) (eC .non) := de_of pe_non fun _ => rep_non.mpr rfl
theorem de_str {x : Str} {j} : De X W (.Constant (.str x) j pos) (eC (.str x)) := de_of pe_str fun _ => rep_str.mpr rfl
theorem de_globI {x : Str} {i : Int} {t : Tok} (hm : X.mg x = some (.int i t)) (hg : Gl X x := by rfl) (hd : (x == ("__debug__" : Str)) = false := by decide) : De X W (.Name x pos) (eC (.int i)) :=
  de_of (pe_glob (v := .int i) hg hm ⟨t, rfl⟩ hd) fun _ => rep_int.mpr rfl
theorem dv_var (i : Nat) {x : Str} (hN : X.N[i]? = some x := by rfl) (hv : Vis X.env.scope x := by first | exact Or.inl rfl | exact Or.inr (Or.inl rfl) | exact Or.inr (Or.inr rfl)) (hd : (x == ("__debug__" : Str)) = false := by decide)
    (hcd : (x == ("__classdict__" : Str)) = false := by decide) : Dv X W (.Name x pos) (eSlot i) := by
  refine ⟨_, pe_var hN hv hd hcd, fun G α ρ ω σ H Q O S P => ?_⟩
  unfold eSlot at P
  split at P
  · rename_i y hy
    obtain ⟨v, h1, h2⟩ := S.val i y hy
    exact ⟨v, h1, Post.here O h2 P⟩
  · exact P.elim
theorem de_var (i : Nat) {x : Str} (hN : X.N[i]? = some x := by rfl) (hv : Vis X.env.scope x := by first | exact Or.inl rfl | exact Or.inr (Or.inl rfl) | exact Or.inr (Or.inr rfl)) (hd : (x == ("__debug__" : Str)) = false := by decide)
    (hcd : (x == ("__classdict__" : Str)) = false := by decide) : De X W (.Name x pos) (eVar i) := by
  refine ⟨_, pe_var hN hv hd hcd, fun G α ρ ω σ H Q O S P => ?_⟩
  unfold eVar at P
  split at P
  · rename_i y hy
    obtain ⟨v, h1, h2⟩ := S.val i _ hy
    exact ⟨v, h1, Post.here O h2 P⟩
  · exact P.elim
def asLst : D → Option (List D)
  | .lst ds => some ds
  | _ => none
def eLst (f : FE D) : FE (List D) := fun ρ ω => (f ρ ω).bind fun d ω1 => Res.lift (asLst d) ω1
theorem dl_of {f : FE D} (h : De X W e f) : Dl X W e (eLst f) := by
  obtain ⟨t, p, j⟩ := h
  refine ⟨t, p, fun G α ρ ω σ H Q O S P => ?_⟩
  refine Post.step (t := t σ H) (j G α ρ ω σ H · O S) P fun d ω1 v G1 α1 H1 e1 O1 r1 P1 => ?_
  obtain ⟨ds, e2, P2⟩ := P1.lift
  cases d with
  | lst ds' =>
    cases e2
    have r1' : Rep X.K X.mg G1 (.lst ds) v := r1
    rw [rep_lst] at r1'
    obtain ⟨a, vs, e3, q, r⟩ := r1'
    exact Post.here O1 ⟨a, vs, e3, O1.sub.seq q, r⟩ P2
  | _ => cases e2
def Bop (K : PySem.W.Frag) (mg : MG) (r : R2) (op : D → D → Option D) : Prop :=
  ∀ G H x y d v1 v2 Q, Same G H → op x y = some d → Rep K mg G x v1 → Rep K mg G y v2 → (∀ v G' H', Grow G H G' H' → Rep K mg G' d v → Q v H') → r v1 v2 H Q
def eBin (op : D → D → Option D) (f g : FE D) : FE D := fun ρ ω => (f ρ ω).bind fun x ω1 => (g ρ ω1).bind fun y ω2 => Res.lift (op x y) ω2
theorem bin_post {r : R2} {op : D → D → Option D} {K : PySem.W.Frag} {mg : MG} {G H : Hp} {α : List Addr} {ω : Om} {Q : VK} {E : XK} {x y : D} {v1 v2 : V} (B : Bop K mg r op) (O : Own K mg G α ω H) (r1 : Rep K mg G x v1) (r2 : Rep K mg G y v2)
    (P : Post K mg (RD K mg) G α H Q E (Res.lift (op x y) ω)) : r v1 v2 H Q := by
  obtain ⟨d, e, P⟩ := P.lift
  exact B G H x y d v1 v2 Q O.sub e r1 r2 fun v G' H' g q => Post.grow O g q P
theorem tOp_post {r : R2} {op : D → D → Option D} {f g : FE D} {ta tb : TE} {K : PySem.W.Frag} {mg : MG} (B : Bop K mg r op)
    (ja : ∀ G α ρ ω σ H Q, Own K mg G α ω H → Slots K mg G α ρ σ → Post K mg (RD K mg) G α H Q (fun c d H' => W c d σ H') (f ρ ω) → ta σ H Q)
    (jb : ∀ G α ρ ω σ H Q, Own K mg G α ω H → Slots K mg G α ρ σ → Post K mg (RD K mg) G α H Q (fun c d H' => W c d σ H') (g ρ ω) → tb σ H Q)
    (G α ρ ω σ H Q) (O : Own K mg G α ω H) (S : Slots K mg G α ρ σ) (P : Post K mg (RD K mg) G α H Q (fun c d H' => W c d σ H') (eBin op f g ρ ω)) : tOp r ta tb σ H Q := by
  refine Post.step (t := ta σ H) (ja G α ρ ω σ H · O S) P fun x ω1 v1 G1 α1 H1 e1 O1 r1 P1 => ?_
  refine Post.step (t := tb σ H1) (jb G1 α1 ρ ω1 σ H1 · O1 (S.mono e1)) P1 fun y ω2 v2 G2 α2 H2 e2 O2 r2 P2 => ?_
  exact bin_post B O2 (Rep.mono e2.g _ _ r1) r2 P2
theorem de_bin {o : Operator} {r : R2} {op : D → D → Option D} {f g : FE D} (ho : OpR X (binaryOp o) r) (B : Bop X.K X.mg r op) (ja : De X W a f) (jb : De X W b g) : De X W (.BinOp a o b pos) (eBin op f g) := by
  obtain ⟨ta, pa, ka⟩ := ja
  obtain ⟨tb, pb, kb⟩ := jb
  exact ⟨_, pe_op ho pa pb, tOp_post B ka kb⟩
theorem de_cmp {o : CmpOp} {r : R2} {op : D → D → Option D} {f g : FE D} (ho : OpR X (compareOp o) r) (B : Bop X.K X.mg r op) (ja : De X W a f) (jb : De X W b g) (hm : behindInMarks o b = false := by first | exact nomark _ | rfl) : De X W (.Compare a [o] [b] pos) (eBin op f g) := by
  obtain ⟨ta, pa, ka⟩ := ja
  obtain ⟨tb, pb, kb⟩ := jb
  exact ⟨_, pe_cmpR ho pa pb hm, tOp_post B ka kb⟩
theorem de_ix {r : R2} {op : D → D → Option D} {f g : FE D} (ho : IxR X r) (B : Bop X.K X.mg r op) (ja : De X W a f) (jb : De X W b g) (hs : PlainIx b := by exact fun _ _ => rfl) : De X W (.Subscript a b pos) (eBin op f g) := by
  obtain ⟨ta, pa, ka⟩ := ja
  obtain ⟨tb, pb, kb⟩ := jb
  exact ⟨_, pe_ix ho pa pb hs, tOp_post B ka kb⟩
def asBl : D → Option Bool
  | .bl b => some b
  | _ => none
def eTest (f : FE D) : FE Bool := fun ρ ω => (f ρ ω).bind fun d ω1 => Res.lift (asBl d) ω1
theorem test_post {t : TE} {f : FE D} {K : PySem.W.Frag} {mg : MG} (j : ∀ G α ρ ω σ H Q, Own K mg G α ω H → Slots K mg G α ρ σ → Post K mg (RD K mg) G α H Q (fun c d H' => W c d σ H') (f ρ ω) → t σ H Q)
    (G α ρ ω σ H Q) (O : Own K mg G α ω H) (S : Slots K mg G α ρ σ) (P : Post K mg RB G α H Q (fun c d H' => W c d σ H') (eTest f ρ ω)) : t σ H fun x H' => ∃ k, x = .bl k ∧ Q k H' := by
  refine Post.step (t := t σ H) (j G α ρ ω σ H · O S) P fun x ω1 v1 G1 α1 H1 e1 O1 r1 P1 => ?_
  obtain ⟨k, e2, P2⟩ := P1.lift
  cases x with
  | bl k' =>
    cases e2
    have r1' : Rep K mg G1 (.bl k) v1 := r1
    rw [rep_bl] at r1'
    exact ⟨k, r1', Post.here O1 rfl P2⟩
  | _ => cases e2
theorem dt_cmp {o : CmpOp} {r : R2} {op : D → D → Option D} {f g : FE D} (ho : OpR X (compareOp o) r) (B : Bop X.K X.mg r op) (ja : De X W a f) (jb : De X W b g) (hm : behindInMarks o b = false := by first | exact nomark _ | rfl) : Dt X W (.Compare a [o] [b] pos) (eTest (eBin op f g)) := by
  obtain ⟨ta, pa, ka⟩ := ja
  obtain ⟨tb, pb, kb⟩ := jb
  exact ⟨_, pt_cmpR ho pa pb hm, test_post (tOp_post B ka kb)⟩
theorem dt_val {f : FE D} (j : De X W e f) (he : ∀ whole, isTrue e X.env whole = (do let v ← whole; standAt e.pos; holding [v] (truthy v)) := by intro _; rfl) : Dt X W e (eTest f) := by
  obtain ⟨t, p, k⟩ := j
  exact ⟨_, pt_val p he, test_post k⟩
def eAndT (f g : FE Bool) : FE Bool := fun ρ ω => (f ρ ω).bind fun c ω1 => if c = true then g ρ ω1 else .ok false ω1
def eOrT (f g : FE Bool) : FE Bool := fun ρ ω => (f ρ ω).bind fun c ω1 => if c = true then .ok true ω1 else g ρ ω1
def eNotT (f : FE Bool) : FE Bool := fun ρ ω => (f ρ ω).bind fun c ω1 => .ok (!c) ω1
variable {rest : List Expr}
theorem dw_and1 {f : FE Bool} (h : Dt X W a f) : Dw X W (.BoolOp .And [a] pos) f := let ⟨t, p, k⟩ := h; ⟨t, pw_and1 p, k⟩
theorem dw_or1 {f : FE Bool} (h : Dt X W a f) : Dw X W (.BoolOp .Or [a] pos) f := let ⟨t, p, k⟩ := h; ⟨t, pw_or1 p, k⟩
theorem dw_and {f g : FE Bool} (h : Dt X W a f) (h2 : Dw X W (.BoolOp .And (b :: rest) pos) g) : Dw X W (.BoolOp .And (a :: b :: rest) pos) (eAndT f g) := by
  obtain ⟨ta, pa, ka⟩ := h
  obtain ⟨tb, pb, kb⟩ := h2
  refine ⟨_, pw_and pa pb, fun G α ρ ω σ H Q O S P => ?_⟩
  refine Post.step (t := ta σ H) (ka G α ρ ω σ H · O S) P fun x ω1 v1 G1 α1 H1 e1 O1 r1 P1 => ?_
  cases r1
  cases x with
  | true => exact iteT (kb G1 α1 ρ ω1 σ H1 Q O1 (S.mono e1) P1)
  | false => exact iteF (Post.here O1 rfl P1)
theorem dw_or {f g : FE Bool} (h : Dt X W a f) (h2 : Dw X W (.BoolOp .Or (b :: rest) pos) g) : Dw X W (.BoolOp .Or (a :: b :: rest) pos) (eOrT f g) := by
  obtain ⟨ta, pa, ka⟩ := h
  obtain ⟨tb, pb, kb⟩ := h2
  refine ⟨_, pw_or pa pb, fun G α ρ ω σ H Q O S P => ?_⟩
  refine Post.step (t := ta σ H) (ka G α ρ ω σ H · O S) P fun x ω1 v1 G1 α1 H1 e1 O1 r1 P1 => ?_
  cases r1
  cases x with
  | true => exact iteT (Post.here O1 rfl P1)
  | false => exact iteF (kb G1 α1 ρ ω1 σ H1 Q O1 (S.mono e1) P1)
theorem dt_w {f : FE Bool} (h : Dw X W e f) : Dt X W e f := let ⟨t, p, k⟩ := h; ⟨t, p.pt, k⟩
theorem dt_not {f : FE Bool} (h : Dt X W a f) : Dt X W (.UnaryOp .Not a pos) (eNotT f) := by
  obtain ⟨ta, pa, ka⟩ := h
  refine ⟨_, pt_not pa, fun G α ρ ω σ H Q O S P => ?_⟩
  refine Post.step (t := ta σ H) (ka G α ρ ω σ H · O S) P fun x ω1 v1 G1 α1 H1 e1 O1 r1 P1 => ?_
  cases r1
  exact Post.here O1 rfl P1
def eAnd (f g : FE D) : FE D := fun ρ ω => (eTest f ρ ω).bind fun c ω1 => if c = true then g ρ ω1 else .ok (.bl false) ω1
def eOr (f g : FE D) : FE D := fun ρ ω => (eTest f ρ ω).bind fun c ω1 => if c = true then .ok (.bl true) ω1 else g ρ ω1
def eNot (f : FE D) : FE D := fun ρ ω => (eTest f ρ ω).bind fun c ω1 => .ok (.bl (!c)) ω1
theorem de_one {op} {f : FE D} (h : De X W a f) : De X W (.BoolOp op [a] pos) f := let ⟨t, p, k⟩ := h; ⟨t, pe_one p, k⟩
theorem de_and {f g : FE D} (h : De X W a f) (h2 : De X W (.BoolOp .And (b :: rest) pos) g) : De X W (.BoolOp .And (a :: b :: rest) pos) (eAnd f g) := by
  obtain ⟨ta, pa, ka⟩ := h
  obtain ⟨tb, pb, kb⟩ := h2
  refine ⟨_, pe_and pa pb, fun G α ρ ω σ H Q O S P => ?_⟩
  refine Post.step (t := fun Q => ta σ H fun x H' => ∃ k, x = .bl k ∧ Q k H') (Q1 := fun c H1 => if c = true then tb σ H1 Q else Q (.bl false) H1) (test_post ka G α ρ ω σ H · O S) P ?_
  intro x ω1 v1 G1 α1 H1 e1 O1 r1 P1
  cases r1
  cases x with
  | true => exact iteT (kb G1 α1 ρ ω1 σ H1 Q O1 (S.mono e1) P1)
  | false => exact iteF (Post.here O1 (rep_bl.mpr rfl) P1)
theorem de_not {f : FE D} (h : De X W a f) : De X W (.UnaryOp .Not a pos) (eNot f) := by
  obtain ⟨ta, pa, ka⟩ := h
  refine ⟨_, pe_not pa, fun G α ρ ω σ H Q O S P => ?_⟩
  refine Post.step (t := fun Q => ta σ H fun x H' => ∃ k, x = .bl k ∧ Q k H') (Q1 := fun c H1 => Q (.bl (!c)) H1) (test_post ka G α ρ ω σ H · O S) P ?_
  intro x ω1 v1 G1 α1 H1 e1 O1 r1 P1
  cases r1
  exact Post.here O1 (rep_bl.mpr rfl) P1
def eIf (c : FE Bool) (f g : FE D) : FE D := fun ρ ω => (c ρ ω).bind fun b ω1 => if b = true then f ρ ω1 else g ρ ω1
theorem de_if {fc : FE Bool} {f g : FE D} (hc : Dt X W c fc) (h : De X W a f) (h2 : De X W b g) : De X W (.IfExp c a b pos) (eIf fc f g) := by
  obtain ⟨tc, pc, kc⟩ := hc
  obtain ⟨ta, pa, ka⟩ := h
  obtain ⟨tb, pb, kb⟩ := h2
  refine ⟨_, pe_ifExp pc pa pb, fun G α ρ ω σ H Q O S P => ?_⟩
  refine Post.step (t := tc σ H) (kc G α ρ ω σ H · O S) P fun x ω1 v1 G1 α1 H1 e1 O1 r1 P1 => ?_
  cases r1
  cases x with
  | true => exact iteT (ka G1 α1 ρ ω1 σ H1 Q O1 (S.mono e1) P1)
  | false => exact iteF (kb G1 α1 ρ ω1 σ H1 Q O1 (S.mono e1) P1)
def aNil : FE (List SV) := fun _ ω => .ok [] ω
def aCons (f : FE SV) (g : FE (List SV)) : FE (List SV) := fun ρ ω => (f ρ ω).bind fun x ω1 => (g ρ ω1).bind fun xs ω2 => .ok (x :: xs) ω2
def aVal (f : FE D) : FE SV := fun ρ ω => (f ρ ω).bind fun d ω1 => .ok (.val d) ω1
theorem dv_of {f : FE D} (h : De X W e f) : Dv X W e (aVal f) := by
  obtain ⟨t, p, j⟩ := h
  refine ⟨t, p, fun G α ρ ω σ H Q O S P => ?_⟩
  exact Post.step (t := t σ H) (j G α ρ ω σ H · O S) P fun d ω1 v G1 α1 H1 e1 O1 r1 P1 => Post.here (R := RS X.K X.mg) (b := SV.val d) O1 r1 P1
theorem da_nil : Da X W [] aNil := ⟨_, pa_nil, fun G α ρ ω σ H Q O S P => Post.here O .nil P⟩
theorem da_cons {es : List Expr} {f : FE SV} {g : FE (List SV)} (h : Dv X W e f) (h2 : Da X W es g) (hs : starEach (e :: es) X.env = (false, eval e X.env) :: starEach es X.env := by rfl) : Da X W (e :: es) (aCons f g) := by
  obtain ⟨ta, pa, ka⟩ := h
  obtain ⟨tb, pb, kb⟩ := h2
  refine ⟨_, pa_cons pa pb hs, fun G α ρ ω σ H Q O S P => ?_⟩
  refine Post.step (t := ta σ H) (ka G α ρ ω σ H · O S) P fun x ω1 v1 G1 α1 H1 e1 O1 r1 P1 => ?_
  refine Post.step (t := tb σ H1) (kb G1 α1 ρ ω1 σ H1 · O1 (S.mono e1)) P1 fun y ω2 v2 G2 α2 H2 e2 O2 r2 P2 => ?_
  exact Post.here O2 (.cons (r1.mono e2.g e2.pre') r2) P2
theorem da_val {es : List Expr} {f : FE D} {g : FE (List SV)} (h : De X W e f) (h2 : Da X W es g) (hs : starEach (e :: es) X.env = (false, eval e X.env) :: starEach es X.env := by rfl) : Da X W (e :: es) (aCons (aVal f) g) := da_cons (dv_of h) h2 hs
def allD : List SV → Option (List D)
  | [] => some []
  | .val d :: xs => (allD xs).map (d :: ·)
  | .own _ :: _ => none
  | .exc _ :: _ => none
theorem allD_reps {K : PySem.W.Frag} {mg : MG} {G : Hp} {α : List Addr} : ∀ {xs : List SV} {ds : List D} {vs : List V}, allD xs = some ds → RepVs K mg G α xs vs → Reps K mg G ds vs
  | [], ds, _, e, .nil => by cases e; rw [reps_nil]
  | .val d :: xs, ds, _, e, .cons h t => by
    unfold allD at e
    cases q : allD xs with
    | none => rw [q] at e; cases e
    | some es =>
      rw [q] at e
      cases e
      rw [reps_cons]
      exact ⟨_, _, rfl, h, allD_reps q t⟩
  | .own k :: xs, ds, _, e, _ => by cases e
  | .exc k :: xs, ds, _, e, _ => by cases e
abbrev lim : Nat := 16777216
theorem lim_eq : sizeLine = lim := sizeLine_eq
def eTup (g : FE (List SV)) : FE D := fun ρ ω => (g ρ ω).bind fun xs ω1 => Res.lift (if xs.length ≤ lim then (allD xs).map D.tup else none) ω1
def eList (g : FE (List SV)) : FE D := fun ρ ω => (g ρ ω).bind fun xs ω1 => Res.lift (if xs.length ≤ lim then (allD xs).map D.lst else none) ω1
theorem RepVs.length {K : PySem.W.Frag} {mg : MG} {G : Hp} {α : List Addr} : ∀ {xs : List SV} {vs : List V}, RepVs K mg G α xs vs → xs.length = vs.length := fun h => Paired.length h
theorem rep_newT {K : PySem.W.Frag} {mg : MG} {G H : Hp} {p : Addr} {ds : List D} {vs : List V} (hp : G p = none) (r : Reps K mg G ds vs) : Rep K mg (L2.upd G p (.tup vs)) (.tup ds) (.ref p) :=
  rep_tup.mpr ⟨p, vs, rfl, SqT.of upd_same, Reps.mono (Same.upd hp) _ _ r⟩
theorem rep_newL {K : PySem.W.Frag} {mg : MG} {G H : Hp} {p : Addr} {ds : List D} {vs : List V} (hp : G p = none) (r : Reps K mg G ds vs) : Rep K mg (L2.upd G p (.lst vs)) (.lst ds) (.ref p) :=
  rep_lst.mpr ⟨p, vs, rfl, SqL.of upd_same, Reps.mono (Same.upd hp) _ _ r⟩
theorem de_tup {es : List Expr} {x1} {g : FE (List SV)} (h : Da X W es g) : De X W (.Tuple es x1 pos) (eTup g) := by
  obtain ⟨t, p, k⟩ := h
  refine ⟨_, pe_tup p, fun G α ρ ω σ H Q O S P => ?_⟩
  refine Post.step (t := t σ H) (k G α ρ ω σ H · O S) P fun xs ω1 vs G1 α1 H1 e1 O1 r1 P1 => ?_
  obtain ⟨d, e2, P2⟩ := P1.lift
  split at e2
  · rename_i hl
    cases q : allD xs with
    | none => rw [q] at e2; cases e2
    | some ds =>
      rw [q] at e2; cases e2
      have hr := allD_reps q r1
      refine ⟨by rw [lim_eq, ← RepVs.length r1]; exact hl, fun p hp => ?_⟩
      exact Post.grow O1 (Grow.put O1.sub hp) (rep_newT (H := H1) (O1.sub.free hp) hr) P2
  · cases e2
theorem de_lst {es : List Expr} {g : FE (List SV)} (h : Da X W es g) : De X W (.List es pos) (eList g) := by
  obtain ⟨t, p, k⟩ := h
  refine ⟨_, pe_lst p, fun G α ρ ω σ H Q O S P => ?_⟩
  refine Post.step (t := t σ H) (k G α ρ ω σ H · O S) P fun xs ω1 vs G1 α1 H1 e1 O1 r1 P1 => ?_
  obtain ⟨d, e2, P2⟩ := P1.lift
  split at e2
  · rename_i hl
    cases q : allD xs with
    | none => rw [q] at e2; cases e2
    | some ds =>
      rw [q] at e2; cases e2
      have hr := allD_reps q r1
      refine ⟨by rw [lim_eq, ← RepVs.length r1]; exact hl, fun p hp => ?_⟩
      exact Post.grow O1 (Grow.put O1.sub hp) (rep_newL (H := H1) (O1.sub.free hp) hr) P2
  · cases e2
end
end Dl
namespace Dl
open PySem L2
mutual
def toPy : D → Option PyData
  | .non => some .none
  | .bl b => some (.bool b)
  | .int i => some (.int i)
  | .str x => some (.str x)
  | .tup ds => (toPys ds).map .tuple
  | .lst ds => (toPys ds).map .list
  | _ => none
def toPys : List D → Option (List PyData)
  | [] => some []
  | d :: ds => match toPy d with
    | some p => (toPys ds).map (p :: ·)
    | none => none
end
section
variable {K : PySem.W.Frag} {mg : MG} {G H : Hp}
mutual
theorem dp_of (s : Same G H) : ∀ (d : D) (p : PyData) (v : V), toPy d = some p → Rep K mg G d v → Dp K H v p
  | .non, p, v, e, r => by
    unfold toPy at e; cases e; rw [rep_non] at r; subst r; exact .non
  | .bl b, p, v, e, r => by
    unfold toPy at e; cases e; rw [rep_bl] at r; subst r; exact .bl b
  | .int b, p, v, e, r => by
    unfold toPy at e; cases e; rw [rep_int] at r; subst r; exact .int b
  | .str b, p, v, e, r => by
    unfold toPy at e; cases e; rw [rep_str] at r; subst r; exact .str b
  | .tup ds, p, v, e, r => by
    unfold toPy at e
    cases q : toPys ds with
    | none => rw [q] at e; cases e
    | some ps =>
      rw [q] at e; cases e
      rw [rep_tup] at r
      obtain ⟨a, vs, rfl, h1, h2⟩ := r
      exact .tup (Same.sqT s h1) (dps_of s ds ps vs q h2)
  | .lst ds, p, v, e, r => by
    unfold toPy at e
    cases q : toPys ds with
    | none => rw [q] at e; cases e
    | some ps =>
      rw [q] at e; cases e
      rw [rep_lst] at r
      obtain ⟨a, vs, rfl, h1, h2⟩ := r
      exact .lst (s.seq h1) (dps_of s ds ps vs q h2)
  | .obj _ _, p, v, e, r => by unfold toPy at e; cases e
  | .dcK _, p, v, e, r => by unfold toPy at e; cases e
  | .dcN _, p, v, e, r => by unfold toPy at e; cases e
theorem dps_of (s : Same G H) : ∀ (ds : List D) (ps : List PyData) (vs : List V), toPys ds = some ps → Reps K mg G ds vs → DpAll K H vs ps
  | [], ps, vs, e, r => by
    unfold toPys at e; cases e; rw [reps_nil] at r; subst r; exact .nil
  | d :: ds, ps, vs, e, r => by
    unfold toPys at e
    cases q : toPy d with
    | none => rw [q] at e; cases e
    | some p =>
      rw [q] at e
      cases q2 : toPys ds with
      | none => rw [q2] at e; cases e
      | some ps' =>
        rw [q2] at e; cases e
        rw [reps_cons] at r
        obtain ⟨v, rr, rfl, h1, h2⟩ := r
        exact .cons (dp_of s d p v q h1) (dps_of s ds ps' rr q2 h2)
end
end
def eqD (x y : D) : Option Bool := match toPy x, toPy y with
  | some p, some q => if SeqAt.shaped p && SeqAt.shaped q then some (PyData.eqv p q) else none
  | _, _ => none
def opEq (x y : D) : Option D := (eqD x y).map D.bl
def opNe (x y : D) : Option D := (eqD x y).map fun b => D.bl (!b)
def opAdd : D → D → Option D
  | .int i, .int j => some (.int (i + j))
  | .tup a, .tup b => if a.length + b.length ≤ lim then some (.tup (a ++ b)) else none
  | .str a, .str b => if a.length + b.length ≤ lim then some (.str (a ++ b)) else none
  | .lst a, .lst b => if a.length + b.length ≤ lim then some (.lst (a ++ b)) else none
  | _, _ => none
def opI (p : Int → Int → Option Int) : D → D → Option D
  | .int i, .int j => (p i j).map D.int
  | _, _ => none
def opB (p : Int → Int → Bool) : D → D → Option D
  | .int i, .int j => some (.bl (p i j))
  | _, _ => none
abbrev opSub : D → D → Option D := opI fun i j => some (i - j)
abbrev bnd : Int := 18446744073709551616
abbrev opMul : D → D → Option D := opI fun i j => if (-bnd < i ∧ i < bnd) ∨ (-bnd < j ∧ j < bnd) then some (i * j) else none
abbrev opMod : D → D → Option D := opI fun i j => if 0 < j then some (i % j) else none
abbrev opDiv : D → D → Option D := opI fun i j => if 0 < j ∧ j < 1073741824 then some (i / j) else none
abbrev opPow : D → D → Option D := opI fun i j => if 0 ≤ j ∧ j ≤ 1000000 ∧ i.natAbs < 18446744073709551616 then some (i ^ j.toNat) else none
abbrev opLt : D → D → Option D := opB fun i j => decide (i < j)
abbrev opLe : D → D → Option D := opB fun i j => decide (i ≤ j)
abbrev opGt : D → D → Option D := opB fun i j => decide (j < i)
abbrev opGe : D → D → Option D := opB fun i j => decide (j ≤ i)
def isNon : D → Bool
  | .non => true
  | _ => false
def opIsN (x y : D) : Option D := if isNon y then some (.bl (isNon x)) else none
def opNotN (x y : D) : Option D := if isNon y then some (.bl (!isNon x)) else none
def opIx : D → D → Option D
  | .tup ds, .int i => atI ds i
  | .lst ds, .int i => atI ds i
  | _, _ => none
def toV : D → Option V
  | .non => some .non
  | .bl b => some (.bl b)
  | .int i => some (.int i)
  | .str x => some (.str x)
  | _ => none
def toVs : List D → Option (List V)
  | [] => some []
  | d :: ds => match toV d with
    | some v => (toVs ds).map (v :: ·)
    | none => none
def opInL (neg : Bool) (x : D) (ys : List D) : Option D := match toV x, toVs ys with
  | some v, some vs => some (.bl (if neg then !inV v vs else inV v vs))
  | _, _ => none
def opIn (neg : Bool) (x y : D) : Option D := match y with
  | .tup ys => opInL neg x ys
  | .lst ys => opInL neg x ys
  | _ => none
section
variable {K : PySem.W.Frag} {mg : MG} {G H : Hp} {X : Cx}
theorem bop_eq : Bop K mg (rEqD K) opEq := by
  intro G H x y d v1 v2 Q s e r1 r2 k
  unfold opEq eqD at e
  split at e
  · rename_i p q hp hq
    split at e
    · rename_i hs
      rw [Bool.and_eq_true] at hs
      cases e
      exact ⟨p, q, dp_of s _ _ _ hp r1, dp_of s _ _ _ hq r2, hs.1, hs.2, k _ G H (Grow.refl s) (rep_bl.mpr rfl)⟩
    · cases e
  · cases e
theorem bop_ne : Bop K mg (rNeD K) opNe := by
  intro G H x y d v1 v2 Q s e r1 r2 k
  unfold opNe eqD at e
  split at e
  · rename_i p q hp hq
    split at e
    · rename_i hs
      rw [Bool.and_eq_true] at hs
      cases e
      exact ⟨p, q, dp_of s _ _ _ hp r1, dp_of s _ _ _ hq r2, hs.1, hs.2, k _ G H (Grow.refl s) (rep_bl.mpr rfl)⟩
    · cases e
  · cases e
theorem bopI {C : Int → Int → Prop} {g : Int → Int → Int} {p : Int → Int → Option Int} (h : ∀ i j z, p i j = some z → C i j ∧ z = g i j) : Bop K mg (rI C fun i j => .int (g i j)) (opI p) := by
  intro G H x y d v1 v2 Q s e r1 r2 k
  unfold opI at e
  split at e
  · rename_i i j
    cases q : p i j with
    | none => rw [q] at e; cases e
    | some z =>
      rw [q] at e; cases e
      obtain ⟨c, rfl⟩ := h i j z q
      exact ⟨i, j, rep_int.mp r1, rep_int.mp r2, c, k _ G H (Grow.refl s) (rep_int.mpr rfl)⟩
  · cases e
theorem bopI0 {g : Int → Int → Int} : Bop K mg (rI0 fun i j => .int (g i j)) (opI fun i j => some (g i j)) := by
  intro G H x y d v1 v2 Q s e r1 r2 k
  unfold opI at e
  split at e
  · rename_i i j
    cases e
    exact ⟨i, j, rep_int.mp r1, rep_int.mp r2, k _ G H (Grow.refl s) (rep_int.mpr rfl)⟩
  · cases e
theorem bopB0 {g : Int → Int → Bool} : Bop K mg (rI0 fun i j => .bl (g i j)) (opB g) := by
  intro G H x y d v1 v2 Q s e r1 r2 k
  unfold opB at e
  split at e
  · rename_i i j
    cases e
    exact ⟨i, j, rep_int.mp r1, rep_int.mp r2, k _ G H (Grow.refl s) (rep_bl.mpr rfl)⟩
  · cases e
theorem bop_sub : Bop K mg (rI0 fun i j => .int (i - j)) opSub := bopI0
theorem bop_mul : Bop K mg (rI CMul fun i j => .int (i * j)) opMul := bopI (g := fun i j => i * j) fun i j z h => by
  split at h
  · rename_i c; cases h; exact ⟨c, rfl⟩
  · cases h
theorem bop_mod : Bop K mg (rI (fun _ j => 0 < j) fun i j => .int (i % j)) opMod := bopI (g := fun i j => i % j) fun i j z h => by
  split at h
  · rename_i c; cases h; exact ⟨c, rfl⟩
  · cases h
theorem bop_div : Bop K mg (rI CDiv fun i j => .int (i / j)) opDiv := bopI (g := fun i j => i / j) fun i j z h => by
  split at h
  · rename_i c; cases h; exact ⟨c, rfl⟩
  · cases h
theorem bop_pow : Bop K mg (rI CPow fun i j => .int (i ^ j.toNat)) opPow := bopI (g := fun i j => i ^ j.toNat) fun i j z h => by
  split at h
  · rename_i c; cases h; exact ⟨c, rfl⟩
  · cases h
theorem bop_lt : Bop K mg (rI0 fun i j => .bl (decide (i < j))) opLt := bopB0
theorem bop_le : Bop K mg (rI0 fun i j => .bl (decide (i ≤ j))) opLe := bopB0
theorem bop_gt : Bop K mg (rI0 fun i j => .bl (decide (j < i))) opGt := bopB0
theorem bop_ge : Bop K mg (rI0 fun i j => .bl (decide (j ≤ i))) opGe := bopB0
theorem list_add_any (l : Addr) (items : Array Value) (o o2 : Obj) (n : Nat) (b : Addr) (items2 : Array Value) (n2 : Nat) (c1 : o.cls = .type "list") (d1 : o.dict = none) (e1 : o.data = .seq items n) (c2 : o2.cls = .type "list") (d2 : o2.dict = none) (e2 : o2.data = .seq items2 n2) (hc0 : items.size + items2.size ≤ sizeLine) :
    Meets (Builtin.«list.__add__» { pos := [Value.ref l, Value.ref b] }) fun x R s =>
      s.heap.get? l = some o ∧ s.heap.get? b = some o2 ∧
          R (Except.ok (Flow.ret (Value.ref s.heap.objs.size)))
            { heap := s.heap.push { cls := Value.type "list", data := Data.seq (items ++ items2) }, gens := s.gens, drawn := s.drawn, toks := s.toks, os := s.os } := by
  cases o with
  | mk cls dict data slots =>
  cases o2 with
  | mk cls2 dict2 data2 slots2 =>
  cases c1; cases d1; cases e1; cases c2; cases d2; cases e2
  refine Meets.of_wp fun prog w A R s h => ?_
  obtain ⟨hp, g, d, tk, os⟩ := s
  obtain ⟨hl, hb, h⟩ := h
  have f3 := AutoSeq1.sub_list_list
  wp_walk using AutoSeq1.wpAny_loadPart' hl, AutoSeq1.wpAny_loadPart' hb
  exact ⟨_, rfl, h⟩
theorem add_list_any {prog : Program} {w : World} {A : Around} {E : Value → Shared → Prop} {s : Shared} {l b : Addr} {items items2 : Array Value} {Q : Value → Shared → Prop} (p1 : PlainL s.heap l items) (p2 : PlainL s.heap b items2)
    (h : Q (Value.ref s.heap.objs.size) { heap := s.heap.push { cls := Value.type "list", data := Data.seq (items ++ items2) }, gens := s.gens, drawn := s.drawn, toks := s.toks, os := s.os }) (hsz : items.size + items2.size ≤ sizeLine) :
    wpAny (model prog w) A (binaryOp Operator.Add (Value.ref l) (Value.ref b)) Q E s := by
  obtain ⟨o, n, hl, c1, d1, e1⟩ := p1
  obtain ⟨o2, n2, hb, c2, d2, e2⟩ := p2
  exact concat_meets (Exists.intro o ⟨hl, c1⟩) (Exists.intro o2 ⟨hb, c2⟩) noFill_list_add seq_list_add F.slot_list_add F.entry_list_add (F.args_list_add_2 (Value.ref l) (Value.ref b)) (list_add_any l items o o2 n b items2 n2 c1 d1 e1 c2 d2 e2 hsz) ⟨hl, hb, h⟩
def rCatS (K : PySem.W.Frag) : R2 := fun x y H Q => ∃ a b xs ys, x = .ref a ∧ y = .ref b ∧ SqL K H a xs ∧ SqL K H b ys ∧ xs.length + ys.length ≤ sizeLine ∧ ∀ p, H p = none → Q (.ref p) (L2.upd H p (.lst (xs ++ ys)))
theorem op_catS : OpR X (binaryOp .Add) (rCatS X.K) := by
  intro pins s σ H x y v u Q I rx ry h
  obtain ⟨a, b, xs, ys, rfl, rfl, h1, h2, hz, q⟩ := h
  cases rx
  cases ry
  obtain ⟨i1, r1, p1, z1⟩ := Inv.list I h1
  obtain ⟨i2, r2, p2, z2⟩ := Inv.list I h2
  have l1 := r1.length
  have l2 := r2.length
  refine add_list_any p1 p2 ?_ (by simp; omega)
  rw [List.append_toArray]
  exact ⟨.ref s.heap.objs.size, _, Inv.lnew I (Vals.append r1 r2) (by rw [List.length_append]; exact hz), rfl, q _ (Inv.fresh I)⟩
def rAddA (K : PySem.W.Frag) : R2 := fun x y H Q => (rI0 (fun i j => V.int (i + j))) x y H Q ∨ rCatA K x y H Q ∨ (∃ i j, x = V.str i ∧ y = V.str j ∧ i.length + j.length ≤ sizeLine ∧ Q (.str (i ++ j)) H) ∨ rCatS K x y H Q
theorem op_addA : OpR X (binaryOp .Add) (rAddA X.K) := op_add.or (op_catA.or (op_add_str.or op_catS))
theorem bop_add : Bop K mg (rAddA K) opAdd := by
  intro G H x y d v1 v2 Q s e r1 r2 k
  unfold opAdd at e
  split at e
  · cases e
    exact .inl ⟨_, _, rep_int.mp r1, rep_int.mp r2, k _ G H (Grow.refl s) (rep_int.mpr rfl)⟩
  · rename_i a b
    split at e
    · rename_i hl
      cases e
      have q1 := r1
      have q2 := r2
      rw [rep_tup] at r1 r2
      obtain ⟨p1, vs1, e1, s1, h1⟩ := r1
      obtain ⟨p2, vs2, e2, s2, h2⟩ := r2
      refine .inr (.inl ⟨p1, p2, vs1, vs2, e1, e2, Same.sqT s s1, Same.sqT s s2, by rw [h1.length, h2.length, lim_eq]; exact hl, fun z => ?_, fun z1 z2 => ?_, fun z1 z2 p hp => ?_⟩)
      · have : a = [] := by have := h1.length; rw [z] at this; cases a with
          | nil => rfl
          | cons _ _ => simp at this
        subst this
        exact k _ G H (Grow.refl s) (by rw [← e2]; exact q2)
      · have : b = [] := by have := h2.length; rw [z2] at this; cases b with
          | nil => rfl
          | cons _ _ => simp at this
        subst this
        exact k _ G H (Grow.refl s) (by rw [← e1, List.append_nil]; exact q1)
      · exact k _ _ _ (Grow.put s hp) (rep_newT (H := H) (s.free hp) (h1.append h2))
    · cases e
  · split at e
    · rename_i hl
      cases e
      exact .inr (.inr (.inl ⟨_, _, rep_str.mp r1, rep_str.mp r2, by rw [lim_eq]; exact hl, k _ G H (Grow.refl s) (rep_str.mpr rfl)⟩))
    · cases e
  · split at e
    · rename_i hl
      cases e
      rw [rep_lst] at r1 r2
      obtain ⟨p1, vs1, e1, s1, h1⟩ := r1
      obtain ⟨p2, vs2, e2, s2, h2⟩ := r2
      refine .inr (.inr (.inr ⟨p1, p2, vs1, vs2, e1, e2, s.seq s1, s.seq s2, by rw [h1.length, h2.length, lim_eq]; exact hl, fun p hp => ?_⟩))
      exact k _ _ _ (Grow.put s hp) (rep_newL (H := H) (s.free hp) (h1.append h2))
    · cases e
  · cases e
theorem isNon_rep : ∀ {d : D} {v : V}, Rep K mg G d v → decide (v = .non) = isNon d
  | .non, v, r => by rw [rep_non] at r; subst r; rfl
  | .bl _, v, r => by rw [rep_bl] at r; subst r; rfl
  | .int _, v, r => by rw [rep_int] at r; subst r; rfl
  | .str _, v, r => by rw [rep_str] at r; subst r; rfl
  | .tup _, v, r => by rw [rep_tup] at r; obtain ⟨_, _, rfl, _⟩ := r; rfl
  | .lst _, v, r => by rw [rep_lst] at r; obtain ⟨_, _, rfl, _⟩ := r; rfl
  | .obj _ _, v, r => by rw [rep_obj] at r; obtain ⟨_, _, _, _, rfl, _⟩ := r; rfl
  | .dcK _, v, r => by rw [rep_dcK] at r; obtain ⟨_, _, rfl, _⟩ := r; rfl
  | .dcN _, v, r => by rw [rep_dcN] at r; obtain ⟨_, _, _, rfl, _⟩ := r; rfl
theorem isNon_eq {d : D} (h : isNon d = true) : d = .non := by cases d <;> first | rfl | cases h
theorem bop_isN : Bop K mg (fun x y H Q => y = .non ∧ Q (.bl (decide (x = .non))) H) opIsN := by
  intro G H x y d v1 v2 Q s e r1 r2 k
  unfold opIsN at e
  split at e
  · rename_i h
    cases e
    have := isNon_eq h
    subst this
    exact ⟨rep_non.mp r2, k _ G H (Grow.refl s) (rep_bl.mpr (by rw [isNon_rep r1]))⟩
  · cases e
theorem bop_notN : Bop K mg (fun x y H Q => y = .non ∧ Q (.bl (!decide (x = .non))) H) opNotN := by
  intro G H x y d v1 v2 Q s e r1 r2 k
  unfold opNotN at e
  split at e
  · rename_i h
    cases e
    have := isNon_eq h
    subst this
    exact ⟨rep_non.mp r2, k _ G H (Grow.refl s) (rep_bl.mpr (by rw [isNon_rep r1]))⟩
  · cases e
theorem atI_reps {ds : List D} {vs : List V} {i : Int} {d : D} (r : Reps K mg G ds vs) (h : atI ds i = some d) : ∃ v, atI vs i = some v ∧ Rep K mg G d v := by
  unfold atI at h ⊢
  rw [r.length]
  cases q : ixN ds.length i with
  | none => rw [q] at h; cases h
  | some j =>
    rw [q] at h
    obtain ⟨v, h1, h2⟩ := r.get (i := j) h
    exact ⟨v, h1, h2⟩
theorem bop_ix : Bop K mg (fun x y H Q => rIxL K x y H Q ∨ rIxT K x y H Q) opIx := by
  intro G H x y d v1 v2 Q s e r1 r2 k
  unfold opIx at e
  split at e
  · rename_i ds i
    rw [rep_tup] at r1
    obtain ⟨a, vs, rfl, h1, h2⟩ := r1
    obtain ⟨v, h3, h4⟩ := atI_reps h2 e
    exact .inr ⟨a, vs, i, v, rfl, rep_int.mp r2, Same.sqT s h1, h3, k v G H (Grow.refl s) h4⟩
  · rename_i ds i
    rw [rep_lst] at r1
    obtain ⟨a, vs, rfl, h1, h2⟩ := r1
    obtain ⟨v, h3, h4⟩ := atI_reps h2 e
    exact .inl ⟨a, vs, i, v, rfl, rep_int.mp r2, s.seq h1, h3, k v G H (Grow.refl s) h4⟩
  · cases e
theorem ix_both : IxR X (fun x y H Q => rIxL X.K x y H Q ∨ rIxT X.K x y H Q) := ix_list.or ix_tup
theorem toV_rep : ∀ {d : D} {v u : V}, toV d = some u → Rep K mg G d v → v = u ∧ flatV u = true
  | .non, v, u, e, r => by cases e; exact ⟨rep_non.mp r, rfl⟩
  | .bl _, v, u, e, r => by cases e; exact ⟨rep_bl.mp r, rfl⟩
  | .int _, v, u, e, r => by cases e; exact ⟨rep_int.mp r, rfl⟩
  | .str _, v, u, e, r => by cases e; exact ⟨rep_str.mp r, rfl⟩
  | .tup _, v, u, e, r => by cases e
  | .lst _, v, u, e, r => by cases e
  | .obj _ _, v, u, e, r => by cases e
  | .dcK _, v, u, e, r => by cases e
  | .dcN _, v, u, e, r => by cases e
theorem toVs_rep : ∀ {ds : List D} {vs us : List V}, toVs ds = some us → Reps K mg G ds vs → vs = us ∧ us.all flatV = true
  | [], vs, us, e, r => by cases e; exact ⟨reps_nil.mp r, rfl⟩
  | d :: ds, vs, us, e, r => by
    unfold toVs at e
    cases q : toV d with
    | none => rw [q] at e; cases e
    | some u =>
      rw [q] at e
      cases q2 : toVs ds with
      | none => rw [q2] at e; cases e
      | some us' =>
        rw [q2] at e; cases e
        rw [reps_cons] at r
        obtain ⟨v, rr, rfl, h1, h2⟩ := r
        obtain ⟨e1, f1⟩ := toV_rep q h1
        obtain ⟨e2, f2⟩ := toVs_rep q2 h2
        exact ⟨by rw [e1, e2], by rw [List.all_cons, f1, f2]; rfl⟩
theorem inL_post {neg : Bool} {x : D} {ys : List D} {d : D} {v1 : V} {a : Addr} {vs : List V} {Q : VK} (s : Same G H) (e : opInL neg x ys = some d) (r1 : Rep K mg G x v1) (q : SqL K H a vs ∨ SqT K H a vs) (r2 : Reps K mg G ys vs)
    (k : ∀ v G' H', Grow G H G' H' → Rep K mg G' d v → Q v H') : rIn K neg v1 (.ref a) H Q := by
  unfold opInL at e
  split at e
  · rename_i u us hu hus
    cases e
    obtain ⟨e1, f1⟩ := toV_rep hu r1
    obtain ⟨e2, f2⟩ := toVs_rep hus r2
    subst e1 e2
    exact ⟨a, vs, rfl, q, f1, f2, k _ G H (Grow.refl s) (rep_bl.mpr rfl)⟩
  · cases e
theorem bop_in {neg : Bool} : Bop K mg (rIn K neg) (opIn neg) := by
  intro G H x y d v1 v2 Q s e r1 r2 k
  unfold opIn at e
  split at e
  · rw [rep_tup] at r2
    obtain ⟨a, vs, rfl, h1, h2⟩ := r2
    exact inL_post s e r1 (.inr (Same.sqT s h1)) h2 k
  · rw [rep_lst] at r2
    obtain ⟨a, vs, rfl, h1, h2⟩ := r2
    exact inL_post s e r1 (.inl (s.seq h1)) h2 k
  · cases e
end
section
variable {X : Cx} {W : WX} {a b c : Expr} {pos : Pos} {f g h : FE D} {k : Nat}
abbrev eAdd (f g : FE D) := eBin opAdd f g
abbrev eSub (f g : FE D) := eBin opSub f g
abbrev eMod (f g : FE D) := eBin opMod f g
abbrev eDiv (f g : FE D) := eBin opDiv f g
abbrev ePow (f g : FE D) := eBin opPow f g
abbrev eIx (f g : FE D) := eBin opIx f g
theorem de_add (ja : De X W a f) (jb : De X W b g) : De X W (.BinOp a .Add b pos) (eAdd f g) := de_bin op_addA bop_add ja jb
theorem de_sub (ja : De X W a f) (jb : De X W b g) : De X W (.BinOp a .Sub b pos) (eSub f g) := de_bin op_sub bop_sub ja jb
theorem de_mod (ja : De X W a f) (jb : De X W b g) : De X W (.BinOp a .Mod b pos) (eMod f g) := de_bin op_mod bop_mod ja jb
theorem de_div (ja : De X W a f) (jb : De X W b g) : De X W (.BinOp a .FloorDiv b pos) (eDiv f g) := de_bin op_fdiv bop_div ja jb
theorem de_pow (ja : De X W a f) (jb : De X W b g) : De X W (.BinOp a .Pow b pos) (ePow f g) := de_bin op_pow bop_pow ja jb
theorem de_sub1 (ja : De X W a f) (jb : De X W b g) (hs : PlainIx b := by exact fun _ _ => rfl) : De X W (.Subscript a b pos) (eIx f g) := de_ix ix_both bop_ix ja jb hs
structure Cmp (X : Cx) (o : CmpOp) (op : D → D → Option D) : Prop where
  ex : ∃ r, OpR X (compareOp o) r ∧ Bop X.K X.mg r op
theorem cmp_lt : Cmp X .Lt opLt := ⟨_, op_lt, bop_lt⟩
theorem cmp_le : Cmp X .LtE opLe := ⟨_, op_le, bop_le⟩
theorem cmp_gt : Cmp X .Gt opGt := ⟨_, op_gt, bop_gt⟩
theorem cmp_ge : Cmp X .GtE opGe := ⟨_, op_ge, bop_ge⟩
theorem cmp_eq (hr : Room k X.A) : Cmp X .Eq opEq := ⟨_, op_eqD hr.units, bop_eq⟩
theorem cmp_ne (hr : Room k X.A) : Cmp X .NotEq opNe := ⟨_, op_neD hr.units, bop_ne⟩
theorem cmp_isN : Cmp X .Is opIsN := ⟨_, op_isN, bop_isN⟩
theorem cmp_notN : Cmp X .IsNot opNotN := ⟨_, op_notN, bop_notN⟩
theorem cmp_notIn : Cmp X .NotIn (opIn true) := ⟨_, op_notIn_seq, bop_in⟩
theorem de_c {o : CmpOp} {op : D → D → Option D} (hc : Cmp X o op) (ja : De X W a f) (jb : De X W b g) (hm : behindInMarks o b = false := by first | exact nomark _ | rfl) : De X W (.Compare a [o] [b] pos) (eBin op f g) :=
  let ⟨_, h1, h2⟩ := hc.ex; de_cmp h1 h2 ja jb hm
theorem dt_c {o : CmpOp} {op : D → D → Option D} (hc : Cmp X o op) (ja : De X W a f) (jb : De X W b g) (hm : behindInMarks o b = false := by first | exact nomark _ | rfl) : Dt X W (.Compare a [o] [b] pos) (eTest (eBin op f g)) :=
  let ⟨_, h1, h2⟩ := hc.ex; dt_cmp h1 h2 ja jb hm
end
end Dl
namespace Dl
open PySem PySem.Spec PyProof.Rows
open Sem (wp)
open AutoSeq1 (wpAny_loadPart')
theorem meets_enumerate_newT (l : Addr) (items : Array Value) (n : Nat) (dct : Option Addr) (sl : Array (Option Value)) :
    Meets (Builtin.«enumerate.__new__» ⟨[.type "enumerate", .ref l], []⟩) (fun _ R s => s.heap.get? l = some { cls := .type "tuple", dict := dct, data := .seq items n, slots := sl } ∧
      R (.ok (.ret (.ref (s.heap.push { cls := .type "tuple_iterator", data := .fields #[.ref l, .int 0 0] }).objs.size)))
        { s with heap := (s.heap.push { cls := .type "tuple_iterator", data := .fields #[.ref l, .int 0 0] }).push { cls := .type "enumerate", data := .fields #[.none, .bool false, .ref s.heap.objs.size, rawInt 0, .none, .none] } }) :=
  .of_wp fun prog w A R s h => by
    obtain ⟨hp, g, d, tk, os⟩ := s; obtain ⟨hl, h⟩ := h
    have hsub := sub_enumerate
    have hL : Heap.IsTuple (Shared.heap ⟨hp, g, d, tk, os⟩) l items := ⟨_, hl, rfl, n, rfl⟩
    wp_walk using wpAny_loadPart' hl
    refine wpAny_stack_any fun st => wpAny_pure ?_
    split
    · rename_i c _ _ _ _ _
      cases (c == Value.type "enumerate")
      · wp_walk using wpAny_loadPart' hl, wpAny_pyIter_tuple hL
        exact ⟨_, rfl, h⟩
      · wp_walk using wpAny_loadPart' hl, wpAny_pyIter_tuple hL
        exact ⟨_, rfl, h⟩
    · wp_walk using wpAny_loadPart' hl, wpAny_pyIter_tuple hL
      exact ⟨_, rfl, h⟩
section
variable {prog : Program} {w : World} {A : Around} {E : Value → Shared → Prop} {s : Shared}
theorem call_enumerate_tuple {l : Addr} {items : Array Value} {Q : Value → Shared → Prop} (hL : s.heap.IsTuple l items)
    (h : ∀ h', IsEnum h' (s.heap.objs.size + 1) s.heap.objs.size 0 .none → h'.IsTupleIter s.heap.objs.size l 0 → h'.objs.size = s.heap.objs.size + 2 →
      (∀ b o, s.heap.get? b = some o → h'.get? b = some o) → Q (.ref (s.heap.objs.size + 1)) { s with heap := h' }) :
    wpAny (model prog w) A (call (.type "enumerate") [.ref l]) Q E s := by
  obtain ⟨⟨c, dct, dt, sl⟩, hl, hc, n, hd⟩ := hL
  replace hc : c = .type "tuple" := hc
  replace hd : dt = .seq items n := hd
  subst hc hd
  refine callType_new F.called_enumerate (by decide) (F.typeCall_enumerate_1 _) (F.newCall_enumerate_1 _) (fun obj => F.args_object_init_2 obj _) F.entry_enumerate_new
    (meets_enumerate_newT l items n dct sl) ⟨hl, ?_⟩
  have hz : (s.heap.push { cls := .type "tuple_iterator", data := .fields #[.ref l, .int 0 0] }).objs.size = s.heap.objs.size + 1 := Heap.size_push ..
  show _ ∧ _
  rw [hz]
  have he : IsEnum ((s.heap.push { cls := .type "tuple_iterator", data := .fields #[.ref l, .int 0 0] }).push
      { cls := .type "enumerate", data := .fields #[.none, .bool false, .ref s.heap.objs.size, rawInt 0, .none, .none] }) (s.heap.objs.size + 1) s.heap.objs.size 0 .none := by
    have := Heap.get?_push_size (s.heap.push { cls := .type "tuple_iterator", data := .fields #[.ref l, .int 0 0] })
      (o := { cls := .type "enumerate", data := .fields #[.none, .bool false, .ref s.heap.objs.size, rawInt 0, .none, .none] }) rfl
    rw [hz] at this; exact this
  refine ⟨⟨_, he, rfl⟩, h _ he ⟨_, Heap.get?_push_of_some _ (Heap.get?_push_size _ rfl), rfl, rfl⟩ (by rw [Heap.size_push, hz]) fun b o x => Heap.get?_push_of_some _ (Heap.get?_push_of_some _ x)⟩
theorem pyNext_enumT_end {e it l : Addr} {i : Nat} {items : Array Value} {old : Value} {Q : Option Value → Shared → Prop} (hh : A.handled = none)
    (he : IsEnum s.heap e it i old) (hit : s.heap.IsTupleIter it l i) (hl : s.heap.IsTuple l items) (hx : items[i]? = none)
    (hQ : ∀ h', Heap.ExtBut it s.heap h' → Q none { s with heap := h' }) : wpAny (model prog w) A (pyNext (.ref e)) Q E s := by
  have hT : s.TypeIs (.ref e) "enumerate" := ⟨_, he, rfl⟩
  unfold pyNext
  refine wpAny_bind (wpAny_attempt (wpAny_callSpecial?_slot (name := Str.ofString "__next__") hT F.slot_enumerate_next
    (wpAny_call_entry F.slot_enumerate_next hT F.entry_enumerate_next ?_ (F.args_enumerate_next_1 _))))
  show wpAny _ _ (field (.ref e) 2 >>= _) _ _ _
  refine wpAny_bind (wpAny_field he rfl (x := .ref it) rfl ?_)
  refine wpAny_bind (wpAny_nextOf_tuple_end hh hit hl hx fun h' x he' hx' => ?_)
  obtain ⟨o, ho, hc⟩ := hx'
  refine wpAny_bind (wpAny_isInstance (T := "StopIteration") (b := true) ⟨o, ho, hc⟩ isSubtype_stop ?_)
  exact wpAny_pure (hQ _ he')
end
open L2
def IteT (K : PySem.W.Frag) (a : Addr) : It :=
  ⟨fun i H => ∃ (xs : List V) (x : V), SqT K H a xs ∧ xs[i]? = some x, fun i H v H' => ∃ T x, v = .ref T ∧ H T = none ∧ H' = L2.upd H T (.tup [.int (i : Nat), x]) ∧ ∀ xs, SqT K H a xs → xs[i]? = some x, fun i H => ∃ xs : List V, SqT K H a xs ∧ xs.length ≤ i⟩
theorem turn_enumT {P : Program} {w : World} {K : PySem.W.Frag} {elts : List Expr} {kk : Nat} {tpos : Pos} (a e it : Addr) (hai : a ≠ it) (hae : a ≠ e) :
    Turn P w K (.Tuple elts kk tpos) (IteT K a) [e, it] e (fun i h => (∃ old, IsEnum h e it ((i : Nat) : Int) old) ∧ h.IsTupleIter it a i ∧ e ≠ it) where
  mem := by simp
  obj := fun i h st b hb => by
    obtain ⟨⟨old, he⟩, ⟨o, ho, hc, hd⟩, _⟩ := st
    have e' : b = e ∨ b = it := by simpa using hb
    rcases e' with z | z
    · rw [z]; exact ⟨_, he, fun v q => nomatch q⟩
    · rw [z]; exact ⟨o, ho, fun v q => by rw [hd] at q; cases q⟩
  keep := fun i h h' st k => let ⟨⟨old, he⟩, hi, hne⟩ := st; ⟨⟨old, k e (by simp) _ he⟩, hi.at fun o q => k it (by simp) o q, hne⟩
  item := by
    intro X hP hw hK hc i pins s σ H E I hf st hg
    subst hP hw hK
    obtain ⟨⟨old, he⟩, hit, hne⟩ := st
    obtain ⟨xs, x, hq, hx⟩ := hg
    obtain ⟨its, rv, p, hz⟩ := I.tuple hq
    obtain ⟨u, hu, ru⟩ := rv.get hx
    have hel : e < s.heap.objs.size := Heap.lt_size he
    have hil : it < s.heap.objs.size := by obtain ⟨_, q, _⟩ := hit; exact Heap.lt_size q
    have DD := Draws.tuple (prog := X.prog) (w := X.w) (A := X.A.in1) (I.ok.hd hc) it a hai its.toArray
    have hi : i < its.toArray.size := by
      have := (List.getElem?_eq_some_iff.mp hu).1
      simpa using this
    refine wpAny_pyNext_enum_itemD DD he ⟨hit, p⟩ hi hne (by simp [hne, hae.symm]) fun x' h' tk hP ho hst' hT hsz hk => ?_
    have hxu : x' = u := by
      have h1 : its.toArray[i]? = some x' := hP
      have h2 : its.toArray[i]? = some u := by simpa using hu
      rw [h1] at h2; exact Option.some.inj h2
    subst hxu
    obtain ⟨hit', _⟩ := hst'
    refine ⟨_, rfl, wpAny_letOwnedTupleGo_enum (s := { s with heap := h', toks := tk + 1 }) ho fun h'' he' sb => ?_⟩
    have hT2 : h''.get? s.heap.objs.size = some { cls := .type "tuple", data := .seq #[.int i tk, x'] } := (sb.2 _ (Nat.ne_of_gt hel)).trans hT
    have new : ObjOk X.prog X.w (L2.upd H s.heap.objs.size (.tup [.int (i : Nat), x])) h'' s.heap.objs.size (.tup [.int (i : Nat), x]) :=
      ⟨by show 2 ≤ sizeLine; decide, [.int i tk, x'], .cons ⟨_, rfl⟩ (.cons ru .nil), ⟨_, hT2, rfl, _, rfl⟩⟩
    have I1 : Inv X pins σ (L2.upd H s.heap.objs.size (.tup [.int (i : Nat), x])) { s with heap := h'', toks := tk + 1 } :=
      I.turnedNew (ch := [e, it]) (fun b ob hb q => (sb.2 b (fun z => hb (by simp [z]))).trans (hk b ob (fun z => hb (by simp [z])) (fun z => hb (by simp [z])) q)) hf (Nat.le_refl _) new
    refine ⟨.ref s.heap.objs.size, _, I1, rfl, ⟨_, x, rfl, I.hok.fresh (Nat.le_refl _), rfl, fun ys hy => by rw [I.tuple_inj hy hq]; exact hx⟩, ⟨⟨x', ?_⟩, hit'.at fun o q => (sb.2 it (Ne.symm hne)).trans q, hne⟩, fun b hb => ?_⟩
    · have e1 : ((i + 1 : Nat) : Int) = (i : Int) + 1 := by omega
      rw [e1]; exact he'
    · have hb' : b < s.heap.objs.size := by
        have e' : b = e ∨ b = it := by simpa using hb
        rcases e' with z | z
        · rw [z]; exact hel
        · rw [z]; exact hil
      rw [upd_ne (Nat.ne_of_lt hb')]
      exact (hf b hb).1
  done := by
    intro X hP hw hK hc i pins s σ H E I hf st hg
    subst hP hw hK
    obtain ⟨⟨old, he⟩, hit, hne⟩ := st
    obtain ⟨xs, hq, hx⟩ := hg
    obtain ⟨its, rv, p, hz⟩ := I.tuple hq
    obtain ⟨f0, f1, f2, f3, f4, f5⟩ := hf it (by simp)
    have hl := rv.length
    exact pyNext_enumT_end (I.ok.hd hc) he hit (show s.heap.IsTuple a its.toArray from p) (by simp; omega) fun h' eb => ⟨rfl, I.turned (t' := s.toks) (fun b o hb q => eb b o hb q) f0 f1 f3 f4 f5⟩
  self := fun A i s Q E st h => let ⟨⟨_, he⟩, _⟩ := st; wpAny_pyIter_enum he h
def iEnumA (K : PySem.W.Frag) (ta : TA) : TI := fun σ H R => ta σ H fun vs H1 => ∃ a xs, vs = [.ref a] ∧ ((SqL K H1 a xs ∧ R (Ite K a) H1) ∨ (SqT K H1 a xs ∧ R (IteT K a) H1))
theorem pi_enumA {X : Cx} {e : Expr} {ta : TA} {p pos tpos : Pos} {elts : List Expr} {kk : Nat} (hg : Gl X "enumerate") (hm : X.mg "enumerate" = none) (ha : PA X [e] ta) (hs : starEach [e] X.env = [(false, eval e X.env)] := by rfl) :
    PI X (.Tuple elts kk tpos) (.Call (.Name "enumerate" p) [e] [] pos) (iEnumA X.K ta) := by
  refine ⟨fun pins s σ H R I h => ?_⟩
  refine Call_ (ld_blt I hg hm boot_enumerate (PyProof.Rows.callWith_type1 (thn (ha.run pos pins s σ H _ I h) fun us s1 ⟨vs, H1, I1, r1, q1⟩ => ?_) hs rfl))
  obtain ⟨a, xs, ex, q⟩ := q1
  subst ex
  cases r1 with
  | cons r rr =>
    cases rr
    cases r
    have fr2 : ∀ b, b ∈ [s1.heap.objs.size + 1, s1.heap.objs.size] → FpOk X pins H1 b := fun b hb => by
      have e' : b = s1.heap.objs.size + 1 ∨ b = s1.heap.objs.size := by simpa using hb
      have hle : s1.heap.objs.size ≤ b := by
        rcases e' with z | z
        · rw [z]; exact Nat.le_add_right _ _
        · rw [z]; exact Nat.le_refl _
      exact I1.fpOk hle (I1.hok.fresh hle)
    rcases q with ⟨hq, q⟩ | ⟨hq, q⟩
    · obtain ⟨its, rv, p', hz⟩ := I1.list hq
      refine call_enumerate_list p'.isList fun h' he hit hsz hk => wpAny_pyIter_enum he ?_
      have I2 : Inv X pins σ H1 { s1 with heap := h' } := I1.kept (t' := s1.toks) hk
      exact ⟨s1.heap.objs.size + 1, [s1.heap.objs.size + 1, s1.heap.objs.size], _, _, H1, rfl, I2, turn_enum a (s1.heap.objs.size + 1) s1.heap.objs.size, ⟨⟨.none, he⟩, hit, Nat.succ_ne_self _⟩, fr2, q⟩
    · obtain ⟨its, rv, p', hz⟩ := I1.tuple hq
      obtain ⟨o1, ho1, _⟩ := id p'
      have hlt := Heap.lt_size ho1
      refine call_enumerate_tuple (show s1.heap.IsTuple a its.toArray from p') fun h' he hit hsz hk => wpAny_pyIter_enum he ?_
      have I2 : Inv X pins σ H1 { s1 with heap := h' } := I1.kept (t' := s1.toks) hk
      exact ⟨s1.heap.objs.size + 1, [s1.heap.objs.size + 1, s1.heap.objs.size], _, _, H1, rfl, I2, turn_enumT a (s1.heap.objs.size + 1) s1.heap.objs.size (Nat.ne_of_lt hlt) (Nat.ne_of_lt (Nat.lt_succ_of_lt hlt)), ⟨⟨.none, he⟩, hit, Nat.succ_ne_self _⟩, fr2, q⟩
end Dl
namespace Dl
open PySem L2
abbrev FG := D → Rho → Option Rho
def Dg (X : Cx) (tg : Expr) (is : List Nat) (f : FG) : Prop :=
  ∃ g, PG X tg g ∧ ∀ G α ρ σ H d v (Q : St → Hp → Prop), Same G H → Slots X.K X.mg G α ρ σ → Rep X.K X.mg G d v →
    (match f d ρ with
      | none => False
      | some ρ' => ∀ σ', Slots X.K X.mg G α ρ' σ' → (∀ j, j ∉ is → σ'[j]? = σ[j]?) → σ'.length = σ.length → Q σ' H) → g v σ H Q
def Dgs (X : Cx) (tgs : List Expr) (is : List Nat) (f : List D → Rho → Option Rho) : Prop :=
  ∃ g, PGs X tgs g ∧ ∀ G α ρ σ H ds vs (Q : St → Hp → Prop), Same G H → Slots X.K X.mg G α ρ σ → Reps X.K X.mg G ds vs →
    (match f ds ρ with
      | none => False
      | some ρ' => ∀ σ', Slots X.K X.mg G α ρ' σ' → (∀ j, j ∉ is → σ'[j]? = σ[j]?) → σ'.length = σ.length → Q σ' H) → g vs σ H Q
def gN (i : Nat) : FG := fun d ρ => some (ρ.set i (some (.val d)))
def gsNil : List D → Rho → Option Rho := fun ds ρ => match ds with
  | [] => some ρ
  | _ => none
def gsCons (f : FG) (g : List D → Rho → Option Rho) : List D → Rho → Option Rho := fun ds ρ => match ds with
  | [] => none
  | d :: r => (f d ρ).bind fun ρ1 => g r ρ1
def gT (n : Nat) (g : List D → Rho → Option Rho) : FG := fun d ρ => match d with
  | .tup ds => if ds.length = n then g ds ρ else none
  | .lst ds => if ds.length = n then g ds ρ else none
  | _ => none
section
variable {X : Cx} {pos : Pos}
theorem sqL_same {K : PySem.W.Frag} {H H' : Hp} {a : Addr} {xs : List V} (e : Same H H') (h : SqL K H a xs) : SqL K H' a xs := by
  rcases h with (h | ⟨o, h⟩) | h
  · exact .inl (.inl (e _ _ h))
  · exact .inl (.inr ⟨o, e _ _ h⟩)
  · exact .inr h
theorem pg_or {e : Expr} {t1 t2 : TG} (h1 : PG X e t1) (h2 : PG X e t2) : PG X e (fun v σ H Q => t1 v σ H Q ∨ t2 v σ H Q) := ⟨fun pins s σ H v u Q I r hw => hw.elim (h1.run pins s σ H v u Q I r) (h2.run pins s σ H v u Q I r)⟩
theorem dg_name {i : Nat} {x : Str} (hN : X.N.Nodup) (hi : X.N[i]? = some x := by rfl) (hx : Loc X.env.scope x := by first | exact Or.inl rfl | exact Or.inr rfl) (hf : X.fn x = true ∨ X.env.scope.names.lookup x = some .local := by first | exact .inl rfl | exact .inr rfl) : Dg X (.Name x pos) [i] (gN i) := by
  refine ⟨_, pg_name hN hi hx hf, fun G α ρ σ H d v Q s S r h => ?_⟩
  exact h _ (S.set i (x := .val d) r) (fun j hj => List.getElem?_set_ne (by intro e; subst e; exact hj (List.mem_singleton.mpr rfl))) (by simp)
theorem dgs_nil : Dgs X [] [] gsNil := by
  refine ⟨_, pgs_nil, fun G α ρ σ H ds vs Q s S r h => ?_⟩
  cases ds with
  | nil => exact ⟨reps_nil.mp r, h σ S (fun _ _ => rfl) rfl⟩
  | cons _ _ => exact h.elim
theorem dgs_cons {e : Expr} {es : List Expr} {is js : List Nat} {f : FG} {g : List D → Rho → Option Rho} (h1 : Dg X e is f) (h2 : Dgs X es js g)
    (hs : (assignEach (e :: es) X.env).map (·.2) = assign e X.env :: (assignEach es X.env).map (·.2) := by rfl) : Dgs X (e :: es) (is ++ js) (gsCons f g) := by
  obtain ⟨t1, p1, k1⟩ := h1
  obtain ⟨t2, p2, k2⟩ := h2
  refine ⟨_, pgs_cons p1 p2 hs, fun G α ρ σ H ds vs Q s S r h => ?_⟩
  cases ds with
  | nil => exact h.elim
  | cons d r' =>
    rw [reps_cons] at r
    obtain ⟨v, vr, rfl, q1, q2⟩ := r
    refine ⟨v, vr, rfl, k1 G α ρ σ H d v _ s S q1 ?_⟩
    unfold gsCons at h
    dsimp only at h
    cases e1 : f d ρ with
    | none => rw [e1] at h; exact h.elim
    | some ρ1 =>
      rw [e1] at h
      intro σ1 S1 c1 l1
      refine k2 G α ρ1 σ1 H r' vr _ s S1 q2 ?_
      have h' : (match g r' ρ1 with
        | none => False
        | some ρ' => ∀ σ', Slots X.K X.mg G α ρ' σ' → (∀ j, j ∉ is ++ js → σ'[j]? = σ[j]?) → σ'.length = σ.length → Q σ' H) := h
      cases e2 : g r' ρ1 with
      | none => rw [e2] at h'; exact h'.elim
      | some ρ2 =>
        rw [e2] at h'
        intro σ2 S2 c2 l2
        exact h' σ2 S2 (fun j hj => (c2 j fun z => hj (List.mem_append_right _ z)).trans (c1 j fun z => hj (List.mem_append_left _ z))) (l2.trans l1)
theorem dg_tup {es : List Expr} {k n : Nat} {is : List Nat} {g : List D → Rho → Option Rho} (hc : X.calm = true) (h : Dgs X es is g)
    (hn : (assignEach es X.env).length = n := by rfl) (hst : (assignEach es X.env).findIdx? (·.1) = none := by rfl) : Dg X (.Tuple es k pos) is (gT n g) := by
  obtain ⟨t, p, kk⟩ := h
  refine ⟨_, pg_or (pg_tup hc p hn hst) (pg_unl hc p hn hst), fun G α ρ σ H d v Q s S r h => ?_⟩
  unfold gT at h
  cases d with
  | tup ds =>
    dsimp only at h
    rw [rep_tup] at r
    obtain ⟨a, vs, rfl, q, rs⟩ := r
    split at h
    · exact h.elim
    · rename_i ρ' e1
      split at e1
      · rename_i hl
        refine .inl ⟨a, vs, rfl, Same.sqT s q, by rw [rs.length]; exact hl, kk G α ρ σ H ds vs Q s S rs ?_⟩
        rw [e1]
        exact h
      · cases e1
  | lst ds =>
    dsimp only at h
    rw [rep_lst] at r
    obtain ⟨a, vs, rfl, q, rs⟩ := r
    split at h
    · exact h.elim
    · rename_i ρ' e1
      split at e1
      · rename_i hl
        refine .inr ⟨a, vs, rfl, sqL_same s q, by rw [rs.length]; exact hl, kk G α ρ σ H ds vs Q s S rs ?_⟩
        rw [e1]
        exact h
      · cases e1
  | _ => exact h.elim
end
def WalkD (K : PySem.W.Frag) (mg : MG) (st : Hp → Hp → Prop) (J : It) (ds : List D) : Prop :=
  ∀ i G H, Same G H → st G H → (∀ d, ds[i]? = some d → J.go i H ∧ ∀ x H', J.yld i H x H' → ∃ G', Grow G H G' H' ∧ Rep K mg G' d x) ∧ (ds.length ≤ i → J.stop i H)
def RI (K : PySem.W.Frag) (mg : MG) : Hp → List Addr → Hp → List D → It → Prop := fun G _ _ ds J => WalkD K mg (fun G' _ => Same G G') J ds
def Di (X : Cx) (W : WX) (tg iter : Expr) (f : FE (List D)) : Prop :=
  ∃ wi, PI X tg iter wi ∧ ∀ G α ρ ω σ H (R : It → Hp → Prop), Own X.K X.mg G α ω H → Slots X.K X.mg G α ρ σ → Post X.K X.mg (RI X.K X.mg) G α H R (fun c d H' => W c d σ H') (f ρ ω) → wi σ H R
section
variable {K : PySem.W.Frag} {mg : MG}
theorem walk_l {a : Addr} {st : Hp → Hp → Prop} {ds : List D} (h : ∀ G H, Same G H → st G H → ∃ vs, SqL K H a vs ∧ Reps K mg G ds vs) : WalkD K mg st (Itl K a) ds := by
  intro i G H s q
  obtain ⟨vs, h1, h2⟩ := h G H s q
  refine ⟨fun d hd => ?_, fun hl => ⟨vs, h1, by rw [h2.length]; exact hl⟩⟩
  obtain ⟨v, h3, h4⟩ := h2.get hd
  refine ⟨⟨vs, v, h1, h3⟩, fun x H' y => ?_⟩
  obtain ⟨rfl, y⟩ := y
  have := y vs h1
  rw [h3] at this; cases this
  exact ⟨G, Grow.refl s, h4⟩
theorem walk_t {a : Addr} {st : Hp → Hp → Prop} {ds : List D} (h : ∀ G H, Same G H → st G H → ∃ vs, SqT K H a vs ∧ Reps K mg G ds vs) : WalkD K mg st (Itt K a) ds := by
  intro i G H s q
  obtain ⟨vs, h1, h2⟩ := h G H s q
  refine ⟨fun d hd => ?_, fun hl => ⟨vs, h1, by rw [h2.length]; exact hl⟩⟩
  obtain ⟨v, h3, h4⟩ := h2.get hd
  refine ⟨⟨vs, v, h1, h3⟩, fun x H' y => ?_⟩
  obtain ⟨rfl, y⟩ := y
  have := y vs h1
  rw [h3] at this; cases this
  exact ⟨G, Grow.refl s, h4⟩
def pairI (i : Nat) (d : D) : D := .tup [.int (i : Nat), d]
def enumD (ds : List D) : List D := ds.mapIdx pairI
theorem pair_new {G H : Hp} {T : Addr} {d e : D} {v u : V} (s : Same G H) (hT : H T = none) (r1 : Rep K mg G d v) (r2 : Rep K mg G e u) : ∃ G', Grow G H G' (L2.upd H T (.tup [v, u])) ∧ Rep K mg G' (.tup [d, e]) (.ref T) :=
  ⟨_, Grow.put s hT, rep_newT (H := H) (s.free hT) (reps_cons.mpr ⟨_, _, rfl, r1, Reps.one r2⟩)⟩
theorem walk_el {a : Addr} {st : Hp → Hp → Prop} {ds : List D} (h : ∀ G H, Same G H → st G H → ∃ vs, SqL K H a vs ∧ Reps K mg G ds vs) : WalkD K mg st (Ite K a) (enumD ds) := by
  intro i G H s q
  obtain ⟨vs, h1, h2⟩ := h G H s q
  refine ⟨fun d hd => ?_, fun hl => ⟨vs, h1, by rw [h2.length]; simpa [enumD] using hl⟩⟩
  unfold enumD at hd
  rw [List.getElem?_mapIdx] at hd
  cases q1 : ds[i]? with
  | none => rw [q1] at hd; cases hd
  | some d0 =>
    rw [q1] at hd; cases hd
    obtain ⟨v, h3, h4⟩ := h2.get q1
    refine ⟨⟨vs, v, h1, h3⟩, fun x H' y => ?_⟩
    obtain ⟨T, x0, rfl, hT, rfl, y⟩ := y
    have := y vs h1
    rw [h3] at this; cases this
    exact pair_new s hT (rep_int.mpr rfl) h4
theorem walk_et {a : Addr} {st : Hp → Hp → Prop} {ds : List D} (h : ∀ G H, Same G H → st G H → ∃ vs, SqT K H a vs ∧ Reps K mg G ds vs) : WalkD K mg st (IteT K a) (enumD ds) := by
  intro i G H s q
  obtain ⟨vs, h1, h2⟩ := h G H s q
  refine ⟨fun d hd => ?_, fun hl => ⟨vs, h1, by rw [h2.length]; simpa [enumD] using hl⟩⟩
  unfold enumD at hd
  rw [List.getElem?_mapIdx] at hd
  cases q1 : ds[i]? with
  | none => rw [q1] at hd; cases hd
  | some d0 =>
    rw [q1] at hd; cases hd
    obtain ⟨v, h3, h4⟩ := h2.get q1
    refine ⟨⟨vs, v, h1, h3⟩, fun x H' y => ?_⟩
    obtain ⟨T, x0, rfl, hT, rfl, y⟩ := y
    have := y vs h1
    rw [h3] at this; cases this
    exact pair_new s hT (rep_int.mpr rfl) h4
def pairD (d e : D) : D := .tup [d, e]
def zipD (ds es : List D) : List D := List.zipWith pairD ds es
theorem walk_zl {a b : Addr} {st : Hp → Hp → Prop} {ds es : List D} (h : ∀ G H, Same G H → st G H → ∃ vs us, SqL K H a vs ∧ Reps K mg G ds vs ∧ SqL K H b us ∧ Reps K mg G es us) : WalkD K mg st (Itz K a b) (zipD ds es) := by
  intro i G H s q
  obtain ⟨vs, us, h1, h2, h5, h6⟩ := h G H s q
  refine ⟨fun d hd => ?_, fun hl => ⟨vs, us, h1, h5, by rw [h2.length, h6.length]; unfold zipD at hl; rw [List.length_zipWith] at hl; omega⟩⟩
  unfold zipD at hd
  rw [List.getElem?_zipWith] at hd
  cases q1 : ds[i]? with
  | none => rw [q1] at hd; cases hd
  | some d0 =>
    cases q2 : es[i]? with
    | none => rw [q1, q2] at hd; cases hd
    | some e0 =>
      rw [q1, q2] at hd; cases hd
      obtain ⟨v, h3, h4⟩ := h2.get q1
      obtain ⟨u, h7, h8⟩ := h6.get q2
      refine ⟨⟨vs, us, v, u, h1, h5, h3, h7⟩, fun x H' y => ?_⟩
      obtain ⟨T, x0, y0, rfl, hT, rfl, y1, y2⟩ := y
      have z1 := y1 vs h1
      rw [h3] at z1; cases z1
      have z2 := y2 us h5
      rw [h7] at z2; cases z2
      exact pair_new s hT h4 h8
theorem walk_zt {a b : Addr} {st : Hp → Hp → Prop} {ds es : List D} (h : ∀ G H, Same G H → st G H → ∃ vs us, SqT K H a vs ∧ Reps K mg G ds vs ∧ SqT K H b us ∧ Reps K mg G es us) : WalkD K mg st (RZ.ItzT K a b) (zipD ds es) := by
  intro i G H s q
  obtain ⟨vs, us, h1, h2, h5, h6⟩ := h G H s q
  refine ⟨fun d hd => ?_, fun hl => ⟨vs, us, h1, h5, by rw [h2.length, h6.length]; unfold zipD at hl; rw [List.length_zipWith] at hl; omega⟩⟩
  unfold zipD at hd
  rw [List.getElem?_zipWith] at hd
  cases q1 : ds[i]? with
  | none => rw [q1] at hd; cases hd
  | some d0 =>
    cases q2 : es[i]? with
    | none => rw [q1, q2] at hd; cases hd
    | some e0 =>
      rw [q1, q2] at hd; cases hd
      obtain ⟨v, h3, h4⟩ := h2.get q1
      obtain ⟨u, h7, h8⟩ := h6.get q2
      refine ⟨⟨vs, us, v, u, h1, h5, h3, h7⟩, fun x H' y => ?_⟩
      obtain ⟨T, x0, y0, rfl, hT, rfl, y1, y2⟩ := y
      have z1 := y1 vs h1
      rw [h3] at z1; cases z1
      have z2 := y2 us h5
      rw [h7] at z2; cases z2
      exact pair_new s hT h4 h8
def rngD (lo hi : Int) : List D := (List.range (hi - lo).toNat).map fun i => .int (lo + (i : Nat))
theorem walk_r {lo : Int} {n : Nat} {st : Hp → Hp → Prop} : WalkD K mg st (Itr lo n) ((List.range n).map fun i => .int (lo + (i : Nat))) := by
  intro i G H s q
  refine ⟨fun d hd => ?_, fun hl => by show n ≤ i; simpa using hl⟩
  rw [List.getElem?_map] at hd
  by_cases hi : i < n
  · rw [List.getElem?_range hi] at hd
    cases hd
    refine ⟨hi, fun x H' y => ?_⟩
    obtain ⟨rfl, rfl⟩ := y
    exact ⟨G, Grow.refl s, rep_int.mpr rfl⟩
  · rw [List.getElem?_eq_none (by simpa using hi)] at hd
    cases hd
end
def itEn : D → Option (List D)
  | .lst ds => some (enumD ds)
  | .tup ds => some (enumD ds)
  | _ => none
def itZ : D → D → Option (List D)
  | .lst ds, .lst es => some (zipD ds es)
  | .tup ds, .tup es => some (zipD ds es)
  | _, _ => none
abbrev big : Int := 4611686018427387904
def itR1 : D → Option (List D)
  | .int j => if -big ≤ j ∧ j < big then some (rngD 0 j) else none
  | _ => none
def itR2 : D → D → Option (List D)
  | .int i, .int j => if -big ≤ i ∧ i < big ∧ -big ≤ j ∧ j < big then some (rngD i j) else none
  | _, _ => none
def eIt1 (o : D → Option (List D)) (f : FE D) : FE (List D) := fun ρ ω => (f ρ ω).bind fun d ω1 => Res.lift (o d) ω1
def eIt2 (o : D → D → Option (List D)) (f g : FE D) : FE (List D) := fun ρ ω => (f ρ ω).bind fun d ω1 => (g ρ ω1).bind fun e ω2 => Res.lift (o d e) ω2
def eIt3 (o : D → D → D → Option (List D)) (f g h : FE D) : FE (List D) := fun ρ ω => (f ρ ω).bind fun d ω1 => (g ρ ω1).bind fun e ω2 => (h ρ ω2).bind fun k ω3 => Res.lift (o d e k) ω3
section
variable {X : Cx} {W : WX} {tg a b c e : Expr} {p pos : Pos} {f g h : FE D}
def itSeq : D → Option (List D)
  | .lst ds => some ds
  | .tup ds => some ds
  | _ => none
theorem pi_seq {l : Expr} {tl : TE} (hl : PE X l tl) : PI X tg l (fun σ H R => iList X.K tl σ H R ∨ iTup X.K tl σ H R) :=
  ⟨fun pins s σ H R I h => h.elim ((pi_list hl).run pins s σ H R I) ((pi_tup hl).run pins s σ H R I)⟩
theorem di_seq (j : De X W e f) : Di X W tg e (eIt1 itSeq f) := by
  obtain ⟨t, q, k⟩ := j
  refine ⟨_, pi_seq q, fun G α ρ ω σ H R O S P => ?_⟩
  unfold eIt1 at P
  cases r : f ρ ω with
  | stuck => rw [r] at P; exact P.elim
  | exc x ω1 =>
    rw [r] at P
    refine .inl (k G α ρ ω σ H _ O S ?_)
    rw [r]; exact P
  | ok d ω1 =>
    rw [r] at P
    cases d with
    | lst ds =>
      refine .inl (k G α ρ ω σ H _ O S ?_)
      rw [r]
      intro v G1 α1 H1 e1 O1 r1
      have r1' : Rep X.K X.mg G1 (.lst ds) v := r1
      rw [rep_lst] at r1'
      obtain ⟨a, vs, e3, q, r⟩ := r1'
      exact ⟨a, e3, ⟨vs, O1.sub.seq q⟩, Post.here O1 (walk_l fun G2 H2 s g => ⟨vs, (g.trans s).seq q, Reps.mono g _ _ r⟩) (Post.weak e1 P)⟩
    | tup ds =>
      refine .inr (k G α ρ ω σ H _ O S ?_)
      rw [r]
      intro v G1 α1 H1 e1 O1 r1
      have r1' : Rep X.K X.mg G1 (.tup ds) v := r1
      rw [rep_tup] at r1'
      obtain ⟨a, vs, e3, q, r⟩ := r1'
      exact ⟨a, e3, ⟨vs, Same.sqT O1.sub q⟩, Post.here O1 (walk_t fun G2 H2 s g => ⟨vs, Same.sqT (g.trans s) q, Reps.mono g _ _ r⟩) (Post.weak e1 P)⟩
    | _ => exact P.elim
theorem arg1 {t : TE} {K : PySem.W.Frag} {mg : MG} {β γ : Type} {R : Hp → List Addr → Hp → β → γ → Prop} {R0 : γ → Hp → Prop} {G H : Hp} {α : List Addr} {ρ : Rho} {ω : Om} {σ : St} {fn : D → Om → Res β} {Q1 : List V → Hp → Prop}
    (k : ∀ G α ρ ω σ H Q, Own K mg G α ω H → Slots K mg G α ρ σ → Post K mg (RD K mg) G α H Q (fun c d H' => W c d σ H') (f ρ ω) → t σ H Q) (O : Own K mg G α ω H) (S : Slots K mg G α ρ σ)
    (P : Post K mg R G α H R0 (fun c d H' => W c d σ H') ((f ρ ω).bind fn))
    (h : ∀ d ω1 v G1 α1 H1, Ext G α H G1 α1 H1 → Own K mg G1 α1 ω1 H1 → Rep K mg G1 d v → Post K mg R G1 α1 H1 R0 (fun c d H' => W c d σ H') (fn d ω1) → Q1 [v] H1) : tCons t tNil σ H Q1 :=
  Post.step (t := t σ H) (Q1 := fun x H1 => Q1 [x] H1) (k G α ρ ω σ H · O S) P fun d ω1 v G1 α1 H1 e1 O1 r1 P1 => h d ω1 v G1 α1 H1 e1 O1 r1 P1
theorem arg2 {t u : TE} {K : PySem.W.Frag} {mg : MG} {β γ : Type} {R : Hp → List Addr → Hp → β → γ → Prop} {R0 : γ → Hp → Prop} {G H : Hp} {α : List Addr} {ρ : Rho} {ω : Om} {σ : St} {fn : D → D → Om → Res β} {Q1 : List V → Hp → Prop}
    (k : ∀ G α ρ ω σ H Q, Own K mg G α ω H → Slots K mg G α ρ σ → Post K mg (RD K mg) G α H Q (fun c d H' => W c d σ H') (f ρ ω) → t σ H Q)
    (k2 : ∀ G α ρ ω σ H Q, Own K mg G α ω H → Slots K mg G α ρ σ → Post K mg (RD K mg) G α H Q (fun c d H' => W c d σ H') (g ρ ω) → u σ H Q) (O : Own K mg G α ω H) (S : Slots K mg G α ρ σ)
    (P : Post K mg R G α H R0 (fun c d H' => W c d σ H') ((f ρ ω).bind fun d ω1 => (g ρ ω1).bind fun e ω2 => fn d e ω2))
    (h : ∀ d e ω1 v v2 G1 α1 H1, Ext G α H G1 α1 H1 → Own K mg G1 α1 ω1 H1 → Rep K mg G1 d v → Rep K mg G1 e v2 → Post K mg R G1 α1 H1 R0 (fun c d H' => W c d σ H') (fn d e ω1) → Q1 [v, v2] H1) : tCons t (tCons u tNil) σ H Q1 := by
  refine Post.step (t := t σ H) (Q1 := fun x H1 => u σ H1 fun y H2 => Q1 [x, y] H2) (k G α ρ ω σ H · O S) P fun d ω1 v G1 α1 H1 e1 O1 r1 P1 => ?_
  refine Post.step (t := u σ H1) (k2 G1 α1 ρ ω1 σ H1 · O1 (S.mono e1)) P1 fun d2 ω2 v2 G2 α2 H2 e2 O2 r2 P2 => ?_
  exact h d d2 ω2 v v2 G2 α2 H2 (e1.trans e2) O2 (Rep.mono e2.g _ _ r1) r2 P2
theorem di_enum {elts : List Expr} {kk : Nat} {tpos : Pos} (hm : X.mg "enumerate" = none) (j : De X W e f) (hg : Gl X "enumerate" := by rfl) (hs : starEach [e] X.env = [(false, eval e X.env)] := by rfl)
    (hs2 : starEach (e :: []) X.env = (false, eval e X.env) :: starEach [] X.env := by rfl) :
    Di X W (.Tuple elts kk tpos) (.Call (.Name "enumerate" p) [e] [] pos) (eIt1 itEn f) := by
  obtain ⟨t, q, k⟩ := j
  refine ⟨_, pi_enumA hg hm (pa_cons q pa_nil hs2) hs, fun G α ρ ω σ H R O S P => ?_⟩
  refine arg1 k O S P fun d ω1 v G1 α1 H1 e1 O1 r1 P1 => ?_
  obtain ⟨ds, e2, P2⟩ := P1.lift
  cases d with
  | tup ds' =>
    cases e2
    rw [rep_tup] at r1
    obtain ⟨a, vs, rfl, q, r⟩ := r1
    exact ⟨a, vs, rfl, .inr ⟨Same.sqT O1.sub q, Post.here O1 (walk_et fun G2 H2 s g => ⟨vs, Same.sqT (g.trans s) q, Reps.mono g _ _ r⟩) P2⟩⟩
  | lst ds' =>
    cases e2
    rw [rep_lst] at r1
    obtain ⟨a, vs, rfl, q, r⟩ := r1
    exact ⟨a, vs, rfl, .inl ⟨O1.sub.seq q, Post.here O1 (walk_el fun G2 H2 s g => ⟨vs, (g.trans s).seq q, Reps.mono g _ _ r⟩) P2⟩⟩
  | _ => cases e2
theorem di_zip {elts : List Expr} {kk : Nat} {tpos : Pos} (hm : X.mg "zip" = none) (ja : De X W a f) (jb : De X W b g) (hg : Gl X "zip" := by rfl) (hs : starEach [a, b] X.env = (false, eval a X.env) :: starEach [b] X.env := by rfl)
    (hs2 : starEach [b] X.env = (false, eval b X.env) :: starEach [] X.env := by rfl) (hpl : (backTo pos (starEach [b] X.env)).any (·.1) = false := by rfl) :
    Di X W (.Tuple elts kk tpos) (.Call (.Name "zip" p) [a, b] [] pos) (eIt2 itZ f g) := by
  obtain ⟨t, q, k⟩ := ja
  obtain ⟨u, q2, k2⟩ := jb
  refine ⟨_, RZ.pi_zipA hg hm (pa_cons q (pa_cons q2 pa_nil hs2) hs) hs hpl, fun G α ρ ω σ H R O S P => ?_⟩
  refine arg2 k k2 O S P fun d e ω1 v v2 G1 α1 H1 e1 O1 r1 r2 P1 => ?_
  obtain ⟨ds, e2, P2⟩ := P1.lift
  unfold itZ at e2
  split at e2
  · cases e2
    rw [rep_lst] at r1 r2
    obtain ⟨a, vs, rfl, q, r⟩ := r1
    obtain ⟨b, us, rfl, q', r'⟩ := r2
    exact ⟨a, b, vs, us, rfl, .inl ⟨O1.sub.seq q, O1.sub.seq q', Post.here O1 (walk_zl fun G2 H2 s g => ⟨vs, us, (g.trans s).seq q, Reps.mono g _ _ r, (g.trans s).seq q', Reps.mono g _ _ r'⟩) P2⟩⟩
  · cases e2
    rw [rep_tup] at r1 r2
    obtain ⟨a, vs, rfl, q, r⟩ := r1
    obtain ⟨b, us, rfl, q', r'⟩ := r2
    exact ⟨a, b, vs, us, rfl, .inr ⟨Same.sqT O1.sub q, Same.sqT O1.sub q', Post.here O1 (walk_zt fun G2 H2 s g => ⟨vs, us, Same.sqT (g.trans s) q, Reps.mono g _ _ r, Same.sqT (g.trans s) q', Reps.mono g _ _ r'⟩) P2⟩⟩
  · cases e2
theorem di_range1 (hm : X.mg "range" = none) (j : De X W a f) (hg : Gl X "range" := by rfl) (hs : starEach [a] X.env = [(false, eval a X.env)] := by rfl)
    (hs2 : starEach (a :: []) X.env = (false, eval a X.env) :: starEach [] X.env := by rfl) : Di X W tg (.Call (.Name "range" p) [a] [] pos) (eIt1 itR1 f) := by
  obtain ⟨t, q, k⟩ := j
  refine ⟨_, pi_range1 hg hm (pa_cons q pa_nil hs2) hs, fun G α ρ ω σ H R O S P => ?_⟩
  refine arg1 k O S P fun d ω1 v G1 α1 H1 e1 O1 r1 P1 => ?_
  obtain ⟨ds, e2, P2⟩ := P1.lift
  unfold itR1 at e2
  split at e2
  · split at e2
    · rename_i j hb
      cases e2
      rw [rep_int] at r1
      subst r1
      refine ⟨j, rfl, by have := hb.1; simpa using this, by have := hb.2; simpa using this, ?_⟩
      have w : WalkD X.K X.mg (fun G' _ => Same G1 G') (Itr 0 j.toNat) (rngD 0 j) := by
        have := @walk_r X.K X.mg 0 j.toNat (fun G' _ => Same G1 G')
        unfold rngD
        rw [Int.sub_zero]
        exact this
      exact Post.here O1 w P2
    · cases e2
  · cases e2
theorem di_range2 (hm : X.mg "range" = none) (ja : De X W a f) (jb : De X W b g) (hg : Gl X "range" := by rfl) (hs : starEach [a, b] X.env = [(false, eval a X.env), (false, eval b X.env)] := by rfl)
    (hs1 : starEach [a, b] X.env = (false, eval a X.env) :: starEach [b] X.env := by rfl)
    (hs2 : starEach [b] X.env = [(false, eval b X.env)] := by rfl) (hs3 : starEach [b] X.env = (false, eval b X.env) :: starEach [] X.env := by rfl) : Di X W tg (.Call (.Name "range" p) [a, b] [] pos) (eIt2 itR2 f g) := by
  obtain ⟨t, q, k⟩ := ja
  obtain ⟨u, q2, k2⟩ := jb
  refine ⟨_, pi_range2 hg hm (pa_cons q (pa_cons q2 pa_nil hs3) hs1) hs hs2, fun G α ρ ω σ H R O S P => ?_⟩
  refine arg2 k k2 O S P fun d e ω1 v v2 G1 α1 H1 e1 O1 r1 r2 P1 => ?_
  obtain ⟨ds, e2, P2⟩ := P1.lift
  unfold itR2 at e2
  split at e2
  · split at e2
    · rename_i i j hb
      cases e2
      rw [rep_int] at r1 r2
      subst r1 r2
      exact ⟨i, j, rfl, ⟨by have := hb.1; simpa using this, by have := hb.2.1; simpa using this, by have := hb.2.2.1; simpa using this, by have := hb.2.2.2; simpa using this⟩, Post.here O1 walk_r P2⟩
    · cases e2
  · cases e2
end
end Dl
namespace Dl
open PySem L2
inductive Out where
  | stuck
  | next (ρ : Rho) (ω : Om)
  | brk (ρ : Rho) (ω : Om)
  | cont (ρ : Rho) (ω : Om)
  | ret (x : SV) (ω : Om)
  | exc (x : Exn) (ρ : Rho) (ω : Om)
abbrev FS := Rho → Om → Out
def Res.out {β : Type} (r : Res β) (ρ : Rho) (k : β → Om → Out) : Out := match r with
  | .stuck => .stuck
  | .ok b ω => k b ω
  | .exc x ω => .exc x ρ ω
def Out.bind (r : Out) (k : Rho → Om → Out) : Out := match r with
  | .next ρ ω => k ρ ω
  | o => o
def PostS (K : PySem.W.Frag) (mg : MG) (G : Hp) (α : List Addr) (H : Hp) (D : Ends) (W : WX) : Out → Prop
  | .stuck => False
  | .next ρ' ω' => ∀ σ' G' α' H', Ext G α H G' α' H' → Own K mg G' α' ω' H' → Slots K mg G' α' ρ' σ' → D.nx σ' H'
  | .brk ρ' ω' => ∀ σ' G' α' H', Ext G α H G' α' H' → Own K mg G' α' ω' H' → Slots K mg G' α' ρ' σ' → D.bk σ' H'
  | .cont ρ' ω' => ∀ σ' G' α' H', Ext G α H G' α' H' → Own K mg G' α' ω' H' → Slots K mg G' α' ρ' σ' → D.ct σ' H'
  | .ret x ω' => ∀ v G' α' H', Ext G α H G' α' H' → Own K mg G' α' ω' H' → RepV K mg G' α' x v → D.rt v H'
  | .exc x ρ' ω' => ∀ c dd σ' G' α' H', Ext G α H G' α' H' → Own K mg G' α' ω' H' → Slots K mg G' α' ρ' σ' → RepX K mg G' x c dd → W c dd σ' H'
def Ds (X : Cx) (W : WX) (st : Stmt) (f : FS) : Prop :=
  ∃ t, PS X st t ∧ ∀ G α ρ ω σ H D, Own X.K X.mg G α ω H → Slots X.K X.mg G α ρ σ → PostS X.K X.mg G α H D W (f ρ ω) → t D σ H
def Dss (X : Cx) (W : WX) (st : List Stmt) (f : FS) : Prop :=
  ∃ t, PSs X st t ∧ ∀ G α ρ ω σ H D, Own X.K X.mg G α ω H → Slots X.K X.mg G α ρ σ → PostS X.K X.mg G α H D W (f ρ ω) → t D σ H
section
variable {K : PySem.W.Frag} {mg : MG} {G G1 H H1 : Hp} {α α1 : List Addr} {D D2 : Ends} {W : WX} {ω : Om} {ρ : Rho} {σ : St}
theorem PostS.weak {r : Out} (e : Ext G α H G1 α1 H1) (h : PostS K mg G α H D W r) : PostS K mg G1 α1 H1 D W r := by
  cases r with
  | stuck => exact h
  | next ρ' ω' => exact fun σ' G' α' H' e' O S => h σ' G' α' H' (e.trans e') O S
  | brk ρ' ω' => exact fun σ' G' α' H' e' O S => h σ' G' α' H' (e.trans e') O S
  | cont ρ' ω' => exact fun σ' G' α' H' e' O S => h σ' G' α' H' (e.trans e') O S
  | ret x ω' => exact fun v G' α' H' e' O q => h v G' α' H' (e.trans e') O q
  | exc x ρ' ω' => exact fun c dd σ' G' α' H' e' O S q => h c dd σ' G' α' H' (e.trans e') O S q
theorem PostS.step {β γ : Type} {R : Hp → List Addr → Hp → β → γ → Prop} {t : (γ → Hp → Prop) → Prop} {r : Res β} {g : β → Om → Out} {Q1 : γ → Hp → Prop} (S : Slots K mg G α ρ σ) (J : ∀ Q, Post K mg R G α H Q (fun c d H' => W c d σ H') r → t Q) (h : PostS K mg G α H D W (r.out ρ g))
    (k : ∀ b ω1 v G' α' H', Ext G α H G' α' H' → Own K mg G' α' ω1 H' → R G' α' H' b v → PostS K mg G' α' H' D W (g b ω1) → Q1 v H') : t Q1 := by
  cases r with
  | stuck => exact h.elim
  | ok b ω' => exact J Q1 fun v G' α' H' e O q => k b ω' v G' α' H' e O q (PostS.weak e h)
  | exc x ω' => exact J Q1 fun c dd G' α' H' e O q => h c dd σ G' α' H' e O (S.mono e) q
theorem PostS.here_nx {ρ' : Rho} {σ' : St} (O : Own K mg G α ω H) (S : Slots K mg G α ρ' σ') (h : PostS K mg G α H D W (.next ρ' ω)) : D.nx σ' H := h σ' G α H Ext.refl O S
end
section
variable {X : Cx} {W : WX} {st : Stmt} {rest : List Stmt} {f g : FS} {e c : Expr} {fe : FE D} {pos : Pos}
def sNext : FS := fun ρ ω => .next ρ ω
def sSeq (f g : FS) : FS := fun ρ ω => (f ρ ω).bind g
theorem dss_nil : Dss X W [] sNext := ⟨_, pss_nil, fun G α ρ ω σ H D O S P => P.here_nx O S⟩
theorem dss_cons (h1 : Ds X W st f) (h2 : Dss X W rest g) : Dss X W (st :: rest) (sSeq f g) := by
  obtain ⟨t, p, k⟩ := h1
  obtain ⟨u, p2, k2⟩ := h2
  refine ⟨_, pss_cons p p2, fun G α ρ ω σ H D O S P => ?_⟩
  refine k G α ρ ω σ H _ O S ?_
  unfold sSeq at P
  cases r : f ρ ω with
  | stuck => rw [r] at P; exact P
  | next ρ' ω' =>
    rw [r] at P
    exact fun σ' G' α' H' e' O' S' => k2 G' α' ρ' ω' σ' H' D O' S' (PostS.weak e' P)
  | brk ρ' ω' => rw [r] at P; exact P
  | cont ρ' ω' => rw [r] at P; exact P
  | ret x ω' => rw [r] at P; exact P
  | exc x ρ' ω' => rw [r] at P; exact P
theorem dss_one (h1 : Ds X W st f) : Dss X W [st] f := let ⟨t, p, k⟩ := h1; ⟨t, pss_one p, k⟩
def sBreak : FS := fun ρ ω => .brk ρ ω
def sCont : FS := fun ρ ω => .cont ρ ω
def sExpr (f : FE D) : FS := fun ρ ω => (f ρ ω).out ρ fun _ ω1 => .next ρ ω1
def sRet (f : FE D) : FS := fun ρ ω => (f ρ ω).out ρ fun d ω1 => .ret (.val d) ω1
theorem ds_expr (h : De X W e fe) (hs : swapsWith e none pos.line X.env = pure false := by rfl) : Ds X W (.Expr e pos) (sExpr fe) := by
  obtain ⟨t, p, k⟩ := h
  refine ⟨_, ps_expr p hs, fun G α ρ ω σ H D O S P => ?_⟩
  exact PostS.step S (t := t σ H) (k G α ρ ω σ H · O S) P fun d ω1 v G1 α1 H1 e1 O1 r1 P1 => P1.here_nx O1 (S.mono e1)
theorem ds_ret (h : De X W e fe) : Ds X W (.Return (some e) pos) (sRet fe) := by
  obtain ⟨t, p, k⟩ := h
  refine ⟨_, ps_ret p, fun G α ρ ω σ H D O S P => ?_⟩
  exact PostS.step S (t := t σ H) (k G α ρ ω σ H · O S) P fun d ω1 v G1 α1 H1 e1 O1 r1 P1 => P1 v G1 α1 H1 Ext.refl O1 r1
def sRetS (f : FE SV) : FS := fun ρ ω => (f ρ ω).out ρ fun x ω1 => .ret x ω1
def sRetN : FS := fun _ ω => .ret (.val .non) ω
def sIf (c : FE Bool) (f g : FS) : FS := fun ρ ω => (c ρ ω).out ρ fun b ω1 => if b = true then f ρ ω1 else g ρ ω1
theorem ds_if {a b : List Stmt} {fc : FE Bool} (hc : Dt X W c fc) (ha : Dss X W a f) (hb : Dss X W b g) : Ds X W (.If c a b pos) (sIf fc f g) := by
  obtain ⟨tc, pc, kc⟩ := hc
  obtain ⟨ta, pa, ka⟩ := ha
  obtain ⟨tb, pb, kb⟩ := hb
  refine ⟨_, ps_if pc pa pb, fun G α ρ ω σ H D O S P => ?_⟩
  refine PostS.step S (t := tc σ H) (kc G α ρ ω σ H · O S) P fun x ω1 v1 G1 α1 H1 e1 O1 r1 P1 => ?_
  cases r1
  cases x with
  | true => exact iteT (ka G1 α1 ρ ω1 σ H1 D O1 (S.mono e1) P1)
  | false => exact iteF (kb G1 α1 ρ ω1 σ H1 D O1 (S.mono e1) P1)
def sAsg (f : FE D) (tg : FG) : FS := fun ρ ω => (f ρ ω).out ρ fun d ω1 => match tg d ρ with
  | some ρ' => .next ρ' ω1
  | none => .stuck
abbrev sSet (i : Nat) (f : FE D) : FS := sAsg f (gN i)
theorem ds_asg {tg : Expr} {is : List Nat} {fg : FG} (h : De X W e fe) (hg : Dg X tg is fg) (hs : swapsWithSole [tg] e pos.line X.env = pure false := by rfl) (hw : swappedStores [tg] e X.env = pure none := by rfl)
    (h1 : (assignEach [tg] X.env).map (·.2) = [assign tg X.env] := by rfl) : Ds X W (.Assign [tg] e pos) (sAsg fe fg) := by
  obtain ⟨t, p, k⟩ := h
  obtain ⟨tg', pg, kg⟩ := hg
  refine ⟨_, ps_asg p pg hs hw h1, fun G α ρ ω σ H D O S P => ?_⟩
  refine PostS.step S (t := t σ H) (k G α ρ ω σ H · O S) P fun d ω1 v G1 α1 H1 e1 O1 r1 P1 => ?_
  refine kg G1 α1 ρ σ H1 d v _ O1.sub (S.mono e1) r1 ?_
  cases q : fg d ρ with
  | none => rw [q] at P1; exact P1
  | some ρ' => rw [q] at P1; exact fun σ' S' _ _ => P1.here_nx O1 S'
theorem ds_set {i : Nat} {x : Str} {pos' : Pos} (hN : X.N.Nodup) (h : De X W e fe) (hi : X.N[i]? = some x := by rfl) (hx : Loc X.env.scope x := by first | exact Or.inl rfl | exact Or.inr rfl) (hs : swapsWith e (some (.Name x pos')) pos.line X.env = pure false := by rfl)
    (hf : X.fn x = true ∨ X.env.scope.names.lookup x = some .local := by first | exact .inl rfl | exact .inr rfl) : Ds X W (.Assign [.Name x pos'] e pos) (sSet i fe) := by
  obtain ⟨t, p, k⟩ := h
  refine ⟨_, ps_set hN hi hx p hs hf, fun G α ρ ω σ H D O S P => ?_⟩
  refine PostS.step S (t := t σ H) (k G α ρ ω σ H · O S) P fun d ω1 v G1 α1 H1 e1 O1 r1 P1 => ?_
  exact P1.here_nx O1 ((S.mono e1).set i (x := .val d) r1)
def sSetS (i : Nat) (f : FE SV) : FS := fun ρ ω => (f ρ ω).out ρ fun x ω1 => .next (ρ.set i (some x)) ω1
theorem ds_setS {i : Nat} {x : Str} {pos' : Pos} {fv : FE SV} (hN : X.N.Nodup) (h : Dv X W e fv) (hi : X.N[i]? = some x := by rfl) (hx : Loc X.env.scope x := by first | exact Or.inl rfl | exact Or.inr rfl) (hs : swapsWith e (some (.Name x pos')) pos.line X.env = pure false := by rfl)
    (hf : X.fn x = true ∨ X.env.scope.names.lookup x = some .local := by first | exact .inl rfl | exact .inr rfl) : Ds X W (.Assign [.Name x pos'] e pos) (sSetS i fv) := by
  obtain ⟨t, p, k⟩ := h
  refine ⟨_, ps_set hN hi hx p hs hf, fun G α ρ ω σ H D O S P => ?_⟩
  refine PostS.step S (t := t σ H) (k G α ρ ω σ H · O S) P fun d ω1 v G1 α1 H1 e1 O1 r1 P1 => ?_
  exact P1.here_nx O1 ((S.mono e1).set i r1)
def sPar (i j : Nat) (f : FE (List SV)) : FS := fun ρ ω => (f ρ ω).out ρ fun xs ω1 => match xs with
  | [x, y] => .next ((ρ.set i (some x)).set j (some y)) ω1
  | _ => .stuck
theorem ds_par {i j : Nat} {x y : Str} {a b : Expr} {fa : FE (List SV)} {px py pt : Pos} {kt k2 pt2} (hc : X.calm = true) (hN : X.N.Nodup) (hij : i ≠ j) (ha : Da X W [a, b] fa)
    (hw : swappedStores [.Tuple [.Name x px, .Name y py] kt pt] (.Tuple [a, b] k2 pt2) X.env = pure (some [x, y]))
    (hi : X.N[i]? = some x := by rfl) (hj : X.N[j]? = some y := by rfl)
    (hx : X.env.scope.names.lookup x = some .local := by rfl) (hy : X.env.scope.names.lookup y = some .local := by rfl)
    (hs : swapsWithSole [.Tuple [.Name x px, .Name y py] kt pt] (.Tuple [a, b] k2 pt2) pos.line X.env = pure false := by rfl) :
    Ds X W (.Assign [.Tuple [.Name x px, .Name y py] kt pt] (.Tuple [a, b] k2 pt2) pos) (sPar i j fa) := by
  obtain ⟨t, p, k⟩ := ha
  refine ⟨_, ps_par hc hN hi hj hij hx hy p hw hs, fun G α ρ ω σ H D O S P => ?_⟩
  refine PostS.step S (t := t σ H) (k G α ρ ω σ H · O S) P fun xs ω1 vs G1 α1 H1 e1 O1 r1 P1 => ?_
  match xs, vs, r1, P1 with
  | [x, y], _, .cons q1 (.cons q2 .nil), P1 => exact ⟨_, _, rfl, P1.here_nx O1 (((S.mono e1).set i q1).set j q2)⟩
  | [], _, _, P1 => exact P1.elim
  | [_], _, _, P1 => exact P1.elim
  | _ :: _ :: _ :: _, _, _, P1 => exact P1.elim
def forL (tg : FG) (b : FS) : List D → Rho → Om → Out
  | [], ρ, ω => .next ρ ω
  | d :: ds, ρ, ω => match tg d ρ with
    | none => .stuck
    | some ρ1 => match b ρ1 ω with
      | .next ρ2 ω2 => forL tg b ds ρ2 ω2
      | .cont ρ2 ω2 => forL tg b ds ρ2 ω2
      | .brk ρ2 ω2 => .next ρ2 ω2
      | .ret x ω2 => .ret x ω2
      | .exc x ρ2 ω2 => .exc x ρ2 ω2
      | .stuck => .stuck
def sFor (it : FE (List D)) (tg : FG) (b : FS) : FS := fun ρ ω => (it ρ ω).out ρ fun ds ω1 => forL tg b ds ρ ω1
theorem for_post {tg : TG} {fg : FG} {is : List Nat} {tb : TS} {b : FS} {K : PySem.W.Frag} {mg : MG} {J : It} {ds : List D} {G0 H : Hp} {α : List Addr} {ρ : Rho} {ω : Om} {σ : St} {De : Ends}
    (kg : ∀ G α ρ σ H d v (Q : St → Hp → Prop), Same G H → Slots K mg G α ρ σ → Rep K mg G d v →
      (match fg d ρ with
        | none => False
        | some ρ' => ∀ σ', Slots K mg G α ρ' σ' → (∀ j, j ∉ is → σ'[j]? = σ[j]?) → σ'.length = σ.length → Q σ' H) → tg v σ H Q)
    (kb : ∀ G α ρ ω σ H D, Own K mg G α ω H → Slots K mg G α ρ σ → PostS K mg G α H D W (b ρ ω) → tb D σ H)
    (wk : WalkD K mg (fun G' _ => Same G0 G') J ds) (O : Own K mg G0 α ω H) (S : Slots K mg G0 α ρ σ) (P : PostS K mg G0 α H De W (forL fg b ds ρ ω)) :
    ∃ Wv : Nat → Nat → St → Hp → Prop, (∃ m, Wv 0 m σ H) ∧ ∀ i m σ H, Wv i m σ H →
      (J.stop i H ∧ De.nx σ H) ∨ (J.go i H ∧ ∃ N : St → Hp → Prop, (∀ σ' H', N σ' H' → ∃ m', m' < m ∧ Wv (i + 1) m' σ' H') ∧ ∀ x H', J.yld i H x H' → tg x σ H' fun σ2 H2 => tb { De with nx := N, ct := N, bk := De.nx } σ2 H2) := by
  refine ⟨fun i m σ H => m = ds.length - i ∧ i ≤ ds.length ∧ ∃ G α ρ ω, Same G0 G ∧ Own K mg G α ω H ∧ Slots K mg G α ρ σ ∧ PostS K mg G α H De W (forL fg b (ds.drop i) ρ ω), ⟨_, rfl, Nat.zero_le _, G0, α, ρ, ω, Same.refl _, O, S, P⟩, ?_⟩
  rintro i m σ H ⟨rfl, hi, G, α, ρ, ω, g, O, S, P⟩
  obtain ⟨w1, w2⟩ := wk i G H O.sub g
  by_cases hlt : i < ds.length
  · refine .inr ?_
    obtain ⟨go, yl⟩ := w1 ds[i] (List.getElem?_eq_getElem hlt)
    refine ⟨go, fun σ' H' => ∃ G α ρ ω, Same G0 G ∧ Own K mg G α ω H' ∧ Slots K mg G α ρ σ' ∧ PostS K mg G α H' De W (forL fg b (ds.drop (i + 1)) ρ ω), fun σ' H' q => ⟨ds.length - (i + 1), by omega, rfl, hlt, q⟩, fun x H' y => ?_⟩
    obtain ⟨G1, gr, r1⟩ := yl x H' y
    have O1 := O.grow gr
    have S1 := S.mono (gr.ext (α := α))
    have P1 := PostS.weak (gr.ext (α := α)) P
    rw [List.drop_eq_getElem_cons hlt] at P1
    unfold forL at P1
    refine kg G1 α ρ σ H' _ x _ O1.sub S1 r1 ?_
    cases q : fg ds[i] ρ with
    | none => rw [q] at P1; exact P1.elim
    | some ρ1 =>
      rw [q] at P1
      intro σ2 S2 _ _
      refine kb G1 α ρ1 ω σ2 H' _ O1 S2 ?_
      dsimp only at P1
      cases q2 : b ρ1 ω with
      | stuck => rw [q2] at P1; exact P1
      | next ρ2 ω2 =>
        rw [q2] at P1
        exact fun σ3 G3 α3 H3 e3 O3 S3 => ⟨G3, α3, ρ2, ω2, (g.trans gr.g).trans e3.g, O3, S3, PostS.weak e3 P1⟩
      | cont ρ2 ω2 =>
        rw [q2] at P1
        exact fun σ3 G3 α3 H3 e3 O3 S3 => ⟨G3, α3, ρ2, ω2, (g.trans gr.g).trans e3.g, O3, S3, PostS.weak e3 P1⟩
      | brk ρ2 ω2 => rw [q2] at P1; exact P1
      | ret x ω2 => rw [q2] at P1; exact P1
      | exc x ρ2 ω2 => rw [q2] at P1; exact P1
  · have e : i = ds.length := by omega
    subst e
    rw [List.drop_length] at P
    exact .inl ⟨w2 (Nat.le_refl _), P.here_nx O S⟩
theorem ds_for {tg iter : Expr} {body : List Stmt} {is : List Nat} {fi : FE (List D)} {fg : FG} {fb : FS} (hp : PassesOwn (model X.prog X.w) X.A X.env X.xe) (hc : X.calm = true) (hi : Di X W tg iter fi) (hg : Dg X tg is fg) (hb : Dss X W body fb)
    (hs : ∀ x, foldedSetIterable iter X.env x = pure x := by intro _; rfl) : Ds X W (.For tg iter body [] pos) (sFor fi fg fb) := by
  obtain ⟨wi, pi, ki⟩ := hi
  obtain ⟨tg', pg, kg⟩ := hg
  obtain ⟨tb, pb, kb⟩ := hb
  refine ⟨_, ps_for hp hc pi pg pb hs, fun G α ρ ω σ H D O S P => ?_⟩
  refine PostS.step S (t := wi σ H) (ki G α ρ ω σ H · O S) P fun ds ω1 J G1 α1 H1 e1 O1 w1 P1 => ?_
  exact for_post kg kb w1 O1 (S.mono e1) P1
def whileF (c : FE Bool) (b : FS) : Nat → Rho → Om → Out
  | 0, _, _ => .stuck
  | n + 1, ρ, ω => (c ρ ω).out ρ fun k ω1 => if k = true then (match b ρ ω1 with
      | .next ρ2 ω2 => whileF c b n ρ2 ω2
      | .cont ρ2 ω2 => whileF c b n ρ2 ω2
      | .brk ρ2 ω2 => .next ρ2 ω2
      | .ret x ω2 => .ret x ω2
      | .exc x ρ2 ω2 => .exc x ρ2 ω2
      | .stuck => .stuck) else .next ρ ω1
def sWhile (n : Nat) (c : FE Bool) (b : FS) : FS := whileF c b n
end
end Dl
namespace Dl
open PySem L2
def wipeR (ρ : Rho) : List Nat → Rho
  | [] => ρ
  | v :: vs => (wipeR ρ vs).set v none
def lcL (tg : FG) (tt : FE Bool) (el : FE D) (ρ : Rho) : List D → List D → Om → Res D
  | [], acc, ω => .ok (.lst acc) ω
  | d :: ds, acc, ω => match tg d ρ with
    | none => .stuck
    | some ρ1 => match tt ρ1 ω with
      | .ok true ω1 => match el ρ1 ω1 with
        | .ok y ω2 => if acc.length < lim then lcL tg tt el ρ ds (acc ++ [y]) ω2 else .stuck
        | _ => .stuck
      | .ok false ω1 => lcL tg tt el ρ ds acc ω1
      | _ => .stuck
def eLc (vs : List Nat) (it : FE (List D)) (tg : FG) (tt : FE Bool) (el : FE D) : FE D := fun ρ ω => (it ρ ω).bind fun ds ω1 => lcL tg tt el (wipeR ρ vs) ds [] ω1
abbrev W0 : WX := fun _ _ _ _ => False
def eTrue : FE Bool := fun _ ω => .ok true ω
def Dts (X : Cx) (W : WX) (ifs : List Expr) (f : FE Bool) : Prop :=
  ∃ t, PTs X ifs t ∧ ∀ G α ρ ω σ H Q, Own X.K X.mg G α ω H → Slots X.K X.mg G α ρ σ → Post X.K X.mg RB G α H Q (fun c d H' => W c d σ H') (f ρ ω) → t σ H Q
theorem dts_nil {X : Cx} {W : WX} : Dts X W [] eTrue := ⟨_, pts_nil, fun G α ρ ω σ H Q O S P => Post.here O rfl P⟩
theorem dts_one {X : Cx} {W : WX} {c : Expr} {f : FE Bool} (h : Dt X W c f) : Dts X W [c] f := let ⟨t, p, k⟩ := h; ⟨t, pts_one p, k⟩
section
variable {K : PySem.W.Frag} {mg : MG}
theorem Slots.setN {G : Hp} {α : List Addr} {ρ : Rho} {σ : St} (S : Slots K mg G α ρ σ) (i : Nat) : Slots K mg G α (ρ.set i none) (σ.set i none) := by
  refine ⟨by simp [S.len], fun j y e => ?_⟩
  by_cases q : i = j
  · subst q
    by_cases hl : i < ρ.length
    · rw [List.getElem?_set_self hl] at e; cases e
    · rw [List.getElem?_eq_none (by simp; omega)] at e; cases e
  · rw [List.getElem?_set_ne q] at e
    obtain ⟨w, h1, h2⟩ := S.val j y e
    exact ⟨w, by rw [List.getElem?_set_ne q]; exact h1, h2⟩
theorem Slots.wipe {G : Hp} {α : List Addr} {ρ : Rho} {σ : St} (S : Slots K mg G α ρ σ) : ∀ vs, Slots K mg G α (wipeR ρ vs) (L2.wipe σ vs)
  | [] => S
  | v :: vs => by unfold wipeR L2.wipe; exact (Slots.wipe S vs).setN v
theorem wipe_get (σ : St) : ∀ (vs : List Nat) (j : Nat), (L2.wipe σ vs)[j]? = if j ∈ vs then (if j < σ.length then some none else none) else σ[j]?
  | [], j => by simp [L2.wipe]
  | v :: vs, j => by
    unfold L2.wipe
    by_cases q : v = j
    · subst q
      by_cases hl : v < σ.length
      · rw [List.getElem?_set_self (by rw [wipe_length]; exact hl)]
        simp [hl]
      · rw [List.getElem?_eq_none (by simp [wipe_length]; omega)]
        simp [hl]
    · rw [List.getElem?_set_ne q, wipe_get σ vs j]
      have : j ≠ v := fun z => q z.symm
      simp [this]
theorem wipe_same {σ σ' : St} {vs is : List Nat} (hs : ∀ i ∈ is, i ∈ vs) (h : ∀ j, j ∉ is → σ'[j]? = (L2.wipe σ vs)[j]?) (hl : σ'.length = (L2.wipe σ vs).length) : L2.wipe σ' vs = L2.wipe σ vs := by
  rw [wipe_length] at hl
  refine List.ext_getElem? fun j => ?_
  rw [wipe_get, hl]
  by_cases q : j ∈ vs
  · rw [if_pos q, wipe_get, if_pos q]
  · rw [if_neg q, h j fun z => q (hs j z)]
structure Lies (K : PySem.W.Frag) (mg : MG) (G0 : Hp) (α0 : List Addr) (H0 : Hp) (L : Addr) (G : Hp) (α : List Addr) (ω : Om) (acc : List D) (H : Hp) : Prop where
  ext : Ext G0 α0 H0 G α H
  own : Own K mg G α ω H
  gl : G L = none
  na : L ∉ α
  at_ : ∃ vsa, H L = some (.lst vsa) ∧ Reps K mg G acc vsa
theorem Lies.step {G0 H0 G H G1 H1 : Hp} {α0 α α1 : List Addr} {L : Addr} {ω ω1 : Om} {acc : List D} (B : Lies K mg G0 α0 H0 L G α ω acc H) (e : Ext G α H G1 α1 H1) (O : Own K mg G1 α1 ω1 H1) : Lies K mg G0 α0 H0 L G1 α1 ω1 acc H1 := by
  obtain ⟨vsa, h1, h2⟩ := B.at_
  obtain ⟨more, e1, e2⟩ := e.pre
  refine ⟨B.ext.trans e, O, ?_, ?_, vsa, e.keep L _ h1 B.na, Reps.mono e.g _ _ h2⟩
  · cases q : G1 L with
    | none => rfl
    | some o =>
      rcases e.new L o q with z | z | z
      · rw [B.gl] at z; cases z
      · rw [h1] at z; cases z
      · exact absurd z B.na
  · rw [e1]
    intro z
    rcases List.mem_append.mp z with z | z
    · exact B.na z
    · rw [e2 L z] at h1; cases h1
theorem Ext.setL {G H G1 H1 : Hp} {α α1 : List Addr} {L : Addr} {o : HO} (e : Ext G α H G1 α1 H1) (hL : H L = none) : Ext G α H G1 α1 (L2.upd H1 L o) :=
  ⟨e.g, e.new, fun a u h n => by rw [upd_ne (ne_of_none h hL)]; exact e.keep a u h n, fun a u h => by rw [upd_ne (ne_of_none h hL)]; exact e.live a u h, e.pre⟩
theorem Own.setL {G H : Hp} {α : List Addr} {ω : Om} {L : Addr} {o : HO} (O : Own K mg G α ω H) (hg : G L = none) (na : L ∉ α) : Own K mg G α ω (L2.upd H L o) := by
  refine ⟨fun b u h => by rw [upd_ne (ne_of_none h hg)]; exact O.sub b u h, O.len, O.nd, fun a ha => ?_, fun k u a h1 h2 => ?_⟩
  · rw [upd_ne (fun z => na (by rw [← z]; exact ha))]
    exact O.ex a ha
  · obtain ⟨q1, q2⟩ := O.obj k u a h1 h2
    have : a ≠ L := fun z => na (by rw [← z]; exact List.mem_of_getElem? h2)
    exact ⟨q1, q2.mono (Same.refl _) (upd_ne this)⟩
theorem Lies.set {G0 H0 G H : Hp} {α0 α : List Addr} {L : Addr} {ω : Om} {acc acc' : List D} {vs : List V} (B : Lies K mg G0 α0 H0 L G α ω acc H) (h0 : H0 L = none) (r : Reps K mg G acc' vs) : Lies K mg G0 α0 H0 L G α ω acc' (L2.upd H L (.lst vs)) :=
  ⟨B.ext.setL h0, B.own.setL B.gl B.na, B.gl, B.na, vs, upd_same, r⟩
theorem Lies.freeze {G0 H0 G H : Hp} {α0 α : List Addr} {L : Addr} {ω : Om} {acc : List D} (B : Lies K mg G0 α0 H0 L G α ω acc H) (h0 : H0 L = none) : ∃ G', Ext G0 α0 H0 G' α H ∧ Own K mg G' α ω H ∧ Rep K mg G' (.lst acc) (.ref L) := by
  obtain ⟨vsa, h1, h2⟩ := B.at_
  have sg : Same G (L2.upd G L (.lst vsa)) := Same.upd B.gl
  refine ⟨L2.upd G L (.lst vsa), ⟨B.ext.g.trans sg, fun a o h => ?_, B.ext.keep, B.ext.live, B.ext.pre⟩, ⟨fun b u h => ?_, B.own.len, B.own.nd, B.own.ex, fun k u a h3 h4 => ?_⟩, rep_newL (H := H) B.gl h2⟩
  · by_cases z : a = L
    · subst z; exact .inr (.inl h0)
    · rw [upd_ne z] at h; exact B.ext.new a o h
  · by_cases z : b = L
    · subst z; rw [upd_same] at h; cases h; exact h1
    · rw [upd_ne z] at h; exact B.own.sub b u h
  · obtain ⟨q1, q2⟩ := B.own.obj k u a h3 h4
    have : a ≠ L := fun z => B.na (by rw [← z]; exact List.mem_of_getElem? h4)
    exact ⟨by rw [upd_ne this]; exact q1, q2.mono sg rfl⟩
theorem lc_post {tg : TG} {fg : FG} {is vs : List Nat} {tt : TT} {ft : FE Bool} {te : TE} {fe : FE D} {J : It} {ds : List D} {G0 H : Hp} {α0 : List Addr} {ρ : Rho} {ω : Om} {σ : St} {Q : VK} {E : XK} (hsub : ∀ i ∈ is, i ∈ vs)
    (kg : ∀ G α ρ σ H d v (Q : St → Hp → Prop), Same G H → Slots K mg G α ρ σ → Rep K mg G d v →
      (match fg d ρ with
        | none => False
        | some ρ' => ∀ σ', Slots K mg G α ρ' σ' → (∀ j, j ∉ is → σ'[j]? = σ[j]?) → σ'.length = σ.length → Q σ' H) → tg v σ H Q)
    (kt : ∀ G α ρ ω σ H Q, Own K mg G α ω H → Slots K mg G α ρ σ → Post K mg RB G α H Q (fun _ _ _ => False) (ft ρ ω) → tt σ H Q)
    (ke : ∀ G α ρ ω σ H Q, Own K mg G α ω H → Slots K mg G α ρ σ → Post K mg (RD K mg) G α H Q (fun _ _ _ => False) (fe ρ ω) → te σ H Q)
    (wk : WalkD K mg (fun G' _ => Same G0 G') J ds) (O : Own K mg G0 α0 ω H) (S : Slots K mg G0 α0 ρ σ) (P : Post K mg (RD K mg) G0 α0 H Q E (lcL fg ft fe (wipeR ρ vs) ds [] ω)) (L : Addr) (hL : H L = none) :
    ∃ Wv : Nat → Nat → Hp → Prop, (∃ m, Wv 0 m (L2.upd H L (.lst []))) ∧ ∀ i m H, Wv i m H →
      (J.stop i H ∧ Q (.ref L) H) ∨ (J.go i H ∧ ∃ Nx : Hp → Prop, (∀ H', Nx H' → ∃ m', m' < m ∧ Wv (i + 1) m' H') ∧ ∀ x H', J.yld i H x H' → tg x (L2.wipe σ vs) H' fun σ2 H2 => L2.wipe σ2 vs = L2.wipe σ vs ∧ tt σ2 H2 fun b H3 =>
        if b = true then te σ2 H3 fun y H4 => ∃ acc, H4 L = some (.lst acc) ∧ acc.length < sizeLine ∧ Nx (L2.upd H4 L (.lst (acc ++ [y]))) else Nx H3) := by
  have hnα : L ∉ α0 := fun z => by obtain ⟨o, h⟩ := O.ex L z; rw [hL] at h; cases h
  refine ⟨fun i m H' => m = ds.length - i ∧ i ≤ ds.length ∧ ∃ G α ω acc, Lies K mg G0 α0 H L G α ω acc H' ∧ Post K mg (RD K mg) G0 α0 H Q E (lcL fg ft fe (wipeR ρ vs) (ds.drop i) acc ω), ⟨_, rfl, Nat.zero_le _, G0, α0, ω, [], ⟨?_, ?_, O.sub.free hL, hnα, [], upd_same, reps_nil.mpr rfl⟩, P⟩, ?_⟩
  · exact (Grow.side (o := .lst []) O.sub hL).ext
  · exact O.grow (Grow.side O.sub hL)
  rintro i m H' ⟨rfl, hi, G, α, ω, acc, B, P⟩
  obtain ⟨w1, w2⟩ := wk i G H' B.own.sub B.ext.g
  by_cases hlt : i < ds.length
  · refine .inr ?_
    obtain ⟨go, yl⟩ := w1 ds[i] (List.getElem?_eq_getElem hlt)
    refine ⟨go, fun H' => ∃ G α ω acc, Lies K mg G0 α0 H L G α ω acc H' ∧ Post K mg (RD K mg) G0 α0 H Q E (lcL fg ft fe (wipeR ρ vs) (ds.drop (i + 1)) acc ω), fun H' q => ⟨ds.length - (i + 1), by omega, rfl, hlt, q⟩, fun x H1 y => ?_⟩
    obtain ⟨G1, gr, r1⟩ := yl x H1 y
    have B1 := B.step (gr.ext (α := α)) (B.own.grow gr)
    rw [List.drop_eq_getElem_cons hlt] at P
    unfold lcL at P
    have S1 : Slots K mg G1 α (wipeR ρ vs) (L2.wipe σ vs) := (S.mono B1.ext).wipe vs
    refine kg G1 α _ _ H1 _ x _ B1.own.sub S1 r1 ?_
    cases q : fg ds[i] (wipeR ρ vs) with
    | none => rw [q] at P; exact P.elim
    | some ρ1 =>
      rw [q] at P
      intro σ2 S2 c2 l2
      refine ⟨wipe_same hsub c2 l2, kt G1 α ρ1 ω σ2 H1 _ B1.own S2 ?_⟩
      dsimp only at P
      cases q2 : ft ρ1 ω with
      | stuck => rw [q2] at P; exact P.elim
      | exc x ω1 => rw [q2] at P; exact P.elim
      | ok b ω1 =>
        rw [q2] at P
        intro b' G2 α2 H2 e2 O2 r2
        cases r2
        have B2 := B1.step e2 O2
        cases b with
        | false => exact iteF ⟨G2, α2, ω1, acc, B2, P⟩
        | true =>
          refine iteT (ke G2 α2 ρ1 ω1 σ2 H2 _ O2 (S2.mono e2) ?_)
          dsimp only at P
          cases q3 : fe ρ1 ω1 with
          | stuck => rw [q3] at P; exact P.elim
          | exc x ω2 => rw [q3] at P; exact P.elim
          | ok yd ω2 =>
            rw [q3] at P
            dsimp only at P
            split at P
            · rename_i hlim
              intro v G3 α3 H3 e3 O3 r3
              have B3 := B2.step e3 O3
              obtain ⟨vsa, h5, h6⟩ := B3.at_
              exact ⟨vsa, h5, by rw [lim_eq, h6.length]; exact hlim, G3, α3, ω2, acc ++ [yd], B3.set hL (h6.append (Reps.one r3)), P⟩
            · exact P.elim
  · have e : i = ds.length := by omega
    subst e
    rw [List.drop_length] at P
    obtain ⟨G', e', O', r'⟩ := B.freeze hL
    exact .inl ⟨w2 (Nat.le_refl _), P _ G' α H' e' O' r'⟩
end
def tcE (K : PySem.W.Frag) (mg : MG) (W : WX) (f : FE D) : TE := fun σ H Q => ∃ G α ρ ω, Own K mg G α ω H ∧ Slots K mg G α ρ σ ∧ Post K mg (RD K mg) G α H Q (fun c d H' => W c d σ H') (f ρ ω)
def tcT (K : PySem.W.Frag) (mg : MG) (W : WX) (f : FE Bool) : TT := fun σ H Q => ∃ G α ρ ω, Own K mg G α ω H ∧ Slots K mg G α ρ σ ∧ Post K mg RB G α H Q (fun c d H' => W c d σ H') (f ρ ω)
def tcG (K : PySem.W.Frag) (mg : MG) (is : List Nat) (f : FG) : TG := fun v σ H Q => ∃ G α ρ d, Same G H ∧ Slots K mg G α ρ σ ∧ Rep K mg G d v ∧
  (match f d ρ with
    | none => False
    | some ρ' => ∀ σ', Slots K mg G α ρ' σ' → (∀ j, j ∉ is → σ'[j]? = σ[j]?) → σ'.length = σ.length → Q σ' H)
def tcI (K : PySem.W.Frag) (mg : MG) (W : WX) (f : FE (List D)) : TI := fun σ H R => ∃ G α ρ ω, Own K mg G α ω H ∧ Slots K mg G α ρ σ ∧ Post K mg (RI K mg) G α H R (fun c d H' => W c d σ H') (f ρ ω)
theorem can_e {X : Cx} {W : WX} {e : Expr} {f : FE D} (h : De X W e f) : PE X e (tcE X.K X.mg W f) := by
  obtain ⟨t, p, k⟩ := h
  exact ⟨fun pins s σ H Q I ⟨G, α, ρ, ω, O, S, P⟩ => p.run pins s σ H Q I (k G α ρ ω σ H Q O S P)⟩
theorem can_ts {X : Cx} {W : WX} {es : List Expr} {f : FE Bool} (h : Dts X W es f) : PTs X es (tcT X.K X.mg W f) := by
  obtain ⟨t, p, k⟩ := h
  exact ⟨fun pins s σ H Q I ⟨G, α, ρ, ω, O, S, P⟩ => p.run pins s σ H Q I (k G α ρ ω σ H Q O S P)⟩
theorem can_g {X : Cx} {e : Expr} {is : List Nat} {f : FG} (h : Dg X e is f) : PG X e (tcG X.K X.mg is f) := by
  obtain ⟨t, p, k⟩ := h
  exact ⟨fun pins s σ H v u Q I r ⟨G, α, ρ, d, h1, S, r1, P⟩ => p.run pins s σ H v u Q I r (k G α ρ σ H d v Q h1 S r1 P)⟩
theorem can_i {X : Cx} {W : WX} {tg e : Expr} {f : FE (List D)} (h : Di X W tg e f) : PI X tg e (tcI X.K X.mg W f) := by
  obtain ⟨t, p, k⟩ := h
  exact ⟨fun pins s σ H Q I ⟨G, α, ρ, ω, O, S, P⟩ => p.run pins s σ H Q I (k G α ρ ω σ H Q O S P)⟩
section
variable {X : Cx} {W : WX} {pos : Pos}
theorem lc_read {K : PySem.W.Frag} {mg : MG} {wi : TI} {vs is : List Nat} {fi : FE (List D)} {fg : FG} {ft : FE Bool} {fe : FE D} (hsub : ∀ i ∈ is, i ∈ vs)
    (ki : ∀ G α ρ ω σ H (R : It → Hp → Prop), Own K mg G α ω H → Slots K mg G α ρ σ → Post K mg (RI K mg) G α H R (fun c d H' => W c d σ H') (fi ρ ω) → wi σ H R)
    (G α ρ ω σ H Q) (O : Own K mg G α ω H) (S : Slots K mg G α ρ σ) (P : Post K mg (RD K mg) G α H Q (fun c d H' => W c d σ H') (eLc vs fi fg ft fe ρ ω)) : tLc wi (tcG K mg is fg) (tcT K mg W0 ft) (tcE K mg W0 fe) vs σ H Q := by
  refine Post.step (t := wi σ H) (ki G α ρ ω σ H · O S) P fun ds ω1 J G1 α1 H1 e1 O1 w1 P1 => ?_
  intro L hL
  exact lc_post hsub (fun G α ρ σ H d v Q s S r h => ⟨G, α, ρ, d, s, S, r, h⟩) (fun G α ρ ω σ H Q O S P => ⟨G, α, ρ, ω, O, S, P⟩) (fun G α ρ ω σ H Q O S P => ⟨G, α, ρ, ω, O, S, P⟩) w1 O1 (S.mono e1) P1 L hL
theorem de_lc {elt tg iter : Expr} {ifs : List Expr} {scope : Scope} {own : List (Str × Nat)} {is : List Nat} {fi : FE (List D)} {fg : FG} {ft : FE Bool} {fe : FE D} (hc : X.calm = true) (hN : X.N.Nodup) (hi : Di X W tg iter fi) (ok : BlkOk X.N X.env.scope scope own)
    (hg : ∀ (s : Shared) (H : Hp) (C : Addr) (cl : List (Str × Addr)) (fp : List Addr), Dg (X.blk s H scope (compEnvC scope cl C X.env) fp) tg is fg) (ht : ∀ (s : Shared) (H : Hp) (C : Addr) (cl : List (Str × Addr)) (fp : List Addr), Dts (X.blk s H scope (compEnvC scope cl C X.env) fp) W0 ifs ft)
    (he : ∀ (s : Shared) (H : Hp) (C : Addr) (cl : List (Str × Addr)) (fp : List Addr), De (X.blk s H scope (compEnvC scope cl C X.env) fp) W0 elt fe) (hsub : ∀ i ∈ is, i ∈ own.map (·.2)) (hs : ∀ x, foldedSetIterable iter X.env x = pure x := by intro _; rfl) :
    De X W (.ListComp elt [⟨tg, iter, ifs, 0⟩] scope pos) (eLc (own.map (·.2)) fi fg ft fe) := by
  obtain ⟨wi, pi, ki⟩ := hi
  exact ⟨_, pe_lc (g := tcG X.K X.mg is fg) (tt := tcT X.K X.mg W0 ft) (te := tcE X.K X.mg W0 fe) hc hN pi ok (fun s H C cl fp => can_g (hg s H C cl fp)) (fun s H C cl fp => can_ts (ht s H C cl fp)) (fun s H C cl fp => can_e (he s H C cl fp)) hs, lc_read hsub ki⟩
theorem ds_setLc {i : Nat} {y : Str} {py spos : Pos} {elt tg iter : Expr} {ifs : List Expr} {scope : Scope} {own : List (Str × Nat)} {is : List Nat} {fi : FE (List D)} {fg : FG} {ft : FE Bool} {fe : FE D} (hc : X.calm = true) (hN : X.N.Nodup) (hsw : swapsWith (.ListComp elt [⟨tg, iter, ifs, 0⟩] scope pos) (some (.Name y py)) spos.line X.env = pure true) (hi : Di X W tg iter fi) (ok : BlkOk X.N X.env.scope scope own)
    (hg : ∀ (s : Shared) (H : Hp) (C : Addr) (cl : List (Str × Addr)) (fp : List Addr), Dg (X.blk s H scope (compEnvC scope cl C X.env) fp) tg is fg) (ht : ∀ (s : Shared) (H : Hp) (C : Addr) (cl : List (Str × Addr)) (fp : List Addr), Dts (X.blk s H scope (compEnvC scope cl C X.env) fp) W0 ifs ft)
    (he : ∀ (s : Shared) (H : Hp) (C : Addr) (cl : List (Str × Addr)) (fp : List Addr), De (X.blk s H scope (compEnvC scope cl C X.env) fp) W0 elt fe) (hsub : ∀ i ∈ is, i ∈ own.map (·.2)) (hy : X.N[i]? = some y := by rfl) (hyl : X.env.scope.names.lookup y = some .local := by rfl) (hs : ∀ x, foldedSetIterable iter X.env x = pure x := by intro _; rfl) :
    Ds X W (.Assign [.Name y py] (.ListComp elt [⟨tg, iter, ifs, 0⟩] scope pos) spos) (sSet i (eLc (own.map (·.2)) fi fg ft fe)) := by
  obtain ⟨wi, pi, ki⟩ := hi
  refine ⟨_, ps_setLc (g := tcG X.K X.mg is fg) (tt := tcT X.K X.mg W0 ft) (te := tcE X.K X.mg W0 fe) hc hN hy hyl hsw pi ok (fun s H C cl fp => can_g (hg s H C cl fp)) (fun s H C cl fp => can_ts (ht s H C cl fp)) (fun s H C cl fp => can_e (he s H C cl fp)) hs, fun G α ρ ω σ H D O S P => ?_⟩
  refine PostS.step S (t := tLc wi (tcG X.K X.mg is fg) (tcT X.K X.mg W0 ft) (tcE X.K X.mg W0 fe) (own.map (·.2)) σ H) (lc_read hsub ki G α ρ ω σ H · O S) P fun d ω1 v G1 α1 H1 e1 O1 r1 P1 => ?_
  exact P1.here_nx O1 ((S.mono e1).set i (x := .val d) r1)
end
end Dl
namespace Dl
open PySem L2
section
variable {K : PySem.W.Frag} {mg : MG} {G H : Hp} {α : List Addr} {ω : Om}
theorem Own.na (O : Own K mg G α ω H) {p : Addr} (h : H p = none) : p ∉ α := fun z => by obtain ⟨o, q⟩ := O.ex p z; rw [h] at q; cases q
theorem Own.new {p : Addr} {u : HO} {o : OD} (O : Own K mg G α ω H) (hp : H p = none) (r : OwnAt K mg G (L2.upd H p u) p o) : Own K mg G (α ++ [p]) (ω ++ [some o]) (L2.upd H p u) ∧ Ext G α H G (α ++ [p]) (L2.upd H p u) := by
  have na := O.na hp
  refine ⟨⟨O.sub.trans (Same.upd hp), by simp [O.len], ?_, fun a ha => ?_, fun k o' a h1 h2 => ?_⟩, ⟨Same.refl _, fun _ _ h => .inl h, fun a o h _ => Same.upd hp a o h, fun a o h => ⟨o, Same.upd hp a o h⟩, [p], rfl, fun a ha => by rw [List.mem_singleton.mp ha]; exact hp⟩⟩
  · rw [List.nodup_append]
    refine ⟨O.nd, by simp, fun a ha b hb z => ?_⟩
    rw [List.mem_singleton.mp hb] at z
    exact na (z ▸ ha)
  · rcases List.mem_append.mp ha with h | h
    · obtain ⟨u', q⟩ := O.ex a h
      exact ⟨u', Same.upd hp a u' q⟩
    · rw [List.mem_singleton.mp h]; exact ⟨u, upd_same⟩
  · by_cases hk : k < ω.length
    · rw [List.getElem?_append_left hk] at h1
      rw [List.getElem?_append_left (by rw [O.len]; exact hk)] at h2
      obtain ⟨q1, q2⟩ := O.obj k o' a h1 h2
      have : a ≠ p := fun z => na (z ▸ List.mem_of_getElem? h2)
      exact ⟨q1, q2.mono (Same.refl _) (upd_ne this)⟩
    · have hk' : k = ω.length := by
        have := (List.getElem?_eq_some_iff.mp h1).1
        simp at this; omega
      subst hk'
      rw [List.getElem?_append_right (Nat.le_refl _)] at h1
      rw [List.getElem?_append_right (by rw [O.len]; exact Nat.le_refl _), O.len] at h2
      simp at h1 h2
      subst h1 h2
      exact ⟨O.sub.free hp, r⟩
theorem Own.put {a : Addr} {k : Nat} {u : HO} {o o' : OD} (O : Own K mg G α ω H) (h1 : ω[k]? = some (some o)) (h2 : α[k]? = some a) (r : OwnAt K mg G (L2.upd H a u) a o') : Own K mg G α (ω.set k (some o')) (L2.upd H a u) ∧ Ext G α H G α (L2.upd H a u) := by
  have ma := List.mem_of_getElem? h2
  obtain ⟨hg, _⟩ := O.obj k o a h1 h2
  refine ⟨⟨fun b v h => ?_, by simp [O.len], O.nd, fun b hb => ?_, fun j o2 b h3 h4 => ?_⟩, ⟨Same.refl _, fun _ _ h => .inl h, fun b o h n => ?_, fun b o h => ?_, [], by simp, by simp⟩⟩
  · rw [upd_ne (ne_of_none h hg)]; exact O.sub b v h
  · by_cases z : b = a
    · subst z; exact ⟨u, upd_same⟩
    · rw [upd_ne z]; exact O.ex b hb
  · by_cases z : k = j
    · subst z
      rw [h2] at h4; cases h4
      rw [List.getElem?_set_self (List.getElem?_eq_some_iff.mp h1).1] at h3
      cases h3
      exact ⟨hg, r⟩
    · rw [List.getElem?_set_ne z] at h3
      obtain ⟨q1, q2⟩ := O.obj j o2 b h3 h4
      have : b ≠ a := fun y => z ((List.getElem?_inj (List.getElem?_eq_some_iff.mp h2).1 O.nd).mp (by rw [h2, h4, y]))
      exact ⟨q1, q2.mono (Same.refl _) (upd_ne this)⟩
  · rw [upd_ne (fun z : b = a => n (by rw [z]; exact ma))]; exact h
  · by_cases z : b = a
    · subst z; exact ⟨u, upd_same⟩
    · rw [upd_ne z]; exact ⟨o, h⟩
theorem Own.freeze {a : Addr} {k : Nat} {u : HO} {o : OD} (O : Own K mg G α ω H) (h1 : ω[k]? = some (some o)) (h2 : α[k]? = some a) (hu : H a = some u) : Own K mg (L2.upd G a u) α (ω.set k none) H ∧ Ext G α H (L2.upd G a u) α H ∧ G a = none := by
  have ma := List.mem_of_getElem? h2
  obtain ⟨hg, _⟩ := O.obj k o a h1 h2
  refine ⟨⟨fun b v h => ?_, by simp [O.len], O.nd, O.ex, fun j o2 b h3 h4 => ?_⟩, ⟨Same.upd hg, fun b v h => ?_, fun b o h n => h, fun b o h => ⟨o, h⟩, [], by simp, by simp⟩, hg⟩
  · by_cases z : b = a
    · subst z; rw [upd_same] at h; cases h; exact hu
    · rw [upd_ne z] at h; exact O.sub b v h
  · by_cases z : k = j
    · subst z
      rw [List.getElem?_set_self (List.getElem?_eq_some_iff.mp h1).1] at h3
      cases h3
    · rw [List.getElem?_set_ne z] at h3
      obtain ⟨q1, q2⟩ := O.obj j o2 b h3 h4
      have : b ≠ a := fun y => z ((List.getElem?_inj (List.getElem?_eq_some_iff.mp h2).1 O.nd).mp (by rw [h2, h4, y]))
      exact ⟨by rw [upd_ne this]; exact q1, q2.mono (Same.upd hg) rfl⟩
  · by_cases z : b = a
    · subst z; exact .inr (.inr ma)
    · rw [upd_ne z] at h; exact .inl h
theorem Own.nil (s : Same G H) : Own K mg G [] [] H := ⟨s, rfl, List.nodup_nil, by simp, by simp⟩
end
section
variable {X : Cx} {W : WX} {e : Expr} {fe : FE D} {pos : Pos}
def sNewL (i : Nat) (g : FE (List SV)) : FS := fun ρ ω => (g ρ ω).out ρ fun xs ω1 => match allD xs with
  | some ds => if xs.length ≤ lim then .next (ρ.set i (some (.own ω1.length))) (ω1 ++ [some (.lst ds)]) else .stuck
  | none => .stuck
theorem ds_newL {i : Nat} {x : Str} {pos' p1 : Pos} {es : List Expr} {g : FE (List SV)} (hN : X.N.Nodup) (h : Da X W es g) (hi : X.N[i]? = some x := by rfl) (hx : Loc X.env.scope x := by first | exact Or.inl rfl | exact Or.inr rfl) (hs : swapsWith (.List es p1) (some (.Name x pos')) pos.line X.env = pure false := by rfl)
    (hf : X.fn x = true ∨ X.env.scope.names.lookup x = some .local := by first | exact .inl rfl | exact .inr rfl) : Ds X W (.Assign [.Name x pos'] (.List es p1) pos) (sNewL i g) := by
  obtain ⟨t, p, k⟩ := h
  refine ⟨_, ps_set hN hi hx (pe_lst p) hs hf, fun G α ρ ω σ H D O S P => ?_⟩
  refine PostS.step S (t := t σ H) (k G α ρ ω σ H · O S) P fun xs ω1 vs G1 α1 H1 e1 O1 r1 P1 => ?_
  cases q : allD xs with
  | none => rw [q] at P1; exact P1.elim
  | some ds =>
    rw [q] at P1
    dsimp only at P1
    split at P1
    · rename_i hl
      have hr := allD_reps q r1
      refine ⟨by rw [lim_eq, ← RepVs.length r1]; exact hl, fun a ha => ?_⟩
      obtain ⟨O2, e2⟩ := O1.new (u := .lst vs) (o := .lst ds) ha ⟨vs, upd_same, hr⟩
      refine P1 _ G1 _ _ e2 O2 (((S.mono e1).mono e2).set i ⟨a, ?_, rfl⟩)
      rw [← O1.len, List.getElem?_append_right (Nat.le_refl _)]
      simp
    · exact P1.elim
def ownK (ρ : Rho) (i : Nat) : Option Nat := match ρ[i]? with
  | some (some (.own k)) => some k
  | _ => none
def ownL (ω : Om) (k : Nat) : Option (List D) := match ω[k]? with
  | some (some (.lst ds)) => some ds
  | _ => none
theorem ownK_eq {ρ : Rho} {i k : Nat} (h : ownK ρ i = some k) : ρ[i]? = some (some (.own k)) := by
  unfold ownK at h
  split at h
  · rename_i k' e; cases h; exact e
  · cases h
theorem ownL_eq {ω : Om} {k : Nat} {ds : List D} (h : ownL ω k = some ds) : ω[k]? = some (some (.lst ds)) := by
  unfold ownL at h
  split at h
  · rename_i k' e; cases h; exact e
  · cases h
def sApp (i : Nat) (f : FE D) : FS := fun ρ ω => match ownK ρ i with
  | none => .stuck
  | some k => match ownL ω k with
    | none => .stuck
    | some _ => (f ρ ω).out ρ fun d ω1 => match ownL ω1 k with
      | none => .stuck
      | some ds => if ds.length < lim then .next ρ (ω1.set k (some (.lst (ds ++ [d])))) else .stuck
theorem ds_app (i : Nat) {x : Str} {p1 p2 p3 p4 : Pos} (h : De X W e fe) (hN : X.N[i]? = some x := by rfl) (hv : Vis X.env.scope x := by first | exact Or.inl rfl | exact Or.inr (Or.inl rfl) | exact Or.inr (Or.inr rfl)) (hd : (x == ("__debug__" : Str)) = false := by decide)
    (hcd : (x == ("__classdict__" : Str)) = false := by decide) (hs2 : starEach (e :: []) X.env = (false, eval e X.env) :: starEach [] X.env := by rfl)
    (hsw : swapsWith (.Call (.Attribute (.Name x p1) "append" p2) [e] [] p3) none p4.line X.env = pure false := by rfl)
    (hpe : ∀ (to t : _), PE X (.Name x p1) to → PA X [e] t → PE X (.Call (.Attribute (.Name x p1) "append" p2) [e] [] p3) (tBM X.K "list" rAppend to t) := by
      intro to t ho ha
      exact pe_bm PySem.F.plainAttrs_list PySem.F.slot_list_append PySem.F.type_list_append mt_append ho ha) :
    Ds X W (.Expr (.Call (.Attribute (.Name x p1) "append" p2) [e] [] p3) p4) (sApp i fe) := by
  obtain ⟨t, p, k⟩ := h
  refine ⟨_, ps_expr (hpe _ _ (pe_var hN hv hd hcd) (pa_cons p pa_nil hs2)) hsw, fun G α ρ ω σ H D O S P => ?_⟩
  unfold sApp at P
  cases q1 : ownK ρ i with
  | none => rw [q1] at P; exact P.elim
  | some kk =>
    rw [q1] at P; dsimp only at P
    cases q2 : ownL ω kk with
    | none => rw [q2] at P; exact P.elim
    | some ds0 =>
      rw [q2] at P; dsimp only at P
      obtain ⟨v, h1, a, h2, rfl⟩ := S.val i _ (ownK_eq q1)
      obtain ⟨_, vs0, h3, _⟩ := O.obj kk _ a (ownL_eq q2) h2
      refine ⟨_, h1, .inl ⟨rfl, vs0, SqL.of h3⟩, ?_⟩
      refine PostS.step S (t := t σ H) (k G α ρ ω σ H · O S) P fun d ω1 v1 G1 α1 H1 e1 O1 r1 P1 => ?_
      cases q3 : ownL ω1 kk with
      | none => rw [q3] at P1; exact P1.elim
      | some ds =>
        rw [q3] at P1; dsimp only at P1
        split at P1
        · rename_i hl
          obtain ⟨more, e2, _⟩ := e1.pre
          have h2' : α1[kk]? = some a := by rw [e2, List.getElem?_append_left (List.getElem?_eq_some_iff.mp h2).1]; exact h2
          obtain ⟨_, vs, h5, h6⟩ := O1.obj kk _ a (ownL_eq q3) h2'
          refine ⟨a, vs, v1, rfl, rfl, h5, by rw [lim_eq, h6.length]; exact hl, ?_⟩
          obtain ⟨O2, e3⟩ := O1.put (u := .lst (vs ++ [v1])) (o' := .lst (ds ++ [d])) (ownL_eq q3) h2' ⟨_, upd_same, h6.append (Reps.one r1)⟩
          exact P1 _ G1 α1 _ e3 O2 ((S.mono e1).mono e3)
        · exact P1.elim
def sSetIx (i : Nat) (fi fe : FE D) : FS := fun ρ ω => (fe ρ ω).out ρ fun d ω1 => match ownK ρ i with
  | none => .stuck
  | some k => (fi ρ ω1).out ρ fun z ω2 => match z, ownL ω2 k with
    | .int n, some ds => match ixN ds.length n with
      | some j => .next ρ (ω2.set k (some (.lst (ds.set j d))))
      | none => .stuck
    | _, _ => .stuck
theorem ds_setIx (i : Nat) {x : Str} {p1 p2 : Pos} {ei : Expr} {fi : FE D} (hi : De X W ei fi) (h : De X W e fe) (hN : X.N[i]? = some x := by rfl) (hv : Vis X.env.scope x := by first | exact Or.inl rfl | exact Or.inr (Or.inl rfl) | exact Or.inr (Or.inr rfl)) (hd : (x == ("__debug__" : Str)) = false := by decide)
    (hcd : (x == ("__classdict__" : Str)) = false := by decide) (hs : swapsWithSole [.Subscript (.Name x p1) ei p2] e pos.line X.env = pure false := by rfl) (hw : swappedStores [.Subscript (.Name x p1) ei p2] e X.env = pure none := by rfl)
    (h1 : (assignEach [.Subscript (.Name x p1) ei p2] X.env).map (·.2) = [assign (.Subscript (.Name x p1) ei p2) X.env] := by rfl)
    (ha : ∀ v, assign (.Subscript (.Name x p1) ei p2) X.env v = (do
      let ov ← holding [v] (eval (.Name x p1) X.env)
      let iv ← holding [v, ov] (eval ei X.env)
      standAt p2
      holding [v, ov, iv] (setItem ov iv v)
      release [v, ov, iv] []) := by intro _; rfl) : Ds X W (.Assign [.Subscript (.Name x p1) ei p2] e pos) (sSetIx i fi fe) := by
  obtain ⟨t, p, k⟩ := h
  obtain ⟨ti, pi, ki⟩ := hi
  refine ⟨_, ps_asg p (pg_sub (pe_var hN hv hd hcd) pi set_list ha) hs hw h1, fun G α ρ ω σ H D O S P => ?_⟩
  refine PostS.step S (t := t σ H) (k G α ρ ω σ H · O S) P fun d ω1 v1 G1 α1 H1 e1 O1 r1 P1 => ?_
  cases q1 : ownK ρ i with
  | none => rw [q1] at P1; exact P1.elim
  | some kk =>
    rw [q1] at P1; dsimp only at P1
    obtain ⟨v, h1, a, h2, rfl⟩ := (S.mono e1).val i _ (ownK_eq q1)
    refine ⟨_, h1, ?_⟩
    refine PostS.step (S.mono e1) (t := ti σ H1) (ki G1 α1 ρ ω1 σ H1 · O1 (S.mono e1)) P1 fun z ω2 v2 G2 α2 H2 e2 O2 r2 P2 => ?_
    cases z with
    | int n =>
      cases q3 : ownL ω2 kk with
      | none => rw [q3] at P2; exact P2.elim
      | some ds =>
        rw [q3] at P2; dsimp only at P2
        cases q4 : ixN ds.length n with
        | none => rw [q4] at P2; exact P2.elim
        | some j =>
          rw [q4] at P2; dsimp only at P2
          obtain ⟨more, e3, _⟩ := e2.pre
          have h2' : α2[kk]? = some a := by rw [e3, List.getElem?_append_left (List.getElem?_eq_some_iff.mp h2).1]; exact h2
          obtain ⟨_, vs, h5, h6⟩ := O2.obj kk _ a (ownL_eq q3) h2'
          have r2' : v2 = .int n := rep_int.mp (show Rep X.K X.mg G2 (.int n) v2 from r2)
          refine ⟨a, vs, n, j, rfl, r2', h5, by rw [h6.length]; exact q4, ?_⟩
          obtain ⟨O3, e4⟩ := O2.put (u := .lst (vs.set j v1)) (o' := .lst (ds.set j d)) (ownL_eq q3) h2' ⟨_, upd_same, h6.set (Rep.mono e2.g _ _ r1) j⟩
          exact P2 _ G2 α2 _ e4 O3 (((S.mono e1).mono e2).mono e4)
    | _ => exact P2.elim
def sRetL (i : Nat) : FS := fun ρ ω => match ownK ρ i with
  | none => .stuck
  | some k => match ownL ω k with
    | none => .stuck
    | some ds => .ret (.val (.lst ds)) (ω.set k none)
theorem ds_retL (i : Nat) {x : Str} {p1 : Pos} (hN : X.N[i]? = some x := by rfl) (hv : Vis X.env.scope x := by first | exact Or.inl rfl | exact Or.inr (Or.inl rfl) | exact Or.inr (Or.inr rfl)) (hd : (x == ("__debug__" : Str)) = false := by decide)
    (hcd : (x == ("__classdict__" : Str)) = false := by decide) : Ds X W (.Return (some (.Name x p1)) pos) (sRetL i) := by
  refine ⟨_, ps_ret (pe_var hN hv hd hcd), fun G α ρ ω σ H D O S P => ?_⟩
  unfold sRetL at P
  cases q1 : ownK ρ i with
  | none => rw [q1] at P; exact P.elim
  | some kk =>
    rw [q1] at P; dsimp only at P
    cases q2 : ownL ω kk with
    | none => rw [q2] at P; exact P.elim
    | some ds =>
      rw [q2] at P; dsimp only at P
      obtain ⟨v, h1, a, h2, rfl⟩ := S.val i _ (ownK_eq q1)
      obtain ⟨_, vs, h3, h4⟩ := O.obj kk _ a (ownL_eq q2) h2
      obtain ⟨O2, e2, hg⟩ := O.freeze (ownL_eq q2) h2 h3
      exact ⟨_, h1, P _ _ α H e2 O2 (rep_newL (H := H) hg h4)⟩
end
end Dl
namespace Dl
open PySem L2
def Cop (K : PySem.W.Frag) (mg : MG) (r : List V → Hp → VK → Prop) (op : List D → Option D) : Prop :=
  ∀ G H ds d vs Q, Same G H → op ds = some d → Reps K mg G ds vs → (∀ v G' H', Grow G H G' H' → Rep K mg G' d v → Q v H') → r vs H Q
def CopL (K : PySem.W.Frag) (mg : MG) (r : List V → Hp → VK → Prop) (op : List D → Option D) : Prop :=
  ∀ G H ds d a vs Q, Same G H → op ds = some d → SqL K H a vs → Reps K mg G ds vs → (∀ v G' H', Grow G H G' H' → Rep K mg G' d v → Q v H') → r [.ref a] H Q
def eCallB (op : List D → Option D) (g : FE (List SV)) : FE D := fun ρ ω => (g ρ ω).bind fun xs ω1 => Res.lift ((allD xs).bind op) ω1
def eOnL (op : List D → Option D) (g : FE (List D)) : FE D := fun ρ ω => (g ρ ω).bind fun ds ω1 => Res.lift (op ds) ω1
section
variable {X : Cx} {W : WX} {x : Str} {e : Expr} {es : List Expr} {p pos : Pos} {r : List V → Hp → VK → Prop} {op : List D → Option D} {g : FE (List SV)} {gl : FE (List D)}
theorem cb_post {t : TA} {K : PySem.W.Frag} {mg : MG} (B : Cop K mg r op)
    (k : ∀ G α ρ ω σ H Q, Own K mg G α ω H → Slots K mg G α ρ σ → Post K mg (RA K mg) G α H Q (fun c d H' => W c d σ H') (g ρ ω) → t σ H Q)
    (G α ρ ω σ H Q) (O : Own K mg G α ω H) (S : Slots K mg G α ρ σ) (P : Post K mg (RD K mg) G α H Q (fun c d H' => W c d σ H') (eCallB op g ρ ω)) : tCB r t σ H Q := by
  refine Post.step (t := t σ H) (k G α ρ ω σ H · O S) P fun xs ω1 vs G1 α1 H1 e1 O1 r1 P1 => ?_
  obtain ⟨d, e2, P2⟩ := P1.lift
  cases q : allD xs with
  | none => rw [q] at e2; cases e2
  | some ds =>
    rw [q] at e2
    exact B G1 H1 ds d vs Q O1.sub e2 (allD_reps q r1) fun v G' H' gr q => Post.grow O1 gr q P2
theorem de_callB {id : String} (hm : X.mg x = none) (hc : CallR X (.builtin id) r) (B : Cop X.K X.mg r op) (h : Da X W (e :: es) g) (hv : bootBuiltins x = some (.builtin id) := by decide +kernel) (hg : Gl X x := by rfl) (hn : x ≠ "__name__" := by decide) (hdb : (x == ("__debug__" : Str)) = false := by decide)
    (he : starEach (e :: es) X.env = (false, eval e X.env) :: starEach es X.env := by rfl) (hpl : (backTo pos (starEach es X.env)).any (·.1) = false := by rfl) : De X W (.Call (.Name x p) (e :: es) [] pos) (eCallB op g) := by
  obtain ⟨t, p, k⟩ := h
  exact ⟨_, pe_callB hc hg hm hv p hn hdb he hpl, cb_post B k⟩
theorem de_callTy {T : String} (hm : X.mg x = none) (hc : CallR X (.type T) r) (B : Cop X.K X.mg r op) (h : Da X W (e :: es) g) (hv : bootBuiltins x = some (.type T) := by decide +kernel) (hg : Gl X x := by rfl) (hn : x ≠ "__name__" := by decide) (hdb : (x == ("__debug__" : Str)) = false := by decide)
    (he : starEach (e :: es) X.env = (false, eval e X.env) :: starEach es X.env := by rfl) (hpl : (backTo pos (starEach es X.env)).any (·.1) = false := by rfl) : De X W (.Call (.Name x p) (e :: es) [] pos) (eCallB op g) := by
  obtain ⟨t, p, k⟩ := h
  exact ⟨_, pe_callTy hc hg hm hv p hn hdb he hpl, cb_post B k⟩
theorem cbL_post {t : TE} {K : PySem.W.Frag} {mg : MG} (B : CopL K mg r op)
    (k : ∀ G α ρ ω σ H Q, Own K mg G α ω H → Slots K mg G α ρ σ → Post K mg (RL K mg) G α H Q (fun c d H' => W c d σ H') (gl ρ ω) → t σ H Q)
    (G α ρ ω σ H Q) (O : Own K mg G α ω H) (S : Slots K mg G α ρ σ) (P : Post K mg (RD K mg) G α H Q (fun c d H' => W c d σ H') (eOnL op gl ρ ω)) : tCB r (tCons t tNil) σ H Q := by
  refine Post.step (t := t σ H) (Q1 := fun y H1 => r [y] H1 Q) (k G α ρ ω σ H · O S) P fun ds ω1 v G1 α1 H1 e1 O1 r1 P1 => ?_
  obtain ⟨d, e2, P2⟩ := P1.lift
  obtain ⟨a, vs, rfl, h1, h2⟩ := r1
  exact B G1 H1 ds d a vs Q O1.sub e2 h1 h2 fun v G' H' gr q => Post.grow O1 gr q P2
theorem de_callBL {id : String} (hm : X.mg x = none) (hc : CallR X (.builtin id) r) (B : CopL X.K X.mg r op) (h : Dl X W e gl) (hv : bootBuiltins x = some (.builtin id) := by decide +kernel) (hg : Gl X x := by rfl) (hn : x ≠ "__name__" := by decide) (hdb : (x == ("__debug__" : Str)) = false := by decide)
    (he : starEach (e :: []) X.env = (false, eval e X.env) :: starEach [] X.env := by rfl) (hpl : (backTo pos (starEach [] X.env)).any (·.1) = false := by rfl) : De X W (.Call (.Name x p) [e] [] pos) (eOnL op gl) := by
  obtain ⟨t, p, k⟩ := h
  exact ⟨_, pe_callB hc hg hm hv (pa_cons p pa_nil he) hn hdb he hpl, cbL_post B k⟩
end
def asBls : List D → Option (List Bool)
  | [] => some []
  | .bl b :: ds => (asBls ds).map (b :: ·)
  | _ :: _ => none
def asInts : List D → Option (List Int)
  | [] => some []
  | .int b :: ds => (asInts ds).map (b :: ·)
  | _ :: _ => none
def oLen : List D → Option D
  | [.tup ds] => some (.int ds.length)
  | [.lst ds] => some (.int ds.length)
  | [.str z] => if z.length ≤ lim then some (.int z.length) else none
  | _ => none
def oLenL (ds : List D) : Option D := some (.int ds.length)
def oAllL (ds : List D) : Option D := (asBls ds).map fun bs => .bl (bs.all id)
def oAnyL (ds : List D) : Option D := (asBls ds).map fun bs => .bl (bs.any id)
def oSumL (ds : List D) : Option D := (asInts ds).map fun ns => .int ns.sum
def oInt : List D → Option D
  | [.int i] => some (.int i)
  | [.bl b] => some (.int (if b then 1 else 0))
  | _ => none
def oTuple : List D → Option D
  | [.tup ds] => some (.tup ds)
  | [.lst ds] => some (.tup ds)
  | _ => none
def oTupleL (ds : List D) : Option D := some (.tup ds)
def oList : List D → Option D
  | [.tup ds] => some (.lst ds)
  | [.lst ds] => some (.lst ds)
  | _ => none
def oListL (ds : List D) : Option D := some (.lst ds)
section
variable {K : PySem.W.Frag} {mg : MG} {G H : Hp} {X : Cx}
theorem asBls_reps : ∀ {ds : List D} {bs : List Bool} {vs : List V}, asBls ds = some bs → Reps K mg G ds vs → vs = bs.map V.bl
  | [], bs, vs, e, r => by cases e; exact reps_nil.mp r
  | d :: ds, bs, vs, e, r => by
    rw [reps_cons] at r
    obtain ⟨v, rr, rfl, h1, h2⟩ := r
    cases d with
    | bl b =>
      unfold asBls at e
      cases q : asBls ds with
      | none => rw [q] at e; cases e
      | some bs' =>
        rw [q] at e; cases e
        rw [rep_bl] at h1
        rw [h1, asBls_reps q h2]; rfl
    | _ => cases e
theorem asInts_reps : ∀ {ds : List D} {bs : List Int} {vs : List V}, asInts ds = some bs → Reps K mg G ds vs → vs = bs.map V.int
  | [], bs, vs, e, r => by cases e; exact reps_nil.mp r
  | d :: ds, bs, vs, e, r => by
    rw [reps_cons] at r
    obtain ⟨v, rr, rfl, h1, h2⟩ := r
    cases d with
    | int b =>
      unfold asInts at e
      cases q : asInts ds with
      | none => rw [q] at e; cases e
      | some bs' =>
        rw [q] at e; cases e
        rw [rep_int] at h1
        rw [h1, asInts_reps q h2]; rfl
    | _ => cases e
theorem reps1 {d : D} {vs : List V} (r : Reps K mg G [d] vs) : ∃ v, vs = [v] ∧ Rep K mg G d v := by
  rw [reps_cons] at r
  obtain ⟨v, rr, rfl, h1, h2⟩ := r
  rw [reps_nil] at h2; subst h2
  exact ⟨v, rfl, h1⟩
theorem reps2 {d e : D} {vs : List V} (r : Reps K mg G [d, e] vs) : ∃ v u, vs = [v, u] ∧ Rep K mg G d v ∧ Rep K mg G e u := by
  rw [reps_cons] at r
  obtain ⟨v, rr, rfl, h1, h2⟩ := r
  obtain ⟨u, rfl, h3⟩ := reps1 h2
  exact ⟨v, u, rfl, h1, h3⟩
theorem cop_len : Cop K mg (fun xs H Q => ∃ x n, xs = [x] ∧ LenV K x H n ∧ Q (.int n) H) oLen := by
  intro G H ds d vs Q s e r k
  unfold oLen at e
  split at e
  · cases e
    obtain ⟨v, rfl, h1⟩ := reps1 r
    rw [rep_tup] at h1
    obtain ⟨a, us, rfl, q, h2⟩ := h1
    exact ⟨_, _, rfl, .inr ⟨us, Same.sqT s q, rfl⟩, k _ G H (Grow.refl s) (rep_int.mpr (by rw [h2.length]))⟩
  · cases e
    obtain ⟨v, rfl, h1⟩ := reps1 r
    rw [rep_lst] at h1
    obtain ⟨a, us, rfl, q, h2⟩ := h1
    exact ⟨_, _, rfl, .inl ⟨us, s.seq q, rfl⟩, k _ G H (Grow.refl s) (rep_int.mpr (by rw [h2.length]))⟩
  · split at e
    · rename_i hl
      cases e
      obtain ⟨v, rfl, h1⟩ := reps1 r
      rw [rep_str] at h1
      subst h1
      exact ⟨_, _, rfl, ⟨by rw [lim_eq]; exact hl, rfl⟩, k _ G H (Grow.refl s) (rep_int.mpr rfl)⟩
    · cases e
  · cases e
theorem copL_all : CopL K mg (rAll K) oAllL := by
  intro G H ds d a vs Q s e q r k
  unfold oAllL at e
  cases q1 : asBls ds with
  | none => rw [q1] at e; cases e
  | some bs =>
    rw [q1] at e; cases e
    have := asBls_reps q1 r
    subst this
    exact ⟨a, bs, rfl, q, k _ G H (Grow.refl s) (rep_bl.mpr rfl)⟩
theorem copL_sum : CopL K mg (rSum K) oSumL := by
  intro G H ds d a vs Q s e q r k
  unfold oSumL at e
  cases q1 : asInts ds with
  | none => rw [q1] at e; cases e
  | some bs =>
    rw [q1] at e; cases e
    have := asInts_reps q1 r
    subst this
    exact ⟨a, bs, rfl, q, k _ G H (Grow.refl s) (rep_int.mpr rfl)⟩
theorem cop_int : Cop K mg (fun xs H Q => (∃ i, xs = [V.int i] ∧ Q (.int i) H) ∨ ∃ k, xs = [V.bl k] ∧ Q (.int (if k then 1 else 0)) H) oInt := by
  intro G H ds d vs Q s e r k
  unfold oInt at e
  split at e
  · cases e
    obtain ⟨v, rfl, h1⟩ := reps1 r
    rw [rep_int] at h1
    subst h1
    exact .inl ⟨_, rfl, k _ G H (Grow.refl s) (rep_int.mpr rfl)⟩
  · cases e
    obtain ⟨v, rfl, h1⟩ := reps1 r
    rw [rep_bl] at h1
    subst h1
    exact .inr ⟨_, rfl, k _ G H (Grow.refl s) (rep_int.mpr rfl)⟩
  · cases e
abbrev rTupleOf (K : PySem.W.Frag) : List V → Hp → VK → Prop := fun xs H Q => ∃ p ys, xs = [.ref p] ∧ ((SqL K H p ys ∧ ∀ l, H l = none → Q (.ref l) (L2.upd H l (.tup ys))) ∨ (SqT K H p ys ∧ Q (.ref p) H))
abbrev rListOf (K : PySem.W.Frag) : List V → Hp → VK → Prop := fun xs H Q => ∃ p ys, xs = [.ref p] ∧ (SqL K H p ys ∨ SqT K H p ys) ∧ ∀ l, H l = none → Q (.ref l) (L2.upd H l (.lst ys))
theorem copL_tuple : CopL K mg (rTupleOf K) oTupleL := by
  intro G H ds d a vs Q s e q r k
  cases e
  exact ⟨a, vs, rfl, .inl ⟨q, fun l hl => k _ _ _ (Grow.put s hl) (rep_newT (H := H) (s.free hl) r)⟩⟩
theorem cop_tuple : Cop K mg (rTupleOf K) oTuple := by
  intro G H ds d vs Q s e r k
  unfold oTuple at e
  split at e
  · cases e
    obtain ⟨v, rfl, h1⟩ := reps1 r
    have h1' := h1
    rw [rep_tup] at h1
    obtain ⟨a, us, rfl, q, h2⟩ := h1
    exact ⟨a, us, rfl, .inr ⟨Same.sqT s q, k _ G H (Grow.refl s) h1'⟩⟩
  · cases e
    obtain ⟨v, rfl, h1⟩ := reps1 r
    rw [rep_lst] at h1
    obtain ⟨a, us, rfl, q, h2⟩ := h1
    exact copL_tuple G H _ _ a us Q s rfl (s.seq q) h2 k
  · cases e
theorem copL_list : CopL K mg (rListOf K) oListL := by
  intro G H ds d a vs Q s e q r k
  cases e
  exact ⟨a, vs, rfl, .inl q, fun l hl => k _ _ _ (Grow.put s hl) (rep_newL (H := H) (s.free hl) r)⟩
theorem cop_list : Cop K mg (rListOf K) oList := by
  intro G H ds d vs Q s e r k
  unfold oList at e
  split at e
  · cases e
    obtain ⟨v, rfl, h1⟩ := reps1 r
    rw [rep_tup] at h1
    obtain ⟨a, us, rfl, q, h2⟩ := h1
    exact ⟨a, us, rfl, .inr (Same.sqT s q), fun l hl => k _ _ _ (Grow.put s hl) (rep_newL (H := H) (s.free hl) h2)⟩
  · cases e
    obtain ⟨v, rfl, h1⟩ := reps1 r
    rw [rep_lst] at h1
    obtain ⟨a, us, rfl, q, h2⟩ := h1
    exact copL_list G H _ _ a us Q s rfl (s.seq q) h2 k
  · cases e
end
def tyD : D → Option String
  | .non => some "NoneType"
  | .bl _ => some "bool"
  | .int _ => some "int"
  | .str _ => some "str"
  | .tup _ => some "tuple"
  | .lst _ => some "list"
  | _ => none
def isTy (t u : String) : Bool := t == u || (t == "bool" && u == "int")
def tyNames : List String := ["NoneType", "bool", "int", "str", "tuple", "list"]
def isiD (u : String) (d : D) : Option D := (tyD d).map fun t => .bl (isTy t u)
def eIsi (u : String) (f : FE D) : FE D := fun ρ ω => (f ρ ω).bind fun d ω1 => Res.lift (isiD u d) ω1
section
variable {K : PySem.W.Frag} {mg : MG} {G H : Hp} {X : Cx} {W : WX}
theorem tyD_of (s : Same G H) : ∀ {d : D} {t : String} {v : V}, tyD d = some t → Rep K mg G d v → TyX K H v (.type t)
  | .non, t, v, e, r => by cases e; rw [rep_non] at r; subst r; exact .base .non
  | .bl b, t, v, e, r => by cases e; rw [rep_bl] at r; subst r; exact .base (.bl b)
  | .int b, t, v, e, r => by cases e; rw [rep_int] at r; subst r; exact .base (.int b)
  | .str b, t, v, e, r => by cases e; rw [rep_str] at r; subst r; exact .base (.str b)
  | .tup ds, t, v, e, r => by
    cases e
    rw [rep_tup] at r
    obtain ⟨a, vs, rfl, q, _⟩ := r
    rcases Same.sqT s q with (h | ⟨o, h⟩) | ⟨o, its, n, h1, h2, _⟩
    · exact .base (.tup h)
    · exact .fTuple h
    · exact .kTuple h1 h2
  | .lst ds, t, v, e, r => by
    cases e
    rw [rep_lst] at r
    obtain ⟨a, vs, rfl, q, _⟩ := r
    rcases s.seq q with (h | ⟨o, h⟩) | ⟨o, its, n, h1, h2, _⟩
    · exact .base (.lst h)
    · exact .base (.frz h)
    · exact .kList h1 h2
  | .obj _ _, t, v, e, r => by cases e
  | .dcK _, t, v, e, r => by cases e
  | .dcN _, t, v, e, r => by cases e
def TyAsk (K : PySem.W.Frag) (u : String) : Prop := ∀ t ∈ tyNames, PySem.W.kitOne K (.type t) (.type u) = some (isTy t u)
theorem tyD_names : ∀ {d : D} {t : String}, tyD d = some t → t ∈ tyNames
  | .non, t, e => by cases e; decide
  | .bl b, t, e => by cases e; decide
  | .int b, t, e => by cases e; decide
  | .str b, t, e => by cases e; decide
  | .tup ds, t, e => by cases e; decide
  | .lst ds, t, e => by cases e; decide
  | .obj _ _, t, e => by cases e
  | .dcK _, t, e => by cases e
  | .dcN _, t, e => by cases e
theorem de_isi {e : Expr} {f : FE D} {x : Str} {u : String} {p p2 pos : Pos} (hi : X.mg "isinstance" = none) (hx : X.mg x = none) (ask : TyAsk X.K u) (h : De X W e f) (hv : bootBuiltins x = some (.type u) := by decide +kernel) (hgx : Gl X x := by rfl) (hn : x ≠ "__name__" := by decide) (hdb : (x == ("__debug__" : Str)) = false := by decide)
    (hg : Gl X "isinstance" := by rfl) (he : starEach (e :: [.Name x p2]) X.env = (false, eval e X.env) :: starEach [.Name x p2] X.env := by rfl) (he2 : starEach (.Name x p2 :: []) X.env = (false, eval (.Name x p2) X.env) :: starEach [] X.env := by rfl)
    (hpl : (backTo pos (starEach [.Name x p2] X.env)).any (·.1) = false := by rfl) (hvi : bootBuiltins "isinstance" = some (.builtin "isinstance") := by decide +kernel) :
    De X W (.Call (.Name "isinstance" p) [e, .Name x p2] [] pos) (eIsi u f) := by
  obtain ⟨t, q, k⟩ := h
  refine ⟨_, pe_callB call_isi hg hi hvi (pa_cons q (pa_cons (pe_bltn (v := .ty u) hgx hx hv rfl hn hdb) pa_nil he2) he) (by decide) (by decide) he hpl, fun G α ρ ω σ H Q O S P => ?_⟩
  refine Post.step (t := t σ H) (k G α ρ ω σ H · O S) P fun d ω1 v G1 α1 H1 e1 O1 r1 P1 => ?_
  obtain ⟨b, e2, P2⟩ := P1.lift
  unfold isiD at e2
  cases q1 : tyD d with
  | none => rw [q1] at e2; cases e2
  | some tt =>
    rw [q1] at e2; cases e2
    exact ⟨v, .ty u, .type tt, .type u, _, rfl, .ty u, tyD_of O1.sub q1 r1, ask tt (tyD_names q1), Post.here O1 (show Rep X.K X.mg G1 _ _ from rep_bl.mpr rfl) P2⟩
end
end Dl
namespace Dl
open PySem L2
abbrev FnP := List D → Option (Except Exn D)
abbrev Fn := List SV → Om → Res SV
def rho0 (m : Nat) (xs : List SV) : Rho := xs.map some ++ List.replicate (m - xs.length) none
def fnP (n m : Nat) (fb : FS) : FnP := fun ds => if ds.length = n then (match fb (rho0 m (ds.map SV.val)) [] with
    | .ret (.val d) _ => some (.ok d)
    | .next _ _ => some (.ok .non)
    | .exc x _ _ => some (.error x)
    | _ => none) else none
def fnE (n m : Nat) (fb : FS) : Fn := fun xs ω => if xs.length = n then (match fb (rho0 m xs) ω with
    | .ret (.val d) ω' => .ok (.val d) (ω'.take ω.length)
    | .ret (.exc z) ω' => .ok (.exc z) (ω'.take ω.length)
    | .ret (.own k) ω' => if k < ω.length then .ok (.own k) (ω'.take ω.length) else if k = ω.length then .ok (.own k) (ω'.take (ω.length + 1)) else .stuck
    | .next _ ω' => .ok (.val .non) (ω'.take ω.length)
    | .exc x _ ω' => .exc x (ω'.take ω.length)
    | _ => .stuck) else .stuck
section
variable (K : PySem.W.Frag) (mg : MG)
def spP (F : FnP) : Sp := fun vs H Q E => ∃ G ds, Same G H ∧ Reps K mg G ds vs ∧ (match F ds with
  | none => False
  | some (.ok d) => ∀ v G' H', Grow G H G' H' → Rep K mg G' d v → Q v H'
  | some (.error x) => ∀ c dd G' H', Grow G H G' H' → RepX K mg G' x c dd → E c dd H')
def spE (F : Fn) : Sp := fun vs H Q E => ∃ G α ω xs, Own K mg G α ω H ∧ RepVs K mg G α xs vs ∧ Post K mg (RS K mg) G α H Q E (F xs ω)
end
section
variable {K : PySem.W.Frag} {mg : MG}
theorem slots0 {G : Hp} {α : List Addr} {N : List Str} {xs : List SV} {vs : List V} (r : RepVs K mg G α xs vs) : Slots K mg G α (rho0 N.length xs) (L2.start N vs) := by
  have hl : xs.length = vs.length := RepVs.length r
  refine ⟨by simp [rho0, L2.start, hl], fun i x e => ?_⟩
  unfold rho0 at e
  unfold L2.start
  by_cases h : i < xs.length
  · rw [List.getElem?_append_left (by simpa using h), List.getElem?_map] at e
    rw [List.getElem?_append_left (by simp; omega), List.getElem?_map]
    cases q : xs[i]? with
    | none => rw [q] at e; cases e
    | some y =>
      rw [q] at e
      cases e
      have get : ∀ {xs : List SV} {vs : List V} {i : Nat} {y : SV}, RepVs K mg G α xs vs → xs[i]? = some y → ∃ v, vs[i]? = some v ∧ RepV K mg G α y v := by
        intro xs vs i y r
        induction r generalizing i with
        | nil => intro e; simp at e
        | cons h t ih =>
          intro e
          cases i with
          | zero => simp at e; subst e; exact ⟨_, rfl, h⟩
          | succ i => simp at e; simpa using ih e
      obtain ⟨v, h1, h2⟩ := get r q
      rw [h1]
      exact ⟨v, rfl, h2⟩
  · rw [List.getElem?_append_right (by simp; omega)] at e
    exfalso
    have := List.mem_of_getElem? e
    rw [List.mem_replicate] at this
    cases this.2
theorem repVs_val {G : Hp} {α : List Addr} : ∀ {ds : List D} {vs : List V}, Reps K mg G ds vs → RepVs K mg G α (ds.map SV.val) vs
  | [], vs, r => by rw [reps_nil] at r; subst r; exact .nil
  | d :: ds, vs, r => by
    rw [reps_cons] at r
    obtain ⟨v, rr, rfl, h1, h2⟩ := r
    exact .cons h1 (repVs_val h2)
theorem Ext.grow {G H G' H' : Hp} {α' : List Addr} {ω' : Om} (e : Ext G [] H G' α' H') (O : Own K mg G' α' ω' H') : Grow G H G' H' :=
  ⟨e.g, fun a o h => e.keep a o h (by simp), O.sub, fun a o h => by
    rcases e.new a o h with z | z | z
    · exact .inl z
    · exact .inr z
    · simp at z⟩
theorem Own.take {G H : Hp} {α : List Addr} {ω : Om} (O : Own K mg G α ω H) (n : Nat) : Own K mg G (α.take n) (ω.take n) H := by
  refine ⟨O.sub, by simp [O.len], O.nd.sublist (List.take_sublist _ _), fun a ha => O.ex a (List.mem_of_mem_take ha), fun k o a h1 h2 => ?_⟩
  rw [List.getElem?_take] at h1 h2
  split at h1
  · rename_i hk
    rw [if_pos hk] at h2
    exact O.obj k o a h1 h2
  · cases h1
theorem Ext.take {G H G' H' : Hp} {α α' : List Addr} (e : Ext G α H G' α' H') {n : Nat} (hn : α.length ≤ n) : Ext G α H G' (α'.take n) H' := by
  obtain ⟨more, h1, h2⟩ := e.pre
  refine ⟨e.g, e.new, e.keep, e.live, more.take (n - α.length), ?_, fun a ha => h2 a (List.mem_of_mem_take ha)⟩
  rw [h1, List.take_append, List.take_of_length_le hn]
end
section
variable {P : Program} {w : World} {K : PySem.W.Frag} {mg : Str → Option Value} {base : Heap}
theorem fn_okP {x qual : Str} {st : Stmt} {f : Addr} {fd : FuncData} {N ps : List Str} {k n : Nat} {fb : FS} (F : Fun K x qual st f fd) (S : FnScope N ps (defScope st)) (hn : ps.length = n)
    (hbody : ∀ (cdv : Value) (A : Around) (outer : List Env) (s : Shared) (H : Hp) (E : XK), Room k (A.deeper (PyProof.Rows.envOfC qual (defScope st) s.heap.objs.size f cdv)) →
      Dss (cxOf (L2.CX P w) P w K mg base N qual (defScope st) f cdv A outer s H E) (fun c d _ H' => E c d H') (defBody st) fb) : FnOk P w K mg base (L2.CX P w) (k + 1) f fd ps (spP K mg (fnP n N.length fb)) := by
  refine F.okX S (fun vs H Q E h => ?_) (fun cdv A outer s H vs Q E hr h => ?_)
  · obtain ⟨G, ds, s, r, h⟩ := h
    unfold fnP at h
    by_cases e : ds.length = n
    · rw [r.length, e, hn]
    · rw [if_neg e] at h; exact h.elim
  · obtain ⟨G, ds, sm, r, h⟩ := h
    obtain ⟨t, p, kk⟩ := hbody cdv A outer s H E hr
    refine ⟨t, p, kk G [] (rho0 N.length (ds.map SV.val)) [] _ H _ (Own.nil sm) (slots0 (repVs_val r)) ?_⟩
    unfold fnP at h
    by_cases e : ds.length = n
    · rw [if_pos e] at h
      cases q : fb (rho0 N.length (ds.map SV.val)) [] with
      | stuck => rw [q] at h; exact h.elim
      | brk _ _ => rw [q] at h; exact h.elim
      | cont _ _ => rw [q] at h; exact h.elim
      | next ρ' ω' =>
        rw [q] at h
        exact fun σ' G' α' H' e' O' S' => h .non G' H' (e'.grow O') (rep_non.mpr rfl)
      | ret x ω' =>
        rw [q] at h
        cases x with
        | own k => exact h.elim
        | exc z => exact h.elim
        | val d => exact fun v G' α' H' e' O' r' => h v G' H' (e'.grow O') r'
      | exc x ρ' ω' =>
        rw [q] at h
        exact fun c dd σ' G' α' H' e' O' S' r' => h c dd G' H' (e'.grow O') r'
    · rw [if_neg e] at h; exact h.elim
theorem fn_okE {x qual : Str} {st : Stmt} {f : Addr} {fd : FuncData} {N ps : List Str} {k n : Nat} {fb : FS} (F : Fun K x qual st f fd) (S : FnScope N ps (defScope st)) (hn : ps.length = n)
    (hbody : ∀ (cdv : Value) (A : Around) (outer : List Env) (s : Shared) (H : Hp) (E : XK), Room k (A.deeper (PyProof.Rows.envOfC qual (defScope st) s.heap.objs.size f cdv)) →
      Dss (cxOf (L2.CX P w) P w K mg base N qual (defScope st) f cdv A outer s H E) (fun c d _ H' => E c d H') (defBody st) fb) : FnOk P w K mg base (L2.CX P w) (k + 1) f fd ps (spE K mg (fnE n N.length fb)) := by
  refine F.okX S (fun vs H Q E h => ?_) (fun cdv A outer s H vs Q E hr h => ?_)
  · obtain ⟨G, α, ω, xs, O, r, h⟩ := h
    unfold fnE at h
    by_cases e : xs.length = n
    · rw [← RepVs.length r, e, hn]
    · rw [if_neg e] at h; exact h.elim
  · obtain ⟨G, α, ω, xs, O, r, h⟩ := h
    obtain ⟨t, p, kk⟩ := hbody cdv A outer s H E hr
    refine ⟨t, p, kk G α (rho0 N.length xs) ω _ H _ O (slots0 r) ?_⟩
    unfold fnE at h
    by_cases e : xs.length = n
    · rw [if_pos e] at h
      cases q : fb (rho0 N.length xs) ω with
      | stuck => rw [q] at h; exact h.elim
      | brk _ _ => rw [q] at h; exact h.elim
      | cont _ _ => rw [q] at h; exact h.elim
      | next ρ' ω' =>
        rw [q] at h
        exact fun σ' G' α' H' e' O' S' => h .non G' (α'.take ω.length) H' (e'.take (by rw [O.len]; exact Nat.le_refl _)) (O'.take _) (show Rep K mg G' .non .non from rep_non.mpr rfl)
      | ret x ω' =>
        rw [q] at h
        cases x with
        | val d => exact fun v G' α' H' e' O' r' => h v G' (α'.take ω.length) H' (e'.take (by rw [O.len]; exact Nat.le_refl _)) (O'.take _) r'
        | exc z => exact fun v G' α' H' e' O' r' => h v G' (α'.take ω.length) H' (e'.take (by rw [O.len]; exact Nat.le_refl _)) (O'.take _) r'
        | own k =>
          dsimp only at h
          intro v G' α' H' e' O' r'
          obtain ⟨a, h1, rfl⟩ := r'
          by_cases hk : k < ω.length
          · rw [if_pos hk] at h
            exact h (.ref a) G' (α'.take ω.length) H' (e'.take (by rw [O.len]; exact Nat.le_refl _)) (O'.take _) ⟨a, by rw [List.getElem?_take, if_pos hk]; exact h1, rfl⟩
          · rw [if_neg hk] at h
            by_cases hk2 : k = ω.length
            · rw [if_pos hk2] at h
              exact h (.ref a) G' (α'.take (ω.length + 1)) H' (e'.take (by rw [O.len]; exact Nat.le_succ _)) (O'.take _) ⟨a, by rw [List.getElem?_take, if_pos (by omega)]; exact h1, rfl⟩
            · rw [if_neg hk2] at h; exact h.elim
      | exc x ρ' ω' =>
        rw [q] at h
        exact fun c dd σ' G' α' H' e' O' S' r' => h c dd G' (α'.take ω.length) H' (e'.take (by rw [O.len]; exact Nat.le_refl _)) (O'.take _) r'
    · rw [if_neg e] at h; exact h.elim
end
def eCallP (F : FnP) (g : FE (List SV)) : FE D := fun ρ ω => (g ρ ω).bind fun xs ω1 => match allD xs with
  | none => .stuck
  | some ds => match F ds with
    | none => .stuck
    | some (.ok d) => .ok d ω1
    | some (.error x) => .exc x ω1
def eCallE (F : Fn) (g : FE (List SV)) : FE SV := fun ρ ω => (g ρ ω).bind F
def eVal (f : FE SV) : FE D := fun ρ ω => (f ρ ω).bind fun x ω1 => match x with
  | .val d => .ok d ω1
  | .own _ => .stuck
  | .exc _ => .stuck
section
variable {X : Cx} {W : WX} {k : Nat} {f : Addr} {fd : FuncData} {ps : List Str} {x : Str} {e : Expr} {es : List Expr} {p pos : Pos} {g : FE (List SV)}
theorem de_val {fv : FE SV} (h : Dv X W e fv) : De X W e (eVal fv) := by
  obtain ⟨t, p, j⟩ := h
  refine ⟨t, p, fun G α ρ ω σ H Q O S P => ?_⟩
  refine Post.step (t := t σ H) (j G α ρ ω σ H · O S) P fun x ω1 v G1 α1 H1 e1 O1 r1 P1 => ?_
  cases x with
  | own k => exact P1.elim
  | exc k => exact P1.elim
  | val d => exact Post.here O1 (show Rep X.K X.mg G1 d v from r1) P1
structure Clb (X : Cx) (k : Nat) (x : Str) (f : Addr) (fd : FuncData) (ps : List Str) (sp : Sp) : Prop where
  ok : FnOk X.prog X.w X.K X.mg X.base (L2.CX X.prog X.w) k f fd ps sp
  gl : X.mg x = some (.ref f)
  kp : PySem.W.keepIn X.K (.ref f) = true
  bd : Binds X.K fd ps []
theorem de_call {F : FnP} (tk : Takes X W) (hr : Room k X.A) (C : Clb X k x f fd ps (spP X.K X.mg F)) (h : Da X W (e :: es) g) (hg : Gl X x := by rfl) (hdb : (x == ("__debug__" : Str)) = false := by decide) (he : starEach (e :: es) X.env = (false, eval e X.env) :: starEach es X.env := by rfl)
    (hpl : (backTo pos (starEach es X.env)).any (·.1) = false := by rfl) : De X W (.Call (.Name x p) (e :: es) [] pos) (eCallP F g) := by
  obtain ⟨t, q, j⟩ := h
  refine ⟨_, pe_callSD (dvs := []) (E := WE W) C.ok hr hg C.gl C.kp C.bd .nil (fun σ => passAt tk σ) q hdb he hpl, fun G α ρ ω σ H Q O S P => ?_⟩
  refine Post.step (t := t σ H) (j G α ρ ω σ H · O S) P fun xs ω1 vs G1 α1 H1 e1 O1 r1 P1 => ?_
  rw [List.append_nil]
  cases q1 : allD xs with
  | none => rw [q1] at P1; exact P1.elim
  | some ds =>
    rw [q1] at P1; dsimp only at P1
    refine ⟨G1, ds, O1.sub, allD_reps q1 r1, ?_⟩
    cases q2 : F ds with
    | none => rw [q2] at P1; exact P1.elim
    | some y =>
      rw [q2] at P1
      cases y with
      | ok d => exact fun v G' H' gr r => Post.grow O1 gr (show Rep X.K X.mg G' d v from r) P1
      | error z => exact fun c dd G' H' gr r => P1 c dd G' α1 H' gr.ext (O1.grow gr) r
theorem dv_callE {F : Fn} (tk : Takes X W) (hr : Room k X.A) (C : Clb X k x f fd ps (spE X.K X.mg F)) (h : Da X W (e :: es) g) (hg : Gl X x := by rfl) (hdb : (x == ("__debug__" : Str)) = false := by decide) (he : starEach (e :: es) X.env = (false, eval e X.env) :: starEach es X.env := by rfl)
    (hpl : (backTo pos (starEach es X.env)).any (·.1) = false := by rfl) : Dv X W (.Call (.Name x p) (e :: es) [] pos) (eCallE F g) := by
  obtain ⟨t, q, j⟩ := h
  refine ⟨_, pe_callSD (dvs := []) (E := WE W) C.ok hr hg C.gl C.kp C.bd .nil (fun σ => passAt tk σ) q hdb he hpl, fun G α ρ ω σ H Q O S P => ?_⟩
  refine Post.step (t := t σ H) (j G α ρ ω σ H · O S) P fun xs ω1 vs G1 α1 H1 e1 O1 r1 P1 => ?_
  rw [List.append_nil]
  exact ⟨G1, α1, ω1, xs, O1, r1, P1⟩
end
def eMake (c : Str) (F : Fn) (g : FE (List SV)) : FE D := fun ρ ω => (g ρ ω).bind fun xs ω1 => match allD xs with
  | none => .stuck
  | some ds => match F (.own 0 :: ds.map SV.val) [some (.ins c [])] with
    | .ok (.val .non) [some (.ins c' fs)] => .ok (.obj c' fs) ω1
    | .exc x _ => .exc x ω1
    | _ => .stuck
section
variable {X : Cx} {CX : CXT} {k : Nat} {f C : Addr} {fd : FuncData} {ps : List Str} {sp : Sp} {dvs : List V} {ds : List Value} {E : St → XK} {x : Str} {p pos : Pos} {e : Expr} {es : List Expr} {t : TA}
def tMakeS (C : Addr) (sp : Sp) (E : St → XK) (t : TA) : TE := fun σ H Q => t σ H fun vs H1 => ∀ x dx, H1 x = none → H1 dx = none → dx ≠ x →
  sp (.ref x :: vs) (L2.upd (L2.upd H1 dx (.own x)) x (.ins C dx [])) (fun v H2 => v = .non ∧ Q (.ref x) H2) (E σ)
theorem run_makeS {pins : List (Addr × Obj)} {σ : St} {H : Hp} {s : Shared} {Q : VK} {us : List Value} {vs : List V} (M : Mk X.K C f) (F : FnOk X.prog X.w X.K X.mg X.base CX k f fd ps sp) (hr : Room (k + 1) X.A) (hb : Binds X.K fd ps [])
    (hx : PassesAt CX X σ (E σ)) (I : Inv X pins σ H s) (r : Vals vs us)
    (h : ∀ x dx, H x = none → H dx = none → dx ≠ x → sp (.ref x :: vs) (L2.upd (L2.upd H dx (.own x)) x (.ins C dx [])) (fun v H2 => v = .non ∧ Q (.ref x) H2) (E σ)) :
    wpAny (model X.prog X.w) X.A (call (.ref C) us) (EP X pins σ Q) X.xe s := by
  have hq := h (s.heap.objs.size + 1) s.heap.objs.size (I.hok.fresh (Nat.le_succ _)) (I.hok.fresh (Nat.le_refl _)) (Nat.ne_of_lt (Nat.lt_succ_self _))
  have I2 := Inv.made (C := C) I
  have r2 : Vals (V.ref (s.heap.objs.size + 1) :: vs) (Value.ref (s.heap.objs.size + 1) :: us) := .cons rfl r
  have hl : (Value.ref (s.heap.objs.size + 1) :: us ++ []).length = ps.length := by
    have e := r2.length
    rw [F.len _ _ _ _ hq] at e
    rw [List.append_nil]
    exact e.symm
  have bb := hb _ (Value.ref (s.heap.objs.size + 1) :: us) I2.kIn hl
  rw [List.append_nil] at bb
  refine wpAny_call (make_map (f := f) I.kIn M.makes M.init (beq_iff_eq.mp M.fn) (codeAny_mono (F.run _ X.stack _ _ ⟨Value.ref (s.heap.objs.size + 1) :: us, []⟩ (Value.ref (s.heap.objs.size + 1) :: us) _ _ (E σ) (hr.make C us [])
    (I2.env0.make C us []) bb r2 hq) fun r s' hq' => ?_))
  cases r with
  | error e => exact hx pins _ _ e s' I2 hq'
  | ok fl =>
    cases fl with
    | ret u =>
      obtain ⟨v, H', I3, rv, ev, q3⟩ := I2.after hq'
      subst ev
      exact ⟨rv, ⟨V.ref (s.heap.objs.size + 1), H', I3, rfl, q3⟩⟩
    | next => exact False.elim hq'
    | brk => exact False.elim hq'
    | cont => exact False.elim hq'
theorem pe_makeS (M : Mk X.K C f) (F : FnOk X.prog X.w X.K X.mg X.base CX k f fd ps sp) (hr : Room (k + 1) X.A) (hg : Gl X x) (hm : X.mg x = some (.ref C)) (hb : Binds X.K fd ps []) (hx : ∀ σ, PassesAt CX X σ (E σ))
    (ha : PA X (e :: es) t) (hdb : (x == ("__debug__" : Str)) = false := by decide) (he : starEach (e :: es) X.env = (false, eval e X.env) :: starEach es X.env := by rfl) (hpl : (backTo pos (starEach es X.env)).any (·.1) = false := by rfl) :
    PE X (.Call (.Name x p) (e :: es) [] pos) (tMakeS C sp E t) := by
  refine ⟨fun pins s σ H Q I h => ?_⟩
  refine wpAny_Call_Name_kw (ld_glob I hg hm ?_ hdb)
  refine PySem.W.callWith_K (h₀ := X.base) I.ok.mod.kin M.kp (thn (ha.run pos pins s σ H _ I h) fun us s1 ⟨vs, H1, I1, r, q⟩ => ⟨I1.kIn, ?_⟩) he hpl
  exact run_makeS M F hr hb (hx σ) I1 r q
end
section
variable {X : Cx} {W : WX} {k : Nat} {f C : Addr} {fd : FuncData} {ps : List Str} {x : Str} {e : Expr} {es : List Expr} {p pos : Pos} {g : FE (List SV)}
theorem made_own {K : PySem.W.Frag} {mg : MG} {G H : Hp} {a dx C : Addr} {c : Str} (s : Same G H) (hc : mg c = some (.ref C)) (ha : H a = none) (hd : H dx = none) (ne : dx ≠ a) :
    Own K mg G [a] [some (.ins c [])] (L2.upd (L2.upd H dx (.own a)) a (.ins C dx [])) := by
  have ha' : (L2.upd H dx (.own a)) a = none := by rw [upd_ne ne.symm]; exact ha
  have s1 : Same G (L2.upd H dx (.own a)) := s.trans (Same.upd hd)
  exact ((Own.nil (K := K) (mg := mg) s1).new (o := .ins c []) ha' ⟨C, dx, [], hc, upd_same, repF_nil.mpr rfl⟩).1
theorem de_make {F : Fn} (tk : Takes X W) (hr : Room (k + 1) X.A) (M : Mk X.K C f) (ok : FnOk X.prog X.w X.K X.mg X.base (L2.CX X.prog X.w) k f fd ps (spE X.K X.mg F)) (hm : X.mg x = some (.ref C)) (hb : Binds X.K fd ps []) (h : Da X W (e :: es) g)
    (hg : Gl X x := by rfl) (hdb : (x == ("__debug__" : Str)) = false := by decide) (he : starEach (e :: es) X.env = (false, eval e X.env) :: starEach es X.env := by rfl)
    (hpl : (backTo pos (starEach es X.env)).any (·.1) = false := by rfl) : De X W (.Call (.Name x p) (e :: es) [] pos) (eMake x F g) := by
  obtain ⟨t, q, j⟩ := h
  refine ⟨_, pe_makeS (E := WE W) M ok hr hg hm hb (fun σ => passAt tk σ) q hdb he hpl, fun G α ρ ω σ H Q O S P => ?_⟩
  refine Post.step (t := t σ H) (j G α ρ ω σ H · O S) P fun xs ω1 vs G1 α1 H1 e1 O1 r1 P1 => ?_
  intro a dx ha hd ne
  cases q1 : allD xs with
  | none => rw [q1] at P1; exact P1.elim
  | some ds =>
    rw [q1] at P1; dsimp only at P1
    have hr1 := allD_reps q1 r1
    have O2 := made_own (K := X.K) (c := x) O1.sub hm ha hd ne
    have hH : Same H1 (L2.upd (L2.upd H1 dx (.own a)) a (.ins C dx [])) := (Same.upd hd).trans (Same.upd (by rw [upd_ne ne.symm]; exact ha))
    -- what is known at the end of __init__, seen from the caller
    have back : ∀ {G' α' H' ω'}, Ext G1 [a] (L2.upd (L2.upd H1 dx (.own a)) a (.ins C dx [])) G' α' H' → Own X.K X.mg G' α' ω' H' → Grow G1 H1 G' H' := fun {G' α' H' ω'} e' O' => by
      refine ⟨e'.g, fun b o h => e'.keep b o (hH b o h) (fun z => ?_), O'.sub, fun b o h => ?_⟩
      · rw [List.mem_singleton.mp z, ha] at h; cases h
      · rcases e'.new b o h with z | z | z
        · exact .inl z
        · refine .inr ?_
          cases q : H1 b with
          | none => rfl
          | some o' => rw [hH b o' q] at z; cases z
        · rw [List.mem_singleton.mp z]; exact .inr ha
    refine ⟨G1, [a], [some (.ins x [])], .own 0 :: ds.map SV.val, O2, .cons ⟨a, rfl, rfl⟩ (repVs_val hr1), ?_⟩
    cases q2 : F (.own 0 :: ds.map SV.val) [some (.ins x [])] with
    | stuck => rw [q2] at P1; exact P1.elim
    | exc z ω' =>
      rw [q2] at P1
      intro c dd G' α' H' e' O' r'
      have gr := back e' O'
      exact P1 c dd G' α1 H' gr.ext (O1.grow gr) r'
    | ok y ω' =>
      rw [q2] at P1
      intro v G' α' H' e' O' r'
      split at P1
      · rename_i z c' fs heq
        cases heq
        have hv : v = .non := rep_non.mp (show Rep X.K X.mg G' .non v from r')
        refine ⟨hv, ?_⟩
        have gr := back e' O'
        obtain ⟨more, h1, _⟩ := e'.pre
        have h2 : α'[0]? = some a := by rw [h1]; rfl
        obtain ⟨hg', C', dx', fvs, hC, hHa, hF⟩ := O'.obj 0 _ a rfl h2
        -- freeze it
        obtain ⟨O3, e3, _⟩ := O'.freeze (k := 0) rfl h2 hHa
        have gr2 : Grow G1 H1 (L2.upd G' a (.ins C' dx' fvs)) H' := by
          refine ⟨gr.g.trans (Same.upd hg'), gr.h, O3.sub, fun b o h => ?_⟩
          by_cases z : b = a
          · subst z; exact .inr ha
          · rw [upd_ne z] at h; exact gr.new b o h
        refine Post.grow O1 gr2 (show Rep X.K X.mg _ _ _ from rep_obj.mpr ⟨a, C', dx', fvs, rfl, hC, upd_same, RepF.mono (Same.upd hg') _ _ hF⟩) P1
      · rename_i z w heq
        cases heq
      · exact P1.elim
def fldD (c f : Str) : D → Option D
  | .obj c' fs => if c' = c then fs.lookup f else none
  | _ => none
def eFld (c f : Str) (fe : FE D) : FE D := fun ρ ω => (fe ρ ω).bind fun d ω1 => Res.lift (fldD c f d) ω1
structure ClsD (K : PySem.W.Frag) (mg : MG) (c : Str) (C : Addr) : Prop where
  gl : mg c = some (.ref C)
  cl : Cls K C
theorem de_fld {c fl : Str} {fe : FE D} (cd : ClsD X.K X.mg c C) (na : NoAttr X.K C fl) (h : De X W e fe) (hb : attributeBase e fl X.env (eval e X.env) = eval e X.env := by rfl) : De X W (.Attribute e fl pos) (eFld c fl fe) := by
  obtain ⟨t, q, j⟩ := h
  refine ⟨_, pe_fld q hb, fun G α ρ ω σ H Q O S P => ?_⟩
  refine Post.step (t := t σ H) (j G α ρ ω σ H · O S) P fun d ω1 v G1 α1 H1 e1 O1 r1 P1 => ?_
  obtain ⟨y, e2, P2⟩ := P1.lift
  cases d with
  | obj c' fs =>
    unfold fldD at e2
    dsimp only at e2
    split at e2
    · rename_i hc
      subst hc
      have r1' : Rep X.K X.mg G1 (.obj c' fs) v := r1
      rw [rep_obj] at r1'
      obtain ⟨a, C', dx, fvs, rfl, hC, hG, hF⟩ := r1'
      have : C' = C := by
        have := hC.symm.trans cd.gl
        cases this; rfl
      subst this
      obtain ⟨u, h3, h4⟩ := hF.look e2
      exact ⟨a, C', dx, fvs, u, rfl, O1.sub a _ hG, cd.cl, na, h3, Post.here O1 (show Rep X.K X.mg G1 y u from h4) P2⟩
    · cases e2
  | _ => cases e2
def ownI (ω : Om) (k : Nat) : Option (Str × List (Str × D)) := match ω[k]? with
  | some (some (.ins c fs)) => some (c, fs)
  | _ => none
theorem ownI_eq {ω : Om} {k : Nat} {c : Str} {fs : List (Str × D)} (h : ownI ω k = some (c, fs)) : ω[k]? = some (some (.ins c fs)) := by
  unfold ownI at h
  split at h
  · rename_i e; cases h; exact e
  · cases h
def sFldO (i : Nat) (c f : Str) (fe : FE D) : FS := fun ρ ω => (fe ρ ω).out ρ fun d ω1 => match ownK ρ i with
  | none => .stuck
  | some k => match ownI ω1 k with
    | none => .stuck
    | some (c', fs) => if c' = c ∧ fs.length < 1000 then .next ρ (ω1.set k (some (.ins c' (putD f d fs)))) else .stuck
theorem putF_rep {K : PySem.W.Frag} {mg : MG} {G : Hp} {f : Str} {d : D} {v : V} (r : Rep K mg G d v) : ∀ {fs : List (Str × D)} {fvs : List (Str × V)}, RepF K mg G fs fvs → RepF K mg G (putD f d fs) (putF f v fvs)
  | [], fvs, h => by
    rw [repF_nil] at h; subst h
    unfold putD putF
    exact repF_cons.mpr ⟨v, [], rfl, r, repF_nil.mpr rfl⟩
  | (g, y) :: fs, fvs, h => by
    rw [repF_cons] at h
    obtain ⟨u, rr, rfl, h1, h2⟩ := h
    unfold putD putF
    by_cases q : g = f
    · rw [if_pos q, if_pos q]
      subst q; exact repF_cons.mpr ⟨v, rr, rfl, r, h2⟩
    · rw [if_neg q, if_neg q]
      exact repF_cons.mpr ⟨u, _, rfl, h1, putF_rep r h2⟩
theorem ds_fldO (i : Nat) {c fl y : Str} {fe : FE D} {p1 p2 : Pos} (cd : ClsD X.K X.mg c C) (na : NoAttr X.K C fl) (h : De X W e fe) (hN : X.N[i]? = some y := by rfl) (hv : Vis X.env.scope y := by first | exact Or.inl rfl | exact Or.inr (Or.inl rfl) | exact Or.inr (Or.inr rfl)) (hd : (y == ("__debug__" : Str)) = false := by decide)
    (hcd : (y == ("__classdict__" : Str)) = false := by decide) (hs : swapsWith e (some (.Attribute (.Name y p1) fl p2)) pos.line X.env = pure false := by rfl) : Ds X W (.Assign [.Attribute (.Name y p1) fl p2] e pos) (sFldO i c fl fe) := by
  obtain ⟨t, q, j⟩ := h
  refine ⟨_, ps_fld (pe_var hN hv hd hcd) q hs, fun G α ρ ω σ H D O S P => ?_⟩
  refine PostS.step S (t := t σ H) (j G α ρ ω σ H · O S) P fun d ω1 v G1 α1 H1 e1 O1 r1 P1 => ?_
  cases q1 : ownK ρ i with
  | none => rw [q1] at P1; exact P1.elim
  | some kk =>
    rw [q1] at P1; dsimp only at P1
    cases q2 : ownI ω1 kk with
    | none => rw [q2] at P1; exact P1.elim
    | some cf =>
      obtain ⟨c', fs⟩ := cf
      rw [q2] at P1; dsimp only at P1
      split at P1
      · rename_i hc
        obtain ⟨hc, hl⟩ := hc
        subst hc
        obtain ⟨v0, h1, a, h2, rfl⟩ := (S.mono e1).val i _ (ownK_eq q1)
        obtain ⟨hg, C', dx, fvs, hC, hHa, hF⟩ := O1.obj kk _ a (ownI_eq q2) h2
        have : C' = C := by
          have := hC.symm.trans cd.gl
          cases this; rfl
        subst this
        refine ⟨_, h1, a, C', dx, fvs, rfl, hHa, cd.cl, na, by rw [hF.length]; exact hl, ?_⟩
        obtain ⟨O2, e2⟩ := O1.put (u := .ins C' dx (putF fl v fvs)) (o' := .ins c' (putD fl d fs)) (ownI_eq q2) h2 ⟨C', dx, _, hC, upd_same, putF_rep r1 hF⟩
        exact P1 _ G1 α1 _ e2 O2 ((S.mono e1).mono e2)
      · exact P1.elim
end
end Dl
namespace Dl
open PySem PySem.Spec PyProof.Rows
open Sem (wp)
open AutoSeq1 (wpAny_loadPart')
theorem tuple_mul1 (l : Addr) (items : Array Value) (n : Nat) (dd : Option Addr) (sl : Array (Option Value)) (u : Tok) :
    Meets (Builtin.«tuple.__mul__» ⟨[.ref l, .int 1 u], []⟩) (fun _ R s => s.heap.get? l = some { cls := .type "tuple", dict := dd, data := .seq items n, slots := sl } ∧ R (.ok (.ret (Value.ref l))) s) :=
  .of_wp fun prog w A R s h => by
    obtain ⟨hp, g, d, tk, os⟩ := s
    obtain ⟨hl, h⟩ := h
    have f1 := AutoSeq1.idx_int
    wp_walk using wpAny_loadPart' hl
    exact ⟨_, rfl, h⟩
end Dl
namespace Dl
open PySem PyProof.Rows PySem.W
section
open L2 (V Hp VK Cx Inv OpR R2 SqT Vals RelV EP HO upd)
def rRep1 (K : PySem.W.Frag) : R2 := fun x y H Q => ∃ l xs, x = .ref l ∧ y = V.int 1 ∧ SqT K H l xs ∧ Q (.ref l) H
theorem op_rep1 {X : Cx} : OpR X (binaryOp .Mult) (rRep1 X.K) := by
  intro pins s σ H x y v u Q I rx ry h
  obtain ⟨l, xs, rfl, rfl, hT, q⟩ := h
  cases rx
  obtain ⟨t, rfl⟩ := ry
  obtain ⟨its, r, ⟨⟨cls, dd, data, sl⟩, ho, hc, n, hd⟩, hs⟩ := I.tuple hT
  simp only at hc hd
  subst hc hd
  exact wpAny_binaryOp_repeat_ref (T := "tuple") (U := "int") (by decide) ⟨_, ho, rfl⟩ (fun s' => typeIs_int s' 1 t) L2.noFill_tuple_mul F.fills_int_mul F.slot_int_rmul L2.repeat_tuple F.slot_int_index.lookup
    (call_meets F.slot_int_rmul (typeIs_int s 1 t) F.entry_int_rmul (F.args_int_rmul_2 _ _) (L2.int_rmul_tuple 1 t l its.toArray n dd sl)
      ⟨ho, rfl, ⟨_, ho, rfl⟩, call_meets F.slot_tuple_mul ⟨_, ho, rfl⟩ F.entry_tuple_mul (F.args_tuple_mul_2 _ _) (tuple_mul1 l its.toArray n dd sl t) ⟨ho, ⟨.ref l, H, I, rfl, q⟩⟩⟩)
end
end Dl
namespace Dl
open PySem L2
def opMulA : D → D → Option D
  | .tup ds, .int k => if k = 1 then some (.tup ds) else if ds ≠ [] ∧ 2 ≤ k ∧ k ≤ 1000 ∧ ds.length ≤ 1000 then some (.tup (List.replicate k.toNat ds).flatten) else none
  | x, y => opMul x y
def rMulA (K : PySem.W.Frag) : R2 := fun x y H Q => (rI CMul fun i j => .int (i * j)) x y H Q ∨ rRep1 K x y H Q ∨ rRepT K x y H Q
section
variable {K : PySem.W.Frag} {mg : MG} {X : Cx} {W : WX}
theorem Reps.rep {G : Hp} {ds : List D} {vs : List V} (r : Reps K mg G ds vs) : ∀ k : Nat, Reps K mg G (List.replicate k ds).flatten (List.replicate k vs).flatten
  | 0 => by simp [reps_nil]
  | k + 1 => by rw [List.replicate_succ, List.replicate_succ, List.flatten_cons, List.flatten_cons]; exact r.append (Reps.rep r k)
theorem op_mulA : OpR X (binaryOp .Mult) (rMulA X.K) := op_mul.or (op_rep1.or op_repT)
theorem bop_mulA : Bop K mg (rMulA K) opMulA := by
  intro G H x y d v1 v2 Q s e r1 r2 k
  unfold opMulA at e
  split at e
  · rename_i ds n
    have q1 := r1
    rw [rep_tup] at r1
    obtain ⟨a, vs, rfl, h1, h2⟩ := r1
    rw [rep_int] at r2
    subst r2
    split at e
    · rename_i h
      cases e
      subst h
      exact .inr (.inl ⟨a, vs, rfl, rfl, Same.sqT s h1, k _ G H (Grow.refl s) q1⟩)
    · split at e
      · rename_i hb
        cases e
        obtain ⟨hne, g1, g2, g3⟩ := hb
        refine .inr (.inr ⟨a, n, vs, rfl, rfl, Same.sqT s h1, fun z => hne ?_, g1, g2, by rw [h2.length]; exact g3, fun p hp => k _ _ _ (Grow.put s hp) (rep_newT (H := H) (s.free hp) (h2.rep _))⟩)
        have := h2.length
        rw [z] at this
        exact List.eq_nil_of_length_eq_zero this.symm
      · cases e
  · exact .inl (bop_mul G H x y d v1 v2 Q s e r1 r2 k)
theorem de_mulA {a b : Expr} {pos : Pos} {f g : FE D} (ja : De X W a f) (jb : De X W b g) : De X W (.BinOp a .Mult b pos) (eBin opMulA f g) := de_bin op_mulA bop_mulA ja jb
def cutD (ds : List D) (lo hi : Option Int) : List D := (ds.drop (HT.sIx ds.length 0 lo)).take (HT.sIx ds.length ds.length hi - HT.sIx ds.length 0 lo)
theorem cut_reps {G : Hp} {ds : List D} {vs : List V} (lo hi : Option Int) (r : Reps K mg G ds vs) : Reps K mg G (cutD ds lo hi) (cutV vs lo hi) := by
  unfold cutD cutV
  rw [r.length]
  exact (r.drop _).take _
theorem cut_whole {ds : List D} {lo hi : Option Int} (h : HT.sIx ds.length 0 lo = 0 ∧ HT.sIx ds.length ds.length hi = ds.length) : cutD ds lo hi = ds := by
  unfold cutD
  rw [h.1, h.2]
  simp
def slD (lo hi : Option Int) : D → Option D
  | .tup ds => some (.tup (cutD ds lo hi))
  | .lst ds => some (.lst (cutD ds lo hi))
  | _ => none
def asI : D → Option (Option Int)
  | .int i => some (some i)
  | _ => none
def ePart (f : FE D) : FE (Option Int) := fun ρ ω => (f ρ ω).bind fun d ω1 => Res.lift (asI d) ω1
def eNoPart : FE (Option Int) := fun _ ω => .ok none ω
def RO : Hp → List Addr → Hp → Option Int → Option Int → Prop := fun _ _ _ a b => a = b
def Do (X : Cx) (W : WX) (e : Option Expr) (f : FE (Option Int)) : Prop :=
  ∃ t, PO X e t ∧ ∀ G α ρ ω σ H Q, Own X.K X.mg G α ω H → Slots X.K X.mg G α ρ σ → Post X.K X.mg RO G α H Q (fun c d H' => W c d σ H') (f ρ ω) → t σ H Q
theorem do_none : Do X W none eNoPart := ⟨_, po_none, fun G α ρ ω σ H Q O S P => Post.here O rfl P⟩
theorem do_some {e : Expr} {f : FE D} (h : De X W e f) : Do X W (some e) (ePart f) := by
  obtain ⟨t, p, j⟩ := h
  refine ⟨_, po_some p, fun G α ρ ω σ H Q O S P => ?_⟩
  refine Post.step (t := t σ H) (j G α ρ ω σ H · O S) P fun d ω1 v G1 α1 H1 e1 O1 r1 P1 => ?_
  obtain ⟨o, e2, P2⟩ := P1.lift
  cases d with
  | int i =>
    cases e2
    exact ⟨i, rep_int.mp (show Rep X.K X.mg G1 (.int i) v from r1), Post.here O1 rfl P2⟩
  | _ => cases e2
def eSl (f : FE D) (lo hi : FE (Option Int)) : FE D := fun ρ ω => (f ρ ω).bind fun d ω1 => (lo ρ ω1).bind fun l ω2 => (hi ρ ω2).bind fun h ω3 => Res.lift (slD l h d) ω3
def rSlB (K : PySem.W.Frag) : V → Option Int → Option Int → Hp → VK → Prop := fun x lo hi H Q => rSlA K x lo hi H Q ∨ rSlL K x lo hi H Q
theorem sl_both : SlR X (rSlB X.K) := sl_tupA.or sl_list
theorem de_slice {e : Expr} {lo hi : Option Expr} {f : FE D} {fl fh : FE (Option Int)} {p2 pos : Pos} (h : De X W e f) (hl : Do X W lo fl) (hh : Do X W hi fh) : De X W (.Subscript e (.Slice lo hi none p2) pos) (eSl f fl fh) := by
  obtain ⟨t, p, j⟩ := h
  obtain ⟨tl, pl, jl⟩ := hl
  obtain ⟨th, ph, jh⟩ := hh
  refine ⟨_, pe_slice sl_both p pl ph, fun G α ρ ω σ H Q O S P => ?_⟩
  refine Post.step (t := t σ H) (j G α ρ ω σ H · O S) P fun d ω1 v G1 α1 H1 e1 O1 r1 P1 => ?_
  refine Post.step (t := tl σ H1) (jl G1 α1 ρ ω1 σ H1 · O1 (S.mono e1)) P1 fun l ω2 l' G2 α2 H2 e2 O2 r2 P2 => ?_
  refine Post.step (t := th σ H2) (jh G2 α2 ρ ω2 σ H2 · O2 ((S.mono e1).mono e2)) P2 fun u ω3 u' G3 α3 H3 e3 O3 r3 P3 => ?_
  cases r2
  cases r3
  obtain ⟨y, e4, P4⟩ := P3.lift
  have r1' : Rep X.K X.mg G3 d v := Rep.mono (e2.g.trans e3.g) _ _ r1
  cases d with
  | tup ds =>
    cases e4
    have q := r1'
    rw [rep_tup] at r1'
    obtain ⟨a, vs, rfl, h1, h2⟩ := r1'
    refine .inl ⟨a, vs, rfl, Same.sqT O3.sub h1, fun z => ?_, fun z p hp => ?_⟩
    · rw [h2.length] at z
      exact Post.here O3 (show Rep X.K X.mg G3 _ _ by rw [cut_whole z]; exact q) P4
    · exact Post.grow O3 (Grow.put O3.sub hp) (show Rep X.K X.mg _ _ _ from rep_newT (H := H3) (O3.sub.free hp) (cut_reps _ _ h2)) P4
  | lst ds =>
    cases e4
    rw [rep_lst] at r1'
    obtain ⟨a, vs, rfl, h1, h2⟩ := r1'
    exact .inr ⟨a, vs, rfl, O3.sub.seq h1, fun p hp => Post.grow O3 (Grow.put O3.sub hp) (show Rep X.K X.mg _ _ _ from rep_newL (H := H3) (O3.sub.free hp) (cut_reps _ _ h2)) P4⟩
  | _ => cases e4
def eChain (op op' : D → D → Option D) (f g h : FE D) : FE D := fun ρ ω => (f ρ ω).bind fun x ω1 => (g ρ ω1).bind fun y ω2 => match op x y with
  | some (.bl true) => (h ρ ω2).bind fun z ω3 => Res.lift (op' y z) ω3
  | some (.bl false) => .ok (.bl false) ω2
  | _ => .stuck
theorem chain_post {r r' : R2} {op op' : D → D → Option D} {f g h : FE D} {ta tb tc : TE} (B : Bop K mg r op) (B' : Bop K mg r' op')
    (ja : ∀ G α ρ ω σ H Q, Own K mg G α ω H → Slots K mg G α ρ σ → Post K mg (RD K mg) G α H Q (fun c d H' => W c d σ H') (f ρ ω) → ta σ H Q)
    (jb : ∀ G α ρ ω σ H Q, Own K mg G α ω H → Slots K mg G α ρ σ → Post K mg (RD K mg) G α H Q (fun c d H' => W c d σ H') (g ρ ω) → tb σ H Q)
    (jc : ∀ G α ρ ω σ H Q, Own K mg G α ω H → Slots K mg G α ρ σ → Post K mg (RD K mg) G α H Q (fun c d H' => W c d σ H') (h ρ ω) → tc σ H Q)
    (G α ρ ω σ H Q) (O : Own K mg G α ω H) (S : Slots K mg G α ρ σ) (P : Post K mg (RD K mg) G α H Q (fun c d H' => W c d σ H') (eChain op op' f g h ρ ω)) : tChain r r' ta tb tc σ H Q := by
  refine Post.step (t := ta σ H) (ja G α ρ ω σ H · O S) P fun x ω1 v1 G1 α1 H1 e1 O1 r1 P1 => ?_
  refine Post.step (t := tb σ H1) (jb G1 α1 ρ ω1 σ H1 · O1 (S.mono e1)) P1 fun y ω2 v2 G2 α2 H2 e2 O2 r2 P2 => ?_
  cases q : op x y with
  | none => rw [q] at P2; exact P2.elim
  | some d =>
    rw [q] at P2
    cases d with
    | bl b =>
      refine B G2 H2 x y _ v1 v2 _ O2.sub q (Rep.mono e2.g _ _ r1) r2 fun v G3 H3 gr rv => ?_
      refine ⟨b, rep_bl.mp rv, ?_⟩
      have O3 := O2.grow gr
      have e3 : Ext G2 α2 H2 G3 α2 H3 := gr.ext
      cases b with
      | false => exact iteF (Post.here O3 (show Rep K mg G3 _ _ from rep_bl.mpr rfl) (Post.weak e3 P2))
      | true =>
        refine iteT ?_
        refine Post.step (t := tc σ H3) (jc G3 α2 ρ ω2 σ H3 · O3 (((S.mono e1).mono e2).mono e3)) (Post.weak e3 P2) fun z ω4 v4 G4 α4 H4 e4 O4 r4 P4 => ?_
        exact bin_post B' O4 (Rep.mono (e3.g.trans e4.g) _ _ r2) r4 P4
    | _ => exact P2.elim
theorem de_chain {o o' : CmpOp} {op op' : D → D → Option D} {a b c : Expr} {pos : Pos} {f g h : FE D} (c1 : Cmp X o op) (c2 : Cmp X o' op') (ja : De X W a f) (jb : De X W b g) (jc : De X W c h) (hm : lastMarks [o, o'] [b, c] = false := by with_unfolding_all rfl) :
    De X W (.Compare a [o, o'] [b, c] pos) (eChain op op' f g h) := by
  obtain ⟨r, h1, h2⟩ := c1.ex
  obtain ⟨r', h3, h4⟩ := c2.ex
  obtain ⟨ta, pa, ka⟩ := ja
  obtain ⟨tb, pb, kb⟩ := jb
  obtain ⟨tc, pc, kc⟩ := jc
  exact ⟨_, pe_chain h1 h3 pa pb pc hm, chain_post h2 h4 ka kb kc⟩
theorem dt_chain {o o' : CmpOp} {op op' : D → D → Option D} {a b c : Expr} {pos : Pos} {f g h : FE D} (c1 : Cmp X o op) (c2 : Cmp X o' op') (ja : De X W a f) (jb : De X W b g) (jc : De X W c h) (hm : lastMarks [o, o'] [b, c] = false := by with_unfolding_all rfl) :
    Dt X W (.Compare a [o, o'] [b, c] pos) (eTest (eChain op op' f g h)) := by
  obtain ⟨r, h1, h2⟩ := c1.ex
  obtain ⟨r', h3, h4⟩ := c2.ex
  obtain ⟨ta, pa, ka⟩ := ja
  obtain ⟨tb, pb, kb⟩ := jb
  obtain ⟨tc, pc, kc⟩ := jc
  exact ⟨_, pt_chain h1 h3 pa pb pc hm, test_post (chain_post h2 h4 ka kb kc)⟩
def opNeg : D → Option D
  | .int i => some (.int (-i))
  | _ => none
def eUn (op : D → Option D) (f : FE D) : FE D := fun ρ ω => (f ρ ω).bind fun d ω1 => Res.lift (op d) ω1
theorem de_neg {a : Expr} {pos : Pos} {f : FE D} (h : De X W a f) : De X W (.UnaryOp .USub a pos) (eUn opNeg f) := by
  obtain ⟨t, p, j⟩ := h
  refine ⟨_, pe_un un_neg p, fun G α ρ ω σ H Q O S P => ?_⟩
  refine Post.step (t := t σ H) (j G α ρ ω σ H · O S) P fun d ω1 v G1 α1 H1 e1 O1 r1 P1 => ?_
  obtain ⟨y, e2, P2⟩ := P1.lift
  cases d with
  | int i =>
    cases e2
    exact ⟨i, rep_int.mp (show Rep X.K X.mg G1 (.int i) v from r1), Post.here O1 (show Rep X.K X.mg G1 _ _ from rep_int.mpr rfl) P2⟩
  | _ => cases e2
def ixI (ds : List D) : D → Option D
  | .int i => atI ds i
  | _ => none
def eIxO (i : Nat) (g : FE D) : FE D := fun ρ ω => match ownK ρ i with
  | none => .stuck
  | some k => (g ρ ω).bind fun z ω1 => match ownL ω1 k with
    | none => .stuck
    | some ds => Res.lift (ixI ds z) ω1
theorem de_ixO (i : Nat) {x : Str} {p1 pos : Pos} {b : Expr} {g : FE D} (jb : De X W b g) (hN : X.N[i]? = some x := by rfl) (hv : Vis X.env.scope x := by first | exact Or.inl rfl | exact Or.inr (Or.inl rfl) | exact Or.inr (Or.inr rfl)) (hd : (x == ("__debug__" : Str)) = false := by decide)
    (hcd : (x == ("__classdict__" : Str)) = false := by decide) (hs : PlainIx b := by exact fun _ _ => rfl) : De X W (.Subscript (.Name x p1) b pos) (eIxO i g) := by
  obtain ⟨tb, pb, kb⟩ := jb
  refine ⟨_, pe_ix ix_list (pe_var hN hv hd hcd) pb hs, fun G α ρ ω σ H Q O S P => ?_⟩
  unfold eIxO at P
  cases q1 : ownK ρ i with
  | none => rw [q1] at P; exact P.elim
  | some kk =>
    rw [q1] at P; dsimp only at P
    obtain ⟨v, h1, a, h2, rfl⟩ := S.val i _ (ownK_eq q1)
    refine ⟨_, h1, ?_⟩
    refine Post.step (t := tb σ H) (kb G α ρ ω σ H · O S) P fun z ω1 v1 G1 α1 H1 e1 O1 r1 P1 => ?_
    cases q3 : ownL ω1 kk with
    | none => rw [q3] at P1; exact P1.elim
    | some ds =>
      rw [q3] at P1; dsimp only at P1
      obtain ⟨y, e2, P2⟩ := P1.lift
      obtain ⟨more, e3, _⟩ := e1.pre
      have h2' : α1[kk]? = some a := by rw [e3, List.getElem?_append_left (List.getElem?_eq_some_iff.mp h2).1]; exact h2
      obtain ⟨_, vs, h5, h6⟩ := O1.obj kk _ a (ownL_eq q3) h2'
      cases z with
      | int n =>
        obtain ⟨u, h7, h8⟩ := atI_reps h6 e2
        exact ⟨a, vs, n, u, rfl, rep_int.mp (show Rep X.K X.mg G1 (.int n) v1 from r1), SqL.of h5, h7, Post.here O1 (show Rep X.K X.mg G1 y u from h8) P2⟩
      | _ => cases e2
def sRetNew (g : FE (List SV)) : FS := fun ρ ω => (g ρ ω).out ρ fun xs ω1 => match allD xs with
  | some ds => if xs.length ≤ lim then .ret (.own ω1.length) (ω1 ++ [some (.lst ds)]) else .stuck
  | none => .stuck
theorem ds_retNew {es : List Expr} {p1 pos : Pos} {g : FE (List SV)} (h : Da X W es g) : Ds X W (.Return (some (.List es p1)) pos) (sRetNew g) := by
  obtain ⟨t, p, k⟩ := h
  refine ⟨_, ps_ret (pe_lst p), fun G α ρ ω σ H D O S P => ?_⟩
  refine PostS.step S (t := t σ H) (k G α ρ ω σ H · O S) P fun xs ω1 vs G1 α1 H1 e1 O1 r1 P1 => ?_
  cases q : allD xs with
  | none => rw [q] at P1; exact P1.elim
  | some ds =>
    rw [q] at P1
    dsimp only at P1
    split at P1
    · rename_i hl
      have hr := allD_reps q r1
      refine ⟨by rw [lim_eq, ← RepVs.length r1]; exact hl, fun a ha => ?_⟩
      obtain ⟨O2, e2⟩ := O1.new (u := .lst vs) (o := .lst ds) ha ⟨vs, upd_same, hr⟩
      refine P1 _ G1 _ _ e2 O2 ⟨a, ?_, rfl⟩
      rw [← O1.len, List.getElem?_append_right (Nat.le_refl _)]
      simp
    · exact P1.elim
end
end Dl
namespace Dl
open PySem L2
def lcA (tg : FG) (tt : FE Bool) (el : FE D) (ρ : Rho) : List D → List D → Om → Res (List D)
  | [], acc, ω => .ok acc ω
  | d :: ds, acc, ω => match tg d ρ with
    | none => .stuck
    | some ρ1 => match tt ρ1 ω with
      | .ok true ω1 => match el ρ1 ω1 with
        | .ok y ω2 => if acc.length < lim then lcA tg tt el ρ ds (acc ++ [y]) ω2 else .stuck
        | _ => .stuck
      | .ok false ω1 => lcA tg tt el ρ ds acc ω1
      | _ => .stuck
def lc2L (tg : FG) (tt : FE Bool) (it1 : FE (List D)) (tg1 : FG) (tt1 : FE Bool) (el : FE D) (vs1 : List Nat) (ρ : Rho) : List D → List D → Om → Res D
  | [], acc, ω => .ok (.lst acc) ω
  | d :: ds, acc, ω => match tg d ρ with
    | none => .stuck
    | some ρ1 => match tt ρ1 ω with
      | .ok true ω1 => match it1 ρ1 ω1 with
        | .ok es ω2 => match lcA tg1 tt1 el (wipeR ρ1 vs1) es acc ω2 with
          | .ok acc2 ω3 => lc2L tg tt it1 tg1 tt1 el vs1 ρ ds acc2 ω3
          | _ => .stuck
        | _ => .stuck
      | .ok false ω1 => lc2L tg tt it1 tg1 tt1 el vs1 ρ ds acc ω1
      | _ => .stuck
def eLc2 (vs vs1 : List Nat) (it : FE (List D)) (tg : FG) (tt : FE Bool) (it1 : FE (List D)) (tg1 : FG) (tt1 : FE Bool) (el : FE D) : FE D := fun ρ ω => (it ρ ω).bind fun ds ω1 => lc2L tg tt it1 tg1 tt1 el vs1 (wipeR ρ vs) ds [] ω1
section
variable {K : PySem.W.Frag} {mg : MG}
theorem lcIn_post {tg : TG} {fg : FG} {is vs : List Nat} {tt : TT} {ft : FE Bool} {te : TE} {fe : FE D} {J : It} {ds : List D} {G0 H0 G1 H1 : Hp} {α0 α1 : List Addr} {ρ : Rho} {ω1 : Om} {σ : St} {L : Addr} {acc1 : List D} {Nx : Hp → Prop} (hsub : ∀ i ∈ is, i ∈ vs)
    (kg : ∀ G α ρ σ H d v (Q : St → Hp → Prop), Same G H → Slots K mg G α ρ σ → Rep K mg G d v →
      (match fg d ρ with
        | none => False
        | some ρ' => ∀ σ', Slots K mg G α ρ' σ' → (∀ j, j ∉ is → σ'[j]? = σ[j]?) → σ'.length = σ.length → Q σ' H) → tg v σ H Q)
    (kt : ∀ G α ρ ω σ H Q, Own K mg G α ω H → Slots K mg G α ρ σ → Post K mg RB G α H Q (fun _ _ _ => False) (ft ρ ω) → tt σ H Q)
    (ke : ∀ G α ρ ω σ H Q, Own K mg G α ω H → Slots K mg G α ρ σ → Post K mg (RD K mg) G α H Q (fun _ _ _ => False) (fe ρ ω) → te σ H Q)
    (hL : H0 L = none) (wk : WalkD K mg (fun G' _ => Same G1 G') J ds) (B1 : Lies K mg G0 α0 H0 L G1 α1 ω1 acc1 H1) (S : Slots K mg G1 α1 ρ σ)
    (P : match lcA fg ft fe (wipeR ρ vs) ds acc1 ω1 with
      | .ok acc2 ω2 => ∀ G' α' H', Lies K mg G0 α0 H0 L G' α' ω2 acc2 H' → Nx H'
      | _ => False) :
    ∃ Wv : Nat → Nat → Hp → Prop, (∃ m, Wv 0 m H1) ∧ ∀ i m H, Wv i m H →
      (J.stop i H ∧ Nx H) ∨ (J.go i H ∧ ∃ Nx1 : Hp → Prop, (∀ H', Nx1 H' → ∃ m', m' < m ∧ Wv (i + 1) m' H') ∧ ∀ x H', J.yld i H x H' → tg x (L2.wipe σ vs) H' fun σ2 H2 => L2.wipe σ2 vs = L2.wipe σ vs ∧ tt σ2 H2 fun b H3 =>
        if b = true then te σ2 H3 fun y H4 => ∃ acc, H4 L = some (.lst acc) ∧ acc.length < sizeLine ∧ Nx1 (L2.upd H4 L (.lst (acc ++ [y]))) else Nx1 H3) := by
  refine ⟨fun i m H' => m = ds.length - i ∧ i ≤ ds.length ∧ ∃ G α ω acc, Same G1 G ∧ (∃ more, α = α1 ++ more) ∧ Lies K mg G0 α0 H0 L G α ω acc H' ∧ (match lcA fg ft fe (wipeR ρ vs) (ds.drop i) acc ω with
      | .ok acc2 ω2 => ∀ G' α' H', Lies K mg G0 α0 H0 L G' α' ω2 acc2 H' → Nx H'
      | _ => False), ⟨_, rfl, Nat.zero_le _, G1, α1, ω1, acc1, Same.refl _, ⟨[], by simp⟩, B1, P⟩, ?_⟩
  rintro i m H' ⟨rfl, hi, G, α, ω, acc, sg, sp, B, P⟩
  obtain ⟨w1, w2⟩ := wk i G H' B.own.sub sg
  by_cases hlt : i < ds.length
  · refine .inr ?_
    obtain ⟨go, yl⟩ := w1 ds[i] (List.getElem?_eq_getElem hlt)
    refine ⟨go, fun H' => ∃ G α ω acc, Same G1 G ∧ (∃ more, α = α1 ++ more) ∧ Lies K mg G0 α0 H0 L G α ω acc H' ∧ (match lcA fg ft fe (wipeR ρ vs) (ds.drop (i + 1)) acc ω with
      | .ok acc2 ω2 => ∀ G' α' H', Lies K mg G0 α0 H0 L G' α' ω2 acc2 H' → Nx H'
      | _ => False), fun H' q => ⟨ds.length - (i + 1), by omega, rfl, hlt, q⟩, fun x H2 y => ?_⟩
    obtain ⟨G2, gr, r1⟩ := yl x H2 y
    have B2 := B.step (gr.ext (α := α)) (B.own.grow gr)
    rw [List.drop_eq_getElem_cons hlt] at P
    unfold lcA at P
    have sg2 := sg.trans gr.g
    have S1 : Slots K mg G2 α (wipeR ρ vs) (L2.wipe σ vs) := Slots.wipe ⟨S.len, fun i x h => let ⟨v, h1, h2⟩ := S.val i x h; ⟨v, h1, h2.mono sg2 sp⟩⟩ vs
    refine kg G2 α _ _ H2 _ x _ B2.own.sub S1 r1 ?_
    cases q : fg ds[i] (wipeR ρ vs) with
    | none => rw [q] at P; exact P.elim
    | some ρ1 =>
      rw [q] at P
      intro σ2 S2 c2 l2
      refine ⟨wipe_same hsub c2 l2, kt G2 α ρ1 ω σ2 H2 _ B2.own S2 ?_⟩
      dsimp only at P
      cases q2 : ft ρ1 ω with
      | stuck => rw [q2] at P; exact P.elim
      | exc x ω1 => rw [q2] at P; exact P.elim
      | ok b ω2 =>
        rw [q2] at P
        intro b' G3 α3 H3 e3 O3 r3
        cases r3
        have B3 := B2.step e3 O3
        have sp3 : ∃ more, α3 = α1 ++ more := by
          obtain ⟨m1, h1⟩ := sp
          obtain ⟨m2, h2⟩ := e3.pre'
          exact ⟨m1 ++ m2, by rw [h2, h1, List.append_assoc]⟩
        cases b with
        | false => exact iteF ⟨G3, α3, ω2, acc, sg2.trans e3.g, sp3, B3, P⟩
        | true =>
          refine iteT (ke G3 α3 ρ1 ω2 σ2 H3 _ O3 (S2.mono e3) ?_)
          dsimp only at P
          cases q3 : fe ρ1 ω2 with
          | stuck => rw [q3] at P; exact P.elim
          | exc x ω2 => rw [q3] at P; exact P.elim
          | ok yd ω3 =>
            rw [q3] at P
            dsimp only at P
            by_cases hlim : acc.length < lim
            · rw [if_pos hlim] at P
              intro v G4 α4 H4 e4 O4 r4
              have B4 := B3.step e4 O4
              obtain ⟨vsa, h5, h6⟩ := B4.at_
              refine ⟨vsa, h5, by rw [lim_eq, h6.length]; exact hlim, G4, α4, ω3, acc ++ [yd], (sg2.trans e3.g).trans e4.g, ?_, B4.set hL (h6.append (Reps.one r4)), P⟩
              obtain ⟨m1, h1⟩ := sp3
              obtain ⟨m2, h2⟩ := e4.pre'
              exact ⟨m1 ++ m2, by rw [h2, h1, List.append_assoc]⟩
            · rw [if_neg hlim] at P; exact P.elim
  · have e : i = ds.length := by omega
    subst e
    rw [List.drop_length] at P
    exact .inl ⟨w2 (Nat.le_refl _), P G α H' B⟩
theorem lc2_post {tg tg1 : TG} {fg fg1 : FG} {is is1 vs vs1 : List Nat} {tt tt1 : TT} {ft ft1 : FE Bool} {wi1 : TI} {fi1 : FE (List D)} {te : TE} {fe : FE D} {J : It} {ds : List D} {G0 H : Hp} {α0 : List Addr} {ρ : Rho} {ω : Om} {σ : St} {Q : VK} {E : XK} (hsub : ∀ i ∈ is, i ∈ vs) (hsub1 : ∀ i ∈ is1, i ∈ vs1)
    (kg : ∀ G α ρ σ H d v (Q : St → Hp → Prop), Same G H → Slots K mg G α ρ σ → Rep K mg G d v →
      (match fg d ρ with
        | none => False
        | some ρ' => ∀ σ', Slots K mg G α ρ' σ' → (∀ j, j ∉ is → σ'[j]? = σ[j]?) → σ'.length = σ.length → Q σ' H) → tg v σ H Q)
    (kt : ∀ G α ρ ω σ H Q, Own K mg G α ω H → Slots K mg G α ρ σ → Post K mg RB G α H Q (fun _ _ _ => False) (ft ρ ω) → tt σ H Q)
    (ki1 : ∀ G α ρ ω σ H (R : It → Hp → Prop), Own K mg G α ω H → Slots K mg G α ρ σ → Post K mg (RI K mg) G α H R (fun _ _ _ => False) (fi1 ρ ω) → wi1 σ H R)
    (kg1 : ∀ G α ρ σ H d v (Q : St → Hp → Prop), Same G H → Slots K mg G α ρ σ → Rep K mg G d v →
      (match fg1 d ρ with
        | none => False
        | some ρ' => ∀ σ', Slots K mg G α ρ' σ' → (∀ j, j ∉ is1 → σ'[j]? = σ[j]?) → σ'.length = σ.length → Q σ' H) → tg1 v σ H Q)
    (kt1 : ∀ G α ρ ω σ H Q, Own K mg G α ω H → Slots K mg G α ρ σ → Post K mg RB G α H Q (fun _ _ _ => False) (ft1 ρ ω) → tt1 σ H Q)
    (ke : ∀ G α ρ ω σ H Q, Own K mg G α ω H → Slots K mg G α ρ σ → Post K mg (RD K mg) G α H Q (fun _ _ _ => False) (fe ρ ω) → te σ H Q)
    (wk : WalkD K mg (fun G' _ => Same G0 G') J ds) (O : Own K mg G0 α0 ω H) (S : Slots K mg G0 α0 ρ σ) (P : Post K mg (RD K mg) G0 α0 H Q E (lc2L fg ft fi1 fg1 ft1 fe vs1 (wipeR ρ vs) ds [] ω)) (L : Addr) (hL : H L = none) :
    ∃ Wv : Nat → Nat → Hp → Prop, (∃ m, Wv 0 m (L2.upd H L (.lst []))) ∧ ∀ i m H, Wv i m H →
      (J.stop i H ∧ Q (.ref L) H) ∨ (J.go i H ∧ ∃ Nx : Hp → Prop, (∀ H', Nx H' → ∃ m', m' < m ∧ Wv (i + 1) m' H') ∧ ∀ x H', J.yld i H x H' → tg x (L2.wipe σ vs) H' fun σ2 H2 => L2.wipe σ2 vs = L2.wipe σ vs ∧ tt σ2 H2 fun b H3 =>
        if b = true then wi1 σ2 H3 fun J1 H4 => ∃ W1 : Nat → Nat → Hp → Prop, (∃ m, W1 0 m H4) ∧ ∀ j k H, W1 j k H →
          (J1.stop j H ∧ Nx H) ∨ (J1.go j H ∧ ∃ Nx1 : Hp → Prop, (∀ H', Nx1 H' → ∃ k', k' < k ∧ W1 (j + 1) k' H') ∧ ∀ x H', J1.yld j H x H' → tg1 x (L2.wipe σ2 vs1) H' fun σ3 H5 => L2.wipe σ3 vs1 = L2.wipe σ2 vs1 ∧ tt1 σ3 H5 fun b H6 =>
            if b = true then te σ3 H6 fun y H7 => ∃ acc, H7 L = some (.lst acc) ∧ acc.length < sizeLine ∧ Nx1 (L2.upd H7 L (.lst (acc ++ [y]))) else Nx1 H6)
        else Nx H3) := by
  have hnα : L ∉ α0 := O.na hL
  refine ⟨fun i m H' => m = ds.length - i ∧ i ≤ ds.length ∧ ∃ G α ω acc, Lies K mg G0 α0 H L G α ω acc H' ∧ Post K mg (RD K mg) G0 α0 H Q E (lc2L fg ft fi1 fg1 ft1 fe vs1 (wipeR ρ vs) (ds.drop i) acc ω), ⟨_, rfl, Nat.zero_le _, G0, α0, ω, [], ⟨?_, ?_, O.sub.free hL, hnα, [], upd_same, reps_nil.mpr rfl⟩, P⟩, ?_⟩
  · exact (Grow.side (o := .lst []) O.sub hL).ext
  · exact O.grow (Grow.side O.sub hL)
  rintro i m H' ⟨rfl, hi, G, α, ω, acc, B, P⟩
  obtain ⟨w1, w2⟩ := wk i G H' B.own.sub B.ext.g
  by_cases hlt : i < ds.length
  · refine .inr ?_
    obtain ⟨go, yl⟩ := w1 ds[i] (List.getElem?_eq_getElem hlt)
    refine ⟨go, fun H' => ∃ G α ω acc, Lies K mg G0 α0 H L G α ω acc H' ∧ Post K mg (RD K mg) G0 α0 H Q E (lc2L fg ft fi1 fg1 ft1 fe vs1 (wipeR ρ vs) (ds.drop (i + 1)) acc ω), fun H' q => ⟨ds.length - (i + 1), by omega, rfl, hlt, q⟩, fun x H1 y => ?_⟩
    obtain ⟨G1, gr, r1⟩ := yl x H1 y
    have B1 := B.step (gr.ext (α := α)) (B.own.grow gr)
    rw [List.drop_eq_getElem_cons hlt] at P
    unfold lc2L at P
    have S1 : Slots K mg G1 α (wipeR ρ vs) (L2.wipe σ vs) := (S.mono B1.ext).wipe vs
    refine kg G1 α _ _ H1 _ x _ B1.own.sub S1 r1 ?_
    cases q : fg ds[i] (wipeR ρ vs) with
    | none => rw [q] at P; exact P.elim
    | some ρ1 =>
      rw [q] at P
      intro σ2 S2 c2 l2
      refine ⟨wipe_same hsub c2 l2, kt G1 α ρ1 ω σ2 H1 _ B1.own S2 ?_⟩
      dsimp only at P
      cases q2 : ft ρ1 ω with
      | stuck => rw [q2] at P; exact P.elim
      | exc x ω1 => rw [q2] at P; exact P.elim
      | ok b ω1 =>
        rw [q2] at P
        intro b' G2 α2 H2 e2 O2 r2
        cases r2
        have B2 := B1.step e2 O2
        cases b with
        | false => exact iteF ⟨G2, α2, ω1, acc, B2, P⟩
        | true =>
          refine iteT (ki1 G2 α2 ρ1 ω1 σ2 H2 _ O2 (S2.mono e2) ?_)
          dsimp only at P
          cases q3 : fi1 ρ1 ω1 with
          | stuck => rw [q3] at P; exact P.elim
          | exc x ω2 => rw [q3] at P; exact P.elim
          | ok es ω2 =>
            rw [q3] at P
            dsimp only at P
            intro J1 G3 α3 H3 e3 O3 w3
            have B3 := B2.step e3 O3
            refine lcIn_post hsub1 kg1 kt1 ke hL w3 B3 ((S2.mono e2).mono e3) ?_
            cases q4 : lcA fg1 ft1 fe (wipeR ρ1 vs1) es acc ω2 with
            | stuck => rw [q4] at P; exact P.elim
            | exc _ _ => rw [q4] at P; exact P.elim
            | ok acc2 ω3 =>
              rw [q4] at P
              exact fun G' α' H' B' => ⟨G', α', ω3, acc2, B', P⟩
  · have e : i = ds.length := by omega
    subst e
    rw [List.drop_length] at P
    obtain ⟨G', e', O', r'⟩ := B.freeze hL
    exact .inl ⟨w2 (Nat.le_refl _), P _ G' α H' e' O' r'⟩
end
section
variable {X : Cx} {W : WX} {pos : Pos}
theorem lc2_read {K : PySem.W.Frag} {mg : MG} {wi : TI} {vs vs1 is is1 : List Nat} {fi fi1 : FE (List D)} {fg fg1 : FG} {ft ft1 : FE Bool} {fe : FE D} (hsub : ∀ i ∈ is, i ∈ vs) (hsub1 : ∀ i ∈ is1, i ∈ vs1)
    (ki : ∀ G α ρ ω σ H (R : It → Hp → Prop), Own K mg G α ω H → Slots K mg G α ρ σ → Post K mg (RI K mg) G α H R (fun c d H' => W c d σ H') (fi ρ ω) → wi σ H R)
    (G α ρ ω σ H Q) (O : Own K mg G α ω H) (S : Slots K mg G α ρ σ) (P : Post K mg (RD K mg) G α H Q (fun c d H' => W c d σ H') (eLc2 vs vs1 fi fg ft fi1 fg1 ft1 fe ρ ω)) :
    tLc2 wi (tcG K mg is fg) (tcT K mg W0 ft) (tcI K mg W0 fi1) (tcG K mg is1 fg1) (tcT K mg W0 ft1) (tcE K mg W0 fe) vs vs1 σ H Q := by
  refine Post.step (t := wi σ H) (ki G α ρ ω σ H · O S) P fun ds ω1 J G1 α1 H1 e1 O1 w1 P1 => ?_
  intro L hL
  exact lc2_post hsub hsub1 (fun G α ρ σ H d v Q s S r h => ⟨G, α, ρ, d, s, S, r, h⟩) (fun G α ρ ω σ H Q O S P => ⟨G, α, ρ, ω, O, S, P⟩) (fun G α ρ ω σ H Q O S P => ⟨G, α, ρ, ω, O, S, P⟩) (fun G α ρ σ H d v Q s S r h => ⟨G, α, ρ, d, s, S, r, h⟩) (fun G α ρ ω σ H Q O S P => ⟨G, α, ρ, ω, O, S, P⟩) (fun G α ρ ω σ H Q O S P => ⟨G, α, ρ, ω, O, S, P⟩) w1 O1 (S.mono e1) P1 L hL
end
end Dl
namespace Dl
open PySem L2
structure DefAt (K : PySem.W.Frag) (x qual : Str) (st : Stmt) (f : Addr) (fd : FuncData) (ps : List Str) : Prop where
  fn : Fun K x qual st f fd
  bd : Binds K fd ps []
theorem ask_int {K : PySem.W.Frag} : TyAsk K "int" := fun t ht => kit_ty ((by decide +kernel : ∀ t ∈ tyNames, kitB t "int" = some (isTy t "int")) t ht)
theorem ask_bool {K : PySem.W.Frag} : TyAsk K "bool" := fun t ht => kit_ty ((by decide +kernel : ∀ t ∈ tyNames, kitB t "bool" = some (isTy t "bool")) t ht)
theorem ask_tuple {K : PySem.W.Frag} : TyAsk K "tuple" := fun t ht => kit_ty ((by decide +kernel : ∀ t ∈ tyNames, kitB t "tuple" = some (isTy t "tuple")) t ht)
theorem ask_list {K : PySem.W.Frag} : TyAsk K "list" := fun t ht => kit_ty ((by decide +kernel : ∀ t ∈ tyNames, kitB t "list" = some (isTy t "list")) t ht)
def spLaw (K : PySem.W.Frag) : Sp := fun vs H Q _ => ∃ (a : Addr) (ns : List Int), vs = [.ref a] ∧ SqL K H a (ns.map V.int) ∧ ns.length ≤ 63 ∧ ∀ H', Q (.bl true) H'
theorem law_ok {P : Program} {w : World} {K : PySem.W.Frag} {mg : MG} {base : Heap} {k : Nat} {f : Addr} {fd : FuncData} {ps : List Str} {F : FnP} (hF : ∀ ns : List Int, ns.length ≤ 63 → F [.lst (ns.map D.int)] = some (.ok (.bl true)))
    (ok : FnOk P w K mg base (L2.CX P w) k f fd ps (spP K mg F)) : FnOk P w K mg base (L2.CX P w) k f fd ps (spLaw K) := by
  refine ok.imp fun vs H Q E h => ?_
  obtain ⟨a, ns, rfl, hS, hl, q⟩ := h
  refine ⟨H, [.lst (ns.map D.int)], Same.refl _, Reps.one (rep_lst.mpr ⟨a, _, rfl, hS, reps_ints ns⟩), ?_⟩
  rw [hF ns hl]
  intro v G' H' g r
  rw [rep_bl.mp r]
  exact q H'
theorem walk {l : PySem.W.OpenLaw} {q : Program} {loose : List Str} {XP : (Str → Option Value) → Heap → Prop} {YP : World → Heap → Prop} {d : DefRec} {K : Params → PySem.W.Frag} {k : Nat} {x : Str} (hn : l.most = some 63) (hdf : d.params.defaults = []) (hk : k ≤ 60)
    (hY : ∀ (w : World) (h : Heap), YP w h → (K w.params).In h)
    (F : ∀ (w : World) (mg : Str → Option Value) (fa : Addr) (h : Heap), (K w.params).In h → h.Ns mainGlobals mg → mg d.name = some (.ref fa) →
      ∃ fd : FuncData, (∀ (s : Shared) (u : Value), BindsTo s fd ⟨[u], []⟩ [(x, u)]) ∧ ∀ base : Heap, (K w.params).In base → base.Ns mainGlobals mg → FnOk l.prog w (K w.params) mg base (L2.CX l.prog w) k fa fd [x] (spLaw (K w.params))) :
    PySem.W.WalkO q loose XP YP l.row.toRowW d [] (fun f vs => PySem.call f vs) :=
  L2.walk_of (n := 63) (k := k) (x := x) (CX := fun w => L2.CX l.prog w) (sp := fun w => spLaw (K w.params)) hn (by decide) hdf (Room.mono ⟨rfl, by decide, by decide⟩ hk) hY F (fun _ _ a ns hl _ hS => ⟨a, ns, rfl, hS, hl, fun _ => rfl⟩)
    fun _ _ _ _ _ z => by
      obtain ⟨_, _, _, _, _, _, _, _, _, _, _, _, z⟩ := z
      exact z.elim
end Dl
namespace Dl
open PySem L2
theorem eqD_int (i j : Int) : eqD (.int i) (.int j) = some (i == j) := by
  simp [eqD, toPy, SeqAt.shaped, PyData.canLay0, PyData.depth, PyData.eqv]
theorem eqD_bl (i j : Bool) : eqD (.bl i) (.bl j) = some (i == j) := by
  simp [eqD, toPy, SeqAt.shaped, PyData.canLay0, PyData.depth, PyData.eqv]
theorem eqD_non_non : eqD .non .non = some true := by
  simp [eqD, toPy, SeqAt.shaped, PyData.canLay0, PyData.depth, PyData.eqv]
theorem eqD_str {i j : Str} (hi : PyData.strOk i = true) (hj : PyData.strOk j = true) : eqD (.str i) (.str j) = some (i == j) := by
  simp [eqD, toPy, SeqAt.shaped, PyData.canLay0, PyData.depth, PyData.eqv, hi, hj]
class KtR (β γ : Type) where
  run : β → Om → Res γ
class KtO (β : Type) where
  run : β → Om → Out
class KtB where
  run : Rho → Om → Out
class KtS (β γ : Type) where
  run : β → Res γ
class KtT (β : Type) where
  run : β → Out
class KtC where
  run : Om → Res D
def bindL {β γ : Type} (r : Res β) [k : KtR β γ] : Res γ := r.bind k.run
def outL {β : Type} (r : Res β) (ρ : Rho) [k : KtO β] : Out := r.out ρ k.run
def obL (r : Out) [k : KtB] : Out := r.bind k.run
section
variable {β γ : Type} {d x y : D} {ds es : List D} {ρ : Rho} {ω : Om} {i j k : Nat}
theorem bind_ok (a : β) (ω : Om) (g : β → Om → Res γ) : @bindL _ _ (Res.ok a ω) ⟨g⟩ = g a ω := rfl
theorem bind_exc (x : Exn) (ω : Om) (g : β → Om → Res γ) : @bindL _ _ (Res.exc x ω) ⟨g⟩ = .exc x ω := rfl
theorem out_ok (a : β) (ω : Om) (ρ : Rho) (g : β → Om → Out) : @outL _ (Res.ok a ω) ρ ⟨g⟩ = g a ω := rfl
theorem out_exc (x : Exn) (ω : Om) (ρ : Rho) (g : β → Om → Out) : @outL _ (Res.exc x ω) ρ ⟨g⟩ = .exc x ρ ω := rfl
theorem lift_some (a : β) (ω : Om) : Res.lift (some a) ω = .ok a ω := rfl
theorem obind_next (ρ : Rho) (ω : Om) (k : Rho → Om → Out) : @obL (Out.next ρ ω) ⟨k⟩ = k ρ ω := rfl
theorem obind_ret (x : SV) (ω : Om) (k : Rho → Om → Out) : @obL (Out.ret x ω) ⟨k⟩ = .ret x ω := rfl
theorem obind_exc (x : Exn) (ρ : Rho) (ω : Om) (k : Rho → Om → Out) : @obL (Out.exc x ρ ω) ⟨k⟩ = .exc x ρ ω := rfl
theorem obind_brk (ρ : Rho) (ω : Om) (k : Rho → Om → Out) : @obL (Out.brk ρ ω) ⟨k⟩ = .brk ρ ω := rfl
theorem obind_cont (ρ : Rho) (ω : Om) (k : Rho → Om → Out) : @obL (Out.cont ρ ω) ⟨k⟩ = .cont ρ ω := rfl
def varR : Option (Option SV) → Om → Res D
  | some (some (.val d)), ω => .ok d ω
  | _, _ => .stuck
def slotR : Option (Option SV) → Om → Res SV
  | some (some x), ω => .ok x ω
  | _, _ => .stuck
theorem eC_run : eC d ρ ω = .ok d ω := rfl
theorem eVar_run : eVar i ρ ω = varR ρ[i]? ω := by unfold eVar varR; split <;> simp_all
theorem varR_run : varR (some (some (.val d))) ω = .ok d ω := rfl
theorem eSlot_run : eSlot i ρ ω = slotR ρ[i]? ω := by unfold eSlot slotR; split <;> simp_all
theorem slotR_run {s : SV} : slotR (some (some s)) ω = .ok s ω := rfl
theorem eBin_run0 (op) (f g : FE D) : eBin op f g ρ ω = (f ρ ω).bind fun x ω1 => (g ρ ω1).bind fun y ω2 => Res.lift (op x y) ω2 := rfl
theorem eBin_run (op) (f g : FE D) : eBin op f g ρ ω = bindL (f ρ ω) (k := ⟨fun x ω1 => bindL (g ρ ω1) (k := ⟨fun y ω2 => Res.lift (op x y) ω2⟩)⟩) := by first | exact eBin_run0 | exact eBin_run0 _ | exact eBin_run0 _ _ | exact eBin_run0 _ _ _ | exact eBin_run0 _ _ _ _ | exact eBin_run0 _ _ _ _ _ | exact eBin_run0 _ _ _ _ _ _ | exact eBin_run0 _ _ _ _ _ _ _ | exact eBin_run0 _ _ _ _ _ _ _ _ | exact eBin_run0 _ _ _ _ _ _ _ _ _
theorem eUn_run0 (op) (f : FE D) : eUn op f ρ ω = (f ρ ω).bind fun x ω1 => Res.lift (op x) ω1 := rfl
theorem eUn_run (op) (f : FE D) : eUn op f ρ ω = bindL (f ρ ω) (k := ⟨fun x ω1 => Res.lift (op x) ω1⟩) := by first | exact eUn_run0 | exact eUn_run0 _ | exact eUn_run0 _ _ | exact eUn_run0 _ _ _ | exact eUn_run0 _ _ _ _ | exact eUn_run0 _ _ _ _ _ | exact eUn_run0 _ _ _ _ _ _ | exact eUn_run0 _ _ _ _ _ _ _ | exact eUn_run0 _ _ _ _ _ _ _ _ | exact eUn_run0 _ _ _ _ _ _ _ _ _
theorem eTest_run0 (f : FE D) : eTest f ρ ω = (f ρ ω).bind fun d ω1 => Res.lift (asBl d) ω1 := rfl
theorem eTest_run (f : FE D) : eTest f ρ ω = bindL (f ρ ω) (k := ⟨fun d ω1 => Res.lift (asBl d) ω1⟩) := by first | exact eTest_run0 | exact eTest_run0 _ | exact eTest_run0 _ _ | exact eTest_run0 _ _ _ | exact eTest_run0 _ _ _ _ | exact eTest_run0 _ _ _ _ _ | exact eTest_run0 _ _ _ _ _ _ | exact eTest_run0 _ _ _ _ _ _ _ | exact eTest_run0 _ _ _ _ _ _ _ _ | exact eTest_run0 _ _ _ _ _ _ _ _ _
theorem asBl_run (b : Bool) : asBl (.bl b) = some b := rfl
theorem eAndT_run0 (f g : FE Bool) : eAndT f g ρ ω = (f ρ ω).bind fun c ω1 => if c = true then g ρ ω1 else .ok false ω1 := rfl
theorem eAndT_run (f g : FE Bool) : eAndT f g ρ ω = bindL (f ρ ω) (k := ⟨fun c ω1 => if c = true then g ρ ω1 else .ok false ω1⟩) := by first | exact eAndT_run0 | exact eAndT_run0 _ | exact eAndT_run0 _ _ | exact eAndT_run0 _ _ _ | exact eAndT_run0 _ _ _ _ | exact eAndT_run0 _ _ _ _ _ | exact eAndT_run0 _ _ _ _ _ _ | exact eAndT_run0 _ _ _ _ _ _ _ | exact eAndT_run0 _ _ _ _ _ _ _ _ | exact eAndT_run0 _ _ _ _ _ _ _ _ _
theorem eOrT_run0 (f g : FE Bool) : eOrT f g ρ ω = (f ρ ω).bind fun c ω1 => if c = true then .ok true ω1 else g ρ ω1 := rfl
theorem eOrT_run (f g : FE Bool) : eOrT f g ρ ω = bindL (f ρ ω) (k := ⟨fun c ω1 => if c = true then .ok true ω1 else g ρ ω1⟩) := by first | exact eOrT_run0 | exact eOrT_run0 _ | exact eOrT_run0 _ _ | exact eOrT_run0 _ _ _ | exact eOrT_run0 _ _ _ _ | exact eOrT_run0 _ _ _ _ _ | exact eOrT_run0 _ _ _ _ _ _ | exact eOrT_run0 _ _ _ _ _ _ _ | exact eOrT_run0 _ _ _ _ _ _ _ _ | exact eOrT_run0 _ _ _ _ _ _ _ _ _
theorem eNotT_run0 (f : FE Bool) : eNotT f ρ ω = (f ρ ω).bind fun c ω1 => .ok (!c) ω1 := rfl
theorem eNotT_run (f : FE Bool) : eNotT f ρ ω = bindL (f ρ ω) (k := ⟨fun c ω1 => .ok (!c) ω1⟩) := by first | exact eNotT_run0 | exact eNotT_run0 _ | exact eNotT_run0 _ _ | exact eNotT_run0 _ _ _ | exact eNotT_run0 _ _ _ _ | exact eNotT_run0 _ _ _ _ _ | exact eNotT_run0 _ _ _ _ _ _ | exact eNotT_run0 _ _ _ _ _ _ _ | exact eNotT_run0 _ _ _ _ _ _ _ _ | exact eNotT_run0 _ _ _ _ _ _ _ _ _
theorem eTrue_run : eTrue ρ ω = .ok true ω := rfl
theorem eAnd_run0 (f g : FE D) : eAnd f g ρ ω = (eTest f ρ ω).bind fun c ω1 => if c = true then g ρ ω1 else .ok (.bl false) ω1 := rfl
theorem eAnd_run (f g : FE D) : eAnd f g ρ ω = bindL (eTest f ρ ω) (k := ⟨fun c ω1 => if c = true then g ρ ω1 else .ok (.bl false) ω1⟩) := by first | exact eAnd_run0 | exact eAnd_run0 _ | exact eAnd_run0 _ _ | exact eAnd_run0 _ _ _ | exact eAnd_run0 _ _ _ _ | exact eAnd_run0 _ _ _ _ _ | exact eAnd_run0 _ _ _ _ _ _ | exact eAnd_run0 _ _ _ _ _ _ _ | exact eAnd_run0 _ _ _ _ _ _ _ _ | exact eAnd_run0 _ _ _ _ _ _ _ _ _
theorem eOr_run0 (f g : FE D) : eOr f g ρ ω = (eTest f ρ ω).bind fun c ω1 => if c = true then .ok (.bl true) ω1 else g ρ ω1 := rfl
theorem eOr_run (f g : FE D) : eOr f g ρ ω = bindL (eTest f ρ ω) (k := ⟨fun c ω1 => if c = true then .ok (.bl true) ω1 else g ρ ω1⟩) := by first | exact eOr_run0 | exact eOr_run0 _ | exact eOr_run0 _ _ | exact eOr_run0 _ _ _ | exact eOr_run0 _ _ _ _ | exact eOr_run0 _ _ _ _ _ | exact eOr_run0 _ _ _ _ _ _ | exact eOr_run0 _ _ _ _ _ _ _ | exact eOr_run0 _ _ _ _ _ _ _ _ | exact eOr_run0 _ _ _ _ _ _ _ _ _
theorem eNot_run0 (f : FE D) : eNot f ρ ω = (eTest f ρ ω).bind fun c ω1 => .ok (.bl (!c)) ω1 := rfl
theorem eNot_run (f : FE D) : eNot f ρ ω = bindL (eTest f ρ ω) (k := ⟨fun c ω1 => .ok (.bl (!c)) ω1⟩) := by first | exact eNot_run0 | exact eNot_run0 _ | exact eNot_run0 _ _ | exact eNot_run0 _ _ _ | exact eNot_run0 _ _ _ _ | exact eNot_run0 _ _ _ _ _ | exact eNot_run0 _ _ _ _ _ _ | exact eNot_run0 _ _ _ _ _ _ _ | exact eNot_run0 _ _ _ _ _ _ _ _ | exact eNot_run0 _ _ _ _ _ _ _ _ _
theorem eIf_run0 (c : FE Bool) (f g : FE D) : eIf c f g ρ ω = (c ρ ω).bind fun b ω1 => if b = true then f ρ ω1 else g ρ ω1 := rfl
theorem eIf_run (c : FE Bool) (f g : FE D) : eIf c f g ρ ω = bindL (c ρ ω) (k := ⟨fun b ω1 => if b = true then f ρ ω1 else g ρ ω1⟩) := by first | exact eIf_run0 | exact eIf_run0 _ | exact eIf_run0 _ _ | exact eIf_run0 _ _ _ | exact eIf_run0 _ _ _ _ | exact eIf_run0 _ _ _ _ _ | exact eIf_run0 _ _ _ _ _ _ | exact eIf_run0 _ _ _ _ _ _ _ | exact eIf_run0 _ _ _ _ _ _ _ _ | exact eIf_run0 _ _ _ _ _ _ _ _ _
theorem aNil_run : aNil ρ ω = .ok [] ω := rfl
theorem aCons_run0 (f : FE SV) (g : FE (List SV)) : aCons f g ρ ω = (f ρ ω).bind fun x ω1 => (g ρ ω1).bind fun xs ω2 => .ok (x :: xs) ω2 := rfl
theorem aCons_run (f : FE SV) (g : FE (List SV)) : aCons f g ρ ω = bindL (f ρ ω) (k := ⟨fun x ω1 => bindL (g ρ ω1) (k := ⟨fun xs ω2 => .ok (x :: xs) ω2⟩)⟩) := by first | exact aCons_run0 | exact aCons_run0 _ | exact aCons_run0 _ _ | exact aCons_run0 _ _ _ | exact aCons_run0 _ _ _ _ | exact aCons_run0 _ _ _ _ _ | exact aCons_run0 _ _ _ _ _ _ | exact aCons_run0 _ _ _ _ _ _ _ | exact aCons_run0 _ _ _ _ _ _ _ _ | exact aCons_run0 _ _ _ _ _ _ _ _ _
theorem aVal_run0 (f : FE D) : aVal f ρ ω = (f ρ ω).bind fun d ω1 => .ok (.val d) ω1 := rfl
theorem aVal_run (f : FE D) : aVal f ρ ω = bindL (f ρ ω) (k := ⟨fun d ω1 => .ok (.val d) ω1⟩) := by first | exact aVal_run0 | exact aVal_run0 _ | exact aVal_run0 _ _ | exact aVal_run0 _ _ _ | exact aVal_run0 _ _ _ _ | exact aVal_run0 _ _ _ _ _ | exact aVal_run0 _ _ _ _ _ _ | exact aVal_run0 _ _ _ _ _ _ _ | exact aVal_run0 _ _ _ _ _ _ _ _ | exact aVal_run0 _ _ _ _ _ _ _ _ _
theorem allD_nil : allD [] = some [] := rfl
theorem allD_cons (xs : List SV) : allD (.val d :: xs) = (allD xs).map (d :: ·) := rfl
def tupR (o : Option (List D)) (n : Nat) : Option D := if n ≤ lim then o.map D.tup else none
def lstR (o : Option (List D)) (n : Nat) : Option D := if n ≤ lim then o.map D.lst else none
theorem eTup_run0 (g : FE (List SV)) : eTup g ρ ω = (g ρ ω).bind fun xs ω1 => Res.lift (tupR (allD xs) xs.length) ω1 := rfl
theorem eTup_run (g : FE (List SV)) : eTup g ρ ω = bindL (g ρ ω) (k := ⟨fun xs ω1 => Res.lift (tupR (allD xs) xs.length) ω1⟩) := by first | exact eTup_run0 | exact eTup_run0 _ | exact eTup_run0 _ _ | exact eTup_run0 _ _ _ | exact eTup_run0 _ _ _ _ | exact eTup_run0 _ _ _ _ _ | exact eTup_run0 _ _ _ _ _ _ | exact eTup_run0 _ _ _ _ _ _ _ | exact eTup_run0 _ _ _ _ _ _ _ _ | exact eTup_run0 _ _ _ _ _ _ _ _ _
theorem eList_run0 (g : FE (List SV)) : eList g ρ ω = (g ρ ω).bind fun xs ω1 => Res.lift (lstR (allD xs) xs.length) ω1 := rfl
theorem eList_run (g : FE (List SV)) : eList g ρ ω = bindL (g ρ ω) (k := ⟨fun xs ω1 => Res.lift (lstR (allD xs) xs.length) ω1⟩) := by first | exact eList_run0 | exact eList_run0 _ | exact eList_run0 _ _ | exact eList_run0 _ _ _ | exact eList_run0 _ _ _ _ | exact eList_run0 _ _ _ _ _ | exact eList_run0 _ _ _ _ _ _ | exact eList_run0 _ _ _ _ _ _ _ | exact eList_run0 _ _ _ _ _ _ _ _ | exact eList_run0 _ _ _ _ _ _ _ _ _
theorem tupR_run {n : Nat} (h : n ≤ lim) : tupR (some ds) n = some (.tup ds) := by unfold tupR; rw [if_pos h]; rfl
theorem lstR_run {n : Nat} (h : n ≤ lim) : lstR (some ds) n = some (.lst ds) := by unfold lstR; rw [if_pos h]; rfl
theorem eLst_run0 (f : FE D) : eLst f ρ ω = (f ρ ω).bind fun d ω1 => Res.lift (asLst d) ω1 := rfl
theorem eLst_run (f : FE D) : eLst f ρ ω = bindL (f ρ ω) (k := ⟨fun d ω1 => Res.lift (asLst d) ω1⟩) := by first | exact eLst_run0 | exact eLst_run0 _ | exact eLst_run0 _ _ | exact eLst_run0 _ _ _ | exact eLst_run0 _ _ _ _ | exact eLst_run0 _ _ _ _ _ | exact eLst_run0 _ _ _ _ _ _ | exact eLst_run0 _ _ _ _ _ _ _ | exact eLst_run0 _ _ _ _ _ _ _ _ | exact eLst_run0 _ _ _ _ _ _ _ _ _
theorem asLst_run : asLst (.lst ds) = some ds := rfl
theorem eCallB_run0 (op) (g : FE (List SV)) : eCallB op g ρ ω = (g ρ ω).bind fun xs ω1 => Res.lift ((allD xs).bind op) ω1 := rfl
theorem eCallB_run (op) (g : FE (List SV)) : eCallB op g ρ ω = bindL (g ρ ω) (k := ⟨fun xs ω1 => Res.lift ((allD xs).bind op) ω1⟩) := by first | exact eCallB_run0 | exact eCallB_run0 _ | exact eCallB_run0 _ _ | exact eCallB_run0 _ _ _ | exact eCallB_run0 _ _ _ _ | exact eCallB_run0 _ _ _ _ _ | exact eCallB_run0 _ _ _ _ _ _ | exact eCallB_run0 _ _ _ _ _ _ _ | exact eCallB_run0 _ _ _ _ _ _ _ _ | exact eCallB_run0 _ _ _ _ _ _ _ _ _
theorem eOnL_run0 (op) (g : FE (List D)) : eOnL op g ρ ω = (g ρ ω).bind fun ds ω1 => Res.lift (op ds) ω1 := rfl
theorem eOnL_run (op) (g : FE (List D)) : eOnL op g ρ ω = bindL (g ρ ω) (k := ⟨fun ds ω1 => Res.lift (op ds) ω1⟩) := by first | exact eOnL_run0 | exact eOnL_run0 _ | exact eOnL_run0 _ _ | exact eOnL_run0 _ _ _ | exact eOnL_run0 _ _ _ _ | exact eOnL_run0 _ _ _ _ _ | exact eOnL_run0 _ _ _ _ _ _ | exact eOnL_run0 _ _ _ _ _ _ _ | exact eOnL_run0 _ _ _ _ _ _ _ _ | exact eOnL_run0 _ _ _ _ _ _ _ _ _
theorem eIsi_run0 (u) (f : FE D) : eIsi u f ρ ω = (f ρ ω).bind fun d ω1 => Res.lift (isiD u d) ω1 := rfl
theorem eIsi_run (u) (f : FE D) : eIsi u f ρ ω = bindL (f ρ ω) (k := ⟨fun d ω1 => Res.lift (isiD u d) ω1⟩) := by first | exact eIsi_run0 | exact eIsi_run0 _ | exact eIsi_run0 _ _ | exact eIsi_run0 _ _ _ | exact eIsi_run0 _ _ _ _ | exact eIsi_run0 _ _ _ _ _ | exact eIsi_run0 _ _ _ _ _ _ | exact eIsi_run0 _ _ _ _ _ _ _ | exact eIsi_run0 _ _ _ _ _ _ _ _ | exact eIsi_run0 _ _ _ _ _ _ _ _ _
theorem eSl_run0 (f : FE D) (lo hi : FE (Option Int)) : eSl f lo hi ρ ω = (f ρ ω).bind fun d ω1 => (lo ρ ω1).bind fun l ω2 => (hi ρ ω2).bind fun h ω3 => Res.lift (slD l h d) ω3 := rfl
theorem eSl_run (f : FE D) (lo hi : FE (Option Int)) : eSl f lo hi ρ ω = bindL (f ρ ω) (k := ⟨fun d ω1 => bindL (lo ρ ω1) (k := ⟨fun l ω2 => bindL (hi ρ ω2) (k := ⟨fun h ω3 => Res.lift (slD l h d) ω3⟩)⟩)⟩) := by first | exact eSl_run0 | exact eSl_run0 _ | exact eSl_run0 _ _ | exact eSl_run0 _ _ _ | exact eSl_run0 _ _ _ _ | exact eSl_run0 _ _ _ _ _ | exact eSl_run0 _ _ _ _ _ _ | exact eSl_run0 _ _ _ _ _ _ _ | exact eSl_run0 _ _ _ _ _ _ _ _ | exact eSl_run0 _ _ _ _ _ _ _ _ _
theorem ePart_run0 (f : FE D) : ePart f ρ ω = (f ρ ω).bind fun d ω1 => Res.lift (asI d) ω1 := rfl
theorem ePart_run (f : FE D) : ePart f ρ ω = bindL (f ρ ω) (k := ⟨fun d ω1 => Res.lift (asI d) ω1⟩) := by first | exact ePart_run0 | exact ePart_run0 _ | exact ePart_run0 _ _ | exact ePart_run0 _ _ _ | exact ePart_run0 _ _ _ _ | exact ePart_run0 _ _ _ _ _ | exact ePart_run0 _ _ _ _ _ _ | exact ePart_run0 _ _ _ _ _ _ _ | exact ePart_run0 _ _ _ _ _ _ _ _ | exact ePart_run0 _ _ _ _ _ _ _ _ _
theorem asI_run (n : Int) : asI (.int n) = some (some n) := rfl
theorem eNoPart_run : eNoPart ρ ω = .ok none ω := rfl
def chR (o : Option D) (ω : Om) (k : Om → Res D) : Res D := match o with
  | some (.bl true) => k ω
  | some (.bl false) => .ok (.bl false) ω
  | _ => .stuck
def chRL (o : Option D) (ω : Om) [k : KtC] : Res D := chR o ω k.run
theorem eChain_run0 (op op') (f g h : FE D) : eChain op op' f g h ρ ω = (f ρ ω).bind fun x ω1 => (g ρ ω1).bind fun y ω2 => chR (op x y) ω2 fun ω2 => (h ρ ω2).bind fun z ω3 => Res.lift (op' y z) ω3 := by
  unfold eChain chR
  rfl
theorem eChain_run (op op') (f g h : FE D) : eChain op op' f g h ρ ω = bindL (f ρ ω) (k := ⟨fun x ω1 => bindL (g ρ ω1) (k := ⟨fun y ω2 => chRL (op x y) ω2 (k := ⟨fun ω2 => bindL (h ρ ω2) (k := ⟨fun z ω3 => Res.lift (op' y z) ω3⟩)⟩)⟩)⟩) := by first | exact eChain_run0 | exact eChain_run0 _ | exact eChain_run0 _ _ | exact eChain_run0 _ _ _ | exact eChain_run0 _ _ _ _ | exact eChain_run0 _ _ _ _ _ | exact eChain_run0 _ _ _ _ _ _ | exact eChain_run0 _ _ _ _ _ _ _ | exact eChain_run0 _ _ _ _ _ _ _ _ | exact eChain_run0 _ _ _ _ _ _ _ _ _
theorem chR_run (b : Bool) (k : Om → Res D) : @chRL (some (.bl b)) ω ⟨k⟩ = if b = true then k ω else .ok (.bl false) ω := by cases b <;> rfl
def ownKR : Option (Option SV) → Option Nat
  | some (some (.own k)) => some k
  | _ => none
def ownLR : Option (Option OD) → Option (List D)
  | some (some (.lst ds)) => some ds
  | _ => none
theorem ownK_run : ownK ρ i = ownKR ρ[i]? := by unfold ownK ownKR; split <;> simp_all
theorem ownKR_run : ownKR (some (some (.own k))) = some k := rfl
theorem ownL_run : ownL ω k = ownLR ω[k]? := by unfold ownL ownLR; split <;> simp_all
theorem ownLR_run : ownLR (some (some (.lst ds))) = some ds := rfl
def someR {β γ : Type} (o : Option β) (k : β → Res γ) : Res γ := match o with
  | none => .stuck
  | some b => k b
def someO {β : Type} (o : Option β) (k : β → Out) : Out := match o with
  | none => .stuck
  | some b => k b
def someRL {β γ : Type} (o : Option β) [k : KtS β γ] : Res γ := someR o k.run
def someOL {β : Type} (o : Option β) [k : KtT β] : Out := someO o k.run
theorem someR_run (b : β) (k : β → Res γ) : @someRL _ _ (some b) ⟨k⟩ = k b := rfl
theorem someO_run (b : β) (k : β → Out) : @someOL _ (some b) ⟨k⟩ = k b := rfl
theorem eIxO_run0 (g : FE D) : eIxO i g ρ ω = someR (ownK ρ i) fun k => (g ρ ω).bind fun z ω1 => someR (ownL ω1 k) fun ds => Res.lift (ixI ds z) ω1 := by
  unfold eIxO someR
  cases ownK ρ i with
  | none => rfl
  | some k =>
    dsimp only
    congr 1
    funext z ω1
    cases ownL ω1 k <;> rfl
theorem eIxO_run (g : FE D) : eIxO i g ρ ω = someRL (ownK ρ i) (k := ⟨fun k => bindL (g ρ ω) (k := ⟨fun z ω1 => someRL (ownL ω1 k) (k := ⟨fun ds => Res.lift (ixI ds z) ω1⟩)⟩)⟩) := by first | exact eIxO_run0 | exact eIxO_run0 _ | exact eIxO_run0 _ _ | exact eIxO_run0 _ _ _ | exact eIxO_run0 _ _ _ _ | exact eIxO_run0 _ _ _ _ _ | exact eIxO_run0 _ _ _ _ _ _ | exact eIxO_run0 _ _ _ _ _ _ _ | exact eIxO_run0 _ _ _ _ _ _ _ _ | exact eIxO_run0 _ _ _ _ _ _ _ _ _
theorem ixI_run (n : Int) : ixI ds (.int n) = atI ds n := rfl
theorem eOwnL_run0 : eOwnL i ρ ω = someR (ownK ρ i) fun k => someR (ownL ω k) fun ds => .ok ds ω := by
  unfold eOwnL ownK someR ownL
  cases ρ[i]? with
  | none => rfl
  | some o =>
    cases o with
    | none => rfl
    | some x =>
      cases x with
      | val d => rfl
      | exc d => rfl
      | own k =>
        dsimp only
        cases ω[k]? with
        | none => rfl
        | some o =>
          cases o with
          | none => rfl
          | some u => cases u <;> rfl
theorem eOwnL_run : eOwnL i ρ ω = someRL (ownK ρ i) (k := ⟨fun k => someRL (ownL ω k) (k := ⟨fun ds => .ok ds ω⟩)⟩) := by first | exact eOwnL_run0 | exact eOwnL_run0 _ | exact eOwnL_run0 _ _ | exact eOwnL_run0 _ _ _ | exact eOwnL_run0 _ _ _ _ | exact eOwnL_run0 _ _ _ _ _ | exact eOwnL_run0 _ _ _ _ _ _ | exact eOwnL_run0 _ _ _ _ _ _ _ | exact eOwnL_run0 _ _ _ _ _ _ _ _ | exact eOwnL_run0 _ _ _ _ _ _ _ _ _
theorem sNext_run : sNext ρ ω = .next ρ ω := rfl
theorem sSeq_run (f g : FS) : sSeq f g ρ ω = obL (f ρ ω) (k := ⟨g⟩) := rfl
theorem sIf_run0 (c : FE Bool) (f g : FS) : sIf c f g ρ ω = (c ρ ω).out ρ fun b ω1 => if b = true then f ρ ω1 else g ρ ω1 := rfl
theorem sIf_run (c : FE Bool) (f g : FS) : sIf c f g ρ ω = outL (c ρ ω) ρ (k := ⟨fun b ω1 => if b = true then f ρ ω1 else g ρ ω1⟩) := by first | exact sIf_run0 | exact sIf_run0 _ | exact sIf_run0 _ _ | exact sIf_run0 _ _ _ | exact sIf_run0 _ _ _ _ | exact sIf_run0 _ _ _ _ _ | exact sIf_run0 _ _ _ _ _ _ | exact sIf_run0 _ _ _ _ _ _ _ | exact sIf_run0 _ _ _ _ _ _ _ _ | exact sIf_run0 _ _ _ _ _ _ _ _ _
theorem sExpr_run0 (f : FE D) : sExpr f ρ ω = (f ρ ω).out ρ fun _ ω1 => .next ρ ω1 := rfl
theorem sExpr_run (f : FE D) : sExpr f ρ ω = outL (f ρ ω) ρ (k := ⟨fun _ ω1 => .next ρ ω1⟩) := by first | exact sExpr_run0 | exact sExpr_run0 _ | exact sExpr_run0 _ _ | exact sExpr_run0 _ _ _ | exact sExpr_run0 _ _ _ _ | exact sExpr_run0 _ _ _ _ _ | exact sExpr_run0 _ _ _ _ _ _ | exact sExpr_run0 _ _ _ _ _ _ _ | exact sExpr_run0 _ _ _ _ _ _ _ _ | exact sExpr_run0 _ _ _ _ _ _ _ _ _
theorem sRet_run0 (f : FE D) : sRet f ρ ω = (f ρ ω).out ρ fun d ω1 => .ret (.val d) ω1 := rfl
theorem sRet_run (f : FE D) : sRet f ρ ω = outL (f ρ ω) ρ (k := ⟨fun d ω1 => .ret (.val d) ω1⟩) := by first | exact sRet_run0 | exact sRet_run0 _ | exact sRet_run0 _ _ | exact sRet_run0 _ _ _ | exact sRet_run0 _ _ _ _ | exact sRet_run0 _ _ _ _ _ | exact sRet_run0 _ _ _ _ _ _ | exact sRet_run0 _ _ _ _ _ _ _ | exact sRet_run0 _ _ _ _ _ _ _ _ | exact sRet_run0 _ _ _ _ _ _ _ _ _
theorem sRetS_run0 (f : FE SV) : sRetS f ρ ω = (f ρ ω).out ρ fun x ω1 => .ret x ω1 := rfl
theorem sRetS_run (f : FE SV) : sRetS f ρ ω = outL (f ρ ω) ρ (k := ⟨fun x ω1 => .ret x ω1⟩) := by first | exact sRetS_run0 | exact sRetS_run0 _ | exact sRetS_run0 _ _ | exact sRetS_run0 _ _ _ | exact sRetS_run0 _ _ _ _ | exact sRetS_run0 _ _ _ _ _ | exact sRetS_run0 _ _ _ _ _ _ | exact sRetS_run0 _ _ _ _ _ _ _ | exact sRetS_run0 _ _ _ _ _ _ _ _ | exact sRetS_run0 _ _ _ _ _ _ _ _ _
theorem sRetN_run : sRetN ρ ω = .ret (.val .non) ω := rfl
theorem sBreak_run : sBreak ρ ω = .brk ρ ω := rfl
theorem sCont_run : sCont ρ ω = .cont ρ ω := rfl
theorem sAsg_run0 (f : FE D) (tg : FG) : sAsg f tg ρ ω = (f ρ ω).out ρ fun d ω1 => someO (tg d ρ) fun ρ' => .next ρ' ω1 := by
  unfold sAsg someO
  congr 1
  funext d ω1
  cases tg d ρ <;> rfl
theorem sAsg_run (f : FE D) (tg : FG) : sAsg f tg ρ ω = outL (f ρ ω) ρ (k := ⟨fun d ω1 => someOL (tg d ρ) (k := ⟨fun ρ' => .next ρ' ω1⟩)⟩) := by first | exact sAsg_run0 | exact sAsg_run0 _ | exact sAsg_run0 _ _ | exact sAsg_run0 _ _ _ | exact sAsg_run0 _ _ _ _ | exact sAsg_run0 _ _ _ _ _ | exact sAsg_run0 _ _ _ _ _ _ | exact sAsg_run0 _ _ _ _ _ _ _ | exact sAsg_run0 _ _ _ _ _ _ _ _ | exact sAsg_run0 _ _ _ _ _ _ _ _ _
theorem sSetS_run0 (f : FE SV) : sSetS i f ρ ω = (f ρ ω).out ρ fun x ω1 => .next (ρ.set i (some x)) ω1 := rfl
theorem sSetS_run (f : FE SV) : sSetS i f ρ ω = outL (f ρ ω) ρ (k := ⟨fun x ω1 => .next (ρ.set i (some x)) ω1⟩) := by first | exact sSetS_run0 | exact sSetS_run0 _ | exact sSetS_run0 _ _ | exact sSetS_run0 _ _ _ | exact sSetS_run0 _ _ _ _ | exact sSetS_run0 _ _ _ _ _ | exact sSetS_run0 _ _ _ _ _ _ | exact sSetS_run0 _ _ _ _ _ _ _ | exact sSetS_run0 _ _ _ _ _ _ _ _ | exact sSetS_run0 _ _ _ _ _ _ _ _ _
def parR (i j : Nat) (ρ : Rho) (ω : Om) : List SV → Out
  | [x, y] => .next ((ρ.set i (some x)).set j (some y)) ω
  | _ => .stuck
theorem sPar_run0 (f : FE (List SV)) : sPar i j f ρ ω = (f ρ ω).out ρ fun xs ω1 => parR i j ρ ω1 xs := by
  unfold sPar parR; rfl
theorem sPar_run (f : FE (List SV)) : sPar i j f ρ ω = outL (f ρ ω) ρ (k := ⟨fun xs ω1 => parR i j ρ ω1 xs⟩) := by first | exact sPar_run0 | exact sPar_run0 _ | exact sPar_run0 _ _ | exact sPar_run0 _ _ _ | exact sPar_run0 _ _ _ _ | exact sPar_run0 _ _ _ _ _ | exact sPar_run0 _ _ _ _ _ _ | exact sPar_run0 _ _ _ _ _ _ _ | exact sPar_run0 _ _ _ _ _ _ _ _ | exact sPar_run0 _ _ _ _ _ _ _ _ _
theorem parR_run (x y : SV) : parR i j ρ ω [x, y] = .next ((ρ.set i (some x)).set j (some y)) ω := rfl
theorem gN_run : gN i d ρ = some (ρ.set i (some (.val d))) := rfl
theorem gT_run {n : Nat} {g} (h : ds.length = n) : gT n g (.tup ds) ρ = g ds ρ := by unfold gT; dsimp only; rw [if_pos h]
theorem gsNil_run : gsNil [] ρ = some ρ := rfl
theorem gsCons_run (f : FG) (g) : gsCons f g (d :: ds) ρ = (f d ρ).bind fun ρ1 => g ds ρ1 := rfl
theorem sFor_run0 (it : FE (List D)) (tg : FG) (b : FS) : sFor it tg b ρ ω = (it ρ ω).out ρ fun ds ω1 => forL tg b ds ρ ω1 := rfl
theorem sFor_run (it : FE (List D)) (tg : FG) (b : FS) : sFor it tg b ρ ω = outL (it ρ ω) ρ (k := ⟨fun ds ω1 => forL tg b ds ρ ω1⟩) := by first | exact sFor_run0 | exact sFor_run0 _ | exact sFor_run0 _ _ | exact sFor_run0 _ _ _ | exact sFor_run0 _ _ _ _ | exact sFor_run0 _ _ _ _ _ | exact sFor_run0 _ _ _ _ _ _ | exact sFor_run0 _ _ _ _ _ _ _ | exact sFor_run0 _ _ _ _ _ _ _ _ | exact sFor_run0 _ _ _ _ _ _ _ _ _
theorem sWhile_run (n) (c : FE Bool) (b : FS) : sWhile n c b ρ ω = whileF c b n ρ ω := rfl
theorem eIt1_run0 (o) (f : FE D) : eIt1 o f ρ ω = (f ρ ω).bind fun d ω1 => Res.lift (o d) ω1 := rfl
theorem eIt1_run (o) (f : FE D) : eIt1 o f ρ ω = bindL (f ρ ω) (k := ⟨fun d ω1 => Res.lift (o d) ω1⟩) := by first | exact eIt1_run0 | exact eIt1_run0 _ | exact eIt1_run0 _ _ | exact eIt1_run0 _ _ _ | exact eIt1_run0 _ _ _ _ | exact eIt1_run0 _ _ _ _ _ | exact eIt1_run0 _ _ _ _ _ _ | exact eIt1_run0 _ _ _ _ _ _ _ | exact eIt1_run0 _ _ _ _ _ _ _ _ | exact eIt1_run0 _ _ _ _ _ _ _ _ _
theorem eIt2_run0 (o) (f g : FE D) : eIt2 o f g ρ ω = (f ρ ω).bind fun d ω1 => (g ρ ω1).bind fun e ω2 => Res.lift (o d e) ω2 := rfl
theorem eIt2_run (o) (f g : FE D) : eIt2 o f g ρ ω = bindL (f ρ ω) (k := ⟨fun d ω1 => bindL (g ρ ω1) (k := ⟨fun e ω2 => Res.lift (o d e) ω2⟩)⟩) := by first | exact eIt2_run0 | exact eIt2_run0 _ | exact eIt2_run0 _ _ | exact eIt2_run0 _ _ _ | exact eIt2_run0 _ _ _ _ | exact eIt2_run0 _ _ _ _ _ | exact eIt2_run0 _ _ _ _ _ _ | exact eIt2_run0 _ _ _ _ _ _ _ | exact eIt2_run0 _ _ _ _ _ _ _ _ | exact eIt2_run0 _ _ _ _ _ _ _ _ _
theorem eIt3_run0 (o) (f g h : FE D) : eIt3 o f g h ρ ω = (f ρ ω).bind fun d ω1 => (g ρ ω1).bind fun e ω2 => (h ρ ω2).bind fun k ω3 => Res.lift (o d e k) ω3 := rfl
theorem eIt3_run (o) (f g h : FE D) : eIt3 o f g h ρ ω = bindL (f ρ ω) (k := ⟨fun d ω1 => bindL (g ρ ω1) (k := ⟨fun e ω2 => bindL (h ρ ω2) (k := ⟨fun k ω3 => Res.lift (o d e k) ω3⟩)⟩)⟩) := by first | exact eIt3_run0 | exact eIt3_run0 _ | exact eIt3_run0 _ _ | exact eIt3_run0 _ _ _ | exact eIt3_run0 _ _ _ _ | exact eIt3_run0 _ _ _ _ _ | exact eIt3_run0 _ _ _ _ _ _ | exact eIt3_run0 _ _ _ _ _ _ _ | exact eIt3_run0 _ _ _ _ _ _ _ _ | exact eIt3_run0 _ _ _ _ _ _ _ _ _
theorem itSeq_lst : itSeq (.lst ds) = some ds := rfl
theorem itSeq_tup : itSeq (.tup ds) = some ds := rfl
theorem itEn_lst : itEn (.lst ds) = some (enumD ds) := rfl
theorem itEn_tup : itEn (.tup ds) = some (enumD ds) := rfl
theorem itZ_lst : itZ (.lst ds) (.lst es) = some (zipD ds es) := rfl
theorem itZ_tup : itZ (.tup ds) (.tup es) = some (zipD ds es) := rfl
theorem eLc_run0 (vs) (it : FE (List D)) (tg) (tt) (el : FE D) : eLc vs it tg tt el ρ ω = (it ρ ω).bind fun ds ω1 => lcL tg tt el (wipeR ρ vs) ds [] ω1 := rfl
theorem eLc_run (vs) (it : FE (List D)) (tg) (tt) (el : FE D) : eLc vs it tg tt el ρ ω = bindL (it ρ ω) (k := ⟨fun ds ω1 => lcL tg tt el (wipeR ρ vs) ds [] ω1⟩) := by first | exact eLc_run0 | exact eLc_run0 _ | exact eLc_run0 _ _ | exact eLc_run0 _ _ _ | exact eLc_run0 _ _ _ _ | exact eLc_run0 _ _ _ _ _ | exact eLc_run0 _ _ _ _ _ _ | exact eLc_run0 _ _ _ _ _ _ _ | exact eLc_run0 _ _ _ _ _ _ _ _ | exact eLc_run0 _ _ _ _ _ _ _ _ _
theorem eLc2_run0 (vs vs1) (it : FE (List D)) (tg tt) (it1 : FE (List D)) (tg1 tt1) (el : FE D) : eLc2 vs vs1 it tg tt it1 tg1 tt1 el ρ ω = (it ρ ω).bind fun ds ω1 => lc2L tg tt it1 tg1 tt1 el vs1 (wipeR ρ vs) ds [] ω1 := rfl
theorem eLc2_run (vs vs1) (it : FE (List D)) (tg tt) (it1 : FE (List D)) (tg1 tt1) (el : FE D) : eLc2 vs vs1 it tg tt it1 tg1 tt1 el ρ ω = bindL (it ρ ω) (k := ⟨fun ds ω1 => lc2L tg tt it1 tg1 tt1 el vs1 (wipeR ρ vs) ds [] ω1⟩) := by first | exact eLc2_run0 | exact eLc2_run0 _ | exact eLc2_run0 _ _ | exact eLc2_run0 _ _ _ | exact eLc2_run0 _ _ _ _ | exact eLc2_run0 _ _ _ _ _ | exact eLc2_run0 _ _ _ _ _ _ | exact eLc2_run0 _ _ _ _ _ _ _ | exact eLc2_run0 _ _ _ _ _ _ _ _ | exact eLc2_run0 _ _ _ _ _ _ _ _ _
theorem wipeR_nil : wipeR ρ [] = ρ := rfl
theorem wipeR_cons (v : Nat) (vs : List Nat) : wipeR ρ (v :: vs) = (wipeR ρ vs).set v none := rfl
def newR (o : Option (List D)) (n i : Nat) (ρ : Rho) (ω : Om) : Out := match o with
  | some ds => if n ≤ lim then .next (ρ.set i (some (.own ω.length))) (ω ++ [some (.lst ds)]) else .stuck
  | none => .stuck
theorem sNewL_run0 (g : FE (List SV)) : sNewL i g ρ ω = (g ρ ω).out ρ fun xs ω1 => newR (allD xs) xs.length i ρ ω1 := by
  unfold sNewL newR; rfl
theorem sNewL_run (g : FE (List SV)) : sNewL i g ρ ω = outL (g ρ ω) ρ (k := ⟨fun xs ω1 => newR (allD xs) xs.length i ρ ω1⟩) := by first | exact sNewL_run0 | exact sNewL_run0 _ | exact sNewL_run0 _ _ | exact sNewL_run0 _ _ _ | exact sNewL_run0 _ _ _ _ | exact sNewL_run0 _ _ _ _ _ | exact sNewL_run0 _ _ _ _ _ _ | exact sNewL_run0 _ _ _ _ _ _ _ | exact sNewL_run0 _ _ _ _ _ _ _ _ | exact sNewL_run0 _ _ _ _ _ _ _ _ _
theorem newR_run {n : Nat} (h : n ≤ lim) : newR (some ds) n i ρ ω = .next (ρ.set i (some (.own ω.length))) (ω ++ [some (.lst ds)]) := by unfold newR; dsimp only; rw [if_pos h]
theorem sApp_run0 (f : FE D) : sApp i f ρ ω = someO (ownK ρ i) fun k => someO (ownL ω k) fun _ => (f ρ ω).out ρ fun d ω1 => someO (ownL ω1 k) fun ds => if ds.length < lim then .next ρ (ω1.set k (some (.lst (ds ++ [d])))) else .stuck := by
  unfold sApp someO
  cases ownK ρ i with
  | none => rfl
  | some k =>
    dsimp only
    cases ownL ω k with
    | none => rfl
    | some _ =>
      dsimp only
      congr 1
      funext d ω1
      cases ownL ω1 k <;> rfl
theorem sApp_run (f : FE D) : sApp i f ρ ω = someOL (ownK ρ i) (k := ⟨fun k => someOL (ownL ω k) (k := ⟨fun _ => outL (f ρ ω) ρ (k := ⟨fun d ω1 => someOL (ownL ω1 k) (k := ⟨fun ds => if ds.length < lim then .next ρ (ω1.set k (some (.lst (ds ++ [d])))) else .stuck⟩)⟩)⟩)⟩) := by first | exact sApp_run0 | exact sApp_run0 _ | exact sApp_run0 _ _ | exact sApp_run0 _ _ _ | exact sApp_run0 _ _ _ _ | exact sApp_run0 _ _ _ _ _ | exact sApp_run0 _ _ _ _ _ _ | exact sApp_run0 _ _ _ _ _ _ _ | exact sApp_run0 _ _ _ _ _ _ _ _ | exact sApp_run0 _ _ _ _ _ _ _ _ _
def setIxR (ds : List D) (d : D) (k : Nat) (ρ : Rho) (ω : Om) : D → Out
  | .int n => someO (ixN ds.length n) fun j => .next ρ (ω.set k (some (.lst (ds.set j d))))
  | _ => .stuck
theorem sSetIx_run0 (fi fe : FE D) : sSetIx i fi fe ρ ω = (fe ρ ω).out ρ fun d ω1 => someO (ownK ρ i) fun k => (fi ρ ω1).out ρ fun z ω2 => someO (ownL ω2 k) fun ds => setIxR ds d k ρ ω2 z := by
  unfold sSetIx someO setIxR
  congr 1
  funext d ω1
  cases ownK ρ i with
  | none => rfl
  | some k =>
    dsimp only
    congr 1
    funext z ω2
    cases z <;> cases ownL ω2 k <;> try rfl
    dsimp only [someO]
    split <;> simp_all
theorem sSetIx_run (fi fe : FE D) : sSetIx i fi fe ρ ω = outL (fe ρ ω) ρ (k := ⟨fun d ω1 => someOL (ownK ρ i) (k := ⟨fun k => outL (fi ρ ω1) ρ (k := ⟨fun z ω2 => someOL (ownL ω2 k) (k := ⟨fun ds => setIxR ds d k ρ ω2 z⟩)⟩)⟩)⟩) := by first | exact sSetIx_run0 | exact sSetIx_run0 _ | exact sSetIx_run0 _ _ | exact sSetIx_run0 _ _ _ | exact sSetIx_run0 _ _ _ _ | exact sSetIx_run0 _ _ _ _ _ | exact sSetIx_run0 _ _ _ _ _ _ | exact sSetIx_run0 _ _ _ _ _ _ _ | exact sSetIx_run0 _ _ _ _ _ _ _ _ | exact sSetIx_run0 _ _ _ _ _ _ _ _ _
theorem setIxR_run0 (n : Int) : setIxR ds d k ρ ω (.int n) = someO (ixN ds.length n) fun j => .next ρ (ω.set k (some (.lst (ds.set j d)))) := rfl
theorem setIxR_run (n : Int) : setIxR ds d k ρ ω (.int n) = someOL (ixN ds.length n) (k := ⟨fun j => .next ρ (ω.set k (some (.lst (ds.set j d))))⟩) := by first | exact setIxR_run0 | exact setIxR_run0 _ | exact setIxR_run0 _ _ | exact setIxR_run0 _ _ _ | exact setIxR_run0 _ _ _ _ | exact setIxR_run0 _ _ _ _ _ | exact setIxR_run0 _ _ _ _ _ _ | exact setIxR_run0 _ _ _ _ _ _ _ | exact setIxR_run0 _ _ _ _ _ _ _ _ | exact setIxR_run0 _ _ _ _ _ _ _ _ _
theorem sRetL_run0 : sRetL i ρ ω = someO (ownK ρ i) fun k => someO (ownL ω k) fun ds => .ret (.val (.lst ds)) (ω.set k none) := by
  unfold sRetL someO
  cases ownK ρ i with
  | none => rfl
  | some k =>
    dsimp only
    cases ownL ω k <;> rfl
theorem sRetL_run : sRetL i ρ ω = someOL (ownK ρ i) (k := ⟨fun k => someOL (ownL ω k) (k := ⟨fun ds => .ret (.val (.lst ds)) (ω.set k none)⟩)⟩) := by first | exact sRetL_run0 | exact sRetL_run0 _ | exact sRetL_run0 _ _ | exact sRetL_run0 _ _ _ | exact sRetL_run0 _ _ _ _ | exact sRetL_run0 _ _ _ _ _ | exact sRetL_run0 _ _ _ _ _ _ | exact sRetL_run0 _ _ _ _ _ _ _ | exact sRetL_run0 _ _ _ _ _ _ _ _ | exact sRetL_run0 _ _ _ _ _ _ _ _ _
def retNewR (o : Option (List D)) (n : Nat) (ω : Om) : Out := match o with
  | some ds => if n ≤ lim then .ret (.own ω.length) (ω ++ [some (.lst ds)]) else .stuck
  | none => .stuck
theorem sRetNew_run0 (g : FE (List SV)) : sRetNew g ρ ω = (g ρ ω).out ρ fun xs ω1 => retNewR (allD xs) xs.length ω1 := by
  unfold sRetNew retNewR; rfl
theorem sRetNew_run (g : FE (List SV)) : sRetNew g ρ ω = outL (g ρ ω) ρ (k := ⟨fun xs ω1 => retNewR (allD xs) xs.length ω1⟩) := by first | exact sRetNew_run0 | exact sRetNew_run0 _ | exact sRetNew_run0 _ _ | exact sRetNew_run0 _ _ _ | exact sRetNew_run0 _ _ _ _ | exact sRetNew_run0 _ _ _ _ _ | exact sRetNew_run0 _ _ _ _ _ _ | exact sRetNew_run0 _ _ _ _ _ _ _ | exact sRetNew_run0 _ _ _ _ _ _ _ _ | exact sRetNew_run0 _ _ _ _ _ _ _ _ _
theorem retNewR_run {n : Nat} (h : n ≤ lim) : retNewR (some ds) n ω = .ret (.own ω.length) (ω ++ [some (.lst ds)]) := by unfold retNewR; dsimp only; rw [if_pos h]
def finP : Out → Option (Except Exn D)
  | .ret (.val d) _ => some (.ok d)
  | .next _ _ => some (.ok .non)
  | .exc x _ _ => some (.error x)
  | _ => none
theorem fnP_run {n m : Nat} {fb : FS} (h : ds.length = n) : fnP n m fb ds = finP (fb (rho0 m (ds.map SV.val)) []) := by
  unfold fnP finP; rw [if_pos h]
  all_goals
    cases fb (rho0 m (ds.map SV.val)) [] with
    | ret x _ => cases x <;> rfl
    | _ => rfl
theorem finP_ret : finP (.ret (.val d) ω) = some (.ok d) := rfl
theorem finP_next : finP (.next ρ ω) = some (.ok .non) := rfl
theorem finP_exc (x : Exn) : finP (.exc x ρ ω) = some (.error x) := rfl
def finE (n : Nat) : Out → Res SV
  | .ret (.val d) ω' => .ok (.val d) (ω'.take n)
  | .ret (.exc z) ω' => .ok (.exc z) (ω'.take n)
  | .ret (.own k) ω' => if k < n then .ok (.own k) (ω'.take n) else if k = n then .ok (.own k) (ω'.take (n + 1)) else .stuck
  | .next _ ω' => .ok (.val .non) (ω'.take n)
  | .exc x _ ω' => .exc x (ω'.take n)
  | _ => .stuck
theorem fnE_run {n m : Nat} {fb : FS} {xs : List SV} (h : xs.length = n) : fnE n m fb xs ω = finE ω.length (fb (rho0 m xs) ω) := by
  unfold fnE finE; rw [if_pos h]
  all_goals
    cases fb (rho0 m xs) ω with
    | ret x _ => cases x <;> rfl
    | _ => rfl
theorem finE_ret {n : Nat} : finE n (.ret (.val d) ω) = .ok (.val d) (ω.take n) := rfl
theorem finE_next {n : Nat} : finE n (.next ρ ω) = .ok (.val .non) (ω.take n) := rfl
theorem finE_exc {n : Nat} (x : Exn) : finE n (.exc x ρ ω) = .exc x (ω.take n) := rfl
def callR (r : Option (Except Exn D)) (ω : Om) : Res D := match r with
  | none => .stuck
  | some (.ok d) => .ok d ω
  | some (.error x) => .exc x ω
theorem eCallP_run0 (F : FnP) (g : FE (List SV)) : eCallP F g ρ ω = (g ρ ω).bind fun xs ω1 => callR ((allD xs).bind F) ω1 := by
  unfold eCallP callR
  congr 1
  funext xs ω1
  cases allD xs with
  | none => rfl
  | some ds =>
    dsimp only [Option.bind]
    all_goals
      cases F ds with
      | none => rfl
      | some y => cases y <;> rfl
theorem eCallP_run (F : FnP) (g : FE (List SV)) : eCallP F g ρ ω = bindL (g ρ ω) (k := ⟨fun xs ω1 => callR ((allD xs).bind F) ω1⟩) := by first | exact eCallP_run0 | exact eCallP_run0 _ | exact eCallP_run0 _ _ | exact eCallP_run0 _ _ _ | exact eCallP_run0 _ _ _ _ | exact eCallP_run0 _ _ _ _ _ | exact eCallP_run0 _ _ _ _ _ _ | exact eCallP_run0 _ _ _ _ _ _ _ | exact eCallP_run0 _ _ _ _ _ _ _ _ | exact eCallP_run0 _ _ _ _ _ _ _ _ _
theorem callR_ok : callR (some (.ok d)) ω = .ok d ω := rfl
theorem callR_err (x : Exn) : callR (some (.error x)) ω = .exc x ω := rfl
theorem eCallE_run0 (F : Fn) (g : FE (List SV)) : eCallE F g ρ ω = (g ρ ω).bind F := rfl
theorem eCallE_run (F : Fn) (g : FE (List SV)) : eCallE F g ρ ω = bindL (g ρ ω) (k := ⟨F⟩) := by first | exact eCallE_run0 | exact eCallE_run0 _ | exact eCallE_run0 _ _ | exact eCallE_run0 _ _ _ | exact eCallE_run0 _ _ _ _ | exact eCallE_run0 _ _ _ _ _ | exact eCallE_run0 _ _ _ _ _ _ | exact eCallE_run0 _ _ _ _ _ _ _ | exact eCallE_run0 _ _ _ _ _ _ _ _ | exact eCallE_run0 _ _ _ _ _ _ _ _ _
def valR (x : SV) (ω : Om) : Res D := match x with
  | .val d => .ok d ω
  | .own _ => .stuck
  | .exc _ => .stuck
theorem eVal_run0 (f : FE SV) : eVal f ρ ω = (f ρ ω).bind valR := rfl
theorem eVal_run (f : FE SV) : eVal f ρ ω = bindL (f ρ ω) (k := ⟨valR⟩) := by first | exact eVal_run0 | exact eVal_run0 _ | exact eVal_run0 _ _ | exact eVal_run0 _ _ _ | exact eVal_run0 _ _ _ _ | exact eVal_run0 _ _ _ _ _ | exact eVal_run0 _ _ _ _ _ _ | exact eVal_run0 _ _ _ _ _ _ _ | exact eVal_run0 _ _ _ _ _ _ _ _ | exact eVal_run0 _ _ _ _ _ _ _ _ _
theorem valR_run : valR (.val d) ω = .ok d ω := rfl
def makeR (r : Res SV) (ω : Om) : Res D := match r with
  | .ok (.val .non) [some (.ins c' fs)] => .ok (.obj c' fs) ω
  | .exc x _ => .exc x ω
  | _ => .stuck
theorem eMake_run0 (c : Str) (F : Fn) (g : FE (List SV)) : eMake c F g ρ ω = (g ρ ω).bind fun xs ω1 => someR (allD xs) fun ds => makeR (F (.own 0 :: ds.map SV.val) [some (.ins c [])]) ω1 := by
  unfold eMake someR makeR
  congr 1
  funext xs ω1
  cases allD xs <;> rfl
theorem eMake_run (c : Str) (F : Fn) (g : FE (List SV)) : eMake c F g ρ ω = bindL (g ρ ω) (k := ⟨fun xs ω1 => someRL (allD xs) (k := ⟨fun ds => makeR (F (.own 0 :: ds.map SV.val) [some (.ins c [])]) ω1⟩)⟩) := by first | exact eMake_run0 | exact eMake_run0 _ | exact eMake_run0 _ _ | exact eMake_run0 _ _ _ | exact eMake_run0 _ _ _ _ | exact eMake_run0 _ _ _ _ _ | exact eMake_run0 _ _ _ _ _ _ | exact eMake_run0 _ _ _ _ _ _ _ | exact eMake_run0 _ _ _ _ _ _ _ _ | exact eMake_run0 _ _ _ _ _ _ _ _ _
theorem makeR_ok {c : Str} {fs : List (Str × D)} : makeR (.ok (.val .non) [some (.ins c fs)]) ω = .ok (.obj c fs) ω := rfl
theorem makeR_exc (x : Exn) (ω' : Om) : makeR (.exc x ω') ω = .exc x ω := rfl
theorem eFld_run0 (c f : Str) (fe : FE D) : eFld c f fe ρ ω = (fe ρ ω).bind fun d ω1 => Res.lift (fldD c f d) ω1 := rfl
theorem eFld_run (c f : Str) (fe : FE D) : eFld c f fe ρ ω = bindL (fe ρ ω) (k := ⟨fun d ω1 => Res.lift (fldD c f d) ω1⟩) := by first | exact eFld_run0 | exact eFld_run0 _ | exact eFld_run0 _ _ | exact eFld_run0 _ _ _ | exact eFld_run0 _ _ _ _ | exact eFld_run0 _ _ _ _ _ | exact eFld_run0 _ _ _ _ _ _ | exact eFld_run0 _ _ _ _ _ _ _ | exact eFld_run0 _ _ _ _ _ _ _ _ | exact eFld_run0 _ _ _ _ _ _ _ _ _
theorem opAdd_int (i j : Int) : opAdd (.int i) (.int j) = some (.int (i + j)) := rfl
theorem opAdd_tup (h : ds.length + es.length ≤ lim) : opAdd (.tup ds) (.tup es) = some (.tup (ds ++ es)) := by simp only [opAdd]; rw [if_pos h]
theorem opAdd_lst (h : ds.length + es.length ≤ lim) : opAdd (.lst ds) (.lst es) = some (.lst (ds ++ es)) := by simp only [opAdd]; rw [if_pos h]
theorem opI_run (p) (i j : Int) : opI p (.int i) (.int j) = (p i j).map D.int := rfl
theorem opB_run (p) (i j : Int) : opB p (.int i) (.int j) = some (.bl (p i j)) := rfl
theorem opMulA_int (i j : Int) : opMulA (.int i) (.int j) = opMul (.int i) (.int j) := rfl
theorem opEq_run : opEq x y = (eqD x y).map D.bl := rfl
theorem opNe_run : opNe x y = (eqD x y).map fun b => D.bl (!b) := rfl
theorem opIsN_run : opIsN x .non = some (.bl (isNon x)) := rfl
theorem opNotN_run : opNotN x .non = some (.bl (!isNon x)) := rfl
theorem opIx_tup (i : Int) : opIx (.tup ds) (.int i) = atI ds i := rfl
theorem opIx_lst (i : Int) : opIx (.lst ds) (.int i) = atI ds i := rfl
theorem opNeg_run (i : Int) : opNeg (.int i) = some (.int (-i)) := rfl
theorem oLen_tup : oLen [.tup ds] = some (.int ds.length) := rfl
theorem oLen_lst : oLen [.lst ds] = some (.int ds.length) := rfl
theorem oInt_int (i : Int) : oInt [.int i] = some (.int i) := rfl
theorem oInt_bl (b : Bool) : oInt [.bl b] = some (.int (if b then 1 else 0)) := rfl
theorem oTuple_tup : oTuple [.tup ds] = some (.tup ds) := rfl
theorem oTuple_lst : oTuple [.lst ds] = some (.tup ds) := rfl
theorem oList_tup : oList [.tup ds] = some (.lst ds) := rfl
theorem oList_lst : oList [.lst ds] = some (.lst ds) := rfl
theorem oTupleL_run : oTupleL ds = some (.tup ds) := rfl
theorem oListL_run : oListL ds = some (.lst ds) := rfl
theorem oLenL_run : oLenL ds = some (.int ds.length) := rfl
theorem atI_get' {α : Type} {xs : List α} {i : Int} (h0 : 0 ≤ i) : atI xs i = xs[i.toNat]? := by
  unfold atI ixN
  rw [if_pos h0]
  split
  · rfl
  · rw [List.getElem?_eq_none (by omega)]; rfl
end
section
variable {α : Type}
theorem atI_0 (x0 : α) (xs : List α) : atI (x0 :: xs) 0 = some x0 := by rw [atI_get' (by omega)]; rfl
theorem atI_1 (x0 x1 : α) (xs : List α) : atI (x0 :: x1 :: xs) 1 = some x1 := by rw [atI_get' (by omega)]; rfl
theorem atI_2 (x0 x1 x2 : α) (xs : List α) : atI (x0 :: x1 :: x2 :: xs) 2 = some x2 := by rw [atI_get' (by omega)]; rfl
theorem atI_3 (x0 x1 x2 x3 : α) (xs : List α) : atI (x0 :: x1 :: x2 :: x3 :: xs) 3 = some x3 := by rw [atI_get' (by omega)]; rfl
theorem atI_4 (x0 x1 x2 x3 x4 : α) (xs : List α) : atI (x0 :: x1 :: x2 :: x3 :: x4 :: xs) 4 = some x4 := by rw [atI_get' (by omega)]; rfl
theorem atI_5 (x0 x1 x2 x3 x4 x5 : α) (xs : List α) : atI (x0 :: x1 :: x2 :: x3 :: x4 :: x5 :: xs) 5 = some x5 := by rw [atI_get' (by omega)]; rfl
theorem atI_6 (x0 x1 x2 x3 x4 x5 x6 : α) (xs : List α) : atI (x0 :: x1 :: x2 :: x3 :: x4 :: x5 :: x6 :: xs) 6 = some x6 := by rw [atI_get' (by omega)]; rfl
theorem atI_7 (x0 x1 x2 x3 x4 x5 x6 x7 : α) (xs : List α) : atI (x0 :: x1 :: x2 :: x3 :: x4 :: x5 :: x6 :: x7 :: xs) 7 = some x7 := by rw [atI_get' (by omega)]; rfl
theorem atI_8 (x0 x1 x2 x3 x4 x5 x6 x7 x8 : α) (xs : List α) : atI (x0 :: x1 :: x2 :: x3 :: x4 :: x5 :: x6 :: x7 :: x8 :: xs) 8 = some x8 := by rw [atI_get' (by omega)]; rfl
theorem ixN_1_0 : ixN 1 0 = some 0 := rfl
theorem ixN_2_0 : ixN 2 0 = some 0 := rfl
theorem ixN_2_1 : ixN 2 1 = some 1 := rfl
theorem ixN_3_0 : ixN 3 0 = some 0 := rfl
theorem ixN_3_1 : ixN 3 1 = some 1 := rfl
theorem ixN_3_2 : ixN 3 2 = some 2 := rfl
theorem ixN_4_0 : ixN 4 0 = some 0 := rfl
theorem ixN_4_1 : ixN 4 1 = some 1 := rfl
theorem ixN_4_2 : ixN 4 2 = some 2 := rfl
theorem ixN_4_3 : ixN 4 3 = some 3 := rfl
theorem ixN_5_0 : ixN 5 0 = some 0 := rfl
theorem ixN_5_1 : ixN 5 1 = some 1 := rfl
theorem ixN_5_2 : ixN 5 2 = some 2 := rfl
theorem ixN_5_3 : ixN 5 3 = some 3 := rfl
theorem ixN_5_4 : ixN 5 4 = some 4 := rfl
end
theorem isi_int_non  : isiD "int" .non = some (.bl false) := by simp [isiD, tyD, isTy]
theorem isi_int_bl (b : Bool) : isiD "int" (.bl b) = some (.bl true) := by simp [isiD, tyD, isTy]
theorem isi_int_int (i : Int) : isiD "int" (.int i) = some (.bl true) := by simp [isiD, tyD, isTy]
theorem isi_int_str (x : Str) : isiD "int" (.str x) = some (.bl false) := by simp [isiD, tyD, isTy]
theorem isi_int_tup (ds : List D) : isiD "int" (.tup ds) = some (.bl false) := by simp [isiD, tyD, isTy]
theorem isi_int_lst (ds : List D) : isiD "int" (.lst ds) = some (.bl false) := by simp [isiD, tyD, isTy]
theorem isi_bool_non  : isiD "bool" .non = some (.bl false) := by simp [isiD, tyD, isTy]
theorem isi_bool_bl (b : Bool) : isiD "bool" (.bl b) = some (.bl true) := by simp [isiD, tyD, isTy]
theorem isi_bool_int (i : Int) : isiD "bool" (.int i) = some (.bl false) := by simp [isiD, tyD, isTy]
theorem isi_bool_str (x : Str) : isiD "bool" (.str x) = some (.bl false) := by simp [isiD, tyD, isTy]
theorem isi_bool_tup (ds : List D) : isiD "bool" (.tup ds) = some (.bl false) := by simp [isiD, tyD, isTy]
theorem isi_bool_lst (ds : List D) : isiD "bool" (.lst ds) = some (.bl false) := by simp [isiD, tyD, isTy]
theorem isi_tuple_non  : isiD "tuple" .non = some (.bl false) := by simp [isiD, tyD, isTy]
theorem isi_tuple_bl (b : Bool) : isiD "tuple" (.bl b) = some (.bl false) := by simp [isiD, tyD, isTy]
theorem isi_tuple_int (i : Int) : isiD "tuple" (.int i) = some (.bl false) := by simp [isiD, tyD, isTy]
theorem isi_tuple_str (x : Str) : isiD "tuple" (.str x) = some (.bl false) := by simp [isiD, tyD, isTy]
theorem isi_tuple_tup (ds : List D) : isiD "tuple" (.tup ds) = some (.bl true) := by simp [isiD, tyD, isTy]
theorem isi_tuple_lst (ds : List D) : isiD "tuple" (.lst ds) = some (.bl false) := by simp [isiD, tyD, isTy]
theorem isi_str_non  : isiD "str" .non = some (.bl false) := by simp [isiD, tyD, isTy]
theorem isi_str_bl (b : Bool) : isiD "str" (.bl b) = some (.bl false) := by simp [isiD, tyD, isTy]
theorem isi_str_int (i : Int) : isiD "str" (.int i) = some (.bl false) := by simp [isiD, tyD, isTy]
theorem isi_str_str (x : Str) : isiD "str" (.str x) = some (.bl true) := by simp [isiD, tyD, isTy]
theorem isi_str_tup (ds : List D) : isiD "str" (.tup ds) = some (.bl false) := by simp [isiD, tyD, isTy]
theorem isi_str_lst (ds : List D) : isiD "str" (.lst ds) = some (.bl false) := by simp [isiD, tyD, isTy]
theorem isi_list_non  : isiD "list" .non = some (.bl false) := by simp [isiD, tyD, isTy]
theorem isi_list_bl (b : Bool) : isiD "list" (.bl b) = some (.bl false) := by simp [isiD, tyD, isTy]
theorem isi_list_int (i : Int) : isiD "list" (.int i) = some (.bl false) := by simp [isiD, tyD, isTy]
theorem isi_list_str (x : Str) : isiD "list" (.str x) = some (.bl false) := by simp [isiD, tyD, isTy]
theorem isi_list_tup (ds : List D) : isiD "list" (.tup ds) = some (.bl false) := by simp [isiD, tyD, isTy]
theorem isi_list_lst (ds : List D) : isiD "list" (.lst ds) = some (.bl true) := by simp [isiD, tyD, isTy]
theorem isNon_non  : isNon .non = true := rfl
theorem isNon_bl (b : Bool) : isNon (.bl b) = false := rfl
theorem isNon_int (i : Int) : isNon (.int i) = false := rfl
theorem isNon_str (x : Str) : isNon (.str x) = false := rfl
theorem isNon_tup (ds : List D) : isNon (.tup ds) = false := rfl
theorem isNon_lst (ds : List D) : isNon (.lst ds) = false := rfl
theorem forL_rule {tg : FG} {b : FS} {ds : List D} {ρ : Rho} {ω : Om} (P : Nat → Rho → Om → Prop) (R : Out → Prop) (h0 : P 0 ρ ω)
    (hs : ∀ i d ρ ω, ds[i]? = some d → P i ρ ω → ∃ ρ1, tg d ρ = some ρ1 ∧ (match b ρ1 ω with
      | .next ρ2 ω2 => P (i + 1) ρ2 ω2
      | .cont ρ2 ω2 => P (i + 1) ρ2 ω2
      | .brk ρ2 ω2 => R (.next ρ2 ω2)
      | .ret x ω2 => R (.ret x ω2)
      | .exc x ρ2 ω2 => R (.exc x ρ2 ω2)
      | .stuck => False))
    (hd : ∀ ρ ω, P ds.length ρ ω → R (.next ρ ω)) : R (forL tg b ds ρ ω) := by
  suffices H : ∀ (n i : Nat) (ρ : Rho) (ω : Om), n = ds.length - i → i ≤ ds.length → P i ρ ω → R (forL tg b (ds.drop i) ρ ω) from H _ 0 ρ ω rfl (Nat.zero_le _) h0
  intro n
  induction n with
  | zero =>
    intro i ρ ω hn hi p
    have : i = ds.length := by omega
    subst this
    rw [List.drop_length]
    exact hd ρ ω p
  | succ n ih =>
    intro i ρ ω hn hi p
    have hlt : i < ds.length := by omega
    rw [List.drop_eq_getElem_cons hlt]
    obtain ⟨ρ1, e1, h⟩ := hs i ds[i] ρ ω (List.getElem?_eq_getElem hlt) p
    unfold forL
    rw [e1]
    dsimp only
    cases q : b ρ1 ω with
    | next ρ2 ω2 => rw [q] at h; exact ih (i + 1) ρ2 ω2 (by omega) hlt h
    | cont ρ2 ω2 => rw [q] at h; exact ih (i + 1) ρ2 ω2 (by omega) hlt h
    | brk ρ2 ω2 => rw [q] at h; exact h
    | ret x ω2 => rw [q] at h; exact h
    | exc x ρ2 ω2 => rw [q] at h; exact h
    | stuck => rw [q] at h; exact h.elim
theorem forL_all {tg : FG} {b : FS} {ds : List D} {ρ : Rho} {ω : Om} (P : Nat → Rho → Om → Prop) (h0 : P 0 ρ ω)
    (hs : ∀ i d ρ ω, ds[i]? = some d → P i ρ ω → ∃ ρ1 ρ2 ω2, tg d ρ = some ρ1 ∧ b ρ1 ω = .next ρ2 ω2 ∧ P (i + 1) ρ2 ω2) : ∃ ρ' ω', forL tg b ds ρ ω = .next ρ' ω' ∧ P ds.length ρ' ω' := by
  refine forL_rule P (fun o => ∃ ρ' ω', o = .next ρ' ω' ∧ P ds.length ρ' ω') h0 (fun i d ρ ω hd p => ?_) fun ρ ω p => ⟨ρ, ω, rfl, p⟩
  obtain ⟨ρ1, ρ2, ω2, h1, h2, h3⟩ := hs i d ρ ω hd p
  exact ⟨ρ1, h1, by rw [h2]; exact h3⟩
theorem forL_find {tg : FG} {b : FS} {ρ : Rho} {ω : Om} (P : Rho → Prop) (g : D → Option D) : ∀ (ds : List D) (ρ : Rho), P ρ →
    (∀ d ∈ ds, ∀ ρ, P ρ → ∃ ρ1, tg d ρ = some ρ1 ∧ (match g d with
      | some x => b ρ1 ω = .ret (.val x) ω
      | none => ∃ ρ2, b ρ1 ω = .next ρ2 ω ∧ P ρ2)) →
    (match ds.findSome? g with
      | some x => forL tg b ds ρ ω = .ret (.val x) ω
      | none => ∃ ρ', forL tg b ds ρ ω = .next ρ' ω ∧ P ρ')
  | [], ρ, p, _ => ⟨ρ, rfl, p⟩
  | d :: ds, ρ, p, h => by
    obtain ⟨ρ1, h1, h2⟩ := h d List.mem_cons_self ρ p
    rw [List.findSome?_cons]
    unfold forL
    rw [h1]
    cases q : g d with
    | some x => rw [q] at h2; dsimp only at h2 ⊢; rw [h2]
    | none =>
      rw [q] at h2
      obtain ⟨ρ2, h3, p2⟩ := h2
      dsimp only
      rw [h3]
      exact forL_find (ρ := ρ) P g ds ρ2 p2 fun d' hd' => h d' (List.mem_cons_of_mem _ hd')
theorem lcL_pure {tg : FG} {tt : FE Bool} {el : FE D} {ρ : Rho} {ω : Om} (g : D → Option D) : ∀ (ds acc : List D), acc.length + ds.length ≤ lim →
    (∀ d ∈ ds, ∃ ρ1, tg d ρ = some ρ1 ∧ (match g d with
      | some y => tt ρ1 ω = .ok true ω ∧ el ρ1 ω = .ok y ω
      | none => tt ρ1 ω = .ok false ω)) → lcL tg tt el ρ ds acc ω = .ok (.lst (acc ++ ds.filterMap g)) ω
  | [], acc, _, _ => by unfold lcL; simp
  | d :: ds, acc, hl, h => by
    obtain ⟨ρ1, h1, h2⟩ := h d List.mem_cons_self
    rw [List.length_cons] at hl
    unfold lcL
    rw [h1]
    dsimp only
    cases q : g d with
    | some y =>
      rw [q] at h2
      obtain ⟨h3, h4⟩ := h2
      rw [h3]
      dsimp only
      rw [h4]
      dsimp only
      rw [if_pos (by omega), lcL_pure g ds (acc ++ [y]) (by simp; omega) fun d' hd' => h d' (List.mem_cons_of_mem _ hd')]
      simp [q]
    | none =>
      rw [q] at h2
      rw [h2]
      dsimp only
      rw [lcL_pure g ds acc (by omega) fun d' hd' => h d' (List.mem_cons_of_mem _ hd')]
      simp [q]
end Dl
namespace Dl
open PySem L2
section
variable {X : Cx} {W : WX} {a b : Expr} {pos : Pos} {f : FE D} {g : FE (List D)}
end
end Dl
namespace Dl
open PySem L2
def dOk : Nat → D → Bool
  | _, .non => true
  | _, .bl _ => true
  | _, .int _ => true
  | _, .str x => PyData.strOk x
  | n + 1, .tup ds => ds.all (dOk n)
  | n + 1, .lst ds => ds.all (dOk n)
  | _, _ => false
mutual
theorem eqv_refl : ∀ p : PyData, PyData.canLay0 p = true → PyData.eqv p p = true
  | .none, _ => by simp [PyData.eqv]
  | .bool b, _ => by simp [PyData.eqv]
  | .int b, _ => by simp [PyData.eqv]
  | .str x, _ => by simp [PyData.eqv]
  | .list xs, h => by
    unfold PyData.canLay0 at h
    unfold PyData.eqv
    exact eqvAll_refl xs h
  | .tuple xs, h => by
    unfold PyData.canLay0 at h
    unfold PyData.eqv
    exact eqvAll_refl xs h
  | .dict _, h => by simp [PyData.canLay0] at h
theorem eqvAll_refl : ∀ ps : List PyData, PyData.canLayAll0 ps = true → PyData.eqvAll ps ps = true
  | [], _ => by simp [PyData.eqvAll]
  | p :: ps, h => by
    unfold PyData.canLayAll0 at h
    rw [Bool.and_eq_true] at h
    unfold PyData.eqvAll
    rw [eqv_refl p h.1, eqvAll_refl ps h.2]; rfl
end
theorem toPys_ok {n : Nat} (ih : ∀ d, dOk n d = true → ∃ p, toPy d = some p ∧ PyData.canLay0 p = true ∧ PyData.depth p ≤ n) : ∀ ds : List D, ds.all (dOk n) = true → ∃ ps, toPys ds = some ps ∧ PyData.canLayAll0 ps = true ∧ PyData.depthAll ps ≤ n
  | [], _ => ⟨[], by simp [toPys], by simp [PyData.canLayAll0], by simp [PyData.depthAll]⟩
  | d :: ds, h => by
    rw [List.all_cons, Bool.and_eq_true] at h
    obtain ⟨p, e, h1, h2⟩ := ih d h.1
    obtain ⟨ps, e', h1', h2'⟩ := toPys_ok ih ds h.2
    refine ⟨p :: ps, by simp [toPys, e, e'], by simp [PyData.canLayAll0, h1, h1'], ?_⟩
    unfold PyData.depthAll
    omega
theorem toPy_ok : ∀ (n : Nat) (d : D), dOk n d = true → ∃ p, toPy d = some p ∧ PyData.canLay0 p = true ∧ PyData.depth p ≤ n
  | _, .non, _ => ⟨.none, by simp [toPy], by simp [PyData.canLay0], by simp [PyData.depth]⟩
  | _, .bl b, _ => ⟨.bool b, by simp [toPy], by simp [PyData.canLay0], by simp [PyData.depth]⟩
  | _, .int b, _ => ⟨.int b, by simp [toPy], by simp [PyData.canLay0], by simp [PyData.depth]⟩
  | _, .str x, h => ⟨.str x, by simp [toPy], by simpa [PyData.canLay0, dOk] using h, by simp [PyData.depth]⟩
  | n + 1, .tup ds, h => by
    obtain ⟨ps, e, h1, h2⟩ := toPys_ok (toPy_ok n) ds (by simpa [dOk] using h)
    exact ⟨.tuple ps, by simp [toPy, e], by simpa [PyData.canLay0] using h1, by unfold PyData.depth; omega⟩
  | n + 1, .lst ds, h => by
    obtain ⟨ps, e, h1, h2⟩ := toPys_ok (toPy_ok n) ds (by simpa [dOk] using h)
    exact ⟨.list ps, by simp [toPy, e], by simpa [PyData.canLay0] using h1, by unfold PyData.depth; omega⟩
  | 0, .tup _, h => by simp [dOk] at h
  | 0, .lst _, h => by simp [dOk] at h
  | 0, .obj _ _, h => by simp [dOk] at h
  | 0, .dcK _, h => by simp [dOk] at h
  | 0, .dcN _, h => by simp [dOk] at h
  | _ + 1, .obj _ _, h => by simp [dOk] at h
  | _ + 1, .dcK _, h => by simp [dOk] at h
  | _ + 1, .dcN _, h => by simp [dOk] at h
theorem eqD_refl {d : D} (n : Nat) (h : dOk n d = true) (hn : n ≤ 64) : eqD d d = some true := by
  obtain ⟨p, e, h1, h2⟩ := toPy_ok n d h
  unfold eqD
  rw [e]
  have hs : SeqAt.shaped p = true := by unfold SeqAt.shaped; rw [h1, decide_eq_true (Nat.le_trans h2 hn)]; rfl
  simp [hs, eqv_refl p h1]
end Dl
namespace Dl
open PySem L2
abbrev veMro : List Value := [.type "ValueError", .type "Exception", .type "BaseException", .type "object"]
structure ErrC (K : PySem.W.Frag) (mg : MG) (x : Str) (C : Addr) : Prop where
  gl : mg x = some (.ref C)
  ex : PySem.W.excIn K C veMro "ValueError.__new__" = true
  kp : PySem.W.keepIn K (.ref C) = true
  sb : PySem.W.subIn K (.ref C) (.type "BaseException") = some true
  ty : PySem.W.typeIn K (.ref C) = some (.type "type")
structure ErrI (K : PySem.W.Frag) (mg : MG) (x : Str) (C f : Addr) : Prop where
  gl : mg x = some (.ref C)
  ox : OexC K C
  ini : PySem.W.findIn K (.ref C) "__init__" = some (some (.ref f))
  fn : PySem.W.typeIn K (.ref f) = some (.type "function")
section
variable {X : Cx} {W : WX} {x : Str} {p pos pos' : Pos} {C : Addr}
theorem pmk_err0 (T : ErrC X.K X.mg x C) (hg : Gl X x) (hdb : (x == ("__debug__" : Str)) = false := by decide) : PMk X (.Call (.Name x p) [] [] pos) (fun _ H Q => Q (.ref C) none H) := by
  intro pins s σ H Q I h
  refine wpAny_Call_Name_kw (ld_glob I hg T.gl ?_ hdb)
  refine PySem.W.callWith_K0 I.kIn T.kp ?_
  show wpAny _ _ (call (.ref C) []) _ _ _
  obtain ⟨bm, N, nm, qn, bs, hdct, sn, sub, ab, col, dd, k0, k1, k2, k3, k5, mN, hC, hN, hni, Y⟩ := exc_obj I.kIn T.ex
  refine wpAny_call_exc_subT PySem.F.excBase_ValueError Y hC hN hni (fun h' e hm => ?_) (by rw [sizeLine_eq]; decide)
  exact mk_of I hm (raises_own T.sb T.ty) h (I.hok.gone hm.new)
def sRaise (x : Str) : FS := fun ρ ω => .exc ⟨x, []⟩ ρ ω
theorem ds_raise (tk : Takes X W) (T : ErrC X.K X.mg x C) (hc : X.calm = true := by rfl) (hg : Gl X x := by rfl) (hdb : (x == ("__debug__" : Str)) = false := by decide) : Ds X W (.Raise (some (.Call (.Name x p) [] [] pos')) none pos) (sRaise x) :=
  ⟨_, ps_raise hc tk (pmk_err0 T hg hdb), fun G α ρ ω σ H D O S P => P (.ref C) none σ G α H Ext.refl O S ⟨C, T.gl, rfl, .inl ⟨rfl, rfl⟩⟩⟩
def spIni (C : Addr) : List Str → Sp
  | [f] => fun vs H Q _ => ∃ a v, vs = [.ref a, v] ∧ H a = some (exo a C none) ∧ ∀ dx, H dx = none → dx ≠ a → Q .non (L2.upd (L2.upd H dx (exd dx [(f, v)])) a (exo a C (some dx)))
  | [f, g] => fun vs H Q _ => ∃ a v u, vs = [.ref a, v, u] ∧ H a = some (exo a C none) ∧ ∀ dx, H dx = none → dx ≠ a → Q .non (L2.upd (L2.upd (L2.upd H dx (exd dx [(f, v)])) a (exo a C (some dx))) dx (exd dx [(g, u), (f, v)]))
  | _ => fun _ _ _ _ => False
def sRaiseI (x : Str) (fls : List Str) (g : FE (List SV)) : FS := fun ρ ω => (g ρ ω).out ρ fun xs ω1 => match allD xs with
  | some ds => if ds.length = fls.length then .exc ⟨x, (fls.zip ds).reverse⟩ ρ ω1 else .stuck
  | none => .stuck
theorem upd_xd {H : Hp} {a dx : Addr} {o1 o2 o3 u : HO} (ha : H a = none) (ne : dx ≠ a) : L2.upd (L2.del (L2.upd (L2.upd (L2.upd H a o1) dx o2) a o3) a) dx u = L2.upd H dx u := by
  funext b
  by_cases h1 : b = dx
  · subst h1; rw [upd_same, upd_same]
  · rw [upd_ne h1, upd_ne h1]
    by_cases h2 : b = a
    · subst h2; rw [del_same, ha]
    · rw [del_ne h2, upd_ne h2, upd_ne h1, upd_ne h2]
theorem upd_xd2 {H : Hp} {a dx : Addr} {o1 o2 o3 o4 u : HO} (ha : H a = none) (ne : dx ≠ a) : L2.upd (L2.del (L2.upd (L2.upd (L2.upd (L2.upd H a o1) dx o2) a o3) dx o4) a) dx u = L2.upd H dx u := by
  funext b
  by_cases h1 : b = dx
  · subst h1; rw [upd_same, upd_same]
  · rw [upd_ne h1, upd_ne h1]
    by_cases h2 : b = a
    · subst h2; rw [del_same, ha]
    · rw [del_ne h2, upd_ne h1, upd_ne h2, upd_ne h1, upd_ne h2]
variable {f : Addr} {k : Nat} {fd : FuncData} {ps fls : List Str} {e : Expr} {es : List Expr} {g : FE (List SV)}
theorem ini_post {sp : Sp} {K : PySem.W.Frag} {mg : MG} {G H : Hp} {α : List Addr} {ω : Om} {vs : List V} {ds : List D} {Q : XK} (hsp : sp = spIni C fls) (hl : ds.length = fls.length) (h2 : fls.length = 1 ∨ fls.length = 2) (O : Own K mg G α ω H) (r : Reps K mg G ds vs)
    (hQ : ∀ dx fvs, H dx = none → RepF K mg (L2.upd G dx (.xd fvs)) (fls.zip ds).reverse fvs → Q (.ref C) (some dx) (L2.upd H dx (.xd fvs))) :
    vs.length ≤ 1000 ∧ ∀ a, H a = none → sp (.ref a :: (vs ++ [])) (L2.upd H a (exo a C none))
      (fun v H2 => v = .non ∧ ∃ (d : Addr) (fs : List (Str × V)), H2 a = some (exo a C (some d)) ∧ H2 d = some (exd d fs) ∧ H d = none ∧ Q (.ref C) (some d) (L2.upd (L2.del H2 a) d (.xd fs))) (fun _ _ _ => False) := by
  subst hsp
  have hv := r.length
  refine ⟨by omega, fun a ha => ?_⟩
  rw [List.append_nil]
  match fls, ds, hl, h2 with
  | [f1], [d1], _, _ =>
    obtain ⟨v1, rfl, r1⟩ := reps1 r
    refine ⟨a, v1, rfl, upd_same, fun dx hx ne => ⟨rfl, dx, [(f1, v1)], upd_same, ?_, ?_, ?_⟩⟩
    · rw [upd_ne ne, upd_same]
    · rw [upd_ne ne] at hx; exact hx
    · rw [upd_ne ne] at hx
      rw [upd_xd ha ne]
      exact hQ dx _ hx (repF_cons.mpr ⟨v1, [], rfl, Rep.mono (Same.upd (O.sub.free hx)) _ _ r1, repF_nil.mpr rfl⟩)
  | [f1, f2], [d1, d2], _, _ =>
    obtain ⟨v1, v2, rfl, r1, r2⟩ := reps2 r
    refine ⟨a, v1, v2, rfl, upd_same, fun dx hx ne => ⟨rfl, dx, [(f2, v2), (f1, v1)], ?_, upd_same, ?_, ?_⟩⟩
    · rw [upd_ne (Ne.symm ne), upd_same]
    · rw [upd_ne ne] at hx; exact hx
    · rw [upd_ne ne] at hx
      rw [upd_xd2 ha ne]
      have s := Same.upd (H := G) (p := dx) (o := .xd [(f2, v2), (f1, v1)]) (O.sub.free hx)
      exact hQ dx _ hx (repF_cons.mpr ⟨v2, _, rfl, Rep.mono s _ _ r2, repF_cons.mpr ⟨v1, [], rfl, Rep.mono s _ _ r1, repF_nil.mpr rfl⟩⟩)
  | [], _, _, .inl z => simp at z
  | [], _, _, .inr z => simp at z
theorem ds_raiseI (tk : Takes X W) (T : ErrI X.K X.mg x C f) (F : FnOk X.prog X.w X.K X.mg X.base (L2.CX X.prog X.w) k f fd ps (spIni C fls)) (hr : Room (k + 1) X.A) (hb : Binds X.K fd ps []) (h : Da X W (e :: es) g) (h2 : fls.length = 1 ∨ fls.length = 2 := by decide) (hc : X.calm = true := by rfl) (hg : Gl X x := by rfl)
    (hdb : (x == ("__debug__" : Str)) = false := by decide) (he : starEach (e :: es) X.env = (false, eval e X.env) :: starEach es X.env := by rfl) (hpl : (backTo pos' (starEach es X.env)).any (·.1) = false := by rfl) :
    Ds X W (.Raise (some (.Call (.Name x p) (e :: es) [] pos')) none pos) (sRaiseI x fls g) := by
  obtain ⟨t, q, j⟩ := h
  refine ⟨_, ps_raise hc tk (pmk_oex (dvs := []) T.ox T.ini T.fn F hr hb .nil (passes_call tk fun _ _ _ _ z => z.elim) hg T.gl q hdb he hpl), fun G α ρ ω σ H D O S P => ?_⟩
  refine PostS.step S (t := t σ H) (j G α ρ ω σ H · O S) P fun xs ω1 vs G1 α1 H1 e1 O1 r1 P1 => ?_
  cases q1 : allD xs with
  | none => rw [q1] at P1; exact P1.elim
  | some ds =>
    rw [q1] at P1
    dsimp only at P1
    split at P1
    · rename_i hl
      refine ini_post (C := C) (Q := fun cls d H' => W cls d σ H') rfl hl h2 O1 (allD_reps q1 r1) fun dx fvs hx rf => ?_
      have gr := Grow.put (o := HO.xd fvs) O1.sub hx
      exact P1 (.ref C) (some dx) σ _ α1 _ gr.ext (O1.grow gr) ((S.mono e1).mono (gr.ext (α := α1))) ⟨C, T.gl, rfl, .inr ⟨dx, fvs, rfl, upd_same, rf⟩⟩
    · exact P1.elim
end
section
variable {P : Program} {w : World} {K : PySem.W.Frag} {mg : MG} {base : Heap}
theorem ini_ok1 {x qual : Str} {st : Stmt} {f C : Addr} {fd : FuncData} {fl a1 : Str} {p1 p2 p3 p4 : Pos} (F : Fun K x qual st f fd) (S : FnScope ["self", a1] ["self", a1] (defScope st)) (ox : OexC K C) (no : PySem.W.findIn K (.ref C) fl = some none)
    (hb : defBody st = [.Assign [.Attribute (.Name "self" p1) fl p2] (.Name a1 p3) p4])
    (hp : ∀ (cdv : Value) (A : Around) (outer : List Env) (s : Shared) (H : Hp) (E : XK), ∃ te, PS (cxOf (L2.CX P w) P w K mg base ["self", a1] qual (defScope st) f cdv A outer s H E) (.Assign [.Attribute (.Name "self" p1) fl p2] (.Name a1 p3) p4) (tOst K fl (tVar 0) (tVar te)) ∧ te = 1) :
    FnOk P w K mg base (L2.CX P w) 1 f fd ["self", a1] (spIni C [fl]) := by
  refine F.okX (k := 0) S (fun vs H Q E h => ?_) (fun cdv A outer s H vs Q E hr h => ?_)
  · obtain ⟨a, v, rfl, _⟩ := h; rfl
  · obtain ⟨a, v, rfl, ha, q⟩ := h
    obtain ⟨_, t, rfl⟩ := hp cdv A outer s H E
    rw [hb]
    refine ⟨_, pss_one t, v, rfl, .ref a, rfl, a, C, rfl, ox, no, .inl ⟨ha, fun dx h1 h2 => q dx h1 h2⟩⟩
end
end Dl
namespace Dl
open PySem L2 PySem.Spec PyProof.Rows
abbrev TSu := Addr → Value → Option Addr → TS
def wAll (K : PySem.W.Frag) (Wo : WX) (D : Ends) (i : Nat) : List (Value × TSu) → WX
  | [] => Wo
  | (c, ts) :: r => fun cls d σ H => ∃ b, PySem.W.exmOne K cls c = some b ∧
      (b = true → ∀ a, H a = none → ts a cls d ⟨fun σ' H' => D.nx (σ'.set i none) H', D.rt, fun σ' H' => D.bk (σ'.set i none) H', fun σ' H' => D.ct (σ'.set i none) H'⟩ (σ.set i (some (.ref a))) H) ∧ (b = false → wAll K Wo D i r cls d σ H)
abbrev SuAt (X : Cx) (b : List Stmt) (ts : TSu) : Prop := ∀ (a : Addr) (oe : Obj) (cls : Value) (d : Option Addr) (pn : List (Addr × Obj)), Zc cls d oe → (∃ vs, oe.data = .fields vs) → PSs (X.suite a ((a, oe) :: pn)) b (ts a cls d)
inductive Cls1 (X : Cx) (n : Str) : List ExceptHandler → List (Value × TSu) → Prop
  | nil : Cls1 X n [] []
  | cons {x : Str} {c : Value} {ts : TSu} {b : Stmt} {su : List Stmt} {p1 p2 : Pos} {hds : List ExceptHandler} {l : List (Value × TSu)} (hc : Names X x c) (hsu : SuAt X (b :: su) ts) (r : Cls1 X n hds l) :
      Cls1 X n (.ExceptHandler (some (.Name x p1)) (some n) (b :: su) p2 :: hds) ((c, ts) :: l)
section
variable {X : Cx} {n : Str} {i : Nat} {body : List Stmt} {h₀ : ExceptHandler} {hds : List ExceptHandler} {l : List (Value × TSu)} {pos : Pos} {tb : WX → TS} {Wo : WX}
theorem ps_try_all (hs : X.stack = X.env :: X.outer) (hf : X.env.frame = some X.env.locals) (hN : X.N.Nodup) (hi : X.N[i]? = some n) (hln : X.env.kindOf n = some .local) (tk : Takes X Wo)
    (hb : ∀ (W : WX) (pn : List (Addr × Obj)) (xe : Value → Shared → Prop), Takes (X.tr pn xe) W → PassesOwn (model X.prog X.w) X.A X.env xe → PSs (X.tr pn xe) body (tb W))
    (hh : Cls1 X n (h₀ :: hds) l) : PS X (.Try body (h₀ :: hds) [] [] pos) (fun D σ H => tb (wAll X.K Wo D i l) D σ H) := by
  refine ⟨fun pins s σ H D I h => ?_⟩
  have ok := I.ok
  have hfr : X.A.frames = some (X.env :: X.outer) := by rw [ok.frames, hs]
  refine wpAny_Try_except ?_
  refine wpAny_mono ((hb (wAll X.K Wo D i l) (X.pn ++ pins) (fun e s1 => wpAny (model X.prog X.w) X.A (noteFrame e X.env) (fun _ s2 => wpAny (model X.prog X.w) X.A (setFlight e none) (fun _ s3 =>
    wpAny (model X.prog X.w) X.A (handleBy e X.env (h₀ :: hds)) (SP X pins D) X.xe s3) X.xe s2) X.xe s1) (fun u s' xx => ?_) PassesOwn.looking).run [] s σ H D (I.toTry _) h) (fun f s1 q => ?_) (fun e s1 he => he)
  · obtain ⟨a, B, sI, pins', σ1, H1, cls, d, rfl, J0, nb, up, sky, na, os, ag, w⟩ := xx
    have J : Inv X pins σ1 H1 sI := J0.ofTry ok
    rw [hs] at sky
    show wpAny (model X.prog X.w) X.A (noteFrame (.ref a) X.env) _ _ _
    refine Sky.land Zc.steady hfr hf sky fun h3 fl3 up3 => ?_
    have J3 : Inv X pins σ1 H1 { s' with heap := h3 } := J.landed nb fl3.1 (up.trans up3) os ag
    obtain ⟨oe3, vs3, he3, hz3, hd3⟩ := fl3.there
    have nfr : a ∉ frs (X.env :: X.outer) := fun hm => by
      obtain ⟨_, o', e', hnf⟩ := fl3.2.2.1.mem hm
      rw [he3] at e'; cases e'
      exact hnf _ hd3
    have nL : a ≠ X.env.locals := fun z => nfr (List.mem_filterMap.mpr ⟨X.env, List.mem_cons_self, by rw [hf, z]⟩)
    have nF : a ∉ X.fs := fun hm => by
      obtain ⟨e, he, q⟩ := List.mem_filterMap.mp hm
      exact nfr (List.mem_filterMap.mpr ⟨e, List.mem_cons_of_mem _ he, q⟩)
    have S3 := J3.suite he3 hd3 na nL nF
    have go : ∀ {hs1 : List ExceptHandler} {l1 : List (Value × TSu)}, Cls1 X n hs1 l1 → wAll X.K Wo D i l1 cls d σ1 H1 → wpAny (model X.prog X.w) X.A (handleBy (.ref a) X.env hs1) (SP X pins D) X.xe { s' with heap := h3 } := by
      intro hs1 l1 hk
      induction hk with
      | nil =>
        intro w
        refine wpAny_handleBy_nil ?_
        obtain ⟨k1, k2, k3, oe, vs, T, oT, ts', he, hz, hd, h1, hr⟩ := id fl3
        unfold PySem.passOn
        refine wpAny_bind (wpAny_field he hd h1 ?_)
        rw [if_neg (by simp)]
        have fin : wpAny (model X.prog X.w) X.A (setFlight (.ref a) X.env.frame) (fun _ s4 => wpAny (model X.prog X.w) X.A (throw (.ref a) : Sem Flow) (SP X pins D) X.xe s4) X.xe { s' with heap := h3 } := by
          rw [hf]
          refine HandSPX.setFlight_upZ fl3 fun h4 hh4 up4 => wpAny_throw (tk _ _ ?_)
          exact ⟨a, B, sI, pins, σ1, H1, cls, d, rfl, J, nb, (up.trans up3).trans up4, .inr (.inr (by rw [hs]; exact hh4)), na, os, ag, w⟩
        first | exact wpAny_bind (wpAny_pure (wpAny_bind fin)) | exact wpAny_bind fin
      | @cons x c ts b su p1 p2 hds2 l2 hc hsu r ih =>
        intro w
        obtain ⟨t, ht, yes, no⟩ := w
        refine wpAny_handleBy_cons (codeAny_handlers_test ?_) (by intro q; cases q)
        have LT : PySem.W.Looks (model X.prog X.w) h3 (typeOf (.ref a)) cls := fun A Q E s k q => wpAny_typeOf_ref (k _ _ he3) (by rw [hz3.1]; exact q)
        have LM := PySem.W.exm_one (M := model X.prog X.w) (J3.kIn) LT ht
        have test : ∀ {Q E : Value → Shared → Prop}, Q c { s' with heap := h3 } → wpAny (model X.prog X.w) (X.A.mark (some (.ref a))) (eval (.Name x p1) X.env) Q E { s' with heap := h3 } := fun {Q E} q => by
          obtain ⟨hg, hdbg, hm | ⟨hm, hv, hnn⟩⟩ := hc
          · exact ld_glob (X := X.suite a ((a, oe3) :: (X.pn ++ pins))) S3 hg hm q hdbg
          · exact ld_blt (X := X.suite a ((a, oe3) :: (X.pn ++ pins))) S3 hg hm hv q hnn hdbg
        refine test (LM.here ?_)
        cases t with
        | true =>
          refine codeAny_handlers_suite_as ?_
          refine HandSPX.lands_againZ fl3 fun h4 fl4 up4 => ?_
          have J4 : Inv X pins σ1 H1 { s' with heap := h4 } := J.landed nb fl4.1 ((up.trans up3).trans up4) os ag
          obtain ⟨oe4, vs4, he4, hz4, hd4⟩ := fl4.there
          have S4 := J4.suite he4 hd4 na nL nF
          refine store_ok (X := X.suite a ((a, oe4) :: (X.pn ++ pins))) (v := .ref a) S4 hN hi (.inl hln) rfl (fun s5 S5 => ?_) (.inr hln)
          refine wpAny_mono ((hsu a oe4 cls d (X.pn ++ pins) hz4 ⟨_, hd4⟩).run [] s5 _ H1 _ S5 (yes rfl a na)) (fun f s6 q => ?_) (fun _ _ z => False.elim z)
          have end_ : ∀ {σ6 : L2.St} {H6 : Hp} {Q : Shared → Prop}, Inv (X.suite a ((a, oe4) :: (X.pn ++ pins))) [] σ6 H6 s6 → (∀ s7, Inv X pins (σ6.set i none) H6 s7 → Q s7) →
              wpAny (model X.prog X.w) X.A (do bindName X.env n .none; unbindBehindTheSuite X.env n p2) (fun _ s7 => Q s7) X.xe s6 := fun {σ6 H6 Q} S6 hq => gone_ok (S6.unsuite ok) hN hi hln hq
          cases f with
          | next => obtain ⟨σ6, H6, S6, q6⟩ := q; exact end_ S6 fun s7 J7 => ⟨_, _, J7, q6⟩
          | brk => obtain ⟨σ6, H6, S6, q6⟩ := q; exact end_ S6 fun s7 J7 => ⟨_, _, J7, q6⟩
          | cont => obtain ⟨σ6, H6, S6, q6⟩ := q; exact end_ S6 fun s7 J7 => ⟨_, _, J7, q6⟩
          | ret u => obtain ⟨v6, σ6, H6, S6, r6, q6⟩ := q; exact end_ S6 fun s7 J7 => ⟨_, _, _, J7, r6, q6⟩
        | false =>
          show wpAny _ X.A (handleBy (.ref a) X.env hds2) _ _ _
          exact ih (no rfl)
    exact go hh w
  · cases f with
    | next => obtain ⟨σ1, H1, J1, q⟩ := q; exact wpAny_execs_nil ⟨σ1, H1, J1.ofTry ok, q⟩
    | brk => obtain ⟨σ1, H1, J1, q⟩ := q; exact ⟨σ1, H1, J1.ofTry ok, q⟩
    | cont => obtain ⟨σ1, H1, J1, q⟩ := q; exact ⟨σ1, H1, J1.ofTry ok, q⟩
    | ret u => obtain ⟨v, σ1, H1, J1, r, q⟩ := q; exact ⟨v, σ1, H1, J1.ofTry ok, r, q⟩
end
def subX (x c : Str) : Bool := x == c || c == "StripError" || c == "ValueError"
def unbind (i : Nat) : Out → Out
  | .next ρ ω => .next (ρ.set i none) ω
  | .brk ρ ω => .brk (ρ.set i none) ω
  | .cont ρ ω => .cont (ρ.set i none) ω
  | .ret x ω => .ret x ω
  | _ => .stuck
def tryH (i : Nat) (x : Exn) (ρ : Rho) (ω : Om) : List (Str × (Exn → FS)) → Out
  | [] => .exc x ρ ω
  | (c, f) :: r => if subX x.cls c = true then unbind i (f x (ρ.set i none) ω) else tryH i x ρ ω r
def tryO (nms : List Str) (i : Nat) (hs : List (Str × (Exn → FS))) : Out → Out
  | .exc x ρ ω => if nms.contains x.cls = true ∧ i < ρ.length then tryH i x ρ ω hs else .stuck
  | o => o
def sTry (nms : List Str) (i : Nat) (b : FS) (hs : List (Str × (Exn → FS))) : FS := fun ρ ω => tryO nms i hs (b ρ ω)
def tSu (K : PySem.W.Frag) (mg : MG) (nms : List Str) (i : Nat) (f : Exn → FS) : TSu := fun a cls d D σ H => ∃ G α ρ ω x, nms.contains x.cls = true ∧ Own K mg G α ω H ∧ Slots K mg G α ρ σ ∧ σ[i]? = some (some (.ref a)) ∧ RepX K mg G x cls d ∧ PostS K mg G α H D W0 (f x ρ ω)
def SuOk (X : Cx) (nms : List Str) (i : Nat) (b : List Stmt) (f : Exn → FS) : Prop := SuAt X b (tSu X.K X.mg nms i f)
def Catches (K : PySem.W.Frag) (mg : MG) (nms : List Str) (c : Str) (C : Addr) : Prop := ∀ n ∈ nms, ∃ D, mg n = some (.ref D) ∧ PySem.W.exmOne K (.ref D) (.ref C) = some (subX n c)
inductive Hds (X : Cx) (nms : List Str) (n : Str) (i : Nat) : List ExceptHandler → List (Str × (Exn → FS)) → Prop
  | nil : Hds X nms n i [] []
  | cons {x : Str} {C : Addr} {f : Exn → FS} {b : Stmt} {su : List Stmt} {p1 p2 : Pos} {hds : List ExceptHandler} {l : List (Str × (Exn → FS))} (hg : Gl X x) (hd : (x == ("__debug__" : Str)) = false) (hm : X.mg x = some (.ref C)) (hx : Catches X.K X.mg nms x C) (hsu : SuOk X nms i (b :: su) f) (r : Hds X nms n i hds l) :
      Hds X nms n i (.ExceptHandler (some (.Name x p1)) (some n) (b :: su) p2 :: hds) ((x, f) :: l)
section
variable {X : Cx} {W : WX} {n : Str} {i : Nat} {nms : List Str} {body : List Stmt} {h₀ : ExceptHandler} {hds : List ExceptHandler} {l : List (Str × (Exn → FS))} {pos : Pos} {fb : FS}
theorem Slots.setA {K : PySem.W.Frag} {mg : MG} {G : Hp} {α : List Addr} {ρ : Rho} {σ : L2.St} (S : Slots K mg G α ρ σ) (i : Nat) (v : Option V) : Slots K mg G α (ρ.set i none) (σ.set i v) := by
  refine ⟨by rw [List.length_set, List.length_set]; exact S.len, fun j x h => ?_⟩
  by_cases e : i = j
  · subst e
    rw [List.getElem?_set] at h
    simp at h
  · rw [List.getElem?_set_ne e] at h
    obtain ⟨v, h1, h2⟩ := S.val j x h
    exact ⟨v, by rw [List.getElem?_set_ne e]; exact h1, h2⟩
def tBody (K : PySem.W.Frag) (mg : MG) (f : FS) (W : WX) : TS := fun D σ H => ∃ G α ρ ω, Own K mg G α ω H ∧ Slots K mg G α ρ σ ∧ PostS K mg G α H D W (f ρ ω)
theorem can_ss (h : Dss X W body fb) : PSs X body (tBody X.K X.mg fb W) := by
  obtain ⟨t, p, k⟩ := h
  exact ⟨fun pins s σ H D I ⟨G, α, ρ, ω, O, S, P⟩ => p.run pins s σ H D I (k G α ρ ω σ H D O S P)⟩
theorem unbind_post {K : PySem.W.Frag} {mg : MG} {G H : Hp} {α : List Addr} {D : Ends} : ∀ {o : Out}, PostS K mg G α H D W (unbind i o) →
    PostS K mg G α H ⟨fun σ' H' => D.nx (σ'.set i none) H', D.rt, fun σ' H' => D.bk (σ'.set i none) H', fun σ' H' => D.ct (σ'.set i none) H'⟩ W0 o
  | .stuck, h => h
  | .exc _ _ _, h => h.elim
  | .next ρ ω, h => fun σ' G' α' H' e O S => h _ G' α' H' e O (S.setA i none)
  | .brk ρ ω, h => fun σ' G' α' H' e O S => h _ G' α' H' e O (S.setA i none)
  | .cont ρ ω, h => fun σ' G' α' H' e O S => h _ G' α' H' e O (S.setA i none)
  | .ret x ω, h => h
def lTs (K : PySem.W.Frag) (mg : MG) (nms : List Str) (i : Nat) : List (Str × (Exn → FS)) → List (Value × TSu)
  | [] => []
  | (c, f) :: r => ((mg c).getD .none, tSu K mg nms i f) :: lTs K mg nms i r
theorem Hds.cls {hds : List ExceptHandler} {l : List (Str × (Exn → FS))} (h : Hds X nms n i hds l) : Cls1 X n hds (lTs X.K X.mg nms i l) := by
  induction h with
  | nil => exact .nil
  | cons hg hd hm hx hsu r ih =>
    unfold lTs
    rw [hm]
    exact .cons ⟨hg, hd, .inl hm⟩ hsu ih
theorem hds_post {D : Ends} {x : Exn} {cls : Value} {dd : Option Addr} {G H : Hp} {α : List Addr} {ρ : Rho} {ω : Om} {σ : L2.St} (hil : i < ρ.length) (hn : nms.contains x.cls = true) (O : Own X.K X.mg G α ω H) (S : Slots X.K X.mg G α ρ σ) (r : RepX X.K X.mg G x cls dd) {hds : List ExceptHandler} {l : List (Str × (Exn → FS))} (h : Hds X nms n i hds l)
    (P : PostS X.K X.mg G α H D W (tryH i x ρ ω l)) : wAll X.K W D i (lTs X.K X.mg nms i l) cls dd σ H := by
  induction h with
  | nil => exact P cls dd σ G α H Ext.refl O S r
  | @cons c C f b su p1 p2 hds l hg hd hm hx hsu t ih =>
    unfold lTs wAll
    obtain ⟨E, hE, hs⟩ := hx x.cls (List.contains_iff_mem.mp hn)
    obtain ⟨E', hE', rfl, r'⟩ := id r
    rw [hE'] at hE; cases hE
    refine ⟨_, by rw [hm]; exact hs, fun hb a ha => ?_, fun hb => ?_⟩
    · unfold tryH at P
      rw [if_pos hb] at P
      refine ⟨G, α, ρ.set i none, ω, x, hn, O, S.setA i _, ?_, r, unbind_post P⟩
      rw [List.getElem?_set_self (by rw [S.len]; exact hil)]
    · unfold tryH at P
      rw [if_neg (by rw [hb]; decide)] at P
      exact ih P
theorem ds_try (tk : Takes X W) (hs : X.stack = X.env :: X.outer := by rfl) (hf : X.env.frame = some X.env.locals := by rfl) (hN : X.N.Nodup) (hi : X.N[i]? = some n := by rfl) (hln : X.env.kindOf n = some .local := by rfl)
    (hb : ∀ (W : WX) (pn : List (Addr × Obj)) (xe : Value → Shared → Prop), Takes (X.tr pn xe) W → PassesOwn (model X.prog X.w) X.A X.env xe → Dss (X.tr pn xe) W body fb)
    (hh : Hds X nms n i (h₀ :: hds) l) : Ds X W (.Try body (h₀ :: hds) [] [] pos) (sTry nms i fb l) := by
  refine ⟨_, ps_try_all (tb := tBody X.K X.mg fb) hs hf hN hi hln tk (fun W' pn xe tk' hp => can_ss (hb W' pn xe tk' hp)) hh.cls, fun G α ρ ω σ H D O S P => ⟨G, α, ρ, ω, O, S, ?_⟩⟩
  unfold sTry at P
  cases q : fb ρ ω with
  | stuck => rw [q] at P; exact P
  | next _ _ => rw [q] at P; exact P
  | brk _ _ => rw [q] at P; exact P
  | cont _ _ => rw [q] at P; exact P
  | ret _ _ => rw [q] at P; exact P
  | exc x ρ1 ω1 =>
    rw [q] at P
    unfold tryO at P
    intro c dd σ' G' α' H' e O' S' r
    by_cases hn : nms.contains x.cls = true ∧ i < ρ1.length
    · dsimp only at P
      rw [if_pos hn] at P
      exact hds_post hn.2 hn.1 O' S' r hh (PostS.weak e P)
    · dsimp only at P
      rw [if_neg hn] at P
      exact P.elim
end
end Dl
namespace Dl
open PySem L2
structure ErrX (K : PySem.W.Frag) (mg : MG) (x : Str) (C : Addr) : Prop where
  gl : mg x = some (.ref C)
  xc : ExcC K C
  ty : PySem.W.typeIn K (.ref C) = some (.type "type")
  self : PySem.W.subIn K (.ref C) (.ref C) = some true
section
variable {K : PySem.W.Frag} {mg : MG} {x c : Str} {C D : Addr} {nms : List Str}
theorem ErrX.exm (T : ErrX K mg c C) {b : Bool} (h : PySem.W.subIn K (.ref D) (.ref C) = some b) : PySem.W.exmOne K (.ref D) (.ref C) = some b := PySem.W.exm_ref T.xc.hs T.xc.hd T.ty h
theorem ErrX.kit (T : ErrX K mg c C) {b : Bool} (h : PySem.W.subIn K (.ref D) (.ref C) = some b) : PySem.W.kitOne K (.ref D) (.ref C) = some b := by
  obtain ⟨cd, hc, _⟩ := PySem.W.any_some T.xc.hd
  have e2 : ((PySem.W.clsIn K C).isSome && PySem.W.typeIn K (.ref C) == some (.type "type")) = true := by rw [hc, T.ty] <;> rfl
  unfold PySem.W.kitOne
  by_cases e : ((Value.ref D == Value.ref C) = true)
  · rw [if_pos e]
    have := Value.ref.inj (beq_iff_eq.mp e)
    subst this
    rw [T.self] at h
    exact h
  · rw [if_neg e]
    unfold PySem.W.kitCls
    dsimp only
    rw [if_pos e2]
    exact h
theorem catches_nil : Catches K mg [] c C := fun n h => by cases h
theorem catches_cons (T : ErrX K mg c C) (N : ErrX K mg x D) (h : PySem.W.subIn K (.ref D) (.ref C) = some (subX x c)) (r : Catches K mg nms c C) : Catches K mg (x :: nms) c C := fun n hn => by
  rcases List.mem_cons.mp hn with rfl | hn
  · exact ⟨D, N.gl, T.exm h⟩
  · exact r n hn
def Isx (K : PySem.W.Frag) (mg : MG) (nms : List Str) (c : Str) (C : Value) : Prop := ∀ n ∈ nms, ∃ D, mg n = some (.ref D) ∧ ExcC K D ∧ PySem.W.kitOne K (.ref D) C = some (subX n c)
theorem isx_nil {v : Value} : Isx K mg [] c v := fun n h => by cases h
theorem isx_cons (T : ErrX K mg c C) (N : ErrX K mg x D) (h : PySem.W.subIn K (.ref D) (.ref C) = some (subX x c)) (r : Isx K mg nms c (.ref C)) : Isx K mg (x :: nms) c (.ref C) := fun n hn => by
  rcases List.mem_cons.mp hn with rfl | hn
  · exact ⟨D, N.gl, N.xc, T.kit h⟩
  · exact r n hn
end
def rIsX (K : PySem.W.Frag) (a : Addr) (cls : Value) (d : Option Addr) : List V → Hp → VK → Prop := fun xs H Q => ∃ (c : V) (cv : Value) (D : Addr) (b : Bool), xs = [.ref a, c] ∧ (∀ u, RelV c u → u = cv) ∧ cls = .ref D ∧ ExcC K D ∧ PySem.W.kitOne K (.ref D) cv = some b ∧
  (d = none ∨ ∃ dd fs, d = some dd ∧ H dd = some (.xd fs)) ∧ Q (.bl b) H
theorem call_isX {X : Cx} {a : Addr} {cls : Value} {d : Option Addr} {oe : Obj} {pn : List (Addr × Obj)} (hz : Zc cls d oe) (hf : ∃ vs, oe.data = .fields vs) : CallR (X.suite a ((a, oe) :: pn)) (.builtin "isinstance") (rIsX X.K a cls d) := by
  intro pins s σ H xs us Q I r h
  obtain ⟨c, cv, D, b, rfl, hcv, rfl, C, e, hd, q⟩ := h
  cases r with
  | cons rx rr =>
    cases rr with
    | cons rt rr =>
      cases rr
      cases rx
      have ec := hcv _ rt
      subst ec
      obtain ⟨hget, _⟩ := I.pin (a, oe) (List.mem_append.mpr (.inl List.mem_cons_self))
      obtain ⟨vs, hv⟩ := hf
      have hcl : (PySem.W.clsIn X.K D).isSome = true := by
        obtain ⟨cd, hc, _⟩ := PySem.W.any_some C.hd
        rw [hc]; rfl
      have J : ∃ od, PySem.W.InstAt s.heap a oe D od := by
        rcases hd with rfl | ⟨dd, fs, rfl, hx⟩
        · refine ⟨none, ?_⟩
          obtain ⟨oc, od, oda, osl⟩ := oe
          obtain ⟨h1, h2⟩ := hz
          dsimp only at h1 h2 hv
          subst h1 h2 hv
          exact ⟨hget, rfl, rfl, trivial⟩
        · have hk : ObjOk X.prog X.w H s.heap dd (.xd fs) := I.hok dd _ hx
          obtain ⟨mA, hns, hr⟩ := hk
          obtain ⟨od, ho, hl⟩ := lookIn_ns hns
          exact ⟨some od, hget, hz.1, by unfold PySem.W.notCls; rw [hv] <;> rfl, by rw [hz.2]; exact ho⟩
      obtain ⟨od, J⟩ := J
      exact PySem.W.kia_one (PySem.W.kitx_exc hcl C.hg C.hk C.hs C.ha C.hn C.ht C.hm) I.kIn J e (fun z => nomatch z) fun tk => ⟨.bl b, H, I.kept (t' := tk) fun _ _ z => z, rfl, q⟩
theorem Res.bind_assoc {β γ δ : Type} (r : Res β) (f : β → Om → Res γ) (g : γ → Om → Res δ) : (r.bind f).bind g = r.bind fun b ω => (f b ω).bind g := by cases r <;> rfl
def tDx (K : PySem.W.Frag) (mg : MG) (nms : List Str) (i : Nat) (f : Exn → FE D) (a : Addr) (cls : Value) (d : Option Addr) : TE := fun σ H Q => ∃ G α ρ ω x, nms.contains x.cls = true ∧ Own K mg G α ω H ∧ Slots K mg G α ρ σ ∧ σ[i]? = some (some (.ref a)) ∧ RepX K mg G x cls d ∧ Post K mg (RD K mg) G α H Q (fun _ _ _ => False) (f x ρ ω)
def Dx (X : Cx) (nms : List Str) (i : Nat) (e : Expr) (f : Exn → FE D) : Prop := ∀ (a : Addr) (oe : Obj) (cls : Value) (d : Option Addr) (pn : List (Addr × Obj)), Zc cls d oe → (∃ vs, oe.data = .fields vs) → PE (X.suite a ((a, oe) :: pn)) e (tDx X.K X.mg nms i f a cls d)
def tDxA (K : PySem.W.Frag) (mg : MG) (nms : List Str) (i : Nat) (f : Exn → FE (List SV)) (a : Addr) (cls : Value) (d : Option Addr) : TA := fun σ H Q => ∃ G α ρ ω x, nms.contains x.cls = true ∧ Own K mg G α ω H ∧ Slots K mg G α ρ σ ∧ σ[i]? = some (some (.ref a)) ∧ RepX K mg G x cls d ∧ Post K mg (RA K mg) G α H Q (fun _ _ _ => False) (f x ρ ω)
def DxA (X : Cx) (nms : List Str) (i : Nat) (es : List Expr) (f : Exn → FE (List SV)) : Prop := ∀ (a : Addr) (oe : Obj) (cls : Value) (d : Option Addr) (pn : List (Addr × Obj)), Zc cls d oe → (∃ vs, oe.data = .fields vs) → PA (X.suite a ((a, oe) :: pn)) es (tDxA X.K X.mg nms i f a cls d)
section
variable {X : Cx} {nms : List Str} {i : Nat} {e a b c : Expr} {es : List Expr} {pos p p1 p2 : Pos} {n s : Str}
theorem dx_of {f : FE D} (h : ∀ (a : Addr) (oe : Obj) (pn : List (Addr × Obj)), De (X.suite a ((a, oe) :: pn)) W0 e f) : Dx X nms i e (fun _ => f) := by
  intro a oe cls d pn hz hf
  obtain ⟨t, q, k⟩ := h a oe pn
  exact ⟨fun pins s σ H Q I ⟨G, α, ρ, ω, x, hn, O, S, hi, r, P⟩ => q.run pins s σ H Q I (k G α ρ ω σ H Q O S P)⟩
def eIsx (s : Str) (x : Exn) : FE D := fun _ ω => .ok (.bl (subX x.cls s)) ω
theorem dx_isi {C : Addr} (hi : X.mg "isinstance" = none) (hs : X.mg s = some (.ref C)) (T : Isx X.K X.mg nms s (.ref C)) (hN : X.N[i]? = some n := by rfl) (hv : Vis X.env.scope n := by first | exact Or.inl rfl | exact Or.inr (Or.inl rfl) | exact Or.inr (Or.inr rfl)) (hd : (n == ("__debug__" : Str)) = false := by decide) (hcd : (n == ("__classdict__" : Str)) = false := by decide)
    (hgs : Gl X s := by rfl) (hds : (s == ("__debug__" : Str)) = false := by decide) (hg : Gl X "isinstance" := by rfl) (he : starEach [.Name n p1, .Name s p2] X.env = (false, eval (.Name n p1) X.env) :: starEach [.Name s p2] X.env := by rfl) (he2 : starEach [.Name s p2] X.env = (false, eval (.Name s p2) X.env) :: starEach [] X.env := by rfl)
    (hpl : (backTo pos (starEach [.Name s p2] X.env)).any (·.1) = false := by rfl) (hvi : bootBuiltins "isinstance" = some (.builtin "isinstance") := by decide +kernel) : Dx X nms i (.Call (.Name "isinstance" p) [.Name n p1, .Name s p2] [] pos) (eIsx s) := by
  intro a oe cls d pn hz hf
  have q := pe_callB (X := X.suite a ((a, oe) :: pn)) (p := p) (pos := pos) (call_isX hz hf) hg hi hvi (pa_cons (pe_var (pos := p1) hN hv hd hcd) (pa_cons (pe_glob (v := .ref C) (pos := p2) hgs hs rfl hds) pa_nil he2) he) (by decide) (by decide) he hpl
  refine ⟨fun pins st σ H Q I ⟨G, α, ρ, ω, x, hn, O, S, hi, r, P⟩ => q.run pins st σ H Q I ?_⟩
  obtain ⟨D, hD, xc, kt⟩ := T x.cls (List.contains_iff_mem.mp hn)
  obtain ⟨D', hD', rfl, r'⟩ := id r
  rw [hD'] at hD; cases hD
  refine ⟨.ref a, hi, .ref C, .ref C, _, _, rfl, fun u hu => hu, rfl, xc, kt, ?_, Post.here O (show Rep X.K X.mg G _ _ from rep_bl.mpr rfl) P⟩
  rcases r' with ⟨_, h⟩ | ⟨dd, fvs, h, h2, _⟩
  · exact .inl h
  · exact .inr ⟨dd, fvs, h, O.sub _ _ h2⟩
def eXf (c f : Str) (x : Exn) : FE D := fun _ ω => if x.cls = c then Res.lift (x.fs.lookup f) ω else .stuck
structure XfD (K : PySem.W.Frag) (mg : MG) (c f : Str) (C : Addr) : Prop where
  gl : mg c = some (.ref C)
  xf : XfC K C
  no : PySem.W.findIn K (.ref C) f = some none
theorem dx_fld {C : Addr} {c f : Str} (T : XfD X.K X.mg c f C) (hN : X.N[i]? = some n := by rfl) (hv : Vis X.env.scope n := by first | exact Or.inl rfl | exact Or.inr (Or.inl rfl) | exact Or.inr (Or.inr rfl)) (hd : (n == ("__debug__" : Str)) = false := by decide) (hcd : (n == ("__classdict__" : Str)) = false := by decide)
    (hb : attributeBase (.Name n p1) f X.env (eval (.Name n p1) X.env) = eval (.Name n p1) X.env := by rfl) : Dx X nms i (.Attribute (.Name n p1) f pos) (eXf c f) := by
  intro a oe cls d pn hz hf
  have q := pe_xf (X := X) (a := a) (pos := pos) (pn := pn) T.xf T.no hz hf (pe_var (X := X.suite a ((a, oe) :: pn)) (pos := p1) hN hv hd hcd) hb
  refine ⟨fun pins st σ H Q I ⟨G, α, ρ, ω, x, hn, O, S, hi, r, P⟩ => q.run pins st σ H Q I ?_⟩
  unfold eXf at P
  split at P
  · rename_i hc
    obtain ⟨D', hD', rfl, r'⟩ := id r
    rw [hc, T.gl] at hD'; cases hD'
    obtain ⟨v, e1, P⟩ := P.lift
    rcases r' with ⟨h, _⟩ | ⟨dd, fvs, h, h2, h3⟩
    · rw [h] at e1; cases e1
    · obtain ⟨u, h4, h5⟩ := h3.look e1
      exact ⟨.ref a, hi, rfl, rfl, dd, fvs, u, h, O.sub _ _ h2, h4, Post.here O (show Rep X.K X.mg G _ _ from h5) P⟩
  · exact P.elim
theorem dx_if {fc fa fb : Exn → FE D} (hc : Dx X nms i c fc) (ha : Dx X nms i a fa) (hb : Dx X nms i b fb) (hcv : ∀ whole, isTrue c X.env whole = (do let v ← whole; standAt c.pos; holding [v] (truthy v)) := by intro _; rfl) : Dx X nms i (.IfExp c a b pos) (fun x => eIf (eTest (fc x)) (fa x) (fb x)) := by
  intro ad oe cls d pn hz hf
  have q := pe_ifExp (pos := pos) (pt_val (hc ad oe cls d pn hz hf) hcv) (ha ad oe cls d pn hz hf) (hb ad oe cls d pn hz hf)
  refine ⟨fun pins st σ H Q I ⟨G, α, ρ, ω, x, hn, O, S, hi, r, P⟩ => q.run pins st σ H Q I ?_⟩
  unfold eIf eTest at P
  dsimp only at P
  rw [Res.bind_assoc] at P
  refine Post.step (t := tDx X.K X.mg nms i fc ad cls d σ H) (R := RD X.K X.mg) (fun Q P => ⟨G, α, ρ, ω, x, hn, O, S, hi, r, P⟩) P fun y ω1 v1 G1 α1 H1 e1 O1 r1 P1 => ?_
  cases y with
  | bl k =>
    have r2 : Rep X.K X.mg G1 (.bl k) v1 := r1
    rw [rep_bl] at r2
    refine ⟨k, r2, ?_⟩
    cases k with
    | true => exact iteT ⟨G1, α1, ρ, ω1, x, hn, O1, S.mono e1, hi, r.mono e1.g, P1⟩
    | false => exact iteF ⟨G1, α1, ρ, ω1, x, hn, O1, S.mono e1, hi, r.mono e1.g, P1⟩
  | _ => exact P1.elim
theorem dxa_nil : DxA X nms i [] (fun _ => aNil) := by
  intro ad oe cls d pn hz hf
  exact ⟨fun pos pins st σ H Q I ⟨G, α, ρ, ω, x, hn, O, S, hi, r, P⟩ => (pa_nil (X := X.suite ad ((ad, oe) :: pn))).run pos pins st σ H Q I (Post.here O .nil P)⟩
theorem dxa_cons {f : Exn → FE D} {g : Exn → FE (List SV)} (h : Dx X nms i e f) (h2 : DxA X nms i es g) (hs : starEach (e :: es) X.env = (false, eval e X.env) :: starEach es X.env := by rfl) : DxA X nms i (e :: es) (fun x => aCons (aVal (f x)) (g x)) := by
  intro ad oe cls d pn hz hf
  have q := pa_cons (X := X.suite ad ((ad, oe) :: pn)) (h ad oe cls d pn hz hf) (h2 ad oe cls d pn hz hf) hs
  refine ⟨fun pos pins st σ H Q I ⟨G, α, ρ, ω, x, hn, O, S, hi, r, P⟩ => q.run pos pins st σ H Q I ?_⟩
  unfold aCons aVal at P
  dsimp only at P
  rw [Res.bind_assoc] at P
  refine Post.step (t := tDx X.K X.mg nms i f ad cls d σ H) (R := RD X.K X.mg) (fun Q P => ⟨G, α, ρ, ω, x, hn, O, S, hi, r, P⟩) P fun y ω1 v1 G1 α1 H1 e1 O1 r1 P1 => ?_
  refine Post.step (t := tDxA X.K X.mg nms i g ad cls d σ H1) (fun Q P => ⟨G1, α1, ρ, ω1, x, hn, O1, S.mono e1, hi, r.mono e1.g, P⟩) P1 fun ys ω2 v2 G2 α2 H2 e2 O2 r2 P2 => ?_
  exact Post.here O2 (.cons (show RepV X.K X.mg G2 α2 (.val y) v1 from Rep.mono e2.g _ _ r1) r2) P2
theorem dx_lst {g : Exn → FE (List SV)} (h : DxA X nms i es g) : Dx X nms i (.List es pos) (fun x => eList (g x)) := by
  intro ad oe cls d pn hz hf
  have q := pe_lst (pos := pos) (h ad oe cls d pn hz hf)
  refine ⟨fun pins st σ H Q I ⟨G, α, ρ, ω, x, hn, O, S, hi, r, P⟩ => q.run pins st σ H Q I ?_⟩
  unfold eList at P
  refine Post.step (t := tDxA X.K X.mg nms i g ad cls d σ H) (fun Q P => ⟨G, α, ρ, ω, x, hn, O, S, hi, r, P⟩) P fun xs ω1 vs G1 α1 H1 e1 O1 r1 P1 => ?_
  obtain ⟨d, e2, P2⟩ := P1.lift
  split at e2
  · rename_i hl
    cases q : allD xs with
    | none => rw [q] at e2; cases e2
    | some ds =>
      rw [q] at e2; cases e2
      have hr := allD_reps q r1
      refine ⟨by rw [lim_eq, ← RepVs.length r1]; exact hl, fun p hp => ?_⟩
      exact Post.grow O1 (Grow.put O1.sub hp) (rep_newL (H := H1) (O1.sub.free hp) hr) P2
  · cases e2
theorem su_set {j : Nat} {y : Str} {f : Exn → FE D} {p' : Pos} (h : Dx X nms i e f) (hN : X.N.Nodup) (hj : X.N[j]? = some y := by rfl) (hx : Loc X.env.scope y := by first | exact Or.inl rfl | exact Or.inr rfl) (hs : swapsWith e (some (.Name y p')) pos.line X.env = pure false := by rfl)
    (hw : X.fn y = true ∨ X.env.scope.names.lookup y = some .local := by first | exact .inl rfl | exact .inr rfl) : SuOk X nms i [.Assign [.Name y p'] e pos] (fun x => sSet j (f x)) := by
  intro ad oe cls d pn hz hf
  have q := pss_one (ps_set (X := X.suite ad ((ad, oe) :: pn)) (pos := pos) (pos' := p') hN hj hx (h ad oe cls d pn hz hf) hs hw)
  refine ⟨fun pins st σ H E I ⟨G, α, ρ, ω, x, hn, O, S, hi, r, P⟩ => q.run pins st σ H E I ?_⟩
  refine PostS.step S (t := tDx X.K X.mg nms i f ad cls d σ H) (fun Q P => ⟨G, α, ρ, ω, x, hn, O, S, hi, r, P⟩) P fun y ω1 v1 G1 α1 H1 e1 O1 r1 P1 => ?_
  exact P1.here_nx O1 ((S.mono e1).set j (x := .val y) r1)
end
end Dl
namespace Dl
open PySem L2
end Dl
namespace Dl
open PySem L2
section
variable {X : Cx} {W : WX} {pos : Pos}
def sPar3 (i j l : Nat) (f : FE (List SV)) : FS := fun ρ ω => (f ρ ω).out ρ fun xs ω1 => match xs with
  | [x, y, z] => .next (((ρ.set i (some x)).set j (some y)).set l (some z)) ω1
  | _ => .stuck
theorem ds_par3 {i j l : Nat} {x y z : Str} {a b c : Expr} {fa : FE (List SV)} {px py pz pt : Pos} {kt k2 pt2} (hc : X.calm = true) (hN : X.N.Nodup) (hd : i ≠ j ∧ i ≠ l ∧ j ≠ l) (ha : Da X W [a, b, c] fa)
    (hw : swappedStores [.Tuple [.Name x px, .Name y py, .Name z pz] kt pt] (.Tuple [a, b, c] k2 pt2) X.env = pure (some [x, y, z]))
    (hi : X.N[i]? = some x := by rfl) (hj : X.N[j]? = some y := by rfl) (hl : X.N[l]? = some z := by rfl)
    (hx : X.env.scope.names.lookup x = some .local := by rfl) (hy : X.env.scope.names.lookup y = some .local := by rfl) (hz : X.env.scope.names.lookup z = some .local := by rfl)
    (hs : swapsWithSole [.Tuple [.Name x px, .Name y py, .Name z pz] kt pt] (.Tuple [a, b, c] k2 pt2) pos.line X.env = pure false := by rfl) :
    Ds X W (.Assign [.Tuple [.Name x px, .Name y py, .Name z pz] kt pt] (.Tuple [a, b, c] k2 pt2) pos) (sPar3 i j l fa) := by
  obtain ⟨t, p, k⟩ := ha
  refine ⟨_, ps_par3 hc hN hi hj hl hd.1 hd.2.1 hd.2.2 hx hy hz p hw hs, fun G α ρ ω σ H D O S P => ?_⟩
  refine PostS.step S (t := t σ H) (k G α ρ ω σ H · O S) P fun xs ω1 vs G1 α1 H1 e1 O1 r1 P1 => ?_
  match xs, vs, r1, P1 with
  | [x, y, z], _, .cons q1 (.cons q2 (.cons q3 .nil)), P1 => exact ⟨_, _, _, rfl, P1.here_nx O1 ((((S.mono e1).set i q1).set j q2).set l q3)⟩
  | [], _, _, P1 => exact P1.elim
  | [_], _, _, P1 => exact P1.elim
  | [_, _], _, _, P1 => exact P1.elim
  | _ :: _ :: _ :: _ :: _, _, _, P1 => exact P1.elim
def eNewL (g : FE (List SV)) : FE SV := fun ρ ω => (g ρ ω).bind fun xs ω1 => match allD xs with
  | some ds => if xs.length ≤ lim then .ok (.own ω1.length) (ω1 ++ [some (.lst ds)]) else .stuck
  | none => .stuck
end
end Dl
namespace Dl
open PySem L2
def oexB (K : PySem.W.Frag) (C : Addr) : Bool := match K.lookup C with
  | some ⟨.type "type", _, .cls cd, sl⟩ => (match cd.mro, sl.toList with
    | .ref C' :: bm, [_, _, _, _, some (.builtin n), _] => C' == C && (n == "ValueError.__new__" && (!cd.hasDel && (cd.hasDict && PySem.HandSPX.refsVE bm)))
    | _, _ => false)
  | _ => false
theorem oexB_ok {K : PySem.W.Frag} {C : Addr} (h : oexB K C = true) : ∃ nm q N bs bm sn sub ab col dd k0 k1 k2 k3 k5, K.lookup C = some (excClassObj nm q C N bs bm true sn sub ab col dd k0 k1 k2 k3 k5 "ValueError.__new__") ∧ PySem.HandSPX.refsVE bm = true := by
  unfold oexB at h
  split at h
  · rename_i dd cd sl ho
    split at h
    · rename_i C' bm k0 k1 k2 k3 n k5 hm hs
      simp only [Bool.and_eq_true, beq_iff_eq, Bool.not_eq_true'] at h
      obtain ⟨rfl, rfl, hdel, hdct, hr⟩ := h
      obtain ⟨nm, bs, mro, ns, qn, hd, sn, sub, ab, col, del⟩ := cd
      dsimp only at hm hdel hdct
      subst hm hdel hdct
      have hsl : sl = #[k0, k1, k2, k3, some (.builtin "ValueError.__new__"), k5] := by
        obtain ⟨l⟩ := sl
        simp only at hs
        rw [hs]
      subst hsl
      exact ⟨nm, qn, ns, bs, bm, sn, sub, ab, col, dd, k0, k1, k2, k3, k5, ho, hr⟩
    · cases h
  · cases h
theorem isFn_ty {K : PySem.W.Frag} {v : Value} (h : PySem.W.isFn K v = true) : PySem.W.typeIn K v = some (.type "function") := beq_iff_eq.mp h
end Dl
namespace Dl
open PySem L2
section
variable {d x y : D} {ds es : List D} {ρ : Rho} {ω : Om} {i j k : Nat}
theorem tup_0 : tupR (some ds) 0 = some (.tup ds) := tupR_run (by decide)
theorem lst_0 : lstR (some ds) 0 = some (.lst ds) := lstR_run (by decide)
theorem tup_1 : tupR (some ds) 1 = some (.tup ds) := tupR_run (by decide)
theorem lst_1 : lstR (some ds) 1 = some (.lst ds) := lstR_run (by decide)
theorem tup_2 : tupR (some ds) 2 = some (.tup ds) := tupR_run (by decide)
theorem lst_2 : lstR (some ds) 2 = some (.lst ds) := lstR_run (by decide)
theorem tup_3 : tupR (some ds) 3 = some (.tup ds) := tupR_run (by decide)
theorem lst_3 : lstR (some ds) 3 = some (.lst ds) := lstR_run (by decide)
theorem tup_4 : tupR (some ds) 4 = some (.tup ds) := tupR_run (by decide)
theorem lst_4 : lstR (some ds) 4 = some (.lst ds) := lstR_run (by decide)
theorem tup_5 : tupR (some ds) 5 = some (.tup ds) := tupR_run (by decide)
theorem lst_5 : lstR (some ds) 5 = some (.lst ds) := lstR_run (by decide)
theorem tup_6 : tupR (some ds) 6 = some (.tup ds) := tupR_run (by decide)
theorem lst_6 : lstR (some ds) 6 = some (.lst ds) := lstR_run (by decide)
theorem tup_7 : tupR (some ds) 7 = some (.tup ds) := tupR_run (by decide)
theorem lst_7 : lstR (some ds) 7 = some (.lst ds) := lstR_run (by decide)
theorem tup_8 : tupR (some ds) 8 = some (.tup ds) := tupR_run (by decide)
theorem lst_8 : lstR (some ds) 8 = some (.lst ds) := lstR_run (by decide)
theorem tup_9 : tupR (some ds) 9 = some (.tup ds) := tupR_run (by decide)
theorem lst_9 : lstR (some ds) 9 = some (.lst ds) := lstR_run (by decide)
theorem tup_10 : tupR (some ds) 10 = some (.tup ds) := tupR_run (by decide)
theorem lst_10 : lstR (some ds) 10 = some (.lst ds) := lstR_run (by decide)
theorem tup_11 : tupR (some ds) 11 = some (.tup ds) := tupR_run (by decide)
theorem lst_11 : lstR (some ds) 11 = some (.lst ds) := lstR_run (by decide)
theorem tup_12 : tupR (some ds) 12 = some (.tup ds) := tupR_run (by decide)
theorem lst_12 : lstR (some ds) 12 = some (.lst ds) := lstR_run (by decide)
theorem new_0 : newR (some ds) 0 i ρ ω = .next (ρ.set i (some (.own ω.length))) (ω ++ [some (.lst ds)]) := newR_run (by decide)
theorem new_1 : newR (some ds) 1 i ρ ω = .next (ρ.set i (some (.own ω.length))) (ω ++ [some (.lst ds)]) := newR_run (by decide)
theorem new_2 : newR (some ds) 2 i ρ ω = .next (ρ.set i (some (.own ω.length))) (ω ++ [some (.lst ds)]) := newR_run (by decide)
theorem new_3 : newR (some ds) 3 i ρ ω = .next (ρ.set i (some (.own ω.length))) (ω ++ [some (.lst ds)]) := newR_run (by decide)
theorem new_4 : newR (some ds) 4 i ρ ω = .next (ρ.set i (some (.own ω.length))) (ω ++ [some (.lst ds)]) := newR_run (by decide)
theorem new_5 : newR (some ds) 5 i ρ ω = .next (ρ.set i (some (.own ω.length))) (ω ++ [some (.lst ds)]) := newR_run (by decide)
theorem sRaise_run (c : Str) : sRaise c ρ ω = .exc ⟨c, []⟩ ρ ω := rfl
def raiseIR (c : Str) (fls : List Str) (ρ : Rho) (ω : Om) : Option (List D) → Out
  | some ds => if ds.length = fls.length then .exc ⟨c, (fls.zip ds).reverse⟩ ρ ω else .stuck
  | none => .stuck
theorem sRaiseI_run (c : Str) (fls : List Str) (g : FE (List SV)) : sRaiseI c fls g ρ ω = outL (g ρ ω) ρ (k := ⟨fun xs ω1 => raiseIR c fls ρ ω1 (allD xs)⟩) := by
  unfold sRaiseI outL raiseIR
  cases g ρ ω <;> rfl
theorem raiseI_run1 (c f : Str) : raiseIR c [f] ρ ω (some [d]) = .exc ⟨c, [(f, d)]⟩ ρ ω := rfl
theorem raiseI_run2 (c f g : Str) : raiseIR c [f, g] ρ ω (some [d, x]) = .exc ⟨c, [(g, x), (f, d)]⟩ ρ ω := rfl
theorem sTry_run (nms : List Str) (b : FS) (hs : List (Str × (Exn → FS))) : sTry nms i b hs ρ ω = tryO nms i hs (b ρ ω) := rfl
section
variable {nms : List Str} {hs : List (Str × (Exn → FS))}
theorem tryO_next : tryO nms i hs (.next ρ ω) = .next ρ ω := rfl
theorem tryO_ret {v : SV} : tryO nms i hs (.ret v ω) = .ret v ω := rfl
theorem tryO_exc {c : Str} {fs : List (Str × D)} (h : nms.contains c = true) (hi : i < ρ.length) : tryO nms i hs (.exc ⟨c, fs⟩ ρ ω) = tryH i ⟨c, fs⟩ ρ ω hs := by
  unfold tryO; dsimp only; rw [if_pos ⟨h, hi⟩]
theorem tryH_yes {c e : Str} {fs : List (Str × D)} {f : Exn → FS} (h : subX c e = true) : tryH i ⟨c, fs⟩ ρ ω ((e, f) :: hs) = unbind i (f ⟨c, fs⟩ (ρ.set i none) ω) := by
  unfold tryH; rw [if_pos h]
theorem tryH_no {c e : Str} {fs : List (Str × D)} {f : Exn → FS} (h : subX c e = false) : tryH i ⟨c, fs⟩ ρ ω ((e, f) :: hs) = tryH i ⟨c, fs⟩ ρ ω hs := by
  conv => lhs; unfold tryH
  rw [if_neg (by rw [h]; decide)]
theorem tryH_nil {e : Exn} : tryH i e ρ ω [] = .exc e ρ ω := rfl
theorem unbind_next : unbind i (.next ρ ω) = .next (ρ.set i none) ω := rfl
theorem unbind_ret {v : SV} : unbind i (.ret v ω) = .ret v ω := rfl
end
theorem eIsx_run (s : Str) (e : Exn) : eIsx s e ρ ω = .ok (.bl (subX e.cls s)) ω := rfl
theorem eXf_run {c f : Str} {fs : List (Str × D)} : eXf c f ⟨c, fs⟩ ρ ω = Res.lift (fs.lookup f) ω := by unfold eXf; rw [if_pos rfl]
def par3R (i j l : Nat) (ρ : Rho) (ω : Om) : List SV → Out
  | [x, y, z] => .next (((ρ.set i (some x)).set j (some y)).set l (some z)) ω
  | _ => .stuck
theorem sPar3_run {l : Nat} (f : FE (List SV)) : sPar3 i j l f ρ ω = outL (f ρ ω) ρ (k := ⟨fun xs ω1 => par3R i j l ρ ω1 xs⟩) := by
  unfold sPar3 outL
  cases f ρ ω with
  | stuck => rfl
  | exc _ _ => rfl
  | ok xs ω1 =>
    show (match xs with | [x, y, z] => _ | _ => _) = par3R i j l ρ ω1 xs
    unfold par3R
    rfl
theorem par3R_run {l : Nat} (x y z : SV) : par3R i j l ρ ω [x, y, z] = .next (((ρ.set i (some x)).set j (some y)).set l (some z)) ω := rfl
def newLR (n : Nat) (ω : Om) : Option (List D) → Res SV
  | some ds => if n ≤ lim then .ok (.own ω.length) (ω ++ [some (.lst ds)]) else .stuck
  | none => .stuck
theorem eNewL_run (g : FE (List SV)) : eNewL g ρ ω = bindL (g ρ ω) (k := ⟨fun xs ω1 => newLR xs.length ω1 (allD xs)⟩) := by
  unfold eNewL bindL newLR
  cases g ρ ω <;> rfl
theorem newLR_run {n : Nat} (h : n ≤ lim) : newLR n ω (some ds) = .ok (.own ω.length) (ω ++ [some (.lst ds)]) := by unfold newLR; dsimp only; rw [if_pos h]
theorem newLR_0 : newLR 0 ω (some ds) = .ok (.own ω.length) (ω ++ [some (.lst ds)]) := newLR_run (by decide)
theorem newLR_1 : newLR 1 ω (some ds) = .ok (.own ω.length) (ω ++ [some (.lst ds)]) := newLR_run (by decide)
end
section
variable {tg : FG} {b : FS} {d : D} {ds : List D} {ρ ρ1 ρ2 : Rho} {ω ω2 : Om}
theorem forL_next (h : tg d ρ = some ρ1) (h2 : b ρ1 ω = .next ρ2 ω2) : forL tg b (d :: ds) ρ ω = forL tg b ds ρ2 ω2 := by
  conv => lhs; unfold forL
  rw [h]; dsimp only; rw [h2]
theorem forL_exc {x : Exn} (h : tg d ρ = some ρ1) (h2 : b ρ1 ω = .exc x ρ2 ω2) : forL tg b (d :: ds) ρ ω = .exc x ρ2 ω2 := by
  conv => lhs; unfold forL
  rw [h]; dsimp only; rw [h2]
theorem forL_ret {x : SV} (h : tg d ρ = some ρ1) (h2 : b ρ1 ω = .ret x ω2) : forL tg b (d :: ds) ρ ω = .ret x ω2 := by
  conv => lhs; unfold forL
  rw [h]; dsimp only; rw [h2]
end
end Dl
namespace Dl
open PySem L2
mutual
/-- v is the key k, in the abstract heap -/
inductive NIs (K : PySem.W.Frag) (H : Hp) : NestedKey → V → Prop
  | bool {b : Bool} : NIs K H (.num (if b = true then 1 else 0)) (.bl b)
  | int (i : Int) : NIs K H (.num i) (.int i)
  | tup {a : Addr} {vs : List V} {ks : List NestedKey} (h : SqT K H a vs) (r : NAll K H ks vs) : NIs K H (.tup ks) (.ref a)
inductive NAll (K : PySem.W.Frag) (H : Hp) : List NestedKey → List V → Prop
  | nil : NAll K H [] []
  | cons {k : NestedKey} {v : V} {ks : List NestedKey} {vs : List V} (h : NIs K H k v) (r : NAll K H ks vs) : NAll K H (k :: ks) (v :: vs)
end
section
variable {X : Cx} {pins : List (Addr × Obj)} {σ : St} {H : Hp} {s : Shared}
mutual
theorem NIs.real (I : Inv X pins σ H s) : ∀ (k : NestedKey) (v : V) (u : Value), NIs X.K H k v → RelV v u → NestedIs s.heap k u
  | .num _, _, u, .bool, r => by cases (show u = Value.bool _ from r); exact .bool rfl
  | .num _, _, u, .int i, r => by obtain ⟨t, rfl⟩ := (show ∃ t, u = Value.int i t from r); exact .int i t
  | .tup ks, _, u, .tup (a := a) h q, r => by
    cases (show u = Value.ref a from r)
    obtain ⟨its, rv, ⟨o, ho, hc, n, hd⟩, _⟩ := I.tuple h
    exact .tup ho hc hd (by simpa using NAll.real I ks _ its q rv)
theorem NAll.real (I : Inv X pins σ H s) : ∀ (ks : List NestedKey) (vs : List V) (us : List Value), NAll X.K H ks vs → Vals vs us → NestedAll s.heap ks us
  | [], _, us, .nil, r => by cases r; exact .nil
  | k :: ks, _, us, .cons h q, r => by
    cases r with
    | cons r1 r2 => exact .cons (NIs.real I k _ _ h r1) (NAll.real I ks _ _ q r2)
end
end
section
variable {K : PySem.W.Frag} {mg : MG} {G H : Hp}
mutual
theorem rep_nis (s : Same G H) : ∀ (n : Nat) (d : D) (v : V), keyOk n d = true → Rep K mg G d v → NIs K H (nk d) v ∧ (nk d).depth ≤ n
  | n, .int i, v, h, r => by rw [rep_int] at r; subst r; unfold nk; exact ⟨.int i, by unfold NestedKey.depth; omega⟩
  | n, .bl b, v, h, r => by rw [rep_bl] at r; subst r; unfold nk; exact ⟨.bool, by unfold NestedKey.depth; omega⟩
  | n + 1, .tup ds, v, h, r => by
    rw [rep_tup] at r
    obtain ⟨a, vs, rfl, q, r⟩ := r
    unfold keyOk at h
    obtain ⟨h1, h2⟩ := reps_nis s n ds vs h r
    unfold nk
    exact ⟨.tup (Same.sqT s q) h1, by unfold NestedKey.depth; omega⟩
  | 0, .tup ds, v, h, r => by unfold keyOk at h; cases h
  | n, .non, v, h, r => by unfold keyOk at h; cases h
  | n, .str _, v, h, r => by unfold keyOk at h; cases h
  | n, .lst _, v, h, r => by unfold keyOk at h; cases h
  | n, .obj _ _, v, h, r => by unfold keyOk at h; cases h
  | n, .dcK _, v, h, r => by unfold keyOk at h; cases h
  | n, .dcN _, v, h, r => by unfold keyOk at h; cases h
theorem reps_nis (s : Same G H) : ∀ (n : Nat) (ds : List D) (vs : List V), keyOk.keyOks n ds = true → Reps K mg G ds vs → NAll K H (nk.nks ds) vs ∧ NestedKey.depthAll (nk.nks ds) ≤ n
  | n, [], vs, h, r => by rw [reps_nil] at r; subst r; unfold nk.nks; exact ⟨.nil, by unfold NestedKey.depthAll; omega⟩
  | n, d :: ds, vs, h, r => by
    rw [reps_cons] at r
    obtain ⟨v, r', rfl, r1, r2⟩ := r
    unfold keyOk.keyOks at h
    obtain ⟨h1, h2⟩ := Bool.and_eq_true_iff.mp h
    obtain ⟨a1, b1⟩ := rep_nis s n d v h1 r1
    obtain ⟨a2, b2⟩ := reps_nis s n ds r' h2 r2
    unfold nk.nks
    exact ⟨.cons a1 a2, by unfold NestedKey.depthAll; omega⟩
end
end
mutual
theorem hash_key (w : World) : ∀ (n : Nat) (d : D), keyOk n d = true → (nk d).hash w = hashN (nk d)
  | n, .int i, h => by unfold nk hashN NestedKey.hash; rfl
  | n, .bl b, h => by unfold nk hashN NestedKey.hash; rfl
  | n + 1, .tup ds, h => by
    unfold keyOk at h
    unfold nk hashN NestedKey.hash
    rw [hash_keys w n ds h]
  | 0, .tup ds, h => by unfold keyOk at h; cases h
  | n, .non, h => by unfold keyOk at h; cases h
  | n, .str _, h => by unfold keyOk at h; cases h
  | n, .lst _, h => by unfold keyOk at h; cases h
  | n, .obj _ _, h => by unfold keyOk at h; cases h
  | n, .dcK _, h => by unfold keyOk at h; cases h
  | n, .dcN _, h => by unfold keyOk at h; cases h
theorem hash_keys (w : World) : ∀ (n : Nat) (ds : List D), keyOk.keyOks n ds = true → NestedKey.hashes w (nk.nks ds) = hashNs (nk.nks ds)
  | n, [], h => by unfold nk.nks hashNs NestedKey.hashes; rfl
  | n, d :: ds, h => by
    unfold keyOk.keyOks at h
    obtain ⟨h1, h2⟩ := Bool.and_eq_true_iff.mp h
    unfold nk.nks hashNs NestedKey.hashes
    rw [hash_key w n d h1, hash_keys w n ds h2]
end
end Dl
namespace Dl
open PySem L2
abbrev NEs := List (NestedKey × Addr × V)
abbrev NRel : NEs → List (NestedKey × Addr × Value) → Prop := Paired fun e x => e.1 = x.1 ∧ e.2.1 = x.2.1 ∧ RelV e.2.2 x.2.2
def nval (es : NEs) (k : NestedKey) : Option V := (es.find? fun e => decide (e.1 = k)).map (·.2.2)
def nput (es : NEs) (k : NestedKey) (b : Addr) (v : V) : NEs := if (nval es k).isSome = true then es.map (fun e => if e.1 = k then (e.1, e.2.1, v) else e) else es ++ [(k, b, v)]
structure NOk (K : PySem.W.Frag) (H : Hp) (k : NestedKey) (b : Addr) : Prop where
  is : NIs K H k (.ref b)
  dp : k.depth ≤ 8
  hs : ∀ w, k.hash w = hashN k
theorem NRel.val : ∀ {es : NEs} {xs : List (NestedKey × Addr × Value)} (k : NestedKey), NRel es xs → RelO (nval es k) ((atKey xs k).map (·.2))
  | _, _, k, .nil => trivial
  | e :: es, x :: xs, k, .cons r t => by
    have ih := NRel.val k t
    unfold nval atKey at ih ⊢
    rw [List.find?_cons, List.find?_cons, ← r.1]
    by_cases h : e.1 = k
    · simp only [decide_eq_true h]; exact r.2.2
    · simp only [decide_eq_false h]; exact ih
theorem NRel.map {k : NestedKey} {v : V} {u : Value} (rv : RelV v u) : ∀ {es : NEs} {xs : List (NestedKey × Addr × Value)}, NRel es xs → NRel (es.map fun e => if e.1 = k then (e.1, e.2.1, v) else e) (xs.map (putAt k u))
  | _, _, .nil => .nil
  | e :: es, x :: xs, .cons r t => by
    refine .cons ?_ (NRel.map rv t)
    unfold putAt
    rw [← r.1]
    dsimp only
    by_cases h : e.1 = k
    · rw [if_pos h, if_pos h]; exact ⟨rfl, r.2.1, rv⟩
    · rw [if_neg h, if_neg h]; exact r
theorem Paired.snoc {α β : Type} {F : α → β → Prop} {a : α} {b : β} (h : F a b) : ∀ {l : List α} {m : List β}, Paired F l m → Paired F (l ++ [a]) (m ++ [b])
  | _, _, .nil => .cons h .nil
  | _, _, .cons r t => .cons r (Paired.snoc h t)
theorem isSome_rel {o : Option V} {u : Option Value} (r : RelO o u) : o.isSome = u.isSome := RelO.isSome_eq r
theorem NRel.put {es : NEs} {xs : List (NestedKey × Addr × Value)} (r : NRel es xs) (k : NestedKey) (b : Addr) {v : V} {u : Value} (rv : RelV v u) : NRel (nput es k b v) (storedH xs k b u) := by
  have h := isSome_rel (r.val k)
  rw [Option.isSome_map] at h
  unfold nput storedH
  rw [h]
  cases (atKey xs k).isSome with
  | true => exact r.map rv
  | false => exact r.snoc ⟨rfl, rfl, rv⟩
theorem NRel.keys : ∀ {es : NEs} {xs : List (NestedKey × Addr × Value)}, NRel es xs → es.map (·.1) = xs.map (·.1)
  | _, _, .nil => rfl
  | e :: es, x :: xs, .cons r t => by rw [List.map_cons, List.map_cons, r.1, NRel.keys t]
section
variable {X : Cx} {pins : List (Addr × Obj)} {σ : St} {H : Hp} {s : Shared} {a b : Addr} {ep : Nat} {es : NEs} {k : NestedKey}
theorem NOk.key (I : Inv X pins σ H s) (h : NOk X.K H k b) : (nestedKind X.prog X.w).is s.heap k b := ⟨h.is.real I k _ _ rfl, h.dp⟩
theorem n_real (I : Inv X pins σ H s) (e : H a = some (dnO a ep es)) (ok : ∀ x ∈ es, NOk X.K H x.1 x.2.1) :
    ∃ (xs : List (NestedKey × Addr × Value)) (o : Obj) (ens : Array DictEntry), NRel es xs ∧ (a == sysModules) = false ∧ xs.length ≤ sizeLine ∧ s.heap.get? a = some o ∧ o.ExactDict ∧ o.data = .dict ens ep ∧ s.heap.DictOfH (nestedKind X.prog X.w) a xs ∧ ens.toList = xs.map (entryOfKey (nestedKind X.prog X.w)) := by
  obtain ⟨⟨hs, hl, nd, xs, r, o, ens, ho, hx, hd, he⟩, _, _⟩ := (I.hok a _ e : ObjOk X.prog X.w H s.heap a (dnO a ep es))
  have memx : ∀ {es : NEs} {xs : List (NestedKey × Addr × Value)}, NRel es xs → ∀ x ∈ xs, ∃ y ∈ es, y.1 = x.1 ∧ y.2.1 = x.2.1 := by
    intro es xs r
    induction r with
    | nil => intro x hx; cases hx
    | cons r t ih =>
      intro x hx
      rcases List.mem_cons.mp hx with rfl | hx
      · exact ⟨_, List.mem_cons_self, r.1, r.2.1⟩
      · obtain ⟨y, hy, q⟩ := ih x hx
        exact ⟨y, List.mem_cons_of_mem _ hy, q⟩
  have keys : ∀ x ∈ xs, (nestedKind X.prog X.w).is s.heap x.1 x.2.1 ∧ (nestedKind X.prog X.w).hash x.1 = hashN x.1 := fun x hx => by
    obtain ⟨y, hy, q1, q2⟩ := memx r x hx
    rw [← q1, ← q2]
    exact ⟨(ok y hy).key I, (ok y hy).hs X.w⟩
  have nd' : (xs.map (·.1)).Nodup := by
    rw [← NRel.keys r]; exact nd
  have he' : ens.toList = xs.map (entryOfKey (nestedKind X.prog X.w)) := by
    rw [he]
    apply List.map_congr_left
    intro x hx
    unfold entryOfKey
    rw [(keys x hx).2]
  exact ⟨xs, o, ens, r, hs, by rw [← Paired.length r]; exact hl, ho, hx, hd, ⟨o, ens, ep, ho, hx, hd, he', fun x hx => (keys x hx).1, nd'⟩, he'⟩
theorem room8 {A : Around} (hu : A.units + 20 < cLine) : (nestedKind X.prog X.w).room A.in1 := by
  show A.units + 1 + 8 < cLine
  omega
theorem nput_len (es : NEs) (k : NestedKey) (b : Addr) (v : V) : (nput es k b v).length ≤ es.length + 1 := by
  unfold nput; split <;> simp
theorem nput_keys (es : NEs) (k : NestedKey) (b : Addr) (v : V) (h : (es.map (·.1)).Nodup) : ((nput es k b v).map (·.1)).Nodup := by
  unfold nput
  split
  · rw [List.map_map]
    have : ((fun e : NestedKey × Addr × V => e.1) ∘ fun e => if e.1 = k then (e.1, e.2.1, v) else e) = (·.1) := by
      funext e; simp only [Function.comp]; split <;> rfl
    rw [this]; exact h
  · rename_i hn
    rw [List.map_append, List.nodup_append]
    refine ⟨h, by simp, fun x hx y hy => ?_⟩
    simp at hy; subst hy
    intro e; subst e
    apply hn
    obtain ⟨p, hp, e⟩ := List.mem_map.mp hx
    unfold nval
    rw [Option.isSome_map, List.find?_isSome]
    exact ⟨p, hp, decide_eq_true e⟩
theorem nput_mem {es : NEs} {v : V} {x : NestedKey × Addr × V} (h : x ∈ nput es k b v) : (∃ y ∈ es, y.1 = x.1 ∧ y.2.1 = x.2.1) ∨ (x.1 = k ∧ x.2.1 = b) := by
  unfold nput at h
  split at h
  · obtain ⟨y, hy, rfl⟩ := List.mem_map.mp h
    refine .inl ⟨y, hy, ?_⟩
    split <;> exact ⟨rfl, rfl⟩
  · rcases List.mem_append.mp h with h | h
    · exact .inl ⟨x, h, rfl, rfl⟩
    · simp at h; subst h; exact .inr ⟨rfl, rfl⟩
variable {A : Around} {E : Value → Shared → Prop}
theorem n_get2 {Q : Value → Shared → Prop} {d : V} {r : Value} (hu : A.units + 20 < cLine) (I : Inv X pins σ H s) (e : H a = some (dnO a ep es)) (ok : ∀ x ∈ es, NOk X.K H x.1 x.2.1) (hk : NOk X.K H k b) (rd : RelV d r) (h : ∀ w' s', Inv X pins σ H s' → RelV ((nval es k).getD d) w' → Q w' s') :
    wpAny (model X.prog X.w) A (call (.builtin "dict.get") [.ref a, .ref b, r]) Q E s := by
  obtain ⟨xs, o, ens, rel, hs, hl, ho, hx, hd, dd, _⟩ := n_real I e ok
  refine getOr_keyed (room8 hu) (hk.key I) hs ⟨xs, dd, rfl⟩ (h _ _ (I.tok _) ?_)
  rw [valueAt_pairsH]
  exact (rel.val k).getD rd
theorem dn_ok {P : Program} {w : World} {H' : Hp} {h' : Heap} {xs : List (NestedKey × Addr × Value)} {o : Obj} {ens : Array DictEntry} (hs : (a == sysModules) = false) (hl : es.length ≤ sizeLine) (nd : (es.map (·.1)).Nodup) (rel : NRel es xs) (hh : ∀ x ∈ es, ∀ w, x.1.hash w = hashN x.1)
    (ho : h'.get? a = some o) (hx : o.ExactDict) (hd : o.data = .dict ens ep) (he : ens.toList = xs.map (entryOfKey (nestedKind P w))) : ObjOk P w H' h' a (dnO a ep es) := by
  refine ⟨⟨hs, hl, nd, xs, rel, o, ens, ho, hx, hd, ?_⟩, ⟨o, ho⟩, fun h1 h2 q k => ?_⟩
  · rw [he]
    have memx : ∀ {es : NEs} {xs : List (NestedKey × Addr × Value)}, NRel es xs → (∀ x ∈ es, ∀ w, x.1.hash w = hashN x.1) → ∀ x ∈ xs, x.1.hash w = hashN x.1 := by
      intro es xs r
      induction r with
      | nil => intro _ x hx; cases hx
      | cons r t ih =>
        intro hh x hx
        rcases List.mem_cons.mp hx with rfl | hx
        · rw [← r.1]; exact hh _ List.mem_cons_self w
        · exact ih (fun y hy => hh y (List.mem_cons_of_mem _ hy)) x hx
    apply List.map_congr_left
    intro x hx
    unfold entryOfKey
    rw [show (nestedKind P w).hash x.1 = hashN x.1 from memx rel hh x hx]
  · obtain ⟨q1, q2, q3, ys, q4, o', en', q5, q6⟩ := q
    exact ⟨q1, q2, q3, ys, q4, o', en', k _ q5, q6⟩
theorem n_setItem {Q : Unit → Shared → Prop} {v : V} {r : Value} (hu : A.units + 20 < cLine) (I : Inv X pins σ H s) (e : H a = some (dnO a ep es)) (ok : ∀ x ∈ es, NOk X.K H x.1 x.2.1) (hk : NOk X.K H k b) (hl : es.length < sizeLine) (rv : RelV v r)
    (h : ∀ ep' s', Inv X pins σ (L2.upd H a (dnO a ep' (nput es k b v))) s' → Q () s') : wpAny (model X.prog X.w) A (setItem (.ref a) (.ref b) r) Q E s := by
  obtain ⟨xs, o, ens, rel, hs, hl', ho, hx, hd, dd, _⟩ := n_real I e ok
  have nd : (es.map (·.1)).Nodup := ((I.hok a _ e : ObjOk X.prog X.w H s.heap a (dnO a ep es)).1).2.2.1
  refine wpAny_setItem_heap (hsz := hl') (room8 hu) (hk.key I) dd fun h' dd' sb => ?_
  obtain ⟨q, ens', ep', hq, h2, h3, h4, _, h5⟩ := dd'
  refine h ep' _ (d_write I (by rw [e]; exact True.intro) sb ⟨q, hq⟩ ?_)
  refine dn_ok hs (by have := nput_len es k b v; omega) (nput_keys es k b v nd) (rel.put k b rv) (fun x hx' w => ?_) hq h2 h3 h4
  rcases nput_mem hx' with ⟨y, hy, q1, _⟩ | ⟨q1, _⟩
  · rw [← q1]; exact (ok y hy).hs w
  · rw [q1]; exact hk.hs w
end
end Dl
namespace Dl
open PySem L2
abbrev KVs := List (D × D)
def dnGet (kvs : KVs) (k : NestedKey) : Option D := (kvs.find? fun p => decide (nk p.1 = k)).map (·.2)
def dnPut (kvs : KVs) (k v : D) : KVs := if (dnGet kvs (nk k)).isSome = true then kvs.map (fun p => if nk p.1 = nk k then (p.1, v) else p) else kvs ++ [(k, v)]
section
variable {K : PySem.W.Frag} {mg : MG} {G H : Hp}
theorem repN_ok (s : Same G H) : ∀ {kvs : KVs} {es : NEs}, RepN K mg G kvs es → ∀ x ∈ es, NOk K H x.1 x.2.1
  | [], es, r, x, hx => by rw [repN_nil] at r; subst r; cases hx
  | (k, d) :: kvs, es, r, x, hx => by
    rw [repN_cons] at r
    obtain ⟨b, v, r', rfl, ok, r1, r2, r3⟩ := r
    rcases List.mem_cons.mp hx with rfl | hx
    · obtain ⟨h1, h2⟩ := rep_nis s 8 k _ ok r1
      exact ⟨h1, h2, fun w => hash_key w 8 k ok⟩
    · exact repN_ok s r3 x hx
theorem repN_len : ∀ {kvs : KVs} {es : NEs}, RepN K mg G kvs es → es.length = kvs.length
  | [], es, r => by rw [repN_nil] at r; subst r; rfl
  | (k, d) :: kvs, es, r => by
    rw [repN_cons] at r
    obtain ⟨b, v, r', rfl, ok, r1, r2, r3⟩ := r
    rw [List.length_cons, List.length_cons, repN_len r3]
theorem repN_val (k : NestedKey) : ∀ {kvs : KVs} {es : NEs}, RepN K mg G kvs es → match dnGet kvs k with
    | none => nval es k = none
    | some d => ∃ v, nval es k = some v ∧ Rep K mg G d v
  | [], es, r => by rw [repN_nil] at r; subst r; rfl
  | (q, d) :: kvs, es, r => by
    rw [repN_cons] at r
    obtain ⟨b, v, r', rfl, ok, r1, r2, r3⟩ := r
    have ih := repN_val k r3
    unfold dnGet nval at ih ⊢
    rw [List.find?_cons, List.find?_cons]
    by_cases h : nk q = k
    · simp only [decide_eq_true h]; exact ⟨v, rfl, r2⟩
    · simp only [decide_eq_false h]; exact ih
theorem repN_some (k : NestedKey) {kvs : KVs} {es : NEs} (r : RepN K mg G kvs es) : (nval es k).isSome = (dnGet kvs k).isSome := by
  have h := repN_val k r
  cases q : dnGet kvs k with
  | none => rw [q] at h; dsimp only at h; rw [h]; rfl
  | some d => rw [q] at h; obtain ⟨v, h, _⟩ := h; rw [h]; rfl
theorem repN_map {k d : D} {v : V} (rv : Rep K mg G d v) : ∀ {kvs : KVs} {es : NEs}, RepN K mg G kvs es → RepN K mg G (kvs.map fun p => if nk p.1 = nk k then (p.1, d) else p) (es.map fun e => if e.1 = nk k then (e.1, e.2.1, v) else e)
  | [], es, r => by rw [repN_nil] at r; subst r; rw [List.map_nil, List.map_nil, repN_nil]
  | (q, x) :: kvs, es, r => by
    rw [repN_cons] at r
    obtain ⟨b, u, r', rfl, ok, r1, r2, r3⟩ := r
    rw [List.map_cons, List.map_cons]
    dsimp only
    by_cases h : nk q = nk k
    · rw [if_pos h, if_pos h, repN_cons]
      exact ⟨b, v, _, rfl, ok, r1, rv, repN_map rv r3⟩
    · rw [if_neg h, if_neg h, repN_cons]
      exact ⟨b, u, _, rfl, ok, r1, r2, repN_map rv r3⟩
theorem repN_snoc {k d : D} {b : Addr} {v : V} (ok : keyOk 8 k = true) (rk : Rep K mg G k (.ref b)) (rv : Rep K mg G d v) : ∀ {kvs : KVs} {es : NEs}, RepN K mg G kvs es → RepN K mg G (kvs ++ [(k, d)]) (es ++ [(nk k, b, v)])
  | [], es, r => by
    rw [repN_nil] at r; subst r
    rw [List.nil_append, List.nil_append, repN_cons]
    exact ⟨b, v, [], rfl, ok, rk, rv, repN_nil.mpr rfl⟩
  | (q, x) :: kvs, es, r => by
    rw [repN_cons] at r
    obtain ⟨c, u, r', rfl, ok', r1, r2, r3⟩ := r
    rw [List.cons_append, List.cons_append, repN_cons]
    exact ⟨c, u, _, rfl, ok', r1, r2, repN_snoc ok rk rv r3⟩
theorem repN_put {k d : D} {b : Addr} {v : V} {kvs : KVs} {es : NEs} (ok : keyOk 8 k = true) (rk : Rep K mg G k (.ref b)) (rv : Rep K mg G d v) (r : RepN K mg G kvs es) : RepN K mg G (dnPut kvs k d) (nput es (nk k) b v) := by
  unfold dnPut nput
  rw [repN_some (nk k) r]
  cases (dnGet kvs (nk k)).isSome with
  | true => exact repN_map rv r
  | false => exact repN_snoc ok rk rv r
theorem rep_key (s : Same G H) {k : D} {v : V} (ok : keyOk 8 k = true) (ht : ∃ ds, k = .tup ds) (r : Rep K mg G k v) : ∃ b, v = .ref b ∧ NOk K H (nk k) b ∧ Rep K mg G k (.ref b) := by
  obtain ⟨h1, h2⟩ := rep_nis s 8 k v ok r
  obtain ⟨ds, rfl⟩ := ht
  rw [rep_tup] at r
  obtain ⟨a, vs, rfl, q, r⟩ := r
  exact ⟨a, rfl, ⟨h1, h2, fun w => hash_key w 8 _ ok⟩, rep_tup.mpr ⟨a, vs, rfl, q, r⟩⟩
end
def isKey : D → Bool
  | .tup ds => keyOk 8 (.tup ds)
  | _ => false
theorem isKey_eq {d : D} (h : isKey d = true) : keyOk 8 d = true ∧ ∃ ds, d = .tup ds := by
  cases d with
  | tup ds => exact ⟨h, ds, rfl⟩
  | _ => cases h
def IsN (H : Hp) (a : Addr) : Prop := ∃ ep es, H a = some (dnO a ep es)
theorem isN_at {X : Cx} {pins : List (Addr × Obj)} {σ : St} {H : Hp} {s : Shared} {a : Addr} (I : Inv X pins σ H s) (d : IsN H a) :
    s.TypeIs (.ref a) "dict" ∧ (∀ b, Value.ref a = .ref b → ∃ ob, s.heap.get? b = some ob ∧ ob.dict = none) ∧ (a == sysModules) = false := by
  obtain ⟨ep, es, e⟩ := d
  obtain ⟨⟨hs, hl, nd, xs, r, o, ens, ho, hx, hd, he⟩, _, _⟩ := (I.hok a _ e : ObjOk X.prog X.w H s.heap a (dnO a ep es))
  refine ⟨⟨o, ho, hx.1⟩, fun b q => ?_, hs⟩
  cases q
  exact ⟨o, ho, hx.2.1⟩
structure NAt (K : PySem.W.Frag) (H : Hp) (a : Addr) (ep : Nat) (es : NEs) : Prop where
  at_ : H a = some (dnO a ep es)
  ok : ∀ x ∈ es, NOk K H x.1 x.2.1
def tNGet2 (K : PySem.W.Frag) (td ty tx : TE) : TE := fun σ H Q => td σ H fun x H1 => ∃ a, x = .ref a ∧ IsN H1 a ∧ ty σ H1 fun y H2 => tx σ H2 fun z H3 => ∃ ep es k b, NAt K H3 a ep es ∧ y = .ref b ∧ NOk K H3 k b ∧ Q ((nval es k).getD z) H3
section
variable {X : Cx} {W : WX} {o e f : Expr} {apos cpos pos : Pos} {td ty tx : TE}
theorem pe_nget2 (hu : X.A.units + 20 < cLine) (ho : PE X o td) (he : PE X e ty) (hf : PE X f tx) (m : M2 X o "get" apos e f cpos) : PE X (.Call (.Attribute o "get" apos) [e, f] [] cpos) (tNGet2 X.K td ty tx) := by
  refine ⟨fun pins s σ H Q I h => ?_⟩
  refine wpAny_Call_method m.base m.few m.line PySem.F.plainAttrs_dict PySem.F.slot_dict_get PySem.F.type_dict_get (thn (ho.run pins s σ H _ I h) fun u s1 ⟨x, H1, I1, rx, a, ex, d, q1⟩ => ?_)
  subst ex
  obtain rfl : u = Value.ref a := rx
  obtain ⟨t1, t2, _⟩ := isN_at I1 d
  refine ⟨t1, t2, ?_⟩
  rw [m.trees]
  refine Calls.callWith_builtin rfl (Calls.evalArgs_plain (Calls.spliced_cons (thn (he.run pins s1 σ H1 _ I1 q1) fun iv s2 ⟨y, H2, I2, ry, q2⟩ =>
    Calls.spliced_cons (thn (hf.run pins s2 σ H2 _ I2 q2) fun fv s3 ⟨z, H3, I3, rz, ep, es, k, b, na, ey, hk, q3⟩ => Calls.spliced_nil ?_))))
  subst ey
  obtain rfl : iv = Value.ref b := ry
  exact n_get2 hu I3 na.at_ na.ok hk rz fun w' s4 I4 rw' => ⟨_, H3, I4, rw', q3⟩
def nGet (kvs : KVs) (k x : D) : Option D := if isKey k = true then some ((dnGet kvs (nk k)).getD x) else none
def asN : D → Option KVs
  | .dcN kvs => some kvs
  | _ => none
def eNGet (fd fk fx : FE D) : FE D := fun ρ ω => (fd ρ ω).bind fun d ω1 => match asN d with
  | none => .stuck
  | some kvs => (fk ρ ω1).bind fun k ω2 => (fx ρ ω2).bind fun x ω3 => Res.lift (nGet kvs k x) ω3
theorem nget_post {K : PySem.W.Frag} {mg : MG} {G H : Hp} {α : List Addr} {ω : Om} {Q : VK} {E : XK} {kvs : KVs} {k x : D} {a : Addr} {ep : Nat} {es : NEs} {vk vx : V} (O : Own K mg G α ω H) (ha : H a = some (dnO a ep es)) (r : RepN K mg G kvs es) (rk : Rep K mg G k vk) (rx : Rep K mg G x vx)
    (P : Post K mg (RD K mg) G α H Q E (Res.lift (nGet kvs k x) ω)) : ∃ ep es k b, NAt K H a ep es ∧ vk = .ref b ∧ NOk K H k b ∧ Q ((nval es k).getD vx) H := by
  obtain ⟨y, e, P⟩ := P.lift
  unfold nGet at e
  split at e
  · rename_i hk
    cases e
    obtain ⟨ok, ht⟩ := isKey_eq hk
    obtain ⟨b, rfl, hb, _⟩ := rep_key O.sub ok ht rk
    refine ⟨ep, es, nk k, b, ⟨ha, repN_ok O.sub r⟩, rfl, hb, Post.here O ?_ P⟩
    have h := repN_val (nk k) r
    cases q : dnGet kvs (nk k) with
    | none => rw [q] at h; dsimp only at h; rw [h]; exact rx
    | some d => rw [q] at h; obtain ⟨v, h, h2⟩ := h; rw [h]; exact h2
  · cases e
def ownN (ω : Om) (k : Nat) : Option KVs := match ω[k]? with
  | some (some (.dcN kvs)) => some kvs
  | _ => none
theorem ownN_eq {ω : Om} {k : Nat} {kvs : KVs} (h : ownN ω k = some kvs) : ω[k]? = some (some (.dcN kvs)) := by
  unfold ownN at h
  split at h
  · rename_i q; cases h; exact q
  · cases h
def eNGetO (i : Nat) (fk fx : FE D) : FE D := fun ρ ω => match ownK ρ i with
  | none => .stuck
  | some j => match ownN ω j with
    | none => .stuck
    | some _ => (fk ρ ω).bind fun k ω2 => (fx ρ ω2).bind fun x ω3 => match ownN ω3 j with
      | some kvs => Res.lift (nGet kvs k x) ω3
      | none => .stuck
theorem de_ngetO (i : Nat) {x : Str} {p1 : Pos} {fk fx : FE D} (hr : Room 0 X.A) (jk : De X W e fk) (jx : De X W f fx) (hN : X.N[i]? = some x := by rfl) (hv : Vis X.env.scope x := by first | exact Or.inl rfl | exact Or.inr (Or.inl rfl) | exact Or.inr (Or.inr rfl)) (hd : (x == ("__debug__" : Str)) = false := by decide)
    (hcd : (x == ("__classdict__" : Str)) = false := by decide) (m : M2 X (.Name x p1) "get" apos e f cpos := by exact ⟨rfl, rfl, rfl, rfl⟩) : De X W (.Call (.Attribute (.Name x p1) "get" apos) [e, f] [] cpos) (eNGetO i fk fx) := by
  obtain ⟨tk, pk, kk⟩ := jk
  obtain ⟨tx, px, kx⟩ := jx
  refine ⟨_, pe_nget2 (by have := hr.un; omega) (pe_var (pos := p1) hN hv hd hcd) pk px m, fun G α ρ ω σ H Q O S P => ?_⟩
  unfold eNGetO at P
  cases q : ownK ρ i with
  | none => rw [q] at P; exact P.elim
  | some j =>
    rw [q] at P
    dsimp only at P
    obtain ⟨v, h1, a, h2, rfl⟩ := S.val i _ (ownK_eq q)
    cases q0 : ownN ω j with
    | none => rw [q0] at P; exact P.elim
    | some kv0 =>
      rw [q0] at P
      dsimp only at P
      obtain ⟨_, ep0, es0, h3, _⟩ := O.obj j _ a (ownN_eq q0) h2
      refine ⟨_, h1, a, rfl, ⟨ep0, es0, h3⟩, ?_⟩
      refine Post.step (t := tk σ H) (kk G α ρ ω σ H · O S) P fun k ω2 v2 G2 α2 H2 e2 O2 r2 P2 => ?_
      refine Post.step (t := tx σ H2) (kx G2 α2 ρ ω2 σ H2 · O2 (S.mono e2)) P2 fun x ω3 v3 G3 α3 H3 e3 O3 r3 P3 => ?_
      cases q3 : ownN ω3 j with
      | none => rw [q3] at P3; exact P3.elim
      | some kvs =>
        rw [q3] at P3
        dsimp only at P3
        obtain ⟨_, e3', _⟩ := e3.pre
        obtain ⟨m2, e2', _⟩ := e2.pre
        have ha : α3[j]? = some a := by
          rw [e3', e2', List.append_assoc, List.getElem?_append_left (List.getElem?_eq_some_iff.mp h2).1]
          exact h2
        obtain ⟨_, ep, es, h4, rn⟩ := O3.obj j _ a (ownN_eq q3) ha
        exact nget_post O3 h4 rn (Rep.mono e3.g _ _ r2) r3 P3
end
def dkGet (kvs : List (Key × D)) (k : Key) : Option D := (kvs.find? fun p => decide (p.1 = k)).map (·.2)
def dkPut (kvs : List (Key × D)) (k : Key) (v : D) : List (Key × D) := if (dkGet kvs k).isSome = true then kvs.map (fun p => if p.1 = k then (p.1, v) else p) else kvs ++ [(k, v)]
def keyK : D → Option Key
  | .int i => some (.inl i)
  | .str x => some (.inr x)
  | _ => none
section
variable {K : PySem.W.Frag} {mg : MG} {G H : Hp}
theorem keyK_rep {d : D} {k : Key} {v : V} (h : keyK d = some k) (r : Rep K mg G d v) : v = kV k := by
  cases d with
  | int i => cases h; exact rep_int.mp r
  | str x => cases h; exact rep_str.mp r
  | _ => cases h
theorem repK_val (k : Key) : ∀ {kvs : List (Key × D)} {kv : List (Key × V)}, RepK K mg G kvs kv → match dkGet kvs k with
    | none => valV kv k = none
    | some d => ∃ v, valV kv k = some v ∧ Rep K mg G d v
  | [], kv, r => by rw [repK_nil] at r; subst r; rfl
  | (q, d) :: kvs, kv, r => by
    rw [repK_cons] at r
    obtain ⟨v, r', rfl, r2, r3⟩ := r
    have ih := repK_val k r3
    unfold dkGet valV at ih ⊢
    rw [List.find?_cons, List.find?_cons]
    by_cases h : q = k
    · simp only [decide_eq_true h]; exact ⟨v, rfl, r2⟩
    · simp only [decide_eq_false h]; exact ih
end
section
variable {X : Cx} {W : WX}
def opIn2 (neg : Bool) (x y : D) : Option D := match y with
  | .dcN kvs => if isKey x = true then some (.bl (if neg then !(dnGet kvs (nk x)).isSome else (dnGet kvs (nk x)).isSome)) else none
  | .dcK kvs => (keyK x).map fun k => .bl (if neg then !(dkGet kvs k).isSome else (dkGet kvs k).isSome)
  | _ => opIn neg x y
end
end Dl
namespace Dl
open PySem L2
def Itn (K : PySem.W.Frag) (a : Addr) (ep : Nat) (es : NEs) : It :=
  ⟨fun i H => NAt K H a ep es ∧ i < es.length, fun i H v H' => ∃ T k b u, es[i]? = some (k, b, u) ∧ v = .ref T ∧ H T = none ∧ H' = L2.upd H T (.tup [.ref b, u]), fun i H => NAt K H a ep es ∧ es.length ≤ i⟩
section
variable {X : Cx} {pins : List (Addr × Obj)} {σ : St} {H : Hp} {s : Shared} {a : Addr} {ep : Nat} {es : NEs}
theorem n_raw (I : Inv X pins σ H s) (na : NAt X.K H a ep es) : ∃ ens : Array DictEntry, (a == sysModules) = false ∧ s.heap.DictRaw a ens ep ∧ ens.size = es.length ∧ ∀ (i : Nat) (k : NestedKey) (b : Addr) (u : V), es[i]? = some (k, b, u) → ∃ hi : i < ens.size, ens[i].key = .ref b ∧ RelV u ens[i].val := by
  obtain ⟨xs, o, ens, rel, hs, hl, ho, hx, hd, dd, he⟩ := n_real I na.at_ na.ok
  have hsz : ens.size = es.length := by
    have : ens.toList.length = xs.length := by rw [he, List.length_map]
    rw [Array.length_toList] at this
    rw [this, Paired.length rel]
  refine ⟨ens, hs, ⟨o, ho, hx, hd⟩, hsz, fun i k b u hi => ?_⟩
  have hlt : i < es.length := (List.getElem?_eq_some_iff.mp hi).1
  have getx : ∀ {es : NEs} {xs : List (NestedKey × Addr × Value)}, NRel es xs → ∀ (i : Nat) (k : NestedKey) (b : Addr) (u : V), es[i]? = some (k, b, u) → ∃ v, xs[i]? = some (k, b, v) ∧ RelV u v := by
    intro es xs r
    induction r with
    | nil => intro i k b u h; simp at h
    | @cons e x es xs r t ih =>
      intro i k b u h
      cases i with
      | zero =>
        simp at h; subst h
        obtain ⟨x1, x2, x3⟩ := x
        obtain ⟨r1, r2, r3⟩ := r
        dsimp only at r1 r2 r3
        subst r1 r2
        exact ⟨x3, rfl, r3⟩
      | succ j => obtain ⟨v, h1, h2⟩ := ih j k b u (by simpa using h); exact ⟨v, by simpa using h1, h2⟩
  obtain ⟨v, h1, h2⟩ := getx rel i k b u hi
  have h3 := entry_at he i
  rw [h1] at h3
  have hi' : i < ens.size := by rw [hsz]; exact hlt
  rw [Array.getElem?_eq_getElem hi'] at h3
  have h4 := Option.some.inj h3
  exact ⟨hi', by rw [h4]; rfl, by rw [h4]; exact h2⟩
end
section
variable {P : Program} {w : World} {K : PySem.W.Frag} {a : Addr} {ep : Nat} {es : NEs} {tg : Expr}
theorem turn_nitems {elts : List Expr} {kk : Nat} {tpos : Pos} (it : Addr) : Turn P w K (.Tuple elts kk tpos) (Itn K a ep es) [it] it (fun i h => ∃ ok ov, IsItemIter h it a i es.length ep ok ov) where
  mem := by simp
  obj := fun i h st b hb => by
    have e : b = it := by simpa using hb
    subst e
    obtain ⟨ok, ov, e⟩ := st
    exact ⟨_, e, fun v z => nomatch z⟩
  keep := fun i h h' st k => let ⟨ok, ov, e⟩ := st; ⟨ok, ov, k it (by simp) _ e⟩
  item := by
    intro X hP hw hK hc i pins s σ H E I hf st hg
    subst hP hw hK
    obtain ⟨na, hi⟩ := hg
    obtain ⟨ens, hs, raw, hsz, ent⟩ := n_raw I na
    obtain ⟨⟨k, b, u⟩, hkv⟩ : ∃ p, es[i]? = some p := ⟨es[i], List.getElem?_eq_getElem hi⟩
    obtain ⟨hi', ekey, eval⟩ := ent i k b u hkv
    obtain ⟨ok, ov, he⟩ := st
    rw [← hsz] at he
    have hlt : it < s.heap.objs.size := Heap.lt_size he
    refine wpAny_pyNext_items_item_raw he raw hi' fun h' ho hT hz hk => ?_
    refine ⟨_, rfl, wpAny_letOwnedTupleGo_items (s := { s with heap := h' }) ho fun h'' he' sb => ?_⟩
    have hT2 : h''.get? s.heap.objs.size = some { cls := .type "tuple", data := .seq #[ens[i].key, ens[i].val] } := (sb.2 _ (Nat.ne_of_gt hlt)).trans hT
    have new : ObjOk X.prog X.w (L2.upd H s.heap.objs.size (.tup [.ref b, u])) h'' s.heap.objs.size (.tup [.ref b, u]) :=
      ⟨by show 2 ≤ sizeLine; decide, [ens[i].key, ens[i].val], .cons (by rw [ekey]; rfl) (.cons eval .nil), ⟨_, hT2, rfl, _, rfl⟩⟩
    have I1 : Inv X pins σ (L2.upd H s.heap.objs.size (.tup [.ref b, u])) { s with heap := h'' } :=
      I.turnedNew (t' := s.toks) (ch := [it]) (fun c ob hb e => (sb.2 c (by simpa using hb)).trans (hk c ob (by simpa using hb) e)) hf (Nat.le_refl _) new
    refine ⟨.ref s.heap.objs.size, _, I1, rfl, ⟨_, k, b, u, hkv, rfl, I.hok.fresh (Nat.le_refl _), rfl⟩, ⟨ens[i].key, ens[i].val, ?_⟩, fun c hb => ?_⟩
    · rw [← hsz]; exact he'
    · have e : c = it := by simpa using hb
      rw [e, upd_ne (Nat.ne_of_lt hlt)]
      exact (hf it (by simp)).1
  done := by
    intro X hP hw hK hc i pins s σ H E I hf st hg
    subst hP hw hK
    obtain ⟨na, hi⟩ := hg
    obtain ⟨f0, f1, f2, f3, f4, f5⟩ := hf it (by simp)
    obtain ⟨ens, hs, raw, hsz, ent⟩ := n_raw I na
    obtain ⟨ok, ov, he⟩ := st
    rw [← hsz] at he
    exact wpAny_pyNext_items_end_raw (I.ok.hd hc) he raw (by rw [hsz]; exact hi) fun h' eb => ⟨rfl, I.turned (t' := s.toks) (fun b ob hb e => eb b ob hb e) f0 f1 f3 f4 f5⟩
  self := fun A i s Q E st h => let ⟨_, _, e⟩ := st; PySem.W.kcp_self e h
end
def iNItems (K : PySem.W.Frag) (td : TE) : TI := fun σ H R => td σ H fun x H1 => ∃ a ep es, x = .ref a ∧ NAt K H1 a ep es ∧ R (Itn K a ep es) H1
section
variable {X : Cx} {W : WX} {tg e : Expr} {td : TE} {apos cpos : Pos}
theorem pi_nitems {elts : List Expr} {kk : Nat} {tpos : Pos} (he : PE X e td) (hbase : attributeBase e "items" X.env (eval e X.env) = eval e X.env := by rfl) (hline : (apos.endLine == cpos.line) = true := by rfl) :
    PI X (.Tuple elts kk tpos) (.Call (.Attribute e "items" apos) [] [] cpos) (iNItems X.K td) := by
  refine ⟨fun pins s σ H R I h => ?_⟩
  refine wpAny_Call_method (T := "dict") (id := "dict.items") hbase rfl hline F.plainAttrs_dict F.slot_dict_items F.type_dict_items (thn (he.run pins s σ H _ I h) fun u s1 ⟨x, H1, I1, rx, d, ep, es, ex, na, q⟩ => ?_)
  subst ex
  obtain rfl : u = Value.ref d := rx
  obtain ⟨t1, t2, _⟩ := isN_at I1 ⟨ep, es, na.at_⟩
  obtain ⟨ens, hs, raw, hsz, ent⟩ := n_raw I1 na
  refine ⟨t1, t2, ?_⟩
  have I2 : Inv X pins σ H1 { s1 with heap := s1.heap.push { cls := .type "dict_items", data := .fields #[.ref d] } } := I1.kept (t' := s1.toks) fun b ob q => Heap.get?_push_of_some _ q
  have fin : wpAny (model X.prog X.w) X.A (pyIter (.ref s1.heap.objs.size)) (PIE X pins σ (.Tuple elts kk tpos) R) X.xe { s1 with heap := s1.heap.push { cls := .type "dict_items", data := .fields #[.ref d] } } := by
    refine wpAny_pyIter_items_raw (d := d) (es := ens) (ep := ep) ⟨_, Heap.get?_push_size _ rfl, rfl, rfl⟩ (raw.at fun o q => Heap.get?_push_of_some _ q) (pi_one (tk := s1.toks) I2 _ (turn_nitems _) ⟨.none, .none, ?_⟩ q)
    rw [← hsz]
    exact Heap.get?_push_size _ rfl
  show wpAny _ _ (callWith cpos (.builtin "dict.items") [.ref d] [] []) _ X.xe s1
  exact method_meetsIn F.slot_dict_items F.entry_dict_items rfl (PySem.evalArgs_none ⟨rfl, t1, F.args_dict_items_1 _, _, meets_dict_items_raw d hs, ⟨ens, ep, raw⟩, fin⟩)
theorem repN_get {K : PySem.W.Frag} {mg : MG} {G : Hp} : ∀ {kvs : KVs} {es : NEs} {i : Nat} {p : D × D}, RepN K mg G kvs es → kvs[i]? = some p → ∃ b v, es[i]? = some (nk p.1, b, v) ∧ Rep K mg G p.1 (.ref b) ∧ Rep K mg G p.2 v
  | [], es, i, p, r, h => by simp at h
  | (k, d) :: kvs, es, 0, p, r, h => by
    rw [repN_cons] at r
    obtain ⟨b, v, r', rfl, ok, r1, r2, r3⟩ := r
    simp at h; subst h
    exact ⟨b, v, rfl, r1, r2⟩
  | (k, d) :: kvs, es, i + 1, p, r, h => by
    rw [repN_cons] at r
    obtain ⟨b, v, r', rfl, ok, r1, r2, r3⟩ := r
    obtain ⟨b', v', h1, h2⟩ := repN_get (i := i) (p := p) r3 (by simpa using h)
    exact ⟨b', v', by simpa using h1, h2⟩
def itemsD (kvs : KVs) : List D := kvs.map fun p => .tup [p.1, p.2]
theorem walk_n {K : PySem.W.Frag} {mg : MG} {a : Addr} {ep : Nat} {es : NEs} {st : Hp → Hp → Prop} {kvs : KVs} (h : ∀ G H, Same G H → st G H → G a = some (dnO a ep es) ∧ RepN K mg G kvs es) : WalkD K mg st (Itn K a ep es) (itemsD kvs) := by
  intro i G H s q
  obtain ⟨h1, h2⟩ := h G H s q
  have na : NAt K H a ep es := ⟨s _ _ h1, repN_ok s h2⟩
  have hl := repN_len h2
  refine ⟨fun d hd => ?_, fun hl' => ⟨na, by rw [hl]; simpa [itemsD] using hl'⟩⟩
  unfold itemsD at hd
  rw [List.getElem?_map] at hd
  cases q1 : kvs[i]? with
  | none => rw [q1] at hd; cases hd
  | some p =>
    rw [q1] at hd; cases hd
    obtain ⟨b, v, h3, h4, h5⟩ := repN_get h2 q1
    refine ⟨⟨na, (List.getElem?_eq_some_iff.mp h3).1⟩, fun x H' y => ?_⟩
    obtain ⟨T, k', b', u', h6, rfl, hT, rfl⟩ := y
    rw [h3] at h6; cases h6
    exact pair_new s hT h4 h5
def itNItems : D → Option (List D)
  | .dcN kvs => some (itemsD kvs)
  | _ => none
def itNKeys : D → Option (List D)
  | .dcN kvs => some (kvs.map (·.1))
  | _ => none
theorem di_nitems {f : FE D} {elts : List Expr} {kk : Nat} {tpos : Pos} (j : De X W e f) (hbase : attributeBase e "items" X.env (eval e X.env) = eval e X.env := by rfl) (hline : (apos.endLine == cpos.line) = true := by rfl) :
    Di X W (.Tuple elts kk tpos) (.Call (.Attribute e "items" apos) [] [] cpos) (eIt1 itNItems f) := by
  obtain ⟨t, p, k⟩ := j
  refine ⟨_, pi_nitems p hbase hline, fun G α ρ ω σ H R O S P => ?_⟩
  refine Post.step (t := t σ H) (k G α ρ ω σ H · O S) P fun d ω1 v G1 α1 H1 e1 O1 r1 P1 => ?_
  obtain ⟨ds, e2, P2⟩ := P1.lift
  cases d with
  | dcN kvs =>
    cases e2
    have r1' : Rep X.K X.mg G1 (.dcN kvs) v := r1
    rw [rep_dcN] at r1'
    obtain ⟨a, ep, es, rfl, ha, rn⟩ := r1'
    refine ⟨a, ep, es, rfl, ⟨O1.sub _ _ ha, repN_ok O1.sub rn⟩, P2 _ G1 α1 H1 Ext.refl O1 ?_⟩
    exact walk_n fun G' H' s' q => ⟨q _ _ ha, RepN.mono q _ _ rn⟩
  | _ => cases e2
end
end Dl
namespace Dl
open PySem L2
structure Side (K : PySem.W.Frag) (mg : MG) (G0 : Hp) (α0 : List Addr) (H0 : Hp) (p : Addr) (G : Hp) (α : List Addr) (ω : Om) (H : Hp) (o : HO) : Prop where
  ext : Ext G0 α0 H0 G α H
  own : Own K mg G α ω H
  gl : G p = none
  na : p ∉ α
  at_ : H p = some o
section
variable {K : PySem.W.Frag} {mg : MG} {G0 H0 G H G1 H1 : Hp} {α0 α α1 : List Addr} {p : Addr} {ω ω1 : Om} {o o' : HO}
theorem Side.new (O : Own K mg G α ω H) (hp : H p = none) : Side K mg G α H p G α ω (L2.upd H p o) o :=
  ⟨(Grow.side O.sub hp).ext, O.grow (Grow.side O.sub hp), O.sub.free hp, O.na hp, upd_same⟩
theorem Side.step (S : Side K mg G0 α0 H0 p G α ω H o) (e : Ext G α H G1 α1 H1) (O : Own K mg G1 α1 ω1 H1) : Side K mg G0 α0 H0 p G1 α1 ω1 H1 o := by
  refine ⟨S.ext.trans e, O, ?_, fun hm => ?_, e.keep p o S.at_ S.na⟩
  · cases q : G1 p with
    | none => rfl
    | some u =>
      rcases e.new p u q with z | z | z
      · rw [S.gl] at z; cases z
      · rw [S.at_] at z; cases z
      · exact absurd z S.na
  · obtain ⟨m, em, nm⟩ := e.pre
    rw [em] at hm
    rcases List.mem_append.mp hm with z | z
    · exact S.na z
    · have := nm p z; rw [S.at_] at this; cases this
theorem Side.set (S : Side K mg G0 α0 H0 p G α ω H o) (h0 : H0 p = none) : Side K mg G0 α0 H0 p G α ω (L2.upd H p o') o' :=
  ⟨S.ext.setL h0, S.own.setL S.gl S.na, S.gl, S.na, upd_same⟩
theorem Side.tell (S : Side K mg G0 α0 H0 p G α ω H o) (h0 : H0 p = none) : Ext G0 α0 H0 (L2.upd G p o) α H ∧ Own K mg (L2.upd G p o) α ω H := by
  have sg : Same G (L2.upd G p o) := Same.upd S.gl
  refine ⟨⟨S.ext.g.trans sg, fun a u h => ?_, S.ext.keep, S.ext.live, S.ext.pre⟩, ⟨fun b u h => ?_, S.own.len, S.own.nd, S.own.ex, fun k u a h3 h4 => ?_⟩⟩
  · by_cases z : a = p
    · subst z; exact .inr (.inl h0)
    · rw [upd_ne z] at h; exact S.ext.new a u h
  · by_cases z : b = p
    · subst z; rw [upd_same] at h; cases h; exact S.at_
    · rw [upd_ne z] at h; exact S.own.sub b u h
  · obtain ⟨q1, q2⟩ := S.own.obj k u a h3 h4
    have : a ≠ p := fun z => S.na (by rw [← z]; exact List.mem_of_getElem? h4)
    exact ⟨by rw [upd_ne this]; exact q1, q2.mono sg rfl⟩
end
theorem dn_empty {P : Program} {w : World} {H : Hp} (h : Heap) (hb : sysModules < h.objs.size) : ObjOk P w H (h.push { cls := .type "dict", data := .dict #[] }) h.objs.size (dnO h.objs.size 0 []) := by
  refine ⟨⟨beq_eq_false_iff_ne.mpr (Ne.symm (Nat.ne_of_lt hb)), Nat.zero_le _, List.nodup_nil, [], .nil, _, #[], Heap.get?_push_size _ rfl, ⟨rfl, rfl, rfl⟩, rfl, rfl⟩, ⟨_, Heap.get?_push_size _ rfl⟩, fun h1 h2 q k => ?_⟩
  obtain ⟨q1, q2, q3, ys, q4, o', en', q5, q6⟩ := q
  exact ⟨q1, q2, q3, ys, q4, o', en', k _ q5, q6⟩
section
variable {X : Cx} {W : WX} {pos p1 p2 : Pos} {e k v : Expr} {tk tv td : TE}
def eNewN : FE SV := fun _ ω => .ok (.own ω.length) (ω ++ [some (.dcN [])])
def eEmptyK : FE D := fun _ ω => .ok (.dcK []) ω
theorem de_emptyK : De X W (.Dict [] [] pos) eEmptyK := by
  refine ⟨_, pe_dnewK, fun G α ρ ω σ H Q O S P p hp => ?_⟩
  refine Post.grow O (Grow.put O.sub hp) (show Rep X.K X.mg _ (.dcK []) (.ref p) from rep_dcK.mpr ⟨p, [], rfl, upd_same, repK_nil.mpr rfl⟩) P
def tNDisp (K : PySem.W.Frag) (tk tv : TE) : TE := fun σ H Q => ∀ p, H p = none → tk σ (L2.upd H p (dnO p 0 [])) fun x H1 => tv σ H1 fun y H2 => ∃ kk b, H2 p = some (dnO p 0 []) ∧ x = .ref b ∧ NOk K H2 kk b ∧ ∀ ep', Q (.ref p) (L2.upd H2 p (dnO p ep' [(kk, b, y)]))
theorem pe_ndisp (hu : X.A.units + 20 < cLine) (hk : PE X k tk) (hv : PE X v tv) : PE X (.Dict [some k] [v] pos) (tNDisp X.K tk tv) := by
  refine ⟨fun pins s σ H Q I q => ?_⟩
  have hn := I.hok.fresh (Nat.le_refl s.heap.objs.size)
  have I1 := I.laid (a := s.heap.objs.size) (o := dnO s.heap.objs.size 0 []) (h' := s.heap.push { cls := .type "dict", data := .dict #[] }) (t' := s.toks) (fun _ _ q => Heap.get?_push_of_some _ q) (Nat.le_refl _) (dn_empty s.heap I.big)
  rw [arm_eval_Dict]
  show wpAny _ _ (do standAt pos; dictDisplay ((pairTrees [some k] [v] X.env pos).map fun p => (some p.1, p.2))) _ _ _
  rw [dictDisplay_pairs (pairTrees [some k] [v] X.env pos) (by simp [pairTrees]) (by simp [pairTrees])]
  refine wpAny_bind (wpAny_standAt (wpAny_bind (wpAny_subDictH (knd := nestedKind X.prog X.w) (Q := fun d s' => wpAny (model X.prog X.w) X.A (pure (Value.ref d)) _ X.xe s') (by show X.A.units + 8 < cLine; omega) (by simp [pairTrees]) ?_)))
  refine pairTrees_cons_walk (thn (hk.run pins _ σ _ _ I1 (q _ hn)) fun u s1 ⟨x, H1, I1, rx, q1⟩ => thn (hv.run pins s1 σ H1 _ I1 q1) fun w2 s2 ⟨y, H2, I2, ry, kk, b, hp, ex, nb, q2⟩ => pairTrees_nil_walk ?_)
  subst ex
  obtain rfl : u = Value.ref b := rx
  obtain ⟨xs, o, ens, rel, hs, hl, ho, hx, hd, dd, he⟩ := n_real I2 hp (fun x hx => by cases hx)
  cases rel
  refine ⟨[(kk, b, w2)], ⟨rfl, rfl, nb.key I2, trivial⟩, dd, fun h' tk dd' sb => wpAny_pure ?_⟩
  obtain ⟨q, ens', ep', hq, h2, h3, h4, _, h5⟩ := dd'
  refine ⟨.ref s.heap.objs.size, _, d_write I2 (by rw [hp]; exact True.intro) sb ⟨q, hq⟩ (dn_ok (es := [(kk, b, y)]) hs (by show 1 ≤ sizeLine; decide) (by simp) (.cons ⟨rfl, rfl, ry⟩ .nil) (fun x hx w => ?_) hq h2 h3 h4), rfl, q2 ep'⟩
  simp at hx; subst hx; exact nb.hs w
end
end Dl
namespace Dl
open PySem L2
section
variable {X : Cx} {W : WX} {pos p1 p2 : Pos} {e k v : Expr} {tk tv td : TE}
def eNDisp (fk fv : FE D) : FE D := fun ρ ω => (fk ρ ω).bind fun k ω1 => (fv ρ ω1).bind fun v ω2 => Res.lift (if isKey k = true then some (.dcN [(k, v)]) else none) ω2
theorem Post.orig {β γ β2 : Type} {K : PySem.W.Frag} {mg : MG} {R : Hp → List Addr → Hp → β → γ → Prop} {R2 : Hp → List Addr → Hp → β2 → V → Prop} {G H : Hp} {α : List Addr} {Q2 : VK} {E : XK} {t : (γ → Hp → Prop) → Prop} {Q1 : γ → Hp → Prop} {r : Res β} {g : β → Om → Res β2} {G1 H1 : Hp} {α1 : List Addr}
    (e0 : Ext G α H G1 α1 H1) (J : ∀ Q, Post K mg R G1 α1 H1 Q E r → t Q) (h : Post K mg R2 G α H Q2 E (r.bind g))
    (k : ∀ b ω1 v G' α' H', Ext G1 α1 H1 G' α' H' → Own K mg G' α' ω1 H' → R G' α' H' b v → Post K mg R2 G α H Q2 E (g b ω1) → Q1 v H') : t Q1 := by
  cases r with
  | stuck => exact h.elim
  | ok b ω' => exact J Q1 fun v G' α' H' e O q => k b ω' v G' α' H' e O q h
  | exc x ω' => exact J Q1 fun c dd G' α' H' e O q => h c dd G' α' H' (e0.trans e) O q
theorem de_ndisp {fk fv : FE D} (hr : Room 0 X.A) (jk : De X W k fk) (jv : De X W v fv) : De X W (.Dict [some k] [v] pos) (eNDisp fk fv) := by
  obtain ⟨tk, pk, kk⟩ := jk
  obtain ⟨tv, pv, kv⟩ := jv
  refine ⟨_, pe_ndisp (by have := hr.un; omega) pk pv, fun G α ρ ω σ H Q O S P p hp => ?_⟩
  have S0 : Side X.K X.mg G α H p G α ω (L2.upd H p (dnO p 0 [])) (dnO p 0 []) := Side.new O hp
  refine Post.orig S0.ext (t := tk σ (L2.upd H p (dnO p 0 []))) (kk G α ρ ω σ _ · S0.own S) P fun k ω1 v1 G1 α1 H1 e1 O1 r1 P1 => ?_
  have S1 := S0.step e1 O1
  refine Post.orig S1.ext (t := tv σ H1) (kv G1 α1 ρ ω1 σ H1 · O1 (S.mono e1)) P1 fun v ω2 v2 G2 α2 H2 e2 O2 r2 P2 => ?_
  have S2 := S1.step e2 O2
  obtain ⟨d, eq, P3⟩ := P2.lift
  split at eq
  · rename_i hk
    cases eq
    obtain ⟨ok, ht⟩ := isKey_eq hk
    obtain ⟨b, rfl, hb, rb⟩ := rep_key O2.sub ok ht (Rep.mono e2.g _ _ r1)
    refine ⟨nk k, b, S2.at_, rfl, hb, fun ep' => ?_⟩
    have S3 := S2.set (o' := dnO p ep' [(nk k, b, v2)]) hp
    obtain ⟨x1, x2⟩ := S3.tell hp
    refine P3 _ _ _ _ x1 x2 (show Rep X.K X.mg _ (.dcN [(k, v)]) (.ref p) from rep_dcN.mpr ⟨p, ep', _, rfl, upd_same, ?_⟩)
    have sg := Same.upd (o := dnO p ep' [(nk k, b, v2)]) S3.gl
    exact repN_cons.mpr ⟨b, v2, [], rfl, ok, Rep.mono sg _ _ rb, Rep.mono sg _ _ r2, repN_nil.mpr rfl⟩
  · cases eq
theorem n_copyOf {pins : List (Addr × Obj)} {σ : St} {H : Hp} {s : Shared} {a : Addr} {ep : Nat} {es : NEs} {A : Around} {E : Value → Shared → Prop} {Q : Value → Shared → Prop} (hu : A.units + 40 < cLine) (I : Inv X pins σ H s) (na : NAt X.K H a ep es) (hn : (es.map fun x => hashN x.1).Nodup)
    (h : ∀ p ep' s', H p = none → Inv X pins σ (L2.upd H p (dnO p ep' es)) s' → Q (.ref p) s') : wpAny (model X.prog X.w) A (call (.type "dict") [.ref a]) Q E s := by
  obtain ⟨xs, o, ens, rel, hs, hl, ho, hx, hd, dd, he⟩ := n_real I na.at_ na.ok
  refine callType_codes (Q₁ := fun obj s1 => obj = .ref s.heap.objs.size ∧ s1 = { s with heap := s.heap.push { cls := .type "dict", data := .dict #[] } }) F.kt_called_dict (F.kt_typeCall_dict_1 _) F.entry_dict_init (kt_code_dict_new _ ⟨rfl, rfl⟩) ?_
  rintro obj s1 ⟨rfl, rfl⟩
  have hnew : (s.heap.push { cls := .type "dict", data := .dict #[] }).DictOfH (nestedKind X.prog X.w) s.heap.objs.size [] := Heap.DictOfH.new s.heap
  have kpush : ∀ b u, s.heap.get? b = some u → (s.heap.push { cls := .type "dict", data := .dict #[] }).get? b = some u := fun b u q => Heap.get?_push_of_some _ q
  have hmem := dd
  obtain ⟨_, _, _, _, _, _, _, his, hnd⟩ := hmem
  have dd' : (s.heap.push { cls := .type "dict", data := .dict #[] }).DictOfH (nestedKind X.prog X.w) a xs := dd.at' (fun o q => kpush _ _ q) fun y hy => nestedKind_stays.stays (fun b o vs n q _ => kpush b o q) (his y hy)
  have hdo : s.heap.objs.size ≠ a := fun z => absurd (Heap.lt_size ho) (by rw [← z]; exact Nat.lt_irrefl _)
  have hash : (xs.map fun x => (nestedKind X.prog X.w).hash x.1).Nodup := by
    have : ∀ {es : NEs} {xs : List (NestedKey × Addr × Value)}, NRel es xs → (∀ x ∈ es, NOk X.K H x.1 x.2.1) → (xs.map fun x => (nestedKind X.prog X.w).hash x.1) = es.map fun x => hashN x.1 := by
      intro es xs r
      induction r with
      | nil => intro _; rfl
      | @cons e x es xs r t ih =>
        intro ok
        rw [List.map_cons, List.map_cons, ih fun y hy => ok y (List.mem_cons_of_mem _ hy), ← r.1]
        rw [show (nestedKind X.prog X.w).hash e.1 = hashN e.1 from (ok e List.mem_cons_self).hs X.w]
    rw [this rel na.ok]; exact hn
  refine ⟨hnew.typeIs, F.args_dict_init_2 _ _, ?_⟩
  unfold Builtin.«dict.__init__»
  refine wpAny_bind ?_
  unfold Builtin.Dict.selfAndRest
  refine wpAny_bind (wpAny_notOrdered_dict hnew.typeIs ?_)
  show wpAny _ _ (pure (s.heap.objs.size, [Value.ref a])) _ _ _
  refine wpAny_pure ?_
  show wpAny _ _ (Builtin.Dict.updateFrom "dict.__init__" s.heap.objs.size (.ref a) [] .none) _ _ _
  refine updateFrom_dictH (knd := nestedKind X.prog X.w) .none (room8 (by show A.units + 1 + 20 < cLine; omega)) hdo hs hnew dd' (.inr ⟨fun x hx => nestedKind_stays.tuple (s := { s with heap := _ }) (nestedKind_stays.stays (fun b o vs n q _ => kpush b o q) (his x hx)), hash⟩) (by rw [List.length_nil, Nat.zero_add]; exact hl) fun h' d1 d2 sb => ?_
  rw [storedAllH_nil_of_nodup xs hnd] at d1
  obtain ⟨q, ens', ep', hq, h2, h3, h4, _, h5⟩ := d1
  have nd : (es.map (·.1)).Nodup := by rw [NRel.keys rel]; exact hnd
  refine ⟨rfl, h _ ep' _ (I.hok.fresh (Nat.le_refl _)) (I.laid (a := s.heap.objs.size) (t' := s.toks) (fun b u hb => (sb.2 b (Nat.ne_of_lt (Heap.lt_size hb))).trans (kpush b u hb)) (Nat.le_refl _) ?_)⟩
  exact dn_ok (beq_eq_false_iff_ne.mpr (Ne.symm (Nat.ne_of_lt I.big))) (by rw [Paired.length rel]; exact hl) nd rel (fun x hx => (na.ok x hx).hs) hq h2 h3 h4
theorem call_dictN (hu : X.A.units + 40 < cLine) : CallR X (.type "dict") (fun xs H Q => ∃ a ep es, xs = [.ref a] ∧ NAt X.K H a ep es ∧ (es.map fun x => hashN x.1).Nodup ∧ ∀ p ep', H p = none → Q (.ref p) (L2.upd H p (dnO p ep' es))) := by
  intro pins s σ H xs us Q I r h
  obtain ⟨a, ep, es, rfl, na, hn, q⟩ := h
  cases r with
  | cons rx rr =>
    cases rr
    cases rx
    exact n_copyOf hu I na hn fun p ep' s' hp I' => ⟨.ref p, _, I', rfl, q p ep' hp⟩
def hashOk (kvs : KVs) : Prop := (kvs.map fun p => hashN (nk p.1)).Nodup
instance (kvs : KVs) : Decidable (hashOk kvs) := by unfold hashOk; infer_instance
theorem repN_hash {K : PySem.W.Frag} {mg : MG} {G : Hp} : ∀ {kvs : KVs} {es : NEs}, RepN K mg G kvs es → (es.map fun x => hashN x.1) = kvs.map fun p => hashN (nk p.1)
  | [], es, r => by rw [repN_nil] at r; subst r; rfl
  | (k, d) :: kvs, es, r => by
    rw [repN_cons] at r
    obtain ⟨b, v, r', rfl, ok, r1, r2, r3⟩ := r
    rw [List.map_cons, List.map_cons, repN_hash r3]
def copyN (ω : Om) : D → Res SV
  | .dcN kvs => if hashOk kvs then .ok (.own ω.length) (ω ++ [some (.dcN kvs)]) else .stuck
  | _ => .stuck
def eCopyN (f : FE D) : FE SV := fun ρ ω => (f ρ ω).bind fun d ω1 => copyN ω1 d
theorem dv_copyN {f : FE D} (hr : Room 0 X.A) (hm : X.mg "dict" = none) (j : De X W e f) (hg : Gl X "dict" := by rfl) (he : starEach [e] X.env = (false, eval e X.env) :: starEach [] X.env := by rfl) (hpl : (backTo pos (starEach [] X.env)).any (·.1) = false := by rfl) (hv : bootBuiltins "dict" = some (.type "dict") := by decide +kernel) :
    Dv X W (.Call (.Name "dict" p1) [e] [] pos) (eCopyN f) := by
  obtain ⟨t, p, k⟩ := j
  refine ⟨_, pe_callTy (call_dictN (by have := hr.un; omega)) hg hm hv (pa_cons p pa_nil he) (by decide) (by decide) he hpl, fun G α ρ ω σ H Q O S P => ?_⟩
  refine Post.step (t := t σ H) (k G α ρ ω σ H · O S) P fun d ω1 v G1 α1 H1 e1 O1 r1 P1 => ?_
  cases d with
  | dcN kvs =>
    unfold copyN at P1
    by_cases hh : hashOk kvs
    · dsimp only at P1
      rw [if_pos hh] at P1
      have r1' : Rep X.K X.mg G1 (.dcN kvs) v := r1
      rw [rep_dcN] at r1'
      obtain ⟨a, ep, es, rfl, ha, rn⟩ := r1'
      refine ⟨a, ep, es, rfl, ⟨O1.sub _ _ ha, repN_ok O1.sub rn⟩, by rw [repN_hash rn]; exact hh, fun p ep' hp => ?_⟩
      obtain ⟨O2, e2⟩ := O1.new (u := dnO p ep' es) (o := .dcN kvs) hp ⟨ep', es, upd_same, rn⟩
      refine P1 _ G1 _ _ e2 O2 ⟨p, ?_, rfl⟩
      rw [← O1.len, List.getElem?_append_right (Nat.le_refl _)]
      simp
    · dsimp only at P1
      rw [if_neg hh] at P1; exact P1.elim
  | _ => exact P1.elim
end
end Dl
namespace Dl
open PySem
section
variable {prog : Program} {w : World} {κ : Type} [DecidableEq κ] {knd : KeyKind prog w κ} {A : Around} {E : Value → Shared → Prop} {s : Shared}
end
end Dl
namespace Dl
open PySem L2
section
variable {X : Cx} {W : WX} {pos p1 p2 apos cpos : Pos} {a b e k v o f : Expr} {ta tb tk tv td : TE}
end
end Dl
namespace Dl
open PySem L2
abbrev KKs := List (Key × D)
def dkMerge (kvs more : KKs) : KKs := more.foldl (fun acc p => dkPut acc p.1 p.2) kvs
def asK : D → Option KKs
  | .dcK kvs => some kvs
  | _ => none
section
variable {X : Cx} {W : WX} {pos p1 p2 apos cpos : Pos} {a b e k v o f : Expr} {ta tb tk tv td : TE}
def eKM (fa fb : FE D) : FE D := fun ρ ω => (fa ρ ω).bind fun x ω1 => match asK x with
  | none => .stuck
  | some kvs => if kvs.length ≤ 1000 then (fb ρ ω1).bind fun y ω2 => (match asK y with
    | some more => if more.length ≤ 1000 then .ok (.dcK (dkMerge (dkMerge [] kvs) more)) ω2 else .stuck
    | none => .stuck) else .stuck
def eKDisp (fk fv : FE D) : FE D := fun ρ ω => (fk ρ ω).bind fun k ω1 => (fv ρ ω1).bind fun v ω2 => Res.lift ((keyK k).map fun kk => .dcK [(kk, v)]) ω2
def kGet (kvs : KKs) (k x : D) : Option D := (keyK k).map fun kk => (dkGet kvs kk).getD x
def eKGet (fd fk fx : FE D) : FE D := fun ρ ω => (fd ρ ω).bind fun d ω1 => match asK d with
  | none => .stuck
  | some kvs => (fk ρ ω1).bind fun k ω2 => (fx ρ ω2).bind fun x ω3 => Res.lift (kGet kvs k x) ω3
theorem de_kget {fd fk fx : FE D} (hr : Room 0 X.A) (jd : De X W o fd) (jk : De X W e fk) (jx : De X W f fx) (m : M2 X o "get" apos e f cpos := by exact ⟨rfl, rfl, rfl, rfl⟩) : De X W (.Call (.Attribute o "get" apos) [e, f] [] cpos) (eKGet fd fk fx) := by
  obtain ⟨td, pd, kd⟩ := jd
  obtain ⟨tk, pk, kk⟩ := jk
  obtain ⟨tx, px, kx⟩ := jx
  refine ⟨_, pe_dget2 (by have := hr.un; omega) pd pk px m, fun G α ρ ω σ H Q O S P => ?_⟩
  refine Post.step (t := td σ H) (kd G α ρ ω σ H · O S) P fun d ω1 v G1 α1 H1 e1 O1 r1 P1 => ?_
  cases d with
  | dcK kvs =>
    have r1' : Rep X.K X.mg G1 (.dcK kvs) v := r1
    rw [rep_dcK] at r1'
    obtain ⟨a, kv, rfl, ha, rn⟩ := r1'
    refine ⟨a, rfl, .inl ⟨kv, .inl (O1.sub _ _ ha)⟩, ?_⟩
    refine Post.step (t := tk σ H1) (kk G1 α1 ρ ω1 σ H1 · O1 (S.mono e1)) P1 fun k ω2 v2 G2 α2 H2 e2 O2 r2 P2 => ?_
    refine Post.step (t := tx σ H2) (kx G2 α2 ρ ω2 σ H2 · O2 ((S.mono e1).mono e2)) P2 fun x ω3 v3 G3 α3 H3 e3 O3 r3 P3 => ?_
    obtain ⟨y, ey, P4⟩ := P3.lift
    unfold kGet at ey
    cases q : keyK k with
    | none => rw [q] at ey; cases ey
    | some kk =>
      rw [q] at ey; cases ey
      have ek := keyK_rep q r2
      subst ek
      refine ⟨valV kv kk, DGet.k (O3.sub _ _ (e3.g _ _ (e2.g _ _ ha))), Post.here O3 ?_ P4⟩
      show Rep X.K X.mg G3 ((dkGet kvs kk).getD x) ((valV kv kk).getD v3)
      have h := repK_val kk (RepK.mono (e2.g.trans e3.g) _ _ rn)
      cases q2 : dkGet kvs kk with
      | none => rw [q2] at h; dsimp only at h; rw [h]; exact r3
      | some d => rw [q2] at h; obtain ⟨v, h, h2⟩ := h; rw [h]; exact h2
  | _ => exact P1.elim
def opKIx (x y : D) : Option D := match x with
  | .dcK kvs => (keyK y).bind fun k => dkGet kvs k
  | _ => none
def oDictK : List D → Option D
  | [.dcK kvs] => some (.dcK kvs)
  | _ => none
end
end Dl
namespace Dl
open PySem L2
section
variable {X : Cx} {W : WX} {pos pos' p1 p2 apos cpos : Pos} {a b e i k v o f : Expr} {es : List Expr} {ta tb tk tv td ty : TE}
def tsNPut (K : PySem.W.Frag) (td ty tv : TE) : TS := fun D σ H => tv σ H fun v H1 => td σ H1 fun x H2 => ty σ H2 fun y H3 => ∃ a ep es k b, x = .ref a ∧ NAt K H3 a ep es ∧ y = .ref b ∧ NOk K H3 k b ∧ es.length < sizeLine ∧ ∀ ep', D.nx σ (L2.upd H3 a (dnO a ep' (nput es k b v)))
theorem ps_nput (hu : X.A.units + 20 < cLine) (ho : PE X o td) (hi : PE X i ty) (hv : PE X v tv) (hs : swapsWith v (some (.Subscript o i pos')) pos.line X.env = pure false) : PS X (.Assign [.Subscript o i pos'] v pos) (tsNPut X.K td ty tv) := by
  refine ⟨fun pins s σ H D I h => ?_⟩
  refine wpAny_Assign_Subscript (thn (hv.run pins s σ H _ I h) fun r s1 ⟨v, H1, I1, rv, q1⟩ => thn (ho.run pins s1 σ H1 _ I1 q1) fun u s2 ⟨x, H2, I2, rx, q2⟩ => thn (hi.run pins s2 σ H2 _ I2 q2) fun iv s3 ⟨y, H3, I3, ry, a, ep, es, k, b, ex, na, ey, nb, hl, q3⟩ => ?_) hs
  subst ex ey
  obtain rfl : u = Value.ref a := rx
  obtain rfl : iv = Value.ref b := ry
  exact n_setItem hu I3 na.at_ na.ok nb hl rv fun ep' s4 I4 => ⟨σ, _, I4, q3 ep'⟩
def nPutR (i j : Nat) (ρ : Rho) (ω : Om) (k d : D) : Option KVs → Out
  | some kvs => if isKey k = true ∧ kvs.length < lim then .next ρ (ω.set j (some (.dcN (dnPut kvs k d)))) else .stuck
  | none => .stuck
def sNPut (i : Nat) (fk fe : FE D) : FS := fun ρ ω => (fe ρ ω).out ρ fun d ω1 => match ownK ρ i with
  | none => .stuck
  | some j => (fk ρ ω1).out ρ fun k ω2 => nPutR i j ρ ω2 k d (ownN ω2 j)
theorem ds_nput (n : Nat) {x : Str} {fk fe : FE D} (hr : Room 0 X.A) (jk : De X W i fk) (je : De X W v fe) (hN : X.N[n]? = some x := by rfl) (hv : Vis X.env.scope x := by first | exact Or.inl rfl | exact Or.inr (Or.inl rfl) | exact Or.inr (Or.inr rfl)) (hd : (x == ("__debug__" : Str)) = false := by decide)
    (hcd : (x == ("__classdict__" : Str)) = false := by decide) (hs : swapsWith v (some (.Subscript (.Name x p1) i pos')) pos.line X.env = pure false := by rfl) : Ds X W (.Assign [.Subscript (.Name x p1) i pos'] v pos) (sNPut n fk fe) := by
  obtain ⟨tk, pk, kk⟩ := jk
  obtain ⟨te, pe, ke⟩ := je
  refine ⟨_, ps_nput (by have := hr.un; omega) (pe_var (pos := p1) hN hv hd hcd) pk pe hs, fun G α ρ ω σ H E O S P => ?_⟩
  refine PostS.step S (t := te σ H) (ke G α ρ ω σ H · O S) P fun d ω1 v1 G1 α1 H1 e1 O1 r1 P1 => ?_
  cases q : ownK ρ n with
  | none => rw [q] at P1; exact P1.elim
  | some j =>
    rw [q] at P1
    dsimp only at P1
    obtain ⟨w, h1, a, h2, rfl⟩ := (S.mono e1).val n _ (ownK_eq q)
    refine ⟨_, h1, ?_⟩
    refine PostS.step (S.mono e1) (t := tk σ H1) (kk G1 α1 ρ ω1 σ H1 · O1 (S.mono e1)) P1 fun k ω2 v2 G2 α2 H2 e2 O2 r2 P2 => ?_
    cases q3 : ownN ω2 j with
    | none => rw [q3] at P2; exact P2.elim
    | some kvs =>
      rw [q3] at P2
      dsimp only [nPutR] at P2
      by_cases hc : isKey k = true ∧ kvs.length < lim
      · rw [if_pos hc] at P2
        obtain ⟨ok, ht⟩ := isKey_eq hc.1
        have ha : α2[j]? = some a := by
          obtain ⟨m2, e2', _⟩ := e2.pre
          rw [e2', List.getElem?_append_left (List.getElem?_eq_some_iff.mp h2).1]
          exact h2
        obtain ⟨_, ep, es, h4, rn⟩ := O2.obj j _ a (ownN_eq q3) ha
        obtain ⟨b, rfl, hb, rb⟩ := rep_key O2.sub ok ht r2
        refine ⟨a, ep, es, nk k, b, rfl, ⟨h4, repN_ok O2.sub rn⟩, rfl, hb, by rw [repN_len rn, lim_eq]; exact hc.2, fun ep' => ?_⟩
        obtain ⟨O3, e3⟩ := O2.put (u := dnO a ep' (nput es (nk k) b v1)) (o' := .dcN (dnPut kvs k d)) (ownN_eq q3) ha ⟨ep', _, upd_same, repN_put ok rb (Rep.mono e2.g _ _ r1) rn⟩
        exact P2 σ G2 α2 _ e3 O3 (((S.mono e1).mono e2).mono e3)
      · rw [if_neg hc] at P2; exact P2.elim
def fzOf : OD → D
  | .lst ds => .lst ds
  | .ins c fs => .obj c fs
  | .dcK kvs => .dcK kvs
  | .dcN kvs => .dcN kvs
def fzAt (ω : Om) (k : Nat) : Option D := match ω[k]? with
  | some (some o) => some (fzOf o)
  | _ => none
def sGf (n : Nat) (f : FS) : FS := fun ρ ω => match ρ[n]? with
  | some (some (.own k)) => (match fzAt ω k with
    | some d => f (ρ.set n (some (.val d))) (ω.set k none)
    | none => .stuck)
  | some (some (.val _)) => f ρ ω
  | _ => .stuck
theorem Slots.tell {K : PySem.W.Frag} {mg : MG} {G : Hp} {α : List Addr} {ρ : Rho} {σ : St} (S : Slots K mg G α ρ σ) {n : Nat} {x : SV} {v : V} (h : σ[n]? = some (some v)) (r : RepV K mg G α x v) : Slots K mg G α (ρ.set n (some x)) σ := by
  refine ⟨by rw [List.length_set]; exact S.len, fun j y hy => ?_⟩
  by_cases e : n = j
  · subst e
    by_cases hl : n < ρ.length
    · rw [List.getElem?_set_self hl] at hy; cases hy; exact ⟨v, h, r⟩
    · rw [List.getElem?_eq_none (by simp; omega)] at hy; cases hy
  · rw [List.getElem?_set_ne e] at hy; exact S.val j y hy
theorem gf_post {K : PySem.W.Frag} {mg : MG} {G H : Hp} {α : List Addr} {ρ : Rho} {ω : Om} {σ : St} {E : Ends} {n : Nat} {g : FS} (O : Own K mg G α ω H) (S : Slots K mg G α ρ σ) (P : PostS K mg G α H E W (sGf n g ρ ω)) : ∃ G' ρ' ω', Own K mg G' α ω' H ∧ Slots K mg G' α ρ' σ ∧ PostS K mg G' α H E W (g ρ' ω') := by
  unfold sGf at P
  split at P
  · rename_i k hk
    cases q : fzAt ω k with
    | none => rw [q] at P; exact P.elim
    | some d =>
      rw [q] at P
      dsimp only at P
      obtain ⟨v, h1, a, h2, rfl⟩ := S.val n _ hk
      unfold fzAt at q
      split at q
      · rename_i o ho
        cases q
        obtain ⟨hg, oa⟩ := O.obj k o a ho h2
        obtain ⟨u, hu⟩ := oa.there
        obtain ⟨O2, e2, _⟩ := O.freeze ho h2 hu
        have sg : Same G (L2.upd G a u) := Same.upd hg
        have rep : Rep K mg (L2.upd G a u) (fzOf o) (.ref a) := by
          cases o with
          | lst ds => obtain ⟨vs, h3, h4⟩ := oa; rw [hu] at h3; cases h3; exact rep_lst.mpr ⟨a, vs, rfl, SqL.of upd_same, Reps.mono sg _ _ h4⟩
          | ins c fs => obtain ⟨C, dx, fvs, m, h3, h4⟩ := oa; rw [hu] at h3; cases h3; exact rep_obj.mpr ⟨a, C, dx, fvs, rfl, m, upd_same, RepF.mono sg _ _ h4⟩
          | dcK kvs => obtain ⟨kv, h3, h4⟩ := oa; rw [hu] at h3; cases h3; exact rep_dcK.mpr ⟨a, kv, rfl, upd_same, RepK.mono sg _ _ h4⟩
          | dcN kvs => obtain ⟨ep, es, h3, h4⟩ := oa; rw [hu] at h3; cases h3; exact rep_dcN.mpr ⟨a, ep, es, rfl, upd_same, RepN.mono sg _ _ h4⟩
        exact ⟨_, _, _, O2, (S.mono e2).tell (x := .val (fzOf o)) h1 rep, P.weak e2⟩
      · cases q
  · exact ⟨G, ρ, ω, O, S, P⟩
  · exact P.elim
theorem ds_gf (n : Nat) {st : Stmt} {g : FS} (h : Ds X W st g) : Ds X W st (sGf n g) := by
  obtain ⟨t, p, k⟩ := h
  refine ⟨t, p, fun G α ρ ω σ H D O S P => ?_⟩
  obtain ⟨G', ρ', ω', O', S', P'⟩ := gf_post O S P
  exact k G' α ρ' ω' σ H D O' S' P'
def aStar (g : FE D) (h : FE (List SV)) : FE (List SV) := fun ρ ω => (g ρ ω).bind fun d ω1 => match itSeq d with
  | some ds => (h ρ ω1).bind fun xs ω2 => .ok (ds.map SV.val ++ xs) ω2
  | none => .stuck
theorem RepVs.append {K : PySem.W.Frag} {mg : MG} {G : Hp} {α : List Addr} : ∀ {xs ys : List SV} {vs us : List V}, RepVs K mg G α xs vs → RepVs K mg G α ys us → RepVs K mg G α (xs ++ ys) (vs ++ us)
  | _, _, _, _, .nil, h => h
  | _, _, _, _, .cons r t, h => .cons r (RepVs.append t h)
theorem da_star {g : FE D} {h : FE (List SV)} (jg : De X W e g) (jh : Da X W es h) (hs : starEach (.Starred e p1 :: es) X.env = (true, eval e X.env) :: starEach es X.env := by rfl) : Da X W (.Starred e p1 :: es) (aStar g h) := by
  obtain ⟨ta, pa, ka⟩ := jg
  obtain ⟨tb, pb, kb⟩ := jh
  refine ⟨_, StX.pa_star pa pb hs, fun G α ρ ω σ H Q O S P => ?_⟩
  refine Post.step (t := ta σ H) (ka G α ρ ω σ H · O S) P fun d ω1 v1 G1 α1 H1 e1 O1 r1 P1 => ?_
  cases q : itSeq d with
  | none => rw [q] at P1; exact P1.elim
  | some ds =>
    rw [q] at P1
    dsimp only at P1
    have go : ∃ a vs, v1 = .ref a ∧ (SqT X.K H1 a vs ∨ SqL X.K H1 a vs) ∧ Reps X.K X.mg G1 ds vs := by
      cases d with
      | tup ds' => cases q; have r2 : Rep X.K X.mg G1 (.tup ds) v1 := r1; rw [rep_tup] at r2; obtain ⟨a, vs, h1, h2, h3⟩ := r2; exact ⟨a, vs, h1, .inl (Same.sqT O1.sub h2), h3⟩
      | lst ds' => cases q; have r2 : Rep X.K X.mg G1 (.lst ds) v1 := r1; rw [rep_lst] at r2; obtain ⟨a, vs, h1, h2, h3⟩ := r2; exact ⟨a, vs, h1, .inr (O1.sub.seq h2), h3⟩
      | _ => cases q
    obtain ⟨a, vs, rfl, hq, hr⟩ := go
    refine ⟨a, vs, rfl, hq, ?_⟩
    refine Post.step (t := tb σ H1) (kb G1 α1 ρ ω1 σ H1 · O1 (S.mono e1)) P1 fun y ω2 v2 G2 α2 H2 e2 O2 r2 P2 => ?_
    exact Post.here O2 ((repVs_val (Reps.mono e2.g _ _ hr)).append r2) P2
end
end Dl
namespace Dl
open PySem L2
def alikeP (ps : List PyData) : Bool := ps.all fun p => ps.all fun q => PySem.W.alike p q
def sortB (ps : List PyData) : Bool := (ps.all fun p => match p with | .tuple (_ :: _) => true | _ => false) || ps.all fun p => match p with | .none => false | .tuple _ => false | _ => true
theorem alikeP_ok {ps : List PyData} (h : alikeP ps = true) : PySem.W.AllAlike ps := fun d hd d' hd' => by
  unfold alikeP at h
  exact List.all_eq_true.mp (List.all_eq_true.mp h d hd) d' hd'
theorem sortB_ok {ps : List PyData} (h : sortB ps = true) : PySem.W.Sortable ps := by
  unfold sortB at h
  rcases Bool.or_eq_true_iff.mp h with h | h
  · refine .inl fun d hd => ?_
    have := List.all_eq_true.mp h d hd
    split at this
    · exact ⟨_, _, rfl⟩
    · cases this
  · refine .inr fun d hd => ?_
    have := List.all_eq_true.mp h d hd
    split at this
    · cases this
    · cases this
    · rename_i h1 h2; exact ⟨h1, h2⟩
abbrev dLe {β : Type} (p q : β × PyData) : Bool := PySem.W.dataLe false (fun b : β × PyData => b.2) p q
def srt {β : Type} (bs : List β) (ps : List PyData) : List β := ((bs.zip ps).mergeSort dLe).map (·.1)
def rSortD (K : PySem.W.Frag) : List V → Hp → VK → Prop := fun xs H Q => ∃ a vs ps, xs = [.ref a] ∧ SqL K H a vs ∧ DpAll K H vs ps ∧ alikeP ps = true ∧ sortB ps = true ∧ PyData.depthAll ps ≤ 50 ∧ ∀ l, H l = none → Q (.ref l) (L2.upd H l (.lst (srt vs ps)))
theorem depth_le : ∀ {ps : List PyData} {n : Nat}, PyData.depthAll ps ≤ n → ∀ p ∈ ps, p.depth ≤ n
  | p :: ps, n, h, q, hq => by
    unfold PyData.depthAll at h
    rcases List.mem_cons.mp hq with rfl | hq
    · omega
    · exact depth_le (by omega) q hq
theorem dpAll_len {K : PySem.W.Frag} {H : Hp} : ∀ {vs : List V} {ps : List PyData}, DpAll K H vs ps → vs.length = ps.length
  | _, _, .nil => rfl
  | _, _, .cons _ t => by rw [List.length_cons, List.length_cons, dpAll_len t]
section
variable {X : Cx}
theorem call_sortD (hu : X.A.units + 100 < cLine) : CallR X (.builtin "sorted") (rSortD X.K) := by
  intro pins s σ H xs us Q I r h
  obtain ⟨a, vs, ps, rfl, hq, dp, hal, hk, hdp, q⟩ := h
  cases r with
  | cons rx rr =>
    cases rr
    cases rx
    obtain ⟨its, rv, pl, hz⟩ := I.list hq
    have hlen := dpAll_len dp
    have each : ∀ {vs : List V} {ps : List PyData} {us : List Value}, DpAll X.K H vs ps → Vals vs us → PySem.W.EachIs (fun (v : Value) (b : V × PyData) => RelV b.1 v ∧ ∃ as, Reads s.heap v b.2 as) us (vs.zip ps) := by
      intro vs ps
      induction ps generalizing vs with
      | nil => intro us d r; cases d; cases r; exact .nil
      | cons p ps ih =>
        intro us d r
        cases d with
        | cons d1 d2 =>
          cases r with
          | cons r1 r2 => exact .cons ⟨r1, Dp.reads I _ _ _ d1 r1⟩ (ih d2 r2)
    have E1 := each dp rv
    have mp : (vs.zip ps).map (·.2) = ps := by rw [List.map_snd_zip (by omega)]
    refine PySem.W.sorted_data (bs := vs.zip ps) (enc := fun b => b.2) (R := fun v b => RelV b.1 v) pl.isList (E1.mono fun _ _ z => z.1) (E1.mono fun _ _ z => z.2) (by rw [mp]; exact alikeP_ok hal) (by rw [mp]; exact sortB_ok hk) (by rw [List.length_zip]; have := hz; omega) (fun b hb => ?_) fun out ho er => ?_
    · have := depth_le hdp b.2 (by rw [← mp]; exact List.mem_map_of_mem hb)
      omega
    · obtain ⟨ep, he'⟩ := PyProof.Rows.sortedAll_at s.heap its out.toArray
      have hl : (srt vs ps).length ≤ sizeLine := by
        unfold srt; rw [List.length_map, List.length_mergeSort, List.length_zip]; omega
      have vals : Vals (srt vs ps) out := by
        unfold srt
        have : ∀ {us : List Value} {bs : List (V × PyData)}, PySem.W.EachIs (fun v b => RelV b.1 v) us bs → Vals (bs.map (·.1)) us := by
          intro us bs e
          induction e with
          | nil => exact .nil
          | cons r t ih => exact .cons r ih
        exact this er
      exact ⟨.ref _, L2.upd H (s.heap.objs.size + 1) (.lst (srt vs ps)), I.laid (t' := s.toks) (fun _ _ => PyProof.Rows.sortedAll_old) (Nat.le_succ _) ⟨hl, out, ep, vals, he'⟩, rfl, q _ (I.hok.fresh (Nat.le_succ _))⟩
end
def oSortL (ds : List D) : Option D := match toPys ds with
  | some ps => if alikeP ps = true ∧ sortB ps = true ∧ PyData.depthAll ps ≤ 50 then some (.lst (srt ds ps)) else none
  | none => none
theorem toPys_len : ∀ {ds : List D} {ps : List PyData}, toPys ds = some ps → ds.length = ps.length
  | [], ps, e => by unfold toPys at e; cases e; rfl
  | d :: ds, ps, e => by
    unfold toPys at e
    cases q : toPy d with
    | none => rw [q] at e; cases e
    | some p =>
      rw [q] at e
      cases q2 : toPys ds with
      | none => rw [q2] at e; cases e
      | some ps' => rw [q2] at e; cases e; rw [List.length_cons, List.length_cons, toPys_len q2]
theorem reps_of {K : PySem.W.Frag} {mg : MG} {G : Hp} : ∀ {zs : List (D × V)}, (∀ z ∈ zs, Rep K mg G z.1 z.2) → Reps K mg G (zs.map (·.1)) (zs.map (·.2))
  | [], _ => by rw [List.map_nil, List.map_nil, reps_nil]
  | z :: zs, h => by
    rw [List.map_cons, List.map_cons, reps_cons]
    exact ⟨_, _, rfl, h z List.mem_cons_self, reps_of fun y hy => h y (List.mem_cons_of_mem _ hy)⟩
theorem reps_zip {K : PySem.W.Frag} {mg : MG} {G : Hp} : ∀ {ds : List D} {vs : List V}, Reps K mg G ds vs → ∀ z ∈ ds.zip vs, Rep K mg G z.1 z.2
  | [], vs, r, z, hz => by simp at hz
  | d :: ds, vs, r, z, hz => by
    rw [reps_cons] at r
    obtain ⟨v, r', rfl, h1, h2⟩ := r
    rw [List.zip_cons_cons] at hz
    rcases List.mem_cons.mp hz with rfl | hz
    · exact h1
    · exact reps_zip h2 z hz
theorem srt_reps {K : PySem.W.Frag} {mg : MG} {G : Hp} {ds : List D} {vs : List V} {ps : List PyData} (r : Reps K mg G ds vs) (hl : ds.length = ps.length) : Reps K mg G (srt ds ps) (srt vs ps) := by
  have hv := r.length
  have key : ∀ {β : Type} (f : (D × V) × PyData → β × PyData) (hf : ∀ z, (f z).2 = z.2) , (((ds.zip vs).zip ps).mergeSort dLe).map f = ((((ds.zip vs).zip ps).map f)).mergeSort dLe := by
    intro β f hf
    refine List.map_mergeSort fun a _ b _ => ?_
    show PySem.W.dataLe false (fun b : (D × V) × PyData => b.2) a b = PySem.W.dataLe false (fun b : β × PyData => b.2) (f a) (f b)
    rw [PySem.W.dataLe_eq, PySem.W.dataLe_eq]
    dsimp only
    rw [hf, hf]
  have e1 : ((ds.zip vs).zip ps).map (fun z => (z.1.1, z.2)) = ds.zip ps := by
    apply List.ext_getElem
    · simp; omega
    · intro i h1 h2; simp
  have e2 : ((ds.zip vs).zip ps).map (fun z => (z.1.2, z.2)) = vs.zip ps := by
    apply List.ext_getElem
    · simp; omega
    · intro i h1 h2; simp
  have s1 : srt ds ps = ((((ds.zip vs).zip ps).mergeSort dLe).map (·.1)).map (·.1) := by
    unfold srt
    rw [← e1, ← key (fun z => (z.1.1, z.2)) (fun _ => rfl), List.map_map, List.map_map]; rfl
  have s2 : srt vs ps = ((((ds.zip vs).zip ps).mergeSort dLe).map (·.1)).map (·.2) := by
    unfold srt
    rw [← e2, ← key (fun z => (z.1.2, z.2)) (fun _ => rfl), List.map_map, List.map_map]; rfl
  rw [s1, s2]
  refine reps_of fun z hz => ?_
  obtain ⟨w, hw, rfl⟩ := List.mem_map.mp hz
  have := (List.mergeSort_perm ((ds.zip vs).zip ps) dLe).mem_iff.mp hw
  exact reps_zip r w.1 (List.of_mem_zip this).1
theorem copL_sort {K : PySem.W.Frag} {mg : MG} : CopL K mg (rSortD K) oSortL := by
  intro G H ds d a vs Q s e hq r k
  unfold oSortL at e
  cases q : toPys ds with
  | none => rw [q] at e; cases e
  | some ps =>
    rw [q] at e
    dsimp only at e
    split at e
    · rename_i hc
      cases e
      refine ⟨a, vs, ps, rfl, hq, dps_of s ds ps vs q r, hc.1, hc.2.1, hc.2.2, fun l hl => ?_⟩
      exact k _ _ _ (Grow.put s hl) (rep_newL (H := H) (s.free hl) (srt_reps r (toPys_len q)))
    · cases e
end Dl
namespace Dl
open PySem L2 PySem.W
def noNone (ps : List PyData) : Bool := ps.all fun p => match p with | .none => false | _ => true
section
variable {X : Cx}
end
def okP (ps : List PyData) : Bool := alikeP ps && (noNone ps && decide (PyData.depthAll ps ≤ 50))
end Dl
namespace Dl
open PySem L2
theorem u100 {k : Nat} {A : Around} (hr : Room k A) : A.units + 100 < cLine := by have := hr.un; omega
def rngI (a b : Int) : List Int := (List.range (b - a).toNat).map fun i => a + (i : Nat)
theorem rgV_ints (a b : Int) : rgV a b = (rngI a b).map V.int := by unfold rgV rngI; rw [List.map_map]; rfl
def rgB (a b : Int) : Bool := decide (-1000000000 ≤ a ∧ a ≤ 1000000000 ∧ -1000000000 ≤ b ∧ b ≤ 1000000000 ∧ (b - a).toNat ≤ 16777216)
theorem rgB_ok {a b : Int} (h : rgB a b = true) : RgOk a b := by
  have := of_decide_eq_true h
  exact ⟨by omega, by omega, by omega, by omega, by omega⟩
def asInt : D → Option Int
  | .int i => some i
  | _ => none
def rgD (mk : List D → D) (x y : D) : Option D := match asInt x, asInt y with
  | some a, some b => if rgB a b = true then some (mk ((rngI a b).map D.int)) else none
  | _, _ => none
section
variable {X : Cx} {W : WX} {a b : Expr} {p1 p2 pos pos' : Pos}
theorem rg_fin {K : PySem.W.Frag} {mg : MG} {G H : Hp} {α : List Addr} {ω : Om} {Q : VK} {E : XK} {x y : D} {v1 v2 : V} (O : Own K mg G α ω H) (r1 : Rep K mg G x v1) (r2 : Rep K mg G y v2)
    (P : Post K mg (RD K mg) G α H Q E (Res.lift (rgD D.lst x y) ω)) : ∃ i j, v1 = .int i ∧ v2 = .int j ∧ RgOk i j ∧ ∀ q, H q = none → Q (.ref q) (L2.upd H q (.lst (rgV i j))) := by
  obtain ⟨d, e, P⟩ := P.lift
  cases x with
  | int i =>
    cases y with
    | int j =>
      simp only [rgD, asInt] at e
      split at e
      · rename_i h
        cases e
        refine ⟨i, j, rep_int.mp r1, rep_int.mp r2, rgB_ok h, fun q hq => ?_⟩
        exact Post.grow O (Grow.put O.sub hq) (show Rep K mg _ _ _ from rep_newL (H := H) (O.sub.free hq) (by rw [rgV_ints]; exact reps_ints _)) P
      · cases e
    | _ => cases e
  | _ => cases e
theorem rg_finT {K : PySem.W.Frag} {mg : MG} {G H : Hp} {α : List Addr} {ω : Om} {Q : VK} {E : XK} {x y : D} {v1 v2 : V} (O : Own K mg G α ω H) (r1 : Rep K mg G x v1) (r2 : Rep K mg G y v2)
    (P : Post K mg (RD K mg) G α H Q E (Res.lift (rgD D.tup x y) ω)) : ∃ i j, v1 = .int i ∧ v2 = .int j ∧ RgOk i j ∧ ∀ q, H q = none → Q (.ref q) (L2.upd H q (.tup (rgV i j))) := by
  obtain ⟨d, e, P⟩ := P.lift
  cases x with
  | int i =>
    cases y with
    | int j =>
      simp only [rgD, asInt] at e
      split at e
      · rename_i h
        cases e
        refine ⟨i, j, rep_int.mp r1, rep_int.mp r2, rgB_ok h, fun q hq => ?_⟩
        exact Post.grow O (Grow.put O.sub hq) (show Rep K mg _ _ _ from rep_newT (H := H) (O.sub.free hq) (by rw [rgV_ints]; exact reps_ints _)) P
      · cases e
    | _ => cases e
  | _ => cases e
def eRg1 (mk : List D → D) (f : FE D) : FE D := fun ρ ω => (f ρ ω).bind fun y ω1 => Res.lift (rgD mk (.int 0) y) ω1
theorem de_listRg1 {f : FE D} (hm : X.mg "list" = none) (hm2 : X.mg "range" = none) (j : De X W a f) (hc : X.calm = true := by rfl) (hg : Gl X "list" := by rfl) (hg2 : Gl X "range" := by rfl) (na : starEach [a] X.env = (false, eval a X.env) :: starEach [] X.env := by rfl)
    (na2 : starEach [.Call (.Name "range" p2) [a] [] pos'] X.env = (false, eval (.Call (.Name "range" p2) [a] [] pos') X.env) :: starEach [] X.env := by rfl) : De X W (.Call (.Name "list" p1) [.Call (.Name "range" p2) [a] [] pos'] [] pos) (eRg1 D.lst f) := by
  obtain ⟨t, p, k⟩ := j
  refine ⟨_, pe_listRg hc hg hm (prg_1 hg2 hm2 p na) na2, fun G α ρ ω σ H Q O S P => ?_⟩
  refine Post.step (t := t σ H) (k G α ρ ω σ H · O S) P fun d ω1 v G1 α1 H1 e1 O1 r1 P1 => ?_
  obtain ⟨i, j, e1, e2, h3, h4⟩ := rg_fin O1 (show Rep X.K X.mg G1 (.int 0) (.int 0) from rep_int.mpr rfl) r1 P1
  cases e1
  exact ⟨j, e2, h3, h4⟩
theorem de_tupRg1 {f : FE D} (hm : X.mg "tuple" = none) (hm2 : X.mg "range" = none) (j : De X W a f) (hc : X.calm = true := by rfl) (hg : Gl X "tuple" := by rfl) (hg2 : Gl X "range" := by rfl) (na : starEach [a] X.env = (false, eval a X.env) :: starEach [] X.env := by rfl)
    (na2 : starEach [.Call (.Name "range" p2) [a] [] pos'] X.env = (false, eval (.Call (.Name "range" p2) [a] [] pos') X.env) :: starEach [] X.env := by rfl) : De X W (.Call (.Name "tuple" p1) [.Call (.Name "range" p2) [a] [] pos'] [] pos) (eRg1 D.tup f) := by
  obtain ⟨t, p, k⟩ := j
  refine ⟨_, pe_tupRg hc hg hm (prg_1 hg2 hm2 p na) na2, fun G α ρ ω σ H Q O S P => ?_⟩
  refine Post.step (t := t σ H) (k G α ρ ω σ H · O S) P fun d ω1 v G1 α1 H1 e1 O1 r1 P1 => ?_
  obtain ⟨i, j, e1, e2, h3, h4⟩ := rg_finT O1 (show Rep X.K X.mg G1 (.int 0) (.int 0) from rep_int.mpr rfl) r1 P1
  cases e1
  exact ⟨j, e2, h3, h4⟩
end
end Dl
namespace Dl
open PySem L2
section
variable {ρ : Rho} {ω : Om} {i j k : Nat}
theorem eNDisp_run (f g : FE D) : eNDisp f g ρ ω = bindL (f ρ ω) (k := ⟨fun x ω1 => bindL (g ρ ω1) (k := ⟨fun y ω2 => Res.lift (if isKey x = true then some (.dcN [(x, y)]) else none) ω2⟩)⟩) := rfl
theorem eKDisp_run (f g : FE D) : eKDisp f g ρ ω = bindL (f ρ ω) (k := ⟨fun x ω1 => bindL (g ρ ω1) (k := ⟨fun y ω2 => Res.lift ((keyK x).map fun kk => .dcK [(kk, y)]) ω2⟩)⟩) := rfl
theorem eEmptyK_run : eEmptyK ρ ω = .ok (.dcK []) ω := rfl
theorem eNewN_run : eNewN ρ ω = .ok (.own ω.length) (ω ++ [some (.dcN [])]) := rfl
def kmR2 (kvs : KKs) (ω : Om) : Option KKs → Res D
  | some more => if more.length ≤ 1000 then .ok (.dcK (dkMerge (dkMerge [] kvs) more)) ω else .stuck
  | none => .stuck
def kmR [c : KtC] (kvs : Option KKs) (ω : Om) : Res D := match kvs with
  | some kvs => if kvs.length ≤ 1000 then c.run ω else .stuck
  | none => .stuck
theorem eKM_run (f g : FE D) : eKM f g ρ ω = bindL (f ρ ω) (k := ⟨fun x ω1 => @kmR ⟨fun ω1 => bindL (g ρ ω1) (k := ⟨fun y ω2 => kmR2 ((asK x).getD []) ω2 (asK y)⟩)⟩ (asK x) ω1⟩) := by
  unfold eKM bindL
  cases f ρ ω with
  | stuck => rfl
  | exc _ _ => rfl
  | ok x ω1 =>
    dsimp only [Res.bind]
    unfold kmR
    cases q : asK x with
    | none => rfl
    | some kvs =>
      dsimp only
      split
      · congr 1
      · rfl
theorem kmR_run {kvs : KKs} {g : Om → Res D} (h : kvs.length ≤ 1000) : @kmR ⟨g⟩ (some kvs) ω = g ω := by unfold kmR; dsimp only; rw [if_pos h]
theorem kmR2_run {kvs more : KKs} (h : more.length ≤ 1000) : kmR2 kvs ω (some more) = .ok (.dcK (dkMerge (dkMerge [] kvs) more)) ω := by unfold kmR2; dsimp only; rw [if_pos h]
theorem asK_run {kvs : KKs} : asK (.dcK kvs) = some kvs := rfl
theorem asN_run {kvs : KVs} : asN (.dcN kvs) = some kvs := rfl
def getRL [c : KtS KVs D] : Option KVs → Res D
  | some kvs => c.run kvs
  | none => .stuck
theorem eNGet_run (f g h : FE D) : eNGet f g h ρ ω = bindL (f ρ ω) (k := ⟨fun d ω1 => getRL (c := ⟨fun kvs => bindL (g ρ ω1) (k := ⟨fun x ω2 => bindL (h ρ ω2) (k := ⟨fun y ω3 => Res.lift (nGet kvs x y) ω3⟩)⟩)⟩) (asN d)⟩) := by
  unfold eNGet bindL
  cases f ρ ω with
  | stuck => rfl
  | exc _ _ => rfl
  | ok x ω1 =>
    dsimp only [Res.bind]
    unfold getRL
    cases asN x <;> rfl
theorem getRL_run {kvs : KVs} {g : KVs → Res D} : @getRL ⟨g⟩ (some kvs) = g kvs := rfl
def getKL [c : KtS KKs D] : Option KKs → Res D
  | some kvs => c.run kvs
  | none => .stuck
theorem eKGet_run (f g h : FE D) : eKGet f g h ρ ω = bindL (f ρ ω) (k := ⟨fun d ω1 => getKL (c := ⟨fun kvs => bindL (g ρ ω1) (k := ⟨fun x ω2 => bindL (h ρ ω2) (k := ⟨fun y ω3 => Res.lift (kGet kvs x y) ω3⟩)⟩)⟩) (asK d)⟩) := by
  unfold eKGet bindL
  cases f ρ ω with
  | stuck => rfl
  | exc _ _ => rfl
  | ok x ω1 =>
    dsimp only [Res.bind]
    unfold getKL
    cases asK x <;> rfl
theorem getKL_run {kvs : KKs} {g : KKs → Res D} : @getKL ⟨g⟩ (some kvs) = g kvs := rfl
def ngoR (j : Nat) (k x : D) (ω : Om) : Option KVs → Res D
  | some kvs => Res.lift (nGet kvs k x) ω
  | none => .stuck
def ngo1 [c : KtC] (o : Option KVs) (ω : Om) : Res D := match o with
  | some _ => c.run ω
  | none => .stuck
def ngo0 [c : KtS Nat D] : Option Nat → Res D
  | some j => c.run j
  | none => .stuck
theorem eNGetO_run (g h : FE D) : eNGetO i g h ρ ω = ngo0 (c := ⟨fun j => ngo1 (c := ⟨fun ω => bindL (g ρ ω) (k := ⟨fun x ω2 => bindL (h ρ ω2) (k := ⟨fun y ω3 => ngoR j x y ω3 (ownN ω3 j)⟩)⟩)⟩) (ownN ω j) ω⟩) (ownK ρ i) := by
  unfold eNGetO ngo0
  cases ownK ρ i with
  | none => rfl
  | some j =>
    dsimp only
    unfold ngo1
    cases ownN ω j with
    | none => rfl
    | some kv =>
      dsimp only [bindL]
      congr 1
theorem ngo0_run {g : Nat → Res D} : @ngo0 ⟨g⟩ (some j) = g j := rfl
theorem ngo1_run {kvs : KVs} {g : Om → Res D} : @ngo1 ⟨g⟩ (some kvs) ω = g ω := rfl
theorem ngoR_run {kvs : KVs} {x y : D} : ngoR j x y ω (some kvs) = Res.lift (nGet kvs x y) ω := rfl
def ownNR : Option (Option OD) → Option KVs
  | some (some (.dcN kvs)) => some kvs
  | _ => none
theorem ownN_run : ownN ω j = ownNR ω[j]? := by unfold ownN ownNR; split <;> simp_all
theorem ownNR_run {kvs : KVs} : ownNR (some (some (.dcN kvs))) = some kvs := rfl
theorem eCopyN_run (f : FE D) : eCopyN f ρ ω = bindL (f ρ ω) (k := ⟨fun d ω1 => copyN ω1 d⟩) := rfl
theorem copyN_run {kvs : KVs} (h : hashOk kvs) : copyN ω (.dcN kvs) = .ok (.own ω.length) (ω ++ [some (.dcN kvs)]) := by unfold copyN; dsimp only; rw [if_pos h]
def npK [c : KtT Nat] : Option Nat → Out
  | some j => c.run j
  | none => .stuck
theorem sNPut_run (f g : FE D) : sNPut i f g ρ ω = outL (g ρ ω) ρ (k := ⟨fun d ω1 => npK (c := ⟨fun j => outL (f ρ ω1) ρ (k := ⟨fun x ω2 => nPutR i j ρ ω2 x d (ownN ω2 j)⟩)⟩) (ownK ρ i)⟩) := by
  unfold sNPut outL
  cases g ρ ω with
  | stuck => rfl
  | exc _ _ => rfl
  | ok x ω1 =>
    dsimp only [Res.out]
    unfold npK
    cases q : ownK ρ i with
    | none => rfl
    | some j => rfl
theorem npK_run {g : Nat → Out} : @npK ⟨g⟩ (some j) = g j := rfl
theorem nPutR_run {kvs : KVs} {x d : D} (h : isKey x = true) (hl : kvs.length < lim) : nPutR i j ρ ω x d (some kvs) = .next ρ (ω.set j (some (.dcN (dnPut kvs x d)))) := by unfold nPutR; dsimp only; rw [if_pos ⟨h, hl⟩]
theorem sGf_own {f : FS} {o : OD} (h : ρ[i]? = some (some (.own k))) (h2 : ω[k]? = some (some o)) : sGf i f ρ ω = f (ρ.set i (some (.val (fzOf o)))) (ω.set k none) := by
  unfold sGf; rw [h]; dsimp only; unfold fzAt; rw [h2]
def starR [c : KtS (List D) (List SV)] : Option (List D) → Res (List SV)
  | some ds => c.run ds
  | none => .stuck
theorem aStar_run (f : FE D) (g : FE (List SV)) : aStar f g ρ ω = bindL (f ρ ω) (k := ⟨fun d ω1 => starR (c := ⟨fun ds => bindL (g ρ ω1) (k := ⟨fun xs ω2 => .ok (ds.map SV.val ++ xs) ω2⟩)⟩) (itSeq d)⟩) := by
  unfold aStar bindL
  cases f ρ ω with
  | stuck => rfl
  | exc _ _ => rfl
  | ok x ω1 =>
    dsimp only [Res.bind]
    unfold starR
    cases itSeq x <;> rfl
theorem starR_run {ds : List D} {g : List D → Res (List SV)} : @starR ⟨g⟩ (some ds) = g ds := rfl
theorem allD_app : ∀ (ds : List D) (xs : List SV), allD (ds.map SV.val ++ xs) = (allD xs).map (ds ++ ·)
  | [], xs => by rw [List.map_nil, List.nil_append]; cases allD xs <;> rfl
  | d :: ds, xs => by
    rw [List.map_cons, List.cons_append]
    show (allD (ds.map SV.val ++ xs)).map (d :: ·) = _
    rw [allD_app ds xs]
    cases allD xs <;> rfl
theorem eRg1_run (mk : List D → D) (f : FE D) : eRg1 mk f ρ ω = bindL (f ρ ω) (k := ⟨fun y ω1 => Res.lift (rgD mk (.int 0) y) ω1⟩) := rfl
theorem rgD_run {mk : List D → D} {n : Nat} (h : n ≤ 1000000) : rgD mk (.int 0) (.int (n : Int)) = some (mk ((List.range n).map fun (i : Nat) => .int (i : Int))) := by
  simp only [rgD, asInt]
  rw [if_pos (by unfold rgB; rw [decide_eq_true_eq]; omega)]
  congr 2
  unfold rngI
  rw [List.map_map]
  have : ((n : Int) - 0).toNat = n := by omega
  rw [this]
  apply List.map_congr_left
  intro i _
  simp
theorem itNItems_run {kvs : KVs} : itNItems (.dcN kvs) = some (itemsD kvs) := rfl
theorem itNKeys_run {kvs : KVs} : itNKeys (.dcN kvs) = some (kvs.map (·.1)) := rfl
theorem oDictK_run {kvs : KKs} : oDictK [.dcK kvs] = some (.dcK kvs) := rfl
theorem opIn2_K {neg : Bool} {x : D} {kvs : KKs} : opIn2 neg x (.dcK kvs) = (keyK x).map fun k => .bl (if neg then !(dkGet kvs k).isSome else (dkGet kvs k).isSome) := rfl
theorem opKIx_run {x : D} {kvs : KKs} : opKIx (.dcK kvs) x = (keyK x).bind fun k => dkGet kvs k := rfl
theorem keyK_int (i : Int) : keyK (.int i) = some (.inl i) := rfl
theorem forL_fold {tg : FG} {b : FS} {α β : Type} (f : α → D) (step : β → α → β) (I : β → Rho → Om → Prop) : ∀ (xs : List α) (s : β) (ρ : Rho) (ω : Om), I s ρ ω →
    (∀ s x ρ ω, x ∈ xs → I s ρ ω → ∃ ρ1 ρ2 ω2, tg (f x) ρ = some ρ1 ∧ b ρ1 ω = .next ρ2 ω2 ∧ I (step s x) ρ2 ω2) → ∃ ρ' ω', forL tg b (xs.map f) ρ ω = .next ρ' ω' ∧ I (xs.foldl step s) ρ' ω'
  | [], s, ρ, ω, h, _ => ⟨ρ, ω, rfl, h⟩
  | x :: xs, s, ρ, ω, h, hs => by
    obtain ⟨ρ1, ρ2, ω2, h1, h2, h3⟩ := hs s x ρ ω List.mem_cons_self h
    obtain ⟨ρ', ω', h4, h5⟩ := forL_fold f step I xs (step s x) ρ2 ω2 h3 fun s y ρ ω hy => hs s y ρ ω (List.mem_cons_of_mem _ hy)
    exact ⟨ρ', ω', by rw [List.map_cons, forL_next h1 h2]; exact h4, h5⟩
end
end Dl
namespace Dl
open PySem PySem.Calls PyProof.Rows PySem.W PySem.SeqAt
section
variable {A : Around} {s : Shared}
end
end Dl
namespace Dl
open PySem L2
section
variable {X : Cx}
end
end Dl
namespace Dl
open PySem L2
open Classical in
section
variable {K : PySem.W.Frag} {mg : MG}
end
section
variable {X : Cx} {W : WX} {pos : Pos}
theorem ds_setLc2 {i : Nat} {y : Str} {py spos : Pos} {elt tg iter tg1 iter1 : Expr} {ifs ifs1 : List Expr} {scope : Scope} {own : List (Str × Nat)} {is is1 vs1 : List Nat} {fi fi1 : FE (List D)} {fg fg1 : FG} {ft ft1 : FE Bool} {fe : FE D} (hc : X.calm = true) (hN : X.N.Nodup) (hsw : swapsWith (.ListComp elt [⟨tg, iter, ifs, 0⟩, ⟨tg1, iter1, ifs1, 0⟩] scope pos) (some (.Name y py)) spos.line X.env = pure true) (hi : Di X W tg iter fi) (ok : BlkOk X.N X.env.scope scope own) (hv : ∀ i ∈ vs1, i ∈ own.map (·.2))
    (hg : ∀ (s : Shared) (H : Hp) (C : Addr) (cl : List (Str × Addr)) (fp : List Addr), Dg (X.blk s H scope (compEnvC scope cl C X.env) fp) tg is fg) (ht : ∀ (s : Shared) (H : Hp) (C : Addr) (cl : List (Str × Addr)) (fp : List Addr), Dts (X.blk s H scope (compEnvC scope cl C X.env) fp) W0 ifs ft)
    (hi1 : ∀ (s : Shared) (H : Hp) (C : Addr) (cl : List (Str × Addr)) (fp : List Addr), Di (X.blk s H scope (compEnvC scope cl C X.env) fp) W0 tg1 iter1 fi1)
    (hg1 : ∀ (s : Shared) (H : Hp) (C : Addr) (cl : List (Str × Addr)) (fp : List Addr), Dg (X.blk s H scope (compEnvC scope cl C X.env) fp) tg1 is1 fg1) (ht1 : ∀ (s : Shared) (H : Hp) (C : Addr) (cl : List (Str × Addr)) (fp : List Addr), Dts (X.blk s H scope (compEnvC scope cl C X.env) fp) W0 ifs1 ft1)
    (he : ∀ (s : Shared) (H : Hp) (C : Addr) (cl : List (Str × Addr)) (fp : List Addr), De (X.blk s H scope (compEnvC scope cl C X.env) fp) W0 elt fe) (hsub : ∀ i ∈ is, i ∈ own.map (·.2)) (hsub1 : ∀ i ∈ is1, i ∈ vs1) (hy : X.N[i]? = some y := by rfl) (hyl : X.env.scope.names.lookup y = some .local := by rfl) (hs : ∀ x, foldedSetIterable iter X.env x = pure x := by intro _; rfl) (hs1 : ∀ env x, foldedSetIterable iter1 env x = pure x := by intro _ _; rfl) :
    Ds X W (.Assign [.Name y py] (.ListComp elt [⟨tg, iter, ifs, 0⟩, ⟨tg1, iter1, ifs1, 0⟩] scope pos) spos) (sSet i (eLc2 (own.map (·.2)) vs1 fi fg ft fi1 fg1 ft1 fe)) := by
  obtain ⟨wi, pi, ki⟩ := hi
  refine ⟨_, ps_setLc2 (g := tcG X.K X.mg is fg) (tt := tcT X.K X.mg W0 ft) (wi1 := tcI X.K X.mg W0 fi1) (g1 := tcG X.K X.mg is1 fg1) (tt1 := tcT X.K X.mg W0 ft1) (te := tcE X.K X.mg W0 fe) hc hN hy hyl hsw pi ok hv (fun s H C cl fp => can_g (hg s H C cl fp)) (fun s H C cl fp => can_ts (ht s H C cl fp)) (fun s H C cl fp => can_i (hi1 s H C cl fp)) (fun s H C cl fp => can_g (hg1 s H C cl fp)) (fun s H C cl fp => can_ts (ht1 s H C cl fp)) (fun s H C cl fp => can_e (he s H C cl fp)) hs hs1, fun G α ρ ω σ H D O S P => ?_⟩
  refine PostS.step S (t := tLc2 wi (tcG X.K X.mg is fg) (tcT X.K X.mg W0 ft) (tcI X.K X.mg W0 fi1) (tcG X.K X.mg is1 fg1) (tcT X.K X.mg W0 ft1) (tcE X.K X.mg W0 fe) (own.map (·.2)) vs1 σ H) (lc2_read hsub hsub1 ki G α ρ ω σ H · O S) P fun d ω1 v G1 α1 H1 e1 O1 r1 P1 => ?_
  exact P1.here_nx O1 ((S.mono e1).set i (x := .val d) r1)
end
end Dl
namespace Dl
open PySem L2
section
variable {X : Cx}
end
end Dl
namespace Dl
open PySem L2
def isiD2 (u1 u2 : String) (d : D) : Option D := (tyD d).map fun t => .bl (isTy t u1 || isTy t u2)
def eIsi2 (u1 u2 : String) (f : FE D) : FE D := fun ρ ω => (f ρ ω).bind fun d ω1 => Res.lift (isiD2 u1 u2 d) ω1
section
variable {X : Cx} {W : WX}
theorem kitAny2 {K : PySem.W.Frag} {u1 u2 : String} (a1 : TyAsk K u1) (a2 : TyAsk K u2) {t : String} (ht : t ∈ tyNames) : PySem.W.kitAny K (.type t) [.type u1, .type u2] = some (isTy t u1 || isTy t u2) := by
  unfold PySem.W.kitAny
  rw [a1 t ht]
  cases isTy t u1 with
  | true => rfl
  | false =>
    dsimp only
    unfold PySem.W.kitAny
    rw [a2 t ht]
    cases isTy t u2 <;> rfl
theorem de_isi2 {e : Expr} {f : FE D} {x1 x2 : Str} {u1 u2 : String} {p p1 p2 pos tpos : Pos} {n : Nat} (hi : X.mg "isinstance" = none) (hx1 : X.mg x1 = none) (hx2 : X.mg x2 = none) (ask1 : TyAsk X.K u1) (ask2 : TyAsk X.K u2) (h : De X W e f)
    (hv1 : bootBuiltins x1 = some (.type u1) := by decide +kernel) (hv2 : bootBuiltins x2 = some (.type u2) := by decide +kernel) (hgx1 : Gl X x1 := by rfl) (hgx2 : Gl X x2 := by rfl) (hn1 : x1 ≠ "__name__" := by decide) (hn2 : x2 ≠ "__name__" := by decide) (hdb1 : (x1 == ("__debug__" : Str)) = false := by decide) (hdb2 : (x2 == ("__debug__" : Str)) = false := by decide)
    (hg : Gl X "isinstance" := by rfl) (he : starEach (e :: [.Tuple [.Name x1 p1, .Name x2 p2] n tpos]) X.env = (false, eval e X.env) :: starEach [.Tuple [.Name x1 p1, .Name x2 p2] n tpos] X.env := by rfl)
    (he2 : starEach (.Tuple [.Name x1 p1, .Name x2 p2] n tpos :: []) X.env = (false, eval (.Tuple [.Name x1 p1, .Name x2 p2] n tpos) X.env) :: starEach [] X.env := by rfl)
    (he3 : starEach (.Name x1 p1 :: [.Name x2 p2]) X.env = (false, eval (.Name x1 p1) X.env) :: starEach [.Name x2 p2] X.env := by rfl) (he4 : starEach (.Name x2 p2 :: []) X.env = (false, eval (.Name x2 p2) X.env) :: starEach [] X.env := by rfl)
    (hpl : (backTo pos (starEach [.Tuple [.Name x1 p1, .Name x2 p2] n tpos] X.env)).any (·.1) = false := by rfl) (hvi : bootBuiltins "isinstance" = some (.builtin "isinstance") := by decide +kernel) :
    De X W (.Call (.Name "isinstance" p) [e, .Tuple [.Name x1 p1, .Name x2 p2] n tpos] [] pos) (eIsi2 u1 u2 f) := by
  obtain ⟨t, q, k⟩ := h
  refine ⟨_, pe_callB call_isiT hg hi hvi (pa_cons q (pa_cons (pe_tup (pa_cons (pe_bltn (v := .ty u1) hgx1 hx1 hv1 rfl hn1 hdb1) (pa_cons (pe_bltn (v := .ty u2) hgx2 hx2 hv2 rfl hn2 hdb2) pa_nil he4) he3)) pa_nil he2) he) (by decide) (by decide) he hpl, fun G α ρ ω σ H Q O S P => ?_⟩
  refine Post.step (t := t σ H) (k G α ρ ω σ H · O S) P fun d ω1 v G1 α1 H1 e1 O1 r1 P1 => ?_
  obtain ⟨b, e2, P2⟩ := P1.lift
  unfold isiD2 at e2
  cases q1 : tyD d with
  | none => rw [q1] at e2; cases e2
  | some tt =>
    rw [q1] at e2; cases e2
    refine ⟨by show 2 ≤ _; rw [sizeLine_eq]; decide, fun l hl => ?_⟩
    have gs : Grow G1 H1 G1 (L2.upd H1 l (.tup [.ty u1, .ty u2])) := Grow.side O1.sub hl
    exact ⟨v, l, [.ty u1, .ty u2], .type tt, [.type u1, .type u2], _, rfl, upd_same, .cons (.ty u1) (.cons (.ty u2) .nil), tyD_of gs.s q1 r1, kitAny2 ask1 ask2 (tyD_names q1), Post.grow O1 gs (show Rep X.K X.mg G1 _ _ from rep_bl.mpr rfl) P2⟩
theorem eIsi2_run (u1 u2 : String) (f : FE D) {ρ : Rho} {ω : Om} : eIsi2 u1 u2 f ρ ω = bindL (f ρ ω) (k := ⟨fun d ω1 => Res.lift (isiD2 u1 u2 d) ω1⟩) := rfl
end
end Dl
namespace Dl
open PySem L2
def copyLR (ω : Om) : D → Res SV
  | .lst ds => .ok (.own ω.length) (ω ++ [some (.lst ds)])
  | .tup ds => .ok (.own ω.length) (ω ++ [some (.lst ds)])
  | _ => .stuck
def eCopyL (f : FE D) : FE SV := fun ρ ω => (f ρ ω).bind fun d ω1 => copyLR ω1 d
section
variable {X : Cx} {W : WX} {e : Expr} {p1 pos : Pos}
theorem eCopyL_run (f : FE D) {ρ : Rho} {ω : Om} : eCopyL f ρ ω = bindL (f ρ ω) (k := ⟨fun d ω1 => copyLR ω1 d⟩) := rfl
theorem copyLR_lst {ω : Om} {ds : List D} : copyLR ω (.lst ds) = .ok (.own ω.length) (ω ++ [some (.lst ds)]) := rfl
theorem copyLR_tup {ω : Om} {ds : List D} : copyLR ω (.tup ds) = .ok (.own ω.length) (ω ++ [some (.lst ds)]) := rfl
theorem gT2_run {f : List D → Rho → Option Rho} {x y : D} {ρ : Rho} : gT 2 f (.tup [x, y]) ρ = f [x, y] ρ := rfl
end
end Dl
namespace Dl
open PySem L2 PySem.W
section
variable {X : Cx} {W : WX} {e : Expr} {te : TE} {p apos cpos pos : Pos}
def nValsD (d : D) : Option D := (asN d).map fun kvs => .lst (kvs.map (·.2))
def eNVals (f : FE D) : FE D := fun ρ ω => (f ρ ω).bind fun d ω1 => Res.lift (nValsD d) ω1
theorem eNVals_run (f : FE D) {ρ : Rho} {ω : Om} : eNVals f ρ ω = bindL (f ρ ω) (k := ⟨fun d ω1 => Res.lift (nValsD d) ω1⟩) := rfl
theorem nValsD_run {kvs : KVs} : nValsD (.dcN kvs) = some (.lst (kvs.map (·.2))) := rfl
end
end Dl
namespace Dl
open PySem L2
section
variable {X : Cx} {W : WX} {k : Nat} {f C p : Addr} {fd : FuncData} {ps : List Str} {e : Expr} {pos : Pos}
end
end Dl
namespace HT
open PySem PyProof.Rows
open PySem.SeqAt
open PySem.AutoSeq1 (wpAny_loadPart')
open PySem.MeetsSeq PySem.MeetsSeq2 PySem.MeetsSeq3
section
variable {prog : Program} {w : World} {A : Around} {E : Value → Shared → Prop} {s : Shared}
end
end HT
namespace Dl
open PySem L2 PySem.Spec PyProof.Rows
section
variable {X : Cx} {W : WX}
end
end Dl
namespace Dl
open PySem L2
section
variable {X : Cx} {W : WX} {k : Nat} {f C : Addr} {fd : FuncData} {ps : List Str} {x : Str} {e o : Expr} {es : List Expr} {p pos apos : Pos} {g : FE (List SV)}
end
end Dl
namespace Dl
open PySem PyProof.Rows PySem.W
open L2 (V Hp VK Cx Inv OpR R2 SqL Vals RelV upd)
theorem vals_rep {xs : List V} {its : List Value} (r : Vals xs its) : ∀ k : Nat, Vals (List.replicate k xs).flatten (List.replicate k its).flatten
  | 0 => by simp; exact .nil
  | k + 1 => by rw [List.replicate_succ, List.replicate_succ, List.flatten_cons, List.flatten_cons]; exact Vals.append r (vals_rep r k)
theorem rep_len {xs : List V} : ∀ k : Nat, (List.replicate k xs).flatten.length = k * xs.length
  | 0 => by simp
  | k + 1 => by rw [List.replicate_succ, List.flatten_cons, List.length_append, rep_len k, Nat.add_mul]; omega
def rRepL (K : PySem.W.Frag) : R2 := fun x y H Q => ∃ a k xs, x = .ref a ∧ y = V.int k ∧ SqL K H a xs ∧ 0 ≤ k ∧ k ≤ 1000 ∧ xs.length ≤ 1000 ∧ ∀ p, H p = none → Q (.ref p) (L2.upd H p (.lst (List.replicate k.toNat xs).flatten))
theorem op_repL {X : Cx} : OpR X (binaryOp .Mult) (rRepL X.K) := by
  intro pins s σ H x y v u Q I rx ry h
  obtain ⟨a, k, xs, rfl, rfl, h1, k0, k1, hz, q⟩ := h
  cases rx
  obtain ⟨t, rfl⟩ := ry
  obtain ⟨its, r1, ⟨⟨cls, dd, data, sl⟩, n, ho, hc, hd, he⟩, z1⟩ := Inv.list I h1
  simp only at hc hd he
  subst hc hd he
  have l1 := r1.length
  have hm : its.length * k.toNat ≤ 1000 * 1000 := Nat.mul_le_mul (by omega) (by omega)
  refine wpAny_binaryOp_repeat_ref (T := "list") (U := "int") (by decide) ⟨_, ho, rfl⟩ (fun s' => typeIs_int s' k t) noFill_list_mul F.fills_int_mul F.slot_int_rmul repeat_list F.slot_int_index.lookup
    (call_meets F.slot_int_rmul (typeIs_int s k t) F.entry_int_rmul (F.args_int_rmul_2 _ _) (lm_int_rmul_list_any k t a its.toArray n none sl)
      ⟨ho, rfl, ⟨_, ho, rfl⟩, call_meets F.slot_list_mul ⟨_, ho, rfl⟩ F.entry_list_mul (F.args_list_mul_2 _ _)
        (lm_list_mul_any a its.toArray n none sl k t (by simp [Builtin.List.listFitsIndex]; omega) (by simp; omega) (by simp [Builtin.List.listTooLong, sizeLine]; omega)) ⟨ho, ?_⟩⟩)
  rw [listMul_foldl_if]
  refine ⟨.ref s.heap.objs.size, _, Inv.lnew I (vals_rep r1 k.toNat) ?_, rfl, q _ (Inv.fresh I)⟩
  rw [rep_len]
  show _ ≤ 16777216
  have := Nat.mul_le_mul (show k.toNat ≤ 1000 by omega) hz
  omega
end Dl
namespace Dl
open PySem L2
def opMulB : D → D → Option D
  | .lst ds, .int k => if 0 ≤ k ∧ k ≤ 1000 ∧ ds.length ≤ 1000 then some (.lst (List.replicate k.toNat ds).flatten) else none
  | x, y => opMulA x y
section
variable {K : PySem.W.Frag} {mg : MG} {X : Cx} {W : WX}
def rMulB (K : PySem.W.Frag) : R2 := fun x y H Q => rMulA K x y H Q ∨ rRepL K x y H Q
theorem op_mulB : OpR X (binaryOp .Mult) (rMulB X.K) := op_mulA.or op_repL
theorem bop_mulB : Bop K mg (rMulB K) opMulB := by
  intro G H x y d v1 v2 Q s e r1 r2 k
  unfold opMulB at e
  split at e
  · rename_i ds n
    split at e
    · rename_i hb
      cases e
      rw [rep_lst] at r1
      obtain ⟨a, vs, rfl, h1, h2⟩ := r1
      rw [rep_int] at r2
      subst r2
      obtain ⟨g1, g2, g3⟩ := hb
      exact .inr ⟨a, n, vs, rfl, rfl, s.seq h1, g1, g2, by rw [h2.length]; exact g3, fun p hp => k _ _ _ (Grow.put s hp) (rep_newL (H := H) (s.free hp) (h2.rep _))⟩
    · cases e
  · exact .inl (bop_mulA G H x y d v1 v2 Q s e r1 r2 k)
theorem de_mulB {a b : Expr} {pos : Pos} {f g : FE D} (ja : De X W a f) (jb : De X W b g) : De X W (.BinOp a .Mult b pos) (eBin opMulB f g) := de_bin op_mulB bop_mulB ja jb
end
end Dl
namespace Dl
open PySem PySem.Calls PyProof.Rows PySem.W
section
variable {prog : Program} {w : World} {A : Around} {E : Value → Shared → Prop} {s : Shared}
end
end Dl
namespace Dl
open PySem L2
section
variable {X : Cx}
end
end Dl
namespace PySem.W
open PyProof.Rows
section
variable {prog : Program} {w : World} {A : Around} {E : Value → Shared → Prop} {s : Shared} {K : Frag} {x C L f : Addr} {h₀ : Heap} {m : Str → Option Value} {ox : Obj} {od : Option Obj} {b tb : Value}
end
end PySem.W
namespace Dl
open PySem L2
section
variable {X : Cx} {nms : List Str} {i j : Nat} {y : Str} {e : Expr} {es : List Expr} {pos p' pl p1 p2 p3 p4 : Pos}
end
end Dl
namespace Dl
open PySem L2
section
variable {X : Cx} {W : WX} {k : Nat} {f C : Addr} {fd : FuncData} {ps : List Str}
end
section
variable {X : Cx} {W : WX} {o e : Expr} {fo fe : FE D} {p2 p3 : Pos}
end
end Dl
namespace Dl
open PySem L2
section
variable {K : PySem.W.Frag} {mg : MG}
structure LiesK (K : PySem.W.Frag) (mg : MG) (G0 : Hp) (α0 : List Addr) (H0 : Hp) (L : Addr) (G : Hp) (α : List Addr) (ω : Om) (acc : List (Key × D)) (H : Hp) : Prop where
  ext : Ext G0 α0 H0 G α H
  own : Own K mg G α ω H
  gl : G L = none
  na : L ∉ α
  at_ : ∃ kv, H L = some (.dK kv) ∧ RepK K mg G acc kv
theorem LiesK.step {G0 H0 G H G1 H1 : Hp} {α0 α α1 : List Addr} {L : Addr} {ω ω1 : Om} {acc : List (Key × D)} (B : LiesK K mg G0 α0 H0 L G α ω acc H) (e : Ext G α H G1 α1 H1) (O : Own K mg G1 α1 ω1 H1) : LiesK K mg G0 α0 H0 L G1 α1 ω1 acc H1 := by
  obtain ⟨vsa, h1, h2⟩ := B.at_
  obtain ⟨more, e1, e2⟩ := e.pre
  refine ⟨B.ext.trans e, O, ?_, ?_, vsa, e.keep L _ h1 B.na, RepK.mono e.g _ _ h2⟩
  · cases q : G1 L with
    | none => rfl
    | some o =>
      rcases e.new L o q with z | z | z
      · rw [B.gl] at z; cases z
      · rw [h1] at z; cases z
      · exact absurd z B.na
  · rw [e1]
    intro z
    rcases List.mem_append.mp z with z | z
    · exact B.na z
    · rw [e2 L z] at h1; cases h1
theorem LiesK.set {G0 H0 G H : Hp} {α0 α : List Addr} {L : Addr} {ω : Om} {acc acc' : List (Key × D)} {kv : List (Key × V)} (B : LiesK K mg G0 α0 H0 L G α ω acc H) (h0 : H0 L = none) (r : RepK K mg G acc' kv) : LiesK K mg G0 α0 H0 L G α ω acc' (L2.upd H L (.dK kv)) :=
  ⟨B.ext.setL h0, B.own.setL B.gl B.na, B.gl, B.na, kv, upd_same, r⟩
theorem LiesK.freeze {G0 H0 G H : Hp} {α0 α : List Addr} {L : Addr} {ω : Om} {acc : List (Key × D)} (B : LiesK K mg G0 α0 H0 L G α ω acc H) (h0 : H0 L = none) : ∃ G', Ext G0 α0 H0 G' α H ∧ Own K mg G' α ω H ∧ Rep K mg G' (.dcK acc) (.ref L) := by
  obtain ⟨vsa, h1, h2⟩ := B.at_
  have sg : Same G (L2.upd G L (.dK vsa)) := Same.upd B.gl
  refine ⟨L2.upd G L (.dK vsa), ⟨B.ext.g.trans sg, fun a o h => ?_, B.ext.keep, B.ext.live, B.ext.pre⟩, ⟨fun b u h => ?_, B.own.len, B.own.nd, B.own.ex, fun k u a h3 h4 => ?_⟩, rep_dcK.mpr ⟨L, vsa, rfl, upd_same, RepK.mono sg _ _ h2⟩⟩
  · by_cases z : a = L
    · subst z; exact .inr (.inl h0)
    · rw [upd_ne z] at h; exact B.ext.new a o h
  · by_cases z : b = L
    · subst z; rw [upd_same] at h; cases h; exact h1
    · rw [upd_ne z] at h; exact B.own.sub b u h
  · obtain ⟨q1, q2⟩ := B.own.obj k u a h3 h4
    have : a ≠ L := fun z => B.na (by rw [← z]; exact List.mem_of_getElem? h4)
    exact ⟨by rw [upd_ne this]; exact q1, q2.mono sg rfl⟩
def dcL (tg : FG) (tt : FE Bool) (fk fv : FE D) (ρ : Rho) : List D → List (Key × D) → Om → Res D
  | [], acc, ω => .ok (.dcK acc) ω
  | d :: ds, acc, ω => match tg d ρ with
    | none => .stuck
    | some ρ1 => match tt ρ1 ω with
      | .ok true ω1 => match fk ρ1 ω1 with
        | .ok y ω2 => match fv ρ1 ω2 with
          | .ok z ω3 => match keyK y with
            | some k => if acc.length < lim then dcL tg tt fk fv ρ ds (dkPut acc k z) ω3 else .stuck
            | none => .stuck
          | _ => .stuck
        | _ => .stuck
      | .ok false ω1 => dcL tg tt fk fv ρ ds acc ω1
      | _ => .stuck
def eDc (vs : List Nat) (it : FE (List D)) (tg : FG) (tt : FE Bool) (fk fv : FE D) : FE D := fun ρ ω => (it ρ ω).bind fun ds ω1 => dcL tg tt fk fv (wipeR ρ vs) ds [] ω1
end
section
variable {X : Cx} {W : WX} {pos : Pos}
end
end Dl
namespace Dl
open PySem L2 PySem.W
def rLtD (K : PySem.W.Frag) : R2 := fun x y H Q => ∃ p q, Dp K H x p ∧ Dp K H y q ∧ okP [p, q] = true ∧ Q (.bl (dataLt p q)) H
theorem okP_two {p q : PyData} (h : okP [p, q] = true) : alike p q = true ∧ p ≠ .none ∧ p.depth ≤ 50 := by
  unfold okP at h
  obtain ⟨h1, h2⟩ := Bool.and_eq_true_iff.mp h
  obtain ⟨h2, h3⟩ := Bool.and_eq_true_iff.mp h2
  have h3 := of_decide_eq_true h3
  refine ⟨alikeP_ok h1 p List.mem_cons_self q (List.mem_cons_of_mem _ List.mem_cons_self), fun z => ?_, ?_⟩
  · subst z; cases h2
  · rw [PyData.depthAll] at h3; omega
theorem op_ltD {X : Cx} (hu : X.A.units + 100 < cLine) : OpR X (compareOp .Lt) (rLtD X.K) := by
  intro pins s σ H x y v u Q I rx ry h
  obtain ⟨p, q, d1, d2, ok, hq⟩ := h
  obtain ⟨h1, h2, h3⟩ := okP_two ok
  obtain ⟨as, r1⟩ := Dp.reads I _ _ _ d1 rx
  obtain ⟨bs, r2⟩ := Dp.reads I _ _ _ d2 ry
  have hb : X.A.units + min p.depth q.depth < cLine := by have := Nat.min_le_left p.depth q.depth; omega
  exact rcLt_alike p q X.A s v u as bs r1 r2 h1 h2 hb X.prog X.w _ _ ⟨.bl _, H, I, rfl, hq⟩
def opLtD (x y : D) : Option D := match toPy x, toPy y with
  | some p, some q => if okP [p, q] = true then some (.bl (dataLt p q)) else none
  | _, _ => none
theorem bop_ltD {K : PySem.W.Frag} {mg : MG} : Bop K mg (rLtD K) opLtD := by
  intro G H x y d v1 v2 Q s e r1 r2 k
  unfold opLtD at e
  split at e
  · rename_i p q hp hq
    split at e
    · rename_i hs
      cases e
      exact ⟨p, q, dp_of s _ _ _ hp r1, dp_of s _ _ _ hq r2, hs, k _ G H (Grow.refl s) (rep_bl.mpr rfl)⟩
    · cases e
  · cases e
theorem cmp_ltD {X : Cx} {k : Nat} (hr : Room k X.A) : Cmp X .Lt opLtD := ⟨_, op_ltD (u100 hr), bop_ltD⟩
section
variable {X : Cx} {W : WX} {e : Expr} {fe : FE D}
def sExt (i : Nat) (fe : FE D) : FS := fun ρ ω => match ownK ρ i with
  | none => .stuck
  | some k => match ownL ω k with
    | none => .stuck
    | some _ => (fe ρ ω).out ρ fun d ω1 => match d, ownL ω1 k with
      | .lst es, some ds => if ds.length + es.length ≤ lim then .next ρ (ω1.set k (some (.lst (ds ++ es)))) else .stuck
      | _, _ => .stuck
end
end Dl
namespace Dl
open PySem L2 PySem.Spec PyProof.Rows
def rg3N (a b c : Int) : Nat := (Builtin.Range.rangeSize a b c).toNat
def rg3I (a b c : Int) : List Int := (List.range (rg3N a b c)).map fun i => a + (i : Nat) * c
def Rg3Ok (a b c : Int) : Prop := 0 < c ∧ c < 1000 ∧ Builtin.Range.small a b c = true ∧ rg3N a b c ≤ 16777216
instance (a b c : Int) : Decidable (Rg3Ok a b c) := by unfold Rg3Ok; exact inferInstance
section
variable {X : Cx} {W : WX} {a b c : Expr} {ta tb tc : TE} {p1 p2 pos pos' : Pos}
def rg3D (x y z : D) : Option D := match asInt x, asInt y, asInt z with
  | some i, some j, some k => if Rg3Ok i j k then some (.tup ((rg3I i j k).map D.int)) else none
  | _, _, _ => none
def eRg3 (f g h : FE D) : FE D := fun ρ ω => (f ρ ω).bind fun x ω1 => (g ρ ω1).bind fun y ω2 => (h ρ ω2).bind fun z ω3 => Res.lift (rg3D x y z) ω3
end
end Dl
namespace Dl
open PySem L2
section
variable {K : PySem.W.Frag} {mg : MG}
def lcN (tg : FG) (tt : FE Bool) (el : FE D) (ρ : Rho) : List D → List D → Om → Res SV
  | [], acc, ω => .ok (.own ω.length) (ω ++ [some (.lst acc)])
  | d :: ds, acc, ω => match tg d ρ with
    | none => .stuck
    | some ρ1 => match tt ρ1 ω with
      | .ok true ω1 => match el ρ1 ω1 with
        | .ok y ω2 => if acc.length < lim then lcN tg tt el ρ ds (acc ++ [y]) ω2 else .stuck
        | _ => .stuck
      | .ok false ω1 => lcN tg tt el ρ ds acc ω1
      | _ => .stuck
def eLcN (vs : List Nat) (it : FE (List D)) (tg : FG) (tt : FE Bool) (el : FE D) : FE SV := fun ρ ω => (it ρ ω).bind fun ds ω1 => lcN tg tt el (wipeR ρ vs) ds [] ω1
end
section
variable {X : Cx} {W : WX} {pos : Pos}
end
end Dl
noncomputable section
namespace Pk
open PySem Dl
def f__law_draws : FS :=
  (sRetNew (aCons (aVal (eCallB oList (aCons (aVal (eVar 0)) aNil))) (aCons (aVal (eC (.int 0))) (aCons (aVal (eC (.int 0))) (aCons (aVal (eC (.int 7))) aNil)))))
def F__law_draws : Fn := fnE 1 1 f__law_draws
def f__law_can : FS :=
  (sRet (eAnd (eIx (eVar 0) (eC (.int 2))) (eBin opNe (eIx (eVar 0) (eC (.int 0))) (eIx (eVar 0) (eC (.int 1))))))
def F__law_can : FnP := fnP 1 1 f__law_can
def f__law_places : FS :=
  (sSeq (sNewL 2 aNil)
    (sSeq (sFor (eIt1 itR1 (eCallB oLen (aCons (aVal (eVar 0)) aNil))) (gN 3)
    (sSeq (sApp 2 (eTup (aCons (aVal (eVar 3)) (aCons (aVal (eC (.bl false))) aNil))))
    (sIf (eTest (eCallP F__law_can (aCons (aVal (eVar 1)) aNil))) (sApp 2 (eTup (aCons (aVal (eVar 3)) (aCons (aVal (eC (.bl true))) aNil)))) sNext)))
    (sRetL 2)))
def F__law_places : FnP := fnP 2 4 f__law_places
def f__law_pick : FS :=
  (sSeq (sIf (eTest (eBin opEq (eIxO 0 (eC (.int 2))) (eC (.int 0)))) (sIf (eTest (eBin opLt (eIxO 0 (eC (.int 1))) (eCallB oLen (aCons (aVal (eIxO 0 (eC (.int 0)))) aNil)))) (sSeq (sSet 3 (eIx (eIxO 0 (eC (.int 0))) (eIxO 0 (eC (.int 1)))))
    (sSeq (sSetIx 0 (eC (.int 1)) (eBin opAdd (eIxO 0 (eC (.int 1))) (eC (.int 1))))
    (sIf (eTest (eBin opGe (eVar 3) (eBin opPow (eC (.int 10)) (eC (.int 18))))) (sSetIx 0 (eC (.int 2)) (eVar 3)) (sSetIx 0 (eC (.int 3)) (eBin opMod (eCallB oInt (aCons (aVal (eBin opAdd (eBin opAdd (eBin opMulA (eIxO 0 (eC (.int 3))) (eC (.int 48271))) (eBin opMulA (eVar 3) (eC (.int 69621)))) (eC (.int 11)))) aNil)) (eC (.int 2147483647))))))) (sSetIx 0 (eC (.int 3)) (eBin opMod (eCallB oInt (aCons (aVal (eBin opAdd (eBin opMulA (eIxO 0 (eC (.int 3))) (eC (.int 48271))) (eC (.int 7)))) aNil)) (eC (.int 2147483647))))) sNext)
    (sSeq (sIf (eTest (eBin opGt (eIxO 0 (eC (.int 2))) (eC (.int 0)))) (sSeq (sSet 2 (eBin opMod (eCallB oInt (aCons (aVal (eIxO 0 (eC (.int 2)))) aNil)) (eVar 1)))
    (sSeq (sSetIx 0 (eC (.int 2)) (eBin opDiv (eIxO 0 (eC (.int 2))) (eVar 1)))
    (sRet (eVar 2)))) sNext)
    (sRet (eBin opMod (eBin opMod (eCallB oInt (aCons (aVal (eBin opMulA (eIxO 0 (eC (.int 3))) (eC (.int 16807)))) aNil)) (eC (.int 2147483629))) (eVar 1)))))
def F__law_pick : Fn := fnE 2 4 f__law_pick
def f__law_body : FS :=
  (sSeq (sPar 3 4 (aCons (aVal (eIx (eVar 1) (eC (.int 0)))) (aCons (aVal (eIx (eVar 1) (eC (.int 1)))) aNil)))
    (sSeq (sIf (eTest (eIx (eVar 2) (eC (.int 1)))) (sPar 3 4 (aCons (aVal (eVar 4)) (aCons (aVal (eVar 3)) aNil))) sNext)
    (sRet (eList (aCons (aVal (eBin opSub (eIx (eVar 0) (eIx (eVar 2) (eC (.int 0)))) (eVar 3))) (aCons (aVal (eBin opAdd (eIx (eVar 0) (eIx (eVar 2) (eC (.int 0)))) (eVar 4))) aNil))))))
def F__law_body : FnP := fnP 3 5 f__law_body
def f__law_meet : FS :=
  (sSeq (sIf (eTest (eBin opGt (eIx (eIx (eVar 2) (eVar 3)) (eC (.int 0))) (eIx (eIx (eVar 2) (eVar 4)) (eC (.int 0))))) (sPar 3 4 (aCons (aVal (eVar 4)) (aCons (aVal (eVar 3)) aNil))) sNext)
    (sSeq (sSet 5 (eCallP F__law_body (aCons (aVal (eVar 0)) (aCons (aVal (eIx (eVar 1) (eVar 3))) (aCons (aVal (eIx (eVar 2) (eVar 3))) aNil)))))
    (sRet (eBin opGt (eIx (eVar 5) (eC (.int 1))) (eIx (eCallP F__law_body (aCons (aVal (eVar 0)) (aCons (aVal (eIx (eVar 1) (eVar 4))) (aCons (aVal (eIx (eVar 2) (eVar 4))) aNil)))) (eC (.int 0)))))))
def F__law_meet : FnP := fnP 5 6 f__law_meet
def f__law_fault : FS :=
  (sSeq (sSet 3 (eLc [4] (eIt1 itR1 (eCallB oLen (aCons (aVal (eVar 2)) aNil))) (gN 4) (eTest (eBin opNotN (eIx (eVar 2) (eVar 4)) (eC .non))) (eVar 4)))
    (sSeq (sFor (eIt1 itSeq (eVar 3)) (gN 4)
    (sIf (eAndT (eTest (eIx (eIx (eVar 2) (eVar 4)) (eC (.int 1)))) (eNotT (eTest (eCallP F__law_can (aCons (aVal (eIx (eVar 1) (eVar 4))) aNil))))) (sRet (eTup (aCons (aVal (eC (.str "turn"))) (aCons (aVal (eVar 4)) aNil)))) sNext))
    (sSeq (sFor (eIt1 itSeq (eVar 3)) (gN 5)
    (sFor (eIt1 itSeq (eVar 3)) (gN 6)
    (sIf (eAndT (eTest (eBin opLt (eVar 5) (eVar 6))) (eTest (eBin opEq (eIx (eIx (eVar 2) (eVar 5)) (eC (.int 0))) (eIx (eIx (eVar 2) (eVar 6)) (eC (.int 0)))))) (sRet (eTup (aCons (aVal (eC (.str "socket"))) (aCons (aVal (eVar 5)) (aCons (aVal (eVar 6)) aNil))))) sNext)))
    (sSeq (sFor (eIt1 itSeq (eVar 3)) (gN 5)
    (sFor (eIt1 itSeq (eVar 3)) (gN 6)
    (sIf (eAndT (eTest (eBin opLt (eVar 5) (eVar 6))) (eTest (eCallP F__law_meet (aCons (aVal (eVar 0)) (aCons (aVal (eVar 1)) (aCons (aVal (eVar 2)) (aCons (aVal (eVar 5)) (aCons (aVal (eVar 6)) aNil)))))))) (sRet (eTup (aCons (aVal (eC (.str "overlap"))) (aCons (aVal (eVar 5)) (aCons (aVal (eVar 6)) aNil))))) sNext)))
    (sRet (eC .non))))))
def F__law_fault : FnP := fnP 3 7 f__law_fault
def f__law_sockets : FS :=
  (sSeq (sPar 3 4 (aCons (aVal (eTup aNil)) (aCons (aVal (eVal (eCallE F__law_pick (aCons (eSlot 0) (aCons (aVal (eC (.int 20))) aNil))))) aNil)))
    (sSeq (sFor (eIt1 itR1 (eBin opAdd (eC (.int 1)) (eVal (eCallE F__law_pick (aCons (eSlot 0) (aCons (aVal (eVar 1)) aNil)))))) (gN 2)
    (sSeq (sIf (eTest (eBin opLe (eVar 4) (eC (.int 300)))) (sSet 3 (eBin opAdd (eVar 3) (eTup (aCons (aVal (eVar 4)) aNil)))) sNext)
    (sSet 4 (eBin opAdd (eVar 4) (eIx (eList (aCons (aVal (eC (.int 30))) (aCons (aVal (eBin opAdd (eC (.int 1)) (eVal (eCallE F__law_pick (aCons (eSlot 0) (aCons (aVal (eC (.int 40))) aNil)))))) (aCons (aVal (eC (.int 20))) aNil)))) (eVal (eCallE F__law_pick (aCons (eSlot 0) (aCons (aVal (eC (.int 3))) aNil)))))))))
    (sRet (eVar 3))))
def F__law_sockets : Fn := fnE 2 5 f__law_sockets
def f__law_plug : FS :=
  (sSeq (sPar 1 2 (aCons (aVal (eIx (eList (aCons (aVal (eC (.int 0))) (aCons (aVal (eC (.int 5))) (aCons (aVal (eC (.int 10))) (aCons (aVal (eC (.int 15))) (aCons (aVal (eC (.int 20))) (aCons (aVal (eC (.int 30))) (aCons (aVal (eC (.int 40))) (aCons (aVal (eC (.int 60))) aNil))))))))) (eVal (eCallE F__law_pick (aCons (eSlot 0) (aCons (aVal (eC (.int 8))) aNil)))))) (aCons (aVal (eVal (eCallE F__law_pick (aCons (eSlot 0) (aCons (aVal (eC (.int 41))) aNil))))) aNil)))
    (sRet (eTup (aCons (aVal (eVar 1)) (aCons (aVal (eIx (eList (aCons (aVal (eVar 2)) (aCons (aVal (eC (.int 15))) (aCons (aVal (eVar 1)) aNil)))) (eVal (eCallE F__law_pick (aCons (eSlot 0) (aCons (aVal (eC (.int 3))) aNil)))))) (aCons (aVal (eBin opEq (eVal (eCallE F__law_pick (aCons (eSlot 0) (aCons (aVal (eC (.int 2))) aNil)))) (eC (.int 0)))) aNil))))))
def F__law_plug : Fn := fnE 1 3 f__law_plug
def f__law_plugs : FS :=
  (sRet (eCallB oTuple (aCons (aVal (eLc [2] (eIt1 itR1 (eBin opAdd (eC (.int 1)) (eVal (eCallE F__law_pick (aCons (eSlot 0) (aCons (aVal (eVar 1)) aNil)))))) (gN 2) eTrue (eVal (eCallE F__law_plug (aCons (eSlot 0) aNil))))) aNil)))
def F__law_plugs : Fn := fnE 2 3 f__law_plugs
def f_is_from : FS :=
  (sRet (eAnd (eIsi "int" (eVar 0)) (eAnd (eNot (eIsi "bool" (eVar 0))) (eChain opLe opLe (eVar 1) (eVar 0) (eVar 2)))))
def F_is_from : FnP := fnP 3 3 f_is_from
def f_is_plug : FS :=
  (sSeq (sIf (eOrT (eNotT (eTest (eIsi "tuple" (eVar 0)))) (eOrT (eTest (eBin opNe (eCallB oLen (aCons (aVal (eVar 0)) aNil)) (eC (.int 3)))) (eNotT (eTest (eOnL oAllL (eLst (eLc [1] (eIt1 itSeq (eSl (eVar 0) eNoPart (ePart (eC (.int 2))))) (gN 1) eTrue (eCallP F_is_from (aCons (aVal (eVar 1)) (aCons (aVal (eC (.int 0))) (aCons (aVal (eC (.int 60))) aNil))))))))))) (sRet (eC (.bl false))) sNext)
    (sRet (eIsi "bool" (eIx (eVar 0) (eC (.int 2))))))
def F_is_plug : FnP := fnP 1 2 f_is_plug
def f_sides : FS :=
  (sRet (eIf (eTest (eVar 1)) (eTup (aCons (aVal (eIx (eVar 0) (eC (.int 1)))) (aCons (aVal (eIx (eVar 0) (eC (.int 0)))) aNil))) (eSl (eVar 0) eNoPart (ePart (eC (.int 2))))))
def F_sides : FnP := fnP 2 2 f_sides
def f_body : FS :=
  (sSeq (sAsg (eCallP F_sides (aCons (aVal (eVar 1)) (aCons (aVal (eIx (eVar 2) (eC (.int 1)))) aNil))) (gT 2 (gsCons (gN 3) (gsCons (gN 4) gsNil))))
    (sRet (eTup (aCons (aVal (eBin opSub (eIx (eFld "Strip" "rows" (eVar 0)) (eIx (eVar 2) (eC (.int 0)))) (eVar 3))) (aCons (aVal (eBin opAdd (eIx (eFld "Strip" "rows" (eVar 0)) (eIx (eVar 2) (eC (.int 0)))) (eVar 4))) aNil)))))
def F_body : FnP := fnP 3 5 f_body
def f_can_turn : FS :=
  (sRet (eAnd (eIx (eVar 0) (eC (.int 2))) (eBin opNe (eIx (eVar 0) (eC (.int 0))) (eIx (eVar 0) (eC (.int 1))))))
def F_can_turn : FnP := fnP 1 1 f_can_turn
def f_stands_of : FS :=
  (sRet (eIf (eTest (eCallP F_can_turn (aCons (aVal (eVar 0)) aNil))) (eList (aCons (aVal (eC (.bl false))) (aCons (aVal (eC (.bl true))) aNil))) (eList (aCons (aVal (eC (.bl false))) aNil))))
def F_stands_of : FnP := fnP 1 1 f_stands_of
def lc_Strip_d__init_d__2_1 : FE D :=
  (eLc [2] (eIt1 itSeq (eVar 1)) (gN 2) eTrue (eCallP F_is_from (aCons (aVal (eVar 2)) (aCons (aVal (eC (.int 0))) (aCons (aVal (eC (.int 300))) aNil)))))
def lc_Strip_d__init_d__2_2 : FE D :=
  (eLc [2, 3] (eIt2 itZ (eVar 1) (eSl (eVar 1) (ePart (eC (.int 1))) eNoPart)) (gT 2 (gsCons (gN 2) (gsCons (gN 3) gsNil))) eTrue (eBin opLt (eVar 2) (eVar 3)))
def f_Strip_d__init_d__2 : FS :=
  (sSeq (sIf (eOrT (eNotT (eTest (eIsi "tuple" (eVar 1)))) (eNotT (eTest (eChain opLe opLe (eC (.int 1)) (eCallB oLen (aCons (aVal (eVar 1)) aNil)) (eC (.int 9)))))) (sRaise "BadSockets") sNext)
    (sSeq (sIf (eNotT (eTest (eOnL oAllL (eLst lc_Strip_d__init_d__2_1)))) (sRaise "BadSockets") sNext)
    (sSeq (sIf (eNotT (eTest (eOnL oAllL (eLst lc_Strip_d__init_d__2_2)))) (sRaise "BadSockets") sNext)
    (sFldO 0 "Strip" "rows" (eVar 1)))))
def F_Strip_d__init_d__2 : Fn := fnE 2 4 f_Strip_d__init_d__2
def bd_check_plugs_2_1 : FS :=
  (sIf (eNotT (eTest (eCallP F_is_plug (aCons (aVal (eVar 3)) aNil)))) (sRaiseI "BadPlugs" ["index"] (aCons (aVal (eVar 2)) aNil)) sNext)
def f_check_plugs_2 : FS :=
  (sSeq (sIf (eOrT (eNotT (eTest (eIsi "tuple" (eVar 0)))) (eNotT (eTest (eChain opLe opLe (eC (.int 1)) (eCallB oLen (aCons (aVal (eVar 0)) aNil)) (eVar 1))))) (sRaiseI "BadPlugs" ["index"] (aCons (aVal (eC .non)) aNil)) sNext)
    (sFor (eIt1 itEn (eVar 0)) (gT 2 (gsCons (gN 2) (gsCons (gN 3) gsNil)))
    bd_check_plugs_2_1))
def F_check_plugs_2 : FnP := fnP 2 4 f_check_plugs_2
def f__law_odd_plug : FS :=
  (sSeq (sSet 1 (eList (aCons (aVal (eC .non)) (aCons (aVal (eTup (aCons (aVal (eC (.int 1))) (aCons (aVal (eC (.int 2))) aNil)))) (aCons (aVal (eList (aCons (aVal (eC (.int 1))) (aCons (aVal (eC (.int 2))) (aCons (aVal (eC (.bl true))) aNil))))) (aCons (aVal (eTup (aCons (aVal (eC (.int 1))) (aCons (aVal (eC (.int 2))) (aCons (aVal (eC (.int 1))) aNil))))) (aCons (aVal (eTup (aCons (aVal (eC (.int 61))) (aCons (aVal (eC (.int 0))) (aCons (aVal (eC (.bl true))) aNil))))) (aCons (aVal (eTup (aCons (aVal (eC (.int 0))) (aCons (aVal (eUn opNeg (eC (.int 1)))) (aCons (aVal (eC (.bl false))) aNil))))) (aCons (aVal (eTup (aCons (aVal (eC (.bl true))) (aCons (aVal (eC (.int 0))) (aCons (aVal (eC (.bl false))) aNil))))) (aCons (aVal (eTup (aCons (aVal (eC (.int 0))) (aCons (aVal (eC (.int 0))) (aCons (aVal (eC .non)) aNil))))) (aCons (aVal (eC (.str "plug"))) aNil)))))))))))
    (sRet (eIx (eVar 1) (eVal (eCallE F__law_pick (aCons (eSlot 0) (aCons (aVal (eC (.int 9))) aNil)))))))
def F__law_odd_plug : Fn := fnE 1 2 f__law_odd_plug
def bd__law_placings_1 : FS :=
  (sSeq (sSet 8 (eBin opAdd (eBin opAdd (eSl (eVar 6) eNoPart (ePart (eVar 4))) (eTup (aCons (aVal (eVar 7)) aNil))) (eSl (eVar 6) (ePart (eBin opAdd (eVar 4) (eC (.int 1)))) eNoPart)))
    (sIf (eTest (eBin opIsN (eCallP F__law_fault (aCons (aVal (eVar 0)) (aCons (aVal (eVar 1)) (aCons (aVal (eVar 8)) aNil)))) (eC .non))) (sApp 5 (eVar 8)) sNext))
def bd__law_placings_2 : FS :=
  (sFor (eIt1 itSeq (eCallP F__law_places (aCons (aVal (eVar 0)) (aCons (aVal (eIx (eVar 1) (eVar 4))) aNil)))) (gN 7)
    bd__law_placings_1)
def bd__law_placings_3 : FS :=
  (sSeq (sNewL 5 aNil)
    (sSeq (sFor (eIt1 itSeq (eVar 3)) (gN 6)
    bd__law_placings_2)
    (sGf 5 (sSet 3 (eVar 5)))))
def f__law_placings : FS :=
  (sSeq (sSet 3 (eList (aCons (aVal (eBin opMulA (eTup (aCons (aVal (eC .non)) aNil)) (eCallB oLen (aCons (aVal (eVar 1)) aNil)))) aNil)))
    (sSeq (sFor (eIt1 itSeq (eVar 2)) (gN 4)
    bd__law_placings_3)
    (sRet (eVar 3))))
def F__law_placings : FnP := fnP 3 9 f__law_placings
def bd_layers_of_1 : FS :=
  (sSeq (sAsg (eCallP F_body (aCons (aVal (eVar 0)) (aCons (aVal (eIx (eVar 1) (eVar 8))) (aCons (aVal (eTup (aCons (aVal (eVar 5)) (aCons (aVal (eVar 11)) aNil)))) aNil)))) (gT 2 (gsCons (gN 12) (gsCons (gN 13) gsNil))))
    (sIf (eAndT (eTest (eBin opGe (eVar 12) (eVar 10))) (eTest (eBin opEq (eKGet (eVar 3) (eVar 8) (eTup (aCons (aVal (eVar 5)) (aCons (aVal (eVar 11)) aNil)))) (eTup (aCons (aVal (eVar 5)) (aCons (aVal (eVar 11)) aNil)))))) (sSeq (sSet 14 (eTup (aCons (aVal (eCallB oTuple (aCons (aVal (eOnL oSortL (eLst (eList (aStar (eVar 9) (aCons (aVal (eVar 8)) aNil)))))) aNil))) (aCons (aVal (eVar 13)) aNil))))
    (sNPut 6 (eVar 14) (eBin opAdd (eNGetO 6 (eVar 14) (eC (.int 0))) (eVar 7)))) sNext))
def bd_layers_of_2 : FS :=
  (sIf (eTest (eBin (opIn true) (eVar 8) (eVar 9))) (sFor (eIt1 itSeq (eCallP F_stands_of (aCons (aVal (eIx (eVar 1) (eVar 8))) aNil))) (gN 11)
    bd_layers_of_1) sNext)
def bd_layers_of_3 : FS :=
  (sFor (eIt1 itSeq (eVar 2)) (gN 8)
    bd_layers_of_2)
def bd_layers_of_4 : FS :=
  (sSeq (sSetS 6 (eCopyN (eVar 4)))
    (sSeq (sFor (eIt1 itNItems (eVar 4)) (gT 2 (gsCons (gT 2 (gsCons (gN 9) (gsCons (gN 10) gsNil))) (gsCons (gN 7) gsNil)))
    bd_layers_of_3)
    (sGf 6 (sSet 4 (eVar 6)))))
def f_layers_of : FS :=
  (sSeq (sSet 4 (eNDisp (eTup (aCons (aVal (eTup aNil)) (aCons (aVal (eC (.int (-1000)))) aNil))) (eC (.int 1))))
    (sSeq (sFor (eIt1 itR1 (eCallB oLen (aCons (aVal (eFld "Strip" "rows" (eVar 0))) aNil))) (gN 5)
    bd_layers_of_4)
    (sRet (eVar 4))))
def F_layers_of : FnP := fnP 4 15 f_layers_of
def lc_count_of_1 : FE D :=
  (eLc [5, 6, 7] (eIt1 itNItems (eVar 4)) (gT 2 (gsCons (gT 2 (gsCons (gN 6) (gsCons (gN 7) gsNil))) (gsCons (gN 5) gsNil))) (eTest (eBin opEq (eVar 6) (eVar 2))) (eVar 5))
def f_count_of : FS :=
  (sSeq (sSet 4 (eCallP F_layers_of (aCons (aVal (eVar 0)) (aCons (aVal (eVar 1)) (aCons (aVal (eVar 2)) (aCons (aVal (eVar 3)) aNil))))))
    (sRet (eOnL oSumL (eLst lc_count_of_1))))
def F_count_of : FnP := fnP 4 8 f_count_of
def f_everyone : FS :=
  (sRet (eRg1 D.tup (eCallB oLen (aCons (aVal (eVar 0)) aNil))))
def F_everyone : FnP := fnP 1 1 f_everyone
end Pk
namespace Pk
open PySem Dl L2
local macro_rules
  | `(tactic| push_cast [$xs,*]) => `(tactic| simp -implicitDefEqProofs only [↓eC_run, ↓eVar_run, ↓eSlot_run, ↓eBin_run, ↓eUn_run, ↓eTest_run, ↓eAndT_run, ↓eOrT_run, ↓eNotT_run, ↓eTrue_run, ↓eAnd_run, ↓eOr_run, ↓eNot_run, ↓eIf_run, ↓aNil_run, ↓aCons_run, ↓aVal_run, ↓eTup_run, ↓eList_run, ↓eLst_run, ↓eCallB_run, ↓eOnL_run, ↓eIsi_run, ↓eSl_run, ↓ePart_run, ↓eNoPart_run, ↓eChain_run, ↓eIxO_run, ↓eOwnL_run, ↓sNext_run, ↓sSeq_run, ↓sIf_run, ↓sExpr_run, ↓sRet_run, ↓sRetS_run, ↓sRetN_run, ↓sBreak_run, ↓sCont_run, ↓sAsg_run, ↓sSetS_run, ↓sPar_run, ↓sFor_run, ↓sWhile_run, ↓eIt1_run, ↓eIt2_run, ↓eIt3_run, ↓eLc_run, ↓eLc2_run, ↓sNewL_run, ↓sApp_run, ↓sSetIx_run, ↓sRetL_run, ↓sRetNew_run, ↓eCallP_run, ↓eCallE_run, ↓eVal_run, ↓eMake_run, ↓eFld_run, ↓sRaise_run, ↓sRaiseI_run, ↓sTry_run, ↓eIsx_run, ↓sPar3_run, ↓eNewL_run, ↓eNDisp_run, ↓eKDisp_run, ↓eEmptyK_run, ↓eNewN_run, ↓eKM_run, ↓eNGet_run, ↓eKGet_run, ↓eNGetO_run, ↓eCopyN_run, ↓sNPut_run, ↓aStar_run, ↓eRg1_run, ↓eIsi2_run, ↓eCopyL_run, ↓eNVals_run, bind_ok, bind_exc, out_ok, out_exc, lift_some, obind_next, obind_ret, obind_exc, obind_brk, obind_cont, varR_run, slotR_run, asBl_run, allD_nil, allD_cons, asLst_run, asI_run, chR_run, ownK_run, ownKR_run, ownL_run, ownLR_run, someR_run, someO_run, ixI_run, parR_run, gN_run, gsNil_run, gsCons_run, itSeq_lst, itSeq_tup, itEn_lst, itEn_tup, itZ_lst, itZ_tup, wipeR_nil, wipeR_cons, setIxR_run, finP_ret, finP_next, finP_exc, finE_ret, finE_next, finE_exc, callR_ok, callR_err, valR_run, makeR_ok, makeR_exc, opAdd_int, opI_run, opB_run, opMulA_int, opEq_run, opNe_run, opIsN_run, opNotN_run, opIx_tup, opIx_lst, opNeg_run, oLen_tup, oLen_lst, oInt_int, oInt_bl, oTuple_tup, oTuple_lst, oList_tup, oList_lst, oTupleL_run, oListL_run, oLenL_run, isi_int_non, isi_int_bl, isi_int_int, isi_int_str, isi_int_tup, isi_int_lst, isi_bool_non, isi_bool_bl, isi_bool_int, isi_bool_str, isi_bool_tup, isi_bool_lst, isi_tuple_non, isi_tuple_bl, isi_tuple_int, isi_tuple_str, isi_tuple_tup, isi_tuple_lst, isi_str_non, isi_str_bl, isi_str_int, isi_str_str, isi_str_tup, isi_str_lst, isi_list_non, isi_list_bl, isi_list_int, isi_list_str, isi_list_tup, isi_list_lst, atI_0, atI_1, atI_2, atI_3, atI_4, atI_5, atI_6, atI_7, atI_8, ixN_1_0, ixN_2_0, ixN_2_1, ixN_3_0, ixN_3_1, ixN_3_2, ixN_4_0, ixN_4_1, ixN_4_2, ixN_4_3, ixN_5_0, ixN_5_1, ixN_5_2, ixN_5_3, ixN_5_4, eqD_int, eqD_bl, eqD_non_non, isNon_non, isNon_bl, isNon_int, isNon_str, isNon_tup, isNon_lst, Option.map_some, Option.map_none, Option.bind_some, List.getElem?_cons_zero, List.getElem?_cons_succ, List.set_cons_zero, List.set_cons_succ, List.map_cons, List.map_nil, List.length_cons, List.length_nil, List.cons_append, List.nil_append, rho0, List.replicate, List.take_succ_cons, List.take_zero, List.take_nil, List.take_length, and_self, Bool.false_eq_true, Bool.not_true, Bool.not_false, decide_true, decide_false, raiseI_run1, raiseI_run2, tryO_next, tryO_ret, tryH_nil, unbind_next, unbind_ret, eXf_run, par3R_run, newLR_0, newLR_1, kmR_run, kmR2_run, asK_run, asN_run, getRL_run, getKL_run, ngo0_run, ngo1_run, ngoR_run, ownN_run, ownNR_run, npK_run, starR_run, itNItems_run, itNKeys_run, oDictK_run, opIn2_K, opKIx_run, keyK_int, copyLR_lst, copyLR_tup, gT2_run, nValsD_run, Option.getD_some, tup_0, lst_0, tup_1, lst_1, tup_2, lst_2, tup_3, lst_3, tup_4, lst_4, tup_5, lst_5, tup_6, lst_6, tup_7, lst_7, tup_8, lst_8, tup_9, lst_9, tup_10, lst_10, tup_11, lst_11, tup_12, lst_12, new_0, new_1, new_2, new_3, new_4, new_5, ↓reduceIte, Nat.reduceAdd, $xs,*])
  | `(tactic| push_cast [$xs,*] at $h:ident) => `(tactic| simp -implicitDefEqProofs only [↓eC_run, ↓eVar_run, ↓eSlot_run, ↓eBin_run, ↓eUn_run, ↓eTest_run, ↓eAndT_run, ↓eOrT_run, ↓eNotT_run, ↓eTrue_run, ↓eAnd_run, ↓eOr_run, ↓eNot_run, ↓eIf_run, ↓aNil_run, ↓aCons_run, ↓aVal_run, ↓eTup_run, ↓eList_run, ↓eLst_run, ↓eCallB_run, ↓eOnL_run, ↓eIsi_run, ↓eSl_run, ↓ePart_run, ↓eNoPart_run, ↓eChain_run, ↓eIxO_run, ↓eOwnL_run, ↓sNext_run, ↓sSeq_run, ↓sIf_run, ↓sExpr_run, ↓sRet_run, ↓sRetS_run, ↓sRetN_run, ↓sBreak_run, ↓sCont_run, ↓sAsg_run, ↓sSetS_run, ↓sPar_run, ↓sFor_run, ↓sWhile_run, ↓eIt1_run, ↓eIt2_run, ↓eIt3_run, ↓eLc_run, ↓eLc2_run, ↓sNewL_run, ↓sApp_run, ↓sSetIx_run, ↓sRetL_run, ↓sRetNew_run, ↓eCallP_run, ↓eCallE_run, ↓eVal_run, ↓eMake_run, ↓eFld_run, ↓sRaise_run, ↓sRaiseI_run, ↓sTry_run, ↓eIsx_run, ↓sPar3_run, ↓eNewL_run, ↓eNDisp_run, ↓eKDisp_run, ↓eEmptyK_run, ↓eNewN_run, ↓eKM_run, ↓eNGet_run, ↓eKGet_run, ↓eNGetO_run, ↓eCopyN_run, ↓sNPut_run, ↓aStar_run, ↓eRg1_run, ↓eIsi2_run, ↓eCopyL_run, ↓eNVals_run, bind_ok, bind_exc, out_ok, out_exc, lift_some, obind_next, obind_ret, obind_exc, obind_brk, obind_cont, varR_run, slotR_run, asBl_run, allD_nil, allD_cons, asLst_run, asI_run, chR_run, ownK_run, ownKR_run, ownL_run, ownLR_run, someR_run, someO_run, ixI_run, parR_run, gN_run, gsNil_run, gsCons_run, itSeq_lst, itSeq_tup, itEn_lst, itEn_tup, itZ_lst, itZ_tup, wipeR_nil, wipeR_cons, setIxR_run, finP_ret, finP_next, finP_exc, finE_ret, finE_next, finE_exc, callR_ok, callR_err, valR_run, makeR_ok, makeR_exc, opAdd_int, opI_run, opB_run, opMulA_int, opEq_run, opNe_run, opIsN_run, opNotN_run, opIx_tup, opIx_lst, opNeg_run, oLen_tup, oLen_lst, oInt_int, oInt_bl, oTuple_tup, oTuple_lst, oList_tup, oList_lst, oTupleL_run, oListL_run, oLenL_run, isi_int_non, isi_int_bl, isi_int_int, isi_int_str, isi_int_tup, isi_int_lst, isi_bool_non, isi_bool_bl, isi_bool_int, isi_bool_str, isi_bool_tup, isi_bool_lst, isi_tuple_non, isi_tuple_bl, isi_tuple_int, isi_tuple_str, isi_tuple_tup, isi_tuple_lst, isi_str_non, isi_str_bl, isi_str_int, isi_str_str, isi_str_tup, isi_str_lst, isi_list_non, isi_list_bl, isi_list_int, isi_list_str, isi_list_tup, isi_list_lst, atI_0, atI_1, atI_2, atI_3, atI_4, atI_5, atI_6, atI_7, atI_8, ixN_1_0, ixN_2_0, ixN_2_1, ixN_3_0, ixN_3_1, ixN_3_2, ixN_4_0, ixN_4_1, ixN_4_2, ixN_4_3, ixN_5_0, ixN_5_1, ixN_5_2, ixN_5_3, ixN_5_4, eqD_int, eqD_bl, eqD_non_non, isNon_non, isNon_bl, isNon_int, isNon_str, isNon_tup, isNon_lst, Option.map_some, Option.map_none, Option.bind_some, List.getElem?_cons_zero, List.getElem?_cons_succ, List.set_cons_zero, List.set_cons_succ, List.map_cons, List.map_nil, List.length_cons, List.length_nil, List.cons_append, List.nil_append, rho0, List.replicate, List.take_succ_cons, List.take_zero, List.take_nil, List.take_length, and_self, Bool.false_eq_true, Bool.not_true, Bool.not_false, decide_true, decide_false, raiseI_run1, raiseI_run2, tryO_next, tryO_ret, tryH_nil, unbind_next, unbind_ret, eXf_run, par3R_run, newLR_0, newLR_1, kmR_run, kmR2_run, asK_run, asN_run, getRL_run, getKL_run, ngo0_run, ngo1_run, ngoR_run, ownN_run, ownNR_run, npK_run, starR_run, itNItems_run, itNKeys_run, oDictK_run, opIn2_K, opKIx_run, keyK_int, copyLR_lst, copyLR_tup, gT2_run, nValsD_run, Option.getD_some, tup_0, lst_0, tup_1, lst_1, tup_2, lst_2, tup_3, lst_3, tup_4, lst_4, tup_5, lst_5, tup_6, lst_6, tup_7, lst_7, tup_8, lst_8, tup_9, lst_9, tup_10, lst_10, tup_11, lst_11, tup_12, lst_12, new_0, new_1, new_2, new_3, new_4, new_5, ↓reduceIte, Nat.reduceAdd, $xs,*] at $h:ident)
def rowD (ns : List Int) (a b c : Int) : List D := [.lst (ns.map D.int), .int a, .int b, .int c]
structure RowOk (a b c : Int) : Prop where
  a0 : 0 ≤ a
  b0 : 0 ≤ b
  c0 : 0 ≤ c
  c1 : c < 2147483647
def IsRow (ns : List Int) (rest ω : Om) : Prop := ∃ a b c, RowOk a b c ∧ ω = some (.lst (rowD ns a b c)) :: rest
theorem pick_pos (ns : List Int) (rest : Om) (a b c m : Int) (hb0 : 0 < b) (hm : 0 < m ∧ m < 1073741824) : F__law_pick [.own 0, .val (.int m)] (some (.lst (rowD ns a b c)) :: rest) = .ok (.val (.int (b % m))) (some (.lst (rowD ns a (b / m) c)) :: rest) := by
  have h1 : (b == 0) = false := by simp; omega
  have h2 : decide (0 < b) = true := by simp; omega
  unfold F__law_pick
  rw [fnE_run (by rfl)]
  unfold f__law_pick rowD
  push_cast [h1, h2, hm.1, hm.2]
theorem pick_end (ns : List Int) (rest : Om) (a c m : Int) (ha : ¬ a < ns.length) (hc : 0 ≤ c ∧ c < 2147483647) (hm : 0 < m) : ∃ c', 0 ≤ c' ∧ c' < 2147483647 ∧
    F__law_pick [.own 0, .val (.int m)] (some (.lst (rowD ns a 0 c)) :: rest) = .ok (.val (.int (c' * 16807 % 2147483629 % m))) (some (.lst (rowD ns a 0 c')) :: rest) := by
  refine ⟨(c * 48271 + 7) % 2147483647, Int.emod_nonneg _ (by decide), Int.emod_lt_of_pos _ (by decide), ?_⟩
  have g : ∀ x y : Int, (-bnd < x ∧ x < bnd ∨ -bnd < y ∧ y < bnd) → (if -bnd < x ∧ x < bnd ∨ -bnd < y ∧ y < bnd then some (x * y) else none) = some (x * y) := fun x y h => if_pos h
  have g1 : (-bnd < c ∧ c < bnd ∨ -bnd < (48271 : Int) ∧ (48271 : Int) < bnd) := .inr ⟨by decide, by decide⟩
  have g2 : ∀ z : Int, (-bnd < z ∧ z < bnd ∨ -bnd < (16807 : Int) ∧ (16807 : Int) < bnd) := fun _ => .inr ⟨by decide, by decide⟩
  have h1 : decide (a < (ns.length : Int)) = false := by simp; omega
  unfold F__law_pick
  rw [fnE_run (by rfl)]
  unfold f__law_pick rowD
  have e1 : decide ((0 : Int) < 0) = false := rfl
  have e2 : ((0 : Int) == 0) = true := rfl
  have e3 : (0 : Int) < 2147483647 := by decide
  have e4 : (0 : Int) < 2147483629 := by decide
  push_cast [List.length_map, h1, e1, e2, g1, g2, e3, e4, hm]
theorem pick_big (ns : List Int) (rest : Om) (j : Nat) (z c m : Int) (hz : ns[j]? = some z) (hb : 1000000000000000000 ≤ z) (hm : 0 < m ∧ m < 1073741824) :
    F__law_pick [.own 0, .val (.int m)] (some (.lst (rowD ns j 0 c)) :: rest) = .ok (.val (.int (z % m))) (some (.lst (rowD ns (j + 1) (z / m) c)) :: rest) := by
  have hl : j < ns.length := (List.getElem?_eq_some_iff.mp hz).1
  have h1 : decide ((j : Int) < (ns.length : Int)) = true := by simp; omega
  have h2 : atI (ns.map D.int) (j : Int) = some (.int z) := by rw [atI_get' (by omega)]; simp [hz]
  have h3 : decide ((10 : Int) ^ Int.toNat 18 ≤ z) = true := by
    have : (10 : Int) ^ Int.toNat 18 = 1000000000000000000 := by decide
    rw [this]; simp; exact hb
  have h4 : decide (0 < z) = true := by simp; omega
  have g0 : (0 : Int) ≤ 18 ∧ (18 : Int) ≤ 1000000 ∧ (10 : Int).natAbs < 18446744073709551616 := by decide
  unfold F__law_pick
  rw [fnE_run (by rfl)]
  unfold f__law_pick rowD
  have e2 : ((0 : Int) == 0) = true := rfl
  push_cast [List.length_map, h1, h2, h3, h4, e2, g0, hm.1, hm.2]
theorem pick_small (ns : List Int) (rest : Om) (j : Nat) (z c m : Int) (hz : ns[j]? = some z) (hb : ¬ 1000000000000000000 ≤ z) (hc : 0 ≤ c ∧ c < 2147483647) (hm : 0 < m) : ∃ c', 0 ≤ c' ∧ c' < 2147483647 ∧
    F__law_pick [.own 0, .val (.int m)] (some (.lst (rowD ns j 0 c)) :: rest) = .ok (.val (.int (c' * 16807 % 2147483629 % m))) (some (.lst (rowD ns (j + 1) 0 c')) :: rest) := by
  refine ⟨(c * 48271 + z * 69621 + 11) % 2147483647, Int.emod_nonneg _ (by decide), Int.emod_lt_of_pos _ (by decide), ?_⟩
  have hl : j < ns.length := (List.getElem?_eq_some_iff.mp hz).1
  have h1 : decide ((j : Int) < (ns.length : Int)) = true := by simp; omega
  have h2 : atI (ns.map D.int) (j : Int) = some (.int z) := by rw [atI_get' (by omega)]; simp [hz]
  have h3 : decide ((10 : Int) ^ Int.toNat 18 ≤ z) = false := by
    have : (10 : Int) ^ Int.toNat 18 = 1000000000000000000 := by decide
    rw [this]; simp; omega
  have g0 : (0 : Int) ≤ 18 ∧ (18 : Int) ≤ 1000000 ∧ (10 : Int).natAbs < 18446744073709551616 := by decide
  have g1 : ∀ z : Int, (-bnd < z ∧ z < bnd ∨ -bnd < (48271 : Int) ∧ (48271 : Int) < bnd) := fun _ => .inr ⟨by decide, by decide⟩
  have g3 : ∀ z : Int, (-bnd < z ∧ z < bnd ∨ -bnd < (69621 : Int) ∧ (69621 : Int) < bnd) := fun _ => .inr ⟨by decide, by decide⟩
  have g2 : ∀ z : Int, (-bnd < z ∧ z < bnd ∨ -bnd < (16807 : Int) ∧ (16807 : Int) < bnd) := fun _ => .inr ⟨by decide, by decide⟩
  unfold F__law_pick
  rw [fnE_run (by rfl)]
  unfold f__law_pick rowD
  have e1 : decide ((0 : Int) < 0) = false := rfl
  have e2 : ((0 : Int) == 0) = true := rfl
  have e3 : (0 : Int) < 2147483647 := by decide
  have e4 : (0 : Int) < 2147483629 := by decide
  push_cast [List.length_map, h1, h2, h3, e1, e2, g0, g1, g2, g3, e3, e4, hm]
theorem pick {ns : List Int} {rest ω : Om} {m : Int} (h : IsRow ns rest ω) (hm : 0 < m) (hm' : m < 1073741824) : ∃ r ω', IsRow ns rest ω' ∧ 0 ≤ r ∧ r < m ∧ F__law_pick [.own 0, .val (.int m)] ω = .ok (.val (.int r)) ω' := by
  obtain ⟨a, b, c, k, rfl⟩ := h
  by_cases hb : 0 < b
  · exact ⟨_, _, ⟨a, b / m, c, ⟨k.a0, Int.ediv_nonneg k.b0 (by omega), k.c0, k.c1⟩, rfl⟩, Int.emod_nonneg _ (by omega), Int.emod_lt_of_pos _ hm, pick_pos ns rest a b c m hb ⟨hm, hm'⟩⟩
  · have : b = 0 := by have := k.b0; omega
    subst this
    by_cases ha : a < ns.length
    · obtain ⟨j, rfl⟩ : ∃ j : Nat, a = j := ⟨a.toNat, by have := k.a0; omega⟩
      have hj : j < ns.length := by omega
      have hz : ns[j]? = some ns[j] := List.getElem?_eq_getElem hj
      by_cases hb : 1000000000000000000 ≤ ns[j]
      · exact ⟨_, _, ⟨j + 1, ns[j] / m, c, ⟨by omega, Int.ediv_nonneg (by omega) (by omega), k.c0, k.c1⟩, rfl⟩, Int.emod_nonneg _ (by omega), Int.emod_lt_of_pos _ hm, pick_big ns rest j ns[j] c m hz hb ⟨hm, hm'⟩⟩
      · obtain ⟨c', h1, h2, h3⟩ := pick_small ns rest j ns[j] c m hz hb ⟨k.c0, k.c1⟩ hm
        exact ⟨_, _, ⟨j + 1, 0, c', ⟨by omega, by omega, h1, h2⟩, rfl⟩, Int.emod_nonneg _ (by omega), Int.emod_lt_of_pos _ hm, h3⟩
    · obtain ⟨c', h1, h2, h3⟩ := pick_end ns rest a c m ha ⟨k.c0, k.c1⟩ hm
      exact ⟨_, _, ⟨a, 0, c', ⟨k.a0, by omega, h1, h2⟩, rfl⟩, Int.emod_nonneg _ (by omega), Int.emod_lt_of_pos _ hm, h3⟩
theorem draws_run (ns : List Int) : F__law_draws [.val (.lst (ns.map D.int))] [] = .ok (.own 0) [some (.lst (rowD ns 0 0 7))] := by
  unfold F__law_draws
  rw [fnE_run (by rfl)]
  unfold f__law_draws rowD
  push_cast [retNewR_run (show 4 ≤ lim by decide)]
  rfl
theorem draws_row (ns : List Int) : IsRow ns [] [some (.lst (rowD ns 0 0 7))] := ⟨0, 0, 7, ⟨by decide, by decide, by decide, by decide⟩, rfl⟩
theorem row_take {ns : List Int} {rest ω ω' : Om} (h : IsRow ns rest ω) (h' : IsRow ns rest ω') : List.take (List.length ω) ω' = ω' := by
  obtain ⟨_, _, _, _, rfl⟩ := h
  obtain ⟨_, _, _, _, rfl⟩ := h'
  simp
theorem itR1_run {j : Int} (h : 0 ≤ j) (h' : j < 1000000) : itR1 (.int j) = some (rngD 0 j) := by
  unfold itR1
  exact if_pos (by show -4611686018427387904 ≤ j ∧ j < 4611686018427387904; constructor <;> omega)
theorem rngD_len (lo hi : Int) : (rngD lo hi).length = (hi - lo).toNat := by simp [rngD]
theorem rngD_get {lo hi : Int} {i : Nat} {d : D} (h : (rngD lo hi)[i]? = some d) : d = .int (lo + i) ∧ lo + i < hi := by
  unfold rngD at h
  rw [List.getElem?_map] at h
  by_cases hi' : i < (hi - lo).toNat
  · rw [List.getElem?_range hi'] at h
    cases h
    exact ⟨rfl, by omega⟩
  · rw [List.getElem?_eq_none (by simpa using hi')] at h
    cases h
structure Socks (s : List Int) : Prop where
  ne : s ≠ []
  asc : s.Pairwise (· < ·)
  rg : ∀ x ∈ s, 0 ≤ x ∧ x ≤ 300
structure SockInv (i : Nat) (s : List Int) (here : Int) : Prop where
  h0 : 0 ≤ here
  first : i = 0 → here ≤ 300
  ne : i ≠ 0 → s ≠ []
  asc : s.Pairwise (· < ·)
  rg : ∀ x ∈ s, 0 ≤ x ∧ x ≤ 300 ∧ x < here
  len : s.length ≤ i
theorem SockInv.add {i : Nat} {s : List Int} {here k : Int} (h : SockInv i s here) (hk : 0 < k) (hl : here ≤ 300) : SockInv (i + 1) (s ++ [here]) (here + k) := by
  refine ⟨by have := h.h0; omega, by omega, by simp, ?_, fun x hx => ?_, by simp; have := h.len; omega⟩
  · rw [List.pairwise_append]
    exact ⟨h.asc, by simp, fun a ha b hb => by simp at hb; subst hb; exact (h.rg a ha).2.2⟩
  · rcases List.mem_append.mp hx with hx | hx
    · have := h.rg x hx; omega
    · simp at hx; subst hx; have := h.h0; omega
theorem SockInv.skip {i : Nat} {s : List Int} {here k : Int} (h : SockInv i s here) (hk : 0 < k) (hl : ¬ here ≤ 300) : SockInv (i + 1) s (here + k) := by
  have hi : i ≠ 0 := fun z => hl (h.first z)
  exact ⟨by have := h.h0; omega, by omega, fun _ => h.ne hi, h.asc, fun x hx => by have := h.rg x hx; omega, by have := h.len; omega⟩
theorem atI_three {x y z : D} {r : Int} (h0 : 0 ≤ r) (h : r < 3) : ∃ d, atI [x, y, z] r = some d ∧ (d = x ∨ d = y ∨ d = z) := by
  have : r = 0 ∨ r = 1 ∨ r = 2 := by omega
  rcases this with rfl | rfl | rfl
  · exact ⟨x, rfl, .inl rfl⟩
  · exact ⟨y, rfl, .inr (.inl rfl)⟩
  · exact ⟨z, rfl, .inr (.inr rfl)⟩
theorem sockets {ns : List Int} {rest ω : Om} {most : Int} (h : IsRow ns rest ω) (hm : 0 < most) (hm' : most ≤ 1000) : ∃ socks ω', IsRow ns rest ω' ∧ Socks socks ∧ (socks.length : Int) ≤ most ∧
    F__law_sockets [.own 0, .val (.int most)] ω = .ok (.val (.tup (socks.map D.int))) ω' := by
  obtain ⟨r1, ω1, w1, a1, b1, e1⟩ := pick (m := 20) h (by decide) (by decide)
  obtain ⟨r2, ω2, w2, a2, b2, e2⟩ := pick (m := most) w1 hm (by omega)
  unfold F__law_sockets
  rw [fnE_run (by rfl)]
  unfold f__law_sockets
  push_cast [e1, e2, tupR_run (show 0 ≤ lim by decide), itR1_run (show 0 ≤ 1 + r2 by omega) (by omega)]
  generalize hb : sSeq _ _ = body
  obtain ⟨ρ', ω', e, hi, x2, socks, here, rfl, w, S⟩ := forL_all (tg := gN 2) (b := body) (ds := rngD 0 (1 + r2)) (ω := ω2) (ρ := [some (SV.own 0), some (SV.val (D.int most)), none, some (SV.val (D.tup [])), some (SV.val (D.int r1))])
    (fun i ρ ω => i ≤ (1 + r2).toNat ∧ ∃ x2 socks here, ρ = [some (SV.own 0), some (SV.val (D.int most)), x2, some (SV.val (D.tup (socks.map D.int))), some (SV.val (D.int here))] ∧ IsRow ns rest ω ∧ SockInv i socks here)
    ⟨by omega, none, [], r1, rfl, w2, ⟨a1, by omega, by omega, List.Pairwise.nil, by simp, by simp⟩⟩ (by
    rintro i d ρ ω' hd ⟨hi, x2, socks, here, rfl, w, S⟩
    obtain ⟨rfl, hlt⟩ := rngD_get hd
    obtain ⟨r3, ω3, w3, a3, b3, e3⟩ := pick (m := 40) w (by decide) (by decide)
    obtain ⟨r4, ω4, w4, a4, b4, e4⟩ := pick (m := 3) w3 (by decide) (by decide)
    obtain ⟨d, e5, hd5⟩ := atI_three (x := .int 30) (y := .int (1 + r3)) (z := .int 20) a4 b4
    obtain ⟨k, rfl, hk⟩ : ∃ k : Int, d = .int k ∧ 0 < k := by
      rcases hd5 with rfl | rfl | rfl
      · exact ⟨_, rfl, by decide⟩
      · exact ⟨_, rfl, by omega⟩
      · exact ⟨_, rfl, by decide⟩
    subst hb
    have hl : socks.length + 1 ≤ lim := by have := S.len; show _ ≤ 16777216; omega
    by_cases h3 : here ≤ 300
    · have h3' : decide (here ≤ 300) = true := decide_eq_true h3
      refine ⟨_, _, ω4, rfl, ?_, by omega, some (SV.val (D.int (0 + i))), socks ++ [here], here + k, rfl, w4, S.add hk h3⟩
      push_cast [h3', tupR_run (show 1 ≤ lim by decide), opAdd_tup (ds := socks.map D.int) (es := [D.int here]) (by simpa using hl), e3, e4, e5, lstR_run (show 3 ≤ lim by decide), List.map_append]
    · have h3' : decide (here ≤ 300) = false := decide_eq_false h3
      refine ⟨_, _, ω4, rfl, ?_, by omega, some (SV.val (D.int (0 + i))), socks, here + k, rfl, w4, S.skip hk h3⟩
      push_cast [h3', e3, e4, e5, lstR_run (show 3 ≤ lim by decide)])
  rw [rngD_len] at S
  refine ⟨socks, ω', w, ⟨S.ne (by omega), S.asc, fun x hx => by have := S.rg x hx; omega⟩, by have := S.len; omega, ?_⟩
  push_cast [e, row_take h w]
abbrev Plug := Int × Int × Bool
abbrev Place := Nat × Bool
abbrev Plan := List (Option Place)
def encP (p : Plug) : D := .tup [.int p.1, .int p.2.1, .bl p.2.2]
def encL (p : Place) : D := .tup [.int p.1, .bl p.2]
def encO : Option Place → D
  | none => .non
  | some p => encL p
structure PlugOk (p : Plug) : Prop where
  l0 : 0 ≤ p.1
  l1 : p.1 ≤ 60
  r0 : 0 ≤ p.2.1
  r1 : p.2.1 ≤ 60
def plugsD (ps : List Plug) : D := .tup (ps.map encP)
def planD (pl : Plan) : D := .tup (pl.map encO)
def socksD (s : List Int) : D := .tup (s.map D.int)
def stripD (s : List Int) : D := .obj "Strip" [("rows", socksD s)]
def canT (p : Plug) : Bool := p.2.2 && !(p.1 == p.2.1)
def sideL (p : Plug) (t : Bool) : Int := if t then p.2.1 else p.1
def sideR (p : Plug) (t : Bool) : Int := if t then p.1 else p.2.1
def bBeg (s : List Int) (p : Plug) (pl : Place) : Int := s.getD pl.1 0 - sideL p pl.2
def bEnd (s : List Int) (p : Plug) (pl : Place) : Int := s.getD pl.1 0 + sideR p pl.2
def apart (s : List Int) (p : Plug) (a : Place) (q : Plug) (b : Place) : Bool :=
  if a.1 < b.1 then decide (bEnd s p a ≤ bBeg s q b) else decide (bEnd s q b ≤ bBeg s p a)
theorem atI_map {α : Type} (f : α → D) {xs : List α} {i : Nat} {x : α} (h : xs[i]? = some x) : atI (xs.map f) (i : Int) = some (f x) := by
  rw [atI_get' (by omega)]; simp [h]
theorem eight (r : Int) (h0 : 0 ≤ r) (h : r < 8) : ∃ z : Int, atI [D.int 0, D.int 5, D.int 10, D.int 15, D.int 20, D.int 30, D.int 40, D.int 60] r = some (.int z) ∧ 0 ≤ z ∧ z ≤ 60 := by
  have : r = 0 ∨ r = 1 ∨ r = 2 ∨ r = 3 ∨ r = 4 ∨ r = 5 ∨ r = 6 ∨ r = 7 := by omega
  rcases this with rfl | rfl | rfl | rfl | rfl | rfl | rfl | rfl <;> exact ⟨_, rfl, by decide, by decide⟩
theorem plug {ns : List Int} {rest ω : Om} (h : IsRow ns rest ω) : ∃ p ω', IsRow ns rest ω' ∧ PlugOk p ∧ F__law_plug [.own 0] ω = .ok (.val (encP p)) ω' := by
  obtain ⟨r1, ω1, w1, a1, b1, e1⟩ := pick (m := 8) h (by decide) (by decide)
  obtain ⟨r2, ω2, w2, a2, b2, e2⟩ := pick (m := 41) w1 (by decide) (by decide)
  obtain ⟨r3, ω3, w3, a3, b3, e3⟩ := pick (m := 3) w2 (by decide) (by decide)
  obtain ⟨r4, ω4, w4, a4, b4, e4⟩ := pick (m := 2) w3 (by decide) (by decide)
  obtain ⟨z, ez, z0, z1⟩ := eight r1 a1 b1
  obtain ⟨d, ed, hd⟩ := atI_three (x := .int r2) (y := .int 15) (z := .int z) a3 b3
  obtain ⟨y, rfl, y0, y1⟩ : ∃ y : Int, d = .int y ∧ 0 ≤ y ∧ y ≤ 60 := by
    rcases hd with rfl | rfl | rfl
    · exact ⟨_, rfl, by omega, by omega⟩
    · exact ⟨_, rfl, by decide, by decide⟩
    · exact ⟨_, rfl, z0, z1⟩
  refine ⟨(z, y, r4 == 0), ω4, w4, ⟨z0, z1, y0, y1⟩, ?_⟩
  unfold F__law_plug
  rw [fnE_run (by rfl)]
  unfold f__law_plug
  push_cast [e1, e2, e3, e4, ez, ed, lstR_run (show 8 ≤ lim by decide), lstR_run (show 3 ≤ lim by decide), tupR_run (show 3 ≤ lim by decide), row_take h w4]
  rfl
theorem lcL_draw {tg : FG} {tt : FE Bool} {el : FE D} {ρ : Rho} (I : Om → Prop) (Q : D → Prop) : ∀ (ds acc : List D) (ω : Om), I ω → acc.length + ds.length ≤ lim →
    (∀ d ∈ ds, ∀ ω, I ω → ∃ ρ1 y ω', tg d ρ = some ρ1 ∧ tt ρ1 ω = .ok true ω ∧ el ρ1 ω = .ok y ω' ∧ I ω' ∧ Q y) → ∃ ys ω', lcL tg tt el ρ ds acc ω = .ok (.lst (acc ++ ys)) ω' ∧ I ω' ∧ ys.length = ds.length ∧ ∀ y ∈ ys, Q y
  | [], acc, ω, hI, _, _ => ⟨[], ω, by unfold lcL; simp, hI, rfl, by simp⟩
  | d :: ds, acc, ω, hI, hl, h => by
    obtain ⟨ρ1, y, ω1, h1, h2, h3, h4, h5⟩ := h d List.mem_cons_self ω hI
    rw [List.length_cons] at hl
    obtain ⟨ys, ω2, g1, g2, g3, g4⟩ := lcL_draw I Q ds (acc ++ [y]) ω1 h4 (by simp; omega) fun d' hd' => h d' (List.mem_cons_of_mem _ hd')
    refine ⟨y :: ys, ω2, ?_, g2, by simp [g3], fun z hz => ?_⟩
    · unfold lcL
      rw [h1]
      dsimp only
      rw [h2]
      dsimp only
      rw [h3]
      dsimp only
      rw [if_pos (by omega), g1]
      simp
    · rcases List.mem_cons.mp hz with rfl | hz
      · exact h5
      · exact g4 z hz
theorem enc_list {α : Type} (f : α → D) (P : α → Prop) : ∀ ys : List D, (∀ y ∈ ys, ∃ p, y = f p ∧ P p) → ∃ ps : List α, ys = ps.map f ∧ ∀ p ∈ ps, P p
  | [], _ => ⟨[], rfl, by simp⟩
  | y :: ys, h => by
    obtain ⟨p, rfl, hp⟩ := h y List.mem_cons_self
    obtain ⟨ps, rfl, hps⟩ := enc_list f P ys fun z hz => h z (List.mem_cons_of_mem _ hz)
    exact ⟨p :: ps, rfl, fun q hq => by
      rcases List.mem_cons.mp hq with rfl | hq
      · exact hp
      · exact hps q hq⟩
theorem plugs {ns : List Int} {rest ω : Om} {most : Int} (h : IsRow ns rest ω) (hm : 0 < most) (hm' : most ≤ 1000) : ∃ ps ω', IsRow ns rest ω' ∧ (∀ p ∈ ps, PlugOk p) ∧ ps ≠ [] ∧ (ps.length : Int) ≤ most ∧
    F__law_plugs [.own 0, .val (.int most)] ω = .ok (.val (plugsD ps)) ω' := by
  obtain ⟨r, ω1, w1, a1, b1, e1⟩ := pick (m := most) h hm (by omega)
  obtain ⟨ys, ω2, e2, w2, hl, hy⟩ := lcL_draw (tg := gN 2) (tt := eTrue) (el := eVal (eCallE F__law_plug (aCons (eSlot 0) aNil))) (ρ := [some (SV.own 0), some (SV.val (D.int most)), none]) (IsRow ns rest) (fun y => ∃ p, y = encP p ∧ PlugOk p)
    (rngD 0 (1 + r)) [] ω1 w1 (by rw [rngD_len]; simp only [List.length_nil]; show _ ≤ 16777216; omega) (fun d _ ω w => by
      obtain ⟨p, ω', w', hp, e⟩ := plug w
      refine ⟨_, encP p, ω', rfl, rfl, ?_, w', p, rfl, hp⟩
      push_cast [e])
  obtain ⟨ps, rfl, hps⟩ := enc_list encP PlugOk ys hy
  rw [List.length_map, rngD_len] at hl
  refine ⟨ps, ω2, w2, hps, fun z => ?_, by omega, ?_⟩
  · subst z; simp at hl; omega
  · unfold F__law_plugs
    rw [fnE_run (by rfl)]
    unfold f__law_plugs
    push_cast [e1, itR1_run (show 0 ≤ 1 + r by omega) (by omega), e2, row_take h w2]
    rfl
theorem can_turn_run (p : Plug) : F_can_turn [encP p] = some (.ok (.bl (canT p))) := by
  obtain ⟨l, r, t⟩ := p
  unfold F_can_turn
  rw [fnP_run (by rfl)]
  unfold f_can_turn encP canT
  cases t <;> push_cast [] <;> rfl
theorem law_can_run (p : Plug) : F__law_can [encP p] = some (.ok (.bl (canT p))) := by
  obtain ⟨l, r, t⟩ := p
  unfold F__law_can
  rw [fnP_run (by rfl)]
  unfold f__law_can encP canT
  cases t <;> push_cast [] <;> rfl
theorem is_from_run (v lo hi : Int) : F_is_from [.int v, .int lo, .int hi] = some (.ok (.bl (decide (lo ≤ v ∧ v ≤ hi)))) := by
  unfold F_is_from
  rw [fnP_run (by rfl)]
  unfold f_is_from
  by_cases h1 : lo ≤ v
  · by_cases h2 : v ≤ hi
    · push_cast [decide_eq_true h1, decide_eq_true h2, decide_eq_true (And.intro h1 h2)]
    · push_cast [decide_eq_true h1, decide_eq_false h2, decide_eq_false (fun z : lo ≤ v ∧ v ≤ hi => h2 z.2)]
  · push_cast [decide_eq_false h1, decide_eq_false (fun z : lo ≤ v ∧ v ≤ hi => h1 z.1)]
theorem sides_run (p : Plug) (t : Bool) : F_sides [encP p, .bl t] = some (.ok (.tup [.int (sideL p t), .int (sideR p t)])) := by
  obtain ⟨l, r, u⟩ := p
  unfold F_sides
  rw [fnP_run (by rfl)]
  unfold f_sides encP sideL sideR
  cases t
  · push_cast []
    rfl
  · push_cast [tupR_run (show 2 ≤ lim by decide)]
theorem body_run {s : List Int} {p : Plug} {pl : Place} (h : pl.1 < s.length) : F_body [stripD s, encP p, encL pl] = some (.ok (.tup [.int (bBeg s p pl), .int (bEnd s p pl)])) := by
  obtain ⟨k, t⟩ := pl
  have e : atI (s.map D.int) (k : Int) = some (.int (s.getD k 0)) := atI_map D.int (by simp [List.getD, List.getElem?_eq_getElem h])
  have e2 : fldD "Strip" "rows" (stripD s) = some (socksD s) := by simp [fldD, stripD]
  unfold F_body
  rw [fnP_run (by rfl)]
  unfold f_body encL bBeg bEnd
  push_cast [sides_run, gT_run (show ([D.int (sideL p t), D.int (sideR p t)]).length = 2 by rfl), e2, socksD, e, tupR_run (show 2 ≤ lim by decide)]
theorem asBls_true : ∀ n, asBls (List.replicate n (D.bl true)) = some (List.replicate n true)
  | 0 => rfl
  | n + 1 => by rw [List.replicate_succ, asBls, asBls_true n]; rfl
theorem all_rep (n : Nat) : (List.replicate n true).all id = true := by simp
theorem oAllL_true (n : Nat) : oAllL (List.replicate n (D.bl true)) = some (.bl true) := by
  unfold oAllL
  rw [asBls_true]
  show some (D.bl ((List.replicate n true).all id)) = _
  rw [all_rep]
theorem lcL_true {tg : FG} {el : FE D} {ρ : Rho} {ω : Om} {ds : List D} (hl : ds.length ≤ lim) (h : ∀ d ∈ ds, ∃ ρ1, tg d ρ = some ρ1 ∧ el ρ1 ω = .ok (.bl true) ω) : lcL tg eTrue el ρ ds [] ω = .ok (.lst (List.replicate ds.length (D.bl true))) ω := by
  rw [lcL_pure (fun _ => some (D.bl true)) ds [] (by simpa using hl) (fun d hd => by
    obtain ⟨ρ1, h1, h2⟩ := h d hd
    exact ⟨ρ1, h1, rfl, h2⟩)]
  simp [List.filterMap_eq_map, List.map_const']
theorem is_plug_run {p : Plug} (h : PlugOk p) : F_is_plug [encP p] = some (.ok (.bl true)) := by
  obtain ⟨l, r, t⟩ := p
  have e1 : F_is_from [.int l, .int 0, .int 60] = some (.ok (.bl true)) := by rw [is_from_run, decide_eq_true ⟨h.l0, h.l1⟩]
  have e2 : F_is_from [.int r, .int 0, .int 60] = some (.ok (.bl true)) := by rw [is_from_run, decide_eq_true ⟨h.r0, h.r1⟩]
  have e3 : slD none (some 2) (.tup [.int l, .int r, .bl t]) = some (.tup [.int l, .int r]) := rfl
  have e4 : ((((0 + 1 + 1 + 1 : Nat) : Int)) == 3) = true := rfl
  have e5 : lcL (gN 1) eTrue (eCallP F_is_from (aCons (aVal (eVar 1)) (aCons (aVal (eC (.int 0))) (aCons (aVal (eC (.int 60))) aNil)))) [some (.val (.tup [.int l, .int r, .bl t])), none] [.int l, .int r] [] [] = .ok (.lst [.bl true, .bl true]) [] :=
    lcL_true (ds := [.int l, .int r]) (by show 2 ≤ lim; decide) (fun d hd => by
      refine ⟨_, rfl, ?_⟩
      simp only [List.mem_cons, List.not_mem_nil, or_false] at hd
      rcases hd with rfl | rfl
      · push_cast [e1]
      · push_cast [e2])
  have e6 : oAllL [.bl true, .bl true] = some (.bl true) := rfl
  unfold F_is_plug
  rw [fnP_run (by rfl)]
  unfold f_is_plug encP
  have e7 : ((3 : Nat) : Int) = 3 := rfl
  push_cast [e3, e4, e5, e6, e7, beq_self_eq_true]
theorem fld_rows (s : List Int) : fldD "Strip" "rows" (stripD s) = some (socksD s) := by simp [fldD, stripD]
def PlanOk (n : Nat) (plan : Plan) : Prop := ∀ pl, some pl ∈ plan → pl.1 < n
theorem zip_tail : ∀ (s : List Int), s.Pairwise (· < ·) → ∀ d ∈ zipD (s.map D.int) ((s.map D.int).drop 1), ∃ a b : Int, d = .tup [.int a, .int b] ∧ a < b
  | [], _, d, hd => by simp [zipD] at hd
  | [x], _, d, hd => by simp [zipD] at hd
  | x :: y :: s, h, d, hd => by
    rw [List.pairwise_cons] at h
    have : zipD ((x :: y :: s).map D.int) (((x :: y :: s).map D.int).drop 1) = pairD (.int x) (.int y) :: zipD ((y :: s).map D.int) (((y :: s).map D.int).drop 1) := rfl
    rw [this] at hd
    rcases List.mem_cons.mp hd with rfl | hd
    · exact ⟨x, y, rfl, h.1 y (by simp)⟩
    · exact zip_tail (y :: s) h.2 d hd
theorem cut1 (ds : List D) : slD (some 1) none (.tup ds) = some (.tup (ds.drop 1)) := by
  show some (D.tup (cutD ds (some 1) none)) = some (D.tup (ds.drop 1))
  congr 2
  unfold cutD
  have : HT.sIx ds.length 0 (some 1) = min 1 ds.length := HT.sIx_nat _ _ 1
  rw [this, HT.sIx_none]
  cases ds with
  | nil => rfl
  | cons x xs =>
    have : min 1 (x :: xs).length = 1 := by simp
    rw [this]
    simp
def hereF : Nat → Plan → List Nat
  | _, [] => []
  | k, none :: r => hereF (k + 1) r
  | k, some _ :: r => k :: hereF (k + 1) r
def here (plan : Plan) : List Nat := hereF 0 plan
theorem mem_hereF : ∀ {plan : Plan} {k i : Nat}, i ∈ hereF k plan → ∃ j pl, i = k + j ∧ plan[j]? = some (some pl)
  | [], k, i, h => by simp [hereF] at h
  | none :: r, k, i, h => by
    obtain ⟨j, pl, rfl, e⟩ := mem_hereF (plan := r) (k := k + 1) h
    exact ⟨j + 1, pl, by omega, by simpa using e⟩
  | some q :: r, k, i, h => by
    rcases List.mem_cons.mp (show i ∈ k :: hereF (k + 1) r from h) with rfl | h
    · exact ⟨0, q, by omega, rfl⟩
    · obtain ⟨j, pl, rfl, e⟩ := mem_hereF (plan := r) (k := k + 1) h
      exact ⟨j + 1, pl, by omega, by simpa using e⟩
theorem mem_here {plan : Plan} {i : Nat} (h : i ∈ here plan) : ∃ pl, plan[i]? = some (some pl) := by
  obtain ⟨j, pl, rfl, e⟩ := mem_hereF h
  exact ⟨pl, by simpa using e⟩
def nD (i : Nat) : D := .int (i : Int)
def hereD (plan : Plan) : List D := (here plan).map nD
def isSt (o : Option (Option Place)) (d : D) : Option D := match o with
  | some (some _) => some d
  | _ => none
theorem here_range : ∀ (plan : Plan) (k : Nat), (List.range plan.length).filterMap (fun i => isSt plan[i]? (nD (k + i))) = (hereF k plan).map nD
  | [], k => rfl
  | o :: r, k => by
    rw [List.length_cons, List.range_succ_eq_map, List.filterMap_cons, List.filterMap_map]
    have ih := here_range r (k + 1)
    have e : (fun i => isSt (o :: r)[i]? (nD (k + i))) ∘ Nat.succ = fun i => isSt r[i]? (nD (k + 1 + i)) := by
      funext i
      simp only [Function.comp, Nat.succ_eq_add_one, List.getElem?_cons_succ]
      have : k + (i + 1) = k + 1 + i := by omega
      rw [this]
    rw [e, ih]
    cases o with
    | none => rfl
    | some q => rfl
def pairsN (plan : Plan) : List (Nat × Nat) := (here plan).flatMap fun a => (here plan).filterMap fun b => if a < b then some (a, b) else none
theorem mem_pairs {plan : Plan} {p : Nat × Nat} (h : p ∈ pairsN plan) : (∃ x, plan[p.1]? = some (some x)) ∧ (∃ y, plan[p.2]? = some (some y)) ∧ p.1 < p.2 := by
  unfold pairsN at h
  rw [List.mem_flatMap] at h
  obtain ⟨a, ha, h⟩ := h
  rw [List.mem_filterMap] at h
  obtain ⟨b, hb, h⟩ := h
  split at h
  · rename_i hab
    cases h
    exact ⟨mem_here ha, mem_here hb, hab⟩
  · cases h
theorem lt_nD {a b : Nat} : decide ((a : Int) < (b : Int)) = decide (a < b) := by
  by_cases h : a < b
  · rw [decide_eq_true h, decide_eq_true (by omega)]
  · rw [decide_eq_false h, decide_eq_false (by omega)]
def turnG (ps : List Plug) (plan : Plan) (i : Nat) : Option D := match plan[i]?, ps[i]? with
  | some (some pl), some p => if pl.2 && !canT p then some (.tup [.str "turn", nD i]) else none
  | _, _ => none
def sockG (plan : Plan) (p : Nat × Nat) : Option D := match plan[p.1]?, plan[p.2]? with
  | some (some x), some (some y) => if x.1 = y.1 then some (.tup [.str "socket", nD p.1, nD p.2]) else none
  | _, _ => none
def overG (s : List Int) (ps : List Plug) (plan : Plan) (p : Nat × Nat) : Option D := match plan[p.1]?, plan[p.2]?, ps[p.1]?, ps[p.2]? with
  | some (some x), some (some y), some a, some b => if apart s a x b y then none else some (.tup [.str "overlap", nD p.1, nD p.2])
  | _, _, _, _ => none
def orD (o : Option D) (d : D) : D := o.getD d
def fault (s : List Int) (ps : List Plug) (plan : Plan) : D :=
  orD ((here plan).findSome? (turnG ps plan)) (orD ((pairsN plan).findSome? (sockG plan)) (orD ((pairsN plan).findSome? (overG s ps plan)) .non))
theorem turn_enum {g1 : D → Option D} {g2 : Nat → Option D} : ∀ (plan : Plan) (k : Nat), (∀ j pl, plan[j]? = some (some pl) → g1 (pairI (k + j) (encO (some pl))) = g2 (k + j)) → (∀ i, g1 (pairI i .non) = none) →
    ((plan.map encO).mapIdx fun i d => pairI (i + k) d).findSome? g1 = (hereF k plan).findSome? g2
  | [], k, _, _ => rfl
  | o :: r, k, h1, h2 => by
    rw [List.map_cons, List.mapIdx_cons, List.findSome?_cons]
    have ih := turn_enum (g1 := g1) (g2 := g2) r (k + 1) (fun j pl e => by
      have := h1 (j + 1) pl (by simpa using e)
      rw [show k + (j + 1) = k + 1 + j by omega] at this
      exact this) h2
    have : (fun (i : Nat) (d : D) => pairI (i + 1 + k) d) = fun i d => pairI (i + (k + 1)) d := by funext i d; congr 1; omega
    rw [this, ih]
    cases o with
    | none =>
      have e : g1 (pairI (0 + k) (encO none)) = none := h2 _
      rw [e]; rfl
    | some q =>
      have e := h1 0 q rfl
      rw [Nat.zero_add]
      rw [Nat.add_zero] at e
      rw [e]
      show _ = List.findSome? g2 (k :: hereF (k + 1) r)
      rw [List.findSome?_cons]
theorem getP {ps : List Plug} {i : Nat} {p : Plug} (h : ps[i]? = some p) : atI (ps.map encP) (i : Int) = some (encP p) := atI_map encP h
theorem getO {plan : Plan} {i : Nat} {o : Option Place} (h : plan[i]? = some o) : atI (plan.map encO) (i : Int) = some (encO o) := atI_map encO h
theorem eq_sock (a b : Nat) : ((a : Int) == (b : Int)) = decide (a = b) := by
  by_cases h : a = b
  · subst h; simp
  · rw [decide_eq_false h, beq_eq_false_iff_ne]; omega
theorem law_body_run {s : List Int} {p : Plug} {pl : Place} (h : pl.1 < s.length) : F__law_body [socksD s, encP p, encL pl] = some (.ok (.lst [.int (bBeg s p pl), .int (bEnd s p pl)])) := by
  obtain ⟨k, t⟩ := pl
  obtain ⟨l, r, u⟩ := p
  have e : atI (s.map D.int) (k : Int) = some (.int (s.getD k 0)) := atI_map D.int (by simp [List.getD, List.getElem?_eq_getElem h])
  unfold F__law_body
  rw [fnP_run (by rfl)]
  unfold f__law_body encL encP bBeg bEnd sideL sideR
  cases t
  · push_cast [socksD, e, lstR_run (show 2 ≤ lim by decide)]
  · push_cast [socksD, e, lstR_run (show 2 ≤ lim by decide)]
def meetB (s : List Int) (p : Plug) (a : Place) (q : Plug) (b : Place) : Bool :=
  if b.1 < a.1 then decide (bBeg s p a < bEnd s q b) else decide (bBeg s q b < bEnd s p a)
theorem meet_apart {s : List Int} {p q : Plug} {a b : Place} (h : a.1 ≠ b.1) : meetB s p a q b = !apart s p a q b := by
  unfold meetB apart
  by_cases h1 : a.1 < b.1
  · rw [if_pos h1, if_neg (by omega)]
    by_cases h2 : bEnd s p a ≤ bBeg s q b
    · rw [decide_eq_true h2, decide_eq_false (by omega)]; rfl
    · rw [decide_eq_false h2, decide_eq_true (by omega)]; rfl
  · rw [if_neg h1, if_pos (by omega)]
    by_cases h2 : bEnd s q b ≤ bBeg s p a
    · rw [decide_eq_true h2, decide_eq_false (by omega)]; rfl
    · rw [decide_eq_false h2, decide_eq_true (by omega)]; rfl
theorem law_meet_run {s : List Int} {ps : List Plug} {plan : Plan} {i j : Nat} {x y : Place} {p q : Plug} (hx : plan[i]? = some (some x)) (hy : plan[j]? = some (some y)) (hpi : ps[i]? = some p) (hqj : ps[j]? = some q) (ax : x.1 < s.length) (ay : y.1 < s.length) :
    F__law_meet [socksD s, plugsD ps, planD plan, .int i, .int j] = some (.ok (.bl (meetB s p x q y))) := by
  have ea : opIx (planD plan) (.int i) = some (encL x) := by unfold planD; rw [opIx_tup]; exact getO hx
  have eb : opIx (planD plan) (.int j) = some (encL y) := by unfold planD; rw [opIx_tup]; exact getO hy
  have ep : opIx (plugsD ps) (.int i) = some (encP p) := by unfold plugsD; rw [opIx_tup]; exact getP hpi
  have eq : opIx (plugsD ps) (.int j) = some (encP q) := by unfold plugsD; rw [opIx_tup]; exact getP hqj
  have b1 := law_body_run (p := p) ax
  have b2 := law_body_run (p := q) ay
  obtain ⟨k, t⟩ := x
  obtain ⟨l, u⟩ := y
  unfold F__law_meet
  rw [fnP_run (by rfl)]
  unfold f__law_meet meetB
  unfold encL at *
  by_cases h : (l : Int) < k
  · have h' : l < k := by omega
    push_cast [ea, eb, ep, eq, b1, b2, decide_eq_true h, h']
  · have h' : ¬ l < k := by omega
    push_cast [ea, eb, ep, eq, b1, b2, decide_eq_false h, h']
theorem find_pairs {β : Type} (g : Nat × Nat → Option β) (ks : List Nat) : ∀ l : List Nat, (l.flatMap fun a => ks.filterMap fun b => if a < b then some (a, b) else none).findSome? g = l.findSome? fun a => ks.findSome? fun b => if a < b then g (a, b) else none
  | [] => rfl
  | a :: l => by
    rw [List.flatMap_cons, List.findSome?_append, find_pairs g ks l, List.findSome?_cons]
    have : (ks.filterMap fun b => if a < b then some (a, b) else none).findSome? g = ks.findSome? fun b => if a < b then g (a, b) else none := by
      induction ks with
      | nil => rfl
      | cons b ks ih =>
        rw [List.filterMap_cons, List.findSome?_cons]
        by_cases h : a < b
        · simp only [h, if_true, List.findSome?_cons]
          rw [ih]
        · simp only [h, if_false]
          exact ih
    rw [this]
    cases ks.findSome? fun b => if a < b then g (a, b) else none <;> rfl
theorem find_congr {α β : Type} {f g : α → Option β} : ∀ (l : List α), (∀ a ∈ l, f a = g a) → l.findSome? f = l.findSome? g
  | [], _ => rfl
  | a :: l, h => by
    rw [List.findSome?_cons, List.findSome?_cons, h a List.mem_cons_self, find_congr l fun b hb => h b (List.mem_cons_of_mem _ hb)]
theorem find_none {α β : Type} {f : α → Option β} : ∀ (l : List α), l.findSome? f = none → ∀ a ∈ l, f a = none
  | [], _, a, ha => by cases ha
  | b :: l, h, a, ha => by
    rw [List.findSome?_cons] at h
    cases q : f b with
    | some x => rw [q] at h; cases h
    | none =>
      rw [q] at h
      rcases List.mem_cons.mp ha with rfl | ha
      · exact q
      · exact find_none l h a ha
def meetG (s : List Int) (ps : List Plug) (plan : Plan) (p : Nat × Nat) : Option D := match plan[p.1]?, plan[p.2]?, ps[p.1]?, ps[p.2]? with
  | some (some x), some (some y), some a, some b => if meetB s a x b y then some (.tup [.str "overlap", nD p.1, nD p.2]) else none
  | _, _, _, _ => none
theorem meet_over {s : List Int} {ps : List Plug} {plan : Plan} {p : Nat × Nat} (h : sockG plan p = none) : meetG s ps plan p = overG s ps plan p := by
  unfold meetG overG
  unfold sockG at h
  cases e1 : plan[p.1]? with
  | none => rfl
  | some o1 => cases o1 with
    | none => rfl
    | some x => cases e2 : plan[p.2]? with
      | none => rfl
      | some o2 => cases o2 with
        | none => rfl
        | some y => cases e3 : ps[p.1]? with
          | none => rfl
          | some a => cases e4 : ps[p.2]? with
            | none => rfl
            | some b =>
              rw [e1, e2] at h
              dsimp only at h ⊢
              have hne : x.1 ≠ y.1 := fun z => by rw [if_pos z] at h; cases h
              rw [meet_apart hne]
              cases apart s a x b y <;> rfl
def natOf : D → Nat
  | .int i => i.toNat
  | _ => 0
theorem natOf_nD (i : Nat) : natOf (nD i) = i := by simp [natOf, nD]
def Finds (P : Rho → Prop) (g : D → Option D) (tg : FG) (b : FS) (ds : List D) (ρ : Rho) (ω : Om) : Prop := match ds.findSome? g with
  | some x => forL tg b ds ρ ω = .ret (.val x) ω
  | none => ∃ ρ', forL tg b ds ρ ω = .next ρ' ω ∧ P ρ'
theorem law_here_lc {s : List Int} {ps : List Plug} {plan : Plan} (hlen : plan.length = ps.length) (hp : PlanOk s.length plan) (hl : plan.length ≤ 100) : lcL (gN 4) (eTest (eBin opNotN (eIx (eVar 2) (eVar 4)) (eC .non))) (eVar 4) [some (.val (socksD s)), some (.val (plugsD ps)), some (.val (planD plan)), none, none, none, none] (rngD 0 plan.length) [] [] = .ok (.lst (hereD plan)) [] := by
  have getp : ∀ {i : Nat} {o : Option Place}, plan[i]? = some o → ∃ p, ps[i]? = some p := fun {i o} h => by
    have := (List.getElem?_eq_some_iff.mp h).1
    exact ⟨ps[i]'(by omega), List.getElem?_eq_getElem (by omega)⟩
  have ixO : ∀ {i : Nat} {o : Option Place}, plan[i]? = some o → opIx (planD plan) (.int i) = some (encO o) := fun {i o} h => by unfold planD; rw [opIx_tup]; exact getO h
  have ixP : ∀ {i : Nat} {p : Plug}, ps[i]? = some p → opIx (plugsD ps) (.int i) = some (encP p) := fun {i p} h => by unfold plugsD; rw [opIx_tup]; exact getP h
  rw [lcL_pure (fun d => isSt plan[natOf d]? d) _ [] (by rw [rngD_len]; simp only [List.length_nil]; show _ ≤ 16777216; omega)]
  · have : (rngD 0 plan.length).filterMap (fun d => isSt plan[natOf d]? d) = hereD plan := by
      have h := here_range plan 0
      have hr : rngD 0 (plan.length : Int) = (List.range plan.length).map nD := by
        unfold rngD nD
        rw [show ((plan.length : Int) - 0).toNat = plan.length by omega]
        congr 1
        funext i
        simp
      rw [hr, List.filterMap_map]
      unfold hereD here
      rw [← h]
      congr 1
      funext i
      simp only [Function.comp, natOf_nD, Nat.zero_add]
    rw [this]; rfl
  · intro d hd
    obtain ⟨i, hi⟩ := List.mem_iff_getElem?.mp hd
    obtain ⟨rfl, hi'⟩ := rngD_get hi
    have hin : i < plan.length := by omega
    refine ⟨_, rfl, ?_⟩
    have e : (0 : Int) + (i : Int) = (i : Int) := by omega
    rw [e]
    cases q : plan[i]? with
    | none => exact absurd q (by simp [List.getElem?_eq_getElem hin])
    | some o =>
      have := ixO q
      have q' : plan[natOf (.int (i : Int))]? = some o := by rw [show natOf (.int (i : Int)) = i from natOf_nD i]; exact q
      rw [q']
      cases o with
      | none => show _ = _; push_cast [this, encO]
      | some pl => exact ⟨by push_cast [this, encO, encL], by push_cast []⟩
theorem law_turn_loop {s : List Int} {ps : List Plug} {plan : Plan} (hlen : plan.length = ps.length) (hp : PlanOk s.length plan) (hl : plan.length ≤ 100) : Finds (fun ρ => ∃ x4, ρ = [some (.val (socksD s)), some (.val (plugsD ps)), some (.val (planD plan)), some (.val (.lst (hereD plan))), x4, none, none]) (fun d => turnG ps plan (natOf d)) (gN 4) (sIf (eAndT (eTest (eIx (eIx (eVar 2) (eVar 4)) (eC (.int 1)))) (eNotT (eTest (eCallP F__law_can (aCons (aVal (eIx (eVar 1) (eVar 4))) aNil))))) (sRet (eTup (aCons (aVal (eC (.str "turn"))) (aCons (aVal (eVar 4)) aNil)))) sNext) (hereD plan) [some (.val (socksD s)), some (.val (plugsD ps)), some (.val (planD plan)), some (.val (.lst (hereD plan))), none, none, none] [] := by
  have getp : ∀ {i : Nat} {o : Option Place}, plan[i]? = some o → ∃ p, ps[i]? = some p := fun {i o} h => by
    have := (List.getElem?_eq_some_iff.mp h).1
    exact ⟨ps[i]'(by omega), List.getElem?_eq_getElem (by omega)⟩
  have ixO : ∀ {i : Nat} {o : Option Place}, plan[i]? = some o → opIx (planD plan) (.int i) = some (encO o) := fun {i o} h => by unfold planD; rw [opIx_tup]; exact getO h
  have ixP : ∀ {i : Nat} {p : Plug}, ps[i]? = some p → opIx (plugsD ps) (.int i) = some (encP p) := fun {i p} h => by unfold plugsD; rw [opIx_tup]; exact getP h
  refine forL_find (ρ := []) _ _ _ _ ⟨none, rfl⟩ ?_
  rintro d hd ρ ⟨x4, rfl⟩
  obtain ⟨i, hi, rfl⟩ := List.mem_map.mp hd
  obtain ⟨pl, hpl⟩ := mem_here hi
  obtain ⟨p, hpp⟩ := getp hpl
  refine ⟨_, rfl, ?_⟩
  have a1 := ixO hpl
  have a2 := ixP hpp
  rw [natOf_nD]
  have eg : turnG ps plan i = if pl.2 && !canT p then some (.tup [.str "turn", nD i]) else none := by unfold turnG; rw [hpl, hpp]
  rw [eg]
  obtain ⟨k, t⟩ := pl
  unfold nD
  cases t with
  | false =>
    refine ⟨[some (.val (socksD s)), some (.val (plugsD ps)), some (.val (planD plan)), some (.val (.lst (hereD plan))), some (.val (.int i)), none, none], ?_, _, rfl⟩
    push_cast [a1, encO, encL]
  | true =>
    cases hc : canT p with
    | true =>
      refine ⟨[some (.val (socksD s)), some (.val (plugsD ps)), some (.val (planD plan)), some (.val (.lst (hereD plan))), some (.val (.int i)), none, none], ?_, _, rfl⟩
      push_cast [a1, a2, encO, encL, law_can_run, hc]
    | false =>
      show _ = _
      push_cast [a1, a2, encO, encL, law_can_run, hc, tupR_run (show 2 ≤ lim by decide)]
theorem law_sock_loop {s : List Int} {ps : List Plug} {plan : Plan} (hlen : plan.length = ps.length) (hp : PlanOk s.length plan) (hl : plan.length ≤ 100) {x4 : Option SV} : Finds (fun ρ => ∃ x5 x6, ρ = [some (.val (socksD s)), some (.val (plugsD ps)), some (.val (planD plan)), some (.val (.lst (hereD plan))), x4, x5, x6]) (fun d => (hereD plan).findSome? fun e => if natOf d < natOf e then sockG plan (natOf d, natOf e) else none) (gN 5) (sFor (eIt1 itSeq (eVar 3)) (gN 6)
      (sIf (eAndT (eTest (eBin opLt (eVar 5) (eVar 6))) (eTest (eBin opEq (eIx (eIx (eVar 2) (eVar 5)) (eC (.int 0))) (eIx (eIx (eVar 2) (eVar 6)) (eC (.int 0)))))) (sRet (eTup (aCons (aVal (eC (.str "socket"))) (aCons (aVal (eVar 5)) (aCons (aVal (eVar 6)) aNil))))) sNext)) (hereD plan) [some (.val (socksD s)), some (.val (plugsD ps)), some (.val (planD plan)), some (.val (.lst (hereD plan))), x4, none, none] [] := by
  have getp : ∀ {i : Nat} {o : Option Place}, plan[i]? = some o → ∃ p, ps[i]? = some p := fun {i o} h => by
    have := (List.getElem?_eq_some_iff.mp h).1
    exact ⟨ps[i]'(by omega), List.getElem?_eq_getElem (by omega)⟩
  have ixO : ∀ {i : Nat} {o : Option Place}, plan[i]? = some o → opIx (planD plan) (.int i) = some (encO o) := fun {i o} h => by unfold planD; rw [opIx_tup]; exact getO h
  have ixP : ∀ {i : Nat} {p : Plug}, ps[i]? = some p → opIx (plugsD ps) (.int i) = some (encP p) := fun {i p} h => by unfold plugsD; rw [opIx_tup]; exact getP h
  refine forL_find (ρ := []) _ _ _ _ ⟨none, none, rfl⟩ ?_
  rintro d hd ρ ⟨x5, x6, rfl⟩
  obtain ⟨a, ha, rfl⟩ := List.mem_map.mp hd
  obtain ⟨x, hx⟩ := mem_here ha
  refine ⟨_, rfl, ?_⟩
  push_cast []
  have a1 := ixO hx
  have L := forL_find (ρ := []) (tg := gN 6) (b := (sIf (eAndT (eTest (eBin opLt (eVar 5) (eVar 6))) (eTest (eBin opEq (eIx (eIx (eVar 2) (eVar 5)) (eC (.int 0))) (eIx (eIx (eVar 2) (eVar 6)) (eC (.int 0)))))) (sRet (eTup (aCons (aVal (eC (.str "socket"))) (aCons (aVal (eVar 5)) (aCons (aVal (eVar 6)) aNil))))) sNext)) (ω := [])
    (fun ρ => ∃ x6, ρ = [some (.val (socksD s)), some (.val (plugsD ps)), some (.val (planD plan)), some (.val (.lst (hereD plan))), x4, some (.val (nD a)), x6]) (fun e => if natOf (nD a) < natOf e then sockG plan (natOf (nD a), natOf e) else none) (hereD plan) [some (.val (socksD s)), some (.val (plugsD ps)), some (.val (planD plan)), some (.val (.lst (hereD plan))), x4, some (.val (nD a)), x6] ⟨x6, rfl⟩ (by
      rintro d hd ρ ⟨x6, rfl⟩
      obtain ⟨b, hb, rfl⟩ := List.mem_map.mp hd
      obtain ⟨y, hy⟩ := mem_here hb
      have a2 := ixO hy
      refine ⟨_, rfl, ?_⟩
      simp only [natOf_nD]
      have eg : sockG plan (a, b) = if x.1 = y.1 then some (.tup [.str "socket", nD a, nD b]) else none := by unfold sockG; dsimp only; rw [hx, hy]
      rw [eg]
      unfold nD
      by_cases hab : a < b
      · rw [if_pos hab]
        by_cases h : x.1 = y.1
        · rw [if_pos h]
          show _ = _
          push_cast [a1, a2, encO, encL, lt_nD, decide_eq_true hab, eq_sock, decide_eq_true h, tupR_run (show 3 ≤ lim by decide)]
        · rw [if_neg h]
          refine ⟨[some (.val (socksD s)), some (.val (plugsD ps)), some (.val (planD plan)), some (.val (.lst (hereD plan))), x4, some (.val (.int a)), some (.val (.int b))], ?_, _, rfl⟩
          push_cast [a1, a2, encO, encL, lt_nD, decide_eq_true hab, eq_sock, decide_eq_false h]
      · rw [if_neg hab]
        refine ⟨[some (.val (socksD s)), some (.val (plugsD ps)), some (.val (planD plan)), some (.val (.lst (hereD plan))), x4, some (.val (.int a)), some (.val (.int b))], ?_, _, rfl⟩
        push_cast [a1, a2, encO, encL, lt_nD, decide_eq_false hab])
  cases q : (hereD plan).findSome? (fun e => if natOf (nD a) < natOf e then sockG plan (natOf (nD a), natOf e) else none) with
  | some x => rw [q] at L; exact L
  | none =>
    rw [q] at L
    obtain ⟨ρ', L, x6', rfl⟩ := L
    exact ⟨_, L, _, _, rfl⟩
theorem law_over_loop {s : List Int} {ps : List Plug} {plan : Plan} (hlen : plan.length = ps.length) (hp : PlanOk s.length plan) (hl : plan.length ≤ 100) {x4 : Option SV} {x5 : Option SV} {x6 : Option SV} : Finds (fun ρ => ∃ x5 x6, ρ = [some (.val (socksD s)), some (.val (plugsD ps)), some (.val (planD plan)), some (.val (.lst (hereD plan))), x4, x5, x6]) (fun d => (hereD plan).findSome? fun e => if natOf d < natOf e then meetG s ps plan (natOf d, natOf e) else none) (gN 5) (sFor (eIt1 itSeq (eVar 3)) (gN 6)
        (sIf (eAndT (eTest (eBin opLt (eVar 5) (eVar 6))) (eTest (eCallP F__law_meet (aCons (aVal (eVar 0)) (aCons (aVal (eVar 1)) (aCons (aVal (eVar 2)) (aCons (aVal (eVar 5)) (aCons (aVal (eVar 6)) aNil)))))))) (sRet (eTup (aCons (aVal (eC (.str "overlap"))) (aCons (aVal (eVar 5)) (aCons (aVal (eVar 6)) aNil))))) sNext)) (hereD plan) [some (.val (socksD s)), some (.val (plugsD ps)), some (.val (planD plan)), some (.val (.lst (hereD plan))), x4, x5, x6] [] := by
  have getp : ∀ {i : Nat} {o : Option Place}, plan[i]? = some o → ∃ p, ps[i]? = some p := fun {i o} h => by
    have := (List.getElem?_eq_some_iff.mp h).1
    exact ⟨ps[i]'(by omega), List.getElem?_eq_getElem (by omega)⟩
  have ixO : ∀ {i : Nat} {o : Option Place}, plan[i]? = some o → opIx (planD plan) (.int i) = some (encO o) := fun {i o} h => by unfold planD; rw [opIx_tup]; exact getO h
  have ixP : ∀ {i : Nat} {p : Plug}, ps[i]? = some p → opIx (plugsD ps) (.int i) = some (encP p) := fun {i p} h => by unfold plugsD; rw [opIx_tup]; exact getP h
  refine forL_find (ρ := []) _ _ _ _ ⟨x5, x6, rfl⟩ ?_
  rintro d hd ρ ⟨x5, x6, rfl⟩
  obtain ⟨a, ha, rfl⟩ := List.mem_map.mp hd
  obtain ⟨x, hx⟩ := mem_here ha
  obtain ⟨p, hpa⟩ := getp hx
  refine ⟨_, rfl, ?_⟩
  push_cast []
  have L := forL_find (ρ := []) (tg := gN 6) (b := (sIf (eAndT (eTest (eBin opLt (eVar 5) (eVar 6))) (eTest (eCallP F__law_meet (aCons (aVal (eVar 0)) (aCons (aVal (eVar 1)) (aCons (aVal (eVar 2)) (aCons (aVal (eVar 5)) (aCons (aVal (eVar 6)) aNil)))))))) (sRet (eTup (aCons (aVal (eC (.str "overlap"))) (aCons (aVal (eVar 5)) (aCons (aVal (eVar 6)) aNil))))) sNext)) (ω := [])
    (fun ρ => ∃ x6, ρ = [some (.val (socksD s)), some (.val (plugsD ps)), some (.val (planD plan)), some (.val (.lst (hereD plan))), x4, some (.val (nD a)), x6]) (fun e => if natOf (nD a) < natOf e then meetG s ps plan (natOf (nD a), natOf e) else none) (hereD plan) [some (.val (socksD s)), some (.val (plugsD ps)), some (.val (planD plan)), some (.val (.lst (hereD plan))), x4, some (.val (nD a)), x6] ⟨x6, rfl⟩ (by
      rintro d hd ρ ⟨x6, rfl⟩
      obtain ⟨b, hb, rfl⟩ := List.mem_map.mp hd
      obtain ⟨y, hy⟩ := mem_here hb
      obtain ⟨q, hqb⟩ := getp hy
      have em := law_meet_run (s := s) hx hy hpa hqb (hp x (List.mem_of_getElem? hx)) (hp y (List.mem_of_getElem? hy))
      refine ⟨_, rfl, ?_⟩
      simp only [natOf_nD]
      have eg : meetG s ps plan (a, b) = if meetB s p x q y then some (.tup [.str "overlap", nD a, nD b]) else none := by unfold meetG; dsimp only; rw [hx, hy, hpa, hqb]
      rw [eg]
      unfold nD
      by_cases hab : a < b
      · rw [if_pos hab]
        cases h : meetB s p x q y with
        | true =>
          show _ = _
          push_cast [em, h, lt_nD, decide_eq_true hab, tupR_run (show 3 ≤ lim by decide)]
        | false =>
          refine ⟨[some (.val (socksD s)), some (.val (plugsD ps)), some (.val (planD plan)), some (.val (.lst (hereD plan))), x4, some (.val (.int a)), some (.val (.int b))], ?_, _, rfl⟩
          push_cast [em, h, lt_nD, decide_eq_true hab]
      · rw [if_neg hab]
        refine ⟨[some (.val (socksD s)), some (.val (plugsD ps)), some (.val (planD plan)), some (.val (.lst (hereD plan))), x4, some (.val (.int a)), some (.val (.int b))], ?_, _, rfl⟩
        push_cast [lt_nD, decide_eq_false hab])
  cases q : (hereD plan).findSome? (fun e => if natOf (nD a) < natOf e then meetG s ps plan (natOf (nD a), natOf e) else none) with
  | some x => rw [q] at L; exact L
  | none =>
    rw [q] at L
    obtain ⟨ρ', L, x6', rfl⟩ := L
    exact ⟨_, L, _, _, rfl⟩
theorem find_here (plan : Plan) (g : Nat → Option D) : (hereD plan).findSome? (fun d => g (natOf d)) = (here plan).findSome? g := by
  unfold hereD
  rw [List.findSome?_map]
  exact find_congr _ fun i _ => congrArg g (natOf_nD i)
theorem find_both (plan : Plan) (g : Nat × Nat → Option D) : (hereD plan).findSome? (fun d => (hereD plan).findSome? fun e => if natOf d < natOf e then g (natOf d, natOf e) else none) = (pairsN plan).findSome? g := by
  unfold pairsN
  rw [find_pairs, ← find_here]
  exact find_congr _ fun d _ => find_here plan fun e => if natOf d < e then g (natOf d, e) else none
theorem law_here_set {s : List Int} {ps : List Plug} {plan : Plan} (hlen : plan.length = ps.length) (hp : PlanOk s.length plan) (hl : plan.length ≤ 100) :
    sSet 3 (eLc [4] (eIt1 itR1 (eCallB oLen (aCons (aVal (eVar 2)) aNil))) (gN 4) (eTest (eBin opNotN (eIx (eVar 2) (eVar 4)) (eC .non))) (eVar 4)) [some (.val (socksD s)), some (.val (plugsD ps)), some (.val (planD plan)), none, none, none, none] [] =
      .next [some (.val (socksD s)), some (.val (plugsD ps)), some (.val (planD plan)), some (.val (.lst (hereD plan))), none, none, none] [] := by
  have e0 : oLen [planD plan] = some (.int plan.length) := by unfold planD; rw [oLen_tup, List.length_map]
  have e2 : itR1 (.int (plan.length : Int)) = some (rngD 0 plan.length) := itR1_run (by omega) (by omega)
  have e3 : (eIt1 itR1 (eCallB oLen (aCons (aVal (eVar 2)) aNil))) [some (.val (socksD s)), some (.val (plugsD ps)), some (.val (planD plan)), none, none, none, none] [] = .ok (rngD 0 plan.length) [] := by
    have v : (eVar 2) [some (.val (socksD s)), some (.val (plugsD ps)), some (.val (planD plan)), none, none, none, none] [] = .ok (planD plan) [] := rfl
    rw [eIt1_run, eCallB_run, aCons_run, aVal_run, v, bind_ok, bind_ok, aNil_run, bind_ok, bind_ok, allD_cons, allD_nil, Option.map_some, Option.bind_some, e0, lift_some, bind_ok, e2, lift_some]
  have e1 := law_here_lc (s := s) hlen hp hl
  unfold sSet
  rw [sAsg_run, eLc_run, e3, bind_ok]
  have w : wipeR [some (SV.val (socksD s)), some (.val (plugsD ps)), some (.val (planD plan)), none, none, none, none] [4] = [some (.val (socksD s)), some (.val (plugsD ps)), some (.val (planD plan)), none, none, none, none] := rfl
  rw [w, e1]
  rfl
theorem law_fault_run {s : List Int} {ps : List Plug} {plan : Plan} (hlen : plan.length = ps.length) (hp : PlanOk s.length plan) (hl : plan.length ≤ 100) : F__law_fault [socksD s, plugsD ps, planD plan] = some (.ok (fault s ps plan)) := by
  have getp : ∀ {i : Nat} {o : Option Place}, plan[i]? = some o → ∃ p, ps[i]? = some p := fun {i o} h => by
    have := (List.getElem?_eq_some_iff.mp h).1
    exact ⟨ps[i]'(by omega), List.getElem?_eq_getElem (by omega)⟩
  have ixO : ∀ {i : Nat} {o : Option Place}, plan[i]? = some o → opIx (planD plan) (.int i) = some (encO o) := fun {i o} h => by unfold planD; rw [opIx_tup]; exact getO h
  have ixP : ∀ {i : Nat} {p : Plug}, ps[i]? = some p → opIx (plugsD ps) (.int i) = some (encP p) := fun {i p} h => by unfold plugsD; rw [opIx_tup]; exact getP h
  unfold F__law_fault
  rw [fnP_run (by rfl)]
  unfold f__law_fault
  rw [show rho0 7 (List.map SV.val [socksD s, plugsD ps, planD plan]) = [some (.val (socksD s)), some (.val (plugsD ps)), some (.val (planD plan)), none, none, none, none] from rfl, sSeq_run, law_here_set hlen hp hl, obind_next, sSeq_run, sFor_run, eIt1_run, show (eVar 3) [some (.val (socksD s)), some (.val (plugsD ps)), some (.val (planD plan)), some (.val (.lst (hereD plan))), none, none, none] [] = .ok (.lst (hereD plan)) [] from rfl, bind_ok, itSeq_lst, lift_some, out_ok]
  have L1 := law_turn_loop (s := s)  hlen hp hl
  unfold Finds at L1
  rw [find_here] at L1
  unfold fault
  cases f1 : (here plan).findSome? (turnG ps plan) with
  | some d =>
    rw [f1] at L1
    dsimp only at L1
    push_cast [L1]
    try rfl
  | none =>
    rw [f1] at L1
    obtain ⟨ρ1, L1, x4, rfl⟩ := L1
    push_cast [L1]
    have L2' := law_sock_loop (s := s) (x4 := x4) hlen hp hl
    unfold Finds at L2'
    rw [find_both] at L2'
    cases f2 : (pairsN plan).findSome? (sockG plan) with
    | some d =>
      rw [f2] at L2'
      dsimp only at L2'
      have e := L2'
      push_cast [e]
      rfl
    | none =>
      rw [f2] at L2'
      obtain ⟨ρ2, e, x5, x6, rfl⟩ := L2'
      push_cast [e]
      have L3 := law_over_loop (s := s) (x4 := x4) (x5 := x5) (x6 := x6) hlen hp hl
      unfold Finds at L3
      rw [find_both, find_congr _ fun p hp => meet_over (find_none _ f2 p hp)] at L3
      cases f3 : (pairsN plan).findSome? (overG s ps plan) with
      | some d =>
        rw [f3] at L3
        dsimp only at L3
        have e := L3
        push_cast [e]
        rfl
      | none =>
        rw [f3] at L3
        obtain ⟨ρ3, e, y5, y6, rfl⟩ := L3
        push_cast [e]
        rfl
theorem rng_len {ρ : Rho} {ω : Om} {i : Nat} {d : D} {n : Nat} (hv : eVar i ρ ω = .ok d ω) (e0 : oLen [d] = some (.int (n : Int))) (h : n < 1000000) :
    eIt1 itR1 (eCallB oLen (aCons (aVal (eVar i)) aNil)) ρ ω = .ok (rngD 0 n) ω := by
  have e2 : itR1 (.int (n : Int)) = some (rngD 0 n) := itR1_run (by omega) (by omega)
  rw [eIt1_run, eCallB_run, aCons_run, aVal_run, hv, bind_ok, bind_ok, aNil_run, bind_ok, bind_ok, allD_cons, allD_nil, Option.map_some, Option.bind_some, e0, lift_some, bind_ok, e2, lift_some]
theorem len_socks (s : List Int) : oLen [socksD s] = some (.int s.length) := by unfold socksD; rw [oLen_tup, List.length_map]
theorem len_plugs (s : List Plug) : oLen [plugsD s] = some (.int s.length) := by unfold plugsD; rw [oLen_tup, List.length_map]
theorem cut_lo (ds : List D) (k : Nat) : slD none (some (k : Int)) (.tup ds) = some (.tup (ds.take k)) := by
  show some (D.tup (cutD ds none (some (k : Int)))) = _
  unfold cutD
  rw [HT.sIx_none, HT.sIx_nat]
  simp only [List.drop_zero, Nat.sub_zero]
  congr 2
  by_cases h : k ≤ ds.length
  · rw [Nat.min_eq_left h]
  · rw [Nat.min_eq_right (by omega), List.take_of_length_le (Nat.le_refl _), List.take_of_length_le (by omega)]
theorem cut_hi (ds : List D) (k : Nat) : slD (some ((k : Int) + 1)) none (.tup ds) = some (.tup (ds.drop (k + 1))) := by
  show some (D.tup (cutD ds (some ((k : Int) + 1)) none)) = _
  unfold cutD
  rw [HT.sIx_none, show ((k : Int) + 1) = ((k + 1 : Nat) : Int) by omega, HT.sIx_nat]
  congr 2
  by_cases h : k + 1 ≤ ds.length
  · rw [Nat.min_eq_left h, List.take_of_length_le (by simp)]
  · rw [Nat.min_eq_right (by omega), List.drop_of_length_le (Nat.le_refl _), List.drop_of_length_le (show ds.length ≤ k + 1 by omega)]; simp
def setP (plan : Plan) (k : Nat) (o : Option Place) : Plan := plan.take k ++ [o] ++ plan.drop (k + 1)
theorem setP_ok {plan : Plan} {k n : Nat} {o : Option Place} (h : PlanOk n plan) (ho : ∀ pl, o = some pl → pl.1 < n) : PlanOk n (setP plan k o) := by
  intro pl hpl
  unfold setP at hpl
  rcases List.mem_append.mp hpl with hpl | hpl
  · rcases List.mem_append.mp hpl with hpl | hpl
    · exact h pl (List.mem_of_mem_take hpl)
    · simp at hpl; exact ho pl hpl.symm
  · exact h pl (List.mem_of_mem_drop hpl)
theorem setP_enc (plan : Plan) (k : Nat) (o : Option Place) : (setP plan k o).map encO = (plan.map encO).take k ++ [encO o] ++ (plan.map encO).drop (k + 1) := by
  unfold setP
  rw [List.map_append, List.map_append, List.map_take, List.map_drop]; rfl
theorem rep_flat (n : Nat) : (List.replicate n [D.non]).flatten = List.replicate n D.non := by
  induction n with
  | zero => rfl
  | succ n ih => rw [List.replicate_succ, List.flatten_cons, ih]; rfl
theorem mul_non {n : Nat} (h0 : 0 < n) (hl : n ≤ 100) : opMulA (.tup [.non]) (.int (n : Int)) = some (planD (List.replicate n none)) := by
  have e : planD (List.replicate n none) = .tup (List.replicate n D.non) := by unfold planD; rw [List.map_replicate]; rfl
  rw [e]
  unfold opMulA
  dsimp only
  by_cases h1 : (n : Int) = 1
  · rw [if_pos h1]
    have : n = 1 := by omega
    subst this; rfl
  · rw [if_neg h1, if_pos ⟨by simp, by omega, by omega, by simp⟩, Int.toNat_natCast, rep_flat]
theorem put_run {plan : Plan} {k : Nat} {d : D} {o : Option Place} (hd : d = encO o) (hk : k < plan.length) (hl : plan.length ≤ 100) {i j m : Nat} {ρ : Rho} {ω : Om} (hi : eVar i ρ ω = .ok (planD plan) ω) (hj : eVar j ρ ω = .ok (.int (k : Int)) ω) (hm : eVar m ρ ω = .ok d ω) :
    (eBin opAdd (eBin opAdd (eSl (eVar i) eNoPart (ePart (eVar j))) (eTup (aCons (aVal (eVar m)) aNil))) (eSl (eVar i) (ePart (eBin opAdd (eVar j) (eC (.int 1)))) eNoPart)) ρ ω = .ok (planD (setP plan k o)) ω := by
  subst hd
  have a1 : (eSl (eVar i) eNoPart (ePart (eVar j))) ρ ω = .ok (.tup ((plan.map encO).take k)) ω := by
    rw [eSl_run, hi, bind_ok, eNoPart_run, bind_ok, ePart_run, hj, bind_ok, asI_run, lift_some, bind_ok]
    unfold planD
    rw [cut_lo, lift_some]
  have a2 : (eSl (eVar i) (ePart (eBin opAdd (eVar j) (eC (.int 1)))) eNoPart) ρ ω = .ok (.tup ((plan.map encO).drop (k + 1))) ω := by
    rw [eSl_run, hi, bind_ok, ePart_run, eBin_run, hj, bind_ok, eC_run, bind_ok, opAdd_int, lift_some, bind_ok, asI_run, lift_some, bind_ok, eNoPart_run, bind_ok]
    unfold planD
    rw [cut_hi, lift_some]
  have a3 : (eTup (aCons (aVal (eVar m)) aNil)) ρ ω = .ok (.tup [encO o]) ω := by
    rw [eTup_run, aCons_run, aVal_run, hm, bind_ok, bind_ok, aNil_run, bind_ok, bind_ok, allD_cons, allD_nil, Option.map_some, tupR_run (n := [SV.val (encO o)].length) (show 1 ≤ lim by decide), lift_some]
  have l1 : ((plan.map encO).take k).length ≤ 100 := by simp only [List.length_take, List.length_map]; omega
  have l2 : ((plan.map encO).drop (k + 1)).length ≤ 100 := by simp only [List.length_drop, List.length_map]; omega
  rw [eBin_run, eBin_run, a1, bind_ok, a3, bind_ok, opAdd_tup (show ((plan.map encO).take k).length + 1 ≤ 16777216 by omega), lift_some, bind_ok, a2, bind_ok,
    opAdd_tup (show ((plan.map encO).take k ++ [encO o]).length + ((plan.map encO).drop (k + 1)).length ≤ 16777216 by rw [List.length_append]; simp only [List.length_cons, List.length_nil]; omega), lift_some, ← setP_enc]
  rfl
theorem sSet_run {i : Nat} {f : FE D} {ρ : Rho} {ω : Om} : sSet i f ρ ω = outL (f ρ ω) ρ (k := ⟨fun d ω1 => .next (ρ.set i (some (.val d))) ω1⟩) := by
  unfold sSet
  rw [sAsg_run]
  rfl
theorem hereF_nones : ∀ (n k : Nat), hereF k (List.replicate n none) = []
  | 0, k => rfl
  | n + 1, k => by rw [List.replicate_succ]; exact hereF_nones n (k + 1)
theorem fault_nones (s : List Int) (ps : List Plug) (n : Nat) : isNon (fault s ps (List.replicate n none)) = true := by
  have h : here (List.replicate n none) = [] := hereF_nones n 0
  unfold fault pairsN
  rw [h]
  rfl
theorem toVs_ints : ∀ ns : List Nat, toVs (ns.map nD) = some (ns.map fun n : Nat => V.int (n : Int))
  | [] => rfl
  | n :: ns => by
    show (match toV (nD n) with | some v => (toVs (ns.map nD)).map (v :: ·) | none => none) = _
    rw [toVs_ints ns]; rfl
theorem in_ints (i : Nat) (ns : List Nat) (neg : Bool) : opIn neg (.int i) (.lst (ns.map nD)) = some (.bl (if neg then !ns.contains i else ns.contains i)) := by
  have h : inV (.int (i : Int)) (ns.map fun n : Nat => V.int (n : Int)) = ns.contains i := by
    unfold inV
    rw [List.any_map]
    induction ns with
    | nil => rfl
    | cons n ns ih =>
      rw [List.any_cons, ih, List.contains_cons]
      congr 1
      show ((n : Int) == (i : Int)) = (i == n)
      rw [eq_sock]
      by_cases h : n = i
      · subst h; simp
      · rw [decide_eq_false h]; symm; rw [beq_eq_false_iff_ne]; exact fun z => h z.symm
  show (match toV (.int (i : Int)), toVs (ns.map nD) with
    | some v, some vs => some (D.bl (if neg then !inV v vs else inV v vs))
    | _, _ => none) = _
  rw [toVs_ints]
  show some (D.bl (if neg then !inV (.int (i : Int)) (ns.map fun n : Nat => V.int (n : Int)) else inV (.int (i : Int)) (ns.map fun n : Nat => V.int (n : Int)))) = _
  rw [h]
theorem asBls_map {α : Type} (f : α → Bool) : ∀ l : List α, asBls (l.map fun a => D.bl (f a)) = some (l.map f)
  | [] => rfl
  | a :: l => by
    show (asBls (l.map fun a => D.bl (f a))).map (f a :: ·) = _
    rw [asBls_map f l]; rfl
theorem any_map {α : Type} (f : α → Bool) (l : List α) : oAnyL (l.map fun a => D.bl (f a)) = some (.bl (l.any f)) := by
  unfold oAnyL
  rw [asBls_map]
  show some (D.bl ((l.map f).any id)) = _
  rw [List.any_map]; rfl
theorem all_map {α : Type} (f : α → Bool) (l : List α) : oAllL (l.map fun a => D.bl (f a)) = some (.bl (l.all f)) := by
  unfold oAllL
  rw [asBls_map]
  show some (D.bl ((l.map f).all id)) = _
  rw [List.all_map]; rfl
theorem cf : eqD (.str "covered") (.str "free") = some false := by rw [eqD_str (by decide +kernel) (by decide +kernel)]; decide +kernel
def placesN (n : Nat) (p : Plug) : List Place := (List.range n).flatMap fun i => if canT p then [(i, false), (i, true)] else [(i, false)]
theorem law_places_eq {s : List Int} (p : Plug) (hl : s.length ≤ 100) : F__law_places [socksD s, encP p] = some (.ok (.lst ((placesN s.length p).map encL))) := by
  unfold F__law_places
  rw [fnP_run (by rfl)]
  unfold f__law_places
  rw [show rho0 4 (List.map SV.val [socksD s, encP p]) = [some (.val (socksD s)), some (.val (encP p)), none, none] from rfl, sSeq_run, show sNewL 2 aNil [some (.val (socksD s)), some (.val (encP p)), none, none] [] = .next [some (.val (socksD s)), some (.val (encP p)), some (.own 0), none] [some (.lst [])] from rfl,
    obind_next, sSeq_run, sFor_run, rng_len (d := socksD s) rfl (len_socks s) (by omega), out_ok]
  generalize hb : sSeq _ (sIf _ _ _) = body
  have hlp : ∀ i, (placesN i p).length ≤ 2 * i := fun i => by
    induction i with
    | zero => simp [placesN]
    | succ i ih =>
      unfold placesN at ih ⊢
      rw [List.range_succ, List.flatMap_append, List.length_append]
      have : ([i].flatMap fun i => if canT p then [(i, false), (i, true)] else [(i, false)]).length ≤ 2 := by cases canT p <;> simp
      omega
  obtain ⟨ρ', ω', e, x3, rfl, rfl⟩ := forL_all (tg := gN 3) (b := body) (ds := rngD 0 s.length) (ω := [some (.lst [])]) (ρ := [some (.val (socksD s)), some (.val (encP p)), some (.own 0), none])
    (fun i ρ ω => ∃ (x3 : Option SV), ρ = [some (.val (socksD s)), some (.val (encP p)), some (.own 0), x3] ∧ ω = [some (.lst ((placesN i p).map encL))])
    ⟨none, rfl, rfl⟩ (by
    rintro i d ρ ω hd ⟨x3, rfl, rfl⟩
    obtain ⟨rfl, hlt⟩ := rngD_get hd
    subst hb
    have hz : (0 : Int) + (i : Int) = (i : Int) := by omega
    rw [hz]
    have h2 := hlp i
    have hll : ((placesN i p).map encL).length < lim := by rw [List.length_map]; show _ < 16777216; omega
    have hll2 : ((placesN i p).map encL ++ [D.tup [.int (i : Int), .bl false]]).length < lim := by rw [List.length_append, List.length_map]; show _ + 1 < 16777216; omega
    have hst : placesN (i + 1) p = placesN i p ++ if canT p then [(i, false), (i, true)] else [(i, false)] := by
      unfold placesN
      rw [List.range_succ, List.flatMap_append]; simp
    refine ⟨_, [some (.val (socksD s)), some (.val (encP p)), some (.own 0), some (.val (.int i))], [some (.lst ((placesN (i + 1) p).map encL))], rfl, ?_, _, rfl, rfl⟩
    rw [hst]
    cases hc : canT p with
    | true =>
      push_cast [hll, tupR_run (show 2 ≤ lim by decide), law_can_run, hc, if_pos hll, if_pos hll2]
      simp [encL]
    | false =>
      push_cast [hll, tupR_run (show 2 ≤ lim by decide), law_can_run, hc, if_pos hll]
      simp [encL])
  have hn : (rngD 0 (s.length : Int)).length = s.length := by rw [rngD_len]; omega
  rw [hn] at e
  rw [e]
  push_cast []
def standsD (p : Plug) : List D := if canT p then [.bl false, .bl true] else [.bl false]
theorem stands_run (p : Plug) : F_stands_of [encP p] = some (.ok (.lst (standsD p))) := by
  unfold F_stands_of
  rw [fnP_run (by rfl)]
  unfold f_stands_of standsD
  cases h : canT p
  · push_cast [can_turn_run, h, lstR_run (show 1 ≤ lim by decide)]
  · push_cast [can_turn_run, h, lstR_run (show 2 ≤ lim by decide)]
theorem rng_nD (n : Nat) : rngD 0 (n : Int) = (List.range n).map nD := by
  unfold rngD nD
  rw [show ((n : Int) - 0).toNat = n by omega]
  congr 1
  funext i
  simp
theorem in_hereF : ∀ {plan : Plan} {k j : Nat} {pl : Place}, plan[j]? = some (some pl) → k + j ∈ hereF k plan
  | [], k, j, pl, h => by simp at h
  | none :: r, k, 0, pl, h => by simp at h
  | none :: r, k, j + 1, pl, h => by
    have := in_hereF (plan := r) (k := k + 1) (j := j) (by simpa using h)
    show k + (j + 1) ∈ hereF (k + 1) r
    rw [show k + (j + 1) = k + 1 + j by omega]; exact this
  | some q :: r, k, 0, pl, h => List.mem_cons_self
  | some q :: r, k, j + 1, pl, h => by
    have := in_hereF (plan := r) (k := k + 1) (j := j) (by simpa using h)
    show k + (j + 1) ∈ k :: hereF (k + 1) r
    rw [show k + (j + 1) = k + 1 + j by omega]; exact List.mem_cons_of_mem _ this
theorem in_here {plan : Plan} {j : Nat} {pl : Place} (h : plan[j]? = some (some pl)) : j ∈ here plan := by
  have := in_hereF (k := 0) h
  rw [Nat.zero_add] at this
  exact this
theorem in_pairs {plan : Plan} {i j : Nat} {x y : Place} (hx : plan[i]? = some (some x)) (hy : plan[j]? = some (some y)) (h : i < j) : (i, j) ∈ pairsN plan := by
  unfold pairsN
  rw [List.mem_flatMap]
  exact ⟨i, in_here hx, List.mem_filterMap.mpr ⟨j, in_here hy, by rw [if_pos h]⟩⟩
structure Right (s : List Int) (ps : List Plug) (plan : Plan) : Prop where
  turn : ∀ (i : Nat) (pl : Place) (p : Plug), plan[i]? = some (some pl) → ps[i]? = some p → pl.2 = true → canT p = true
  sock : ∀ (i j : Nat) (x y : Place), plan[i]? = some (some x) → plan[j]? = some (some y) → i < j → x.1 ≠ y.1
  over : ∀ (i j : Nat) (x y : Place) (p q : Plug), plan[i]? = some (some x) → plan[j]? = some (some y) → ps[i]? = some p → ps[j]? = some q → i < j → apart s p x q y = true
theorem none_find {α β : Type} {f : α → Option β} : ∀ (l : List α), (∀ a ∈ l, f a = none) → l.findSome? f = none
  | [], _ => rfl
  | a :: l, h => by
    rw [List.findSome?_cons, h a List.mem_cons_self]
    exact none_find l fun b hb => h b (List.mem_cons_of_mem _ hb)
theorem orD_non {o : Option D} {d : D} (h : ∀ x, o = some x → isNon x = false) : isNon (orD o d) = true ↔ o = none ∧ isNon d = true := by
  cases o with
  | none => exact ⟨fun z => ⟨rfl, z⟩, fun z => z.2⟩
  | some x =>
    refine ⟨fun z => ?_, fun z => absurd z.1 (by simp)⟩
    have := h x rfl
    rw [show orD (some x) d = x from rfl, this] at z
    cases z
theorem fault_iff {s : List Int} {ps : List Plug} {plan : Plan} (hlen : plan.length = ps.length) : isNon (fault s ps plan) = true ↔ Right s ps plan := by
  have a1 : ∀ x, (here plan).findSome? (turnG ps plan) = some x → isNon x = false := fun x e => by
    obtain ⟨i, hi, hd⟩ := List.exists_of_findSome?_eq_some e
    unfold turnG at hd
    split at hd
    · split at hd
      · cases hd; rfl
      · cases hd
    · cases hd
  have a2 : ∀ x, (pairsN plan).findSome? (sockG plan) = some x → isNon x = false := fun x e => by
    obtain ⟨i, hi, hd⟩ := List.exists_of_findSome?_eq_some e
    unfold sockG at hd
    split at hd
    · split at hd
      · cases hd; rfl
      · cases hd
    · cases hd
  have a3 : ∀ x, (pairsN plan).findSome? (overG s ps plan) = some x → isNon x = false := fun x e => by
    obtain ⟨i, hi, hd⟩ := List.exists_of_findSome?_eq_some e
    unfold overG at hd
    split at hd
    · split at hd
      · cases hd
      · cases hd; rfl
    · cases hd
  unfold fault
  rw [orD_non a1, orD_non a2, orD_non a3]
  constructor
  · rintro ⟨h1, h2, h3, _⟩
    refine ⟨fun i pl p e1 e2 ht => ?_, fun i j x y ex ey hij hxy => ?_, fun i j x y p q ex ey ep eq hij => ?_⟩
    · have := find_none _ h1 i (in_here e1)
      unfold turnG at this
      rw [e1, e2] at this
      dsimp only at this
      cases hc : canT p with
      | true => rfl
      | false => rw [ht, hc] at this; cases this
    · have := find_none _ h2 (i, j) (in_pairs ex ey hij)
      unfold sockG at this
      dsimp only at this
      rw [ex, ey] at this
      dsimp only at this
      rw [if_pos hxy] at this
      cases this
    · have := find_none _ h3 (i, j) (in_pairs ex ey hij)
      unfold overG at this
      dsimp only at this
      rw [ex, ey, ep, eq] at this
      dsimp only at this
      cases hc : apart s p x q y with
      | true => rfl
      | false => rw [hc] at this; cases this
  · intro R
    refine ⟨none_find _ fun i hi => ?_, none_find _ fun z hz => ?_, none_find _ fun z hz => ?_, rfl⟩
    · obtain ⟨pl, e1⟩ := mem_here hi
      unfold turnG
      rw [e1]
      cases e2 : ps[i]? with
      | none => rfl
      | some p =>
        dsimp only
        cases ht : pl.2 with
        | false => rfl
        | true => rw [R.turn i pl p e1 e2 ht]; rfl
    · obtain ⟨⟨x, ex⟩, ⟨y, ey⟩, hij⟩ := mem_pairs hz
      unfold sockG
      rw [ex, ey]
      dsimp only
      rw [if_neg (R.sock _ _ x y ex ey hij)]
    · obtain ⟨⟨x, ex⟩, ⟨y, ey⟩, hij⟩ := mem_pairs hz
      unfold overG
      rw [ex, ey]
      cases ep : ps[z.1]? with
      | none => rfl
      | some p =>
        cases eq : ps[z.2]? with
        | none => rfl
        | some q =>
          dsimp only
          rw [R.over _ _ x y p q ex ey ep eq hij]; rfl
abbrev M64 : Nat := 18446744073709551616
abbrev P1 : Nat := 11400714785074694791
abbrev P2 : Nat := 14029467366897019727
abbrev P5 : Nat := 2870177450012600261
abbrev Q1 : Nat := 614540362697595703
abbrev Q2 : Nat := 839798700976720815
abbrev C2 : Nat := 2870177450013471924
theorem mul_inv {P Q m : Nat} (h : P * Q % m = 1 % m) (a : Nat) : a * P * Q % m = a % m := by
  rw [Nat.mul_assoc, Nat.mul_mod, h, ← Nat.mul_mod, Nat.mul_one]
theorem mul_inj {P Q m a b : Nat} (h : P * Q % m = 1 % m) (e : a * P % m = b * P % m) : a % m = b % m := by
  have h1 := mul_inv h a
  have h2 := mul_inv h b
  rw [Nat.mul_mod, e, ← Nat.mul_mod, h2] at h1
  exact h1.symm
def rot (z : Nat) : Nat := (z * 2 ^ 31) % M64 + z / 2 ^ 33
theorem rot_eq {z : Nat} (h : z < M64) : rot z = (z % 8589934592) * 2147483648 + z / 8589934592 := by
  unfold rot
  have e : (z * 2 ^ 31) % M64 = (z % 8589934592) * 2147483648 := by
    have h1 : z = 8589934592 * (z / 8589934592) + z % 8589934592 := (Nat.div_add_mod z _).symm
    have h2 : z % 8589934592 < 8589934592 := Nat.mod_lt _ (by decide)
    have h3 : z * 2 ^ 31 = M64 * (z / 8589934592) + (z % 8589934592) * 2147483648 := by
      show z * 2147483648 = 18446744073709551616 * (z / 8589934592) + (z % 8589934592) * 2147483648
      omega
    rw [h3, Nat.mul_add_mod]
    exact Nat.mod_eq_of_lt (by show _ < 18446744073709551616; omega)
  rw [e]
theorem rot_lt {z : Nat} (h : z < M64) : rot z < M64 := by
  rw [rot_eq h]
  have h2 : z % 8589934592 < 8589934592 := Nat.mod_lt _ (by decide)
  have h3 : z / 8589934592 < 2147483648 := by
    have : z < 18446744073709551616 := h
    omega
  show _ < 18446744073709551616
  omega
theorem rot_inj {z y : Nat} (hz : z < M64) (hy : y < M64) (e : rot z = rot y) : z = y := by
  rw [rot_eq hz, rot_eq hy] at e
  have h2 : z % 8589934592 < 8589934592 := Nat.mod_lt _ (by decide)
  have h3 : y % 8589934592 < 8589934592 := Nat.mod_lt _ (by decide)
  have h4 : z / 8589934592 < 2147483648 := by have : z < 18446744073709551616 := hz; omega
  have h5 : y / 8589934592 < 2147483648 := by have : y < 18446744073709551616 := hy; omega
  omega
def hx (h : Int) : Nat := (h % (M64 : Int)).toNat
def hstep (acc : Nat) (h : Int) : Nat := rot ((acc + hx h * P2) % M64) * P1 % M64
def EndOk (e : Int) : Prop := e = -1000 ∨ (0 ≤ e ∧ e ≤ 400)
def fin2 (acc : Nat) : Int := if acc == M64 - 1 then 1546275796 else if acc < 2 ^ 63 then (acc : Int) else (acc : Int) - M64
theorem xor2 : 2 ^^^ (2870177450012600261 ^^^ 3527539) = C2 := by decide +kernel
theorem two64 : (2 : Nat) ^ 64 = M64 := by decide
theorem hashOf2 (a b : Int) : Builtin.Tuple.tupleHashOf [a, b] = fin2 ((hstep (hstep P5 a) b + C2) % M64) := by
  unfold Builtin.Tuple.tupleHashOf fin2 hstep rot hx
  simp -implicitDefEqProofs only [List.foldl_cons, List.foldl_nil, two64, List.length_cons, List.length_nil, Nat.reduceAdd, xor2]
theorem pq1 : P1 * Q1 % M64 = 1 % M64 := by decide
theorem pq2 : P2 * Q2 % M64 = 1 % M64 := by decide
theorem hstep_lt (A : Nat) (h : Int) : hstep A h < M64 := Nat.mod_lt _ (by decide)
theorem hstep_eq {A A' : Nat} {h h' : Int} (e : hstep A h = hstep A' h') : (A + hx h * P2) % M64 = (A' + hx h' * P2) % M64 := by
  unfold hstep at e
  have l1 : (A + hx h * P2) % M64 < M64 := Nat.mod_lt _ (by decide)
  have l2 : (A' + hx h' * P2) % M64 < M64 := Nat.mod_lt _ (by decide)
  have e2 := mul_inj pq1 e
  rw [Nat.mod_eq_of_lt (rot_lt l1), Nat.mod_eq_of_lt (rot_lt l2)] at e2
  exact rot_inj l1 l2 e2
theorem mul_q2 (A y : Nat) : (A + y * P2) % M64 * Q2 % M64 = (A * Q2 % M64 + y % M64) % M64 := by
  rw [Nat.mul_mod, Nat.mod_mod, ← Nat.mul_mod, Nat.add_mul, Nat.add_mod, mul_inv pq2]
def hb (t : NestedKey) : Nat := hstep P5 (hashN t) * Q2 % M64
def far (b c : Nat) : Bool := decide (2000 < (b + M64 - c) % M64) && decide (2000 < (c + M64 - b) % M64)
def alone (b : Nat) : Bool := decide (400 < (15746002411462551884 + M64 - b) % M64) && decide ((15746002411462551884 + M64 - b) % M64 ≠ 18446744073709550616)
def checkT : List Nat → Bool
  | [] => true
  | b :: r => alone b && r.all (far b) && checkT r
theorem hb_lt (t : NestedKey) : hb t < M64 := Nat.mod_lt _ (by decide)
theorem rawHash_end {e : Int} (h : EndOk e) : hashInt e = e := by
  unfold hashInt rawHash
  rcases h with rfl | h
  · decide
  · have h1 : ¬ e < 0 := by omega
    have h2 : ((e.natAbs % (2 ^ 61 - 1 : Nat) : Nat) : Int) = e := by
      rw [Nat.mod_eq_of_lt (by show _ < 2305843009213693951; omega)]; omega
    simp only [if_neg h1]
    rw [show ((e.natAbs : Int) % ((2 ^ 61 - 1 : Nat) : Int)) = e from by rw [← Int.natCast_emod]; exact h2]
    have h3 : (e == -1) = false := by rw [beq_eq_false_iff_ne]; omega
    rw [h3]
    simp [h3]
def yOk (y : Nat) : Prop := y ≤ 400 ∨ y = 18446744073709550616
theorem hx_end {e : Int} (h : EndOk e) : yOk (hx e) := by
  unfold hx
  rcases h with rfl | h
  · exact .inr (by decide)
  · refine .inl ?_
    have : e % (M64 : Int) = e := Int.emod_eq_of_lt h.1 (by show _ < (18446744073709551616 : Int); omega)
    rw [this]; omega
theorem hx_inj {e f : Int} (he : EndOk e) (hf : EndOk f) (h : hx e = hx f) : e = f := by
  unfold hx at h
  have g : ∀ x : Int, EndOk x → x = -1000 ∧ (x % (M64 : Int)).toNat = 18446744073709550616 ∨ (0 ≤ x ∧ x ≤ 400 ∧ (x % (M64 : Int)).toNat = x.toNat) := fun x hx => by
    rcases hx with rfl | hx
    · exact .inl ⟨rfl, by decide⟩
    · refine .inr ⟨hx.1, hx.2, ?_⟩
      rw [Int.emod_eq_of_lt hx.1 (by show _ < (18446744073709551616 : Int); omega)]
  rcases g e he with ⟨a1, a2⟩ | ⟨a1, a2, a3⟩ <;> rcases g f hf with ⟨b1, b2⟩ | ⟨b1, b2, b3⟩ <;> omega
theorem acc_alone {t : NestedKey} {e : Int} (ha : alone (hb t) = true) (he : EndOk e) : (hstep (hstep P5 (hashN t)) e + C2) % M64 ≠ M64 - 1 := by
  intro h
  have l := hstep_lt (hstep P5 (hashN t)) e
  have k0 : hstep (hstep P5 (hashN t)) e = 15576566623696079691 := by
    have : hstep (hstep P5 (hashN t)) e < 18446744073709551616 := l
    have h' : (hstep (hstep P5 (hashN t)) e + 2870177450013471924) % 18446744073709551616 = 18446744073709551615 := h
    omega
  unfold hstep at k0
  generalize hz : (rot ((P5 + hx (hashN t) * P2) % M64) * P1 % M64 + hx e * P2) % M64 = z at k0
  have lz : z < M64 := by rw [← hz]; exact Nat.mod_lt _ (by decide)
  have r0 : rot z = 5422089010434233885 := by
    have e1 := mul_inv pq1 (rot z)
    rw [Nat.mul_mod, k0, Nat.mod_eq_of_lt (rot_lt lz)] at e1
    rw [← e1]; decide
  have z0 : z = 9148689060682678900 := rot_inj lz (by decide) (by rw [r0]; decide)
  have w := mul_q2 (hstep P5 (hashN t)) (hx e)
  have hz' : (hstep P5 (hashN t) + hx e * P2) % M64 = z := hz
  rw [hz', z0] at w
  have w' : (9148689060682678900 * Q2) % M64 = 15746002411462551884 := by decide
  rw [w'] at w
  unfold alone at ha
  obtain ⟨h1, h2⟩ := Bool.and_eq_true_iff.mp ha
  have h1 := of_decide_eq_true h1
  have h2 := of_decide_eq_true h2
  have lb : hb t < 18446744073709551616 := hb_lt t
  have yo := hx_end he
  have w2 : 15746002411462551884 = (hb t + hx e % 18446744073709551616) % 18446744073709551616 := w
  have h1' : 400 < (15746002411462551884 + 18446744073709551616 - hb t) % 18446744073709551616 := h1
  have h2' : (15746002411462551884 + 18446744073709551616 - hb t) % 18446744073709551616 ≠ 18446744073709550616 := h2
  rcases yo with yo | yo
  · omega
  · omega
theorem fin2_inj {a b : Nat} (la : a < M64) (lb : b < M64) (na : a ≠ M64 - 1) (nb : b ≠ M64 - 1) (h : fin2 a = fin2 b) : a = b := by
  unfold fin2 at h
  have na' : (a == M64 - 1) = false := by rw [beq_eq_false_iff_ne]; exact na
  have nb' : (b == M64 - 1) = false := by rw [beq_eq_false_iff_ne]; exact nb
  rw [na', nb'] at h
  have la' : a < 18446744073709551616 := la
  have lb' : b < 18446744073709551616 := lb
  simp only [Bool.false_eq_true, if_false] at h
  split at h <;> split at h
  · omega
  · have : (a : Int) = (b : Int) - 18446744073709551616 := h
    omega
  · have : (a : Int) - 18446744073709551616 = (b : Int) := h
    omega
  · omega
theorem fin2_red {a : Nat} (la : a < M64) (na : a ≠ M64 - 1) : reduceHash (fin2 a) = fin2 a := by
  have na' : (a == M64 - 1) = false := by rw [beq_eq_false_iff_ne]; exact na
  have la' : a < 18446744073709551616 := la
  have na2 : a ≠ 18446744073709551615 := na
  have f : -9223372036854775808 ≤ fin2 a ∧ fin2 a < 9223372036854775808 ∧ fin2 a ≠ -1 := by
    unfold fin2
    rw [na']
    simp only [Bool.false_eq_true, if_false]
    split
    · rename_i h
      have h' : a < 9223372036854775808 := h
      omega
    · rename_i h
      have h' : ¬ a < 9223372036854775808 := h
      show _ ∧ _ ∧ _
      refine ⟨?_, ?_, ?_⟩ <;> first | (show -9223372036854775808 ≤ (a : Int) - 18446744073709551616; omega) | (show (a : Int) - 18446744073709551616 < _; omega) | (show (a : Int) - 18446744073709551616 ≠ -1; omega)
  unfold reduceHash
  rw [if_pos (by
    rw [Bool.and_eq_true, decide_eq_true_eq, decide_eq_true_eq]
    exact ⟨f.1, f.2.1⟩), if_neg (by rw [beq_iff_eq]; exact f.2.2)]
theorem checkT_far : ∀ {l : List Nat}, checkT l = true → (∀ b ∈ l, alone b = true) ∧ l.Pairwise fun b c => far b c = true
  | [], _ => ⟨fun b hb => (by cases hb), List.Pairwise.nil⟩
  | b :: r, h => by
    unfold checkT at h
    obtain ⟨h1, h2⟩ := Bool.and_eq_true_iff.mp h
    obtain ⟨h1, h3⟩ := Bool.and_eq_true_iff.mp h1
    obtain ⟨i1, i2⟩ := checkT_far h2
    refine ⟨fun c hc => ?_, List.pairwise_cons.mpr ⟨fun c hc => List.all_eq_true.mp h3 c hc, i2⟩⟩
    rcases List.mem_cons.mp hc with rfl | hc
    · exact h1
    · exact i1 c hc
theorem far_ne {b c x y : Nat} (hf : far b c = true) (lb : b < M64) (lc : c < M64) (hx : yOk x) (hy : yOk y) : (b + x % M64) % M64 ≠ (c + y % M64) % M64 := by
  unfold far at hf
  obtain ⟨h1, h2⟩ := Bool.and_eq_true_iff.mp hf
  have h1 : 2000 < (b + 18446744073709551616 - c) % 18446744073709551616 := of_decide_eq_true h1
  have h2 : 2000 < (c + 18446744073709551616 - b) % 18446744073709551616 := of_decide_eq_true h2
  have lb' : b < 18446744073709551616 := lb
  have lc' : c < 18446744073709551616 := lc
  intro e
  have e' : (b + x % 18446744073709551616) % 18446744073709551616 = (c + y % 18446744073709551616) % 18446744073709551616 := e
  rcases hx with hx | hx <;> rcases hy with hy | hy <;> omega
theorem pw_mem {α : Type} {R : α → α → Prop} {l : List α} (h : l.Pairwise R) {a b : α} (ha : a ∈ l) (hb : b ∈ l) : a = b ∨ R a b ∨ R b a := by
  induction h with
  | nil => cases ha
  | cons h1 _ ih =>
    rcases List.mem_cons.mp ha with ea | ha' <;> rcases List.mem_cons.mp hb with eb | hb'
    · exact .inl (ea.trans eb.symm)
    · exact .inr (.inl (by rw [ea]; exact h1 _ hb'))
    · exact .inr (.inr (by rw [eb]; exact h1 _ ha'))
    · exact ih ha' hb'
theorem key_inj {T : List NestedKey} (hT : checkT (T.map hb) = true) {t u : NestedKey} (ht : t ∈ T) (hu : u ∈ T) {e f : Int} (he : EndOk e) (hf : EndOk f) (h : hashN (.tup [t, .num e]) = hashN (.tup [u, .num f])) : hb t = hb u ∧ e = f := by
  obtain ⟨al, pw⟩ := checkT_far hT
  have a1 := acc_alone (al _ (List.mem_map_of_mem ht)) he
  have a2 := acc_alone (al _ (List.mem_map_of_mem hu)) hf
  have e1 : ∀ (t : NestedKey) (e : Int), EndOk e → hashN (.tup [t, .num e]) = reduceHash (fin2 ((hstep (hstep P5 (hashN t)) e + C2) % M64)) := fun t e he => by
    rw [show hashN (.tup [t, .num e]) = reduceHash (Builtin.Tuple.tupleHashOf [hashN t, hashInt e]) from by
      conv => lhs; unfold hashN
      rw [show hashNs [t, .num e] = [hashN t, hashInt e] from by simp [hashNs, hashN]], hashOf2, rawHash_end he]
  have l1 : (hstep (hstep P5 (hashN t)) e + C2) % M64 < M64 := Nat.mod_lt _ (by decide)
  have l2 : (hstep (hstep P5 (hashN u)) f + C2) % M64 < M64 := Nat.mod_lt _ (by decide)
  rw [e1 t e he, e1 u f hf, fin2_red l1 a1, fin2_red l2 a2] at h
  have h2 := fin2_inj l1 l2 a1 a2 h
  have k1 : hstep (hstep P5 (hashN t)) e < 18446744073709551616 := hstep_lt _ _
  have k2 : hstep (hstep P5 (hashN u)) f < 18446744073709551616 := hstep_lt _ _
  have h3 : hstep (hstep P5 (hashN t)) e = hstep (hstep P5 (hashN u)) f := by
    have h2' : (hstep (hstep P5 (hashN t)) e + 2870177450013471924) % 18446744073709551616 = (hstep (hstep P5 (hashN u)) f + 2870177450013471924) % 18446744073709551616 := h2
    omega
  have h4 := hstep_eq h3
  have m1 := mul_q2 (hstep P5 (hashN t)) (hx e)
  have m2 := mul_q2 (hstep P5 (hashN u)) (hx f)
  rw [h4, m2] at m1
  have m3 : (hb t + hx e % M64) % M64 = (hb u + hx f % M64) % M64 := m1.symm
  have key : hb t = hb u := by
    rcases pw_mem pw (List.mem_map_of_mem ht) (List.mem_map_of_mem hu) with z | z | z
    · exact z
    · exact absurd m3 (far_ne z (hb_lt t) (hb_lt u) (hx_end he) (hx_end hf))
    · exact absurd m3.symm (far_ne z (hb_lt u) (hb_lt t) (hx_end hf) (hx_end he))
  refine ⟨key, hx_inj he hf ?_⟩
  rw [key] at m3
  have lu : hb u < 18446744073709551616 := hb_lt u
  have m4 : (hb u + hx e % 18446744073709551616) % 18446744073709551616 = (hb u + hx f % 18446744073709551616) % 18446744073709551616 := m3
  have y1 := hx_end he
  have y2 := hx_end hf
  rcases y1 with y1 | y1 <;> rcases y2 with y2 | y2 <;> omega
theorem key_eq {T : List NestedKey} (hT : checkT (T.map hb) = true) {t u : NestedKey} (ht : t ∈ T) (hu : u ∈ T) {e f : Int} (he : EndOk e) (hf : EndOk f) (h : hashN (.tup [t, .num e]) = hashN (.tup [u, .num f])) : t = u ∧ e = f := by
  obtain ⟨h1, h2⟩ := key_inj hT ht hu he hf h
  refine ⟨?_, h2⟩
  have pw := List.pairwise_map.mp (checkT_far hT).2
  have no : ∀ b, far b b = true → b < M64 → False := fun b hb lb => by
    unfold far at hb
    have h1 : 2000 < (b + 18446744073709551616 - b) % 18446744073709551616 := of_decide_eq_true (Bool.and_eq_true_iff.mp hb).1
    have lb' : b < 18446744073709551616 := lb
    omega
  rcases pw_mem pw ht hu with z | z | z
  · exact z
  · rw [h1] at z; exact (no _ z (hb_lt u)).elim
  · rw [h1] at z; exact (no _ z (hb_lt u)).elim
def subs : Nat → List (List Nat)
  | 0 => [[]]
  | n + 1 => subs n ++ (subs n).map (· ++ [n])
def nkL (l : List Nat) : NestedKey := .tup (l.map fun (i : Nat) => .num (i : Int))
theorem check6 : checkT ((subs 6).map nkL |>.map hb) = true := by decide +kernel
abbrev LK := List Nat × Int
abbrev Lay := List (LK × Int)
def keyD (k : LK) : D := .tup [.tup (k.1.map nD), .int k.2]
def itD (p : LK × Int) : D × D := (keyD p.1, .int p.2)
def layD (L : Lay) : KVs := L.map itD
theorem nks_nD : ∀ l : List Nat, nk.nks (l.map nD) = l.map fun (i : Nat) => NestedKey.num (i : Int)
  | [] => rfl
  | a :: l => by rw [List.map_cons, nk.nks, nks_nD l, List.map_cons]; rfl
theorem nk_key (k : LK) : nk (keyD k) = .tup [nkL k.1, .num k.2] := by
  unfold keyD nkL
  rw [nk, nk.nks, nk.nks, nk.nks, nk, nk, nks_nD]
theorem nkL_inj {a b : List Nat} (h : nkL a = nkL b) : a = b := by
  unfold nkL at h
  injection h with h
  exact (List.map_inj_right fun x y e => by injection e with e; omega).mp h
theorem nk_inj {k k' : LK} : nk (keyD k) = nk (keyD k') ↔ k = k' := by
  constructor
  · intro h
    rw [nk_key, nk_key] at h
    injection h with h
    injection h with h1 h2
    injection h2 with h2 h3
    injection h2 with h2
    exact Prod.ext (nkL_inj h1) h2
  · intro h; rw [h]
theorem isKey_key (k : LK) : isKey (keyD k) = true := by
  have : ∀ l : List Nat, keyOk.keyOks 6 (l.map nD) = true := fun l => by
    induction l with
    | nil => rfl
    | cons a l ih => rw [List.map_cons, keyOk.keyOks, ih]; rfl
  show keyOk.keyOks 7 [.tup (k.1.map nD), .int k.2] = true
  unfold keyOk.keyOks
  rw [show keyOk 7 (.tup (k.1.map nD)) = true from this k.1]
  rfl
def fnd (L : Lay) (k : LK) : Option Int := (L.find? fun p => decide (p.1 = k)).map (·.2)
def putL (L : Lay) (k : LK) (v : Int) : Lay := if (fnd L k).isSome = true then L.map (fun p => if p.1 = k then (p.1, v) else p) else L ++ [(k, v)]
def addL (L : Lay) (k : LK) (m : Int) : Lay := putL L k ((fnd L k).getD 0 + m)
theorem dnGet_lay {L : Lay} {k : LK} : dnGet (layD L) (nk (keyD k)) = (fnd L k).map D.int := by
  unfold dnGet fnd layD
  induction L with
  | nil => rfl
  | cons p L ih =>
    rw [List.map_cons, List.find?_cons, List.find?_cons]
    by_cases h : p.1 = k
    · rw [decide_eq_true (show nk (itD p).1 = nk (keyD k) from nk_inj.mpr h), decide_eq_true h]; rfl
    · rw [decide_eq_false (show ¬ nk (itD p).1 = nk (keyD k) from fun e => h (nk_inj.mp e)), decide_eq_false h]; exact ih
theorem dnPut_lay {L : Lay} {k : LK} {v : Int} : dnPut (layD L) (keyD k) (.int v) = layD (putL L k v) := by
  unfold dnPut putL
  rw [dnGet_lay, Option.isSome_map]
  by_cases h : (fnd L k).isSome = true
  · rw [if_pos h, if_pos h]
    unfold layD
    rw [List.map_map, List.map_map]
    apply List.map_congr_left
    intro p _
    dsimp only [Function.comp]
    by_cases e : p.1 = k
    · rw [if_pos (show nk (itD p).1 = nk (keyD k) from nk_inj.mpr e), if_pos e]; rfl
    · rw [if_neg (show ¬ nk (itD p).1 = nk (keyD k) from fun z => e (nk_inj.mp z)), if_neg e]
  · rw [if_neg h, if_neg h]
    unfold layD
    rw [List.map_append]; rfl
theorem fnd_mem {L : Lay} {k : LK} : (fnd L k).isSome = true ↔ k ∈ L.map (·.1) := by
  unfold fnd
  rw [Option.isSome_map, List.find?_isSome, List.mem_map]
  constructor
  · rintro ⟨p, h1, h2⟩; exact ⟨p, h1, of_decide_eq_true h2⟩
  · rintro ⟨p, h1, h2⟩; exact ⟨p, h1, decide_eq_true h2⟩
theorem keys_put {L : Lay} {k : LK} {v : Int} : (putL L k v).map (·.1) = if k ∈ L.map (·.1) then L.map (·.1) else L.map (·.1) ++ [k] := by
  unfold putL
  by_cases h : (fnd L k).isSome = true
  · rw [if_pos h, if_pos (fnd_mem.mp h), List.map_map]
    apply List.map_congr_left
    intro p _
    dsimp only [Function.comp]
    split <;> rfl
  · rw [if_neg h, if_neg fun z => h (fnd_mem.mpr z), List.map_append]; rfl
theorem put_nodup {L : Lay} {k : LK} {v : Int} (h : (L.map (·.1)).Nodup) : ((putL L k v).map (·.1)).Nodup := by
  rw [keys_put]
  split
  · exact h
  · rename_i hn
    exact List.nodup_append.mpr ⟨h, List.nodup_cons.mpr ⟨List.not_mem_nil, List.nodup_nil⟩, fun a ha b hb e => by
      rw [List.mem_singleton] at hb; subst hb; exact hn (e ▸ ha)⟩
theorem put_keys {L : Lay} {k k' : LK} {v : Int} (h : k' ∈ (putL L k v).map (·.1)) : k' = k ∨ k' ∈ L.map (·.1) := by
  rw [keys_put] at h
  split at h
  · exact .inr h
  · rcases List.mem_append.mp h with h | h
    · exact .inr h
    · exact .inl (List.mem_singleton.mp h)
def tot (L : Lay) (φ : LK → Int) : Int := (L.map fun p => p.2 * φ p.1).sum
theorem tot_put {φ : LK → Int} {k : LK} {v : Int} : ∀ {L : Lay}, (L.map (·.1)).Nodup → tot (putL L k v) φ = tot L φ + (v - (fnd L k).getD 0) * φ k
  | [], _ => by
    unfold putL fnd tot
    simp
  | p :: L, h => by
    rw [List.map_cons, List.nodup_cons] at h
    have ih := tot_put (φ := φ) (k := k) (v := v) h.2
    by_cases e : p.1 = k
    · have hn : ¬ (fnd L k).isSome = true := fun z => h.1 (e ▸ fnd_mem.mp z)
      have f1 : fnd (p :: L) k = some p.2 := by unfold fnd; rw [List.find?_cons, decide_eq_true e]; rfl
      have e2 : L.map (fun q => if q.1 = k then (q.1, v) else q) = L := by
        conv => rhs; rw [← List.map_id L]
        apply List.map_congr_left
        intro q hq
        rw [if_neg fun z => h.1 (List.mem_map.mpr ⟨q, hq, z.trans e.symm⟩)]; rfl
      unfold putL
      rw [f1, if_pos (show (some p.2).isSome = true from rfl), List.map_cons, e2, if_pos e]
      unfold tot
      rw [List.map_cons, List.map_cons, List.sum_cons, List.sum_cons]
      dsimp only [Option.getD_some]
      rw [e, Int.sub_mul]
      omega
    · have f1 : fnd (p :: L) k = fnd L k := by unfold fnd; rw [List.find?_cons, decide_eq_false e]
      have e2 : putL (p :: L) k v = p :: putL L k v := by
        unfold putL
        rw [f1]
        split
        · rw [List.map_cons, if_neg e]
        · rfl
      rw [e2, f1]
      unfold tot at ih ⊢
      rw [List.map_cons, List.map_cons, List.sum_cons, List.sum_cons, ih]
      omega
theorem tot_add {φ : LK → Int} {k : LK} {m : Int} {L : Lay} (h : (L.map (·.1)).Nodup) : tot (addL L k m) φ = tot L φ + m * φ k := by
  unfold addL
  rw [tot_put h]
  congr 2
  omega
def ins (h : List Nat) (i : Nat) : List Nat := (h ++ [i]).mergeSort fun a b => decide (a ≤ b)
theorem ins_mem {h : List Nat} {i x : Nat} : x ∈ ins h i ↔ x ∈ h ∨ x = i := by
  unfold ins
  rw [(List.mergeSort_perm _ _).mem_iff, List.mem_append, List.mem_singleton]
theorem ins_asc {h : List Nat} {i : Nat} (ha : h.Pairwise (· < ·)) (hi : i ∉ h) : (ins h i).Pairwise (· < ·) := by
  have nd : (ins h i).Nodup := by
    unfold ins
    rw [(List.mergeSort_perm _ _).nodup_iff]
    exact List.nodup_append.mpr ⟨ha.imp fun z => Nat.ne_of_lt z, List.nodup_cons.mpr ⟨List.not_mem_nil, List.nodup_nil⟩, fun a ha b hb e => by
      rw [List.mem_singleton] at hb; subst hb; exact hi (e ▸ ha)⟩
  have so : (ins h i).Pairwise fun a b => decide (a ≤ b) = true := by
    unfold ins
    exact List.pairwise_mergeSort (fun a b c h1 h2 => by have := of_decide_eq_true h1; have := of_decide_eq_true h2; exact decide_eq_true (by omega)) (fun a b => by
      rcases Nat.le_total a b with z | z
      · rw [decide_eq_true z]; rfl
      · rw [decide_eq_true z]; cases decide (a ≤ b) <;> rfl) _
  have := List.Pairwise.and so nd
  exact this.imp fun z => by have := of_decide_eq_true z.1; have := z.2; omega
theorem asc_ext : ∀ {a b : List Nat}, a.Pairwise (· < ·) → b.Pairwise (· < ·) → (∀ x, x ∈ a ↔ x ∈ b) → a = b
  | [], [], _, _, _ => rfl
  | [], y :: b, _, _, h => by have := (h y).mpr List.mem_cons_self; cases this
  | x :: a, [], _, _, h => by have := (h x).mp List.mem_cons_self; cases this
  | x :: a, y :: b, ha, hb, h => by
    rw [List.pairwise_cons] at ha hb
    have e : x = y := by
      rcases List.mem_cons.mp ((h x).mp List.mem_cons_self) with z | z
      · exact z
      · rcases List.mem_cons.mp ((h y).mpr List.mem_cons_self) with w | w
        · exact w.symm
        · have := hb.1 x z; have := ha.1 y w; omega
    subst e
    rw [asc_ext ha.2 hb.2 fun z => ?_]
    constructor
    · intro hz
      rcases List.mem_cons.mp ((h z).mp (List.mem_cons_of_mem _ hz)) with w | w
      · subst w; exact absurd (ha.1 z hz) (Nat.lt_irrefl _)
      · exact w
    · intro hz
      rcases List.mem_cons.mp ((h z).mpr (List.mem_cons_of_mem _ hz)) with w | w
      · subst w; exact absurd (hb.1 z hz) (Nat.lt_irrefl _)
      · exact w
theorem mem_subs : ∀ {n : Nat} {h : List Nat}, h.Pairwise (· < ·) → (∀ x ∈ h, x < n) → h ∈ subs n
  | 0, h, _, hx => by
    cases h with
    | nil => exact List.mem_singleton.mpr rfl
    | cons a r => have := hx a List.mem_cons_self; omega
  | n + 1, h, ha, hx => by
    unfold subs
    by_cases hn : n ∈ h
    · have e : ∃ r, h = r ++ [n] := by
        rcases List.eq_nil_or_concat h with z | ⟨r, y, z⟩
        · subst z; cases hn
        · rw [List.concat_eq_append] at z
          subst z
          refine ⟨r, ?_⟩
          rcases List.mem_append.mp hn with w | w
          · have h1 := (List.pairwise_append.mp ha).2.2 n w y (List.mem_singleton.mpr rfl)
            have h2 := hx y (List.mem_append.mpr (.inr (List.mem_singleton.mpr rfl)))
            omega
          · rw [List.mem_singleton.mp w]
      obtain ⟨r, rfl⟩ := e
      obtain ⟨h1, h2, h3⟩ := List.pairwise_append.mp ha
      refine List.mem_append.mpr (.inr (List.mem_map.mpr ⟨r, mem_subs h1 fun x hxr => ?_, rfl⟩))
      exact h3 x hxr n (List.mem_singleton.mpr rfl)
    · refine List.mem_append.mpr (.inl (mem_subs ha fun x hxh => ?_))
      have := hx x hxh
      have : x ≠ n := fun z => hn (z ▸ hxh)
      omega
structure LayOk (L : Lay) : Prop where
  nd : (L.map (·.1)).Nodup
  asc : ∀ k ∈ L.map (·.1), k.1.Pairwise (· < ·) ∧ (∀ x ∈ k.1, x < 6) ∧ EndOk k.2
theorem nodup_map_of {α β : Type} {f : α → β} : ∀ {l : List α}, l.Nodup → (∀ a ∈ l, ∀ b ∈ l, f a = f b → a = b) → (l.map f).Nodup
  | [], _, _ => List.nodup_nil
  | a :: l, h, hi => by
    rw [List.nodup_cons] at h
    rw [List.map_cons, List.nodup_cons]
    refine ⟨fun z => ?_, nodup_map_of h.2 fun x hx y hy => hi x (List.mem_cons_of_mem _ hx) y (List.mem_cons_of_mem _ hy)⟩
    obtain ⟨b, hb, e⟩ := List.mem_map.mp z
    rw [hi a List.mem_cons_self b (List.mem_cons_of_mem _ hb) e.symm] at h
    exact h.1 hb
theorem lay_map (hf : NestedKey → Int) (L : Lay) : ((layD L).map fun p => hf (nk p.1)) = (L.map (·.1)).map fun k => hf (.tup [nkL k.1, .num k.2]) := by
  unfold layD
  rw [List.map_map, List.map_map]
  apply List.map_congr_left
  intro p _
  show hf (nk (keyD p.1)) = hf _
  rw [nk_key]
theorem LayOk.hash {L : Lay} (h : LayOk L) : hashOk (layD L) := by
  unfold hashOk
  rw [lay_map hashN]
  refine nodup_map_of h.nd fun a ha b hb z => ?_
  obtain ⟨a1, a2, a3⟩ := h.asc a ha
  obtain ⟨b1, b2, b3⟩ := h.asc b hb
  obtain ⟨h1, h2⟩ := key_eq (T := (subs 6).map nkL) check6 (List.mem_map_of_mem (mem_subs a1 a2)) (List.mem_map_of_mem (mem_subs b1 b2)) a3 b3 z
  exact Prod.ext (nkL_inj h1) h2
def ends : List Int := -1000 :: (List.range 401).map fun (i : Nat) => (i : Int)
def univ : List LK := (subs 6).flatMap fun h => ends.map fun e => (h, e)
theorem sub_len {α : Type} [DecidableEq α] : ∀ {a b : List α}, a.Nodup → (∀ x ∈ a, x ∈ b) → a.length ≤ b.length
  | [], b, _, _ => Nat.zero_le _
  | x :: a, b, h, hs => by
    rw [List.nodup_cons] at h
    have h1 := sub_len (b := b.erase x) h.2 fun y hy => (List.mem_erase_of_ne fun e => h.1 (by rw [← e]; exact hy)).mpr (hs y (List.mem_cons_of_mem _ hy))
    rw [List.length_erase_of_mem (hs x List.mem_cons_self)] at h1
    have : 0 < b.length := List.length_pos_of_mem (hs x List.mem_cons_self)
    rw [List.length_cons]; omega
theorem LayOk.len {L : Lay} (h : LayOk L) : L.length ≤ 25728 := by
  have : (L.map (·.1)).length ≤ univ.length := sub_len h.nd fun k hk => by
    obtain ⟨a1, a2, a3⟩ := h.asc k hk
    refine List.mem_flatMap.mpr ⟨k.1, mem_subs a1 a2, List.mem_map.mpr ⟨k.2, ?_, rfl⟩⟩
    unfold ends
    rcases a3 with e | e
    · rw [e]; exact List.mem_cons_self
    · refine List.mem_cons_of_mem _ (List.mem_map.mpr ⟨k.2.toNat, List.mem_range.mpr (by omega), by omega⟩)
  rw [List.length_map] at this
  have e : univ.length = 25728 := by
    unfold univ
    rw [List.length_flatMap]
    have : ∀ h : List Nat, (ends.map fun e => (h, e)).length = 402 := fun h => by rw [List.length_map]; unfold ends; rw [List.length_cons, List.length_map, List.length_range]
    simp only [this]
    decide
  omega
theorem LayOk.lt {L : Lay} (h : LayOk L) : (layD L).length < lim := by unfold layD; rw [List.length_map]; have := h.len; show _ < 16777216; omega
theorem LayOk.put {L : Lay} {k : LK} {v : Int} (h : LayOk L) (a : k.1.Pairwise (· < ·)) (b : ∀ x ∈ k.1, x < 6) (c : EndOk k.2) : LayOk (putL L k v) :=
  ⟨put_nodup h.nd, fun k' hk => by
    rcases put_keys hk with rfl | z
    · exact ⟨a, b, c⟩
    · exact h.asc k' z⟩
theorem LayOk.add {L : Lay} {k : LK} {m : Int} (h : LayOk L) (a : k.1.Pairwise (· < ·)) (b : ∀ x ∈ k.1, x < 6) (c : EndOk k.2) : LayOk (addL L k m) := h.put a b c
theorem lay0 : LayOk [(([], -1000), 1)] := ⟨by simp, fun k hk => by
  rw [List.map_cons, List.map_nil, List.mem_singleton] at hk
  subst hk
  exact ⟨.nil, (fun x hx => by cases hx), .inl rfl⟩⟩
theorem toPys_nD : ∀ l : List Nat, toPys (l.map nD) = some (l.map fun (i : Nat) => PyData.int (i : Int))
  | [] => rfl
  | a :: l => by rw [List.map_cons, toPys, toPys_nD l]; rfl
theorem sort_nD (l : List Nat) : oSortL (l.map nD) = some (.lst ((l.mergeSort fun a b => decide (a ≤ b)).map nD)) := by
  unfold oSortL
  rw [toPys_nD]
  dsimp only
  have h1 : alikeP (l.map fun (i : Nat) => PyData.int (i : Int)) = true := by
    unfold alikeP
    rw [List.all_map, List.all_eq_true]
    intro x _
    dsimp only [Function.comp]
    rw [List.all_map, List.all_eq_true]
    intro y _
    rfl
  have h2 : sortB (l.map fun (i : Nat) => PyData.int (i : Int)) = true := by
    unfold sortB
    refine Bool.or_eq_true_iff.mpr (.inr ?_)
    rw [List.all_map, List.all_eq_true]
    intro x _
    rfl
  have h3 : PyData.depthAll (l.map fun (i : Nat) => PyData.int (i : Int)) ≤ 50 := by
    have : ∀ l : List Nat, PyData.depthAll (l.map fun (i : Nat) => PyData.int (i : Int)) ≤ 1 := fun l => by
      induction l with
      | nil => rw [List.map_nil]; decide
      | cons a l ih =>
        rw [List.map_cons]
        unfold PyData.depthAll
        have : (PyData.int (a : Int)).depth ≤ 1 := by unfold PyData.depth; omega
        omega
    have := this l; omega
  rw [if_pos ⟨h1, h2, h3⟩]
  congr 2
  unfold srt
  rw [List.zip_map', show (l.map fun a => (nD a, PyData.int (a : Int))) = l.map fun a => (nD a, PyData.int (a : Int)) from rfl, ← List.map_mergeSort (r := fun (a b : Nat) => decide (a ≤ b)), List.map_map]
  · rfl
  · intro a _ b _
    show _ = PySem.W.dataLe false (fun b : D × PyData => b.2) (nD a, .int a) (nD b, .int b)
    rw [PySem.W.dataLe_eq]
    dsimp only
    rw [cond_false, PySem.W.dataLt_int]
    by_cases z : a ≤ b
    · rw [decide_eq_true z, decide_eq_false (by omega)]; rfl
    · rw [decide_eq_false z, decide_eq_true (by omega)]; rfl
theorem eqD_encL (a b : Place) : eqD (encL a) (encL b) = some (decide (a = b)) := by
  obtain ⟨a1, a2⟩ := a
  obtain ⟨b1, b2⟩ := b
  have : (decide ((a1, a2) = (b1, b2))) = (decide (a1 = b1) && decide (a2 = b2)) := by
    by_cases h1 : a1 = b1 <;> by_cases h2 : a2 = b2 <;> simp [h1, h2]
  rw [this]
  unfold eqD encL
  simp [toPy, toPys, SeqAt.shaped, PyData.eqv, PyData.eqvAll, PyData.canLay0, PyData.canLayAll0, PyData.depth, PyData.depthAll]
  by_cases h1 : a1 = b1 <;> by_cases h2 : a2 = b2 <;> simp [h1, h2]
  omega
theorem eqv_nD : ∀ a b : List Nat, PyData.eqvAll (a.map fun (i : Nat) => PyData.int (i : Int)) (b.map fun (i : Nat) => PyData.int (i : Int)) = decide (a = b)
  | [], [] => rfl
  | [], y :: b => rfl
  | x :: a, [] => rfl
  | x :: a, y :: b => by
    rw [List.map_cons, List.map_cons, PyData.eqvAll, eqv_nD a b, PyData.eqv]
    by_cases h1 : x = y <;> by_cases h2 : a = b <;> simp [h1, h2]
    omega
theorem lay_nD (l : List Nat) : PyData.canLayAll0 (l.map fun (i : Nat) => PyData.int (i : Int)) = true ∧ PyData.depthAll (l.map fun (i : Nat) => PyData.int (i : Int)) ≤ 1 := by
  induction l with
  | nil => exact ⟨by rw [List.map_nil]; rfl, by rw [List.map_nil]; decide⟩
  | cons a l ih =>
    rw [List.map_cons, PyData.canLayAll0, PyData.depthAll, ih.1]
    have : (PyData.int (a : Int)).depth ≤ 1 := by unfold PyData.depth; omega
    exact ⟨rfl, by omega⟩
theorem eqD_nDs (a b : List Nat) : eqD (.tup (a.map nD)) (.tup (b.map nD)) = some (decide (a = b)) := by
  unfold eqD
  rw [toPy, toPy, toPys_nD, toPys_nD]
  dsimp only [Option.map_some]
  have h : ∀ l : List Nat, SeqAt.shaped (.tuple (l.map fun (i : Nat) => PyData.int (i : Int))) = true := fun l => by
    unfold SeqAt.shaped
    have := lay_nD l
    rw [PyData.canLay0, this.1, PyData.depth, Bool.true_and, decide_eq_true_eq]
    omega
  rw [h, h, PyData.eqv, eqv_nD]
  rfl
abbrev Fix := List (Nat × Place)
def fixD (fx : Fix) : KKs := fx.map fun z => (.inl (z.1 : Int), encL z.2)
def fixAt (fx : Fix) (i : Nat) : Option Place := (fx.find? fun z => decide (z.1 = i)).map (·.2)
def fixOk (fx : Fix) (i : Nat) (pl : Place) : Bool := decide ((fixAt fx i).getD pl = pl)
theorem dkGet_fix {fx : Fix} {i : Nat} : dkGet (fixD fx) (.inl (i : Int)) = (fixAt fx i).map encL := by
  unfold dkGet fixD fixAt
  induction fx with
  | nil => rfl
  | cons z fx ih =>
    rw [List.map_cons, List.find?_cons, List.find?_cons]
    by_cases h : z.1 = i
    · rw [decide_eq_true h, decide_eq_true (by rw [h])]; rfl
    · rw [decide_eq_false h, decide_eq_false (by intro e; injection e with e; omega)]; exact ih
theorem kGet_fix {fx : Fix} {i : Nat} {pl : Place} : kGet (fixD fx) (nD i) (encL pl) = some (encL ((fixAt fx i).getD pl)) := by
  unfold kGet nD
  rw [keyK_int, Option.map_some, dkGet_fix]
  cases fixAt fx i <;> rfl
def plugAt (ps : List Plug) (i : Nat) : Plug := ps.getD i (0, 0, false)
def standsB (p : Plug) : List Bool := if canT p then [false, true] else [false]
theorem stands_map (p : Plug) : standsD p = (standsB p).map D.bl := by unfold standsD standsB; cases canT p <;> rfl
section
variable (s : List Int) (ps : List Plug) (w : List Nat) (fx : Fix)
def goes (n : Nat) (e : Int) (i : Nat) (t : Bool) : Bool := decide (e ≤ bBeg s (plugAt ps i) (n, t)) && fixOk fx i (n, t)
def st1 (n : Nat) (k : LK) (m : Int) (i : Nat) (L : Lay) (t : Bool) : Lay := if goes s ps fx n k.2 i t then addL L (ins k.1 i, bEnd s (plugAt ps i) (n, t)) m else L
def st2 (n : Nat) (k : LK) (m : Int) (L : Lay) (i : Nat) : Lay := if i ∈ k.1 then L else (standsB (plugAt ps i)).foldl (st1 s ps fx n k m i) L
def st3 (n : Nat) (L : Lay) (z : LK × Int) : Lay := w.foldl (st2 s ps fx n z.1 z.2) L
def st4 (L : Lay) (n : Nat) : Lay := L.foldl (st3 s ps w fx n) L
def layers (n : Nat) : Lay := (List.range n).foldl (st4 s ps w fx) [(([], -1000), 1)]
end
structure PsOk (s : List Int) (ps : List Plug) : Prop where
  sk : ∀ x ∈ s, 0 ≤ x ∧ x ≤ 300
  pl : ∀ p ∈ ps, PlugOk p
  len : ps.length ≤ 6
  sl : s.length ≤ 100
theorem app_set {α : Type} (pre : List α) (x y : α) : (pre ++ [x]).set pre.length y = pre ++ [y] := by simp
theorem app_get' {α : Type} (pre : List α) (x : α) : (pre ++ [x])[pre.length]? = some x := by simp
theorem opIn_nD {neg : Bool} {i : Nat} {h : List Nat} : opIn neg (.int (i : Int)) (.tup (h.map nD)) = some (.bl (if neg then !h.contains i else h.contains i)) := in_ints i h neg
theorem ins_sort (h : List Nat) (i : Nat) : oSortL (h.map nD ++ [D.int (i : Int)]) = some (.lst ((ins h i).map nD)) := by
  rw [show h.map nD ++ [D.int (i : Int)] = (h ++ [i]).map nD from by rw [List.map_append]; rfl, sort_nD]; rfl
theorem asc_len {h : List Nat} (a : h.Pairwise (· < ·)) (b : ∀ x ∈ h, x < 6) : h.length ≤ 6 := by
  have := sub_len (b := List.range 6) (a.imp fun z => Nat.ne_of_lt z) fun x hx => List.mem_range.mpr (b x hx)
  rwa [List.length_range] at this
theorem nGet_lay {L : Lay} {k : LK} : nGet (layD L) (keyD k) (.int 0) = some (.int ((fnd L k).getD 0)) := by
  unfold nGet
  rw [if_pos (isKey_key k), dnGet_lay]
  cases fnd L k <;> rfl
theorem plug_at {ps : List Plug} {i : Nat} (h : i < ps.length) : ps[i]? = some (plugAt ps i) := by
  unfold plugAt; rw [List.getD_eq_getElem?_getD, List.getElem?_eq_getElem h]; rfl
section
variable {s : List Int} {ps : List Plug} {w : List Nat} {fx : Fix}
abbrev layQ (s : List Int) (ps : List Plug) (w : List Nat) (fx : Fix) (L0 : Lay) (x5 x6 x7 x8 x9 x10 x11 x12 x13 x14 : Option SV) : Rho := [some (SV.val (stripD s)), some (SV.val (plugsD ps)), some (SV.val (.tup (w.map nD))), some (SV.val (.dcK (fixD fx))), some (SV.val (.dcN (layD L0))), x5, x6, x7, x8, x9, x10, x11, x12, x13, x14]
abbrev iV (i : Int) : Option SV := some (.val (.int i))
abbrev layR (s : List Int) (ps : List Plug) (w : List Nat) (fx : Fix) (L0 : Lay) (n j : Nat) (m : Int) (i : Nat) (k : LK) (x11 x12 x13 x14 : Option SV) : Rho := layQ s ps w fx L0 (iV n) (some (.own j)) (iV m) (iV i) (some (.val (.tup (k.1.map nD)))) (iV k.2) x11 x12 x13 x14
theorem lay_bd1 {L0 L : Lay} {n : Nat} {m : Int} {i : Nat} {k : LK} {t : Bool} {pre : Om} {x12 x13 x14 : Option SV} (P : PsOk s ps) (hn : n < s.length) (hi : i < ps.length) (a : k.1.Pairwise (· < ·)) (b : ∀ x ∈ k.1, x < 6) (O : LayOk L) :
    ∃ y12 y13 y14, bd_layers_of_1 (layR s ps w fx L0 n pre.length m i k (some (.val (.bl t))) x12 x13 x14) (pre ++ [some (.dcN (layD L))]) = .next (layR s ps w fx L0 n pre.length m i k (some (.val (.bl t))) y12 y13 y14) (pre ++ [some (.dcN (layD (st1 s ps fx n k m i L t)))]) := by
  have hp := plug_at hi
  have e1 := getP hp
  have eb : F_body [stripD s, encP (plugAt ps i), .tup [.int (n : Int), .bl t]] = some (.ok (.tup [.int (bBeg s (plugAt ps i) (n, t)), .int (bEnd s (plugAt ps i) (n, t))])) := body_run (pl := (n, t)) hn
  have ek : kGet (fixD fx) (.int (i : Int)) (.tup [.int (n : Int), .bl t]) = some (encL ((fixAt fx i).getD (n, t))) := kGet_fix (pl := (n, t))
  have eq : eqD (encL ((fixAt fx i).getD (n, t))) (.tup [.int (n : Int), .bl t]) = some (fixOk fx i (n, t)) := eqD_encL _ (n, t)
  have hl := asc_len a b
  have hlim : ((k.1.map nD).map SV.val ++ [SV.val (D.int (i : Int))]).length ≤ lim := by rw [List.length_append, List.length_map, List.length_map]; show _ + 1 ≤ 16777216; omega
  have hkey : D.tup [.tup ((ins k.1 i).map nD), .int (bEnd s (plugAt ps i) (n, t))] = keyD (ins k.1 i, bEnd s (plugAt ps i) (n, t)) := rfl
  cases h1 : decide (k.2 ≤ bBeg s (plugAt ps i) (n, t)) with
  | false =>
    refine ⟨some (.val (.int (bBeg s (plugAt ps i) (n, t)))), some (.val (.int (bEnd s (plugAt ps i) (n, t)))), x14, ?_⟩
    unfold bd_layers_of_1 st1 goes
    rw [h1]
    push_cast [layR, layQ, iV, gT2_run, plugsD, e1, eb, h1, Bool.false_and]
  | true =>
    cases h2 : fixOk fx i (n, t) with
    | false =>
      refine ⟨some (.val (.int (bBeg s (plugAt ps i) (n, t)))), some (.val (.int (bEnd s (plugAt ps i) (n, t)))), x14, ?_⟩
      unfold bd_layers_of_1 st1 goes
      rw [h1, h2]
      push_cast [layR, layQ, iV, gT2_run, plugsD, e1, eb, h1, ek, eq, h2, Bool.and_false]
    | true =>
      refine ⟨some (.val (.int (bBeg s (plugAt ps i) (n, t)))), some (.val (.int (bEnd s (plugAt ps i) (n, t)))), some (.val (keyD (ins k.1 i, bEnd s (plugAt ps i) (n, t)))), ?_⟩
      unfold bd_layers_of_1 st1 goes
      rw [h1, h2]
      push_cast [layR, layQ, iV, gT2_run, plugsD, e1, eb, h1, ek, eq, h2, Bool.and_true, allD_app, lstR_run hlim, ins_sort, app_get', app_set, hkey, nGet_lay, nPutR_run (isKey_key _) O.lt, dnPut_lay, addL]
theorem end_ok (P : PsOk s ps) {n i : Nat} {t : Bool} (hn : n < s.length) (hi : i < ps.length) : EndOk (bEnd s (plugAt ps i) (n, t)) := by
  have h1 := P.sk s[n] (List.getElem_mem hn)
  have h2 := P.pl _ (List.mem_of_getElem? (plug_at hi))
  have h3 : s.getD n 0 = s[n] := by rw [List.getD_eq_getElem?_getD, List.getElem?_eq_getElem hn]; rfl
  refine .inr ?_
  unfold bEnd sideR
  rw [h3]
  have := h2.l0; have := h2.l1; have := h2.r0; have := h2.r1
  cases t <;> simp <;> omega
theorem st1_ok (P : PsOk s ps) {n i : Nat} {t : Bool} {k : LK} {m : Int} {L : Lay} (hn : n < s.length) (hi : i < ps.length) (a : k.1.Pairwise (· < ·)) (b : ∀ x ∈ k.1, x < 6) (hk : i ∉ k.1) (O : LayOk L) : LayOk (st1 s ps fx n k m i L t) := by
  unfold st1
  split
  · exact O.add (ins_asc a hk) (fun x hx => by
      rcases ins_mem.mp hx with z | z
      · exact b x z
      · have := P.len; omega) (end_ok P hn hi)
  · exact O
theorem fold_ok {α β : Type} {f : β → α → β} {I : β → Prop} : ∀ {xs : List α} {b : β}, I b → (∀ b x, x ∈ xs → I b → I (f b x)) → I (xs.foldl f b)
  | [], b, h, _ => h
  | x :: xs, b, h, hs => fold_ok (xs := xs) (hs b x List.mem_cons_self h) fun b y hy => hs b y (List.mem_cons_of_mem _ hy)
theorem st2_ok (P : PsOk s ps) {n i : Nat} {k : LK} {m : Int} {L : Lay} (hn : n < s.length) (hi : i < ps.length) (a : k.1.Pairwise (· < ·)) (b : ∀ x ∈ k.1, x < 6) (O : LayOk L) : LayOk (st2 s ps fx n k m L i) := by
  unfold st2
  split
  · exact O
  · rename_i h
    exact fold_ok O fun L t _ O => st1_ok P hn hi a b h O
theorem st3_ok (P : PsOk s ps) (W : ∀ i ∈ w, i < ps.length) {n : Nat} {z : LK × Int} {L : Lay} (hn : n < s.length) (a : z.1.1.Pairwise (· < ·)) (b : ∀ x ∈ z.1.1, x < 6) (O : LayOk L) : LayOk (st3 s ps w fx n L z) :=
  fold_ok O fun L i hi O => st2_ok P hn (W i hi) a b O
theorem st4_ok (P : PsOk s ps) (W : ∀ i ∈ w, i < ps.length) {n : Nat} {L : Lay} (hn : n < s.length) (O : LayOk L) : LayOk (st4 s ps w fx L n) :=
  fold_ok O fun L' z hz O' => have h := O.asc _ (List.mem_map_of_mem hz); st3_ok P W hn h.1 h.2.1 O'
theorem layers_ok (P : PsOk s ps) (W : ∀ i ∈ w, i < ps.length) {n : Nat} (hn : n ≤ s.length) : LayOk (layers s ps w fx n) :=
  fold_ok lay0 fun L i hi O => st4_ok P W (by have := List.mem_range.mp hi; omega) O
theorem lay_bd2 {L0 L : Lay} {n : Nat} {m : Int} {i : Nat} {k : LK} {pre : Om} {x11 x12 x13 x14 : Option SV} (P : PsOk s ps) (hn : n < s.length) (hi : i < ps.length) (a : k.1.Pairwise (· < ·)) (b : ∀ x ∈ k.1, x < 6) (O : LayOk L) :
    ∃ y11 y12 y13 y14, bd_layers_of_2 (layR s ps w fx L0 n pre.length m i k x11 x12 x13 x14) (pre ++ [some (.dcN (layD L))]) = .next (layR s ps w fx L0 n pre.length m i k y11 y12 y13 y14) (pre ++ [some (.dcN (layD (st2 s ps fx n k m L i)))]) := by
  have hp := plug_at hi
  have e1 := getP hp
  by_cases hk : i ∈ k.1
  · refine ⟨x11, x12, x13, x14, ?_⟩
    have hc : k.1.contains i = true := List.contains_iff_mem.mpr hk
    unfold bd_layers_of_2 st2
    rw [if_pos hk]
    push_cast [layR, layQ, iV, opIn_nD, hc]
  · have hc : k.1.contains i = false := by rw [← Bool.not_eq_true]; exact fun z => hk (List.contains_iff_mem.mp z)
    obtain ⟨ρ', ω', e, O', x11', x12', x13', x14', rfl, rfl⟩ := forL_fold (tg := gN 11) (b := bd_layers_of_1) D.bl (st1 s ps fx n k m i) (fun L ρ ω => LayOk L ∧ ∃ x11 x12 x13 x14, ρ = layR s ps w fx L0 n pre.length m i k x11 x12 x13 x14 ∧ ω = pre ++ [some (.dcN (layD L))])
      (standsB (plugAt ps i)) L (layR s ps w fx L0 n pre.length m i k x11 x12 x13 x14) (pre ++ [some (.dcN (layD L))]) ⟨O, x11, x12, x13, x14, rfl, rfl⟩ (by
      rintro L t ρ ω _ ⟨O, x11, x12, x13, x14, rfl, rfl⟩
      obtain ⟨y12, y13, y14, e⟩ := lay_bd1 (w := w) (fx := fx) (L0 := L0) (m := m) (t := t) (pre := pre) (x12 := x12) (x13 := x13) (x14 := x14) P hn hi a b O
      exact ⟨_, _, _, rfl, e, st1_ok P hn hi a b hk O, _, _, _, _, rfl, rfl⟩)
    refine ⟨x11', x12', x13', x14', ?_⟩
    unfold bd_layers_of_2 st2
    rw [if_neg hk]
    push_cast [layR, layQ, iV, plugsD, opIn_nD, hc, e1, stands_run, stands_map]
    exact e
theorem lay_bd3 {L0 L : Lay} {n : Nat} {z : LK × Int} {pre : Om} {x8 x11 x12 x13 x14 : Option SV} (P : PsOk s ps) (W : ∀ i ∈ w, i < ps.length) (hn : n < s.length) (a : z.1.1.Pairwise (· < ·)) (b : ∀ x ∈ z.1.1, x < 6) (O : LayOk L) :
    ∃ y8 y11 y12 y13 y14, bd_layers_of_3 (layQ s ps w fx L0 (iV n) (some (.own pre.length)) (iV z.2) x8 (some (.val (.tup (z.1.1.map nD)))) (iV z.1.2) x11 x12 x13 x14) (pre ++ [some (.dcN (layD L))]) = .next (layQ s ps w fx L0 (iV n) (some (.own pre.length)) (iV z.2) y8 (some (.val (.tup (z.1.1.map nD)))) (iV z.1.2) y11 y12 y13 y14) (pre ++ [some (.dcN (layD (st3 s ps w fx n L z)))]) := by
  obtain ⟨ρ', ω', e, O', x8', x11', x12', x13', x14', rfl, rfl⟩ := forL_fold (tg := gN 8) (b := bd_layers_of_2) nD (st2 s ps fx n z.1 z.2) (fun L ρ ω => LayOk L ∧ ∃ x8 x11 x12 x13 x14, ρ = layQ s ps w fx L0 (iV n) (some (.own pre.length)) (iV z.2) x8 (some (.val (.tup (z.1.1.map nD)))) (iV z.1.2) x11 x12 x13 x14 ∧ ω = pre ++ [some (.dcN (layD L))])
    w L (layQ s ps w fx L0 (iV n) (some (.own pre.length)) (iV z.2) x8 (some (.val (.tup (z.1.1.map nD)))) (iV z.1.2) x11 x12 x13 x14) (pre ++ [some (.dcN (layD L))]) ⟨O, x8, x11, x12, x13, x14, rfl, rfl⟩ (by
    rintro L i ρ ω hi ⟨O, x8, x11, x12, x13, x14, rfl, rfl⟩
    obtain ⟨y11, y12, y13, y14, e⟩ := lay_bd2 (w := w) (fx := fx) (L0 := L0) (m := z.2) (pre := pre) (x11 := x11) (x12 := x12) (x13 := x13) (x14 := x14) P hn (W i hi) a b O
    exact ⟨_, _, _, rfl, e, st2_ok P hn (W i hi) a b O, _, _, _, _, _, rfl, rfl⟩)
  refine ⟨x8', x11', x12', x13', x14', ?_⟩
  unfold bd_layers_of_3
  push_cast [layQ, iV]
  exact e
theorem lay_bd4 {L : Lay} {n : Nat} {pre : Om} {x6 x7 x8 x9 x10 x11 x12 x13 x14 : Option SV} (P : PsOk s ps) (W : ∀ i ∈ w, i < ps.length) (hn : n < s.length) (O : LayOk L) :
    ∃ y6 y7 y8 y9 y10 y11 y12 y13 y14, bd_layers_of_4 (layQ s ps w fx L (iV n) x6 x7 x8 x9 x10 x11 x12 x13 x14) pre = .next (layQ s ps w fx (st4 s ps w fx L n) (iV n) y6 y7 y8 y9 y10 y11 y12 y13 y14) (pre ++ [none]) := by
  obtain ⟨ρ', ω', e, O', x7', x8', x9', x10', x11', x12', x13', x14', rfl, rfl⟩ := forL_fold (tg := gT 2 (gsCons (gT 2 (gsCons (gN 9) (gsCons (gN 10) gsNil))) (gsCons (gN 7) gsNil))) (b := bd_layers_of_3) (fun z : LK × Int => D.tup [keyD z.1, .int z.2]) (st3 s ps w fx n) (fun L' ρ ω => LayOk L' ∧ ∃ x7 x8 x9 x10 x11 x12 x13 x14, ρ = layQ s ps w fx L (iV n) (some (.own pre.length)) x7 x8 x9 x10 x11 x12 x13 x14 ∧ ω = pre ++ [some (.dcN (layD L'))])
    L L (layQ s ps w fx L (iV n) (some (.own pre.length)) x7 x8 x9 x10 x11 x12 x13 x14) (pre ++ [some (.dcN (layD L))]) ⟨O, x7, x8, x9, x10, x11, x12, x13, x14, rfl, rfl⟩ (by
    rintro L' z ρ ω hz ⟨O', x7, x8, x9, x10, x11, x12, x13, x14, rfl, rfl⟩
    have h := O.asc _ (List.mem_map_of_mem hz)
    obtain ⟨y8, y11, y12, y13, y14, e⟩ := lay_bd3 (w := w) (fx := fx) (L0 := L) (z := z) (pre := pre) (x8 := x8) (x11 := x11) (x12 := x12) (x13 := x13) (x14 := x14) P W hn h.1 h.2.1 O'
    exact ⟨_, _, _, rfl, e, st3_ok P W hn h.1 h.2.1 O', _, _, _, _, _, _, _, _, rfl, rfl⟩)
  refine ⟨some (.val (.dcN (layD (st4 s ps w fx L n)))), x7', x8', x9', x10', x11', x12', x13', x14', ?_⟩
  have hit : itemsD (layD L) = L.map fun z : LK × Int => D.tup [keyD z.1, .int z.2] := by
    unfold itemsD layD; rw [List.map_map]; rfl
  unfold bd_layers_of_4
  push_cast [layQ, iV, copyN_run O.hash, hit]
  have e' := e
  simp only [layQ, iV] at e'
  rw [e']
  push_cast []
  rw [sGf_own rfl (app_get' _ _), app_set]
  rfl
end
section
variable {s : List Int} {ps : List Plug} {w : List Nat} {fx : Fix}
theorem layers_run (P : PsOk s ps) (W : ∀ i ∈ w, i < ps.length) : F_layers_of [stripD s, plugsD ps, .tup (w.map nD), .dcK (fixD fx)] = some (.ok (.dcN (layD (layers s ps w fx s.length)))) := by
  have hsl := P.sl
  obtain ⟨ρ', ω', e, ⟨n, hn, O'⟩, x5, x6, x7, x8, x9, x10, x11, x12, x13, x14, rfl⟩ := forL_fold (tg := gN 5) (b := bd_layers_of_4) nD (fun (z : Lay × Nat) n => (st4 s ps w fx z.1 n, z.2 + 1)) (fun z ρ ω => (∃ n, n = z.2 ∧ LayOk z.1) ∧ ∃ x5 x6 x7 x8 x9 x10 x11 x12 x13 x14, ρ = layQ s ps w fx z.1 x5 x6 x7 x8 x9 x10 x11 x12 x13 x14)
    (List.range s.length) ([(([], -1000), 1)], 0) (layQ s ps w fx [(([], -1000), 1)] none none none none none none none none none none) [] ⟨⟨0, rfl, lay0⟩, _, _, _, _, _, _, _, _, _, _, rfl⟩ (by
    rintro z n ρ ω hm ⟨⟨k, rfl, O⟩, x5, x6, x7, x8, x9, x10, x11, x12, x13, x14, rfl⟩
    have hn := List.mem_range.mp hm
    obtain ⟨y6, y7, y8, y9, y10, y11, y12, y13, y14, e⟩ := lay_bd4 (fx := fx) (pre := ω) (x6 := x6) (x7 := x7) (x8 := x8) (x9 := x9) (x10 := x10) (x11 := x11) (x12 := x12) (x13 := x13) (x14 := x14) P W hn O
    exact ⟨_, _, _, rfl, e, ⟨_, rfl, st4_ok P W hn O⟩, _, _, _, _, _, _, _, _, _, _, rfl⟩)
  have hf : ∀ (l : List Nat) (L : Lay) (k : Nat), (l.foldl (fun (z : Lay × Nat) n => (st4 s ps w fx z.1 n, z.2 + 1)) (L, k)).1 = l.foldl (st4 s ps w fx) L := fun l => by
    induction l with
    | nil => intro L k; rfl
    | cons a l ih => intro L k; rw [List.foldl_cons, List.foldl_cons, ih]
  have i1 : itR1 (.int (s.length : Int)) = some ((List.range s.length).map nD) := by rw [itR1_run (by omega) (by omega), rng_nD]
  rw [hf] at e
  unfold F_layers_of
  rw [fnP_run (by rfl)]
  unfold f_layers_of
  have hk : isKey (D.tup [.tup [], .int (-1000)]) = true := rfl
  have h0 : D.dcN [(D.tup [.tup [], .int (-1000)], .int 1)] = .dcN (layD [(([], -1000), 1)]) := rfl
  have hl : oLen [socksD s] = some (.int s.length) := len_socks s
  push_cast [fld_rows, hl, i1, hk, h0]
  have e' := e
  simp only [layQ] at e'
  rw [e']
  push_cast []
  rfl
theorem lcT {α : Type} {tg : FG} {tt : FE Bool} {el : FE D} {ρ : Rho} {ω : Om} (f : α → D) (p : α → Bool) (y : α → D) : ∀ (xs : List α) (acc : List D), acc.length + xs.length ≤ lim →
    (∀ x ∈ xs, ∃ ρ1, tg (f x) ρ = some ρ1 ∧ tt ρ1 ω = .ok (p x) ω ∧ (p x = true → el ρ1 ω = .ok (y x) ω)) → lcL tg tt el ρ (xs.map f) acc ω = .ok (.lst (acc ++ (xs.filter p).map y)) ω
  | [], acc, _, _ => by rw [List.map_nil]; unfold lcL; simp
  | x :: xs, acc, hl, h => by
    obtain ⟨ρ1, h1, h2, h3⟩ := h x List.mem_cons_self
    rw [List.length_cons] at hl
    rw [List.map_cons]
    unfold lcL
    rw [h1]
    dsimp only
    rw [h2]
    cases q : p x with
    | true =>
      dsimp only
      rw [h3 q]
      dsimp only
      rw [if_pos (by omega), lcT f p y xs (acc ++ [y x]) (by simp; omega) fun d' hd' => h d' (List.mem_cons_of_mem _ hd'), List.filter_cons_of_pos q]
      simp
    | false =>
      dsimp only
      rw [lcT f p y xs acc (by omega) fun d' hd' => h d' (List.mem_cons_of_mem _ hd'), List.filter_cons_of_neg (by rw [q]; exact Bool.false_ne_true)]
theorem asInts_map {α : Type} (f : α → Int) : ∀ l : List α, asInts (l.map fun a => D.int (f a)) = some (l.map f)
  | [] => rfl
  | a :: l => by rw [List.map_cons, asInts, asInts_map f l]; rfl
theorem sum_filter {α : Type} (f : α → Int) (p : α → Bool) : ∀ l : List α, ((l.filter p).map f).sum = (l.map fun a => f a * if p a = true then 1 else 0).sum
  | [] => rfl
  | a :: l => by
    rw [List.map_cons, List.sum_cons, ← sum_filter f p l]
    cases q : p a with
    | true => rw [List.filter_cons_of_pos q, List.map_cons, List.sum_cons]; simp
    | false => rw [List.filter_cons_of_neg (by rw [q]; exact Bool.false_ne_true)]; simp
def cnt (w : List Nat) (L : Lay) : Int := tot L fun k => if k.1 = w then 1 else 0
theorem count_of_run (P : PsOk s ps) (W : ∀ i ∈ w, i < ps.length) : F_count_of [stripD s, plugsD ps, .tup (w.map nD), .dcK (fixD fx)] = some (.ok (.int (cnt w (layers s ps w fx s.length)))) := by
  have O := layers_ok (fx := fx) P W (Nat.le_refl s.length)
  generalize hL : layers s ps w fx s.length = L at O
  have eL := layers_run (fx := fx) P W
  rw [hL] at eL
  unfold F_count_of
  rw [fnP_run (by rfl)]
  unfold f_count_of
  have hit : itemsD (layD L) = L.map fun z : LK × Int => D.tup [keyD z.1, .int z.2] := by
    unfold itemsD layD; rw [List.map_map]; rfl
  have ec : lc_count_of_1 [some (SV.val (stripD s)), some (SV.val (plugsD ps)), some (SV.val (.tup (w.map nD))), some (SV.val (.dcK (fixD fx))), some (SV.val (.dcN (layD L))), none, none, none] [] = .ok (.lst ((L.filter fun z => decide (z.1.1 = w)).map fun z => D.int z.2)) [] := by
    unfold lc_count_of_1
    push_cast [hit]
    rw [lcT (fun z : LK × Int => D.tup [keyD z.1, .int z.2]) (fun z => decide (z.1.1 = w)) (fun z => D.int z.2) L [] (by have := O.len; rw [List.length_nil]; show _ ≤ 16777216; omega)]
    · rfl
    · intro z _
      refine ⟨_, rfl, ?_, fun _ => rfl⟩
      push_cast [eqD_nDs]
  have es : oSumL ((L.filter fun z => decide (z.1.1 = w)).map fun z => D.int z.2) = some (.int (cnt w L)) := by
    unfold oSumL
    rw [asInts_map (fun z : LK × Int => z.2), Option.map_some, sum_filter]
    unfold cnt tot
    simp only [decide_eq_true_eq]
  push_cast [eL, ec, es]
end
theorem sum_addI {α : Type} (f g : α → Int) : ∀ l : List α, (l.map fun a => f a + g a).sum = (l.map f).sum + (l.map g).sum
  | [] => rfl
  | a :: l => by rw [List.map_cons, List.map_cons, List.map_cons, List.sum_cons, List.sum_cons, List.sum_cons, sum_addI f g l]; omega
theorem sum_zeroI {α : Type} : ∀ l : List α, (l.map fun _ => (0 : Int)).sum = 0
  | [] => rfl
  | a :: l => by rw [List.map_cons, List.sum_cons, sum_zeroI l]; rfl
theorem sum_commI {α β : Type} (f : α → β → Int) (m : List β) : ∀ l : List α, (l.map fun a => (m.map fun b => f a b).sum).sum = (m.map fun b => (l.map fun a => f a b).sum).sum
  | [] => by simp only [List.map_nil, List.sum_nil]; rw [sum_zeroI]
  | a :: l => by
    rw [List.map_cons, List.sum_cons, sum_commI f m l, ← sum_addI]
    congr 1
theorem sum_mulI {α : Type} (c : Int) (f : α → Int) : ∀ l : List α, (l.map fun a => c * f a).sum = c * (l.map f).sum
  | [] => by simp
  | a :: l => by rw [List.map_cons, List.map_cons, List.sum_cons, List.sum_cons, sum_mulI c f l, Int.mul_add]
theorem sum_congrI {α : Type} {f g : α → Int} {l : List α} (h : ∀ a ∈ l, f a = g a) : (l.map f).sum = (l.map g).sum := by rw [List.map_congr_left h]
section
variable {s : List Int} {ps : List Plug} {w : List Nat} {fx : Fix}
def mvT (s : List Int) (ps : List Plug) (fx : Fix) (n : Nat) (φ : LK → Int) (k : LK) (i : Nat) (t : Bool) : Int := if goes s ps fx n k.2 i t = true then φ (ins k.1 i, bEnd s (plugAt ps i) (n, t)) else 0
def mvI (s : List Int) (ps : List Plug) (fx : Fix) (n : Nat) (φ : LK → Int) (k : LK) (i : Nat) : Int := if i ∈ k.1 then 0 else ((standsB (plugAt ps i)).map (mvT s ps fx n φ k i)).sum
def mv (s : List Int) (ps : List Plug) (w : List Nat) (fx : Fix) (n : Nat) (φ : LK → Int) (k : LK) : Int := (w.map (mvI s ps fx n φ k)).sum
theorem tot_fold {α : Type} {step : Lay → α → Lay} {φ : LK → Int} {δ : α → Int} : ∀ {xs : List α} {L : Lay}, LayOk L → (∀ L x, x ∈ xs → LayOk L → LayOk (step L x) ∧ tot (step L x) φ = tot L φ + δ x) → tot (xs.foldl step L) φ = tot L φ + (xs.map δ).sum
  | [], L, _, _ => by simp
  | x :: xs, L, O, h => by
    obtain ⟨h1, h2⟩ := h L x List.mem_cons_self O
    rw [List.foldl_cons, tot_fold h1 fun L y hy => h L y (List.mem_cons_of_mem _ hy), h2, List.map_cons, List.sum_cons]
    omega
theorem tot_st1 {n i : Nat} {t : Bool} {k : LK} {m : Int} {L : Lay} {φ : LK → Int} (O : LayOk L) : tot (st1 s ps fx n k m i L t) φ = tot L φ + m * mvT s ps fx n φ k i t := by
  unfold st1 mvT
  split
  · rw [tot_add O.nd]
  · simp
theorem tot_st2 (P : PsOk s ps) {n i : Nat} {k : LK} {m : Int} {L : Lay} {φ : LK → Int} (hn : n < s.length) (hi : i < ps.length) (a : k.1.Pairwise (· < ·)) (b : ∀ x ∈ k.1, x < 6) (O : LayOk L) : tot (st2 s ps fx n k m L i) φ = tot L φ + m * mvI s ps fx n φ k i := by
  unfold st2 mvI
  split
  · simp
  · rename_i h
    rw [← sum_mulI]
    exact tot_fold O fun L t _ O => ⟨st1_ok P hn hi a b h O, tot_st1 O⟩
theorem tot_st3 (P : PsOk s ps) (W : ∀ i ∈ w, i < ps.length) {n : Nat} {z : LK × Int} {L : Lay} {φ : LK → Int} (hn : n < s.length) (a : z.1.1.Pairwise (· < ·)) (b : ∀ x ∈ z.1.1, x < 6) (O : LayOk L) : tot (st3 s ps w fx n L z) φ = tot L φ + z.2 * mv s ps w fx n φ z.1 := by
  unfold st3 mv
  rw [← sum_mulI]
  exact tot_fold O fun L i hi O => ⟨st2_ok P hn (W i hi) a b O, tot_st2 P hn (W i hi) a b O⟩
theorem tot_st4 (P : PsOk s ps) (W : ∀ i ∈ w, i < ps.length) {n : Nat} {L : Lay} {φ : LK → Int} (hn : n < s.length) (O : LayOk L) : tot (st4 s ps w fx L n) φ = tot L fun k => φ k + mv s ps w fx n φ k := by
  unfold st4
  rw [tot_fold (δ := fun z : LK × Int => z.2 * mv s ps w fx n φ z.1) O fun L' z hz O' => have h := O.asc _ (List.mem_map_of_mem hz); ⟨st3_ok P W hn h.1 h.2.1 O', tot_st3 P W hn h.1 h.2.1 O'⟩]
  unfold tot
  rw [← sum_addI]
  exact sum_congrI fun z _ => by rw [Int.mul_add]
def back (s : List Int) (ps : List Plug) (w : List Nat) (fx : Fix) (φ : LK → Int) : Nat → Nat → LK → Int
  | 0, _, k => φ k
  | r + 1, n, k => back s ps w fx φ r (n + 1) k + mv s ps w fx n (back s ps w fx φ r (n + 1)) k
theorem tot_back (P : PsOk s ps) (W : ∀ i ∈ w, i < ps.length) {φ : LK → Int} : ∀ (r n : Nat) (L : Lay), n + r ≤ s.length → LayOk L → tot ((List.range' n r).foldl (st4 s ps w fx) L) φ = tot L (back s ps w fx φ r n)
  | 0, n, L, _, _ => rfl
  | r + 1, n, L, h, O => by
    rw [List.range'_succ, List.foldl_cons, tot_back P W r (n + 1) _ (by omega) (st4_ok P W (by omega) O), tot_st4 P W (by omega) O]
    rfl
theorem cnt_back (P : PsOk s ps) (W : ∀ i ∈ w, i < ps.length) : cnt w (layers s ps w fx s.length) = back s ps w fx (fun k => if k.1 = w then 1 else 0) s.length 0 ([], -1000) := by
  unfold cnt layers
  rw [List.range_eq_range', tot_back P W _ _ _ (by omega) lay0]
  unfold tot
  simp
end
def addP (n : Nat) (ps : List Plug) (k : Nat) (rows : List Plan) : List Plan := rows.flatMap fun one => (placesN n (plugAt ps k)).map fun pl => one.set k (some pl)
def allR (n : Nat) (ps : List Plug) : List Nat → List Plan
  | [] => [List.replicate ps.length none]
  | k :: r => addP n ps k (allR n ps r)
def allP (n : Nat) (ps : List Plug) (w : List Nat) : List Plan := allR n ps w.reverse
structure Full (n : Nat) (ps : List Plug) (w : List Nat) (q : Plan) : Prop where
  len : q.length = ps.length
  on : ∀ i ∈ w, ∃ pl, pl ∈ placesN n (plugAt ps i) ∧ q[i]? = some (some pl)
  off : ∀ i, i < ps.length → i ∉ w → q[i]? = some none
theorem mem_places {n : Nat} {p : Plug} {pl : Place} : pl ∈ placesN n p ↔ pl.1 < n ∧ pl.2 ∈ standsB p := by
  unfold placesN standsB
  rw [List.mem_flatMap]
  obtain ⟨a, b⟩ := pl
  constructor
  · rintro ⟨i, hi, h⟩
    have := List.mem_range.mp hi
    cases hc : canT p
    · rw [hc] at h
      simp at h
      obtain ⟨rfl, rfl⟩ := h
      exact ⟨this, by simp⟩
    · rw [hc] at h
      simp at h
      rcases h with ⟨rfl, rfl⟩ | ⟨rfl, rfl⟩ <;> exact ⟨this, by simp⟩
  · rintro ⟨h1, h2⟩
    refine ⟨a, List.mem_range.mpr h1, ?_⟩
    cases hc : canT p
    · rw [hc] at h2
      simp at h2
      simp [h2]
    · cases b <;> simp
theorem full_nil {n : Nat} {ps : List Plug} {q : Plan} : Full n ps [] q ↔ q = List.replicate ps.length none := by
  constructor
  · intro h
    apply List.ext_getElem?
    intro i
    by_cases hi : i < ps.length
    · rw [h.off i hi List.not_mem_nil, List.getElem?_replicate, if_pos hi]
    · rw [List.getElem?_eq_none (by have := h.len; omega), List.getElem?_eq_none (by rw [List.length_replicate]; omega)]
  · rintro rfl
    exact ⟨List.length_replicate, (fun i hi => by cases hi), fun i hi _ => by rw [List.getElem?_replicate, if_pos hi]⟩
theorem set_get {q : Plan} {k j : Nat} {o : Option Place} (hk : k < q.length) : (q.set k o)[j]? = if k = j then some o else q[j]? := by
  rw [List.getElem?_set]
  split
  · rfl
  · rfl
theorem mem_allR {n : Nat} {ps : List Plug} {q : Plan} : ∀ {r : List Nat}, r.Nodup → (∀ i ∈ r, i < ps.length) → ∀ {q : Plan}, q ∈ allR n ps r ↔ Full n ps r q
  | [], _, _, q => by
    unfold allR
    rw [List.mem_singleton, full_nil]
  | k :: r, nd, hr, q => by
    rw [List.nodup_cons] at nd
    have hk := hr k List.mem_cons_self
    have ih := @mem_allR n ps q r nd.2 (fun i hi => hr i (List.mem_cons_of_mem _ hi))
    unfold allR addP
    rw [List.mem_flatMap]
    constructor
    · rintro ⟨one, ho, h⟩
      obtain ⟨pl, hp, rfl⟩ := List.mem_map.mp h
      have F := ih.mp ho
      have hko : k < one.length := by rw [F.len]; exact hk
      refine ⟨by rw [List.length_set]; exact F.len, fun i hi => ?_, fun i hi hn => ?_⟩
      · rw [set_get hko]
        rcases List.mem_cons.mp hi with rfl | hi
        · exact ⟨pl, hp, by rw [if_pos rfl]⟩
        · obtain ⟨x, h1, h2⟩ := F.on i hi
          exact ⟨x, h1, by rw [if_neg (show ¬ k = i from fun e => nd.1 (e ▸ hi))]; exact h2⟩
      · rw [set_get hko, if_neg (show ¬ k = i from fun e => hn (e ▸ List.mem_cons_self))]
        exact F.off i hi fun z => hn (List.mem_cons_of_mem _ z)
    · intro F
      have hkq : k < q.length := by rw [F.len]; exact hk
      obtain ⟨pl, hp, e⟩ := F.on k List.mem_cons_self
      refine ⟨q.set k none, ih.mpr ⟨by rw [List.length_set]; exact F.len, fun i hi => ?_, fun i hi hn => ?_⟩, List.mem_map.mpr ⟨pl, hp, ?_⟩⟩
      · obtain ⟨x, h1, h2⟩ := F.on i (List.mem_cons_of_mem _ hi)
        exact ⟨x, h1, by rw [set_get hkq, if_neg (show ¬ k = i from fun e => nd.1 (e ▸ hi))]; exact h2⟩
      · rw [set_get hkq]
        split
        · rfl
        · rename_i hne
          exact F.off i hi fun z => (List.mem_cons.mp z).elim (fun e => hne e.symm) hn
      · apply List.ext_getElem?
        intro j
        rw [set_get (by rw [List.length_set]; exact hkq), set_get hkq]
        split
        · rename_i h; rw [← h, e]
        · rfl
def plLt (a b : Place) : Prop := a.1 < b.1 ∨ (a.1 = b.1 ∧ a.2 = false ∧ b.2 = true)
def ltP (q q' : Plan) : Prop := ∃ (i : Nat) (a b : Place), (∀ j, j < i → q[j]? = q'[j]?) ∧ q[i]? = some (some a) ∧ q'[i]? = some (some b) ∧ plLt a b
theorem plLt_irr {a : Place} (h : plLt a a) : False := by
  rcases h with h | ⟨_, h1, h2⟩
  · omega
  · rw [h1] at h2; cases h2
theorem ltP_irr {q : Plan} (h : ltP q q) : False := by
  obtain ⟨i, a, b, _, h1, h2, h3⟩ := h
  rw [h1] at h2
  cases h2
  exact plLt_irr h3
theorem places_asc (n : Nat) (p : Plug) : (placesN n p).Pairwise plLt := by
  unfold placesN
  rw [List.pairwise_flatMap]
  constructor
  · intro i _
    cases canT p
    · exact List.pairwise_singleton _ _
    · exact List.pairwise_cons.mpr ⟨fun y hy => by simp at hy; subst hy; exact .inr ⟨rfl, rfl, rfl⟩, List.pairwise_singleton _ _⟩
  · refine List.pairwise_lt_range.imp fun {i j} h x hx y hy => .inl ?_
    have h1 : ∀ (k : Nat) (z : Place), z ∈ (if canT p = true then [(k, false), (k, true)] else [(k, false)]) → z.1 = k := fun k z hz => by
      cases hc : canT p <;> rw [hc] at hz <;> simp at hz
      · rw [hz]
      · rcases hz with rfl | rfl <;> rfl
    rw [h1 i x hx, h1 j y hy]
    exact h
theorem allR_asc {n : Nat} {ps : List Plug} : ∀ {r : List Nat}, r.Pairwise (· > ·) → (∀ i ∈ r, i < ps.length) → (allR n ps r).Pairwise ltP
  | [], _, _ => List.pairwise_singleton _ _
  | k :: r, hd, hr => by
    rw [List.pairwise_cons] at hd
    have nd : r.Nodup := hd.2.imp fun z => by omega
    have hr' : ∀ i ∈ r, i < ps.length := fun i hi => hr i (List.mem_cons_of_mem _ hi)
    have hk := hr k List.mem_cons_self
    have ih := allR_asc (n := n) hd.2 hr'
    unfold allR addP
    rw [List.pairwise_flatMap]
    constructor
    · intro one ho
      have F := (mem_allR (q := one) nd hr').mp ho
      have hko : k < one.length := by rw [F.len]; exact hk
      rw [List.pairwise_map]
      exact (places_asc n _).imp fun {a b} h => ⟨k, a, b, fun j hj => by rw [set_get hko, set_get hko, if_neg (by omega), if_neg (by omega)], by rw [set_get hko, if_pos rfl], by rw [set_get hko, if_pos rfl], h⟩
    · refine List.Pairwise.imp_of_mem (R := ltP) ?_ ih
      rintro one two h1 h2 ⟨i, a, b, e1, e2, e3, e4⟩ x hx y hy
      have F1 := (mem_allR (q := one) nd hr').mp h1
      have F2 := (mem_allR (q := two) nd hr').mp h2
      have hk1 : k < one.length := by rw [F1.len]; exact hk
      have hk2 : k < two.length := by rw [F2.len]; exact hk
      obtain ⟨p1, _, rfl⟩ := List.mem_map.mp hx
      obtain ⟨p2, _, rfl⟩ := List.mem_map.mp hy
      have hir : i ∈ r := by
        refine Classical.byContradiction fun hn => ?_
        have hi : i < ps.length := by rw [← F1.len]; exact (List.getElem?_eq_some_iff.mp e2).1
        rw [F1.off i hi hn] at e2
        cases e2
      have hik : i < k := hd.1 i hir
      exact ⟨i, a, b, fun j hj => by rw [set_get hk1, set_get hk2, if_neg (by omega), if_neg (by omega), e1 j hj], by rw [set_get hk1, if_neg (by omega), e2], by rw [set_get hk2, if_neg (by omega), e3], e4⟩
theorem mem_allP {n : Nat} {ps : List Plug} {w : List Nat} (hw : w.Pairwise (· < ·)) (W : ∀ i ∈ w, i < ps.length) {q : Plan} : q ∈ allP n ps w ↔ Full n ps w q := by
  unfold allP
  rw [mem_allR (q := q) (List.pairwise_reverse.mpr (hw.imp fun z => by omega)) (fun i hi => W i (List.mem_reverse.mp hi))]
  constructor
  · intro F; exact ⟨F.len, fun i hi => F.on i (List.mem_reverse.mpr hi), fun i hi hn => F.off i hi fun z => hn (List.mem_reverse.mp z)⟩
  · intro F; exact ⟨F.len, fun i hi => F.on i (List.mem_reverse.mp hi), fun i hi hn => F.off i hi fun z => hn (List.mem_reverse.mpr z)⟩
theorem allP_asc {n : Nat} {ps : List Plug} {w : List Nat} (hw : w.Pairwise (· < ·)) (W : ∀ i ∈ w, i < ps.length) : (allP n ps w).Pairwise ltP :=
  allR_asc (List.pairwise_reverse.mpr hw) fun i hi => W i (List.mem_reverse.mp hi)
theorem allP_nodup {n : Nat} {ps : List Plug} {w : List Nat} (hw : w.Pairwise (· < ·)) (W : ∀ i ∈ w, i < ps.length) : (allP n ps w).Nodup :=
  (allP_asc hw W).imp fun h e => by subst e; exact ltP_irr h
open Classical in
noncomputable def io (p : Prop) : Int := if p then 1 else 0
theorem io_pos {p : Prop} (h : p) : io p = 1 := by unfold io; rw [if_pos h]
theorem io_neg {p : Prop} (h : ¬ p) : io p = 0 := by unfold io; rw [if_neg h]
theorem io_iff {p q : Prop} (h : p ↔ q) : io p = io q := by
  by_cases hp : p
  · rw [io_pos hp, io_pos (h.mp hp)]
  · rw [io_neg hp, io_neg fun z => hp (h.mpr z)]
noncomputable def num (U : List Plan) (P : Plan → Prop) : Int := (U.map fun q => io (P q)).sum
theorem sum_allz {α : Type} {f : α → Int} : ∀ {l : List α}, (∀ a ∈ l, f a = 0) → (l.map f).sum = 0
  | [], _ => rfl
  | a :: l, h => by rw [List.map_cons, List.sum_cons, h a List.mem_cons_self, sum_allz fun b hb => h b (List.mem_cons_of_mem _ hb)]; rfl
theorem sum_one {α : Type} {f : α → Int} {a : α} : ∀ {l : List α}, l.Nodup → a ∈ l → f a = 1 → (∀ b ∈ l, b ≠ a → f b = 0) → (l.map f).sum = 1
  | b :: l, nd, ha, h1, h0 => by
    rw [List.nodup_cons] at nd
    rw [List.map_cons, List.sum_cons]
    rcases List.mem_cons.mp ha with rfl | ha
    · rw [h1, sum_allz fun b hb => h0 b (List.mem_cons_of_mem _ hb) fun e => nd.1 (e ▸ hb)]; rfl
    · rw [h0 b List.mem_cons_self fun e => nd.1 (e ▸ ha), sum_one nd.2 ha h1 fun b hb => h0 b (List.mem_cons_of_mem _ hb)]; rfl
abbrev Chn := List (Nat × Place)
section
variable (s : List Int) (ps : List Plug) (w : List Nat) (fx : Fix)
structure Okay (q : Plan) : Prop where
  right : Right s ps q
  fix : ∀ i pl, i ∈ w → q[i]? = some (some pl) → fixOk fx i pl = true
def ExtC (c : Chn) (q : Plan) : Prop := ∀ z ∈ c, q[z.1]? = some (some z.2)
def Late (n : Nat) (c : Chn) (q : Plan) : Prop := ∀ i ∈ w, i ∉ c.map (·.1) → ∀ pl, q[i]? = some (some pl) → n ≤ pl.1
def Pd (n : Nat) (c : Chn) (q : Plan) : Prop := Okay s ps w fx q ∧ ExtC c q ∧ Late w n c q
abbrev zEnd (z : Nat × Place) : Int := bEnd s (plugAt ps z.1) z.2
abbrev zBeg (z : Nat × Place) : Int := bBeg s (plugAt ps z.1) z.2
structure Ch (n : Nat) (k : LK) (c : Chn) : Prop where
  asc : k.1.Pairwise (· < ·)
  idx : ∀ x, x ∈ k.1 ↔ x ∈ c.map (·.1)
  hd : (c = [] ∧ k.2 = -1000) ∨ ∃ z r, c = z :: r ∧ k.2 = zEnd s ps z
  each : ∀ z ∈ c, z.1 ∈ w ∧ z.2.1 < n ∧ z.2.2 ∈ standsB (plugAt ps z.1) ∧ fixOk fx z.1 z.2 = true ∧ zEnd s ps z ≤ k.2
  pw : c.Pairwise fun a b => b.2.1 < a.2.1 ∧ b.1 ≠ a.1 ∧ zEnd s ps b ≤ zBeg s ps a
end
section
variable {s : List Int} {ps : List Plug} {w : List Nat} {fx : Fix}
theorem plugAt_ok (P : PsOk s ps) {i : Nat} (hi : i < ps.length) : PlugOk (plugAt ps i) := P.pl _ (List.mem_of_getElem? (plug_at hi))
theorem beg_end (P : PsOk s ps) {i : Nat} (hi : i < ps.length) (pl : Place) : bBeg s (plugAt ps i) pl ≤ bEnd s (plugAt ps i) pl := by
  have h2 := plugAt_ok P hi
  have := h2.l0; have := h2.l1; have := h2.r0; have := h2.r1
  unfold bBeg bEnd sideL sideR
  cases pl.2 <;> simp <;> omega
theorem beg_lo (P : PsOk s ps) {i : Nat} (hi : i < ps.length) {pl : Place} (hn : pl.1 < s.length) : -1000 ≤ bBeg s (plugAt ps i) pl := by
  have h1 := P.sk s[pl.1] (List.getElem_mem hn)
  have h2 := plugAt_ok P hi
  have h3 : s.getD pl.1 0 = s[pl.1] := by rw [List.getD_eq_getElem?_getD, List.getElem?_eq_getElem hn]; rfl
  have := h2.l0; have := h2.l1; have := h2.r0; have := h2.r1
  unfold bBeg sideL
  rw [h3]
  cases pl.2 <;> simp <;> omega
theorem Ch.mono {n : Nat} {k : LK} {c : Chn} (h : Ch s ps w fx n k c) : Ch s ps w fx (n + 1) k c :=
  ⟨h.asc, h.idx, h.hd, fun z hz => have e := h.each z hz; ⟨e.1, by have := e.2.1; omega, e.2.2⟩, h.pw⟩
theorem Ch.add (P : PsOk s ps) (W : ∀ i ∈ w, i < ps.length) {n i : Nat} {t : Bool} {k : LK} {c : Chn} (h : Ch s ps w fx n k c) (hi : i ∈ w) (hk : i ∉ k.1) (ht : t ∈ standsB (plugAt ps i)) (hg : goes s ps fx n k.2 i t = true) :
    Ch s ps w fx (n + 1) (ins k.1 i, bEnd s (plugAt ps i) (n, t)) ((i, (n, t)) :: c) := by
  unfold goes at hg
  obtain ⟨g1, g2⟩ := Bool.and_eq_true_iff.mp hg
  have g1 := of_decide_eq_true g1
  have be := beg_end P (W i hi) (n, t)
  refine ⟨ins_asc h.asc hk, fun x => ?_, .inr ⟨_, _, rfl, rfl⟩, fun z hz => ?_, List.pairwise_cons.mpr ⟨fun z hz => ?_, h.pw⟩⟩
  · rw [ins_mem, List.map_cons, List.mem_cons, h.idx]
    exact ⟨fun z => z.elim .inr .inl, fun z => z.elim .inr .inl⟩
  · rcases List.mem_cons.mp hz with rfl | hz
    · exact ⟨hi, by dsimp only; omega, ht, g2, Int.le_refl _⟩
    · have e := h.each z hz
      exact ⟨e.1, by have := e.2.1; omega, e.2.2.1, e.2.2.2.1, by have := e.2.2.2.2; dsimp only; omega⟩
  · have e := h.each z hz
    exact ⟨e.2.1, fun q => hk ((h.idx i).mpr (List.mem_map.mpr ⟨z, hz, q⟩)), by have := e.2.2.2.2; show zEnd s ps z ≤ bBeg s (plugAt ps i) (n, t); omega⟩
theorem over_of {q : Plan} (R : Right s ps q) (hlen : q.length = ps.length) {i j : Nat} {x y : Place} (hx : q[i]? = some (some x)) (hy : q[j]? = some (some y)) (hlt : x.1 < y.1) : bEnd s (plugAt ps i) x ≤ bBeg s (plugAt ps j) y := by
  have hi : i < ps.length := by rw [← hlen]; exact (List.getElem?_eq_some_iff.mp hx).1
  have hj : j < ps.length := by rw [← hlen]; exact (List.getElem?_eq_some_iff.mp hy).1
  rcases Nat.lt_trichotomy i j with h | h | h
  · have := R.over i j x y _ _ hx hy (plug_at hi) (plug_at hj) h
    unfold apart at this
    rw [if_pos hlt] at this
    exact of_decide_eq_true this
  · subst h
    rw [hx] at hy
    cases hy
    omega
  · have := R.over j i y x _ _ hy hx (plug_at hj) (plug_at hi) h
    unfold apart at this
    rw [if_neg (by omega)] at this
    exact of_decide_eq_true this
theorem sock_of {q : Plan} (R : Right s ps q) {i j : Nat} {x y : Place} (hx : q[i]? = some (some x)) (hy : q[j]? = some (some y)) (h : i ≠ j) : x.1 ≠ y.1 := by
  rcases Nat.lt_trichotomy i j with z | z | z
  · exact R.sock i j x y hx hy z
  · exact absurd z h
  · exact (R.sock j i y x hy hx z).symm
theorem late_up {n : Nat} {c : Chn} {q : Plan} (h : Late w (n + 1) c q) : Late w n c q := fun i hi hn pl e => by have := h i hi hn pl e; omega
theorem stands_nodup (p : Plug) : (standsB p).Nodup := by unfold standsB; cases canT p <;> simp
theorem io_step (P : PsOk s ps) (hw : w.Pairwise (· < ·)) (W : ∀ i ∈ w, i < ps.length) {n : Nat} {k : LK} {c : Chn} {q : Plan} (hn : n < s.length) (C : Ch s ps w fx n k c) (F : Full s.length ps w q) :
    io (Pd s ps w fx n c q) = io (Pd s ps w fx (n + 1) c q) + (w.map fun i => if i ∈ k.1 then 0 else ((standsB (plugAt ps i)).map fun t => if goes s ps fx n k.2 i t = true then io (Pd s ps w fx (n + 1) ((i, (n, t)) :: c) q) else 0).sum).sum := by
  have dn : ∀ {i : Nat} {t : Bool}, i ∈ w → i ∉ k.1 → Pd s ps w fx (n + 1) ((i, (n, t)) :: c) q → q[i]? = some (some (n, t)) ∧ Pd s ps w fx n c q := by
    rintro i t hi hk ⟨o, e, l⟩
    have e0 := e _ List.mem_cons_self
    refine ⟨e0, o, fun z hz => e z (List.mem_cons_of_mem _ hz), fun j hj hjn pl hq => ?_⟩
    by_cases hji : j = i
    · subst hji
      rw [e0] at hq
      cases hq
      exact Nat.le_refl _
    · have := l j hj (by rw [List.map_cons, List.mem_cons]; exact fun z => z.elim hji hjn) pl hq
      omega
  by_cases A : ∃ i0 t0, i0 ∈ w ∧ i0 ∉ k.1 ∧ q[i0]? = some (some (n, t0)) ∧ Pd s ps w fx n c q
  · obtain ⟨i0, t0, h1, h2, h3, h4⟩ := A
    obtain ⟨o, e, l⟩ := id h4
    have hne : ¬ Pd s ps w fx (n + 1) c q := fun z => by
      have := z.2.2 i0 h1 (fun z => h2 ((C.idx i0).mpr z)) _ h3
      dsimp only at this
      omega
    have ht : t0 ∈ standsB (plugAt ps i0) := by
      obtain ⟨pl, hp, hq⟩ := F.on i0 h1
      rw [h3] at hq
      cases hq
      exact (mem_places.mp hp).2
    have hg : goes s ps fx n k.2 i0 t0 = true := by
      unfold goes
      rw [o.fix i0 _ h1 h3, Bool.and_true, decide_eq_true_eq]
      rcases C.hd with ⟨_, z⟩ | ⟨z, r, rfl, hz⟩
      · rw [z]; exact beg_lo P (W i0 h1) hn
      · rw [hz]
        exact over_of o.right F.len (e z List.mem_cons_self) h3 (C.each z List.mem_cons_self).2.1
    have hp : Pd s ps w fx (n + 1) ((i0, (n, t0)) :: c) q := by
      refine ⟨o, fun z hz => ?_, fun j hj hjn pl hq => ?_⟩
      · rcases List.mem_cons.mp hz with rfl | hz
        · exact h3
        · exact e z hz
      · rw [List.map_cons, List.mem_cons] at hjn
        have g1 := l j hj (fun z => hjn (.inr z)) pl hq
        have g2 := sock_of o.right hq h3 fun z => hjn (.inl z)
        dsimp only at g2
        omega
    rw [io_pos h4, io_neg hne, sum_one (a := i0) (hw.imp fun z => Nat.ne_of_lt z) h1]
    · rfl
    · rw [if_neg h2, sum_one (a := t0) (stands_nodup _) ht]
      · rw [if_pos hg, io_pos hp]
      · intro t _ htn
        split
        · refine io_neg fun z => htn ?_
          have := (dn h1 h2 z).1
          rw [h3] at this
          cases this
          rfl
        · rfl
    · intro i hi hin
      by_cases hk : i ∈ k.1
      · rw [if_pos hk]
      · rw [if_neg hk]
        refine sum_allz fun t _ => ?_
        split
        · exact io_neg fun z => sock_of o.right (dn hi hk z).1 h3 hin rfl
        · rfl
  · have hz : (w.map fun i => if i ∈ k.1 then 0 else ((standsB (plugAt ps i)).map fun t => if goes s ps fx n k.2 i t = true then io (Pd s ps w fx (n + 1) ((i, (n, t)) :: c) q) else 0).sum).sum = 0 := by
      refine sum_allz fun i hi => ?_
      by_cases hk : i ∈ k.1
      · rw [if_pos hk]
      · rw [if_neg hk]
        refine sum_allz fun t _ => ?_
        split
        · exact io_neg fun z => A ⟨i, t, hi, hk, dn hi hk z⟩
        · rfl
    rw [hz, Int.add_zero]
    refine io_iff ⟨fun z => ⟨z.1, z.2.1, fun i hi hin pl hq => ?_⟩, fun z => ⟨z.1, z.2.1, late_up z.2.2⟩⟩
    have g1 := z.2.2 i hi hin pl hq
    have g2 : pl.1 ≠ n := fun e => A ⟨i, pl.2, hi, fun y => hin ((C.idx i).mp y), by rw [← e]; exact hq, z⟩
    omega
theorem at_some {c : Chn} {i : Nat} {pl : Place} (h : fixAt c i = some pl) : (i, pl) ∈ c := by
  unfold fixAt at h
  cases q : c.find? fun z => decide (z.1 = i) with
  | none => rw [q] at h; cases h
  | some z =>
    rw [q] at h
    cases h
    have h1 := List.mem_of_find?_eq_some q
    have h2 : z.1 = i := by have h3 := List.find?_some q; exact of_decide_eq_true h3
    rw [← h2]
    exact h1
theorem at_none {c : Chn} {i : Nat} (h : fixAt c i = none) : i ∉ c.map (·.1) := by
  unfold fixAt at h
  rw [Option.map_eq_none_iff, List.find?_eq_none] at h
  intro z
  obtain ⟨y, hy, e⟩ := List.mem_map.mp z
  exact h y hy (decide_eq_true e)
theorem at_mem {c : Chn} (nd : c.Pairwise fun a b => b.1 ≠ a.1) {z : Nat × Place} (hz : z ∈ c) : fixAt c z.1 = some z.2 := by
  cases q : fixAt c z.1 with
  | none => exact absurd (List.mem_map_of_mem hz) (at_none q)
  | some pl =>
    have h := at_some q
    rcases pw_mem nd hz h with e | e | e
    · rw [e]
    · exact absurd rfl e
    · exact absurd rfl e
def planC (ps : List Plug) (c : Chn) : Plan := (List.range ps.length).map (fixAt c)
theorem planC_get {c : Chn} {i : Nat} (hi : i < ps.length) : (planC ps c)[i]? = some (fixAt c i) := by
  unfold planC
  rw [List.getElem?_map, List.getElem?_range hi]; rfl
theorem planC_some {c : Chn} {i : Nat} {x : Place} (h : (planC ps c)[i]? = some (some x)) : (i, x) ∈ c := by
  have hi : i < ps.length := by have := (List.getElem?_eq_some_iff.mp h).1; unfold planC at this; rwa [List.length_map, List.length_range] at this
  rw [planC_get hi] at h
  cases h' : fixAt c i with
  | none => rw [h'] at h; cases h
  | some y => rw [h'] at h; cases h; exact at_some h'
theorem Ch.nd {n : Nat} {k : LK} {c : Chn} (h : Ch s ps w fx n k c) : c.Pairwise fun a b => b.1 ≠ a.1 := h.pw.imp fun z => z.2.1
theorem chain_okay (P : PsOk s ps) {n : Nat} {k : LK} {c : Chn} (C : Ch s ps w fx n k c) : Okay s ps w fx (planC ps c) := by
  refine ⟨⟨fun i pl p h hp ht => ?_, fun i j x y hx hy hij => ?_, fun i j x y p q hx hy hp hq hij => ?_⟩, fun i pl _ h => (C.each _ (planC_some h)).2.2.2.1⟩
  · have e := (C.each _ (planC_some h)).2.2.1
    have hpp : plugAt ps i = p := by unfold plugAt; rw [List.getD_eq_getElem?_getD, hp]; rfl
    dsimp only at e
    rw [hpp] at e
    unfold standsB at e
    cases hc : canT p with
    | true => rfl
    | false => rw [hc] at e; simp at e; rw [e] at ht; cases ht
  · rcases pw_mem C.pw (planC_some hx) (planC_some hy) with e | e | e
    · cases e; omega
    · have := e.1; dsimp only at this; omega
    · have := e.1; dsimp only at this; omega
  · have hp1 : plugAt ps i = p := by unfold plugAt; rw [List.getD_eq_getElem?_getD, hp]; rfl
    have hq1 : plugAt ps j = q := by unfold plugAt; rw [List.getD_eq_getElem?_getD, hq]; rfl
    unfold apart
    rcases pw_mem C.pw (planC_some hx) (planC_some hy) with e | ⟨e1, _, e2⟩ | ⟨e1, _, e2⟩
    · cases e; omega
    · dsimp only at e1
      rw [if_neg (by omega), decide_eq_true_eq, ← hp1, ← hq1]
      exact e2
    · dsimp only at e1
      rw [if_pos e1, decide_eq_true_eq, ← hp1, ← hq1]
      exact e2
theorem base_num (P : PsOk s ps) (hw : w.Pairwise (· < ·)) (W : ∀ i ∈ w, i < ps.length) {k : LK} {c : Chn} (C : Ch s ps w fx s.length k c) :
    (if k.1 = w then (1 : Int) else 0) = num (allP s.length ps w) (Pd s ps w fx s.length c) := by
  unfold num
  by_cases hk : k.1 = w
  · rw [if_pos hk]
    have idx : ∀ x, x ∈ w ↔ x ∈ c.map (·.1) := fun x => hk ▸ C.idx x
    have ext : ExtC c (planC ps c) := fun z hz => by
      rw [planC_get (W _ (C.each z hz).1), at_mem C.nd hz]
    have full : Full s.length ps w (planC ps c) := by
      refine ⟨by unfold planC; rw [List.length_map, List.length_range], fun i hi => ?_, fun i hi hn => ?_⟩
      · obtain ⟨z, hz, rfl⟩ := List.mem_map.mp ((idx i).mp hi)
        have e := C.each z hz
        exact ⟨z.2, mem_places.mpr ⟨e.2.1, e.2.2.1⟩, ext z hz⟩
      · rw [planC_get hi]
        cases q : fixAt c i with
        | none => rfl
        | some y => exact absurd ((idx i).mpr (List.mem_map_of_mem (at_some q))) hn
    refine (sum_one (a := planC ps c) (allP_nodup hw W) ((mem_allP hw W).mpr full) (io_pos ⟨chain_okay P C, ext, fun i hi hn => absurd ((idx i).mp hi) hn⟩) fun q hq hne => io_neg fun z => hne ?_).symm
    have F := (mem_allP hw W).mp hq
    apply List.ext_getElem?
    intro i
    by_cases hi : i < ps.length
    · by_cases hiw : i ∈ w
      · obtain ⟨y, hy, rfl⟩ := List.mem_map.mp ((idx i).mp hiw)
        rw [z.2.1 y hy, ext y hy]
      · rw [F.off i hi hiw, full.off i hi hiw]
    · rw [List.getElem?_eq_none (by rw [F.len]; omega), List.getElem?_eq_none (by rw [full.len]; omega)]
  · rw [if_neg hk]
    refine (sum_allz fun q hq => io_neg fun z => hk (asc_ext C.asc hw fun x => ⟨fun hx => ?_, fun hx => ?_⟩)).symm
    · obtain ⟨y, hy, rfl⟩ := List.mem_map.mp ((C.idx x).mp hx)
      exact (C.each y hy).1
    · refine Classical.byContradiction fun hn => ?_
      obtain ⟨pl, hp, hq'⟩ := ((mem_allP hw W).mp hq).on x hx
      have := z.2.2 x hx (fun y => hn ((C.idx x).mpr y)) pl hq'
      have := (mem_places.mp hp).1
      omega
theorem back_num (P : PsOk s ps) (hw : w.Pairwise (· < ·)) (W : ∀ i ∈ w, i < ps.length) : ∀ (r n : Nat) (k : LK) (c : Chn), n + r = s.length → Ch s ps w fx n k c →
    back s ps w fx (fun k => if k.1 = w then 1 else 0) r n k = num (allP s.length ps w) (Pd s ps w fx n c)
  | 0, n, k, c, h, C => by
    have : n = s.length := by omega
    subst this
    exact base_num P hw W C
  | r + 1, n, k, c, h, C => by
    have hn : n < s.length := by omega
    unfold back
    rw [back_num P hw W r (n + 1) k c (by omega) C.mono]
    have e1 : mv s ps w fx n (back s ps w fx (fun k => if k.1 = w then 1 else 0) r (n + 1)) k = (w.map fun i => if i ∈ k.1 then 0 else ((standsB (plugAt ps i)).map fun t => if goes s ps fx n k.2 i t = true then num (allP s.length ps w) (Pd s ps w fx (n + 1) ((i, (n, t)) :: c)) else 0).sum).sum := by
      unfold mv mvI
      refine sum_congrI fun i hi => ?_
      by_cases hk : i ∈ k.1
      · rw [if_pos hk, if_pos hk]
      · rw [if_neg hk, if_neg hk]
        refine sum_congrI fun t ht => ?_
        unfold mvT
        by_cases hg : goes s ps fx n k.2 i t = true
        · rw [if_pos hg, if_pos hg, back_num P hw W r (n + 1) _ _ (by omega) (C.add P W hi hk ht hg)]
        · rw [if_neg hg, if_neg hg]
    rw [e1]
    unfold num
    rw [sum_congrI fun q hq => io_step P hw W hn C ((mem_allP hw W).mp hq), sum_addI]
    congr 1
    rw [sum_commI (fun q i => if i ∈ k.1 then 0 else ((standsB (plugAt ps i)).map fun t => if goes s ps fx n k.2 i t = true then io (Pd s ps w fx (n + 1) ((i, (n, t)) :: c) q) else 0).sum)]
    refine sum_congrI fun i _ => ?_
    by_cases hk : i ∈ k.1
    · simp only [if_pos hk]
      exact (sum_zeroI _).symm
    · simp only [if_neg hk]
      rw [sum_commI (fun q t => if goes s ps fx n k.2 i t = true then io (Pd s ps w fx (n + 1) ((i, (n, t)) :: c) q) else 0)]
      refine sum_congrI fun t _ => ?_
      by_cases hg : goes s ps fx n k.2 i t = true
      · simp only [if_pos hg]
      · simp only [if_neg hg]
        exact (sum_zeroI _).symm
theorem ch0 : Ch s ps w fx 0 ([], -1000) [] := ⟨.nil, (fun x => by simp), .inl ⟨rfl, rfl⟩, (fun z hz => by cases hz), .nil⟩
theorem cnt_num (P : PsOk s ps) (hw : w.Pairwise (· < ·)) (W : ∀ i ∈ w, i < ps.length) : cnt w (layers s ps w fx s.length) = num (allP s.length ps w) (Okay s ps w fx) := by
  rw [cnt_back P W, back_num P hw W _ _ _ _ (by omega) ch0]
  unfold num
  exact sum_congrI fun q _ => io_iff ⟨fun z => z.1, fun z => ⟨z, (fun y hy => by cases hy), fun i _ _ pl _ => Nat.zero_le _⟩⟩
end
section
variable (s : List Int) (ps : List Plug) (w : List Nat) (fx : Fix)
def fixB (q : Plan) : Bool := w.all fun i => match q[i]? with
  | some (some pl) => fixOk fx i pl
  | _ => true
def okayB (q : Plan) : Bool := Dl.isNon (fault s ps q) && fixB w fx q
def vals : List Plan := (allP s.length ps w).filter (okayB s ps w fx)
end
section
variable {s : List Int} {ps : List Plug} {w : List Nat} {fx : Fix}
theorem fixB_iff {q : Plan} : fixB w fx q = true ↔ ∀ i pl, i ∈ w → q[i]? = some (some pl) → fixOk fx i pl = true := by
  unfold fixB
  rw [List.all_eq_true]
  constructor
  · intro h i pl hi e
    have := h i hi
    rw [e] at this
    exact this
  · intro h i hi
    split
    · rename_i pl e; exact h i pl hi e
    · rfl
theorem okayB_iff {q : Plan} (hlen : q.length = ps.length) : okayB s ps w fx q = true ↔ Okay s ps w fx q := by
  unfold okayB
  rw [Bool.and_eq_true_iff, fault_iff hlen, fixB_iff]
  exact ⟨fun h => ⟨h.1, h.2⟩, fun h => ⟨h.1, h.2⟩⟩
theorem num_filter {U : List Plan} {P : Plan → Prop} {b : Plan → Bool} (h : ∀ q ∈ U, b q = true ↔ P q) : num U P = ((U.filter b).length : Int) := by
  unfold num
  induction U with
  | nil => rfl
  | cons q U ih =>
    rw [List.map_cons, List.sum_cons, ih fun q hq => h q (List.mem_cons_of_mem _ hq)]
    have hq := h q List.mem_cons_self
    cases e : b q with
    | true => rw [List.filter_cons_of_pos e, io_pos (hq.mp e), List.length_cons]; omega
    | false => rw [List.filter_cons_of_neg (by rw [e]; exact Bool.false_ne_true), io_neg fun z => by rw [hq.mpr z] at e; cases e]; omega
theorem cnt_vals (P : PsOk s ps) (hw : w.Pairwise (· < ·)) (W : ∀ i ∈ w, i < ps.length) : cnt w (layers s ps w fx s.length) = ((vals s ps w fx).length : Int) := by
  rw [cnt_num P hw W]
  exact num_filter fun q hq => okayB_iff ((mem_allP hw W).mp hq).len
theorem count_run (P : PsOk s ps) (hw : w.Pairwise (· < ·)) (W : ∀ i ∈ w, i < ps.length) : F_count_of [stripD s, plugsD ps, .tup (w.map nD), .dcK (fixD fx)] = some (.ok (.int ((vals s ps w fx).length : Int))) := by
  rw [count_of_run P W, cnt_vals P hw W]
end
abbrev badPlugs (d : D) : Exn := ⟨"BadPlugs", [("index", d)]⟩
abbrev bare (c : Str) : Exn := ⟨c, []⟩
theorem asBls_mapQ {α : Type} (f : α → Bool) : ∀ l : List α, asBls (l.map fun a => D.bl (f a)) = some (l.map f)
  | [] => rfl
  | a :: l => by
    show (asBls (l.map fun a => D.bl (f a))).map (f a :: ·) = _
    rw [asBls_mapQ f l]; rfl
theorem all_mapQ {α : Type} (f : α → Bool) (l : List α) : oAllL (l.map fun a => D.bl (f a)) = some (.bl (l.all f)) := by
  unfold oAllL
  rw [asBls_mapQ]
  show some (D.bl ((l.map f).all id)) = _
  rw [List.all_map]; rfl
theorem enum_cons (d : D) (ds : List D) (k : Nat) : ((d :: ds).mapIdx fun i e => pairI (k + i) e) = pairI k d :: ds.mapIdx fun i e => pairI (k + 1 + i) e := by
  rw [List.mapIdx_cons]
  congr 1
  apply List.mapIdx_eq_mapIdx_iff.mpr
  intro i hi
  rw [Nat.add_assoc, Nat.add_comm 1 i]
theorem enum_zero (ds : List D) : enumD ds = ds.mapIdx fun i e => pairI (0 + i) e := by
  unfold enumD
  apply List.mapIdx_eq_mapIdx_iff.mpr
  intro i hi
  rw [Nat.zero_add]
theorem check_bd_ok {v m d : D} {k : Nat} (h : F_is_plug [d] = some (.ok (.bl true))) : bd_check_plugs_2_1 [some (SV.val (v)), some (SV.val (m)), some (SV.val (.int (k : Int))), some (SV.val (d))] [] = .next [some (SV.val (v)), some (SV.val (m)), some (SV.val (.int (k : Int))), some (SV.val (d))] [] := by
  unfold bd_check_plugs_2_1
  push_cast [h]
theorem check_bd_bad {v m d : D} {k : Nat} (h : F_is_plug [d] = some (.ok (.bl false))) : bd_check_plugs_2_1 [some (SV.val (v)), some (SV.val (m)), some (SV.val (.int (k : Int))), some (SV.val (d))] [] = .exc (badPlugs (.int (k : Int))) [some (SV.val (v)), some (SV.val (m)), some (SV.val (.int (k : Int))), some (SV.val (d))] [] := by
  unfold bd_check_plugs_2_1
  push_cast [h]
abbrev tgEn (i j : Nat) : FG := gT 2 (gsCons (gN i) (gsCons (gN j) gsNil))
theorem tgEn_run {v m d : D} {x y : Option SV} {k : Nat} : tgEn 2 3 (pairI k d) [some (SV.val (v)), some (SV.val (m)), x, y] = some [some (SV.val (v)), some (SV.val (m)), some (SV.val (.int (k : Int))), some (SV.val (d))] := rfl
theorem check_loop_bad {v m bad : D} {post : List D} (hb : F_is_plug [bad] = some (.ok (.bl false))) : ∀ (pre : List D) (k : Nat) (x y : Option SV), (∀ d ∈ pre, F_is_plug [d] = some (.ok (.bl true))) →
    ∃ ρ', forL (tgEn 2 3) bd_check_plugs_2_1 ((pre ++ bad :: post).mapIdx fun i e => pairI (k + i) e) [some (SV.val (v)), some (SV.val (m)), x, y] [] = .exc (badPlugs (.int ((k + pre.length : Nat) : Int))) ρ' []
  | [], k, x, y, _ => by
    rw [List.nil_append, enum_cons]
    exact ⟨_, forL_exc tgEn_run (check_bd_bad hb)⟩
  | d :: pre, k, x, y, h => by
    rw [List.cons_append, enum_cons, forL_next tgEn_run (check_bd_ok (h d List.mem_cons_self))]
    obtain ⟨ρ', e⟩ := check_loop_bad (post := post) hb pre (k + 1) (some (.val (.int (k : Int)))) (some (.val d)) fun d' hd => h d' (List.mem_cons_of_mem _ hd)
    refine ⟨ρ', e.trans ?_⟩
    rw [List.length_cons, Nat.add_right_comm, Nat.add_assoc]
theorem check_loop_ok {v m : D} : ∀ (pre : List D) (k : Nat) (x y : Option SV), (∀ d ∈ pre, F_is_plug [d] = some (.ok (.bl true))) →
    ∃ ρ', forL (tgEn 2 3) bd_check_plugs_2_1 (pre.mapIdx fun i e => pairI (k + i) e) [some (SV.val (v)), some (SV.val (m)), x, y] [] = .next ρ' []
  | [], k, x, y, _ => ⟨_, rfl⟩
  | d :: pre, k, x, y, h => by
    rw [enum_cons, forL_next tgEn_run (check_bd_ok (h d List.mem_cons_self))]
    exact check_loop_ok pre (k + 1) _ _ fun d' hd => h d' (List.mem_cons_of_mem _ hd)
theorem check_plugs_bad {pre post : List D} {bad : D} {most : Int} (hpre : ∀ d ∈ pre, F_is_plug [d] = some (.ok (.bl true))) (hb : F_is_plug [bad] = some (.ok (.bl false))) (hl : ((pre ++ bad :: post).length : Int) ≤ most) :
    F_check_plugs_2 [.tup (pre ++ bad :: post), .int most] = some (.error (badPlugs (.int (pre.length : Int)))) := by
  unfold F_check_plugs_2
  rw [fnP_run (by rfl)]
  unfold f_check_plugs_2
  have h1 : decide ((1 : Int) ≤ ((pre ++ bad :: post).length : Int)) = true := by simp; omega
  have h2 : decide (((pre ++ bad :: post).length : Int) ≤ most) = true := decide_eq_true hl
  obtain ⟨ρ', e⟩ := check_loop_bad (v := .tup (pre ++ bad :: post)) (m := .int most) (post := post) hb pre 0 none none hpre
  rw [← enum_zero, Nat.zero_add] at e
  push_cast [h1, h2, e]
theorem check_plugs_ok2 {ps : List Plug} {most : Int} (h : ∀ p ∈ ps, PlugOk p) (hne : ps ≠ []) (hl : (ps.length : Int) ≤ most) : F_check_plugs_2 [plugsD ps, .int most] = some (.ok .non) := by
  unfold F_check_plugs_2
  rw [fnP_run (by rfl)]
  unfold f_check_plugs_2 plugsD
  have h1 : decide ((1 : Int) ≤ (ps.length : Int)) = true := by
    cases ps with
    | nil => exact absurd rfl hne
    | cons a b => simp; omega
  have h2 : decide ((ps.length : Int) ≤ most) = true := decide_eq_true hl
  obtain ⟨ρ', e⟩ := check_loop_ok (v := .tup (ps.map encP)) (m := .int most) (ps.map encP) 0 none none (fun d hd => by
    obtain ⟨p, hp, rfl⟩ := List.mem_map.mp hd
    exact is_plug_run (h p hp))
  rw [← enum_zero] at e
  push_cast [List.length_map, h1, h2, e]
section
variable {S P V U : D} {x : Exn}
end
section
variable {S P V U : D} {w : Int}
end
theorem atI_mem {xs : List D} {r : Int} (h0 : 0 ≤ r) (h : r < xs.length) : ∃ d, d ∈ xs ∧ atI xs r = some d := by
  have hl : r.toNat < xs.length := by omega
  exact ⟨xs[r.toNat], List.getElem_mem hl, by rw [atI_get' h0, List.getElem?_eq_getElem hl]⟩
theorem strip_init2 {s : List Int} (h : Socks s) (hl : s.length ≤ 9) : F_Strip_d__init_d__2 [.own 0, .val (socksD s)] [some (.ins "Strip" [])] = .ok (.val .non) [some (.ins "Strip" [("rows", socksD s)])] := by
  have h1 : decide ((1 : Int) ≤ (s.length : Int)) = true := by
    have : s.length ≠ 0 := fun z => h.ne (List.eq_nil_of_length_eq_zero z)
    simp; omega
  have h2 : decide ((s.length : Int) ≤ 9) = true := by simp; omega
  have e9 : itSeq (socksD s) = some (s.map D.int) := rfl
  have e10 : slD (some 1) none (socksD s) = some (.tup ((s.map D.int).drop 1)) := cut1 _
  have e11 : ∀ x, itZ (socksD s) (.tup x) = some (zipD (s.map D.int) x) := fun x => rfl
  have e5 : lc_Strip_d__init_d__2_1 [some (SV.own 0), some (SV.val (socksD s)), none, none] [some (.ins "Strip" [])] = .ok (.lst (List.replicate (s.map D.int).length (.bl true))) [some (.ins "Strip" [])] := by
    unfold lc_Strip_d__init_d__2_1
    push_cast [e9]
    exact lcL_true (by rw [List.length_map]; show _ ≤ 16777216; omega) (fun d hd => by
      refine ⟨_, rfl, ?_⟩
      obtain ⟨x, hx, rfl⟩ := List.mem_map.mp hd
      have e : F_is_from [.int x, .int 0, .int 300] = some (.ok (.bl true)) := by rw [is_from_run, decide_eq_true (h.rg x hx)]
      push_cast [e])
  have e6 : lc_Strip_d__init_d__2_2 [some (SV.own 0), some (SV.val (socksD s)), none, none] [some (.ins "Strip" [])] = .ok (.lst (List.replicate (zipD (s.map D.int) ((s.map D.int).drop 1)).length (.bl true))) [some (.ins "Strip" [])] := by
    unfold lc_Strip_d__init_d__2_2
    push_cast [e10, e11]
    exact lcL_true (by unfold zipD; rw [List.length_zipWith, List.length_map]; show _ ≤ 16777216; omega) (fun d hd => by
      obtain ⟨a, b, rfl, hab⟩ := zip_tail s h.asc d hd
      refine ⟨_, rfl, ?_⟩
      push_cast [decide_eq_true hab])
  unfold F_Strip_d__init_d__2
  rw [fnE_run (by rfl)]
  unfold f_Strip_d__init_d__2
  have e7 : oLen [socksD s] = some (.int s.length) := by unfold socksD; rw [oLen_tup, List.length_map]
  have e8 : isiD "tuple" (socksD s) = some (.bl true) := isi_tuple_tup _
  push_cast [h1, h2, e5, e6, e7, e8, oAllL_true]
  rfl
def oddP : List D := [.non, .tup [.int 1, .int 2], .lst [.int 1, .int 2, .bl true], .tup [.int 1, .int 2, .int 1], .tup [.int 61, .int 0, .bl true], .tup [.int 0, .int (-1), .bl false], .tup [.bl true, .int 0, .bl false], .tup [.int 0, .int 0, .non], .str "plug"]
theorem oddP_bad {d : D} (h : d ∈ oddP) : F_is_plug [d] = some (.ok (.bl false)) := by
  unfold oddP at h
  simp only [List.mem_cons, List.not_mem_nil, or_false] at h
  rcases h with rfl | rfl | rfl | rfl | rfl | rfl | rfl | rfl | rfl <;> rfl
theorem odd_plug {ns : List Int} {rest ω : Om} (h : IsRow ns rest ω) : ∃ d ω', IsRow ns rest ω' ∧ d ∈ oddP ∧ F__law_odd_plug [.own 0] ω = .ok (.val d) ω' := by
  obtain ⟨r, ω1, w1, a1, b1, e1⟩ := pick (m := 9) h (by decide) (by decide)
  obtain ⟨d, hd, e2⟩ := atI_mem (xs := oddP) a1 b1
  refine ⟨d, ω1, w1, hd, ?_⟩
  unfold F__law_odd_plug
  rw [fnE_run (by rfl)]
  unfold f__law_odd_plug
  unfold oddP at e2
  push_cast [e1, e2, row_take h w1]
section
variable {s : List Int} {ps : List Plug} {plan : Plan}
structure PlsOk (ps : List Plug) : Prop where
  ok : ∀ p ∈ ps, PlugOk p
  ne : ps ≠ []
  len : ps.length ≤ 5
theorem PlsOk.chk (h : PlsOk ps) : F_check_plugs_2 [plugsD ps, .int 5] = some (.ok .non) := check_plugs_ok2 h.ok h.ne (by have := h.len; omega)
end
section
variable {s : List Int} {ps : List Plug} {w : List Nat} {fx : Fix}
abbrev allW (ps : List Plug) : List Nat := List.range ps.length
theorem allW_asc : (allW ps).Pairwise (· < ·) := List.pairwise_lt_range
theorem allW_lt : ∀ i ∈ allW ps, i < ps.length := fun i hi => List.mem_range.mp hi
theorem everyone_run (hl : ps.length ≤ 100) : F_everyone [plugsD ps] = some (.ok (.tup ((allW ps).map nD))) := by
  unfold F_everyone
  rw [fnP_run (by rfl)]
  unfold f_everyone
  push_cast [len_plugs, rgD_run (show ps.length ≤ 1000000 by omega)]
  rfl
abbrev rightP (s : List Int) (ps : List Plug) : List Plan := vals s ps (allW ps) []
end
theorem places_len (n : Nat) (p : Plug) : (placesN n p).length ≤ 2 * n := by
  induction n with
  | zero => simp [placesN]
  | succ i ih =>
    unfold placesN at ih ⊢
    rw [List.range_succ, List.flatMap_append, List.length_append]
    have : ([i].flatMap fun i => if canT p then [(i, false), (i, true)] else [(i, false)]).length ≤ 2 := by cases canT p <;> simp
    omega
theorem forL_foldI {tg : FG} {b : FS} {α β : Type} (f : α → D) (step : β → α → β) (I : Nat → β → Rho → Om → Prop) : ∀ (xs : List α) (n : Nat) (s : β) (ρ : Rho) (ω : Om), I n s ρ ω →
    (∀ m s x ρ ω, x ∈ xs → m < n + xs.length → I m s ρ ω → ∃ ρ1 ρ2 ω2, tg (f x) ρ = some ρ1 ∧ b ρ1 ω = .next ρ2 ω2 ∧ I (m + 1) (step s x) ρ2 ω2) → ∃ ρ' ω', forL tg b (xs.map f) ρ ω = .next ρ' ω' ∧ I (n + xs.length) (xs.foldl step s) ρ' ω'
  | [], n, s, ρ, ω, h, _ => ⟨ρ, ω, rfl, h⟩
  | x :: xs, n, s, ρ, ω, h, hs => by
    obtain ⟨ρ1, ρ2, ω2, h1, h2, h3⟩ := hs n s x ρ ω List.mem_cons_self (by rw [List.length_cons]; omega) h
    obtain ⟨ρ', ω', h4, h5⟩ := forL_foldI f step I xs (n + 1) (step s x) ρ2 ω2 h3 fun m s y ρ ω hy hm => hs m s y ρ ω (List.mem_cons_of_mem _ hy) (by rw [List.length_cons]; omega)
    refine ⟨ρ', ω', by rw [List.map_cons, forL_next h1 h2]; exact h4, ?_⟩
    rw [List.length_cons, List.foldl_cons, show n + (xs.length + 1) = n + 1 + xs.length by omega]
    exact h5
section
variable {s : List Int} {ps : List Plug} {w : List Nat} {sd : D}
def rightB (s : List Int) (ps : List Plug) (q : Plan) : Bool := Dl.isNon (fault s ps q)
def pl1 (s : List Int) (ps : List Plug) (k : Nat) (one : Plan) (acc : List Plan) (pl : Place) : List Plan := if rightB s ps (one.set k (some pl)) = true then acc ++ [one.set k (some pl)] else acc
def pl2 (s : List Int) (ps : List Plug) (k : Nat) (acc : List Plan) (one : Plan) : List Plan := (placesN s.length (plugAt ps k)).foldl (pl1 s ps k one) acc
def pl3 (s : List Int) (ps : List Plug) (rows : List Plan) (k : Nat) : List Plan := rows.foldl (pl2 s ps k) []
theorem setP_set {q : Plan} {k : Nat} {o : Option Place} (h : k < q.length) : setP q k o = q.set k o := by
  unfold setP
  rw [List.set_eq_take_append_cons_drop, if_pos h, List.append_assoc]; rfl
structure RowsOk (s : List Int) (ps : List Plug) (rows : List Plan) : Prop where
  len : ∀ q ∈ rows, q.length = ps.length
  ok : ∀ q ∈ rows, PlanOk s.length q
abbrev plaR (s : List Int) (ps : List Plug) (sd : D) (rows : List Plan) (x4 x5 x6 x7 x8 : Option SV) : Rho := [some (SV.val (socksD s)), some (SV.val (plugsD ps)), some (SV.val (sd)), some (SV.val (.lst (rows.map planD))), x4, x5, x6, x7, x8]
theorem pla_bd1 {rows acc : List Plan} {one : Plan} {k : Nat} {pl : Place} {pre : Om} {x8 : Option SV} (h100 : ps.length ≤ 100) (hk : k < ps.length) (ho : one.length = ps.length) (hp : PlanOk s.length one) (hpl : pl.1 < s.length) (hl : acc.length < lim) :
    ∃ y8, bd__law_placings_1 (plaR s ps sd rows (iV k) (some (.own pre.length)) (some (.val (planD one))) (some (.val (encL pl))) x8) (pre ++ [some (.lst (acc.map planD))]) = .next (plaR s ps sd rows (iV k) (some (.own pre.length)) (some (.val (planD one))) (some (.val (encL pl))) y8) (pre ++ [some (.lst ((pl1 s ps k one acc pl).map planD))]) := by
  have hko : k < one.length := by omega
  have hput := put_run (plan := one) (k := k) (d := encL pl) (o := some pl) rfl hko (by omega) (i := 6) (j := 4) (m := 7) (ρ := plaR s ps sd rows (iV k) (some (.own pre.length)) (some (.val (planD one))) (some (.val (encL pl))) x8) (ω := pre ++ [some (.lst (acc.map planD))]) rfl rfl rfl
  rw [setP_set hko] at hput
  have hf := law_fault_run (s := s) (ps := ps) (plan := one.set k (some pl)) (by rw [List.length_set]; exact ho) (by rw [← setP_set hko]; exact setP_ok hp fun x e => by cases e; exact hpl) (by rw [List.length_set]; omega)
  refine ⟨some (.val (planD (one.set k (some pl)))), ?_⟩
  unfold bd__law_placings_1 pl1 rightB
  rw [sSeq_run, sSet_run, hput]
  have hll : (acc.map planD).length < lim := by rw [List.length_map]; exact hl
  cases hr : Dl.isNon (fault s ps (one.set k (some pl))) with
  | true =>
    rw [if_pos rfl, List.map_append]
    push_cast [plaR, iV, hf, hr, app_get', app_set, hll]
    done
  | false =>
    rw [if_neg Bool.false_ne_true]
    push_cast [plaR, iV, hf, hr]
    done
theorem pl1_len {k : Nat} {one : Plan} {acc : List Plan} {pl : Place} : (pl1 s ps k one acc pl).length ≤ acc.length + 1 := by
  unfold pl1
  split
  · rw [List.length_append]; exact Nat.le_refl _
  · omega
theorem pl2_eq {k : Nat} {one : Plan} : ∀ (l : List Place) (acc : List Plan), l.foldl (pl1 s ps k one) acc = acc ++ (l.map fun pl => one.set k (some pl)).filter (rightB s ps)
  | [], acc => by simp
  | pl :: l, acc => by
    rw [List.foldl_cons, pl2_eq l, List.map_cons]
    unfold pl1
    cases h : rightB s ps (one.set k (some pl)) with
    | true => rw [if_pos rfl, List.filter_cons_of_pos h, List.append_assoc]; rfl
    | false => rw [if_neg Bool.false_ne_true, List.filter_cons_of_neg (by rw [h]; exact Bool.false_ne_true)]
theorem pl3_eq {k : Nat} {rows : List Plan} : pl3 s ps rows k = (addP s.length ps k rows).filter (rightB s ps) := by
  unfold pl3 addP
  have : ∀ (l acc : List Plan), l.foldl (pl2 s ps k) acc = acc ++ (l.flatMap fun one => (placesN s.length (plugAt ps k)).map fun pl => one.set k (some pl)).filter (rightB s ps) := fun l => by
    induction l with
    | nil => intro acc; simp
    | cons one l ih =>
      intro acc
      rw [List.foldl_cons, ih, List.flatMap_cons, List.filter_append]
      unfold pl2
      rw [pl2_eq, List.append_assoc]
  rw [this, List.nil_append]
theorem addP_len {k : Nat} {rows : List Plan} : (addP s.length ps k rows).length ≤ rows.length * (2 * s.length) := by
  unfold addP
  induction rows with
  | nil => simp
  | cons one rows ih =>
    rw [List.flatMap_cons, List.length_append, List.length_map, List.length_cons, Nat.succ_mul]
    have := places_len s.length (plugAt ps k)
    omega
theorem pl3_len {k : Nat} {rows : List Plan} : (pl3 s ps rows k).length ≤ rows.length * (2 * s.length) := by
  rw [pl3_eq]
  exact Nat.le_trans (List.length_filter_le _ _) addP_len
theorem rows_ok {k : Nat} {rows : List Plan} (hk : k < ps.length) (R : RowsOk s ps rows) : RowsOk s ps (pl3 s ps rows k) := by
  rw [pl3_eq]
  have : ∀ q ∈ (addP s.length ps k rows).filter (rightB s ps), ∃ one pl, one ∈ rows ∧ pl ∈ placesN s.length (plugAt ps k) ∧ q = one.set k (some pl) := fun q hq => by
    obtain ⟨h1, _⟩ := List.mem_filter.mp hq
    unfold addP at h1
    obtain ⟨one, ho, h⟩ := List.mem_flatMap.mp h1
    obtain ⟨pl, hp, rfl⟩ := List.mem_map.mp h
    exact ⟨one, pl, ho, hp, rfl⟩
  refine ⟨fun q hq => ?_, fun q hq => ?_⟩
  · obtain ⟨one, pl, ho, hp, rfl⟩ := this q hq
    rw [List.length_set]; exact R.len one ho
  · obtain ⟨one, pl, ho, hp, rfl⟩ := this q hq
    rw [← setP_set (by rw [R.len one ho]; exact hk)]
    exact setP_ok (R.ok one ho) fun x e => by cases e; exact (mem_places.mp hp).1
theorem pla_bd2 {rows acc : List Plan} {one : Plan} {k : Nat} {pre : Om} {x7 x8 : Option SV} (h100 : ps.length ≤ 100) (hs : s.length ≤ 100) (hk : k < ps.length) (ho : one.length = ps.length) (hp : PlanOk s.length one) (hl : acc.length + 2 * s.length ≤ lim) :
    ∃ y7 y8, bd__law_placings_2 (plaR s ps sd rows (iV k) (some (.own pre.length)) (some (.val (planD one))) x7 x8) (pre ++ [some (.lst (acc.map planD))]) = .next (plaR s ps sd rows (iV k) (some (.own pre.length)) (some (.val (planD one))) y7 y8) (pre ++ [some (.lst ((pl2 s ps k acc one).map planD))]) := by
  have e1 := getP (plug_at hk)
  have hpl := places_len s.length (plugAt ps k)
  obtain ⟨ρ', ω', e, hlen, x7', x8', rfl, rfl⟩ := forL_foldI (tg := gN 7) (b := bd__law_placings_1) encL (pl1 s ps k one) (fun m a ρ ω => a.length ≤ acc.length + m ∧ ∃ x7 x8, ρ = plaR s ps sd rows (iV k) (some (.own pre.length)) (some (.val (planD one))) x7 x8 ∧ ω = pre ++ [some (.lst (a.map planD))])
    (placesN s.length (plugAt ps k)) 0 acc (plaR s ps sd rows (iV k) (some (.own pre.length)) (some (.val (planD one))) x7 x8) (pre ++ [some (.lst (acc.map planD))]) ⟨by omega, x7, x8, rfl, rfl⟩ (by
    rintro m a pl ρ ω hm hlt ⟨ha, x7, x8, rfl, rfl⟩
    obtain ⟨y8, e⟩ := pla_bd1 (sd := sd) (rows := rows) (acc := a) (pl := pl) (pre := pre) (x8 := x8) h100 hk ho hp (mem_places.mp hm).1 (by omega)
    exact ⟨_, _, _, rfl, e, by have := pl1_len (s := s) (ps := ps) (k := k) (one := one) (acc := a) (pl := pl); omega, _, _, rfl, rfl⟩)
  refine ⟨x7', x8', ?_⟩
  unfold bd__law_placings_2
  push_cast [plaR, iV, plugsD, e1, law_places_eq _ hs]
  exact e
theorem pla_bd3 {rows : List Plan} {k : Nat} {pre : Om} {x5 x6 x7 x8 : Option SV} (h100 : ps.length ≤ 100) (hs : s.length ≤ 100) (hk : k < ps.length) (R : RowsOk s ps rows) (hl : rows.length * (2 * s.length) ≤ lim) :
    ∃ y5 y6 y7 y8, bd__law_placings_3 (plaR s ps sd rows (iV k) x5 x6 x7 x8) pre = .next (plaR s ps sd (pl3 s ps rows k) (iV k) y5 y6 y7 y8) (pre ++ [none]) := by
  obtain ⟨ρ', ω', e, hlen, x6', x7', x8', rfl, rfl⟩ := forL_foldI (tg := gN 6) (b := bd__law_placings_2) planD (pl2 s ps k) (fun m a ρ ω => a.length ≤ m * (2 * s.length) ∧ ∃ x6 x7 x8, ρ = plaR s ps sd rows (iV k) (some (.own pre.length)) x6 x7 x8 ∧ ω = pre ++ [some (.lst (a.map planD))])
    rows 0 [] (plaR s ps sd rows (iV k) (some (.own pre.length)) x6 x7 x8) (pre ++ [some (.lst [])]) ⟨Nat.zero_le _, x6, x7, x8, rfl, rfl⟩ (by
    rintro m a one ρ ω hm hlt ⟨ha, x6, x7, x8, rfl, rfl⟩
    have hmul : (m + 1) * (2 * s.length) ≤ rows.length * (2 * s.length) := Nat.mul_le_mul_right _ (by omega)
    rw [Nat.succ_mul] at hmul
    obtain ⟨y7, y8, e⟩ := pla_bd2 (sd := sd) (rows := rows) (acc := a) (pre := pre) (x7 := x7) (x8 := x8) h100 hs hk (R.len one hm) (R.ok one hm) (by omega)
    refine ⟨_, _, _, rfl, e, ?_, _, _, _, rfl, rfl⟩
    unfold pl2
    rw [pl2_eq, List.length_append, Nat.succ_mul]
    have h1 := List.length_filter_le (rightB s ps) ((placesN s.length (plugAt ps k)).map fun pl => one.set k (some pl))
    rw [List.length_map] at h1
    have := places_len s.length (plugAt ps k)
    omega)
  refine ⟨some (.val (.lst ((pl3 s ps rows k).map planD))), x6', x7', x8', ?_⟩
  unfold bd__law_placings_3
  push_cast [plaR, iV]
  have e' := e
  simp only [plaR, iV] at e'
  rw [e']
  push_cast []
  rw [sGf_own rfl (app_get' _ _), app_set]
  rfl
theorem placings_run (P : PsOk s ps) (hne : ps ≠ []) (hs : 0 < s.length) (W : ∀ i ∈ w, i < ps.length) (hb : (2 * s.length) ^ w.length ≤ lim) (hsd : itSeq sd = some (w.map nD)) : F__law_placings [socksD s, plugsD ps, sd] = some (.ok (.lst ((w.foldl (pl3 s ps) [List.replicate ps.length none]).map planD))) := by
  have hpl := P.len
  have hsl := P.sl
  have h0 : RowsOk s ps [List.replicate ps.length none] := ⟨fun q hq => by rw [List.mem_singleton.mp hq, List.length_replicate], fun q hq pl hpl => by
    rw [List.mem_singleton.mp hq] at hpl
    have := List.eq_of_mem_replicate hpl
    cases this⟩
  obtain ⟨ρ', ω', e, ⟨R, hlen⟩, x4, x5, x6, x7, x8, rfl⟩ := forL_foldI (tg := gN 4) (b := bd__law_placings_3) nD (pl3 s ps) (fun m rows ρ ω => (RowsOk s ps rows ∧ rows.length ≤ (2 * s.length) ^ m) ∧ ∃ x4 x5 x6 x7 x8, ρ = plaR s ps sd rows x4 x5 x6 x7 x8)
    w 0 [List.replicate ps.length none] (plaR s ps sd [List.replicate ps.length none] none none none none none) [] ⟨⟨h0, Nat.le_refl _⟩, _, _, _, _, _, rfl⟩ (by
    rintro m rows k ρ ω hk hlt ⟨⟨R, hl⟩, x4, x5, x6, x7, x8, rfl⟩
    have h1 : rows.length * (2 * s.length) ≤ (2 * s.length) ^ (m + 1) := by rw [Nat.pow_succ]; exact Nat.mul_le_mul_right _ hl
    have h2 : (2 * s.length) ^ (m + 1) ≤ (2 * s.length) ^ w.length := Nat.pow_le_pow_right (by omega) (by omega)
    obtain ⟨y5, y6, y7, y8, e⟩ := pla_bd3 (sd := sd) (pre := ω) (x5 := x5) (x6 := x6) (x7 := x7) (x8 := x8) (by omega) hsl (W k hk) R (by omega)
    exact ⟨_, _, _, rfl, e, ⟨rows_ok (W k hk) R, Nat.le_trans pl3_len h1⟩, _, _, _, _, _, rfl⟩)
  unfold F__law_placings
  rw [fnP_run (by rfl)]
  unfold f__law_placings
  have hpos : 0 < ps.length := List.length_pos_iff.mpr hne
  push_cast [len_plugs, mul_non hpos (show ps.length ≤ 100 by omega), hsd]
  have e' := e
  simp only [plaR, List.map_cons, List.map_nil] at e'
  rw [e']
  push_cast []
end
section
variable {s : List Int} {ps : List Plug} {w : List Nat}
theorem right_less {q : Plan} {k : Nat} {pl : Place} (hk : k < q.length) (hn : q[k]? = some none) (R : Right s ps (q.set k (some pl))) : Right s ps q := by
  have up : ∀ i x, q[i]? = some (some x) → (q.set k (some pl))[i]? = some (some x) := fun i x e => by
    rw [set_get hk, if_neg]
    · exact e
    · intro h; subst h; rw [hn] at e; cases e
  exact ⟨fun i x p h => R.turn i x p (up i x h), fun i j x y hx hy => R.sock i j x y (up i x hx) (up j y hy), fun i j x y p r hx hy => R.over i j x y p r (up i x hx) (up j y hy)⟩
theorem rightB_iff {q : Plan} (hlen : q.length = ps.length) : rightB s ps q = true ↔ Right s ps q := fault_iff hlen
theorem pl_all : ∀ {r : List Nat}, r.Nodup → (∀ i ∈ r, i < ps.length) → r.foldr (fun k rows => pl3 s ps rows k) [List.replicate ps.length none] = (allR s.length ps r).filter (rightB s ps)
  | [], _, _ => by
    have : rightB s ps (List.replicate ps.length none) = true := fault_nones s ps _
    unfold allR
    rw [List.filter_cons_of_pos this]; rfl
  | k :: r, nd, hr => by
    have hk := hr k List.mem_cons_self
    rw [List.nodup_cons] at nd
    have hr' : ∀ i ∈ r, i < ps.length := fun i hi => hr i (List.mem_cons_of_mem _ hi)
    rw [List.foldr_cons, pl_all nd.2 hr', pl3_eq]
    have key : ∀ l : List Plan, (∀ q ∈ l, q.length = ps.length ∧ q[k]? = some none) → (addP s.length ps k (l.filter (rightB s ps))).filter (rightB s ps) = (addP s.length ps k l).filter (rightB s ps) := fun l => by
      induction l with
      | nil => intro _; rfl
      | cons q l ih =>
        intro h
        have ih := ih fun q hq => h q (List.mem_cons_of_mem _ hq)
        obtain ⟨h1, h2⟩ := h q List.mem_cons_self
        unfold addP at ih ⊢
        cases hb : rightB s ps q with
        | true => rw [List.filter_cons_of_pos hb, List.flatMap_cons, List.flatMap_cons, List.filter_append, List.filter_append, ih]
        | false =>
          rw [List.filter_cons_of_neg (by rw [hb]; exact Bool.false_ne_true), List.flatMap_cons, List.filter_append, ih, show ((placesN s.length (plugAt ps k)).map fun pl => q.set k (some pl)).filter (rightB s ps) = [] from ?_]
          · rfl
          · rw [List.filter_eq_nil_iff]
            intro x hx hx2
            obtain ⟨pl, _, rfl⟩ := List.mem_map.mp hx
            have := (rightB_iff h1).mpr (right_less (by omega) h2 ((rightB_iff (by rw [List.length_set]; exact h1)).mp hx2))
            rw [hb] at this
            cases this
    exact key _ fun q hq => have F := (mem_allR (q := q) nd.2 hr').mp hq; ⟨F.len, F.off k hk nd.1⟩
theorem okay_nil {q : Plan} : okayB s ps w [] q = rightB s ps q := by
  unfold okayB rightB
  rw [show fixB w [] q = true from fixB_iff.mpr fun i pl _ _ => decide_eq_true rfl, Bool.and_true]
theorem pl_vals (hw : w.Pairwise (· < ·)) (W : ∀ i ∈ w, i < ps.length) : w.foldl (pl3 s ps) [List.replicate ps.length none] = vals s ps w [] := by
  have h := pl_all (s := s) (r := w.reverse) (List.pairwise_reverse.mpr (hw.imp fun z => by omega)) fun i hi => W i (List.mem_reverse.mp hi)
  rw [List.foldr_reverse] at h
  rw [h]
  unfold vals allP
  exact List.filter_congr fun q _ => okay_nil.symm
theorem law_placings_run (P : PsOk s ps) (hne : ps ≠ []) (hs : 0 < s.length) (hw : w.Pairwise (· < ·)) (W : ∀ i ∈ w, i < ps.length) (hb : (2 * s.length) ^ w.length ≤ lim) {sd : D} (hsd : itSeq sd = some (w.map nD)) : F__law_placings [socksD s, plugsD ps, sd] = some (.ok (.lst ((vals s ps w []).map planD))) := by
  rw [placings_run P hne hs W hb hsd, pl_vals hw W]
theorem whole {q : Plan} (F : Full s.length ps (allW ps) q) : ∃ l : List Place, q = l.map some := by
  have : ∀ o ∈ q, ∃ x : Place, o = some x := fun o ho => by
    obtain ⟨i, hi⟩ := List.getElem?_of_mem ho
    have hl : i < ps.length := by rw [← F.len]; exact (List.getElem?_eq_some_iff.mp hi).1
    obtain ⟨pl, _, e⟩ := F.on i (List.mem_range.mpr hl)
    rw [hi] at e
    cases e
    exact ⟨pl, rfl⟩
  clear F
  induction q with
  | nil => exact ⟨[], rfl⟩
  | cons o q ih =>
    obtain ⟨x, rfl⟩ := this o List.mem_cons_self
    obtain ⟨l, rfl⟩ := ih fun o ho => this o (List.mem_cons_of_mem _ ho)
    exact ⟨x :: l, rfl⟩
end
theorem dOk_encO (o : Option Place) : dOk 1 (encO o) = true := by cases o <;> rfl
theorem dOk_plan (q : Plan) : dOk 2 (planD q) = true := by
  unfold planD
  rw [dOk, List.all_map, List.all_eq_true]
  intro o _
  exact dOk_encO o
theorem dOk_plans (l : List Plan) : dOk 3 (.lst (l.map planD)) = true := by
  rw [dOk, List.all_map, List.all_eq_true]
  intro o _
  exact dOk_plan o
theorem eqD_some {n : Nat} {d : D} {ds : List D} (h : dOk n (.lst (d :: ds)) = true) (hn : n ≤ 64) : eqD (.lst (d :: ds)) (.lst []) = some false := by
  obtain ⟨p, h1, h2, h3⟩ := toPy_ok n _ h
  unfold eqD
  rw [h1, show toPy (.lst []) = some (.list []) from rfl]
  have hs : SeqAt.shaped p = true := by unfold SeqAt.shaped; rw [h2, Bool.true_and, decide_eq_true_eq]; omega
  dsimp only
  rw [hs, show SeqAt.shaped (.list []) = true from by decide]
  rw [toPy, toPys] at h1
  cases u : toPy d with
  | none => rw [u] at h1; cases h1
  | some x =>
    rw [u] at h1
    cases u2 : toPys ds with
    | none => rw [u2] at h1; cases h1
    | some y =>
      rw [u2] at h1
      cases h1
      simp [PyData.eqv, PyData.eqvAll]
theorem eqD_nilL : eqD (.lst []) (.lst []) = some true := eqD_refl 1 rfl (by decide)
theorem psOk {s : List Int} {ps : List Plug} (hS : Socks s) (hs : s.length ≤ 100) (hp : ∀ p ∈ ps, PlugOk p) (hl : ps.length ≤ 6) : PsOk s ps := ⟨hS.rg, hp, hl, hs⟩
def ltN : List Nat → List Nat → Bool
  | [], [] => false
  | [], _ :: _ => true
  | _ :: _, [] => false
  | x :: a, y :: b => if x = y then ltN a b else decide (x < y)
abbrev pyN (l : List Nat) : List PyData := l.map fun (i : Nat) => PyData.int (i : Int)
def tD (l : List Nat) : D := .tup (l.map nD)
theorem lex_nD : ∀ a b : List Nat, PyProof.Rows.lexLt PyProof.Rows.itemOrd (PySem.W.keyToksAll (pyN a)) (PySem.W.keyToksAll (pyN b)) = ltN a b
  | [], [] => PyProof.Rows.lex_irrefl _
  | [], y :: b => by
    show PyProof.Rows.lexLt PyProof.Rows.itemOrd (PySem.W.keyToksAll []) (PySem.W.keyToksAll (.int (y : Int) :: pyN b)) = true
    rw [PySem.W.toks_all_cons, PySem.W.keyToksAll, PyProof.Rows.lex_diff (by intro h; injection h with h; cases h)]
    rfl
  | x :: a, [] => by
    show PyProof.Rows.lexLt PyProof.Rows.itemOrd (PySem.W.keyToksAll (.int (x : Int) :: pyN a)) (PySem.W.keyToksAll []) = false
    rw [PySem.W.toks_all_cons, PySem.W.keyToksAll, PyProof.Rows.lex_diff (by intro h; injection h with h; cases h)]
    rfl
  | x :: a, y :: b => by
    show PyProof.Rows.lexLt PyProof.Rows.itemOrd (PySem.W.keyToksAll (.int (x : Int) :: pyN a)) (PySem.W.keyToksAll (.int (y : Int) :: pyN b)) = _
    rw [PySem.W.dataLt_cons (by simp [PySem.W.alike]), lex_nD a b, PyData.eqv, PySem.W.dataLt_int]
    conv => rhs; unfold ltN
    by_cases h : x = y
    · rw [if_pos h, if_pos (by rw [h]; exact beq_self_eq_true _)]
    · rw [if_neg h, if_neg (by rw [beq_iff_eq]; omega)]
      by_cases z : x < y
      · rw [decide_eq_true z, decide_eq_true (by omega)]
      · rw [decide_eq_false z, decide_eq_false (by omega)]
theorem lt_pyN (a b : List Nat) : PySem.W.dataLt (.tuple (pyN a)) (.tuple (pyN b)) = ltN a b := by rw [PySem.W.dataLt_tuple, lex_nD]
theorem toPy_tD (l : List Nat) : toPy (tD l) = some (.tuple (pyN l)) := by unfold tD; rw [toPy, toPys_nD]; rfl
theorem alike_tD (l : List (List Nat)) : alikeP (l.map fun a => .tuple (pyN a)) = true := by
  have h : ∀ a b : List Nat, PySem.W.alikeAll (pyN a) (pyN b) = true := fun a => by
    induction a with
    | nil => intro b; show PySem.W.alikeAll [] _ = true; unfold PySem.W.alikeAll; rfl
    | cons x a ih =>
      intro b
      cases b with
      | nil => show PySem.W.alikeAll (_ :: _) [] = true; unfold PySem.W.alikeAll; rfl
      | cons y b => show PySem.W.alikeAll (.int (x : Int) :: pyN a) (.int (y : Int) :: pyN b) = true; rw [PySem.W.alikeAll, ih b]; rfl
  unfold alikeP
  rw [List.all_map, List.all_eq_true]
  intro a _
  dsimp only [Function.comp]
  rw [List.all_map, List.all_eq_true]
  intro b _
  dsimp only [Function.comp]
  rw [PySem.W.alike]
  exact h a b
theorem depth_tD (l : List (List Nat)) : PyData.depthAll (l.map fun a => .tuple (pyN a)) ≤ 2 := by
  induction l with
  | nil => rw [List.map_nil]; decide
  | cons a l ih =>
    rw [List.map_cons, PyData.depthAll, PyData.depth]
    have : PyData.depthAll (pyN a) ≤ 1 := (lay_nD a).2
    omega
theorem ltN_asymm : ∀ {a b : List Nat}, ltN a b = true → ltN b a = false
  | [], [], h => by cases h
  | [], y :: b, _ => rfl
  | x :: a, [], h => by cases h
  | x :: a, y :: b, h => by
    unfold ltN at h ⊢
    by_cases e : x = y
    · rw [if_pos e] at h; rw [if_pos e.symm]; exact ltN_asymm h
    · rw [if_neg e] at h
      rw [if_neg fun z => e z.symm]
      have := of_decide_eq_true h
      exact decide_eq_false (by omega)
section
variable {n : Nat} (fit : List Nat → Bool)
variable {fit}
end
section
variable {s : List Int} {ps : List Plug}
end
theorem dOk_nDs (n : Nat) (l : List Nat) : (l.map nD).all (dOk n) = true := by
  rw [List.all_map, List.all_eq_true]
  intro x _
  cases n <;> rfl
theorem dOk_tD (n : Nat) (a : List Nat) : dOk (n + 1) (tD a) = true := by unfold tD; rw [dOk]; exact dOk_nDs n a
section
variable {s : List Int} {ps : List Plug}
end
section
variable {s : List Int} {ps : List Plug}
end
theorem eq_nilP (l : List Plan) : eqD (.lst (l.map planD)) (.lst []) = some l.isEmpty := by
  cases l with
  | nil => exact eqD_nilL
  | cons a l => exact eqD_some (dOk_plans (a :: l)) (by decide)
section
variable {s : List Int} {ps : List Plug} {ns : List Int}
end
structure Sto {α : Type} (lt : α → α → Bool) : Prop where
  irr : ∀ a, lt a a = false
  trans : ∀ a b c, lt a b = true → lt b c = true → lt a c = true
  tri : ∀ a b, lt a b = false → lt b a = false → a = b
theorem Sto.le_trans {α : Type} {lt : α → α → Bool} (h : Sto lt) {a b c : α} (x : lt b a = false) (y : lt c b = false) : lt c a = false := by
  cases q : lt c a with
  | false => rfl
  | true =>
    cases r : lt a b with
    | true => rw [h.trans c a b q r] at y; cases y
    | false => rw [h.tri a b r x] at q; rw [q] at y; cases y
theorem sto_int : Sto fun a b : Int => decide (a < b) :=
  ⟨fun a => decide_eq_false (by omega), fun a b c h1 h2 => by have := of_decide_eq_true h1; have := of_decide_eq_true h2; exact decide_eq_true (by omega), fun a b h1 h2 => by have := of_decide_eq_false h1; have := of_decide_eq_false h2; omega⟩
theorem sto_nat : Sto fun a b : Nat => decide (a < b) :=
  ⟨fun a => decide_eq_false (by omega), fun a b c h1 h2 => by have := of_decide_eq_true h1; have := of_decide_eq_true h2; exact decide_eq_true (by omega), fun a b h1 h2 => by have := of_decide_eq_false h1; have := of_decide_eq_false h2; omega⟩
theorem sto_bool : Sto fun a b : Bool => !a && b := ⟨by decide, by decide, by decide⟩
def lexP {α β : Type} [DecidableEq α] (l : α → α → Bool) (m : β → β → Bool) (a b : α × β) : Bool := if a.1 = b.1 then m a.2 b.2 else l a.1 b.1
theorem sto_pair {α β : Type} [DecidableEq α] {l : α → α → Bool} {m : β → β → Bool} (hl : Sto l) (hm : Sto m) : Sto (lexP l m) := by
  refine ⟨fun a => ?_, fun a b c h1 h2 => ?_, fun a b h1 h2 => ?_⟩
  · unfold lexP; rw [if_pos rfl]; exact hm.irr _
  · unfold lexP at *
    by_cases e1 : a.1 = b.1
    · rw [if_pos e1] at h1
      by_cases e2 : b.1 = c.1
      · rw [if_pos e2] at h2; rw [if_pos (e1.trans e2)]; exact hm.trans _ _ _ h1 h2
      · rw [if_neg e2] at h2; rw [e1, if_neg e2]; exact h2
    · rw [if_neg e1] at h1
      by_cases e2 : b.1 = c.1
      · rw [← e2, if_neg e1]; exact h1
      · rw [if_neg e2] at h2
        have h3 := hl.trans _ _ _ h1 h2
        rw [if_neg fun z => by rw [z, hl.irr] at h3; cases h3]
        exact h3
  · unfold lexP at *
    by_cases e1 : a.1 = b.1
    · rw [if_pos e1] at h1
      rw [if_pos e1.symm] at h2
      exact Prod.ext e1 (hm.tri _ _ h1 h2)
    · rw [if_neg e1] at h1
      rw [if_neg fun z => e1 z.symm] at h2
      exact absurd (hl.tri _ _ h1 h2) e1
def lexL {α : Type} [DecidableEq α] (l : α → α → Bool) : List α → List α → Bool
  | [], [] => false
  | [], _ :: _ => true
  | _ :: _, [] => false
  | x :: a, y :: b => if x = y then lexL l a b else l x y
theorem sto_list {α : Type} [DecidableEq α] {l : α → α → Bool} (hl : Sto l) : Sto (lexL l) := by
  refine ⟨fun a => ?_, fun a => ?_, fun a => ?_⟩
  · induction a with
    | nil => rfl
    | cons x a ih => unfold lexL; rw [if_pos rfl]; exact ih
  · induction a with
    | nil =>
      intro b c h1 h2
      cases b with
      | nil => cases h1
      | cons y b => cases c with
        | nil => cases h2
        | cons z c => rfl
    | cons x a ih =>
      intro b c h1 h2
      cases b with
      | nil => cases h1
      | cons y b =>
        cases c with
        | nil => cases h2
        | cons z c =>
          unfold lexL at h1 h2 ⊢
          by_cases e1 : x = y
          · rw [if_pos e1] at h1
            by_cases e2 : y = z
            · rw [if_pos e2] at h2; rw [if_pos (e1.trans e2)]; exact ih b c h1 h2
            · rw [if_neg e2] at h2; rw [e1, if_neg e2]; exact h2
          · rw [if_neg e1] at h1
            by_cases e2 : y = z
            · rw [← e2, if_neg e1]; exact h1
            · rw [if_neg e2] at h2
              have h3 := hl.trans _ _ _ h1 h2
              rw [if_neg fun q => by rw [q, hl.irr] at h3; cases h3]
              exact h3
  · induction a with
    | nil =>
      intro b h1 h2
      cases b with
      | nil => rfl
      | cons y b => cases h1
    | cons x a ih =>
      intro b h1 h2
      cases b with
      | nil => cases h2
      | cons y b =>
        unfold lexL at h1 h2
        by_cases e1 : x = y
        · rw [if_pos e1] at h1
          rw [if_pos e1.symm] at h2
          rw [e1, ih b h1 h2]
        · rw [if_neg e1] at h1
          rw [if_neg fun z => e1 z.symm] at h2
          exact absurd (hl.tri _ _ h1 h2) e1
section
variable {κ ν : Type} [DecidableEq κ]
abbrev Td (κ ν : Type) := List (κ × ν)
variable {kE : κ → D} {vE : ν → D} {L : Td κ ν} {k k' : κ} {v : ν}
end
abbrev Val := Int × List Place
def ltPl : Place → Place → Bool := lexP (fun a b : Nat => decide (a < b)) fun a b : Bool => !a && b
def ltO : List Place → List Place → Bool := lexL ltPl
def ltV : Val → Val → Bool := lexP (fun a b : Int => decide (a < b)) ltO
theorem sto_pl : Sto ltPl := sto_pair sto_nat sto_bool
theorem sto_o : Sto ltO := sto_list sto_pl
theorem sto_v : Sto ltV := sto_pair sto_int sto_o
section
variable (ps : List Plug) (stp : Place → Place → Int) (c0 : Int)
def cstF (z : Int × Option Place) (x : Place) : Int × Option Place := (match z.2 with | none => z.1 | some y => z.1 + stp y x, some x)
def cst (o : List Place) : Int := (o.foldl (cstF stp) (c0, none)).1
structure Vo (o : List Place) : Prop where
  nd : (o.map (·.1)).Nodup
  ok : ∀ x ∈ o, x.1 < ps.length ∧ x.2 ∈ standsB (plugAt ps x.1)
end
section
variable {ps : List Plug} {stp : Place → Place → Int} {c0 : Int}
structure Best (ps : List Plug) (stp : Place → Place → Int) (c0 : Int) (v : Val) : Prop where
  is : v.1 = cst stp c0 v.2
  vo : Vo ps v.2
  len : v.2.length = ps.length
  least : ∀ o, Vo ps o → o.length = ps.length → ltV (cst stp c0 o, o) v = false
theorem Best.one {u v : Val} (a : Best ps stp c0 u) (b : Best ps stp c0 v) : u = v := by
  have h1 := a.least v.2 b.vo b.len
  have h2 := b.least u.2 a.vo a.len
  rw [← b.is] at h1
  rw [← a.is] at h2
  exact sto_v.tri _ _ h2 h1
end
section
variable {ps : List Plug}
theorem ixP {j : Nat} (hj : j < ps.length) : opIx (plugsD ps) (.int (j : Int)) = some (encP (plugAt ps j)) := getP (plug_at hj)
end
section
variable {ps : List Plug}
end
theorem Socks.pos {s : List Int} (h : Socks s) : 0 < s.length := by
  rcases Nat.eq_zero_or_pos s.length with z | z
  · exact absurd (List.eq_nil_of_length_eq_zero z) h.ne
  · exact z
theorem PlsOk.pos {ps : List Plug} (h : PlsOk ps) : 0 < ps.length := by
  rcases Nat.eq_zero_or_pos ps.length with z | z
  · exact absurd (List.eq_nil_of_length_eq_zero z) h.ne
  · exact z
section
variable {ps : List Plug}
end
def v6 : Val := (6, [(0, false), (1, false), (2, false), (3, false), (4, false), (5, false)])
end Pk
namespace Dl
open PySem
section
variable {prog : Program} {w : World} {A : Around} {R : Result → Shared → Prop} {It q S : Addr} {fp wr : List Addr} {Gn : Array GenState → Array GenState → Prop} {n : Nat} {P : Nat → Value → Prop} {St : Nat → Shared → Prop} {I0 : Shared → Prop} {Iv : Nat → Value → Value → Shared → Prop} {Ix : Nat → Value → Value → Value → Value → Shared → Prop}
end
section
variable {prog : Program} {w : World} {A : Around} {E : Value → Shared → Prop} {s : Shared}
end
end Dl
namespace Dl
open PySem L2 PySem.W
section
variable {X : Cx} {k : Nat} {f : Addr} {fd : FuncData} {ps : List Str}
end
end Dl
namespace Dl
open PySem L2 PySem.W
section
variable {X : Cx} {W : WX} {k : Nat} {f : Addr} {fd : FuncData} {ps : List Str}
end
end Dl
namespace Dl
open PySem L2
def eBinOL (op : D → D → Option D) (i : Nat) (g : FE D) : FE D := fun ρ ω => match ownK ρ i with
  | none => .stuck
  | some k => (g ρ ω).bind fun y ω2 => match ownL ω2 k with
    | some ds => Res.lift (op (.lst ds) y) ω2
    | none => .stuck
section
variable {X : Cx} {W : WX} {b : Expr} {p1 pos : Pos} {g : FE D}
end
end Dl
noncomputable section
namespace Pk
open PySem Dl
end Pk
namespace Dl
open PySem L2 PySem.Spec PyProof.Rows
section
variable {P : Program} {w : World} {A : Around} {E : Value → Shared → Prop} {s : Shared}
abbrev freshSet (w : World) : Obj := { cls := .type "set", dict := none, data := .set #[] 0 (.fresh 0 0 (!w.params.followText "set-order")) }
set_option maxRecDepth 100000 in
set_option maxHeartbeats 3200000 in
theorem call_set_lstI {l : Addr} {items : Array Value} (ns : List Int) {Q : Value → Shared → Prop} (hh : A.handled = none) (hl : s.heap.IsList l items) (hit : IntsAre items.toList ns) (hb : ns.length + 1 < scanBound)
    (h : ∀ (h' : Heap) (tk c : Nat), SetR w h' s.heap.objs.size (fun j => decide (j ∈ ns)) c → c ≤ ns.length → (∀ b o, s.heap.get? b = some o → h'.get? b = some o) → Q (.ref s.heap.objs.size) { s with heap := h', toks := tk }) :
    wpAny (model P w) A (call (.type "set") [.ref l]) Q E s := by
  have hisz : items.size = ns.length := by
    have q := IntsAre.length hit
    rw [Array.length_toList] at q
    exact q
  obtain ⟨c, tl, hmro⟩ := F.called_set.mro
  have hmade := F.called_set.made
  have hsub := F.called_set.sub
  refine wpAny_call (codeAny_of_tree ?_)
  show wpAny _ _ (callAny (.type "set") _) _ _ _
  refine wpAny_pure ⟨Code.quiet_builtin _ (by decide +kernel), codeAny_builtin F.entry_type_call ?_⟩
  rw [Around.under_plain (weight_type_call_type "set" [.ref l] []) rfl]
  have h1 := F.called_set.notType
  have h2 := F.called_set.canCreate
  have hct := F.typeCall_set_1 (.ref l)
  repeat (any_goals (first | assumption | wp_step))
  refine codeAny_mono (code_set_led1 (.ref l) (E := E) (Q₁ := fun obj s₁ => obj = .ref s.heap.objs.size ∧ s₁ = { s with heap := s.heap.push (freshSet w) }) ⟨rfl, rfl⟩) fun r s₁ hr => ?_
  cases r with
  | error e => exact hr
  | ok fl =>
    cases fl with
    | ret obj =>
      obtain ⟨rfl, rfl⟩ := hr
      have hS : (s.heap.push (freshSet w)).get? s.heap.objs.size = some (freshSet w) := Heap.get?_push_size _ rfl
      have hT : Shared.TypeIs { s with heap := s.heap.push (freshSet w) } (.ref s.heap.objs.size) "set" := ⟨_, hS, rfl⟩
      have hli := F.called_set.init.lookup
      have hbi := F.called_set.init.bind (.ref s.heap.objs.size)
      repeat (any_goals (first | assumption | wp_step))
      refine codeAny_mono (codeAny_call_builtin (R := wants (fun r s₂ => r = .none ∧ ∃ h' tk c, s₂ = { s with heap := h', toks := tk } ∧ SetR w h' s.heap.objs.size (fun j => decide (j ∈ ns)) c ∧ c ≤ ns.length ∧
          (∀ b o, s.heap.get? b = some o → h'.get? b = some o)) E) F.called_set.init.plain F.entry_set_init (check_set_init_1 hT ?_)) fun r₂ s₂ hr₂ => ?_
      · obtain ⟨ol, hol, hcl, nl, hdl⟩ := hl
        obtain ⟨ocls, odict, odata, oslots⟩ := ol
        simp only at hcl hdl
        subst hcl; subst hdl
        have hol' : (s.heap.push (freshSet w)).get? l = some { cls := .type "list", dict := odict, data := .seq items nl, slots := oslots } := Heap.get?_push_of_some _ hol
        have hsls := F.sub_list_set
        have hslf := F.sub_list_frozenset
        have hne : (Value.type "list" == Value.type "dict") = false := by decide
        have hl1 : (s.heap.push (freshSet w)).IsList l items := ⟨_, hol', rfl, nl, rfl⟩
        unfold Builtin.«set.__init__» noKeywords Builtin.Frozenset.updateFrom
        generalize hPI : pyIter = PI
        wp_walk
        subst hPI
        refine wpAny_pyIter_list hl1 ?_
        refine wpAny_bind (wpAny_runValue ?_)
        have hlS : l < s.heap.objs.size := Heap.lt_size hol
        have hh3 : A.in1.in1.in1.handled = none := by simp [hh]
        have hneI : l ≠ (s.heap.push (freshSet w)).objs.size := by
          rw [Heap.size_push]; exact Nat.ne_of_lt (Nat.lt_succ_of_lt hlS)
        have hSf : s.heap.objs.size ∉ [(s.heap.push (freshSet w)).objs.size, l] := by
          rw [Heap.size_push]; simp only [List.mem_cons, List.mem_singleton, List.not_mem_nil, or_false, not_or]
          exact ⟨Nat.ne_of_lt (Nat.lt_succ_self _), Nat.ne_of_gt hlS⟩
        have hval : ∀ (i : Nat) (v : Value), items[i]? = some v → ∃ k t, ns[i]? = some k ∧ v = .int k t := fun i v hv => by
          have hi : i < ns.length := by rw [← hisz]; exact (Array.getElem?_eq_some_iff.mp hv).1
          obtain ⟨t, e⟩ := PyProof.Rows.IntsAre.int_at hit i v (by rw [Array.getElem?_toList]; exact hv)
          refine ⟨ns[i], t, List.getElem?_eq_getElem hi, ?_⟩
          rw [e, List.getD_eq_getElem?_getD, List.getElem?_eq_getElem hi] <;> rfl
        refine set_update_ints ((Walks.list hh3 _ l hneI items).toS) s.heap.objs.size
          hSf ns hisz hb hval (items.size - 0) 0 _ (by omega) (Nat.zero_le _)
          ⟨⟨_, Heap.get?_push_size _ rfl, rfl, rfl⟩, (hl1.push _)⟩ ?hS0 ?hR
        case hS0 =>
          have hget : ((s.heap.push (freshSet w)).push { cls := .type "list_iterator", data := .fields #[.ref l, .int 0 0] }).get? s.heap.objs.size = some (freshSet w) := Heap.get?_push_of_some _ hS
          exact ⟨0, Nat.le_refl 0, setR_new_at hget⟩
        case hR =>
          intro s' c' hm hc' hS'
          obtain ⟨h', g2, d', tk', os'⟩ := s'
          have eg : g2 = s.gens := hm.gens
          have ed : d' = s.drawn := hm.drawn
          have eo : os' = s.os := hm.os
          subst eg; subst ed; subst eo
          show wpAny _ _ _ _ _ _
          refine wpAny_pure ?_
          show wpAny _ _ (ret Value.none) _ _ _
          rw [hisz] at hc'
          refine wpAny_pure ⟨rfl, h', tk', c', rfl, hS', hc', fun b o e => ?_⟩
          have hb0 : b < s.heap.objs.size := Heap.lt_size e
          have hb1 : b ≠ s.heap.objs.size := Nat.ne_of_lt hb0
          have hb2 : b ≠ (s.heap.push (freshSet w)).objs.size := by
            rw [Heap.size_push]; exact Nat.ne_of_lt (Nat.lt_succ_of_lt hb0)
          exact hm.heap b o (by simp only [List.mem_cons, List.mem_singleton, List.not_mem_nil, or_false, not_or]; exact ⟨hb1, hb2⟩) (Heap.get?_push_of_some _ (Heap.get?_push_of_some _ e))
      · cases r₂ with
        | error e => exact hr₂
        | ok fl₂ =>
          cases fl₂ with
          | ret r =>
            obtain ⟨rfl, h', tk, c', rfl, hS', hc', hk'⟩ := hr₂
            repeat (any_goals (first | assumption | wp_step))
            exact h _ _ _ hS' hc' hk'
          | _ => exact hr₂.elim
    | _ => exact hr.elim
theorem sorted_setN {a : Addr} {S : Int → Bool} {n : Nat} {Q : Value → Shared → Prop} (R : SetR w s.heap a S n) (hh : A.handled = none)
    (hQ : ∀ s' p (out : Array Value) (c : Nat) (ns : List Int), (∀ b o, s.heap.get? b = some o → s'.heap.get? b = some o) → s'.gens = s.gens → s'.os = s.os → s.heap.objs.size ≤ p →
      s'.heap.get? p = some (seqObj "list" out c) → IntsAre out.toList ns → ns.Pairwise (· < ·) → (∀ k, k ∈ ns ↔ S k = true) → ns.length = n → Q (.ref p) s') :
    wpAny (model P w) A (call (.builtin "sorted") [.ref a]) Q E s := by
  obtain ⟨o, es, ep, t, ho, hex, hd, g, nd, hm, hb, hf, hn, hr, hl⟩ := R
  refine PySem.Calls.call_function_entry kind_sorted plain_sorted entry_sorted (args_sorted1 _) ?_
  unfold Builtin.«sorted»
  refine wpAny_bind (m := checkCount "sorted" 1 1 _) (wpAny_pure ?_)
  refine wpAny_bind (collect_set (A := A.in1) hh ⟨o, ho, hex.1, hd⟩ hf hb hr hl fun s1 vs k1 hz g1 o1 pm => ?_)
  have hvl : vs.length = n := by rw [pm.length_eq, List.length_map, Array.length_toList]; exact hn
  have hI : IntsAre vs (vs.map Builtin.Re.reRawOf) := ints_of vs fun v hv => by
    obtain ⟨e, he, q⟩ := List.mem_map.mp (pm.mem_iff.mp hv)
    obtain ⟨k, tk, h1, _⟩ := g e he
    exact ⟨k, tk, by rw [← q]; exact h1⟩
  have pk : (vs.map Builtin.Re.reRawOf).Perm (es.toList.map keyOf) := by
    have q := pm.map Builtin.Re.reRawOf
    rw [List.map_map] at q
    exact q
  have hvz : vs.length ≤ sizeLine := by rw [hvl, sizeLine_eq]; unfold scanBound at hb; omega
  refine wpAny_bind (wpAny_newList ?_ hvz)
  have hoL : (s1.heap.push (seqObj "list" vs.toArray 0)).get? s1.heap.objs.size = some (seqObj "list" vs.toArray 0) := Heap.get?_push_size _ rfl
  refine wpAny_bind (wpAny_holding (wpAny_call_entry slot_list_sort ⟨_, hoL, rfl⟩ entry_list_sort (SrtO.list_sort_ord (s := { s1 with heap := s1.heap.push (seqObj "list" vs.toArray 0) }) SrtO.swo_int hoL hvz (fun h2 => SrtO.ints_sortable hI h2) fun out h1 h2 => ⟨_, rfl, ?_⟩) (args_list_sort _)))
  obtain ⟨a1, a2, a3⟩ := SrtO.ints_out hI h1 h2
  obtain ⟨c, hc⟩ := sortedHeap_at (vs := vs) (out := out.toArray) hoL
  have pn : (out.map SrtO.iv).Perm (es.toList.map keyOf) := a2.trans pk
  refine wpAny_pure ⟨_, rfl, hQ _ s1.heap.objs.size out.toArray c (out.map SrtO.iv) (fun b u e => ?_) g1 o1 hz hc a1 (lt_of_le_nodup _ a3 (pn.nodup_iff.mpr nd)) (fun k => by rw [pn.mem_iff, ← hm k]) ?_⟩
  · have q := k1 b u e
    have hlt := Heap.lt_size q
    show (sortedHeap (s1.heap.push (seqObj "list" vs.toArray 0)) s1.heap.objs.size vs out.toArray).get? b = some u
    rw [sortedHeap_old (Nat.ne_of_lt hlt) (by rw [size_push']; exact Nat.lt_succ_of_lt hlt)]
    exact Heap.get?_push_of_some _ q
  · rw [pn.length_eq, List.length_map, Array.length_toList]; exact hn
end
def insS (x : Int) : List Int → List Int
  | [] => [x]
  | y :: l => if x < y then x :: y :: l else if x = y then y :: l else y :: insS x l
def ssI (ns : List Int) : List Int := ns.foldr insS []
theorem insS_mem {x : Int} : ∀ {l : List Int} {k : Int}, k ∈ insS x l ↔ k = x ∨ k ∈ l
  | [], k => by unfold insS; simp
  | y :: l, k => by
    unfold insS
    split
    · simp
    · split
      · rename_i h; subst h; simp
      · rw [List.mem_cons, insS_mem, List.mem_cons]
        constructor
        · rintro (h | h | h)
          · exact .inr (.inl h)
          · exact .inl h
          · exact .inr (.inr h)
        · rintro (h | h | h)
          · exact .inr (.inl h)
          · exact .inl h
          · exact .inr (.inr h)
theorem insS_asc {x : Int} : ∀ {l : List Int}, l.Pairwise (· < ·) → (insS x l).Pairwise (· < ·)
  | [], _ => List.pairwise_singleton _ _
  | y :: l, h => by
    obtain ⟨h1, h2⟩ := List.pairwise_cons.mp h
    unfold insS
    split
    · rename_i hx
      refine List.pairwise_cons.mpr ⟨fun z hz => ?_, h⟩
      rcases List.mem_cons.mp hz with e | e
      · rw [e]; exact hx
      · have := h1 z e; omega
    · split
      · exact h
      · refine List.pairwise_cons.mpr ⟨fun z hz => ?_, insS_asc h2⟩
        rcases insS_mem.mp hz with e | e
        · rw [e]; omega
        · exact h1 z e
theorem ssI_asc : ∀ ns : List Int, (ssI ns).Pairwise (· < ·)
  | [] => .nil
  | x :: ns => insS_asc (ssI_asc ns)
theorem ssI_mem : ∀ {ns : List Int} {k : Int}, k ∈ ssI ns ↔ k ∈ ns
  | [], k => Iff.rfl
  | x :: ns, k => by
    show k ∈ insS x (ssI ns) ↔ _
    rw [insS_mem, ssI_mem, List.mem_cons]
theorem asc_unique : ∀ {a b : List Int}, a.Pairwise (· < ·) → b.Pairwise (· < ·) → (∀ k, k ∈ a ↔ k ∈ b) → a = b
  | [], [], _, _, _ => rfl
  | [], y :: b, _, _, h => absurd ((h y).mpr List.mem_cons_self) List.not_mem_nil
  | x :: a, [], _, _, h => absurd ((h x).mp List.mem_cons_self) List.not_mem_nil
  | x :: a, y :: b, ha, hb, h => by
    obtain ⟨a1, a2⟩ := List.pairwise_cons.mp ha
    obtain ⟨b1, b2⟩ := List.pairwise_cons.mp hb
    have e : x = y := by
      rcases List.mem_cons.mp ((h x).mp List.mem_cons_self) with e | e
      · exact e
      · rcases List.mem_cons.mp ((h y).mpr List.mem_cons_self) with e2 | e2
        · exact e2.symm
        · have := b1 x e; have := a1 y e2; omega
    subst e
    rw [asc_unique a2 b2 fun k => ?_]
    constructor
    · intro hk
      rcases List.mem_cons.mp ((h k).mp (List.mem_cons_of_mem _ hk)) with e | e
      · have := a1 k hk; omega
      · exact e
    · intro hk
      rcases List.mem_cons.mp ((h k).mpr (List.mem_cons_of_mem _ hk)) with e | e
      · have := b1 k hk; omega
      · exact e
def intsD : List D → Option (List Int)
  | [] => some []
  | .int i :: ds => (intsD ds).map (i :: ·)
  | _ :: _ => none
theorem intsD_map : ∀ ns : List Int, intsD (ns.map D.int) = some ns
  | [] => rfl
  | n :: ns => by rw [List.map_cons, intsD, intsD_map ns]; rfl
theorem intsD_inv : ∀ {ds : List D} {ns : List Int}, intsD ds = some ns → ds = ns.map D.int
  | [], _, h => by cases h; rfl
  | .int i :: ds, ns, h => by
    rw [intsD] at h
    cases q : intsD ds with
    | none => rw [q] at h; cases h
    | some m => rw [q] at h; cases h; rw [intsD_inv q]; rfl
  | .non :: _, _, h => by cases h
  | .bl _ :: _, _, h => by cases h
  | .str _ :: _, _, h => by cases h
  | .tup _ :: _, _, h => by cases h
  | .lst _ :: _, _, h => by cases h
  | .obj _ _ :: _, _, h => by cases h
  | .dcK _ :: _, _, h => by cases h
  | .dcN _ :: _, _, h => by cases h
def oSortSet : D → Option D
  | .lst ds => match intsD ds with
    | some ns => if ns.length ≤ 4000 then some (.lst ((ssI ns).map D.int)) else none
    | none => none
  | _ => none
theorem oSortSet_run {ns : List Int} (h : ns.length ≤ 4000) : oSortSet (.lst (ns.map D.int)) = some (.lst ((ssI ns).map D.int)) := by
  unfold oSortSet
  dsimp only
  rw [intsD_map]
  dsimp only
  rw [if_pos h]
theorem reps_ints_inv {K : PySem.W.Frag} {mg : MG} {G : Hp} : ∀ (ns : List Int) {us : List V}, Reps K mg G (ns.map D.int) us → us = ns.map V.int
  | [], us, r => by
    cases us with
    | nil => rfl
    | cons u us => rw [List.map_nil] at r; simp [Reps] at r
  | n :: ns, us, r => by
    cases us with
    | nil => rw [List.map_cons] at r; simp [Reps] at r
    | cons u us =>
      rw [List.map_cons, reps_cons] at r
      obtain ⟨x, xs, e, h1, h2⟩ := r
      cases e
      rw [rep_int.mp h1, reps_ints_inv ns h2]; rfl
section
variable {X : Cx} {W : WX} {a : Expr} {ta : TE} {p1 p2 pos pos' : Pos}
def tSortSet (K : PySem.W.Frag) (ta : TE) : TE := fun σ H Q => ta σ H fun x H1 => ∃ (l : Addr) (ns : List Int), x = V.ref l ∧ SqL K H1 l (ns.map V.int) ∧ ns.length ≤ 4000 ∧ ∀ p, H1 p = none → Q (.ref p) (L2.upd H1 p (.lst ((ssI ns).map V.int)))
theorem pe_sortSet (hc : X.calm = true) (hg : Gl X "sorted") (hm : X.mg "sorted" = none) (hg2 : Gl X "set") (hm2 : X.mg "set" = none) (ha : PE X a ta)
    (na : starEach [a] X.env = (false, eval a X.env) :: starEach [] X.env := by rfl) : PE X (.Call (.Name "sorted" p1) [.Call (.Name "set" p2) [a] [] pos'] [] pos) (tSortSet X.K ta) := by
  refine ⟨fun pins s σ H Q I h => ?_⟩
  refine Call_ (ld_blt I hg hm PyProof.Rows.boot_sorted ?_)
  refine PyProof.Rows.callWith_builtin1 (PyProof.Rows.args_cons ?_ rfl) rfl rfl
  refine Call_ (ld_blt I hg2 hm2 PyProof.Rows.boot_set ?_)
  refine PyProof.Rows.callWith_type1 (PyProof.Rows.args_cons (thn (ha.run pins s σ H _ I h) fun v s1 ⟨x, H1, I1, r1, q1⟩ => PyProof.Rows.args_nil ?_) na) na rfl
  obtain ⟨l, ns, rfl, hq, h1, q1⟩ := q1
  cases r1
  obtain ⟨its, r, pl, hz⟩ := I1.list hq
  refine call_set_lstI ns (I1.ok.hd hc) pl.isList (by simpa using r.ints) (by unfold scanBound; omega) fun h' tk c hS hcl hk => ?_
  refine PyProof.Rows.args_nil ?_
  have I2 : Inv X pins σ H1 { s1 with heap := h', toks := tk } := I1.kept fun b o e => hk b o e
  refine sorted_setN hS (I1.ok.hd hc) fun s' p out c' ns' k g o hp hg' hout asc mem hlen => ?_
  have hn : H1 p = none := I2.hok.fresh hp
  have e1 : ns' = ssI ns := asc_unique asc (ssI_asc ns) fun j => by rw [mem j, ssI_mem]; simp
  subst e1
  have hl : ((ssI ns).map V.int).length ≤ sizeLine := by rw [List.length_map, hlen, sizeLine_eq]; omega
  have J : Inv X pins σ (L2.upd H1 p (.lst ((ssI ns).map V.int))) { ({ s1 with heap := h', toks := tk } : Shared) with heap := s'.heap, gens := s'.gens, drawn := s'.drawn, toks := s'.toks } :=
    I2.call (s := { s1 with heap := h', toks := tk }) (ch := []) (Un.laid k hp hn) (I2.hok.laid k hp ⟨hl, out.toList, c', vals_of_ints hout, hg'⟩) (by rw [g]; exact I2.bare) (fun _ z => nomatch z)
  have e : s' = { s1 with heap := s'.heap, gens := s'.gens, drawn := s'.drawn, toks := s'.toks } := by
    cases s'
    cases s1
    cases o
    rfl
  rw [e]
  exact ⟨.ref p, _, J, rfl, q1 p hn⟩
def eSortSet (f : FE D) : FE D := fun ρ ω => (f ρ ω).bind fun x ω1 => Res.lift (oSortSet x) ω1
theorem de_sortSet {f : FE D} (hm : X.mg "sorted" = none) (hm2 : X.mg "set" = none) (ja : De X W a f) (hc : X.calm = true := by rfl) (hg : Gl X "sorted" := by rfl) (hg2 : Gl X "set" := by rfl)
    (na : starEach [a] X.env = (false, eval a X.env) :: starEach [] X.env := by rfl) : De X W (.Call (.Name "sorted" p1) [.Call (.Name "set" p2) [a] [] pos'] [] pos) (eSortSet f) := by
  obtain ⟨t, p, k⟩ := ja
  refine ⟨_, pe_sortSet hc hg hm hg2 hm2 p na, fun G α ρ ω σ H Q O S P => ?_⟩
  refine Post.step (t := t σ H) (k G α ρ ω σ H · O S) P fun d ω1 v G1 α1 H1 e1 O1 r1 P1 => ?_
  obtain ⟨d4, e4, P4⟩ := P1.lift
  unfold oSortSet at e4
  split at e4
  · rename_i ds
    split at e4
    · rename_i ns hns
      split at e4
      · rename_i hl
        cases e4
        have ed := intsD_inv hns
        subst ed
        have r1 : Rep X.K X.mg G1 (.lst (ns.map D.int)) v := r1
        rw [rep_lst] at r1
        obtain ⟨b, us, rfl, hq, rs⟩ := r1
        have eu := reps_ints_inv ns rs
        subst eu
        refine ⟨b, ns, rfl, sqL_same O1.sub hq, hl, fun q hq => ?_⟩
        exact Post.grow O1 (Grow.put O1.sub hq) (show Rep X.K X.mg _ _ _ from rep_newL (H := H1) (O1.sub.free hq) (reps_ints _)) P4
      · cases e4
    · cases e4
  · cases e4
end
end Dl
noncomputable section
namespace Pk
open PySem Dl
def f_can_all : FS :=
  (sRet (eBin opGt (eCallP F_count_of (aCons (aVal (eVar 0)) (aCons (aVal (eVar 1)) (aCons (aVal (eCallP F_everyone (aCons (aVal (eVar 1)) aNil))) (aCons (aVal eEmptyK) aNil))))) (eC (.int 0))))
def F_can_all : FnP := fnP 2 2 f_can_all
end Pk
namespace Pk
open PySem Dl L2
local macro_rules
  | `(tactic| push_cast [$xs,*]) => `(tactic| simp -implicitDefEqProofs only [↓eC_run, ↓eVar_run, ↓eSlot_run, ↓eBin_run, ↓eUn_run, ↓eTest_run, ↓eAndT_run, ↓eOrT_run, ↓eNotT_run, ↓eTrue_run, ↓eAnd_run, ↓eOr_run, ↓eNot_run, ↓eIf_run, ↓aNil_run, ↓aCons_run, ↓aVal_run, ↓eTup_run, ↓eList_run, ↓eLst_run, ↓eCallB_run, ↓eOnL_run, ↓eIsi_run, ↓eSl_run, ↓ePart_run, ↓eNoPart_run, ↓eChain_run, ↓eIxO_run, ↓eOwnL_run, ↓sNext_run, ↓sSeq_run, ↓sIf_run, ↓sExpr_run, ↓sRet_run, ↓sRetS_run, ↓sRetN_run, ↓sBreak_run, ↓sCont_run, ↓sAsg_run, ↓sSetS_run, ↓sPar_run, ↓sFor_run, ↓sWhile_run, ↓eIt1_run, ↓eIt2_run, ↓eIt3_run, ↓eLc_run, ↓eLc2_run, ↓sNewL_run, ↓sApp_run, ↓sSetIx_run, ↓sRetL_run, ↓sRetNew_run, ↓eCallP_run, ↓eCallE_run, ↓eVal_run, ↓eMake_run, ↓eFld_run, ↓sRaise_run, ↓sRaiseI_run, ↓sTry_run, ↓eIsx_run, ↓sPar3_run, ↓eNewL_run, ↓eNDisp_run, ↓eKDisp_run, ↓eEmptyK_run, ↓eNewN_run, ↓eKM_run, ↓eNGet_run, ↓eKGet_run, ↓eNGetO_run, ↓eCopyN_run, ↓sNPut_run, ↓aStar_run, ↓eRg1_run, ↓eIsi2_run, ↓eCopyL_run, ↓eNVals_run, bind_ok, bind_exc, out_ok, out_exc, lift_some, obind_next, obind_ret, obind_exc, obind_brk, obind_cont, varR_run, slotR_run, asBl_run, allD_nil, allD_cons, asLst_run, asI_run, chR_run, ownK_run, ownKR_run, ownL_run, ownLR_run, someR_run, someO_run, ixI_run, parR_run, gN_run, gsNil_run, gsCons_run, itSeq_lst, itSeq_tup, itEn_lst, itEn_tup, itZ_lst, itZ_tup, wipeR_nil, wipeR_cons, setIxR_run, finP_ret, finP_next, finP_exc, finE_ret, finE_next, finE_exc, callR_ok, callR_err, valR_run, makeR_ok, makeR_exc, opAdd_int, opI_run, opB_run, opMulA_int, opEq_run, opNe_run, opIsN_run, opNotN_run, opIx_tup, opIx_lst, opNeg_run, oLen_tup, oLen_lst, oInt_int, oInt_bl, oTuple_tup, oTuple_lst, oList_tup, oList_lst, oTupleL_run, oListL_run, oLenL_run, isi_int_non, isi_int_bl, isi_int_int, isi_int_str, isi_int_tup, isi_int_lst, isi_bool_non, isi_bool_bl, isi_bool_int, isi_bool_str, isi_bool_tup, isi_bool_lst, isi_tuple_non, isi_tuple_bl, isi_tuple_int, isi_tuple_str, isi_tuple_tup, isi_tuple_lst, isi_str_non, isi_str_bl, isi_str_int, isi_str_str, isi_str_tup, isi_str_lst, isi_list_non, isi_list_bl, isi_list_int, isi_list_str, isi_list_tup, isi_list_lst, atI_0, atI_1, atI_2, atI_3, atI_4, atI_5, atI_6, atI_7, atI_8, ixN_1_0, ixN_2_0, ixN_2_1, ixN_3_0, ixN_3_1, ixN_3_2, ixN_4_0, ixN_4_1, ixN_4_2, ixN_4_3, ixN_5_0, ixN_5_1, ixN_5_2, ixN_5_3, ixN_5_4, eqD_int, eqD_bl, eqD_non_non, isNon_non, isNon_bl, isNon_int, isNon_str, isNon_tup, isNon_lst, Option.map_some, Option.map_none, Option.bind_some, List.getElem?_cons_zero, List.getElem?_cons_succ, List.set_cons_zero, List.set_cons_succ, List.map_cons, List.map_nil, List.length_cons, List.length_nil, List.cons_append, List.nil_append, rho0, List.replicate, List.take_succ_cons, List.take_zero, List.take_nil, List.take_length, and_self, Bool.false_eq_true, Bool.not_true, Bool.not_false, decide_true, decide_false, raiseI_run1, raiseI_run2, tryO_next, tryO_ret, tryH_nil, unbind_next, unbind_ret, eXf_run, par3R_run, newLR_0, newLR_1, kmR_run, kmR2_run, asK_run, asN_run, getRL_run, getKL_run, ngo0_run, ngo1_run, ngoR_run, ownN_run, ownNR_run, npK_run, starR_run, itNItems_run, itNKeys_run, oDictK_run, opIn2_K, opKIx_run, keyK_int, copyLR_lst, copyLR_tup, gT2_run, nValsD_run, Option.getD_some, tup_0, lst_0, tup_1, lst_1, tup_2, lst_2, tup_3, lst_3, tup_4, lst_4, tup_5, lst_5, tup_6, lst_6, tup_7, lst_7, tup_8, lst_8, tup_9, lst_9, tup_10, lst_10, tup_11, lst_11, tup_12, lst_12, new_0, new_1, new_2, new_3, new_4, new_5, ↓reduceIte, Nat.reduceAdd, $xs,*])
  | `(tactic| push_cast [$xs,*] at $h:ident) => `(tactic| simp -implicitDefEqProofs only [↓eC_run, ↓eVar_run, ↓eSlot_run, ↓eBin_run, ↓eUn_run, ↓eTest_run, ↓eAndT_run, ↓eOrT_run, ↓eNotT_run, ↓eTrue_run, ↓eAnd_run, ↓eOr_run, ↓eNot_run, ↓eIf_run, ↓aNil_run, ↓aCons_run, ↓aVal_run, ↓eTup_run, ↓eList_run, ↓eLst_run, ↓eCallB_run, ↓eOnL_run, ↓eIsi_run, ↓eSl_run, ↓ePart_run, ↓eNoPart_run, ↓eChain_run, ↓eIxO_run, ↓eOwnL_run, ↓sNext_run, ↓sSeq_run, ↓sIf_run, ↓sExpr_run, ↓sRet_run, ↓sRetS_run, ↓sRetN_run, ↓sBreak_run, ↓sCont_run, ↓sAsg_run, ↓sSetS_run, ↓sPar_run, ↓sFor_run, ↓sWhile_run, ↓eIt1_run, ↓eIt2_run, ↓eIt3_run, ↓eLc_run, ↓eLc2_run, ↓sNewL_run, ↓sApp_run, ↓sSetIx_run, ↓sRetL_run, ↓sRetNew_run, ↓eCallP_run, ↓eCallE_run, ↓eVal_run, ↓eMake_run, ↓eFld_run, ↓sRaise_run, ↓sRaiseI_run, ↓sTry_run, ↓eIsx_run, ↓sPar3_run, ↓eNewL_run, ↓eNDisp_run, ↓eKDisp_run, ↓eEmptyK_run, ↓eNewN_run, ↓eKM_run, ↓eNGet_run, ↓eKGet_run, ↓eNGetO_run, ↓eCopyN_run, ↓sNPut_run, ↓aStar_run, ↓eRg1_run, ↓eIsi2_run, ↓eCopyL_run, ↓eNVals_run, bind_ok, bind_exc, out_ok, out_exc, lift_some, obind_next, obind_ret, obind_exc, obind_brk, obind_cont, varR_run, slotR_run, asBl_run, allD_nil, allD_cons, asLst_run, asI_run, chR_run, ownK_run, ownKR_run, ownL_run, ownLR_run, someR_run, someO_run, ixI_run, parR_run, gN_run, gsNil_run, gsCons_run, itSeq_lst, itSeq_tup, itEn_lst, itEn_tup, itZ_lst, itZ_tup, wipeR_nil, wipeR_cons, setIxR_run, finP_ret, finP_next, finP_exc, finE_ret, finE_next, finE_exc, callR_ok, callR_err, valR_run, makeR_ok, makeR_exc, opAdd_int, opI_run, opB_run, opMulA_int, opEq_run, opNe_run, opIsN_run, opNotN_run, opIx_tup, opIx_lst, opNeg_run, oLen_tup, oLen_lst, oInt_int, oInt_bl, oTuple_tup, oTuple_lst, oList_tup, oList_lst, oTupleL_run, oListL_run, oLenL_run, isi_int_non, isi_int_bl, isi_int_int, isi_int_str, isi_int_tup, isi_int_lst, isi_bool_non, isi_bool_bl, isi_bool_int, isi_bool_str, isi_bool_tup, isi_bool_lst, isi_tuple_non, isi_tuple_bl, isi_tuple_int, isi_tuple_str, isi_tuple_tup, isi_tuple_lst, isi_str_non, isi_str_bl, isi_str_int, isi_str_str, isi_str_tup, isi_str_lst, isi_list_non, isi_list_bl, isi_list_int, isi_list_str, isi_list_tup, isi_list_lst, atI_0, atI_1, atI_2, atI_3, atI_4, atI_5, atI_6, atI_7, atI_8, ixN_1_0, ixN_2_0, ixN_2_1, ixN_3_0, ixN_3_1, ixN_3_2, ixN_4_0, ixN_4_1, ixN_4_2, ixN_4_3, ixN_5_0, ixN_5_1, ixN_5_2, ixN_5_3, ixN_5_4, eqD_int, eqD_bl, eqD_non_non, isNon_non, isNon_bl, isNon_int, isNon_str, isNon_tup, isNon_lst, Option.map_some, Option.map_none, Option.bind_some, List.getElem?_cons_zero, List.getElem?_cons_succ, List.set_cons_zero, List.set_cons_succ, List.map_cons, List.map_nil, List.length_cons, List.length_nil, List.cons_append, List.nil_append, rho0, List.replicate, List.take_succ_cons, List.take_zero, List.take_nil, List.take_length, and_self, Bool.false_eq_true, Bool.not_true, Bool.not_false, decide_true, decide_false, raiseI_run1, raiseI_run2, tryO_next, tryO_ret, tryH_nil, unbind_next, unbind_ret, eXf_run, par3R_run, newLR_0, newLR_1, kmR_run, kmR2_run, asK_run, asN_run, getRL_run, getKL_run, ngo0_run, ngo1_run, ngoR_run, ownN_run, ownNR_run, npK_run, starR_run, itNItems_run, itNKeys_run, oDictK_run, opIn2_K, opKIx_run, keyK_int, copyLR_lst, copyLR_tup, gT2_run, nValsD_run, Option.getD_some, tup_0, lst_0, tup_1, lst_1, tup_2, lst_2, tup_3, lst_3, tup_4, lst_4, tup_5, lst_5, tup_6, lst_6, tup_7, lst_7, tup_8, lst_8, tup_9, lst_9, tup_10, lst_10, tup_11, lst_11, tup_12, lst_12, new_0, new_1, new_2, new_3, new_4, new_5, ↓reduceIte, Nat.reduceAdd, $xs,*] at $h:ident)
theorem eSortSet_run {ρ : Rho} {ω : Om} (f : FE D) : eSortSet f ρ ω = bindL (f ρ ω) (k := ⟨fun x ω1 => Res.lift (oSortSet x) ω1⟩) := rfl
def can (s : List Int) (ps : List Plug) : Bool := !(rightP s ps).isEmpty
section
variable {s : List Int} {ps : List Plug}
theorem can_all_run (P : PsOk s ps) : F_can_all [stripD s, plugsD ps] = some (.ok (.bl (can s ps))) := by
  have hc := count_run (fx := []) P (allW_asc (ps := ps)) allW_lt
  have e : fixD [] = [] := rfl
  rw [e] at hc
  have hl := P.len
  have hd : decide ((0 : Int) < ((rightP s ps).length : Int)) = can s ps := by
    unfold can
    cases hv : rightP s ps with
    | nil => rfl
    | cons q r => rw [decide_eq_true (by rw [List.length_cons]; omega)]; rfl
  unfold F_can_all
  rw [fnP_run (by rfl)]
  unfold f_can_all
  push_cast [everyone_run (ps := ps) (by omega), hc, hd]
end
end Pk
namespace Pk
open PySem Dl L2
local macro_rules
  | `(tactic| push_cast [$xs,*]) => `(tactic| simp -implicitDefEqProofs only [↓eC_run, ↓eVar_run, ↓eSlot_run, ↓eBin_run, ↓eUn_run, ↓eTest_run, ↓eAndT_run, ↓eOrT_run, ↓eNotT_run, ↓eTrue_run, ↓eAnd_run, ↓eOr_run, ↓eNot_run, ↓eIf_run, ↓aNil_run, ↓aCons_run, ↓aVal_run, ↓eTup_run, ↓eList_run, ↓eLst_run, ↓eCallB_run, ↓eOnL_run, ↓eIsi_run, ↓eSl_run, ↓ePart_run, ↓eNoPart_run, ↓eChain_run, ↓eIxO_run, ↓eOwnL_run, ↓sNext_run, ↓sSeq_run, ↓sIf_run, ↓sExpr_run, ↓sRet_run, ↓sRetS_run, ↓sRetN_run, ↓sBreak_run, ↓sCont_run, ↓sAsg_run, ↓sSetS_run, ↓sPar_run, ↓sFor_run, ↓sWhile_run, ↓eIt1_run, ↓eIt2_run, ↓eIt3_run, ↓eLc_run, ↓eLc2_run, ↓sNewL_run, ↓sApp_run, ↓sSetIx_run, ↓sRetL_run, ↓sRetNew_run, ↓eCallP_run, ↓eCallE_run, ↓eVal_run, ↓eMake_run, ↓eFld_run, ↓sRaise_run, ↓sRaiseI_run, ↓sTry_run, ↓eIsx_run, ↓sPar3_run, ↓eNewL_run, ↓eNDisp_run, ↓eKDisp_run, ↓eEmptyK_run, ↓eNewN_run, ↓eKM_run, ↓eNGet_run, ↓eKGet_run, ↓eNGetO_run, ↓eCopyN_run, ↓sNPut_run, ↓aStar_run, ↓eRg1_run, ↓eIsi2_run, ↓eCopyL_run, ↓eNVals_run, ↓eSortSet_run, bind_ok, bind_exc, out_ok, out_exc, lift_some, obind_next, obind_ret, obind_exc, obind_brk, obind_cont, varR_run, slotR_run, asBl_run, allD_nil, allD_cons, asLst_run, asI_run, chR_run, ownK_run, ownKR_run, ownL_run, ownLR_run, someR_run, someO_run, ixI_run, parR_run, gN_run, gsNil_run, gsCons_run, itSeq_lst, itSeq_tup, itEn_lst, itEn_tup, itZ_lst, itZ_tup, wipeR_nil, wipeR_cons, setIxR_run, finP_ret, finP_next, finP_exc, finE_ret, finE_next, finE_exc, callR_ok, callR_err, valR_run, makeR_ok, makeR_exc, opAdd_int, opI_run, opB_run, opMulA_int, opEq_run, opNe_run, opIsN_run, opNotN_run, opIx_tup, opIx_lst, opNeg_run, oLen_tup, oLen_lst, oInt_int, oInt_bl, oTuple_tup, oTuple_lst, oList_tup, oList_lst, oTupleL_run, oListL_run, oLenL_run, isi_int_non, isi_int_bl, isi_int_int, isi_int_str, isi_int_tup, isi_int_lst, isi_bool_non, isi_bool_bl, isi_bool_int, isi_bool_str, isi_bool_tup, isi_bool_lst, isi_tuple_non, isi_tuple_bl, isi_tuple_int, isi_tuple_str, isi_tuple_tup, isi_tuple_lst, isi_str_non, isi_str_bl, isi_str_int, isi_str_str, isi_str_tup, isi_str_lst, isi_list_non, isi_list_bl, isi_list_int, isi_list_str, isi_list_tup, isi_list_lst, atI_0, atI_1, atI_2, atI_3, atI_4, atI_5, atI_6, atI_7, atI_8, ixN_1_0, ixN_2_0, ixN_2_1, ixN_3_0, ixN_3_1, ixN_3_2, ixN_4_0, ixN_4_1, ixN_4_2, ixN_4_3, ixN_5_0, ixN_5_1, ixN_5_2, ixN_5_3, ixN_5_4, eqD_int, eqD_bl, eqD_non_non, isNon_non, isNon_bl, isNon_int, isNon_str, isNon_tup, isNon_lst, Option.map_some, Option.map_none, Option.bind_some, List.getElem?_cons_zero, List.getElem?_cons_succ, List.set_cons_zero, List.set_cons_succ, List.map_cons, List.map_nil, List.length_cons, List.length_nil, List.cons_append, List.nil_append, rho0, List.replicate, List.take_succ_cons, List.take_zero, List.take_nil, List.take_length, and_self, Bool.false_eq_true, Bool.not_true, Bool.not_false, decide_true, decide_false, raiseI_run1, raiseI_run2, tryO_next, tryO_ret, tryH_nil, unbind_next, unbind_ret, eXf_run, par3R_run, newLR_0, newLR_1, kmR_run, kmR2_run, asK_run, asN_run, getRL_run, getKL_run, ngo0_run, ngo1_run, ngoR_run, ownN_run, ownNR_run, npK_run, starR_run, itNItems_run, itNKeys_run, oDictK_run, opIn2_K, opKIx_run, keyK_int, copyLR_lst, copyLR_tup, gT2_run, nValsD_run, Option.getD_some, tup_0, lst_0, tup_1, lst_1, tup_2, lst_2, tup_3, lst_3, tup_4, lst_4, tup_5, lst_5, tup_6, lst_6, tup_7, lst_7, tup_8, lst_8, tup_9, lst_9, tup_10, lst_10, tup_11, lst_11, tup_12, lst_12, new_0, new_1, new_2, new_3, new_4, new_5, ↓reduceIte, Nat.reduceAdd, $xs,*])
  | `(tactic| push_cast [$xs,*] at $h:ident) => `(tactic| simp -implicitDefEqProofs only [↓eC_run, ↓eVar_run, ↓eSlot_run, ↓eBin_run, ↓eUn_run, ↓eTest_run, ↓eAndT_run, ↓eOrT_run, ↓eNotT_run, ↓eTrue_run, ↓eAnd_run, ↓eOr_run, ↓eNot_run, ↓eIf_run, ↓aNil_run, ↓aCons_run, ↓aVal_run, ↓eTup_run, ↓eList_run, ↓eLst_run, ↓eCallB_run, ↓eOnL_run, ↓eIsi_run, ↓eSl_run, ↓ePart_run, ↓eNoPart_run, ↓eChain_run, ↓eIxO_run, ↓eOwnL_run, ↓sNext_run, ↓sSeq_run, ↓sIf_run, ↓sExpr_run, ↓sRet_run, ↓sRetS_run, ↓sRetN_run, ↓sBreak_run, ↓sCont_run, ↓sAsg_run, ↓sSetS_run, ↓sPar_run, ↓sFor_run, ↓sWhile_run, ↓eIt1_run, ↓eIt2_run, ↓eIt3_run, ↓eLc_run, ↓eLc2_run, ↓sNewL_run, ↓sApp_run, ↓sSetIx_run, ↓sRetL_run, ↓sRetNew_run, ↓eCallP_run, ↓eCallE_run, ↓eVal_run, ↓eMake_run, ↓eFld_run, ↓sRaise_run, ↓sRaiseI_run, ↓sTry_run, ↓eIsx_run, ↓sPar3_run, ↓eNewL_run, ↓eNDisp_run, ↓eKDisp_run, ↓eEmptyK_run, ↓eNewN_run, ↓eKM_run, ↓eNGet_run, ↓eKGet_run, ↓eNGetO_run, ↓eCopyN_run, ↓sNPut_run, ↓aStar_run, ↓eRg1_run, ↓eIsi2_run, ↓eCopyL_run, ↓eNVals_run, ↓eSortSet_run, bind_ok, bind_exc, out_ok, out_exc, lift_some, obind_next, obind_ret, obind_exc, obind_brk, obind_cont, varR_run, slotR_run, asBl_run, allD_nil, allD_cons, asLst_run, asI_run, chR_run, ownK_run, ownKR_run, ownL_run, ownLR_run, someR_run, someO_run, ixI_run, parR_run, gN_run, gsNil_run, gsCons_run, itSeq_lst, itSeq_tup, itEn_lst, itEn_tup, itZ_lst, itZ_tup, wipeR_nil, wipeR_cons, setIxR_run, finP_ret, finP_next, finP_exc, finE_ret, finE_next, finE_exc, callR_ok, callR_err, valR_run, makeR_ok, makeR_exc, opAdd_int, opI_run, opB_run, opMulA_int, opEq_run, opNe_run, opIsN_run, opNotN_run, opIx_tup, opIx_lst, opNeg_run, oLen_tup, oLen_lst, oInt_int, oInt_bl, oTuple_tup, oTuple_lst, oList_tup, oList_lst, oTupleL_run, oListL_run, oLenL_run, isi_int_non, isi_int_bl, isi_int_int, isi_int_str, isi_int_tup, isi_int_lst, isi_bool_non, isi_bool_bl, isi_bool_int, isi_bool_str, isi_bool_tup, isi_bool_lst, isi_tuple_non, isi_tuple_bl, isi_tuple_int, isi_tuple_str, isi_tuple_tup, isi_tuple_lst, isi_str_non, isi_str_bl, isi_str_int, isi_str_str, isi_str_tup, isi_str_lst, isi_list_non, isi_list_bl, isi_list_int, isi_list_str, isi_list_tup, isi_list_lst, atI_0, atI_1, atI_2, atI_3, atI_4, atI_5, atI_6, atI_7, atI_8, ixN_1_0, ixN_2_0, ixN_2_1, ixN_3_0, ixN_3_1, ixN_3_2, ixN_4_0, ixN_4_1, ixN_4_2, ixN_4_3, ixN_5_0, ixN_5_1, ixN_5_2, ixN_5_3, ixN_5_4, eqD_int, eqD_bl, eqD_non_non, isNon_non, isNon_bl, isNon_int, isNon_str, isNon_tup, isNon_lst, Option.map_some, Option.map_none, Option.bind_some, List.getElem?_cons_zero, List.getElem?_cons_succ, List.set_cons_zero, List.set_cons_succ, List.map_cons, List.map_nil, List.length_cons, List.length_nil, List.cons_append, List.nil_append, rho0, List.replicate, List.take_succ_cons, List.take_zero, List.take_nil, List.take_length, and_self, Bool.false_eq_true, Bool.not_true, Bool.not_false, decide_true, decide_false, raiseI_run1, raiseI_run2, tryO_next, tryO_ret, tryH_nil, unbind_next, unbind_ret, eXf_run, par3R_run, newLR_0, newLR_1, kmR_run, kmR2_run, asK_run, asN_run, getRL_run, getKL_run, ngo0_run, ngo1_run, ngoR_run, ownN_run, ownNR_run, npK_run, starR_run, itNItems_run, itNKeys_run, oDictK_run, opIn2_K, opKIx_run, keyK_int, copyLR_lst, copyLR_tup, gT2_run, nValsD_run, Option.getD_some, tup_0, lst_0, tup_1, lst_1, tup_2, lst_2, tup_3, lst_3, tup_4, lst_4, tup_5, lst_5, tup_6, lst_6, tup_7, lst_7, tup_8, lst_8, tup_9, lst_9, tup_10, lst_10, tup_11, lst_11, tup_12, lst_12, new_0, new_1, new_2, new_3, new_4, new_5, ↓reduceIte, Nat.reduceAdd, $xs,*] at $h:ident)
section
variable {s : List Int} {ps : List Plug}
def hpT (s : List Int) (ps : List Plug) (x : Nat) : Bool := !s.contains (x : Int) && can (insS (x : Int) s) ps
def hlp (s : List Int) (ps : List Plug) : List Nat := (List.range 301).filter (hpT s ps)
end
section
variable {s : List Int} {ps : List Plug}
def hI (s : List Int) (ps : List Plug) : List Int := (hlp s ps).map fun n : Nat => (n : Int)
end
theorem cutL (ds : List D) (k : Nat) : slD none (some (k : Int)) (.lst ds) = some (.lst (ds.take k)) := by
  have := cut_lo ds k
  unfold slD at this ⊢
  dsimp only at this ⊢
  injection this with h
  injection h with h
  rw [h]
def extR (ρ : Rho) (d : D) (o : Option (List D)) (k : Nat) (ω : Om) : Out := match d, o with
  | .lst es, some ds => if ds.length + es.length ≤ lim then .next ρ (ω.set k (some (.lst (ds ++ es)))) else .stuck
  | _, _ => .stuck
theorem sExt_run {i : Nat} {ρ : Rho} {ω : Om} (f : FE D) : sExt i f ρ ω = someOL (ownK ρ i) (k := ⟨fun k => someOL (ownL ω k) (k := ⟨fun _ => outL (f ρ ω) ρ (k := ⟨fun d ω1 => extR ρ d (ownL ω1 k) k ω1⟩)⟩)⟩) := by
  show sExt i f ρ ω = someO (ownK ρ i) fun k => someO (ownL ω k) fun _ => (f ρ ω).out ρ fun d ω1 => extR ρ d (ownL ω1 k) k ω1
  unfold sExt someO
  cases ownK ρ i with
  | none => rfl
  | some k =>
    dsimp only
    cases ownL ω k with
    | none => rfl
    | some _ => rfl
theorem extR_run {ρ : Rho} {es ds : List D} {k : Nat} {ω : Om} : extR ρ (.lst es) (some ds) k ω = if ds.length + es.length ≤ lim then .next ρ (ω.set k (some (.lst (ds ++ es)))) else .stuck := rfl
end Pk
namespace Pk
open PySem Dl L2
local macro_rules
  | `(tactic| push_cast [$xs,*]) => `(tactic| simp -implicitDefEqProofs only [↓eC_run, ↓eVar_run, ↓eSlot_run, ↓eBin_run, ↓eUn_run, ↓eTest_run, ↓eAndT_run, ↓eOrT_run, ↓eNotT_run, ↓eTrue_run, ↓eAnd_run, ↓eOr_run, ↓eNot_run, ↓eIf_run, ↓aNil_run, ↓aCons_run, ↓aVal_run, ↓eTup_run, ↓eList_run, ↓eLst_run, ↓eCallB_run, ↓eOnL_run, ↓eIsi_run, ↓eSl_run, ↓ePart_run, ↓eNoPart_run, ↓eChain_run, ↓eIxO_run, ↓eOwnL_run, ↓sNext_run, ↓sSeq_run, ↓sIf_run, ↓sExpr_run, ↓sRet_run, ↓sRetS_run, ↓sRetN_run, ↓sBreak_run, ↓sCont_run, ↓sAsg_run, ↓sSetS_run, ↓sPar_run, ↓sFor_run, ↓sWhile_run, ↓eIt1_run, ↓eIt2_run, ↓eIt3_run, ↓eLc_run, ↓eLc2_run, ↓sNewL_run, ↓sApp_run, ↓sSetIx_run, ↓sRetL_run, ↓sRetNew_run, ↓eCallP_run, ↓eCallE_run, ↓eVal_run, ↓eMake_run, ↓eFld_run, ↓sRaise_run, ↓sRaiseI_run, ↓sTry_run, ↓eIsx_run, ↓sPar3_run, ↓eNewL_run, ↓eNDisp_run, ↓eKDisp_run, ↓eEmptyK_run, ↓eNewN_run, ↓eKM_run, ↓eNGet_run, ↓eKGet_run, ↓eNGetO_run, ↓eCopyN_run, ↓sNPut_run, ↓aStar_run, ↓eRg1_run, ↓eIsi2_run, ↓eCopyL_run, ↓eNVals_run, ↓sExt_run, bind_ok, bind_exc, out_ok, out_exc, lift_some, obind_next, obind_ret, obind_exc, obind_brk, obind_cont, varR_run, slotR_run, asBl_run, allD_nil, allD_cons, asLst_run, asI_run, chR_run, ownK_run, ownKR_run, ownL_run, ownLR_run, someR_run, someO_run, ixI_run, parR_run, gN_run, gsNil_run, gsCons_run, itSeq_lst, itSeq_tup, itEn_lst, itEn_tup, itZ_lst, itZ_tup, wipeR_nil, wipeR_cons, setIxR_run, finP_ret, finP_next, finP_exc, finE_ret, finE_next, finE_exc, callR_ok, callR_err, valR_run, makeR_ok, makeR_exc, opAdd_int, opI_run, opB_run, opMulA_int, opEq_run, opNe_run, opIsN_run, opNotN_run, opIx_tup, opIx_lst, opNeg_run, oLen_tup, oLen_lst, oInt_int, oInt_bl, oTuple_tup, oTuple_lst, oList_tup, oList_lst, oTupleL_run, oListL_run, oLenL_run, isi_int_non, isi_int_bl, isi_int_int, isi_int_str, isi_int_tup, isi_int_lst, isi_bool_non, isi_bool_bl, isi_bool_int, isi_bool_str, isi_bool_tup, isi_bool_lst, isi_tuple_non, isi_tuple_bl, isi_tuple_int, isi_tuple_str, isi_tuple_tup, isi_tuple_lst, isi_str_non, isi_str_bl, isi_str_int, isi_str_str, isi_str_tup, isi_str_lst, isi_list_non, isi_list_bl, isi_list_int, isi_list_str, isi_list_tup, isi_list_lst, atI_0, atI_1, atI_2, atI_3, atI_4, atI_5, atI_6, atI_7, atI_8, ixN_1_0, ixN_2_0, ixN_2_1, ixN_3_0, ixN_3_1, ixN_3_2, ixN_4_0, ixN_4_1, ixN_4_2, ixN_4_3, ixN_5_0, ixN_5_1, ixN_5_2, ixN_5_3, ixN_5_4, eqD_int, eqD_bl, eqD_non_non, isNon_non, isNon_bl, isNon_int, isNon_str, isNon_tup, isNon_lst, Option.map_some, Option.map_none, Option.bind_some, List.getElem?_cons_zero, List.getElem?_cons_succ, List.set_cons_zero, List.set_cons_succ, List.map_cons, List.map_nil, List.length_cons, List.length_nil, List.cons_append, List.nil_append, rho0, List.replicate, List.take_succ_cons, List.take_zero, List.take_nil, List.take_length, and_self, Bool.false_eq_true, Bool.not_true, Bool.not_false, decide_true, decide_false, raiseI_run1, raiseI_run2, tryO_next, tryO_ret, tryH_nil, unbind_next, unbind_ret, eXf_run, par3R_run, newLR_0, newLR_1, kmR_run, kmR2_run, asK_run, asN_run, getRL_run, getKL_run, ngo0_run, ngo1_run, ngoR_run, ownN_run, ownNR_run, npK_run, starR_run, itNItems_run, itNKeys_run, oDictK_run, opIn2_K, opKIx_run, keyK_int, copyLR_lst, copyLR_tup, gT2_run, nValsD_run, Option.getD_some, tup_0, lst_0, tup_1, lst_1, tup_2, lst_2, tup_3, lst_3, tup_4, lst_4, tup_5, lst_5, tup_6, lst_6, tup_7, lst_7, tup_8, lst_8, tup_9, lst_9, tup_10, lst_10, tup_11, lst_11, tup_12, lst_12, new_0, new_1, new_2, new_3, new_4, new_5, extR_run, ↓reduceIte, Nat.reduceAdd, $xs,*])
  | `(tactic| push_cast [$xs,*] at $h:ident) => `(tactic| simp -implicitDefEqProofs only [↓eC_run, ↓eVar_run, ↓eSlot_run, ↓eBin_run, ↓eUn_run, ↓eTest_run, ↓eAndT_run, ↓eOrT_run, ↓eNotT_run, ↓eTrue_run, ↓eAnd_run, ↓eOr_run, ↓eNot_run, ↓eIf_run, ↓aNil_run, ↓aCons_run, ↓aVal_run, ↓eTup_run, ↓eList_run, ↓eLst_run, ↓eCallB_run, ↓eOnL_run, ↓eIsi_run, ↓eSl_run, ↓ePart_run, ↓eNoPart_run, ↓eChain_run, ↓eIxO_run, ↓eOwnL_run, ↓sNext_run, ↓sSeq_run, ↓sIf_run, ↓sExpr_run, ↓sRet_run, ↓sRetS_run, ↓sRetN_run, ↓sBreak_run, ↓sCont_run, ↓sAsg_run, ↓sSetS_run, ↓sPar_run, ↓sFor_run, ↓sWhile_run, ↓eIt1_run, ↓eIt2_run, ↓eIt3_run, ↓eLc_run, ↓eLc2_run, ↓sNewL_run, ↓sApp_run, ↓sSetIx_run, ↓sRetL_run, ↓sRetNew_run, ↓eCallP_run, ↓eCallE_run, ↓eVal_run, ↓eMake_run, ↓eFld_run, ↓sRaise_run, ↓sRaiseI_run, ↓sTry_run, ↓eIsx_run, ↓sPar3_run, ↓eNewL_run, ↓eNDisp_run, ↓eKDisp_run, ↓eEmptyK_run, ↓eNewN_run, ↓eKM_run, ↓eNGet_run, ↓eKGet_run, ↓eNGetO_run, ↓eCopyN_run, ↓sNPut_run, ↓aStar_run, ↓eRg1_run, ↓eIsi2_run, ↓eCopyL_run, ↓eNVals_run, ↓sExt_run, bind_ok, bind_exc, out_ok, out_exc, lift_some, obind_next, obind_ret, obind_exc, obind_brk, obind_cont, varR_run, slotR_run, asBl_run, allD_nil, allD_cons, asLst_run, asI_run, chR_run, ownK_run, ownKR_run, ownL_run, ownLR_run, someR_run, someO_run, ixI_run, parR_run, gN_run, gsNil_run, gsCons_run, itSeq_lst, itSeq_tup, itEn_lst, itEn_tup, itZ_lst, itZ_tup, wipeR_nil, wipeR_cons, setIxR_run, finP_ret, finP_next, finP_exc, finE_ret, finE_next, finE_exc, callR_ok, callR_err, valR_run, makeR_ok, makeR_exc, opAdd_int, opI_run, opB_run, opMulA_int, opEq_run, opNe_run, opIsN_run, opNotN_run, opIx_tup, opIx_lst, opNeg_run, oLen_tup, oLen_lst, oInt_int, oInt_bl, oTuple_tup, oTuple_lst, oList_tup, oList_lst, oTupleL_run, oListL_run, oLenL_run, isi_int_non, isi_int_bl, isi_int_int, isi_int_str, isi_int_tup, isi_int_lst, isi_bool_non, isi_bool_bl, isi_bool_int, isi_bool_str, isi_bool_tup, isi_bool_lst, isi_tuple_non, isi_tuple_bl, isi_tuple_int, isi_tuple_str, isi_tuple_tup, isi_tuple_lst, isi_str_non, isi_str_bl, isi_str_int, isi_str_str, isi_str_tup, isi_str_lst, isi_list_non, isi_list_bl, isi_list_int, isi_list_str, isi_list_tup, isi_list_lst, atI_0, atI_1, atI_2, atI_3, atI_4, atI_5, atI_6, atI_7, atI_8, ixN_1_0, ixN_2_0, ixN_2_1, ixN_3_0, ixN_3_1, ixN_3_2, ixN_4_0, ixN_4_1, ixN_4_2, ixN_4_3, ixN_5_0, ixN_5_1, ixN_5_2, ixN_5_3, ixN_5_4, eqD_int, eqD_bl, eqD_non_non, isNon_non, isNon_bl, isNon_int, isNon_str, isNon_tup, isNon_lst, Option.map_some, Option.map_none, Option.bind_some, List.getElem?_cons_zero, List.getElem?_cons_succ, List.set_cons_zero, List.set_cons_succ, List.map_cons, List.map_nil, List.length_cons, List.length_nil, List.cons_append, List.nil_append, rho0, List.replicate, List.take_succ_cons, List.take_zero, List.take_nil, List.take_length, and_self, Bool.false_eq_true, Bool.not_true, Bool.not_false, decide_true, decide_false, raiseI_run1, raiseI_run2, tryO_next, tryO_ret, tryH_nil, unbind_next, unbind_ret, eXf_run, par3R_run, newLR_0, newLR_1, kmR_run, kmR2_run, asK_run, asN_run, getRL_run, getKL_run, ngo0_run, ngo1_run, ngoR_run, ownN_run, ownNR_run, npK_run, starR_run, itNItems_run, itNKeys_run, oDictK_run, opIn2_K, opKIx_run, keyK_int, copyLR_lst, copyLR_tup, gT2_run, nValsD_run, Option.getD_some, tup_0, lst_0, tup_1, lst_1, tup_2, lst_2, tup_3, lst_3, tup_4, lst_4, tup_5, lst_5, tup_6, lst_6, tup_7, lst_7, tup_8, lst_8, tup_9, lst_9, tup_10, lst_10, tup_11, lst_11, tup_12, lst_12, new_0, new_1, new_2, new_3, new_4, new_5, extR_run, ↓reduceIte, Nat.reduceAdd, $xs,*] at $h:ident)
def froms (lo n : Nat) : List Nat := (List.range (n - lo)).map (lo + ·)
theorem mem_froms {lo n k : Nat} : k ∈ froms lo n ↔ lo ≤ k ∧ k < n := by
  unfold froms
  rw [List.mem_map]
  constructor
  · rintro ⟨a, h, rfl⟩
    have := List.mem_range.mp h
    omega
  · intro h
    exact ⟨k - lo, List.mem_range.mpr (by omega), by omega⟩
def fitsAt (s : List Int) (p : Plug) (t : Bool) (e : Int) (k : Nat) : Bool := decide (e ≤ s.getD k 0 - sideL p t)
def nxt (s : List Int) (p : Plug) (t : Bool) (lo : Nat) (e : Int) : Option Nat := (froms lo s.length).find? (fitsAt s p t e)
section
variable {s : List Int} {ps : List Plug}
theorem it_froms {lo n : Nat} (h1 : lo ≤ 1000) (h2 : n ≤ 1000) : itR2 (.int ((lo : Int) - 1 + 1)) (.int (n : Int)) = some ((froms lo n).map nD) := by
  show (if _ then some (rngD ((lo : Int) - 1 + 1) (n : Int)) else none) = _
  rw [if_pos ⟨by show -4611686018427387904 ≤ _; omega, by show _ < 4611686018427387904; omega, by show -4611686018427387904 ≤ _; omega, by show _ < 4611686018427387904; omega⟩]
  unfold rngD froms
  rw [List.map_map, show ((n : Int) - ((lo : Int) - 1 + 1)).toNat = n - lo by omega]
  congr 1
  refine List.map_congr_left fun i _ => ?_
  show D.int _ = D.int _
  congr 1
  show (lo : Int) - 1 + 1 + (i : Int) = ((lo + i : Nat) : Int)
  omega
end
section
variable (s : List Int) (ps : List Plug)
end
section
variable {s : List Int} {ps : List Plug}
end
end Pk
namespace Pk
open PySem Dl L2
local macro_rules
  | `(tactic| push_cast [$xs,*]) => `(tactic| simp -implicitDefEqProofs only [↓eC_run, ↓eVar_run, ↓eSlot_run, ↓eBin_run, ↓eUn_run, ↓eTest_run, ↓eAndT_run, ↓eOrT_run, ↓eNotT_run, ↓eTrue_run, ↓eAnd_run, ↓eOr_run, ↓eNot_run, ↓eIf_run, ↓aNil_run, ↓aCons_run, ↓aVal_run, ↓eTup_run, ↓eList_run, ↓eLst_run, ↓eCallB_run, ↓eOnL_run, ↓eIsi_run, ↓eSl_run, ↓ePart_run, ↓eNoPart_run, ↓eChain_run, ↓eIxO_run, ↓eOwnL_run, ↓sNext_run, ↓sSeq_run, ↓sIf_run, ↓sExpr_run, ↓sRet_run, ↓sRetS_run, ↓sRetN_run, ↓sBreak_run, ↓sCont_run, ↓sAsg_run, ↓sSetS_run, ↓sPar_run, ↓sFor_run, ↓sWhile_run, ↓eIt1_run, ↓eIt2_run, ↓eIt3_run, ↓eLc_run, ↓eLc2_run, ↓sNewL_run, ↓sApp_run, ↓sSetIx_run, ↓sRetL_run, ↓sRetNew_run, ↓eCallP_run, ↓eCallE_run, ↓eVal_run, ↓eMake_run, ↓eFld_run, ↓sRaise_run, ↓sRaiseI_run, ↓sTry_run, ↓eIsx_run, ↓sPar3_run, ↓eNewL_run, ↓eNDisp_run, ↓eKDisp_run, ↓eEmptyK_run, ↓eNewN_run, ↓eKM_run, ↓eNGet_run, ↓eKGet_run, ↓eNGetO_run, ↓eCopyN_run, ↓sNPut_run, ↓aStar_run, ↓eRg1_run, ↓eIsi2_run, ↓eCopyL_run, ↓eNVals_run, bind_ok, bind_exc, out_ok, out_exc, lift_some, obind_next, obind_ret, obind_exc, obind_brk, obind_cont, varR_run, slotR_run, asBl_run, allD_nil, allD_cons, asLst_run, asI_run, chR_run, ownK_run, ownKR_run, ownL_run, ownLR_run, someR_run, someO_run, ixI_run, parR_run, gN_run, gsNil_run, gsCons_run, itSeq_lst, itSeq_tup, itEn_lst, itEn_tup, itZ_lst, itZ_tup, wipeR_nil, wipeR_cons, setIxR_run, finP_ret, finP_next, finP_exc, finE_ret, finE_next, finE_exc, callR_ok, callR_err, valR_run, makeR_ok, makeR_exc, opAdd_int, opI_run, opB_run, opMulA_int, opEq_run, opNe_run, opIsN_run, opNotN_run, opIx_tup, opIx_lst, opNeg_run, oLen_tup, oLen_lst, oInt_int, oInt_bl, oTuple_tup, oTuple_lst, oList_tup, oList_lst, oTupleL_run, oListL_run, oLenL_run, isi_int_non, isi_int_bl, isi_int_int, isi_int_str, isi_int_tup, isi_int_lst, isi_bool_non, isi_bool_bl, isi_bool_int, isi_bool_str, isi_bool_tup, isi_bool_lst, isi_tuple_non, isi_tuple_bl, isi_tuple_int, isi_tuple_str, isi_tuple_tup, isi_tuple_lst, isi_str_non, isi_str_bl, isi_str_int, isi_str_str, isi_str_tup, isi_str_lst, isi_list_non, isi_list_bl, isi_list_int, isi_list_str, isi_list_tup, isi_list_lst, atI_0, atI_1, atI_2, atI_3, atI_4, atI_5, atI_6, atI_7, atI_8, ixN_1_0, ixN_2_0, ixN_2_1, ixN_3_0, ixN_3_1, ixN_3_2, ixN_4_0, ixN_4_1, ixN_4_2, ixN_4_3, ixN_5_0, ixN_5_1, ixN_5_2, ixN_5_3, ixN_5_4, eqD_int, eqD_bl, eqD_non_non, isNon_non, isNon_bl, isNon_int, isNon_str, isNon_tup, isNon_lst, Option.map_some, Option.map_none, Option.bind_some, List.getElem?_cons_zero, List.getElem?_cons_succ, List.set_cons_zero, List.set_cons_succ, List.map_cons, List.map_nil, List.length_cons, List.length_nil, List.cons_append, List.nil_append, rho0, List.replicate, List.take_succ_cons, List.take_zero, List.take_nil, List.take_length, and_self, Bool.false_eq_true, Bool.not_true, Bool.not_false, decide_true, decide_false, raiseI_run1, raiseI_run2, tryO_next, tryO_ret, tryH_nil, unbind_next, unbind_ret, eXf_run, par3R_run, newLR_0, newLR_1, kmR_run, kmR2_run, asK_run, asN_run, getRL_run, getKL_run, ngo0_run, ngo1_run, ngoR_run, ownN_run, ownNR_run, npK_run, starR_run, itNItems_run, itNKeys_run, oDictK_run, opIn2_K, opKIx_run, keyK_int, copyLR_lst, copyLR_tup, gT2_run, nValsD_run, Option.getD_some, tup_0, lst_0, tup_1, lst_1, tup_2, lst_2, tup_3, lst_3, tup_4, lst_4, tup_5, lst_5, tup_6, lst_6, tup_7, lst_7, tup_8, lst_8, tup_9, lst_9, tup_10, lst_10, tup_11, lst_11, tup_12, lst_12, new_0, new_1, new_2, new_3, new_4, new_5, ↓reduceIte, Nat.reduceAdd, $xs,*])
  | `(tactic| push_cast [$xs,*] at $h:ident) => `(tactic| simp -implicitDefEqProofs only [↓eC_run, ↓eVar_run, ↓eSlot_run, ↓eBin_run, ↓eUn_run, ↓eTest_run, ↓eAndT_run, ↓eOrT_run, ↓eNotT_run, ↓eTrue_run, ↓eAnd_run, ↓eOr_run, ↓eNot_run, ↓eIf_run, ↓aNil_run, ↓aCons_run, ↓aVal_run, ↓eTup_run, ↓eList_run, ↓eLst_run, ↓eCallB_run, ↓eOnL_run, ↓eIsi_run, ↓eSl_run, ↓ePart_run, ↓eNoPart_run, ↓eChain_run, ↓eIxO_run, ↓eOwnL_run, ↓sNext_run, ↓sSeq_run, ↓sIf_run, ↓sExpr_run, ↓sRet_run, ↓sRetS_run, ↓sRetN_run, ↓sBreak_run, ↓sCont_run, ↓sAsg_run, ↓sSetS_run, ↓sPar_run, ↓sFor_run, ↓sWhile_run, ↓eIt1_run, ↓eIt2_run, ↓eIt3_run, ↓eLc_run, ↓eLc2_run, ↓sNewL_run, ↓sApp_run, ↓sSetIx_run, ↓sRetL_run, ↓sRetNew_run, ↓eCallP_run, ↓eCallE_run, ↓eVal_run, ↓eMake_run, ↓eFld_run, ↓sRaise_run, ↓sRaiseI_run, ↓sTry_run, ↓eIsx_run, ↓sPar3_run, ↓eNewL_run, ↓eNDisp_run, ↓eKDisp_run, ↓eEmptyK_run, ↓eNewN_run, ↓eKM_run, ↓eNGet_run, ↓eKGet_run, ↓eNGetO_run, ↓eCopyN_run, ↓sNPut_run, ↓aStar_run, ↓eRg1_run, ↓eIsi2_run, ↓eCopyL_run, ↓eNVals_run, bind_ok, bind_exc, out_ok, out_exc, lift_some, obind_next, obind_ret, obind_exc, obind_brk, obind_cont, varR_run, slotR_run, asBl_run, allD_nil, allD_cons, asLst_run, asI_run, chR_run, ownK_run, ownKR_run, ownL_run, ownLR_run, someR_run, someO_run, ixI_run, parR_run, gN_run, gsNil_run, gsCons_run, itSeq_lst, itSeq_tup, itEn_lst, itEn_tup, itZ_lst, itZ_tup, wipeR_nil, wipeR_cons, setIxR_run, finP_ret, finP_next, finP_exc, finE_ret, finE_next, finE_exc, callR_ok, callR_err, valR_run, makeR_ok, makeR_exc, opAdd_int, opI_run, opB_run, opMulA_int, opEq_run, opNe_run, opIsN_run, opNotN_run, opIx_tup, opIx_lst, opNeg_run, oLen_tup, oLen_lst, oInt_int, oInt_bl, oTuple_tup, oTuple_lst, oList_tup, oList_lst, oTupleL_run, oListL_run, oLenL_run, isi_int_non, isi_int_bl, isi_int_int, isi_int_str, isi_int_tup, isi_int_lst, isi_bool_non, isi_bool_bl, isi_bool_int, isi_bool_str, isi_bool_tup, isi_bool_lst, isi_tuple_non, isi_tuple_bl, isi_tuple_int, isi_tuple_str, isi_tuple_tup, isi_tuple_lst, isi_str_non, isi_str_bl, isi_str_int, isi_str_str, isi_str_tup, isi_str_lst, isi_list_non, isi_list_bl, isi_list_int, isi_list_str, isi_list_tup, isi_list_lst, atI_0, atI_1, atI_2, atI_3, atI_4, atI_5, atI_6, atI_7, atI_8, ixN_1_0, ixN_2_0, ixN_2_1, ixN_3_0, ixN_3_1, ixN_3_2, ixN_4_0, ixN_4_1, ixN_4_2, ixN_4_3, ixN_5_0, ixN_5_1, ixN_5_2, ixN_5_3, ixN_5_4, eqD_int, eqD_bl, eqD_non_non, isNon_non, isNon_bl, isNon_int, isNon_str, isNon_tup, isNon_lst, Option.map_some, Option.map_none, Option.bind_some, List.getElem?_cons_zero, List.getElem?_cons_succ, List.set_cons_zero, List.set_cons_succ, List.map_cons, List.map_nil, List.length_cons, List.length_nil, List.cons_append, List.nil_append, rho0, List.replicate, List.take_succ_cons, List.take_zero, List.take_nil, List.take_length, and_self, Bool.false_eq_true, Bool.not_true, Bool.not_false, decide_true, decide_false, raiseI_run1, raiseI_run2, tryO_next, tryO_ret, tryH_nil, unbind_next, unbind_ret, eXf_run, par3R_run, newLR_0, newLR_1, kmR_run, kmR2_run, asK_run, asN_run, getRL_run, getKL_run, ngo0_run, ngo1_run, ngoR_run, ownN_run, ownNR_run, npK_run, starR_run, itNItems_run, itNKeys_run, oDictK_run, opIn2_K, opKIx_run, keyK_int, copyLR_lst, copyLR_tup, gT2_run, nValsD_run, Option.getD_some, tup_0, lst_0, tup_1, lst_1, tup_2, lst_2, tup_3, lst_3, tup_4, lst_4, tup_5, lst_5, tup_6, lst_6, tup_7, lst_7, tup_8, lst_8, tup_9, lst_9, tup_10, lst_10, tup_11, lst_11, tup_12, lst_12, new_0, new_1, new_2, new_3, new_4, new_5, ↓reduceIte, Nat.reduceAdd, $xs,*] at $h:ident)
section
variable (s : List Int) (ps : List Plug)
end
section
variable {s : List Int} {ps : List Plug}
end
section
variable {s : List Int} {ps : List Plug}
end
section
variable (s : List Int) (ps : List Plug)
def wlk : Nat → Int → List Place → Option (Nat × Int)
  | lo, e, [] => some (lo, e)
  | lo, e, x :: r => match nxt s (plugAt ps x.1) x.2 lo e with
    | none => none
    | some k => wlk (k + 1) (bEnd s (plugAt ps x.1) (k, x.2)) r
def Ends (row : List Place) (lo : Nat) (e : Int) (o : List Place) : Prop := ∃ r x z, o = row ++ r ++ [x] ∧ Vo ps o ∧ wlk s ps lo e r = some z ∧ nxt s (plugAt ps x.1) x.2 z.1 z.2 = none
end
section
variable {s : List Int} {ps : List Plug}
end
section
variable (s : List Int) (ps : List Plug)
end
section
variable {s : List Int} {ps : List Plug}
end
section
variable {s : List Int} {ps : List Plug}
end
section
variable {s : List Int} {ps : List Plug}
theorem c22 : (((2 : Nat) : Int) == 2) = true := rfl
end
theorem eRg3_run {ρ : Rho} {ω : Om} (f g h : FE D) : eRg3 f g h ρ ω = bindL (f ρ ω) (k := ⟨fun x ω1 => bindL (g ρ ω1) (k := ⟨fun y ω2 => bindL (h ρ ω2) (k := ⟨fun z ω3 => Res.lift (rg3D x y z) ω3⟩)⟩)⟩) := rfl
theorem eLcN_run {ρ : Rho} {ω : Om} (vs) (it : FE (List D)) (tg) (tt) (el : FE D) : eLcN vs it tg tt el ρ ω = bindL (it ρ ω) (k := ⟨fun ds ω1 => lcN tg tt el (wipeR ρ vs) ds [] ω1⟩) := rfl
end Pk
namespace Pk
open PySem Dl L2
local macro_rules
  | `(tactic| push_cast [$xs,*]) => `(tactic| simp -implicitDefEqProofs only [↓eC_run, ↓eVar_run, ↓eSlot_run, ↓eBin_run, ↓eUn_run, ↓eTest_run, ↓eAndT_run, ↓eOrT_run, ↓eNotT_run, ↓eTrue_run, ↓eAnd_run, ↓eOr_run, ↓eNot_run, ↓eIf_run, ↓aNil_run, ↓aCons_run, ↓aVal_run, ↓eTup_run, ↓eList_run, ↓eLst_run, ↓eCallB_run, ↓eOnL_run, ↓eIsi_run, ↓eSl_run, ↓ePart_run, ↓eNoPart_run, ↓eChain_run, ↓eIxO_run, ↓eOwnL_run, ↓sNext_run, ↓sSeq_run, ↓sIf_run, ↓sExpr_run, ↓sRet_run, ↓sRetS_run, ↓sRetN_run, ↓sBreak_run, ↓sCont_run, ↓sAsg_run, ↓sSetS_run, ↓sPar_run, ↓sFor_run, ↓sWhile_run, ↓eIt1_run, ↓eIt2_run, ↓eIt3_run, ↓eLc_run, ↓eLc2_run, ↓sNewL_run, ↓sApp_run, ↓sSetIx_run, ↓sRetL_run, ↓sRetNew_run, ↓eCallP_run, ↓eCallE_run, ↓eVal_run, ↓eMake_run, ↓eFld_run, ↓sRaise_run, ↓sRaiseI_run, ↓sTry_run, ↓eIsx_run, ↓sPar3_run, ↓eNewL_run, ↓eNDisp_run, ↓eKDisp_run, ↓eEmptyK_run, ↓eNewN_run, ↓eKM_run, ↓eNGet_run, ↓eKGet_run, ↓eNGetO_run, ↓eCopyN_run, ↓sNPut_run, ↓aStar_run, ↓eRg1_run, ↓eIsi2_run, ↓eCopyL_run, ↓eNVals_run, ↓eRg3_run, bind_ok, bind_exc, out_ok, out_exc, lift_some, obind_next, obind_ret, obind_exc, obind_brk, obind_cont, varR_run, slotR_run, asBl_run, allD_nil, allD_cons, asLst_run, asI_run, chR_run, ownK_run, ownKR_run, ownL_run, ownLR_run, someR_run, someO_run, ixI_run, parR_run, gN_run, gsNil_run, gsCons_run, itSeq_lst, itSeq_tup, itEn_lst, itEn_tup, itZ_lst, itZ_tup, wipeR_nil, wipeR_cons, setIxR_run, finP_ret, finP_next, finP_exc, finE_ret, finE_next, finE_exc, callR_ok, callR_err, valR_run, makeR_ok, makeR_exc, opAdd_int, opI_run, opB_run, opMulA_int, opEq_run, opNe_run, opIsN_run, opNotN_run, opIx_tup, opIx_lst, opNeg_run, oLen_tup, oLen_lst, oInt_int, oInt_bl, oTuple_tup, oTuple_lst, oList_tup, oList_lst, oTupleL_run, oListL_run, oLenL_run, isi_int_non, isi_int_bl, isi_int_int, isi_int_str, isi_int_tup, isi_int_lst, isi_bool_non, isi_bool_bl, isi_bool_int, isi_bool_str, isi_bool_tup, isi_bool_lst, isi_tuple_non, isi_tuple_bl, isi_tuple_int, isi_tuple_str, isi_tuple_tup, isi_tuple_lst, isi_str_non, isi_str_bl, isi_str_int, isi_str_str, isi_str_tup, isi_str_lst, isi_list_non, isi_list_bl, isi_list_int, isi_list_str, isi_list_tup, isi_list_lst, atI_0, atI_1, atI_2, atI_3, atI_4, atI_5, atI_6, atI_7, atI_8, ixN_1_0, ixN_2_0, ixN_2_1, ixN_3_0, ixN_3_1, ixN_3_2, ixN_4_0, ixN_4_1, ixN_4_2, ixN_4_3, ixN_5_0, ixN_5_1, ixN_5_2, ixN_5_3, ixN_5_4, eqD_int, eqD_bl, eqD_non_non, isNon_non, isNon_bl, isNon_int, isNon_str, isNon_tup, isNon_lst, Option.map_some, Option.map_none, Option.bind_some, List.getElem?_cons_zero, List.getElem?_cons_succ, List.set_cons_zero, List.set_cons_succ, List.map_cons, List.map_nil, List.length_cons, List.length_nil, List.cons_append, List.nil_append, rho0, List.replicate, List.take_succ_cons, List.take_zero, List.take_nil, List.take_length, and_self, Bool.false_eq_true, Bool.not_true, Bool.not_false, decide_true, decide_false, raiseI_run1, raiseI_run2, tryO_next, tryO_ret, tryH_nil, unbind_next, unbind_ret, eXf_run, par3R_run, newLR_0, newLR_1, kmR_run, kmR2_run, asK_run, asN_run, getRL_run, getKL_run, ngo0_run, ngo1_run, ngoR_run, ownN_run, ownNR_run, npK_run, starR_run, itNItems_run, itNKeys_run, oDictK_run, opIn2_K, opKIx_run, keyK_int, copyLR_lst, copyLR_tup, gT2_run, nValsD_run, Option.getD_some, tup_0, lst_0, tup_1, lst_1, tup_2, lst_2, tup_3, lst_3, tup_4, lst_4, tup_5, lst_5, tup_6, lst_6, tup_7, lst_7, tup_8, lst_8, tup_9, lst_9, tup_10, lst_10, tup_11, lst_11, tup_12, lst_12, new_0, new_1, new_2, new_3, new_4, new_5, ↓reduceIte, Nat.reduceAdd, $xs,*])
  | `(tactic| push_cast [$xs,*] at $h:ident) => `(tactic| simp -implicitDefEqProofs only [↓eC_run, ↓eVar_run, ↓eSlot_run, ↓eBin_run, ↓eUn_run, ↓eTest_run, ↓eAndT_run, ↓eOrT_run, ↓eNotT_run, ↓eTrue_run, ↓eAnd_run, ↓eOr_run, ↓eNot_run, ↓eIf_run, ↓aNil_run, ↓aCons_run, ↓aVal_run, ↓eTup_run, ↓eList_run, ↓eLst_run, ↓eCallB_run, ↓eOnL_run, ↓eIsi_run, ↓eSl_run, ↓ePart_run, ↓eNoPart_run, ↓eChain_run, ↓eIxO_run, ↓eOwnL_run, ↓sNext_run, ↓sSeq_run, ↓sIf_run, ↓sExpr_run, ↓sRet_run, ↓sRetS_run, ↓sRetN_run, ↓sBreak_run, ↓sCont_run, ↓sAsg_run, ↓sSetS_run, ↓sPar_run, ↓sFor_run, ↓sWhile_run, ↓eIt1_run, ↓eIt2_run, ↓eIt3_run, ↓eLc_run, ↓eLc2_run, ↓sNewL_run, ↓sApp_run, ↓sSetIx_run, ↓sRetL_run, ↓sRetNew_run, ↓eCallP_run, ↓eCallE_run, ↓eVal_run, ↓eMake_run, ↓eFld_run, ↓sRaise_run, ↓sRaiseI_run, ↓sTry_run, ↓eIsx_run, ↓sPar3_run, ↓eNewL_run, ↓eNDisp_run, ↓eKDisp_run, ↓eEmptyK_run, ↓eNewN_run, ↓eKM_run, ↓eNGet_run, ↓eKGet_run, ↓eNGetO_run, ↓eCopyN_run, ↓sNPut_run, ↓aStar_run, ↓eRg1_run, ↓eIsi2_run, ↓eCopyL_run, ↓eNVals_run, ↓eRg3_run, bind_ok, bind_exc, out_ok, out_exc, lift_some, obind_next, obind_ret, obind_exc, obind_brk, obind_cont, varR_run, slotR_run, asBl_run, allD_nil, allD_cons, asLst_run, asI_run, chR_run, ownK_run, ownKR_run, ownL_run, ownLR_run, someR_run, someO_run, ixI_run, parR_run, gN_run, gsNil_run, gsCons_run, itSeq_lst, itSeq_tup, itEn_lst, itEn_tup, itZ_lst, itZ_tup, wipeR_nil, wipeR_cons, setIxR_run, finP_ret, finP_next, finP_exc, finE_ret, finE_next, finE_exc, callR_ok, callR_err, valR_run, makeR_ok, makeR_exc, opAdd_int, opI_run, opB_run, opMulA_int, opEq_run, opNe_run, opIsN_run, opNotN_run, opIx_tup, opIx_lst, opNeg_run, oLen_tup, oLen_lst, oInt_int, oInt_bl, oTuple_tup, oTuple_lst, oList_tup, oList_lst, oTupleL_run, oListL_run, oLenL_run, isi_int_non, isi_int_bl, isi_int_int, isi_int_str, isi_int_tup, isi_int_lst, isi_bool_non, isi_bool_bl, isi_bool_int, isi_bool_str, isi_bool_tup, isi_bool_lst, isi_tuple_non, isi_tuple_bl, isi_tuple_int, isi_tuple_str, isi_tuple_tup, isi_tuple_lst, isi_str_non, isi_str_bl, isi_str_int, isi_str_str, isi_str_tup, isi_str_lst, isi_list_non, isi_list_bl, isi_list_int, isi_list_str, isi_list_tup, isi_list_lst, atI_0, atI_1, atI_2, atI_3, atI_4, atI_5, atI_6, atI_7, atI_8, ixN_1_0, ixN_2_0, ixN_2_1, ixN_3_0, ixN_3_1, ixN_3_2, ixN_4_0, ixN_4_1, ixN_4_2, ixN_4_3, ixN_5_0, ixN_5_1, ixN_5_2, ixN_5_3, ixN_5_4, eqD_int, eqD_bl, eqD_non_non, isNon_non, isNon_bl, isNon_int, isNon_str, isNon_tup, isNon_lst, Option.map_some, Option.map_none, Option.bind_some, List.getElem?_cons_zero, List.getElem?_cons_succ, List.set_cons_zero, List.set_cons_succ, List.map_cons, List.map_nil, List.length_cons, List.length_nil, List.cons_append, List.nil_append, rho0, List.replicate, List.take_succ_cons, List.take_zero, List.take_nil, List.take_length, and_self, Bool.false_eq_true, Bool.not_true, Bool.not_false, decide_true, decide_false, raiseI_run1, raiseI_run2, tryO_next, tryO_ret, tryH_nil, unbind_next, unbind_ret, eXf_run, par3R_run, newLR_0, newLR_1, kmR_run, kmR2_run, asK_run, asN_run, getRL_run, getKL_run, ngo0_run, ngo1_run, ngoR_run, ownN_run, ownNR_run, npK_run, starR_run, itNItems_run, itNKeys_run, oDictK_run, opIn2_K, opKIx_run, keyK_int, copyLR_lst, copyLR_tup, gT2_run, nValsD_run, Option.getD_some, tup_0, lst_0, tup_1, lst_1, tup_2, lst_2, tup_3, lst_3, tup_4, lst_4, tup_5, lst_5, tup_6, lst_6, tup_7, lst_7, tup_8, lst_8, tup_9, lst_9, tup_10, lst_10, tup_11, lst_11, tup_12, lst_12, new_0, new_1, new_2, new_3, new_4, new_5, ↓reduceIte, Nat.reduceAdd, $xs,*] at $h:ident)
end Pk
namespace Pk
open PySem Dl L2
local macro_rules
  | `(tactic| push_cast [$xs,*]) => `(tactic| simp -implicitDefEqProofs only [↓eC_run, ↓eVar_run, ↓eSlot_run, ↓eBin_run, ↓eUn_run, ↓eTest_run, ↓eAndT_run, ↓eOrT_run, ↓eNotT_run, ↓eTrue_run, ↓eAnd_run, ↓eOr_run, ↓eNot_run, ↓eIf_run, ↓aNil_run, ↓aCons_run, ↓aVal_run, ↓eTup_run, ↓eList_run, ↓eLst_run, ↓eCallB_run, ↓eOnL_run, ↓eIsi_run, ↓eSl_run, ↓ePart_run, ↓eNoPart_run, ↓eChain_run, ↓eIxO_run, ↓eOwnL_run, ↓sNext_run, ↓sSeq_run, ↓sIf_run, ↓sExpr_run, ↓sRet_run, ↓sRetS_run, ↓sRetN_run, ↓sBreak_run, ↓sCont_run, ↓sAsg_run, ↓sSetS_run, ↓sPar_run, ↓sFor_run, ↓sWhile_run, ↓eIt1_run, ↓eIt2_run, ↓eIt3_run, ↓eLc_run, ↓eLc2_run, ↓sNewL_run, ↓sApp_run, ↓sSetIx_run, ↓sRetL_run, ↓sRetNew_run, ↓eCallP_run, ↓eCallE_run, ↓eVal_run, ↓eMake_run, ↓eFld_run, ↓sRaise_run, ↓sRaiseI_run, ↓sTry_run, ↓eIsx_run, ↓sPar3_run, ↓eNewL_run, ↓eNDisp_run, ↓eKDisp_run, ↓eEmptyK_run, ↓eNewN_run, ↓eKM_run, ↓eNGet_run, ↓eKGet_run, ↓eNGetO_run, ↓eCopyN_run, ↓sNPut_run, ↓aStar_run, ↓eRg1_run, ↓eIsi2_run, ↓eCopyL_run, ↓eNVals_run, bind_ok, bind_exc, out_ok, out_exc, lift_some, obind_next, obind_ret, obind_exc, obind_brk, obind_cont, varR_run, slotR_run, asBl_run, allD_nil, allD_cons, asLst_run, asI_run, chR_run, ownK_run, ownKR_run, ownL_run, ownLR_run, someR_run, someO_run, ixI_run, parR_run, gN_run, gsNil_run, gsCons_run, itSeq_lst, itSeq_tup, itEn_lst, itEn_tup, itZ_lst, itZ_tup, wipeR_nil, wipeR_cons, setIxR_run, finP_ret, finP_next, finP_exc, finE_ret, finE_next, finE_exc, callR_ok, callR_err, valR_run, makeR_ok, makeR_exc, opAdd_int, opI_run, opB_run, opMulA_int, opEq_run, opNe_run, opIsN_run, opNotN_run, opIx_tup, opIx_lst, opNeg_run, oLen_tup, oLen_lst, oInt_int, oInt_bl, oTuple_tup, oTuple_lst, oList_tup, oList_lst, oTupleL_run, oListL_run, oLenL_run, isi_int_non, isi_int_bl, isi_int_int, isi_int_str, isi_int_tup, isi_int_lst, isi_bool_non, isi_bool_bl, isi_bool_int, isi_bool_str, isi_bool_tup, isi_bool_lst, isi_tuple_non, isi_tuple_bl, isi_tuple_int, isi_tuple_str, isi_tuple_tup, isi_tuple_lst, isi_str_non, isi_str_bl, isi_str_int, isi_str_str, isi_str_tup, isi_str_lst, isi_list_non, isi_list_bl, isi_list_int, isi_list_str, isi_list_tup, isi_list_lst, atI_0, atI_1, atI_2, atI_3, atI_4, atI_5, atI_6, atI_7, atI_8, ixN_1_0, ixN_2_0, ixN_2_1, ixN_3_0, ixN_3_1, ixN_3_2, ixN_4_0, ixN_4_1, ixN_4_2, ixN_4_3, ixN_5_0, ixN_5_1, ixN_5_2, ixN_5_3, ixN_5_4, eqD_int, eqD_bl, eqD_non_non, isNon_non, isNon_bl, isNon_int, isNon_str, isNon_tup, isNon_lst, Option.map_some, Option.map_none, Option.bind_some, List.getElem?_cons_zero, List.getElem?_cons_succ, List.set_cons_zero, List.set_cons_succ, List.map_cons, List.map_nil, List.length_cons, List.length_nil, List.cons_append, List.nil_append, rho0, List.replicate, List.take_succ_cons, List.take_zero, List.take_nil, List.take_length, and_self, Bool.false_eq_true, Bool.not_true, Bool.not_false, decide_true, decide_false, raiseI_run1, raiseI_run2, tryO_next, tryO_ret, tryH_nil, unbind_next, unbind_ret, eXf_run, par3R_run, newLR_0, newLR_1, kmR_run, kmR2_run, asK_run, asN_run, getRL_run, getKL_run, ngo0_run, ngo1_run, ngoR_run, ownN_run, ownNR_run, npK_run, starR_run, itNItems_run, itNKeys_run, oDictK_run, opIn2_K, opKIx_run, keyK_int, copyLR_lst, copyLR_tup, gT2_run, nValsD_run, Option.getD_some, tup_0, lst_0, tup_1, lst_1, tup_2, lst_2, tup_3, lst_3, tup_4, lst_4, tup_5, lst_5, tup_6, lst_6, tup_7, lst_7, tup_8, lst_8, tup_9, lst_9, tup_10, lst_10, tup_11, lst_11, tup_12, lst_12, new_0, new_1, new_2, new_3, new_4, new_5, ↓reduceIte, Nat.reduceAdd, $xs,*])
  | `(tactic| push_cast [$xs,*] at $h:ident) => `(tactic| simp -implicitDefEqProofs only [↓eC_run, ↓eVar_run, ↓eSlot_run, ↓eBin_run, ↓eUn_run, ↓eTest_run, ↓eAndT_run, ↓eOrT_run, ↓eNotT_run, ↓eTrue_run, ↓eAnd_run, ↓eOr_run, ↓eNot_run, ↓eIf_run, ↓aNil_run, ↓aCons_run, ↓aVal_run, ↓eTup_run, ↓eList_run, ↓eLst_run, ↓eCallB_run, ↓eOnL_run, ↓eIsi_run, ↓eSl_run, ↓ePart_run, ↓eNoPart_run, ↓eChain_run, ↓eIxO_run, ↓eOwnL_run, ↓sNext_run, ↓sSeq_run, ↓sIf_run, ↓sExpr_run, ↓sRet_run, ↓sRetS_run, ↓sRetN_run, ↓sBreak_run, ↓sCont_run, ↓sAsg_run, ↓sSetS_run, ↓sPar_run, ↓sFor_run, ↓sWhile_run, ↓eIt1_run, ↓eIt2_run, ↓eIt3_run, ↓eLc_run, ↓eLc2_run, ↓sNewL_run, ↓sApp_run, ↓sSetIx_run, ↓sRetL_run, ↓sRetNew_run, ↓eCallP_run, ↓eCallE_run, ↓eVal_run, ↓eMake_run, ↓eFld_run, ↓sRaise_run, ↓sRaiseI_run, ↓sTry_run, ↓eIsx_run, ↓sPar3_run, ↓eNewL_run, ↓eNDisp_run, ↓eKDisp_run, ↓eEmptyK_run, ↓eNewN_run, ↓eKM_run, ↓eNGet_run, ↓eKGet_run, ↓eNGetO_run, ↓eCopyN_run, ↓sNPut_run, ↓aStar_run, ↓eRg1_run, ↓eIsi2_run, ↓eCopyL_run, ↓eNVals_run, bind_ok, bind_exc, out_ok, out_exc, lift_some, obind_next, obind_ret, obind_exc, obind_brk, obind_cont, varR_run, slotR_run, asBl_run, allD_nil, allD_cons, asLst_run, asI_run, chR_run, ownK_run, ownKR_run, ownL_run, ownLR_run, someR_run, someO_run, ixI_run, parR_run, gN_run, gsNil_run, gsCons_run, itSeq_lst, itSeq_tup, itEn_lst, itEn_tup, itZ_lst, itZ_tup, wipeR_nil, wipeR_cons, setIxR_run, finP_ret, finP_next, finP_exc, finE_ret, finE_next, finE_exc, callR_ok, callR_err, valR_run, makeR_ok, makeR_exc, opAdd_int, opI_run, opB_run, opMulA_int, opEq_run, opNe_run, opIsN_run, opNotN_run, opIx_tup, opIx_lst, opNeg_run, oLen_tup, oLen_lst, oInt_int, oInt_bl, oTuple_tup, oTuple_lst, oList_tup, oList_lst, oTupleL_run, oListL_run, oLenL_run, isi_int_non, isi_int_bl, isi_int_int, isi_int_str, isi_int_tup, isi_int_lst, isi_bool_non, isi_bool_bl, isi_bool_int, isi_bool_str, isi_bool_tup, isi_bool_lst, isi_tuple_non, isi_tuple_bl, isi_tuple_int, isi_tuple_str, isi_tuple_tup, isi_tuple_lst, isi_str_non, isi_str_bl, isi_str_int, isi_str_str, isi_str_tup, isi_str_lst, isi_list_non, isi_list_bl, isi_list_int, isi_list_str, isi_list_tup, isi_list_lst, atI_0, atI_1, atI_2, atI_3, atI_4, atI_5, atI_6, atI_7, atI_8, ixN_1_0, ixN_2_0, ixN_2_1, ixN_3_0, ixN_3_1, ixN_3_2, ixN_4_0, ixN_4_1, ixN_4_2, ixN_4_3, ixN_5_0, ixN_5_1, ixN_5_2, ixN_5_3, ixN_5_4, eqD_int, eqD_bl, eqD_non_non, isNon_non, isNon_bl, isNon_int, isNon_str, isNon_tup, isNon_lst, Option.map_some, Option.map_none, Option.bind_some, List.getElem?_cons_zero, List.getElem?_cons_succ, List.set_cons_zero, List.set_cons_succ, List.map_cons, List.map_nil, List.length_cons, List.length_nil, List.cons_append, List.nil_append, rho0, List.replicate, List.take_succ_cons, List.take_zero, List.take_nil, List.take_length, and_self, Bool.false_eq_true, Bool.not_true, Bool.not_false, decide_true, decide_false, raiseI_run1, raiseI_run2, tryO_next, tryO_ret, tryH_nil, unbind_next, unbind_ret, eXf_run, par3R_run, newLR_0, newLR_1, kmR_run, kmR2_run, asK_run, asN_run, getRL_run, getKL_run, ngo0_run, ngo1_run, ngoR_run, ownN_run, ownNR_run, npK_run, starR_run, itNItems_run, itNKeys_run, oDictK_run, opIn2_K, opKIx_run, keyK_int, copyLR_lst, copyLR_tup, gT2_run, nValsD_run, Option.getD_some, tup_0, lst_0, tup_1, lst_1, tup_2, lst_2, tup_3, lst_3, tup_4, lst_4, tup_5, lst_5, tup_6, lst_6, tup_7, lst_7, tup_8, lst_8, tup_9, lst_9, tup_10, lst_10, tup_11, lst_11, tup_12, lst_12, new_0, new_1, new_2, new_3, new_4, new_5, ↓reduceIte, Nat.reduceAdd, $xs,*] at $h:ident)
section
variable {s : List Int} {ps : List Plug}
end
end Pk
namespace Pk
open PySem Dl L2
local macro_rules
  | `(tactic| push_cast [$xs,*]) => `(tactic| simp -implicitDefEqProofs only [↓eC_run, ↓eVar_run, ↓eSlot_run, ↓eBin_run, ↓eUn_run, ↓eTest_run, ↓eAndT_run, ↓eOrT_run, ↓eNotT_run, ↓eTrue_run, ↓eAnd_run, ↓eOr_run, ↓eNot_run, ↓eIf_run, ↓aNil_run, ↓aCons_run, ↓aVal_run, ↓eTup_run, ↓eList_run, ↓eLst_run, ↓eCallB_run, ↓eOnL_run, ↓eIsi_run, ↓eSl_run, ↓ePart_run, ↓eNoPart_run, ↓eChain_run, ↓eIxO_run, ↓eOwnL_run, ↓sNext_run, ↓sSeq_run, ↓sIf_run, ↓sExpr_run, ↓sRet_run, ↓sRetS_run, ↓sRetN_run, ↓sBreak_run, ↓sCont_run, ↓sAsg_run, ↓sSetS_run, ↓sPar_run, ↓sFor_run, ↓sWhile_run, ↓eIt1_run, ↓eIt2_run, ↓eIt3_run, ↓eLc_run, ↓eLc2_run, ↓sNewL_run, ↓sApp_run, ↓sSetIx_run, ↓sRetL_run, ↓sRetNew_run, ↓eCallP_run, ↓eCallE_run, ↓eVal_run, ↓eMake_run, ↓eFld_run, ↓sRaise_run, ↓sRaiseI_run, ↓sTry_run, ↓eIsx_run, ↓sPar3_run, ↓eNewL_run, ↓eNDisp_run, ↓eKDisp_run, ↓eEmptyK_run, ↓eNewN_run, ↓eKM_run, ↓eNGet_run, ↓eKGet_run, ↓eNGetO_run, ↓eCopyN_run, ↓sNPut_run, ↓aStar_run, ↓eRg1_run, ↓eIsi2_run, ↓eCopyL_run, ↓eNVals_run, ↓eLcN_run, bind_ok, bind_exc, out_ok, out_exc, lift_some, obind_next, obind_ret, obind_exc, obind_brk, obind_cont, varR_run, slotR_run, asBl_run, allD_nil, allD_cons, asLst_run, asI_run, chR_run, ownK_run, ownKR_run, ownL_run, ownLR_run, someR_run, someO_run, ixI_run, parR_run, gN_run, gsNil_run, gsCons_run, itSeq_lst, itSeq_tup, itEn_lst, itEn_tup, itZ_lst, itZ_tup, wipeR_nil, wipeR_cons, setIxR_run, finP_ret, finP_next, finP_exc, finE_ret, finE_next, finE_exc, callR_ok, callR_err, valR_run, makeR_ok, makeR_exc, opAdd_int, opI_run, opB_run, opMulA_int, opEq_run, opNe_run, opIsN_run, opNotN_run, opIx_tup, opIx_lst, opNeg_run, oLen_tup, oLen_lst, oInt_int, oInt_bl, oTuple_tup, oTuple_lst, oList_tup, oList_lst, oTupleL_run, oListL_run, oLenL_run, isi_int_non, isi_int_bl, isi_int_int, isi_int_str, isi_int_tup, isi_int_lst, isi_bool_non, isi_bool_bl, isi_bool_int, isi_bool_str, isi_bool_tup, isi_bool_lst, isi_tuple_non, isi_tuple_bl, isi_tuple_int, isi_tuple_str, isi_tuple_tup, isi_tuple_lst, isi_str_non, isi_str_bl, isi_str_int, isi_str_str, isi_str_tup, isi_str_lst, isi_list_non, isi_list_bl, isi_list_int, isi_list_str, isi_list_tup, isi_list_lst, atI_0, atI_1, atI_2, atI_3, atI_4, atI_5, atI_6, atI_7, atI_8, ixN_1_0, ixN_2_0, ixN_2_1, ixN_3_0, ixN_3_1, ixN_3_2, ixN_4_0, ixN_4_1, ixN_4_2, ixN_4_3, ixN_5_0, ixN_5_1, ixN_5_2, ixN_5_3, ixN_5_4, eqD_int, eqD_bl, eqD_non_non, isNon_non, isNon_bl, isNon_int, isNon_str, isNon_tup, isNon_lst, Option.map_some, Option.map_none, Option.bind_some, List.getElem?_cons_zero, List.getElem?_cons_succ, List.set_cons_zero, List.set_cons_succ, List.map_cons, List.map_nil, List.length_cons, List.length_nil, List.cons_append, List.nil_append, rho0, List.replicate, List.take_succ_cons, List.take_zero, List.take_nil, List.take_length, and_self, Bool.false_eq_true, Bool.not_true, Bool.not_false, decide_true, decide_false, raiseI_run1, raiseI_run2, tryO_next, tryO_ret, tryH_nil, unbind_next, unbind_ret, eXf_run, par3R_run, newLR_0, newLR_1, kmR_run, kmR2_run, asK_run, asN_run, getRL_run, getKL_run, ngo0_run, ngo1_run, ngoR_run, ownN_run, ownNR_run, npK_run, starR_run, itNItems_run, itNKeys_run, oDictK_run, opIn2_K, opKIx_run, keyK_int, copyLR_lst, copyLR_tup, gT2_run, nValsD_run, Option.getD_some, tup_0, lst_0, tup_1, lst_1, tup_2, lst_2, tup_3, lst_3, tup_4, lst_4, tup_5, lst_5, tup_6, lst_6, tup_7, lst_7, tup_8, lst_8, tup_9, lst_9, tup_10, lst_10, tup_11, lst_11, tup_12, lst_12, new_0, new_1, new_2, new_3, new_4, new_5, ↓reduceIte, Nat.reduceAdd, $xs,*])
  | `(tactic| push_cast [$xs,*] at $h:ident) => `(tactic| simp -implicitDefEqProofs only [↓eC_run, ↓eVar_run, ↓eSlot_run, ↓eBin_run, ↓eUn_run, ↓eTest_run, ↓eAndT_run, ↓eOrT_run, ↓eNotT_run, ↓eTrue_run, ↓eAnd_run, ↓eOr_run, ↓eNot_run, ↓eIf_run, ↓aNil_run, ↓aCons_run, ↓aVal_run, ↓eTup_run, ↓eList_run, ↓eLst_run, ↓eCallB_run, ↓eOnL_run, ↓eIsi_run, ↓eSl_run, ↓ePart_run, ↓eNoPart_run, ↓eChain_run, ↓eIxO_run, ↓eOwnL_run, ↓sNext_run, ↓sSeq_run, ↓sIf_run, ↓sExpr_run, ↓sRet_run, ↓sRetS_run, ↓sRetN_run, ↓sBreak_run, ↓sCont_run, ↓sAsg_run, ↓sSetS_run, ↓sPar_run, ↓sFor_run, ↓sWhile_run, ↓eIt1_run, ↓eIt2_run, ↓eIt3_run, ↓eLc_run, ↓eLc2_run, ↓sNewL_run, ↓sApp_run, ↓sSetIx_run, ↓sRetL_run, ↓sRetNew_run, ↓eCallP_run, ↓eCallE_run, ↓eVal_run, ↓eMake_run, ↓eFld_run, ↓sRaise_run, ↓sRaiseI_run, ↓sTry_run, ↓eIsx_run, ↓sPar3_run, ↓eNewL_run, ↓eNDisp_run, ↓eKDisp_run, ↓eEmptyK_run, ↓eNewN_run, ↓eKM_run, ↓eNGet_run, ↓eKGet_run, ↓eNGetO_run, ↓eCopyN_run, ↓sNPut_run, ↓aStar_run, ↓eRg1_run, ↓eIsi2_run, ↓eCopyL_run, ↓eNVals_run, ↓eLcN_run, bind_ok, bind_exc, out_ok, out_exc, lift_some, obind_next, obind_ret, obind_exc, obind_brk, obind_cont, varR_run, slotR_run, asBl_run, allD_nil, allD_cons, asLst_run, asI_run, chR_run, ownK_run, ownKR_run, ownL_run, ownLR_run, someR_run, someO_run, ixI_run, parR_run, gN_run, gsNil_run, gsCons_run, itSeq_lst, itSeq_tup, itEn_lst, itEn_tup, itZ_lst, itZ_tup, wipeR_nil, wipeR_cons, setIxR_run, finP_ret, finP_next, finP_exc, finE_ret, finE_next, finE_exc, callR_ok, callR_err, valR_run, makeR_ok, makeR_exc, opAdd_int, opI_run, opB_run, opMulA_int, opEq_run, opNe_run, opIsN_run, opNotN_run, opIx_tup, opIx_lst, opNeg_run, oLen_tup, oLen_lst, oInt_int, oInt_bl, oTuple_tup, oTuple_lst, oList_tup, oList_lst, oTupleL_run, oListL_run, oLenL_run, isi_int_non, isi_int_bl, isi_int_int, isi_int_str, isi_int_tup, isi_int_lst, isi_bool_non, isi_bool_bl, isi_bool_int, isi_bool_str, isi_bool_tup, isi_bool_lst, isi_tuple_non, isi_tuple_bl, isi_tuple_int, isi_tuple_str, isi_tuple_tup, isi_tuple_lst, isi_str_non, isi_str_bl, isi_str_int, isi_str_str, isi_str_tup, isi_str_lst, isi_list_non, isi_list_bl, isi_list_int, isi_list_str, isi_list_tup, isi_list_lst, atI_0, atI_1, atI_2, atI_3, atI_4, atI_5, atI_6, atI_7, atI_8, ixN_1_0, ixN_2_0, ixN_2_1, ixN_3_0, ixN_3_1, ixN_3_2, ixN_4_0, ixN_4_1, ixN_4_2, ixN_4_3, ixN_5_0, ixN_5_1, ixN_5_2, ixN_5_3, ixN_5_4, eqD_int, eqD_bl, eqD_non_non, isNon_non, isNon_bl, isNon_int, isNon_str, isNon_tup, isNon_lst, Option.map_some, Option.map_none, Option.bind_some, List.getElem?_cons_zero, List.getElem?_cons_succ, List.set_cons_zero, List.set_cons_succ, List.map_cons, List.map_nil, List.length_cons, List.length_nil, List.cons_append, List.nil_append, rho0, List.replicate, List.take_succ_cons, List.take_zero, List.take_nil, List.take_length, and_self, Bool.false_eq_true, Bool.not_true, Bool.not_false, decide_true, decide_false, raiseI_run1, raiseI_run2, tryO_next, tryO_ret, tryH_nil, unbind_next, unbind_ret, eXf_run, par3R_run, newLR_0, newLR_1, kmR_run, kmR2_run, asK_run, asN_run, getRL_run, getKL_run, ngo0_run, ngo1_run, ngoR_run, ownN_run, ownNR_run, npK_run, starR_run, itNItems_run, itNKeys_run, oDictK_run, opIn2_K, opKIx_run, keyK_int, copyLR_lst, copyLR_tup, gT2_run, nValsD_run, Option.getD_some, tup_0, lst_0, tup_1, lst_1, tup_2, lst_2, tup_3, lst_3, tup_4, lst_4, tup_5, lst_5, tup_6, lst_6, tup_7, lst_7, tup_8, lst_8, tup_9, lst_9, tup_10, lst_10, tup_11, lst_11, tup_12, lst_12, new_0, new_1, new_2, new_3, new_4, new_5, ↓reduceIte, Nat.reduceAdd, $xs,*] at $h:ident)
theorem IsRow.rest {ns : List Int} {rest rest' : Om} {R : Option OD} (h : IsRow ns rest (R :: rest)) : IsRow ns rest' (R :: rest') := by
  obtain ⟨a, b, c, k, e⟩ := h
  injection e with e _
  exact ⟨a, b, c, k, by rw [e]⟩
section
variable {s : List Int} {ps : List Plug} {ns : List Int}
theorem c12 : (((1 : Nat) : Int) == 2) = false := rfl
theorem slL_hi (ds : List D) (k : Nat) : slD (some ((k : Int) + 1)) none (.lst ds) = some (.lst (ds.drop (k + 1))) := by
  have := cut_hi ds k
  unfold slD at this ⊢
  dsimp only at this ⊢
  injection this with h
  injection h with h
  rw [h]
theorem opAdd_lst {a b : List D} (h : a.length + b.length ≤ lim) : opAdd (.lst a) (.lst b) = some (.lst (a ++ b)) := by
  show (if _ then _ else _) = _
  rw [if_pos h]
end
end Pk
namespace Dl
open PySem L2 PySem.Spec PyProof.Rows
section
variable {X : Cx} {pins : List (Addr × Obj)} {σ : L2.St} {H : Hp} {s : Shared} {E : Value → Shared → Prop} {a b : Addr} {ep : Nat} {es : NEs} {k : NestedKey}
end
section
variable {X : Cx}
end
end Dl
namespace Dl
open PySem L2
section
variable {K : PySem.W.Frag} {mg : MG}
structure LiesN (K : PySem.W.Frag) (mg : MG) (G0 : Hp) (α0 : List Addr) (H0 : Hp) (L : Addr) (G : Hp) (α : List Addr) (ω : Om) (acc : KVs) (H : Hp) : Prop where
  ext : Ext G0 α0 H0 G α H
  own : Own K mg G α ω H
  gl : G L = none
  na : L ∉ α
  at_ : ∃ ep es, H L = some (dnO L ep es) ∧ RepN K mg G acc es
theorem LiesN.step {G0 H0 G H G1 H1 : Hp} {α0 α α1 : List Addr} {L : Addr} {ω ω1 : Om} {acc : KVs} (B : LiesN K mg G0 α0 H0 L G α ω acc H) (e : Ext G α H G1 α1 H1) (O : Own K mg G1 α1 ω1 H1) : LiesN K mg G0 α0 H0 L G1 α1 ω1 acc H1 := by
  obtain ⟨ep, vsa, h1, h2⟩ := B.at_
  obtain ⟨more, e1, e2⟩ := e.pre
  refine ⟨B.ext.trans e, O, ?_, ?_, ep, vsa, e.keep L _ h1 B.na, RepN.mono e.g _ _ h2⟩
  · cases q : G1 L with
    | none => rfl
    | some o =>
      rcases e.new L o q with z | z | z
      · rw [B.gl] at z; cases z
      · rw [h1] at z; cases z
      · exact absurd z B.na
  · rw [e1]
    intro z
    rcases List.mem_append.mp z with z | z
    · exact B.na z
    · rw [e2 L z] at h1; cases h1
theorem LiesN.set {G0 H0 G H : Hp} {α0 α : List Addr} {L : Addr} {ω : Om} {acc acc' : KVs} {ep : Nat} {kv : NEs} (B : LiesN K mg G0 α0 H0 L G α ω acc H) (h0 : H0 L = none) (r : RepN K mg G acc' kv) : LiesN K mg G0 α0 H0 L G α ω acc' (L2.upd H L (dnO L ep kv)) :=
  ⟨B.ext.setL h0, B.own.setL B.gl B.na, B.gl, B.na, ep, kv, upd_same, r⟩
theorem LiesN.freeze {G0 H0 G H : Hp} {α0 α : List Addr} {L : Addr} {ω : Om} {acc : KVs} (B : LiesN K mg G0 α0 H0 L G α ω acc H) (h0 : H0 L = none) : ∃ G', Ext G0 α0 H0 G' α H ∧ Own K mg G' α ω H ∧ Rep K mg G' (.dcN acc) (.ref L) := by
  obtain ⟨ep, vsa, h1, h2⟩ := B.at_
  have sg : Same G (L2.upd G L (dnO L ep vsa)) := Same.upd B.gl
  refine ⟨L2.upd G L (dnO L ep vsa), ⟨B.ext.g.trans sg, fun a o h => ?_, B.ext.keep, B.ext.live, B.ext.pre⟩, ⟨fun b u h => ?_, B.own.len, B.own.nd, B.own.ex, fun k u a h3 h4 => ?_⟩, rep_dcN.mpr ⟨L, ep, vsa, rfl, upd_same, RepN.mono sg _ _ h2⟩⟩
  · by_cases z : a = L
    · subst z; exact .inr (.inl h0)
    · rw [upd_ne z] at h; exact B.ext.new a o h
  · by_cases z : b = L
    · subst z; rw [upd_same] at h; cases h; exact h1
    · rw [upd_ne z] at h; exact B.own.sub b u h
  · obtain ⟨q1, q2⟩ := B.own.obj k u a h3 h4
    have : a ≠ L := fun z => B.na (by rw [← z]; exact List.mem_of_getElem? h4)
    exact ⟨by rw [upd_ne this]; exact q1, q2.mono sg rfl⟩
end
section
variable {X : Cx} {W : WX} {pos : Pos}
end
end Dl
namespace Dl
open PySem L2 PySem.Spec PyProof.Rows
section
variable {X : Cx} {W : WX} {a : Expr} {ta : TE} {p1 p2 pos pos' : Pos}
end
end Dl
namespace Dl
open PySem L2 PySem.Spec PyProof.Rows
section
variable {X : Cx}
end
end Dl
noncomputable section
namespace Pk
open PySem Dl
end Pk
namespace Dl
open PySem L2
end Dl
noncomputable section
namespace Pk
open PySem Dl
end Pk
namespace Dl
open PySem L2 PySem.Spec PyProof.Rows
section
variable {X : Cx} {W : WX} {x : Str} {p pos pos' : Pos} {C : Addr}
theorem passes_none : Passes (L2.CX X.prog X.w) X (fun _ _ _ => False) := fun pins σ H s e s' I c => by
  obtain ⟨a, B, H', cls, d, h⟩ := c
  exact h.2.2.2.2.2.2.2.elim
theorem pmk_oexN {CX : CXT} {x : Str} {C fI : Addr} {k : Nat} {fd : FuncData} {ps : List Str} {sp : Sp} {e : Expr} {es : List Expr} {ta : TA} {p pos : Pos} (T : OexC X.K C) (iC : PySem.W.findIn X.K (.ref C) "__init__" = some (some (.ref fI))) (tI : PySem.W.typeIn X.K (.ref fI) = some (.type "function"))
    (F1 : FnOk X.prog X.w X.K X.mg X.base CX k fI fd ps sp) (hr : Room (k + 1) X.A) (hb : Binds X.K fd ps []) (hx : Passes CX X (fun _ _ _ => False)) (hg : Gl X x) (hm : X.mg x = some (.ref C)) (ha : PA X (e :: es) ta)
    (hdb : (x == ("__debug__" : Str)) = false := by decide) (he : starEach (e :: es) X.env = (false, eval e X.env) :: starEach es X.env := by rfl) (hpl : (backTo pos (starEach es X.env)).any (·.1) = false := by rfl) :
    L2N.PMk X (.Call (.Name x p) (e :: es) [] pos) (tMkO C sp [] ta) := by
  intro pins s σ H Q I h
  obtain ⟨nm, q, N, bs, bm, sn, sub, ab, col, dd, k0, k1, k2, k3, k5, hC, hbm⟩ := T.cls
  refine wpAny_Call_Name_kw (ld_glob I hg hm ?_ hdb)
  refine PySem.W.callWith_K (h₀ := X.base) I.ok.mod.kin T.kC (thn (ha.run pos pins s σ H _ I h) fun us s1 ⟨vs, H1, I1, r1, hz, q1⟩ => ⟨I1.kIn, ?_⟩) he hpl
  show wpAny _ _ (call (.ref C) us) _ _ _
  obtain ⟨hp, g, dr, tk, os⟩ := s1
  have hsz : hp.objs.size ≤ hp.objs.size + 1 := Nat.le_succ _
  have hn : H1 (hp.objs.size + 1) = none := I1.hok.fresh hsz
  have hq := q1 (hp.objs.size + 1) hn
  rw [List.append_nil] at hq
  have kk : ∀ b o, hp.get? b = some o → ((hp.push (PySem.W.kdv_tup us)).push (PySem.HandSPX.excO C hp.objs.size)).get? b = some o := fun b o e => Heap.get?_push_of_some _ (Heap.get?_push_of_some _ e)
  have hget : ((hp.push (PySem.W.kdv_tup us)).push (PySem.HandSPX.excO C hp.objs.size)).get? (hp.objs.size + 1) = some (PySem.HandSPX.excO C hp.objs.size) := by heap_get
  have I2 : Inv X pins σ (upd H1 (hp.objs.size + 1) (exo (hp.objs.size + 1) C none)) ⟨(hp.push (PySem.W.kdv_tup us)).push (PySem.HandSPX.excO C hp.objs.size), g, dr, tk, os⟩ :=
    I1.laid (t' := tk) (a := hp.objs.size + 1) (o := exo (hp.objs.size + 1) C none) (h' := (hp.push (PySem.W.kdv_tup us)).push (PySem.HandSPX.excO C hp.objs.size)) kk hsz (exo_ok hget)
  have r2 : Vals (V.ref (hp.objs.size + 1) :: vs) (Value.ref (hp.objs.size + 1) :: us) := .cons rfl r1
  have hl : (Value.ref (hp.objs.size + 1) :: us ++ []).length = ps.length := by
    have e := r2.length
    rw [F1.len _ _ _ _ hq] at e
    rw [List.append_nil]
    exact e.symm
  have hus : us.length ≤ sizeLine := by
    rw [← Paired.length r1, sizeLine_eq]
    omega
  have b2 := hb _ (Value.ref (hp.objs.size + 1) :: us) I2.kIn hl
  rw [List.append_nil] at b2
  refine wpAny_call (PySem.HandSPX.call_own F.excBase_ValueError (fun Y => PySem.HandSPX.refsVE_contains Y bm hbm) (I1.kIn _ _ hC) (PySem.W.looks_findIn I1.kIn iC) (fun self => PySem.W.bind_fn I1.kIn self tI) hus
    (codeAny_mono (F1.run _ X.stack _ _ ⟨Value.ref (hp.objs.size + 1) :: us, []⟩ (Value.ref (hp.objs.size + 1) :: us) _ _ (fun _ _ _ => False) (hr.make C us []) (I2.env0.make C us []) b2 r2 hq) fun r s' hq' => ?_))
  cases r with
  | error er => exact hx pins σ _ _ er s' I2 hq'
  | ok fl =>
    cases fl with
    | ret u =>
      obtain ⟨v, H2, os2, bare2, un2, hok2, rv, ev, d, fs, ea, ed, hd1, q2⟩ := hq'
      subst ev
      obtain ⟨h2, g2, d2, t2, os'⟩ := s'
      obtain ⟨t0, G, J, kG, ge, hoe, na⟩ := mk_end0 (d2 := d2) (t2 := t2) I1 hsz kk un2 hok2 os2 bare2 ea ed hd1
      exact ⟨rv, hp.objs.size + 1, _, _, ⟨G, g2, d2, t2, os'⟩, _, .ref C, some d, rfl, J, kG, ge, hoe, ⟨rfl, rfl, fun vs hv => by cases hv; rfl⟩, rfl, rfl, na, rfl, bare2, raises_own T.exC T.tyC, q2⟩
    | next => exact False.elim hq'
    | brk => exact False.elim hq'
    | cont => exact False.elim hq'
theorem ds_raiseIN {f : Addr} {k : Nat} {fd : FuncData} {ps fls : List Str} {e : Expr} {es : List Expr} {g : FE (List SV)} (tk : L2N.Takes X W) (T : ErrI X.K X.mg x C f) (F : FnOk X.prog X.w X.K X.mg X.base (L2.CX X.prog X.w) k f fd ps (spIni C fls)) (hr : Room (k + 1) X.A) (hb : Binds X.K fd ps []) (h : Da X W (e :: es) g) (h2 : fls.length = 1 ∨ fls.length = 2 := by decide) (hc : X.calm = true := by rfl) (hg : Gl X x := by rfl)
    (hdb : (x == ("__debug__" : Str)) = false := by decide) (he : starEach (e :: es) X.env = (false, eval e X.env) :: starEach es X.env := by rfl) (hpl : (backTo pos' (starEach es X.env)).any (·.1) = false := by rfl) :
    Ds X W (.Raise (some (.Call (.Name x p) (e :: es) [] pos')) none pos) (sRaiseI x fls g) := by
  obtain ⟨t, q, j⟩ := h
  refine ⟨_, L2N.ps_raise hc tk (pmk_oexN T.ox T.ini T.fn F hr hb passes_none hg T.gl q hdb he hpl), fun G α ρ ω σ H D O S P => ?_⟩
  refine PostS.step S (t := t σ H) (j G α ρ ω σ H · O S) P fun xs ω1 vs G1 α1 H1 e1 O1 r1 P1 => ?_
  cases q1 : allD xs with
  | none => rw [q1] at P1; exact P1.elim
  | some ds =>
    rw [q1] at P1
    dsimp only at P1
    split at P1
    · rename_i hl
      refine ini_post (C := C) (Q := fun cls d H' => W cls d σ H') rfl hl h2 O1 (allD_reps q1 r1) fun dx fvs hx rf => ?_
      have gr := Grow.put (o := HO.xd fvs) O1.sub hx
      exact P1 (.ref C) (some dx) σ _ α1 _ gr.ext (O1.grow gr) ((S.mono e1).mono (gr.ext (α := α1))) ⟨C, T.gl, rfl, .inr ⟨dx, fvs, rfl, upd_same, rf⟩⟩
    · exact P1.elim
end
section
variable {P : Program} {w : World} {K : PySem.W.Frag} {mg : Str → Option Value} {base : Heap}
theorem fn_okXN {x qual : Str} {st : Stmt} {f : Addr} {fd : FuncData} {N ps : List Str} {k : Nat} {sp : Sp} (F : Fun K x qual st f fd) (S : FnScope N ps (defScope st)) (len : ∀ vs H Q E, sp vs H Q E → vs.length = ps.length)
    (hbody : ∀ (cdv : Value) (A : Around) (outer : List Env) (s : Shared) (H : Hp) (vs : List V) (Q : VK) (E : XK), Room k (A.deeper (envOfC qual (defScope st) s.heap.objs.size f cdv)) → sp vs H Q E →
      ∃ t, PSs (cxOf (L2N.CX P w) P w K mg base N qual (defScope st) f cdv A outer s H E) (defBody st) t ∧ t { nx := fun _ H' => Q .non H', rt := Q } (start N vs) H) : FnOk P w K mg base (L2N.CX P w) (k + 1) f fd ps sp := by
  obtain ⟨oc, od, kV, doc, pm, an, cdv, ct, osl, rfl, lk, hcd⟩ := F.ex
  exact fn_of lk hcd S len fun A outer s H vs Q E hr hsp => hbody cdv A outer s H vs Q E hr hsp
theorem fn_okPN {x qual : Str} {st : Stmt} {f : Addr} {fd : FuncData} {N ps : List Str} {k n : Nat} {fb : FS} (F : Fun K x qual st f fd) (S : FnScope N ps (defScope st)) (hn : ps.length = n)
    (hbody : ∀ (cdv : Value) (A : Around) (outer : List Env) (s : Shared) (H : Hp) (E : XK), Room k (A.deeper (PyProof.Rows.envOfC qual (defScope st) s.heap.objs.size f cdv)) →
      Dss (cxOf (L2N.CX P w) P w K mg base N qual (defScope st) f cdv A outer s H E) (fun c d _ H' => E c d H') (defBody st) fb) : FnOk P w K mg base (L2N.CX P w) (k + 1) f fd ps (spP K mg (fnP n N.length fb)) := by
  refine fn_okXN F S (fun vs H Q E h => ?_) (fun cdv A outer s H vs Q E hr h => ?_)
  · obtain ⟨G, ds, s, r, h⟩ := h
    unfold fnP at h
    by_cases e : ds.length = n
    · rw [r.length, e, hn]
    · rw [if_neg e] at h; exact h.elim
  · obtain ⟨G, ds, sm, r, h⟩ := h
    obtain ⟨t, p, kk⟩ := hbody cdv A outer s H E hr
    refine ⟨t, p, kk G [] (rho0 N.length (ds.map SV.val)) [] _ H _ (Own.nil sm) (slots0 (repVs_val r)) ?_⟩
    unfold fnP at h
    by_cases e : ds.length = n
    · rw [if_pos e] at h
      cases q : fb (rho0 N.length (ds.map SV.val)) [] with
      | stuck => rw [q] at h; exact h.elim
      | brk _ _ => rw [q] at h; exact h.elim
      | cont _ _ => rw [q] at h; exact h.elim
      | next ρ' ω' =>
        rw [q] at h
        exact fun σ' G' α' H' e' O' S' => h .non G' H' (e'.grow O') (rep_non.mpr rfl)
      | ret x ω' =>
        rw [q] at h
        cases x with
        | own k => exact h.elim
        | exc k => exact h.elim
        | val d => exact fun v G' α' H' e' O' r' => h v G' H' (e'.grow O') r'
      | exc x ρ' ω' =>
        rw [q] at h
        exact fun c dd σ' G' α' H' e' O' S' r' => h c dd G' H' (e'.grow O') r'
    · rw [if_neg e] at h; exact h.elim
end
section
variable {X : Cx} {W : WX} {k : Nat} {f : Addr} {fd : FuncData} {ps : List Str} {x : Str} {e : Expr} {es : List Expr} {p pos : Pos} {g : FE (List SV)}
structure ClbN (X : Cx) (k : Nat) (x : Str) (f : Addr) (fd : FuncData) (ps : List Str) (sp : Sp) : Prop where
  ok : FnOk X.prog X.w X.K X.mg X.base (L2N.CX X.prog X.w) k f fd ps sp
  gl : X.mg x = some (.ref f)
  kp : PySem.W.keepIn X.K (.ref f) = true
  bd : Binds X.K fd ps []
theorem de_callN {F : FnP} (tk : L2N.Takes X W) (hr : Room k X.A) (C : ClbN X k x f fd ps (spP X.K X.mg F)) (h : Da X W (e :: es) g) (hg : Gl X x := by rfl) (hdb : (x == ("__debug__" : Str)) = false := by decide) (he : starEach (e :: es) X.env = (false, eval e X.env) :: starEach es X.env := by rfl)
    (hpl : (backTo pos (starEach es X.env)).any (·.1) = false := by rfl) : De X W (.Call (.Name x p) (e :: es) [] pos) (eCallP F g) := by
  obtain ⟨t, q, j⟩ := h
  refine ⟨_, pe_callSD (dvs := []) (E := WE W) C.ok hr hg C.gl C.kp C.bd .nil (fun σ => L2N.passAt tk σ) q hdb he hpl, fun G α ρ ω σ H Q O S P => ?_⟩
  refine Post.step (t := t σ H) (j G α ρ ω σ H · O S) P fun xs ω1 vs G1 α1 H1 e1 O1 r1 P1 => ?_
  rw [List.append_nil]
  cases q1 : allD xs with
  | none => rw [q1] at P1; exact P1.elim
  | some ds =>
    rw [q1] at P1; dsimp only at P1
    refine ⟨G1, ds, O1.sub, allD_reps q1 r1, ?_⟩
    cases q2 : F ds with
    | none => rw [q2] at P1; exact P1.elim
    | some y =>
      rw [q2] at P1
      cases y with
      | ok d => exact fun v G' H' gr r => Post.grow O1 gr (show Rep X.K X.mg G' d v from r) P1
      | error z => exact fun c dd G' H' gr r => P1 c dd G' α1 H' gr.ext (O1.grow gr) r
end
section
variable {X : Cx} {W : WX} {x : Str} {p pos pos' : Pos} {C : Addr} {f : Addr} {k : Nat} {fd : FuncData} {ps fls : List Str} {e : Expr} {es : List Expr} {g : FE (List SV)}
theorem ds_raiseIH (tk : Takes X W) (hot : L2H.HotC X) (T : ErrI X.K X.mg x C f) (F : L2H.FnH X.prog X.w X.K X.mg X.base (L2.CX X.prog X.w) k f fd ps (spIni C fls)) (hr : L2H.RoomH (k + 1) X.A) (hb : Binds X.K fd ps []) (h : Da X W (e :: es) g) (h2 : fls.length = 1 ∨ fls.length = 2 := by decide) (hg : Gl X x := by rfl)
    (hdb : (x == ("__debug__" : Str)) = false := by decide) (he : starEach (e :: es) X.env = (false, eval e X.env) :: starEach es X.env := by rfl) (hpl : (backTo pos' (starEach es X.env)).any (·.1) = false := by rfl) :
    Ds X W (.Raise (some (.Call (.Name x p) (e :: es) [] pos')) none pos) (sRaiseI x fls g) := by
  obtain ⟨t, q, j⟩ := h
  refine ⟨_, L2H.ps_raiseH hot tk (L2H.pmk5_oexH T.ox T.ini T.fn F hr hot hb passes_none hg T.gl q hdb he hpl).pmk, fun G α ρ ω σ H D O S P => ?_⟩
  refine PostS.step S (t := t σ H) (j G α ρ ω σ H · O S) P fun xs ω1 vs G1 α1 H1 e1 O1 r1 P1 => ?_
  cases q1 : allD xs with
  | none => rw [q1] at P1; exact P1.elim
  | some ds =>
    rw [q1] at P1
    dsimp only at P1
    split at P1
    · rename_i hl
      refine ini_post (C := C) (Q := fun cls d H' => W cls d σ H') rfl hl h2 O1 (allD_reps q1 r1) fun dx fvs hx rf => ?_
      have gr := Grow.put (o := HO.xd fvs) O1.sub hx
      exact P1 (.ref C) (some dx) σ _ α1 _ gr.ext (O1.grow gr) ((S.mono e1).mono (gr.ext (α := α1))) ⟨C, T.gl, rfl, .inr ⟨dx, fvs, rfl, upd_same, rf⟩⟩
    · exact P1.elim
end
section
variable {P : Program} {w : World} {K : PySem.W.Frag} {mg : MG} {base : Heap}
theorem ini_ok1H {x qual : Str} {st : Stmt} {f C : Addr} {fd : FuncData} {fl a1 : Str} {p1 p2 p3 p4 : Pos} (F : Fun K x qual st f fd) (S : FnScope ["self", a1] ["self", a1] (defScope st)) (ox : OexC K C) (no : PySem.W.findIn K (.ref C) fl = some none)
    (hb : defBody st = [.Assign [.Attribute (.Name "self" p1) fl p2] (.Name a1 p3) p4])
    (hp : ∀ (cdv : Value) (A : Around) (outer : List Env) (s : Shared) (H : Hp) (E : XK) (q : Addr × Obj), ∃ te, PS (L2H.cxH (L2.CX P w) P w K mg base ["self", a1] qual (defScope st) f cdv A outer s H E q) (.Assign [.Attribute (.Name "self" p1) fl p2] (.Name a1 p3) p4) (tOst K fl (tVar 0) (tVar te)) ∧ te = 1) :
    L2H.FnH P w K mg base (L2.CX P w) 1 f fd ["self", a1] (spIni C [fl]) := by
  obtain ⟨oc, od, kV, doc, pm, an, cdv, ct, osl, rfl, lk, hcd⟩ := F.ex
  refine L2H.fn_ofH (k := 0) lk hcd S (fun vs H Q E h => ?_) fun A outer s H vs Q E q hot hr h => ?_
  · obtain ⟨a, v, rfl, _⟩ := h; rfl
  · obtain ⟨a, v, rfl, ha, q2⟩ := h
    obtain ⟨_, t, rfl⟩ := hp cdv A outer s H E q
    rw [hb]
    refine ⟨_, pss_one t, v, rfl, .ref a, rfl, a, C, rfl, ox, no, .inl ⟨ha, fun dx h1 h2 => q2 dx h1 h2⟩⟩
end
def tryRO (nms : List Str) (c : Str) (fr : FS) : Out → Out
  | .exc x ρ ω => if nms.contains x.cls = true then (if subX x.cls c = true then fr ρ ω else .exc x ρ ω) else .stuck
  | o => o
def sTryR (nms : List Str) (c : Str) (b fr : FS) : FS := fun ρ ω => tryRO nms c fr (b ρ ω)
section
variable {X : Cx} {W : WX} {nms : List Str} {c : Str} {C : Addr} {body suite : List Stmt} {b₀ : Stmt} {np pos pos' : Pos} {fb fr : FS}
theorem ds_tryR (tk : Takes X W) (hpa : ∀ hd : Option Value, PassesOwnAt (model X.prog X.w) (X.A.mark hd) X.A X.env X.xe) (hm : X.mg c = some (.ref C)) (hx : Catches X.K X.mg nms c C)
    (hb : ∀ (W : WX) (pn : List (Addr × Obj)) (xe : Value → Shared → Prop), L2N.Takes (X.tr pn xe) W → Dss (X.tr pn xe) W body fb)
    (hsu : ∀ (a : Addr) (oe : Obj) (pn : List (Addr × Obj)), L2.Takes (L2H.suiteX X a ((a, oe) :: pn)) W → L2H.HotC (L2H.suiteX X a ((a, oe) :: pn)) → Dss (L2H.suiteX X a ((a, oe) :: pn)) W (b₀ :: suite) fr)
    (hg : Gl X c := by rfl) (hd : (c == ("__debug__" : Str)) = false := by decide) (hs : X.stack = X.env :: X.outer := by rfl) (hf : X.env.frame = some X.env.locals := by rfl) :
    Ds X W (.Try body [.ExceptHandler (some (.Name c np)) none (b₀ :: suite) pos'] [] [] pos) (sTryR nms c fb fr) := by
  refine ⟨_, L2H.ps_try_onlyX (tb := tBody X.K X.mg fb) (ts := fun _ _ _ => tBody X.K X.mg fr W) hs hf ⟨hg, hd, .inl hm⟩ hpa tk (fun W' pn xe tk' _ _ => can_ss (hb W' pn xe tk')) (fun a oe cls d pn _ _ tk' hot => can_ss (hsu a oe pn tk' hot)), fun G α ρ ω σ H D O S P => ⟨G, α, ρ, ω, O, S, ?_⟩⟩
  unfold sTryR at P
  cases q : fb ρ ω with
  | stuck => rw [q] at P; exact P
  | next _ _ => rw [q] at P; exact P
  | brk _ _ => rw [q] at P; exact P
  | cont _ _ => rw [q] at P; exact P
  | ret _ _ => rw [q] at P; exact P
  | exc x ρ1 ω1 =>
    rw [q] at P
    unfold tryRO at P
    intro cv dd σ' G' α' H' e O' S' r
    dsimp only at P
    by_cases hn : nms.contains x.cls = true
    · rw [if_pos hn] at P
      obtain ⟨E, hE, hs'⟩ := hx x.cls (List.contains_iff_mem.mp hn)
      obtain ⟨E', hE', rfl, r'⟩ := id r
      rw [hE'] at hE; cases hE
      refine ⟨_, hs', fun hb a ha => ?_, fun hb => ?_⟩
      · rw [if_pos hb] at P
        exact ⟨G', α', ρ1, ω1, O', S', PostS.weak e P⟩
      · rw [if_neg (by rw [hb]; decide)] at P
        exact P _ dd σ' G' α' H' e O' S' r
    · rw [if_neg hn] at P
      exact P.elim
end
theorem sTryR_run (nms : List Str) (c : Str) (b fr : FS) (ρ : Rho) (ω : Om) : sTryR nms c b fr ρ ω = tryRO nms c fr (b ρ ω) := rfl
theorem tryRO_exc {nms : List Str} {c : Str} {fr : FS} {ρ : Rho} {ω : Om} {x : Exn} (h : nms.contains x.cls = true) (h2 : subX x.cls c = true) : tryRO nms c fr (.exc x ρ ω) = fr ρ ω := by
  unfold tryRO; dsimp only; rw [if_pos h, if_pos h2]
end Dl
noncomputable section
namespace Pk
open PySem Dl
def bd__law_small_1 : FS :=
  (sSet 2 (eBin opAdd (eVar 2) (eTup (aCons (aVal (eTup (aCons (aVal (eVal (eCallE F__law_pick (aCons (eSlot 0) (aCons (aVal (eC (.int 7))) aNil))))) (aCons (aVal (eVal (eCallE F__law_pick (aCons (eSlot 0) (aCons (aVal (eC (.int 7))) aNil))))) (aCons (aVal (eBin opEq (eVal (eCallE F__law_pick (aCons (eSlot 0) (aCons (aVal (eC (.int 2))) aNil)))) (eC (.int 0)))) aNil))))) aNil))))
def f__law_small : FS :=
  (sSeq (sSet 2 (eTup aNil))
    (sSeq (sFor (eIt1 itR1 (eBin opAdd (eC (.int 1)) (eVal (eCallE F__law_pick (aCons (eSlot 0) (aCons (aVal (eVar 1)) aNil)))))) (gN 3)
    bd__law_small_1)
    (sRet (eVar 2))))
def F__law_small : Fn := fnE 2 4 f__law_small
def bd__law_stand_2_1 : FS :=
  (sIf (eTest (eBin opEq (eCallP F__law_placings (aCons (aVal (eVar 0)) (aCons (aVal (eVar 2)) (aCons (aVal (eRg1 D.lst (eCallB oLen (aCons (aVal (eVar 2)) aNil)))) aNil)))) (eList aNil))) (sRet (eC (.bl false))) sNext)
def f__law_stand_2 : FS :=
  (sSeq (sFor (eIt1 itSeq (eVar 1)) (gN 2)
    bd__law_stand_2_1)
    (sRet (eC (.bl true))))
def F__law_stand_2 : FnP := fnP 2 3 f__law_stand_2
def tr_check_lots_1 : FS :=
  (sExpr (eCallP F_check_plugs_2 (aCons (aVal (eVar 2)) (aCons (aVal (eC (.int 3))) aNil))))
def tr_check_lots_2 : FS :=
  (sRaiseI "BadLots" ["index"] (aCons (aVal (eVar 1)) aNil))
def bd_check_lots_3 : FS :=
  (sTryR ["BadSockets", "BadMany", "BadWidth", "BadPlugs", "BadLots"] "BadPlugs" tr_check_lots_1 tr_check_lots_2)
def f_check_lots : FS :=
  (sSeq (sIf (eOrT (eNotT (eTest (eIsi2 "list" "tuple" (eVar 0)))) (eNotT (eTest (eChain opLe opLe (eC (.int 1)) (eCallB oLen (aCons (aVal (eVar 0)) aNil)) (eC (.int 3)))))) (sRaiseI "BadLots" ["index"] (aCons (aVal (eC .non)) aNil)) sNext)
    (sFor (eIt1 itEn (eVar 0)) (gT 2 (gsCons (gN 1) (gsCons (gN 2) gsNil)))
    bd_check_lots_3))
def F_check_lots : FnP := fnP 1 3 f_check_lots
def lc_rows_of_1 : FE D :=
  (eLc2 [4, 5] [5] (eIt1 itSeq (eVar 2)) (gN 4) eTrue (eIt2 itR2 (eBin opAdd (eIx (eVar 4) (eUn opNeg (eC (.int 1)))) (eC (.int 1))) (eBin opAdd (eVar 1) (eC (.int 1)))) (gN 5) eTrue (eTup (aStar (eVar 4) (aCons (aVal (eVar 5)) aNil))))
def bd_rows_of_2 : FS :=
  (sSet 2 lc_rows_of_1)
def f_rows_of : FS :=
  (sSeq (sSet 2 (eList (aCons (aVal (eTup (aCons (aVal (eC (.int 0))) aNil))) aNil)))
    (sSeq (sFor (eIt1 itR1 (eBin opSub (eVar 0) (eC (.int 1)))) (gN 3)
    bd_rows_of_2)
    (sRet (eVar 2))))
def F_rows_of : FnP := fnP 2 6 f_rows_of
def lc_common_strip_1 : FE D :=
  (eLc [4] (eIt1 itSeq (eVar 0)) (gN 4) eTrue (eCallP F_can_all (aCons (aVal (eMake "Strip" F_Strip_d__init_d__2 (aCons (aVal (eVar 3)) aNil))) (aCons (aVal (eVar 4)) aNil))))
def bd_common_strip_2 : FS :=
  (sIf (eTest (eOnL oAllL (eLst lc_common_strip_1))) (sRet (eVar 3)) sNext)
def f_common_strip : FS :=
  (sSeq (sExpr (eCallP F_check_lots (aCons (aVal (eVar 0)) aNil)))
    (sSeq (sIf (eNotT (eTest (eCallP F_is_from (aCons (aVal (eVar 1)) (aCons (aVal (eC (.int 1))) (aCons (aVal (eC (.int 4))) aNil)))))) (sRaise "BadMany") sNext)
    (sSeq (sIf (eNotT (eTest (eCallP F_is_from (aCons (aVal (eVar 2)) (aCons (aVal (eC (.int 0))) (aCons (aVal (eC (.int 24))) aNil)))))) (sRaise "BadWidth") sNext)
    (sSeq (sFor (eIt1 itSeq (eCallP F_rows_of (aCons (aVal (eVar 1)) (aCons (aVal (eVar 2)) aNil)))) (gN 3)
    bd_common_strip_2)
    (sRet (eC .non))))))
def F_common_strip : FnP := fnP 3 5 f_common_strip
def tr__law_wrong_5_1 : FS :=
  (sSet 3 (eCallP F_common_strip (aCons (aVal (eVar 0)) (aCons (aVal (eVar 1)) (aCons (aVal (eVar 2)) aNil)))))
def f__law_wrong_5 : FS :=
  (sSeq (sSet 3 (eC .non))
    (sSeq (sTry ["BadSockets", "BadMany", "BadWidth", "BadPlugs", "BadLots"] 4 tr__law_wrong_5_1 [("BadLots", fun x => sSet 3 ((fun x => eIf (eTest ((eIsx "StripError") x)) ((fun x => eList ((fun x => aCons (aVal ((fun _ => (eC (.str "lots"))) x)) ((fun x => aCons (aVal ((eXf "BadLots" "index") x)) ((fun _ => aNil) x)) x)) x)) x) ((fun _ => (eC (.str "another"))) x)) x)), ("BadMany", fun x => sSet 3 ((fun x => eIf (eTest ((eIsx "StripError") x)) ((fun _ => (eC (.str "many"))) x) ((fun _ => (eC (.str "another"))) x)) x)), ("BadWidth", fun x => sSet 3 ((fun x => eIf (eTest ((eIsx "StripError") x)) ((fun _ => (eC (.str "width"))) x) ((fun _ => (eC (.str "another"))) x)) x))])
    (sRet (eVar 3))))
def F__law_wrong_5 : FnP := fnP 3 5 f__law_wrong_5
def lc_law_19_1 : FE D :=
  (eLc [14] (eIt1 itR1 (eBin opAdd (eC (.int 1)) (eVal (eCallE F__law_pick (aCons (eSlot 1) (aCons (aVal (eC (.int 2))) aNil)))))) (gN 14) eTrue (eVal (eCallE F__law_small (aCons (eSlot 1) (aCons (aVal (eC (.int 2))) aNil)))))
def lc_law_19_2 : FE D :=
  (eLc [8] (eIt2 itR2 (eBin opAdd (eIx (eVar 5) (eUn opNeg (eC (.int 1)))) (eC (.int 1))) (eBin opAdd (eVar 11) (eC (.int 1)))) (gN 8) eTrue (eBin opAdd (eVar 5) (eTup (aCons (aVal (eVar 8)) aNil))))
def bd_law_19_3 : FS :=
  (sSet 12 (eBin opAdd (eVar 12) lc_law_19_2))
def bd_law_19_4 : FS :=
  (sSeq (sSet 12 (eList aNil))
    (sSeq (sFor (eIt1 itSeq (eVar 6)) (gN 5)
    bd_law_19_3)
    (sSet 6 (eVar 12))))
def bd_law_19_5 : FS :=
  (sIf (eAndT (eTest (eBin opIsN (eVar 4) (eC .non))) (eTest (eCallP F__law_stand_2 (aCons (aVal (eVar 5)) (aCons (aVal (eVar 2)) aNil))))) (sSet 4 (eVar 5)) sNext)
def lc_law_19_6 : FE D :=
  (eLc [14] (eIt1 itR1 (eBin opAdd (eC (.int 1)) (eVal (eCallE F__law_pick (aCons (eSlot 1) (aCons (aVal (eC (.int 3))) aNil)))))) (gN 14) eTrue (eVal (eCallE F__law_small (aCons (eSlot 1) (aCons (aVal (eC (.int 3))) aNil)))))
def lc_law_19_7 : FE D :=
  (eLc [14] (eIt1 itR1 (eC (.int 3))) (gN 14) eTrue (eBin opAdd (eC (.int 1)) (eVal (eCallE F__law_pick (aCons (eSlot 1) (aCons (aVal (eC (.int 24))) aNil))))))
def bd_law_19_8 : FS :=
  (sSeq (sSet 13 (eSortSet (eBin opAdd (eList (aCons (aVal (eC (.int 0))) aNil)) lc_law_19_7)))
    (sIf (eAndT (eTest (eBin opEq (eCallB oLen (aCons (aVal (eVar 13)) aNil)) (eC (.int 4)))) (eAndT (eTest (eCallP F__law_stand_2 (aCons (aVal (eCallB oTuple (aCons (aVal (eVar 13)) aNil))) (aCons (aVal (eVar 2)) aNil)))) (eOrT (eTest (eBin opIsN (eVar 7) (eC .non))) (eTest (eBin opLtD (eCallB oTuple (aCons (aVal (eVar 13)) aNil)) (eVar 7)))))) (sRet (eC (.bl false))) sNext))
def f_law_19 : FS :=
  (sSeq (sSetS 1 (eCallE F__law_draws (aCons (aVal (eVar 0)) aNil)))
    (sSeq (sSet 2 lc_law_19_1)
    (sSeq (sPar3 10 11 6 (aCons (aVal (eBin opAdd (eC (.int 1)) (eVal (eCallE F__law_pick (aCons (eSlot 1) (aCons (aVal (eC (.int 3))) aNil)))))) (aCons (aVal (eVal (eCallE F__law_pick (aCons (eSlot 1) (aCons (aVal (eC (.int 13))) aNil))))) (aCons (aVal (eList (aCons (aVal (eTup (aCons (aVal (eC (.int 0))) aNil))) aNil))) aNil))))
    (sSeq (sFor (eIt1 itR1 (eBin opSub (eVar 10) (eC (.int 1)))) (gN 3)
    bd_law_19_4)
    (sSeq (sSet 4 (eC .non))
    (sSeq (sFor (eIt1 itSeq (eVar 6)) (gN 5)
    bd_law_19_5)
    (sSeq (sIf (eOrT (eTest (eBin opNe (eCallP F_common_strip (aCons (aVal (eVar 2)) (aCons (aVal (eVar 10)) (aCons (aVal (eVar 11)) aNil)))) (eVar 4))) (eTest (eBin opNe (eCallP F_common_strip (aCons (aVal (eCallB oTuple (aCons (aVal (eVar 2)) aNil))) (aCons (aVal (eVar 10)) (aCons (aVal (eVar 11)) aNil)))) (eVar 4)))) (sRet (eC (.bl false))) sNext)
    (sSeq (sSet 2 lc_law_19_6)
    (sSeq (sSet 7 (eCallP F_common_strip (aCons (aVal (eVar 2)) (aCons (aVal (eC (.int 4))) (aCons (aVal (eC (.int 24))) aNil)))))
    (sSeq (sIf (eTest (eBin opNotN (eVar 7) (eC .non))) (sIf (eOrT (eTest (eBin opNe (eCallB oLen (aCons (aVal (eVar 7)) aNil)) (eC (.int 4)))) (eOrT (eTest (eBin opNe (eIx (eVar 7) (eC (.int 0))) (eC (.int 0)))) (eOrT (eTest (eBin opGt (eIx (eVar 7) (eC (.int 3))) (eC (.int 24)))) (eNotT (eTest (eCallP F__law_stand_2 (aCons (aVal (eVar 7)) (aCons (aVal (eVar 2)) aNil)))))))) (sRet (eC (.bl false))) sNext) sNext)
    (sSeq (sFor (eIt1 itR1 (eC (.int 6))) (gN 3)
    bd_law_19_8)
    (sSeq (sSet 8 (eVal (eCallE F__law_pick (aCons (eSlot 1) (aCons (aVal (eCallB oLen (aCons (aVal (eVar 2)) aNil))) aNil)))))
    (sSeq (sSet 9 (eIx (eList (aCons (aVal (eC .non)) (aCons (aVal (eTup aNil)) (aCons (aVal (eList (aCons (aVal (eIx (eIx (eVar 2) (eC (.int 0))) (eC (.int 0)))) aNil))) (aCons (aVal (eBin opMulA (eSl (eIx (eVar 2) (eC (.int 0))) eNoPart (ePart (eC (.int 1)))) (eC (.int 4)))) (aCons (aVal (eTup (aCons (aVal (eVal (eCallE F__law_odd_plug (aCons (eSlot 1) aNil)))) aNil))) (aCons (aVal (eC (.str "0"))) aNil))))))) (eVal (eCallE F__law_pick (aCons (eSlot 1) (aCons (aVal (eC (.int 6))) aNil))))))
    (sSeq (sIf (eTest (eBin opNe (eCallP F__law_wrong_5 (aCons (aVal (eBin opAdd (eBin opAdd (eSl (eVar 2) eNoPart (ePart (eVar 8))) (eList (aCons (aVal (eVar 9)) aNil))) (eSl (eVar 2) (ePart (eBin opAdd (eVar 8) (eC (.int 1)))) eNoPart))) (aCons (aVal (eC .non)) (aCons (aVal (eC .non)) aNil)))) (eList (aCons (aVal (eC (.str "lots"))) (aCons (aVal (eVar 8)) aNil))))) (sRet (eC (.bl false))) sNext)
    (sSeq (sIf (eTest (eBin opNe (eCallP F__law_wrong_5 (aCons (aVal (eIx (eList (aCons (aVal (eC .non)) (aCons (aVal (eList aNil)) (aCons (aVal (eBin opMulB (eSl (eVar 2) eNoPart (ePart (eC (.int 1)))) (eC (.int 4)))) (aCons (aVal (eC (.int 5))) (aCons (aVal (eC (.str "0"))) aNil)))))) (eVal (eCallE F__law_pick (aCons (eSlot 1) (aCons (aVal (eC (.int 5))) aNil)))))) (aCons (aVal (eC .non)) (aCons (aVal (eC .non)) aNil)))) (eList (aCons (aVal (eC (.str "lots"))) (aCons (aVal (eC .non)) aNil))))) (sRet (eC (.bl false))) sNext)
    (sSeq (sIf (eTest (eBin opNe (eCallP F__law_wrong_5 (aCons (aVal (eVar 2)) (aCons (aVal (eIx (eList (aCons (aVal (eC (.int 0))) (aCons (aVal (eC (.int 5))) (aCons (aVal (eC .non)) (aCons (aVal (eC (.bl true))) (aCons (aVal (eC (.str "1"))) aNil)))))) (eVal (eCallE F__law_pick (aCons (eSlot 1) (aCons (aVal (eC (.int 5))) aNil)))))) (aCons (aVal (eC .non)) aNil)))) (eC (.str "many")))) (sRet (eC (.bl false))) sNext)
    (sRet (eBin opEq (eCallP F__law_wrong_5 (aCons (aVal (eVar 2)) (aCons (aVal (eC (.int 2))) (aCons (aVal (eIx (eList (aCons (aVal (eUn opNeg (eC (.int 1)))) (aCons (aVal (eC (.int 25))) (aCons (aVal (eC .non)) (aCons (aVal (eC (.bl true))) (aCons (aVal (eC (.str "1"))) aNil)))))) (eVal (eCallE F__law_pick (aCons (eSlot 1) (aCons (aVal (eC (.int 5))) aNil)))))) aNil)))) (eC (.str "width"))))))))))))))))))))
def F_law_19 : FnP := fnP 1 15 f_law_19
end Pk
namespace Pk
open PySem Dl L2
local macro_rules
  | `(tactic| push_cast [$xs,*]) => `(tactic| simp -implicitDefEqProofs only [↓eC_run, ↓eVar_run, ↓eSlot_run, ↓eBin_run, ↓eUn_run, ↓eTest_run, ↓eAndT_run, ↓eOrT_run, ↓eNotT_run, ↓eTrue_run, ↓eAnd_run, ↓eOr_run, ↓eNot_run, ↓eIf_run, ↓aNil_run, ↓aCons_run, ↓aVal_run, ↓eTup_run, ↓eList_run, ↓eLst_run, ↓eCallB_run, ↓eOnL_run, ↓eIsi_run, ↓eSl_run, ↓ePart_run, ↓eNoPart_run, ↓eChain_run, ↓eIxO_run, ↓eOwnL_run, ↓sNext_run, ↓sSeq_run, ↓sIf_run, ↓sExpr_run, ↓sRet_run, ↓sRetS_run, ↓sRetN_run, ↓sBreak_run, ↓sCont_run, ↓sAsg_run, ↓sSetS_run, ↓sPar_run, ↓sFor_run, ↓sWhile_run, ↓eIt1_run, ↓eIt2_run, ↓eIt3_run, ↓eLc_run, ↓eLc2_run, ↓sNewL_run, ↓sApp_run, ↓sSetIx_run, ↓sRetL_run, ↓sRetNew_run, ↓eCallP_run, ↓eCallE_run, ↓eVal_run, ↓eMake_run, ↓eFld_run, ↓sRaise_run, ↓sRaiseI_run, ↓sTry_run, ↓eIsx_run, ↓sPar3_run, ↓eNewL_run, ↓eNDisp_run, ↓eKDisp_run, ↓eEmptyK_run, ↓eNewN_run, ↓eKM_run, ↓eNGet_run, ↓eKGet_run, ↓eNGetO_run, ↓eCopyN_run, ↓sNPut_run, ↓aStar_run, ↓eRg1_run, ↓eIsi2_run, ↓eCopyL_run, ↓eNVals_run, bind_ok, bind_exc, out_ok, out_exc, lift_some, obind_next, obind_ret, obind_exc, obind_brk, obind_cont, varR_run, slotR_run, asBl_run, allD_nil, allD_cons, asLst_run, asI_run, chR_run, ownK_run, ownKR_run, ownL_run, ownLR_run, someR_run, someO_run, ixI_run, parR_run, gN_run, gsNil_run, gsCons_run, itSeq_lst, itSeq_tup, itEn_lst, itEn_tup, itZ_lst, itZ_tup, wipeR_nil, wipeR_cons, setIxR_run, finP_ret, finP_next, finP_exc, finE_ret, finE_next, finE_exc, callR_ok, callR_err, valR_run, makeR_ok, makeR_exc, opAdd_int, opI_run, opB_run, opMulA_int, opEq_run, opNe_run, opIsN_run, opNotN_run, opIx_tup, opIx_lst, opNeg_run, oLen_tup, oLen_lst, oInt_int, oInt_bl, oTuple_tup, oTuple_lst, oList_tup, oList_lst, oTupleL_run, oListL_run, oLenL_run, isi_int_non, isi_int_bl, isi_int_int, isi_int_str, isi_int_tup, isi_int_lst, isi_bool_non, isi_bool_bl, isi_bool_int, isi_bool_str, isi_bool_tup, isi_bool_lst, isi_tuple_non, isi_tuple_bl, isi_tuple_int, isi_tuple_str, isi_tuple_tup, isi_tuple_lst, isi_str_non, isi_str_bl, isi_str_int, isi_str_str, isi_str_tup, isi_str_lst, isi_list_non, isi_list_bl, isi_list_int, isi_list_str, isi_list_tup, isi_list_lst, atI_0, atI_1, atI_2, atI_3, atI_4, atI_5, atI_6, atI_7, atI_8, ixN_1_0, ixN_2_0, ixN_2_1, ixN_3_0, ixN_3_1, ixN_3_2, ixN_4_0, ixN_4_1, ixN_4_2, ixN_4_3, ixN_5_0, ixN_5_1, ixN_5_2, ixN_5_3, ixN_5_4, eqD_int, eqD_bl, eqD_non_non, isNon_non, isNon_bl, isNon_int, isNon_str, isNon_tup, isNon_lst, Option.map_some, Option.map_none, Option.bind_some, List.getElem?_cons_zero, List.getElem?_cons_succ, List.set_cons_zero, List.set_cons_succ, List.map_cons, List.map_nil, List.length_cons, List.length_nil, List.cons_append, List.nil_append, rho0, List.replicate, List.take_succ_cons, List.take_zero, List.take_nil, List.take_length, and_self, Bool.false_eq_true, Bool.not_true, Bool.not_false, decide_true, decide_false, raiseI_run1, raiseI_run2, tryO_next, tryO_ret, tryH_nil, unbind_next, unbind_ret, eXf_run, par3R_run, newLR_0, newLR_1, kmR_run, kmR2_run, asK_run, asN_run, getRL_run, getKL_run, ngo0_run, ngo1_run, ngoR_run, ownN_run, ownNR_run, npK_run, starR_run, itNItems_run, itNKeys_run, oDictK_run, opIn2_K, opKIx_run, keyK_int, copyLR_lst, copyLR_tup, gT2_run, nValsD_run, Option.getD_some, tup_0, lst_0, tup_1, lst_1, tup_2, lst_2, tup_3, lst_3, tup_4, lst_4, tup_5, lst_5, tup_6, lst_6, tup_7, lst_7, tup_8, lst_8, tup_9, lst_9, tup_10, lst_10, tup_11, lst_11, tup_12, lst_12, new_0, new_1, new_2, new_3, new_4, new_5, ↓reduceIte, Nat.reduceAdd, $xs,*])
  | `(tactic| push_cast [$xs,*] at $h:ident) => `(tactic| simp -implicitDefEqProofs only [↓eC_run, ↓eVar_run, ↓eSlot_run, ↓eBin_run, ↓eUn_run, ↓eTest_run, ↓eAndT_run, ↓eOrT_run, ↓eNotT_run, ↓eTrue_run, ↓eAnd_run, ↓eOr_run, ↓eNot_run, ↓eIf_run, ↓aNil_run, ↓aCons_run, ↓aVal_run, ↓eTup_run, ↓eList_run, ↓eLst_run, ↓eCallB_run, ↓eOnL_run, ↓eIsi_run, ↓eSl_run, ↓ePart_run, ↓eNoPart_run, ↓eChain_run, ↓eIxO_run, ↓eOwnL_run, ↓sNext_run, ↓sSeq_run, ↓sIf_run, ↓sExpr_run, ↓sRet_run, ↓sRetS_run, ↓sRetN_run, ↓sBreak_run, ↓sCont_run, ↓sAsg_run, ↓sSetS_run, ↓sPar_run, ↓sFor_run, ↓sWhile_run, ↓eIt1_run, ↓eIt2_run, ↓eIt3_run, ↓eLc_run, ↓eLc2_run, ↓sNewL_run, ↓sApp_run, ↓sSetIx_run, ↓sRetL_run, ↓sRetNew_run, ↓eCallP_run, ↓eCallE_run, ↓eVal_run, ↓eMake_run, ↓eFld_run, ↓sRaise_run, ↓sRaiseI_run, ↓sTry_run, ↓eIsx_run, ↓sPar3_run, ↓eNewL_run, ↓eNDisp_run, ↓eKDisp_run, ↓eEmptyK_run, ↓eNewN_run, ↓eKM_run, ↓eNGet_run, ↓eKGet_run, ↓eNGetO_run, ↓eCopyN_run, ↓sNPut_run, ↓aStar_run, ↓eRg1_run, ↓eIsi2_run, ↓eCopyL_run, ↓eNVals_run, bind_ok, bind_exc, out_ok, out_exc, lift_some, obind_next, obind_ret, obind_exc, obind_brk, obind_cont, varR_run, slotR_run, asBl_run, allD_nil, allD_cons, asLst_run, asI_run, chR_run, ownK_run, ownKR_run, ownL_run, ownLR_run, someR_run, someO_run, ixI_run, parR_run, gN_run, gsNil_run, gsCons_run, itSeq_lst, itSeq_tup, itEn_lst, itEn_tup, itZ_lst, itZ_tup, wipeR_nil, wipeR_cons, setIxR_run, finP_ret, finP_next, finP_exc, finE_ret, finE_next, finE_exc, callR_ok, callR_err, valR_run, makeR_ok, makeR_exc, opAdd_int, opI_run, opB_run, opMulA_int, opEq_run, opNe_run, opIsN_run, opNotN_run, opIx_tup, opIx_lst, opNeg_run, oLen_tup, oLen_lst, oInt_int, oInt_bl, oTuple_tup, oTuple_lst, oList_tup, oList_lst, oTupleL_run, oListL_run, oLenL_run, isi_int_non, isi_int_bl, isi_int_int, isi_int_str, isi_int_tup, isi_int_lst, isi_bool_non, isi_bool_bl, isi_bool_int, isi_bool_str, isi_bool_tup, isi_bool_lst, isi_tuple_non, isi_tuple_bl, isi_tuple_int, isi_tuple_str, isi_tuple_tup, isi_tuple_lst, isi_str_non, isi_str_bl, isi_str_int, isi_str_str, isi_str_tup, isi_str_lst, isi_list_non, isi_list_bl, isi_list_int, isi_list_str, isi_list_tup, isi_list_lst, atI_0, atI_1, atI_2, atI_3, atI_4, atI_5, atI_6, atI_7, atI_8, ixN_1_0, ixN_2_0, ixN_2_1, ixN_3_0, ixN_3_1, ixN_3_2, ixN_4_0, ixN_4_1, ixN_4_2, ixN_4_3, ixN_5_0, ixN_5_1, ixN_5_2, ixN_5_3, ixN_5_4, eqD_int, eqD_bl, eqD_non_non, isNon_non, isNon_bl, isNon_int, isNon_str, isNon_tup, isNon_lst, Option.map_some, Option.map_none, Option.bind_some, List.getElem?_cons_zero, List.getElem?_cons_succ, List.set_cons_zero, List.set_cons_succ, List.map_cons, List.map_nil, List.length_cons, List.length_nil, List.cons_append, List.nil_append, rho0, List.replicate, List.take_succ_cons, List.take_zero, List.take_nil, List.take_length, and_self, Bool.false_eq_true, Bool.not_true, Bool.not_false, decide_true, decide_false, raiseI_run1, raiseI_run2, tryO_next, tryO_ret, tryH_nil, unbind_next, unbind_ret, eXf_run, par3R_run, newLR_0, newLR_1, kmR_run, kmR2_run, asK_run, asN_run, getRL_run, getKL_run, ngo0_run, ngo1_run, ngoR_run, ownN_run, ownNR_run, npK_run, starR_run, itNItems_run, itNKeys_run, oDictK_run, opIn2_K, opKIx_run, keyK_int, copyLR_lst, copyLR_tup, gT2_run, nValsD_run, Option.getD_some, tup_0, lst_0, tup_1, lst_1, tup_2, lst_2, tup_3, lst_3, tup_4, lst_4, tup_5, lst_5, tup_6, lst_6, tup_7, lst_7, tup_8, lst_8, tup_9, lst_9, tup_10, lst_10, tup_11, lst_11, tup_12, lst_12, new_0, new_1, new_2, new_3, new_4, new_5, ↓reduceIte, Nat.reduceAdd, $xs,*] at $h:ident)
theorem lcAT {β : Type} {tg : FG} {tt : FE Bool} {el : FE D} {ρ : Rho} {ω : Om} (f : β → D) (y : β → D) : ∀ (xs : List β) (acc : List D), acc.length + xs.length ≤ lim →
    (∀ x ∈ xs, ∃ ρ1, tg (f x) ρ = some ρ1 ∧ tt ρ1 ω = .ok true ω ∧ el ρ1 ω = .ok (y x) ω) → lcA tg tt el ρ (xs.map f) acc ω = .ok (acc ++ xs.map y) ω
  | [], acc, _, _ => by rw [List.map_nil]; unfold lcA; simp
  | x :: xs, acc, hl, h => by
    obtain ⟨ρ1, h1, h2, h3⟩ := h x List.mem_cons_self
    rw [List.length_cons] at hl
    rw [List.map_cons]
    unfold lcA
    rw [h1]
    dsimp only
    rw [h2]
    dsimp only
    rw [h3]
    dsimp only
    rw [if_pos (by omega), lcAT f y xs (acc ++ [y x]) (by simp; omega) fun d' hd' => h d' (List.mem_cons_of_mem _ hd')]
    simp
theorem lc2T {α β : Type} {tg : FG} {tt : FE Bool} {it1 : FE (List D)} {tg1 : FG} {tt1 : FE Bool} {el : FE D} {vs1 : List Nat} {ρ : Rho} {ω : Om} (f : α → D) (g : α → List β) (fb : β → D) (y : α → β → D) : ∀ (xs : List α) (acc : List D), acc.length + (xs.flatMap g).length ≤ lim →
    (∀ x ∈ xs, ∃ ρ1, tg (f x) ρ = some ρ1 ∧ tt ρ1 ω = .ok true ω ∧ it1 ρ1 ω = .ok ((g x).map fb) ω ∧ ∀ b ∈ g x, ∃ ρ2, tg1 (fb b) (wipeR ρ1 vs1) = some ρ2 ∧ tt1 ρ2 ω = .ok true ω ∧ el ρ2 ω = .ok (y x b) ω) →
    lc2L tg tt it1 tg1 tt1 el vs1 ρ (xs.map f) acc ω = .ok (.lst (acc ++ xs.flatMap fun x => (g x).map (y x))) ω
  | [], acc, _, _ => by rw [List.map_nil]; unfold lc2L; simp
  | x :: xs, acc, hl, h => by
    obtain ⟨ρ1, h1, h2, h3, h4⟩ := h x List.mem_cons_self
    rw [List.flatMap_cons, List.length_append] at hl
    rw [List.map_cons]
    unfold lc2L
    rw [h1]
    dsimp only
    rw [h2]
    dsimp only
    rw [h3]
    dsimp only
    rw [lcAT fb (y x) (g x) acc (by omega) h4]
    dsimp only
    rw [lc2T f g fb y xs _ (by rw [List.length_append, List.length_map]; omega) fun d' hd' => h d' (List.mem_cons_of_mem _ hd'), List.flatMap_cons, List.append_assoc]
def lastN (r : List Nat) : Nat := r.getLast?.getD 0
def extW (w : Nat) (L : List (List Nat)) : List (List Nat) := L.flatMap fun r => (froms (lastN r + 1) (w + 1)).map fun x => r ++ [x]
def rowsF (w : Nat) : Nat → List (List Nat)
  | 0 => [[0]]
  | k + 1 => extW w (rowsF w k)
structure RwOk (w k : Nat) (r : List Nat) : Prop where
  len : r.length = k + 1
  asc : r.Pairwise (· < ·)
  hd : r.head? = some 0
  le : ∀ x ∈ r, x ≤ w
theorem asc_last {r : List Nat} (h : r.Pairwise (· < ·)) {x : Nat} (hx : x ∈ r) : x ≤ lastN r := by
  unfold lastN
  induction r generalizing x with
  | nil => cases hx
  | cons a r ih =>
    rw [List.pairwise_cons] at h
    cases r with
    | nil =>
      rw [List.mem_singleton] at hx
      subst hx
      exact Nat.le_refl _
    | cons b r =>
      rw [List.getLast?_cons_cons]
      rcases List.mem_cons.mp hx with rfl | hx
      · exact Nat.le_trans (Nat.le_of_lt (h.1 b List.mem_cons_self)) (ih h.2 List.mem_cons_self)
      · exact ih h.2 hx
theorem last_mem {r : List Nat} (h : r ≠ []) : lastN r ∈ r := by
  unfold lastN
  rw [List.getLast?_eq_some_getLast h]
  exact List.getLast_mem h
theorem memRows {w : Nat} : ∀ {k : Nat} {r : List Nat}, r ∈ rowsF w k ↔ RwOk w k r
  | 0, r => by
    refine ⟨fun h => ?_, fun h => ?_⟩
    · unfold rowsF at h
      rw [List.mem_singleton] at h
      subst h
      exact ⟨rfl, List.pairwise_singleton _ _, rfl, fun x hx => by rw [List.mem_singleton] at hx; omega⟩
    · obtain ⟨h1, h2, h3, h4⟩ := h
      match r, h1, h3 with
      | [a], _, h3 => cases h3; exact List.mem_singleton.mpr rfl
  | k + 1, r => by
    unfold rowsF extW
    rw [List.mem_flatMap]
    refine ⟨fun ⟨q, hq, h⟩ => ?_, fun h => ?_⟩
    · obtain ⟨x, hx, rfl⟩ := List.mem_map.mp h
      have Q := memRows.mp hq
      obtain ⟨h1, h2⟩ := mem_froms.mp hx
      refine ⟨by rw [List.length_append, Q.len]; rfl, ?_, ?_, ?_⟩
      · rw [List.pairwise_append]
        refine ⟨Q.asc, List.pairwise_singleton _ _, fun a ha b hb => ?_⟩
        rw [List.mem_singleton] at hb
        subst hb
        have := asc_last Q.asc ha
        omega
      · rw [List.head?_append, Q.hd]; rfl
      · intro y hy
        rcases List.mem_append.mp hy with hy | hy
        · exact Q.le y hy
        · rw [List.mem_singleton] at hy; omega
    · have hne : r ≠ [] := fun z => by have := h.len; rw [z] at this; cases this
      have e := List.dropLast_concat_getLast hne
      have hp := h.asc
      rw [← e, List.pairwise_append] at hp
      have hl : r.dropLast.length = k + 1 := by rw [List.length_dropLast, h.len]; rfl
      have hne2 : r.dropLast ≠ [] := fun z => by rw [z] at hl; cases hl
      refine ⟨r.dropLast, memRows.mpr ⟨hl, hp.1, ?_, fun x hx => h.le x (List.dropLast_subset r hx)⟩, List.mem_map.mpr ⟨r.getLast hne, mem_froms.mpr ⟨?_, ?_⟩, e⟩⟩
      · have := h.hd
        rw [← e, List.head?_append] at this
        cases hh : r.dropLast.head? with
        | none => rw [List.head?_eq_none_iff] at hh; exact absurd hh hne2
        | some a => rw [hh] at this; exact this
      · have := hp.2.2 _ (last_mem hne2) _ (List.mem_singleton.mpr rfl)
        omega
      · have := h.le _ (List.getLast_mem hne)
        omega
theorem ltN_snoc {x y : Nat} : ∀ {a b : List Nat}, a.length = b.length → ltN (a ++ [x]) (b ++ [y]) = if a = b then decide (x < y) else ltN a b
  | [], [], _ => by
    rw [if_pos rfl]
    show ltN [x] [y] = _
    unfold ltN
    by_cases h : x = y
    · rw [if_pos h]; unfold ltN; subst h; exact (decide_eq_false (Nat.lt_irrefl _)).symm
    · rw [if_neg h]
  | u :: a, v :: b, h => by
    rw [List.cons_append, List.cons_append]
    unfold ltN
    by_cases e : u = v
    · rw [if_pos e, if_pos e, ltN_snoc (by simpa using h)]
      subst e
      by_cases q : a = b
      · subst q; rw [if_pos rfl, if_pos rfl]
      · rw [if_neg q, if_neg fun z => q (List.cons.inj z).2]
    · rw [if_neg e, if_neg e, if_neg fun z => e (List.cons.inj z).1]
theorem rows_asc (w : Nat) : ∀ k, (rowsF w k).Pairwise fun a b => ltN a b = true
  | 0 => List.pairwise_singleton _ _
  | k + 1 => by
    unfold rowsF extW
    rw [List.pairwise_flatMap]
    refine ⟨fun r hr => ?_, (rows_asc w k).imp_of_mem fun {a b} ha hb hab x hx y hy => ?_⟩
    · rw [List.pairwise_map]
      unfold froms
      rw [List.pairwise_map]
      refine List.pairwise_lt_range.imp fun {x y} hxy => ?_
      rw [ltN_snoc rfl, if_pos rfl]
      exact decide_eq_true (by omega)
    · obtain ⟨u, _, rfl⟩ := List.mem_map.mp hx
      obtain ⟨v, _, rfl⟩ := List.mem_map.mp hy
      have la := (memRows.mp ha).len
      have lb := (memRows.mp hb).len
      rw [ltN_snoc (by omega)]
      split
      · rename_i e
        subst e
        rw [show ltN a a = false from by
          cases h : ltN a a with
          | false => rfl
          | true => have := ltN_asymm h; rw [h] at this; cases this] at hab
        cases hab
      · exact hab
theorem froms_len (a b : Nat) : (froms a b).length = b - a := by unfold froms; rw [List.length_map, List.length_range]
theorem flatMap_le {α β : Type} {f : α → List β} {m : Nat} : ∀ {l : List α}, (∀ a ∈ l, (f a).length ≤ m) → (l.flatMap f).length ≤ l.length * m
  | [], _ => by simp
  | a :: l, h => by
    rw [List.flatMap_cons, List.length_append, List.length_cons, Nat.add_mul, Nat.one_mul]
    have := h a List.mem_cons_self
    have := flatMap_le (l := l) fun b hb => h b (List.mem_cons_of_mem _ hb)
    omega
theorem rows_len {w : Nat} (hw : w ≤ 24) : ∀ k, (rowsF w k).length ≤ 25 ^ k
  | 0 => Nat.le_refl _
  | k + 1 => by
    unfold rowsF extW
    have := flatMap_le (f := fun r => (froms (lastN r + 1) (w + 1)).map fun x => r ++ [x]) (m := 25) (l := rowsF w k) fun r _ => by rw [List.length_map, froms_len]; omega
    have ih := rows_len hw k
    have : (rowsF w k).length * 25 ≤ 25 ^ k * 25 := Nat.mul_le_mul_right _ ih
    rw [Nat.pow_succ]
    omega
abbrev roR (k w : Nat) (L : List (List Nat)) (x3 : Option SV) : Rho := [some (SV.val (.int ((k : Int) + 1))), some (SV.val (.int (w : Int))), some (SV.val (.lst (L.map tD))), x3, none, none]
theorem atI_end {xs : List D} {x : D} : atI (xs ++ [x]) (-1) = some x := by
  unfold atI ixN
  rw [if_neg (by decide), if_pos (by rw [List.length_append]; simp; omega)]
  rw [show ((-1 : Int) + ((xs ++ [x]).length : Int)).toNat = xs.length by rw [List.length_append]; simp; omega]
  show (xs ++ [x])[xs.length]? = _
  simp
theorem ixT_last {r : List Nat} (h : r ≠ []) : opIx (tD r) (.int (-1)) = some (.int ((lastN r : Nat) : Int)) := by
  unfold tD
  rw [opIx_tup]
  have e := List.dropLast_concat_getLast h
  have e2 : lastN r = r.getLast h := by unfold lastN; rw [List.getLast?_eq_some_getLast h]; rfl
  rw [e2]
  conv => lhs; rw [← e]
  rw [List.map_append]
  exact atI_end
theorem it_two {a b : Nat} (h1 : a ≤ 1000) (h2 : b ≤ 1000) : itR2 (.int (a : Int)) (.int (b : Int)) = some ((froms a b).map nD) := by
  have := it_froms (lo := a) (n := b) h1 h2
  rw [show (a : Int) - 1 + 1 = a by omega] at this
  exact this
theorem ro_lc {k w i : Nat} (hw : w ≤ 24) (hi : i ≤ 2) {x3 : Option SV} {ω : Om} : lc_rows_of_1 (roR k w (rowsF w i) x3) ω = .ok (.lst ((rowsF w (i + 1)).map tD)) ω := by
  have hl : (rowsF w (i + 1)).length ≤ lim := by
    have := rows_len hw (i + 1)
    have : 25 ^ (i + 1) ≤ 25 ^ 3 := Nat.pow_le_pow_right (by decide) (by omega)
    show _ ≤ 16777216
    omega
  have it : itSeq (.lst ((rowsF w i).map tD)) = some ((rowsF w i).map tD) := rfl
  unfold lc_rows_of_1
  push_cast [roR, it]
  rw [lc2T tD (fun r => froms (lastN r + 1) (w + 1)) nD (fun r x => tD (r ++ [x])) (rowsF w i) []]
  · rw [List.nil_append, show rowsF w (i + 1) = extW w (rowsF w i) from rfl]
    unfold extW
    rw [List.map_flatMap]
    congr 3
    funext r
    rw [List.map_map]
    rfl
  · have e : ((rowsF w i).flatMap fun r => froms (lastN r + 1) (w + 1)).length = (rowsF w (i + 1)).length := by
      show _ = (extW w (rowsF w i)).length
      unfold extW
      rw [List.length_flatMap, List.length_flatMap]
      congr 1
      refine List.map_congr_left fun r _ => ?_
      rw [List.length_map]
    rw [e]
    simpa using hl
  · intro r hr
    have R := memRows.mp hr
    have hne : r ≠ [] := fun z => by have := R.len; rw [z] at this; cases this
    have h1 := ixT_last hne
    have h2 : lastN r ≤ w := R.le _ (last_mem hne)
    have h3 := it_two (a := lastN r + 1) (b := w + 1) (by omega) (by omega)
    have h4 : r.length ≤ 5 := by rw [R.len]; omega
    refine ⟨_, rfl, rfl, ?_, fun x hx => ⟨_, rfl, rfl, ?_⟩⟩
    · have h3 : itR2 (.int ((lastN r : Int) + 1)) (.int ((w : Int) + 1)) = some ((froms (lastN r + 1) (w + 1)).map nD) := h3
      generalize hR : tD r = R at h1
      push_cast [h1, h3]
    · have i2 : itSeq (tD r) = some (r.map nD) := rfl
      have L1 : ((r.map nD).map SV.val ++ [SV.val (nD x)]).length ≤ lim := by
        simp only [List.length_append, List.length_map, List.length_singleton]
        show _ ≤ 16777216
        omega
      have e5 : D.tup (r.map nD ++ [nD x]) = tD (r ++ [x]) := by unfold tD; rw [List.map_append]; rfl
      generalize hR : tD r = R at i2
      generalize hM : r.map nD = M at i2 L1 e5
      push_cast [i2, allD_app, tupR_run L1, e5]
theorem rows_of_run {k w : Nat} (hk : k ≤ 3) (hw : w ≤ 24) : F_rows_of [.int ((k : Int) + 1), .int (w : Int)] = some (.ok (.lst ((rowsF w k).map tD))) := by
  have i1 : itR1 (.int ((k : Int) + 1 - 1)) = some ((List.range k).map nD) := by
    rw [show (k : Int) + 1 - 1 = k by omega, itR1_run (by omega) (by omega)]
    exact congrArg some (rng_nD k)
  obtain ⟨ρ', ω', e, hn, x3', rfl, rfl⟩ := forL_foldI (tg := gN 3) (b := bd_rows_of_2) nD (fun n _ => n + 1) (fun m n ρ ω => n = m ∧ ∃ x3, ρ = roR k w (rowsF w n) x3 ∧ ω = [])
    (List.range k) 0 0 (roR k w (rowsF w 0) none) [] ⟨rfl, none, rfl, rfl⟩ (by
    rintro m n x ρ ω hx hm ⟨rfl, x3, rfl, rfl⟩
    rw [List.length_range] at hm
    have := ro_lc (k := k) (i := n) (x3 := iV x) (ω := []) hw (by omega)
    refine ⟨_, _, _, rfl, ?_, rfl, iV x, rfl, rfl⟩
    unfold bd_rows_of_2
    simp only [roR] at this
    generalize hA : D.lst ((rowsF w n).map tD) = A at this
    generalize hB : D.lst ((rowsF w (n + 1)).map tD) = B at this
    simp only [roR, hA, hB]
    push_cast [iV, nD, this])
  rw [hn, Nat.zero_add, List.length_range] at e
  have e0 : D.lst [.tup [.int 0]] = .lst ((rowsF w 0).map tD) := rfl
  unfold F_rows_of
  rw [fnP_run (by rfl)]
  unfold f_rows_of
  simp only [roR] at e
  generalize hB : D.lst ((rowsF w k).map tD) = B at e
  generalize hA : D.lst ((rowsF w 0).map tD) = A at e e0
  push_cast [i1, e0, e]
theorem eDc_run {ρ : Rho} {ω : Om} (vs) (it : FE (List D)) (tg) (tt) (fk fv : FE D) : eDc vs it tg tt fk fv ρ ω = bindL (it ρ ω) (k := ⟨fun ds ω1 => dcL tg tt fk fv (wipeR ρ vs) ds [] ω1⟩) := rfl
theorem eBinOL_run {ρ : Rho} {ω : Om} {i : Nat} (op) (g : FE D) : eBinOL op i g ρ ω = someRL (ownK ρ i) (k := ⟨fun k => bindL (g ρ ω) (k := ⟨fun y ω2 => someRL (ownL ω2 k) (k := ⟨fun ds => Res.lift (op (.lst ds) y) ω2⟩)⟩)⟩) := by
  show eBinOL op i g ρ ω = someR (ownK ρ i) fun k => (g ρ ω).bind fun y ω2 => someR (ownL ω2 k) fun ds => Res.lift (op (.lst ds) y) ω2
  unfold eBinOL someR
  cases ownK ρ i with
  | none => rfl
  | some k =>
    dsimp only
    congr 1
    funext y ω2
    cases ownL ω2 k <;> rfl
theorem forL_findW {tg : FG} {b : FS} {α : Type} (f : α → D) (g : α → Option D) (P : Rho → Om → Prop) : ∀ (xs : List α) (ρ : Rho) (ω : Om), P ρ ω →
    (∀ x ∈ xs, ∀ ρ ω, P ρ ω → ∃ ρ1, tg (f x) ρ = some ρ1 ∧ (match g x with
      | some y => ∃ ω2, b ρ1 ω = .ret (.val y) ω2
      | none => ∃ ρ2 ω2, b ρ1 ω = .next ρ2 ω2 ∧ P ρ2 ω2)) →
    (match xs.findSome? g with
      | some y => ∃ ω', forL tg b (xs.map f) ρ ω = .ret (.val y) ω'
      | none => ∃ ρ' ω', forL tg b (xs.map f) ρ ω = .next ρ' ω' ∧ P ρ' ω')
  | [], ρ, ω, p, _ => ⟨ρ, ω, rfl, p⟩
  | x :: xs, ρ, ω, p, h => by
    obtain ⟨ρ1, h1, h2⟩ := h x List.mem_cons_self ρ ω p
    rw [List.findSome?_cons, List.map_cons]
    cases q : g x with
    | some y =>
      rw [q] at h2
      obtain ⟨ω2, h2⟩ := h2
      exact ⟨ω2, forL_ret h1 h2⟩
    | none =>
      rw [q] at h2
      obtain ⟨ρ2, ω2, h3, p2⟩ := h2
      dsimp only
      rw [forL_next h1 h3]
      exact forL_findW f g P xs ρ2 ω2 p2 fun y hy => h y (List.mem_cons_of_mem _ hy)
end Pk
namespace Pk
open PySem Dl L2
local macro_rules
  | `(tactic| push_cast [$xs,*]) => `(tactic| simp -implicitDefEqProofs only [↓eC_run, ↓eVar_run, ↓eSlot_run, ↓eBin_run, ↓eUn_run, ↓eTest_run, ↓eAndT_run, ↓eOrT_run, ↓eNotT_run, ↓eTrue_run, ↓eAnd_run, ↓eOr_run, ↓eNot_run, ↓eIf_run, ↓aNil_run, ↓aCons_run, ↓aVal_run, ↓eTup_run, ↓eList_run, ↓eLst_run, ↓eCallB_run, ↓eOnL_run, ↓eIsi_run, ↓eSl_run, ↓ePart_run, ↓eNoPart_run, ↓eChain_run, ↓eIxO_run, ↓eOwnL_run, ↓sNext_run, ↓sSeq_run, ↓sIf_run, ↓sExpr_run, ↓sRet_run, ↓sRetS_run, ↓sRetN_run, ↓sBreak_run, ↓sCont_run, ↓sAsg_run, ↓sSetS_run, ↓sPar_run, ↓sFor_run, ↓sWhile_run, ↓eIt1_run, ↓eIt2_run, ↓eIt3_run, ↓eLc_run, ↓eLc2_run, ↓sNewL_run, ↓sApp_run, ↓sSetIx_run, ↓sRetL_run, ↓sRetNew_run, ↓eCallP_run, ↓eCallE_run, ↓eVal_run, ↓eMake_run, ↓eFld_run, ↓sRaise_run, ↓sRaiseI_run, ↓sTry_run, ↓eIsx_run, ↓sPar3_run, ↓eNewL_run, ↓eNDisp_run, ↓eKDisp_run, ↓eEmptyK_run, ↓eNewN_run, ↓eKM_run, ↓eNGet_run, ↓eKGet_run, ↓eNGetO_run, ↓eCopyN_run, ↓sNPut_run, ↓aStar_run, ↓eRg1_run, ↓eIsi2_run, ↓eCopyL_run, ↓eNVals_run, ↓eDc_run, ↓eBinOL_run, bind_ok, bind_exc, out_ok, out_exc, lift_some, obind_next, obind_ret, obind_exc, obind_brk, obind_cont, varR_run, slotR_run, asBl_run, allD_nil, allD_cons, asLst_run, asI_run, chR_run, ownK_run, ownKR_run, ownL_run, ownLR_run, someR_run, someO_run, ixI_run, parR_run, gN_run, gsNil_run, gsCons_run, itSeq_lst, itSeq_tup, itEn_lst, itEn_tup, itZ_lst, itZ_tup, wipeR_nil, wipeR_cons, setIxR_run, finP_ret, finP_next, finP_exc, finE_ret, finE_next, finE_exc, callR_ok, callR_err, valR_run, makeR_ok, makeR_exc, opAdd_int, opI_run, opB_run, opMulA_int, opEq_run, opNe_run, opIsN_run, opNotN_run, opIx_tup, opIx_lst, opNeg_run, oLen_tup, oLen_lst, oInt_int, oInt_bl, oTuple_tup, oTuple_lst, oList_tup, oList_lst, oTupleL_run, oListL_run, oLenL_run, isi_int_non, isi_int_bl, isi_int_int, isi_int_str, isi_int_tup, isi_int_lst, isi_bool_non, isi_bool_bl, isi_bool_int, isi_bool_str, isi_bool_tup, isi_bool_lst, isi_tuple_non, isi_tuple_bl, isi_tuple_int, isi_tuple_str, isi_tuple_tup, isi_tuple_lst, isi_str_non, isi_str_bl, isi_str_int, isi_str_str, isi_str_tup, isi_str_lst, isi_list_non, isi_list_bl, isi_list_int, isi_list_str, isi_list_tup, isi_list_lst, atI_0, atI_1, atI_2, atI_3, atI_4, atI_5, atI_6, atI_7, atI_8, ixN_1_0, ixN_2_0, ixN_2_1, ixN_3_0, ixN_3_1, ixN_3_2, ixN_4_0, ixN_4_1, ixN_4_2, ixN_4_3, ixN_5_0, ixN_5_1, ixN_5_2, ixN_5_3, ixN_5_4, eqD_int, eqD_bl, eqD_non_non, isNon_non, isNon_bl, isNon_int, isNon_str, isNon_tup, isNon_lst, Option.map_some, Option.map_none, Option.bind_some, List.getElem?_cons_zero, List.getElem?_cons_succ, List.set_cons_zero, List.set_cons_succ, List.map_cons, List.map_nil, List.length_cons, List.length_nil, List.cons_append, List.nil_append, rho0, List.replicate, List.take_succ_cons, List.take_zero, List.take_nil, List.take_length, and_self, Bool.false_eq_true, Bool.not_true, Bool.not_false, decide_true, decide_false, raiseI_run1, raiseI_run2, tryO_next, tryO_ret, tryH_nil, unbind_next, unbind_ret, eXf_run, par3R_run, newLR_0, newLR_1, kmR_run, kmR2_run, asK_run, asN_run, getRL_run, getKL_run, ngo0_run, ngo1_run, ngoR_run, ownN_run, ownNR_run, npK_run, starR_run, itNItems_run, itNKeys_run, oDictK_run, opIn2_K, opKIx_run, keyK_int, copyLR_lst, copyLR_tup, gT2_run, nValsD_run, Option.getD_some, tup_0, lst_0, tup_1, lst_1, tup_2, lst_2, tup_3, lst_3, tup_4, lst_4, tup_5, lst_5, tup_6, lst_6, tup_7, lst_7, tup_8, lst_8, tup_9, lst_9, tup_10, lst_10, tup_11, lst_11, tup_12, lst_12, new_0, new_1, new_2, new_3, new_4, new_5, ↓reduceIte, Nat.reduceAdd, $xs,*])
  | `(tactic| push_cast [$xs,*] at $h:ident) => `(tactic| simp -implicitDefEqProofs only [↓eC_run, ↓eVar_run, ↓eSlot_run, ↓eBin_run, ↓eUn_run, ↓eTest_run, ↓eAndT_run, ↓eOrT_run, ↓eNotT_run, ↓eTrue_run, ↓eAnd_run, ↓eOr_run, ↓eNot_run, ↓eIf_run, ↓aNil_run, ↓aCons_run, ↓aVal_run, ↓eTup_run, ↓eList_run, ↓eLst_run, ↓eCallB_run, ↓eOnL_run, ↓eIsi_run, ↓eSl_run, ↓ePart_run, ↓eNoPart_run, ↓eChain_run, ↓eIxO_run, ↓eOwnL_run, ↓sNext_run, ↓sSeq_run, ↓sIf_run, ↓sExpr_run, ↓sRet_run, ↓sRetS_run, ↓sRetN_run, ↓sBreak_run, ↓sCont_run, ↓sAsg_run, ↓sSetS_run, ↓sPar_run, ↓sFor_run, ↓sWhile_run, ↓eIt1_run, ↓eIt2_run, ↓eIt3_run, ↓eLc_run, ↓eLc2_run, ↓sNewL_run, ↓sApp_run, ↓sSetIx_run, ↓sRetL_run, ↓sRetNew_run, ↓eCallP_run, ↓eCallE_run, ↓eVal_run, ↓eMake_run, ↓eFld_run, ↓sRaise_run, ↓sRaiseI_run, ↓sTry_run, ↓eIsx_run, ↓sPar3_run, ↓eNewL_run, ↓eNDisp_run, ↓eKDisp_run, ↓eEmptyK_run, ↓eNewN_run, ↓eKM_run, ↓eNGet_run, ↓eKGet_run, ↓eNGetO_run, ↓eCopyN_run, ↓sNPut_run, ↓aStar_run, ↓eRg1_run, ↓eIsi2_run, ↓eCopyL_run, ↓eNVals_run, ↓eDc_run, ↓eBinOL_run, bind_ok, bind_exc, out_ok, out_exc, lift_some, obind_next, obind_ret, obind_exc, obind_brk, obind_cont, varR_run, slotR_run, asBl_run, allD_nil, allD_cons, asLst_run, asI_run, chR_run, ownK_run, ownKR_run, ownL_run, ownLR_run, someR_run, someO_run, ixI_run, parR_run, gN_run, gsNil_run, gsCons_run, itSeq_lst, itSeq_tup, itEn_lst, itEn_tup, itZ_lst, itZ_tup, wipeR_nil, wipeR_cons, setIxR_run, finP_ret, finP_next, finP_exc, finE_ret, finE_next, finE_exc, callR_ok, callR_err, valR_run, makeR_ok, makeR_exc, opAdd_int, opI_run, opB_run, opMulA_int, opEq_run, opNe_run, opIsN_run, opNotN_run, opIx_tup, opIx_lst, opNeg_run, oLen_tup, oLen_lst, oInt_int, oInt_bl, oTuple_tup, oTuple_lst, oList_tup, oList_lst, oTupleL_run, oListL_run, oLenL_run, isi_int_non, isi_int_bl, isi_int_int, isi_int_str, isi_int_tup, isi_int_lst, isi_bool_non, isi_bool_bl, isi_bool_int, isi_bool_str, isi_bool_tup, isi_bool_lst, isi_tuple_non, isi_tuple_bl, isi_tuple_int, isi_tuple_str, isi_tuple_tup, isi_tuple_lst, isi_str_non, isi_str_bl, isi_str_int, isi_str_str, isi_str_tup, isi_str_lst, isi_list_non, isi_list_bl, isi_list_int, isi_list_str, isi_list_tup, isi_list_lst, atI_0, atI_1, atI_2, atI_3, atI_4, atI_5, atI_6, atI_7, atI_8, ixN_1_0, ixN_2_0, ixN_2_1, ixN_3_0, ixN_3_1, ixN_3_2, ixN_4_0, ixN_4_1, ixN_4_2, ixN_4_3, ixN_5_0, ixN_5_1, ixN_5_2, ixN_5_3, ixN_5_4, eqD_int, eqD_bl, eqD_non_non, isNon_non, isNon_bl, isNon_int, isNon_str, isNon_tup, isNon_lst, Option.map_some, Option.map_none, Option.bind_some, List.getElem?_cons_zero, List.getElem?_cons_succ, List.set_cons_zero, List.set_cons_succ, List.map_cons, List.map_nil, List.length_cons, List.length_nil, List.cons_append, List.nil_append, rho0, List.replicate, List.take_succ_cons, List.take_zero, List.take_nil, List.take_length, and_self, Bool.false_eq_true, Bool.not_true, Bool.not_false, decide_true, decide_false, raiseI_run1, raiseI_run2, tryO_next, tryO_ret, tryH_nil, unbind_next, unbind_ret, eXf_run, par3R_run, newLR_0, newLR_1, kmR_run, kmR2_run, asK_run, asN_run, getRL_run, getKL_run, ngo0_run, ngo1_run, ngoR_run, ownN_run, ownNR_run, npK_run, starR_run, itNItems_run, itNKeys_run, oDictK_run, opIn2_K, opKIx_run, keyK_int, copyLR_lst, copyLR_tup, gT2_run, nValsD_run, Option.getD_some, tup_0, lst_0, tup_1, lst_1, tup_2, lst_2, tup_3, lst_3, tup_4, lst_4, tup_5, lst_5, tup_6, lst_6, tup_7, lst_7, tup_8, lst_8, tup_9, lst_9, tup_10, lst_10, tup_11, lst_11, tup_12, lst_12, new_0, new_1, new_2, new_3, new_4, new_5, ↓reduceIte, Nat.reduceAdd, $xs,*] at $h:ident)
theorem hereF_asc : ∀ (plan : Plan) (k : Nat), (hereF k plan).Pairwise (· < ·) ∧ ∀ i ∈ hereF k plan, k ≤ i ∧ i < k + plan.length
  | [], k => ⟨.nil, fun i h => by cases h⟩
  | o :: r, k => by
    obtain ⟨h1, h2⟩ := hereF_asc r (k + 1)
    cases o with
    | none =>
      refine ⟨h1, fun i hi => ?_⟩
      have := h2 i hi
      rw [List.length_cons]
      omega
    | some p =>
      show (k :: hereF (k + 1) r).Pairwise _ ∧ ∀ i ∈ k :: hereF (k + 1) r, _
      refine ⟨List.pairwise_cons.mpr ⟨fun i hi => by have := h2 i hi; omega, h1⟩, fun i hi => ?_⟩
      rw [List.length_cons]
      rcases List.mem_cons.mp hi with rfl | hi
      · omega
      · have := h2 i hi; omega
theorem here_asc (plan : Plan) : (here plan).Pairwise (· < ·) := (hereF_asc plan 0).1
theorem here_lt {plan : Plan} {i : Nat} (h : i ∈ here plan) : i < plan.length := by have := (hereF_asc plan 0).2 i h; omega
def plAt (plan : Plan) (i : Nat) : Place := match plan[i]? with
  | some (some p) => p
  | _ => (0, false)
section
variable (s : List Int) (ps : List Plug) (plan : Plan) (g : Plug)
abbrev wnt : List Nat := here plan ++ [ps.length]
def fxOf (S : List Nat) : Fix := ((here plan).zipIdx.filter fun z => !S.contains z.2).map fun z => (z.1, plAt plan z.1)
def hd1 (S : List Nat) : Option Plan := (vals s (ps ++ [g]) (wnt ps plan) (fxOf plan S)).head?
end
structure Mr (s : List Int) (ps : List Plug) (plan : Plan) (g : Plug) : Prop where
  P : PsOk s ps
  ne : ps ≠ []
  h5 : ps.length ≤ 5
  len : plan.length = ps.length
  ok : PlanOk s.length plan
  right : Right s ps plan
  pg : PlugOk g
section
variable {s : List Int} {ps : List Plug} {plan : Plan} {g : Plug}
theorem Mr.PE (M : Mr s ps plan g) : PsOk s (ps ++ [g]) :=
  ⟨M.P.sk, fun p hp => by
    rcases List.mem_append.mp hp with h | h
    · exact M.P.pl p h
    · rw [List.mem_singleton.mp h]; exact M.pg, by rw [List.length_append]; have := M.h5; show _ + 1 ≤ 6; omega, M.P.sl⟩
theorem Mr.hl (M : Mr s ps plan g) : (here plan).length ≤ ps.length := by
  have := M.len
  have h : ∀ (plan : Plan) (k : Nat), (hereF k plan).length ≤ plan.length := fun plan => by
    induction plan with
    | nil => intro k; exact Nat.le_refl _
    | cons o r ih =>
      intro k
      have := ih (k + 1)
      cases o with
      | none => show (hereF (k + 1) r).length ≤ _; rw [List.length_cons]; omega
      | some p => show (hereF (k + 1) r).length + 1 ≤ _; rw [List.length_cons]; omega
  have := h plan 0
  unfold here
  omega
theorem Mr.asc (M : Mr s ps plan g) : (wnt ps plan).Pairwise (· < ·) := by
  refine List.pairwise_append.mpr ⟨here_asc plan, List.pairwise_singleton _ _, fun a ha b hb => ?_⟩
  rw [List.mem_singleton.mp hb]
  have := here_lt ha
  have := M.len
  omega
theorem Mr.W (M : Mr s ps plan g) : ∀ i ∈ wnt ps plan, i < (ps ++ [g]).length := fun i hi => by
  rw [List.length_append]
  show i < ps.length + 1
  rcases List.mem_append.mp hi with h | h
  · have := here_lt h
    have := M.len
    omega
  · rw [List.mem_singleton.mp h]; omega
end
section
variable (plan : Plan)
end
section
variable {s : List Int} {ps : List Plug} {plan : Plan} {g : Plug}
end
end Pk
namespace Pk
open PySem Dl L2
local macro_rules
  | `(tactic| push_cast [$xs,*]) => `(tactic| simp -implicitDefEqProofs only [↓eC_run, ↓eVar_run, ↓eSlot_run, ↓eBin_run, ↓eUn_run, ↓eTest_run, ↓eAndT_run, ↓eOrT_run, ↓eNotT_run, ↓eTrue_run, ↓eAnd_run, ↓eOr_run, ↓eNot_run, ↓eIf_run, ↓aNil_run, ↓aCons_run, ↓aVal_run, ↓eTup_run, ↓eList_run, ↓eLst_run, ↓eCallB_run, ↓eOnL_run, ↓eIsi_run, ↓eSl_run, ↓ePart_run, ↓eNoPart_run, ↓eChain_run, ↓eIxO_run, ↓eOwnL_run, ↓sNext_run, ↓sSeq_run, ↓sIf_run, ↓sExpr_run, ↓sRet_run, ↓sRetS_run, ↓sRetN_run, ↓sBreak_run, ↓sCont_run, ↓sAsg_run, ↓sSetS_run, ↓sPar_run, ↓sFor_run, ↓sWhile_run, ↓eIt1_run, ↓eIt2_run, ↓eIt3_run, ↓eLc_run, ↓eLc2_run, ↓sNewL_run, ↓sApp_run, ↓sSetIx_run, ↓sRetL_run, ↓sRetNew_run, ↓eCallP_run, ↓eCallE_run, ↓eVal_run, ↓eMake_run, ↓eFld_run, ↓sRaise_run, ↓sRaiseI_run, ↓sTry_run, ↓eIsx_run, ↓sPar3_run, ↓eNewL_run, ↓eNDisp_run, ↓eKDisp_run, ↓eEmptyK_run, ↓eNewN_run, ↓eKM_run, ↓eNGet_run, ↓eKGet_run, ↓eNGetO_run, ↓eCopyN_run, ↓sNPut_run, ↓aStar_run, ↓eRg1_run, ↓eIsi2_run, ↓eCopyL_run, ↓eNVals_run, bind_ok, bind_exc, out_ok, out_exc, lift_some, obind_next, obind_ret, obind_exc, obind_brk, obind_cont, varR_run, slotR_run, asBl_run, allD_nil, allD_cons, asLst_run, asI_run, chR_run, ownK_run, ownKR_run, ownL_run, ownLR_run, someR_run, someO_run, ixI_run, parR_run, gN_run, gsNil_run, gsCons_run, itSeq_lst, itSeq_tup, itEn_lst, itEn_tup, itZ_lst, itZ_tup, wipeR_nil, wipeR_cons, setIxR_run, finP_ret, finP_next, finP_exc, finE_ret, finE_next, finE_exc, callR_ok, callR_err, valR_run, makeR_ok, makeR_exc, opAdd_int, opI_run, opB_run, opMulA_int, opEq_run, opNe_run, opIsN_run, opNotN_run, opIx_tup, opIx_lst, opNeg_run, oLen_tup, oLen_lst, oInt_int, oInt_bl, oTuple_tup, oTuple_lst, oList_tup, oList_lst, oTupleL_run, oListL_run, oLenL_run, isi_int_non, isi_int_bl, isi_int_int, isi_int_str, isi_int_tup, isi_int_lst, isi_bool_non, isi_bool_bl, isi_bool_int, isi_bool_str, isi_bool_tup, isi_bool_lst, isi_tuple_non, isi_tuple_bl, isi_tuple_int, isi_tuple_str, isi_tuple_tup, isi_tuple_lst, isi_str_non, isi_str_bl, isi_str_int, isi_str_str, isi_str_tup, isi_str_lst, isi_list_non, isi_list_bl, isi_list_int, isi_list_str, isi_list_tup, isi_list_lst, atI_0, atI_1, atI_2, atI_3, atI_4, atI_5, atI_6, atI_7, atI_8, ixN_1_0, ixN_2_0, ixN_2_1, ixN_3_0, ixN_3_1, ixN_3_2, ixN_4_0, ixN_4_1, ixN_4_2, ixN_4_3, ixN_5_0, ixN_5_1, ixN_5_2, ixN_5_3, ixN_5_4, eqD_int, eqD_bl, eqD_non_non, isNon_non, isNon_bl, isNon_int, isNon_str, isNon_tup, isNon_lst, Option.map_some, Option.map_none, Option.bind_some, List.getElem?_cons_zero, List.getElem?_cons_succ, List.set_cons_zero, List.set_cons_succ, List.map_cons, List.map_nil, List.length_cons, List.length_nil, List.cons_append, List.nil_append, rho0, List.replicate, List.take_succ_cons, List.take_zero, List.take_nil, List.take_length, and_self, Bool.false_eq_true, Bool.not_true, Bool.not_false, decide_true, decide_false, raiseI_run1, raiseI_run2, tryO_next, tryO_ret, tryH_nil, unbind_next, unbind_ret, eXf_run, par3R_run, newLR_0, newLR_1, kmR_run, kmR2_run, asK_run, asN_run, getRL_run, getKL_run, ngo0_run, ngo1_run, ngoR_run, ownN_run, ownNR_run, npK_run, starR_run, itNItems_run, itNKeys_run, oDictK_run, opIn2_K, opKIx_run, keyK_int, copyLR_lst, copyLR_tup, gT2_run, nValsD_run, Option.getD_some, tup_0, lst_0, tup_1, lst_1, tup_2, lst_2, tup_3, lst_3, tup_4, lst_4, tup_5, lst_5, tup_6, lst_6, tup_7, lst_7, tup_8, lst_8, tup_9, lst_9, tup_10, lst_10, tup_11, lst_11, tup_12, lst_12, new_0, new_1, new_2, new_3, new_4, new_5, ↓reduceIte, Nat.reduceAdd, $xs,*])
  | `(tactic| push_cast [$xs,*] at $h:ident) => `(tactic| simp -implicitDefEqProofs only [↓eC_run, ↓eVar_run, ↓eSlot_run, ↓eBin_run, ↓eUn_run, ↓eTest_run, ↓eAndT_run, ↓eOrT_run, ↓eNotT_run, ↓eTrue_run, ↓eAnd_run, ↓eOr_run, ↓eNot_run, ↓eIf_run, ↓aNil_run, ↓aCons_run, ↓aVal_run, ↓eTup_run, ↓eList_run, ↓eLst_run, ↓eCallB_run, ↓eOnL_run, ↓eIsi_run, ↓eSl_run, ↓ePart_run, ↓eNoPart_run, ↓eChain_run, ↓eIxO_run, ↓eOwnL_run, ↓sNext_run, ↓sSeq_run, ↓sIf_run, ↓sExpr_run, ↓sRet_run, ↓sRetS_run, ↓sRetN_run, ↓sBreak_run, ↓sCont_run, ↓sAsg_run, ↓sSetS_run, ↓sPar_run, ↓sFor_run, ↓sWhile_run, ↓eIt1_run, ↓eIt2_run, ↓eIt3_run, ↓eLc_run, ↓eLc2_run, ↓sNewL_run, ↓sApp_run, ↓sSetIx_run, ↓sRetL_run, ↓sRetNew_run, ↓eCallP_run, ↓eCallE_run, ↓eVal_run, ↓eMake_run, ↓eFld_run, ↓sRaise_run, ↓sRaiseI_run, ↓sTry_run, ↓eIsx_run, ↓sPar3_run, ↓eNewL_run, ↓eNDisp_run, ↓eKDisp_run, ↓eEmptyK_run, ↓eNewN_run, ↓eKM_run, ↓eNGet_run, ↓eKGet_run, ↓eNGetO_run, ↓eCopyN_run, ↓sNPut_run, ↓aStar_run, ↓eRg1_run, ↓eIsi2_run, ↓eCopyL_run, ↓eNVals_run, bind_ok, bind_exc, out_ok, out_exc, lift_some, obind_next, obind_ret, obind_exc, obind_brk, obind_cont, varR_run, slotR_run, asBl_run, allD_nil, allD_cons, asLst_run, asI_run, chR_run, ownK_run, ownKR_run, ownL_run, ownLR_run, someR_run, someO_run, ixI_run, parR_run, gN_run, gsNil_run, gsCons_run, itSeq_lst, itSeq_tup, itEn_lst, itEn_tup, itZ_lst, itZ_tup, wipeR_nil, wipeR_cons, setIxR_run, finP_ret, finP_next, finP_exc, finE_ret, finE_next, finE_exc, callR_ok, callR_err, valR_run, makeR_ok, makeR_exc, opAdd_int, opI_run, opB_run, opMulA_int, opEq_run, opNe_run, opIsN_run, opNotN_run, opIx_tup, opIx_lst, opNeg_run, oLen_tup, oLen_lst, oInt_int, oInt_bl, oTuple_tup, oTuple_lst, oList_tup, oList_lst, oTupleL_run, oListL_run, oLenL_run, isi_int_non, isi_int_bl, isi_int_int, isi_int_str, isi_int_tup, isi_int_lst, isi_bool_non, isi_bool_bl, isi_bool_int, isi_bool_str, isi_bool_tup, isi_bool_lst, isi_tuple_non, isi_tuple_bl, isi_tuple_int, isi_tuple_str, isi_tuple_tup, isi_tuple_lst, isi_str_non, isi_str_bl, isi_str_int, isi_str_str, isi_str_tup, isi_str_lst, isi_list_non, isi_list_bl, isi_list_int, isi_list_str, isi_list_tup, isi_list_lst, atI_0, atI_1, atI_2, atI_3, atI_4, atI_5, atI_6, atI_7, atI_8, ixN_1_0, ixN_2_0, ixN_2_1, ixN_3_0, ixN_3_1, ixN_3_2, ixN_4_0, ixN_4_1, ixN_4_2, ixN_4_3, ixN_5_0, ixN_5_1, ixN_5_2, ixN_5_3, ixN_5_4, eqD_int, eqD_bl, eqD_non_non, isNon_non, isNon_bl, isNon_int, isNon_str, isNon_tup, isNon_lst, Option.map_some, Option.map_none, Option.bind_some, List.getElem?_cons_zero, List.getElem?_cons_succ, List.set_cons_zero, List.set_cons_succ, List.map_cons, List.map_nil, List.length_cons, List.length_nil, List.cons_append, List.nil_append, rho0, List.replicate, List.take_succ_cons, List.take_zero, List.take_nil, List.take_length, and_self, Bool.false_eq_true, Bool.not_true, Bool.not_false, decide_true, decide_false, raiseI_run1, raiseI_run2, tryO_next, tryO_ret, tryH_nil, unbind_next, unbind_ret, eXf_run, par3R_run, newLR_0, newLR_1, kmR_run, kmR2_run, asK_run, asN_run, getRL_run, getKL_run, ngo0_run, ngo1_run, ngoR_run, ownN_run, ownNR_run, npK_run, starR_run, itNItems_run, itNKeys_run, oDictK_run, opIn2_K, opKIx_run, keyK_int, copyLR_lst, copyLR_tup, gT2_run, nValsD_run, Option.getD_some, tup_0, lst_0, tup_1, lst_1, tup_2, lst_2, tup_3, lst_3, tup_4, lst_4, tup_5, lst_5, tup_6, lst_6, tup_7, lst_7, tup_8, lst_8, tup_9, lst_9, tup_10, lst_10, tup_11, lst_11, tup_12, lst_12, new_0, new_1, new_2, new_3, new_4, new_5, ↓reduceIte, Nat.reduceAdd, $xs,*] at $h:ident)
section
variable {s : List Int} {ps : List Plug} {plan : Plan} {g : Plug}
end
end Pk
namespace Pk
open PySem Dl L2
local macro_rules
  | `(tactic| push_cast [$xs,*]) => `(tactic| simp -implicitDefEqProofs only [↓eC_run, ↓eVar_run, ↓eSlot_run, ↓eBin_run, ↓eUn_run, ↓eTest_run, ↓eAndT_run, ↓eOrT_run, ↓eNotT_run, ↓eTrue_run, ↓eAnd_run, ↓eOr_run, ↓eNot_run, ↓eIf_run, ↓aNil_run, ↓aCons_run, ↓aVal_run, ↓eTup_run, ↓eList_run, ↓eLst_run, ↓eCallB_run, ↓eOnL_run, ↓eIsi_run, ↓eSl_run, ↓ePart_run, ↓eNoPart_run, ↓eChain_run, ↓eIxO_run, ↓eOwnL_run, ↓sNext_run, ↓sSeq_run, ↓sIf_run, ↓sExpr_run, ↓sRet_run, ↓sRetS_run, ↓sRetN_run, ↓sBreak_run, ↓sCont_run, ↓sAsg_run, ↓sSetS_run, ↓sPar_run, ↓sFor_run, ↓sWhile_run, ↓eIt1_run, ↓eIt2_run, ↓eIt3_run, ↓eLc_run, ↓eLc2_run, ↓sNewL_run, ↓sApp_run, ↓sSetIx_run, ↓sRetL_run, ↓sRetNew_run, ↓eCallP_run, ↓eCallE_run, ↓eVal_run, ↓eMake_run, ↓eFld_run, ↓sRaise_run, ↓sRaiseI_run, ↓sTry_run, ↓eIsx_run, ↓sPar3_run, ↓eNewL_run, ↓eNDisp_run, ↓eKDisp_run, ↓eEmptyK_run, ↓eNewN_run, ↓eKM_run, ↓eNGet_run, ↓eKGet_run, ↓eNGetO_run, ↓eCopyN_run, ↓sNPut_run, ↓aStar_run, ↓eRg1_run, ↓eIsi2_run, ↓eCopyL_run, ↓eNVals_run, ↓sTryR_run, bind_ok, bind_exc, out_ok, out_exc, lift_some, obind_next, obind_ret, obind_exc, obind_brk, obind_cont, varR_run, slotR_run, asBl_run, allD_nil, allD_cons, asLst_run, asI_run, chR_run, ownK_run, ownKR_run, ownL_run, ownLR_run, someR_run, someO_run, ixI_run, parR_run, gN_run, gsNil_run, gsCons_run, itSeq_lst, itSeq_tup, itEn_lst, itEn_tup, itZ_lst, itZ_tup, wipeR_nil, wipeR_cons, setIxR_run, finP_ret, finP_next, finP_exc, finE_ret, finE_next, finE_exc, callR_ok, callR_err, valR_run, makeR_ok, makeR_exc, opAdd_int, opI_run, opB_run, opMulA_int, opEq_run, opNe_run, opIsN_run, opNotN_run, opIx_tup, opIx_lst, opNeg_run, oLen_tup, oLen_lst, oInt_int, oInt_bl, oTuple_tup, oTuple_lst, oList_tup, oList_lst, oTupleL_run, oListL_run, oLenL_run, isi_int_non, isi_int_bl, isi_int_int, isi_int_str, isi_int_tup, isi_int_lst, isi_bool_non, isi_bool_bl, isi_bool_int, isi_bool_str, isi_bool_tup, isi_bool_lst, isi_tuple_non, isi_tuple_bl, isi_tuple_int, isi_tuple_str, isi_tuple_tup, isi_tuple_lst, isi_str_non, isi_str_bl, isi_str_int, isi_str_str, isi_str_tup, isi_str_lst, isi_list_non, isi_list_bl, isi_list_int, isi_list_str, isi_list_tup, isi_list_lst, atI_0, atI_1, atI_2, atI_3, atI_4, atI_5, atI_6, atI_7, atI_8, ixN_1_0, ixN_2_0, ixN_2_1, ixN_3_0, ixN_3_1, ixN_3_2, ixN_4_0, ixN_4_1, ixN_4_2, ixN_4_3, ixN_5_0, ixN_5_1, ixN_5_2, ixN_5_3, ixN_5_4, eqD_int, eqD_bl, eqD_non_non, isNon_non, isNon_bl, isNon_int, isNon_str, isNon_tup, isNon_lst, Option.map_some, Option.map_none, Option.bind_some, List.getElem?_cons_zero, List.getElem?_cons_succ, List.set_cons_zero, List.set_cons_succ, List.map_cons, List.map_nil, List.length_cons, List.length_nil, List.cons_append, List.nil_append, rho0, List.replicate, List.take_succ_cons, List.take_zero, List.take_nil, List.take_length, and_self, Bool.false_eq_true, Bool.not_true, Bool.not_false, decide_true, decide_false, raiseI_run1, raiseI_run2, tryO_next, tryO_ret, tryH_nil, unbind_next, unbind_ret, eXf_run, par3R_run, newLR_0, newLR_1, kmR_run, kmR2_run, asK_run, asN_run, getRL_run, getKL_run, ngo0_run, ngo1_run, ngoR_run, ownN_run, ownNR_run, npK_run, starR_run, itNItems_run, itNKeys_run, oDictK_run, opIn2_K, opKIx_run, keyK_int, copyLR_lst, copyLR_tup, gT2_run, nValsD_run, Option.getD_some, tup_0, lst_0, tup_1, lst_1, tup_2, lst_2, tup_3, lst_3, tup_4, lst_4, tup_5, lst_5, tup_6, lst_6, tup_7, lst_7, tup_8, lst_8, tup_9, lst_9, tup_10, lst_10, tup_11, lst_11, tup_12, lst_12, new_0, new_1, new_2, new_3, new_4, new_5, ↓reduceIte, Nat.reduceAdd, $xs,*])
  | `(tactic| push_cast [$xs,*] at $h:ident) => `(tactic| simp -implicitDefEqProofs only [↓eC_run, ↓eVar_run, ↓eSlot_run, ↓eBin_run, ↓eUn_run, ↓eTest_run, ↓eAndT_run, ↓eOrT_run, ↓eNotT_run, ↓eTrue_run, ↓eAnd_run, ↓eOr_run, ↓eNot_run, ↓eIf_run, ↓aNil_run, ↓aCons_run, ↓aVal_run, ↓eTup_run, ↓eList_run, ↓eLst_run, ↓eCallB_run, ↓eOnL_run, ↓eIsi_run, ↓eSl_run, ↓ePart_run, ↓eNoPart_run, ↓eChain_run, ↓eIxO_run, ↓eOwnL_run, ↓sNext_run, ↓sSeq_run, ↓sIf_run, ↓sExpr_run, ↓sRet_run, ↓sRetS_run, ↓sRetN_run, ↓sBreak_run, ↓sCont_run, ↓sAsg_run, ↓sSetS_run, ↓sPar_run, ↓sFor_run, ↓sWhile_run, ↓eIt1_run, ↓eIt2_run, ↓eIt3_run, ↓eLc_run, ↓eLc2_run, ↓sNewL_run, ↓sApp_run, ↓sSetIx_run, ↓sRetL_run, ↓sRetNew_run, ↓eCallP_run, ↓eCallE_run, ↓eVal_run, ↓eMake_run, ↓eFld_run, ↓sRaise_run, ↓sRaiseI_run, ↓sTry_run, ↓eIsx_run, ↓sPar3_run, ↓eNewL_run, ↓eNDisp_run, ↓eKDisp_run, ↓eEmptyK_run, ↓eNewN_run, ↓eKM_run, ↓eNGet_run, ↓eKGet_run, ↓eNGetO_run, ↓eCopyN_run, ↓sNPut_run, ↓aStar_run, ↓eRg1_run, ↓eIsi2_run, ↓eCopyL_run, ↓eNVals_run, ↓sTryR_run, bind_ok, bind_exc, out_ok, out_exc, lift_some, obind_next, obind_ret, obind_exc, obind_brk, obind_cont, varR_run, slotR_run, asBl_run, allD_nil, allD_cons, asLst_run, asI_run, chR_run, ownK_run, ownKR_run, ownL_run, ownLR_run, someR_run, someO_run, ixI_run, parR_run, gN_run, gsNil_run, gsCons_run, itSeq_lst, itSeq_tup, itEn_lst, itEn_tup, itZ_lst, itZ_tup, wipeR_nil, wipeR_cons, setIxR_run, finP_ret, finP_next, finP_exc, finE_ret, finE_next, finE_exc, callR_ok, callR_err, valR_run, makeR_ok, makeR_exc, opAdd_int, opI_run, opB_run, opMulA_int, opEq_run, opNe_run, opIsN_run, opNotN_run, opIx_tup, opIx_lst, opNeg_run, oLen_tup, oLen_lst, oInt_int, oInt_bl, oTuple_tup, oTuple_lst, oList_tup, oList_lst, oTupleL_run, oListL_run, oLenL_run, isi_int_non, isi_int_bl, isi_int_int, isi_int_str, isi_int_tup, isi_int_lst, isi_bool_non, isi_bool_bl, isi_bool_int, isi_bool_str, isi_bool_tup, isi_bool_lst, isi_tuple_non, isi_tuple_bl, isi_tuple_int, isi_tuple_str, isi_tuple_tup, isi_tuple_lst, isi_str_non, isi_str_bl, isi_str_int, isi_str_str, isi_str_tup, isi_str_lst, isi_list_non, isi_list_bl, isi_list_int, isi_list_str, isi_list_tup, isi_list_lst, atI_0, atI_1, atI_2, atI_3, atI_4, atI_5, atI_6, atI_7, atI_8, ixN_1_0, ixN_2_0, ixN_2_1, ixN_3_0, ixN_3_1, ixN_3_2, ixN_4_0, ixN_4_1, ixN_4_2, ixN_4_3, ixN_5_0, ixN_5_1, ixN_5_2, ixN_5_3, ixN_5_4, eqD_int, eqD_bl, eqD_non_non, isNon_non, isNon_bl, isNon_int, isNon_str, isNon_tup, isNon_lst, Option.map_some, Option.map_none, Option.bind_some, List.getElem?_cons_zero, List.getElem?_cons_succ, List.set_cons_zero, List.set_cons_succ, List.map_cons, List.map_nil, List.length_cons, List.length_nil, List.cons_append, List.nil_append, rho0, List.replicate, List.take_succ_cons, List.take_zero, List.take_nil, List.take_length, and_self, Bool.false_eq_true, Bool.not_true, Bool.not_false, decide_true, decide_false, raiseI_run1, raiseI_run2, tryO_next, tryO_ret, tryH_nil, unbind_next, unbind_ret, eXf_run, par3R_run, newLR_0, newLR_1, kmR_run, kmR2_run, asK_run, asN_run, getRL_run, getKL_run, ngo0_run, ngo1_run, ngoR_run, ownN_run, ownNR_run, npK_run, starR_run, itNItems_run, itNKeys_run, oDictK_run, opIn2_K, opKIx_run, keyK_int, copyLR_lst, copyLR_tup, gT2_run, nValsD_run, Option.getD_some, tup_0, lst_0, tup_1, lst_1, tup_2, lst_2, tup_3, lst_3, tup_4, lst_4, tup_5, lst_5, tup_6, lst_6, tup_7, lst_7, tup_8, lst_8, tup_9, lst_9, tup_10, lst_10, tup_11, lst_11, tup_12, lst_12, new_0, new_1, new_2, new_3, new_4, new_5, ↓reduceIte, Nat.reduceAdd, $xs,*] at $h:ident)
abbrev badLots (d : D) : Exn := ⟨"BadLots", [("index", d)]⟩
abbrev clR (v : D) (x1 x2 : Option SV) : Rho := [some (SV.val (v)), x1, x2]
abbrev clI (v d : D) (k : Nat) : Rho := [some (SV.val (v)), some (SV.val (.int (k : Int))), some (SV.val (d))]
theorem lots_bd_ok {v d : D} {k : Nat} (h : F_check_plugs_2 [d, .int 3] = some (.ok .non)) : bd_check_lots_3 (clI v d k) [] = .next (clI v d k) [] := by
  have t : tr_check_lots_1 (clI v d k) [] = .next (clI v d k) [] := by
    unfold tr_check_lots_1
    push_cast [clI, h]
  unfold bd_check_lots_3
  rw [sTryR_run, t]
  rfl
theorem lots_bd_bad {v d z : D} {k : Nat} (h : F_check_plugs_2 [d, .int 3] = some (.error (badPlugs z))) : bd_check_lots_3 (clI v d k) [] = .exc (badLots (.int (k : Int))) (clI v d k) [] := by
  have t : tr_check_lots_1 (clI v d k) [] = .exc (badPlugs z) (clI v d k) [] := by
    unfold tr_check_lots_1
    push_cast [clI, h]
  unfold bd_check_lots_3
  rw [sTryR_run, t, tryRO_exc (show List.contains _ ("BadPlugs" : Str) = true by decide +kernel) (show subX "BadPlugs" "BadPlugs" = true by decide +kernel)]
  unfold tr_check_lots_2
  push_cast [clI]
theorem tgL_run {v d : D} {x y : Option SV} {k : Nat} : tgEn 1 2 (pairI k d) (clR v x y) = some (clI v d k) := rfl
theorem lots_loop_ok {v : D} : ∀ (pre : List D) (k : Nat) (x y : Option SV), (∀ d ∈ pre, F_check_plugs_2 [d, .int 3] = some (.ok .non)) →
    ∃ ρ', forL (tgEn 1 2) bd_check_lots_3 (pre.mapIdx fun i e => pairI (k + i) e) (clR v x y) [] = .next ρ' []
  | [], k, x, y, _ => ⟨_, rfl⟩
  | d :: pre, k, x, y, h => by
    rw [enum_cons, forL_next tgL_run (lots_bd_ok (h d List.mem_cons_self))]
    exact lots_loop_ok pre (k + 1) _ _ fun d' hd => h d' (List.mem_cons_of_mem _ hd)
theorem lots_loop_bad {v bad z : D} {post : List D} (hb : F_check_plugs_2 [bad, .int 3] = some (.error (badPlugs z))) : ∀ (pre : List D) (k : Nat) (x y : Option SV), (∀ d ∈ pre, F_check_plugs_2 [d, .int 3] = some (.ok .non)) →
    ∃ ρ', forL (tgEn 1 2) bd_check_lots_3 ((pre ++ bad :: post).mapIdx fun i e => pairI (k + i) e) (clR v x y) [] = .exc (badLots (.int ((k + pre.length : Nat) : Int))) ρ' []
  | [], k, x, y, _ => by
    rw [List.nil_append, enum_cons]
    exact ⟨_, forL_exc tgL_run (lots_bd_bad hb)⟩
  | d :: pre, k, x, y, h => by
    rw [List.cons_append, enum_cons, forL_next tgL_run (lots_bd_ok (h d List.mem_cons_self))]
    obtain ⟨ρ', e⟩ := lots_loop_bad (v := v) (post := post) hb pre (k + 1) (some (.val (.int (k : Int)))) (some (.val d)) fun d' hd => h d' (List.mem_cons_of_mem _ hd)
    refine ⟨ρ', e.trans ?_⟩
    rw [List.length_cons, Nat.add_right_comm, Nat.add_assoc]
theorem isi2_lst {ds : List D} : isiD2 "list" "tuple" (.lst ds) = some (.bl true) := rfl
theorem isi2_tup {ds : List D} : isiD2 "list" "tuple" (.tup ds) = some (.bl true) := rfl
theorem check_lots_ok {V : D} {ds : List D} (hV : V = .lst ds ∨ V = .tup ds) (h1 : 1 ≤ ds.length) (h3 : ds.length ≤ 3) (h : ∀ d ∈ ds, F_check_plugs_2 [d, .int 3] = some (.ok .non)) : F_check_lots [V] = some (.ok .non) := by
  have c1 : decide ((1 : Int) ≤ (ds.length : Int)) = true := decide_eq_true (by omega)
  have c2 : decide ((ds.length : Int) ≤ 3) = true := decide_eq_true (by omega)
  obtain ⟨ρ', e⟩ := lots_loop_ok (v := V) ds 0 none none h
  rw [← enum_zero] at e
  unfold F_check_lots
  rw [fnP_run (by rfl)]
  unfold f_check_lots
  simp only [clR] at e
  rcases hV with rfl | rfl
  · push_cast [isi2_lst, c1, c2, e]
  · push_cast [isi2_tup, c1, c2, e]
theorem check_lots_bad {V bad z : D} {pre post : List D} (hV : V = .lst (pre ++ bad :: post) ∨ V = .tup (pre ++ bad :: post)) (h3 : (pre ++ bad :: post).length ≤ 3) (h : ∀ d ∈ pre, F_check_plugs_2 [d, .int 3] = some (.ok .non)) (hb : F_check_plugs_2 [bad, .int 3] = some (.error (badPlugs z))) :
    F_check_lots [V] = some (.error (badLots (.int (pre.length : Int)))) := by
  have h1 : 1 ≤ (pre ++ bad :: post).length := by rw [List.length_append, List.length_cons]; omega
  obtain ⟨ρ', e⟩ := lots_loop_bad (v := V) (post := post) hb pre 0 none none h
  rw [← enum_zero, Nat.zero_add] at e
  generalize pre ++ bad :: post = ds at *
  have c1 : decide ((1 : Int) ≤ (ds.length : Int)) = true := decide_eq_true (by omega)
  have c2 : decide ((ds.length : Int) ≤ 3) = true := decide_eq_true (by omega)
  unfold F_check_lots
  rw [fnP_run (by rfl)]
  unfold f_check_lots
  simp only [clR] at e
  rcases hV with rfl | rfl
  · push_cast [isi2_lst, c1, c2, e]
  · push_cast [isi2_tup, c1, c2, e]
structure LotOk (ps : List Plug) : Prop where
  ok : ∀ p ∈ ps, PlugOk p
  ne : ps ≠ []
  len : ps.length ≤ 3
theorem LotOk.chk {ps : List Plug} (h : LotOk ps) : F_check_plugs_2 [plugsD ps, .int 3] = some (.ok .non) := check_plugs_ok2 h.ok h.ne (by have := h.len; omega)
abbrev sI (r : List Nat) : List Int := r.map fun n : Nat => (n : Int)
theorem tD_socks (r : List Nat) : tD r = socksD (sI r) := by
  unfold tD socksD
  rw [List.map_map]; rfl
theorem socks_row {w k : Nat} {r : List Nat} (hw : w ≤ 24) (R : RwOk w k r) : Socks (sI r) := by
  refine ⟨fun z => ?_, ?_, fun x hx => ?_⟩
  · have := R.len
    rw [List.map_eq_nil_iff] at z
    rw [z] at this
    cases this
  · rw [List.pairwise_map]
    exact R.asc.imp fun h => by omega
  · obtain ⟨n, hn, rfl⟩ := List.mem_map.mp hx
    have := R.le n hn
    omega
def okR (LS : List (List Plug)) (r : List Nat) : Bool := LS.all fun ps => can (sI r) ps
def optT : Option (List Nat) → D
  | none => .non
  | some r => tD r
section
variable {LS : List (List Plug)} {w k : Nat} {r : List Nat}
theorem psOk_row (hw : w ≤ 24) (hk : k ≤ 3) (R : RwOk w k r) {ps : List Plug} (P : LotOk ps) : PsOk (sI r) ps := psOk (socks_row hw R) (by rw [List.length_map, R.len]; omega) P.ok (by have := P.len; omega)
abbrev csR (V : D) (k w : Nat) (x3 : Option SV) : Rho := [some (SV.val (V)), some (SV.val (.int ((k : Int) + 1))), some (SV.val (.int (w : Int))), x3, none]
theorem cs_lc {V : D} (hV : itSeq V = some (LS.map plugsD)) (hL : ∀ ps ∈ LS, LotOk ps) (h3 : LS.length ≤ 3) (hw : w ≤ 24) (hk : k ≤ 3) (R : RwOk w k r) {ω : Om} : lc_common_strip_1 (csR V k w (some (.val (tD r)))) ω = .ok (.lst (LS.map fun ps => D.bl (can (sI r) ps))) ω := by
  have m1 := strip_init2 (socks_row hw R) (by rw [List.length_map, R.len]; omega)
  have st : D.obj "Strip" [("rows", tD r)] = stripD (sI r) := by rw [tD_socks]; rfl
  rw [← tD_socks] at m1
  unfold lc_common_strip_1
  push_cast [csR, hV]
  rw [lcT plugsD (fun _ => true) (fun ps => D.bl (can (sI r) ps)) LS [] (by rw [List.length_nil]; show _ ≤ 16777216; omega)]
  · rw [List.nil_append, List.filter_eq_self.mpr fun _ _ => rfl]
  · intro ps hp
    have e := can_all_run (psOk_row hw hk R (hL ps hp))
    refine ⟨_, rfl, rfl, fun _ => ?_⟩
    generalize tD r = T at m1 st
    push_cast [m1, st, e]
theorem cs_bd {V : D} (hV : itSeq V = some (LS.map plugsD)) (hL : ∀ ps ∈ LS, LotOk ps) (h3 : LS.length ≤ 3) (hw : w ≤ 24) (hk : k ≤ 3) (R : RwOk w k r) {ω : Om} :
    bd_common_strip_2 (csR V k w (some (.val (tD r)))) ω = if okR LS r = true then .ret (.val (tD r)) ω else .next (csR V k w (some (.val (tD r)))) ω := by
  have e := cs_lc hV hL h3 hw hk R (ω := ω)
  have e2 := all_mapQ (fun ps => can (sI r) ps) LS
  unfold bd_common_strip_2 okR
  simp only [csR] at e
  generalize LS.map (fun ps => D.bl (can (sI r) ps)) = B at e e2
  generalize (LS.all fun ps => can (sI r) ps) = b at e2
  generalize tD r = T at e
  push_cast [csR, e, e2]
theorem findSome_if {α β : Type} (p : α → Bool) (f : α → β) : ∀ l : List α, l.findSome? (fun a => if p a = true then some (f a) else none) = (l.find? p).map f
  | [] => rfl
  | a :: l => by
    rw [List.findSome?_cons, List.find?_cons]
    cases h : p a with
    | true => rw [if_pos rfl]; rfl
    | false => rw [if_neg (by decide)]; exact findSome_if p f l
theorem is_fromN {n : Nat} {a b : Int} (h1 : a ≤ (n : Int)) (h2 : (n : Int) ≤ b) : F_is_from [.int (n : Int), .int a, .int b] = some (.ok (.bl true)) := by
  have := is_from_run (n : Int) a b
  rw [decide_eq_true ⟨h1, h2⟩] at this
  exact this
theorem common_run {V : D} (hV : V = .lst (LS.map plugsD) ∨ V = .tup (LS.map plugsD)) (hL : ∀ ps ∈ LS, LotOk ps) (h1 : 1 ≤ LS.length) (h3 : LS.length ≤ 3) (hw : w ≤ 24) (hk : k ≤ 3) :
    F_common_strip [V, .int ((k : Int) + 1), .int (w : Int)] = some (.ok (optT ((rowsF w k).find? (okR LS)))) := by
  have hs : itSeq V = some (LS.map plugsD) := by rcases hV with rfl | rfl <;> rfl
  have c1 := check_lots_ok hV (by rw [List.length_map]; exact h1) (by rw [List.length_map]; exact h3) (fun d hd => by
    obtain ⟨ps, hp, rfl⟩ := List.mem_map.mp hd
    exact (hL ps hp).chk)
  have c2 := is_fromN (n := k + 1) (a := 1) (b := 4) (by omega) (by omega)
  have c2 : F_is_from [.int ((k : Int) + 1), .int 1, .int 4] = some (.ok (.bl true)) := c2
  have c3 := is_fromN (n := w) (a := 0) (b := 24) (by omega) (by omega)
  have c4 := rows_of_run hk hw
  have i : itSeq (.lst ((rowsF w k).map tD)) = some ((rowsF w k).map tD) := rfl
  have L := forL_findW (tg := gN 3) (b := bd_common_strip_2) tD (fun r => if okR LS r = true then some (tD r) else none) (fun ρ ω => ω = [] ∧ ∃ x3, ρ = csR V k w x3) (rowsF w k) (csR V k w none) [] ⟨rfl, none, rfl⟩ (by
    rintro r hr ρ ω ⟨rfl, x3, rfl⟩
    have e := cs_bd hs hL h3 hw hk (memRows.mp hr) (ω := [])
    refine ⟨_, rfl, ?_⟩
    by_cases h : okR LS r = true
    · rw [if_pos h] at e ⊢
      exact ⟨_, e⟩
    · rw [if_neg h] at e ⊢
      exact ⟨_, _, e, rfl, _, rfl⟩)
  rw [findSome_if (okR LS) tD] at L
  unfold F_common_strip
  rw [fnP_run (by rfl)]
  unfold f_common_strip
  generalize (rowsF w k).map tD = RS at i c4 L
  cases hf : (rowsF w k).find? (okR LS) with
  | some r =>
    rw [hf] at L
    obtain ⟨ω', e⟩ := L
    simp only [csR] at e
    have o : optT (some r) = tD r := rfl
    push_cast [c1, c2, c3, c4, i, e, o]
  | none =>
    rw [hf] at L
    obtain ⟨ρ', ω', e, rfl, x3, rfl⟩ := L
    simp only [csR] at e
    have o : optT none = .non := rfl
    push_cast [c1, c2, c3, c4, i, e, o]
theorem placings_nil {s : List Int} {ps : List Plug} (P : PsOk s ps) (hne : ps ≠ []) (hs : 0 < s.length) (hb : (2 * s.length) ^ ps.length ≤ lim) :
    ∃ L, F__law_placings [socksD s, plugsD ps, .lst ((allW ps).map nD)] = some (.ok L) ∧ eqD L (.lst []) = some (!can s ps) := by
  have e := law_placings_run P hne hs (allW_asc (ps := ps)) allW_lt (by rw [List.length_range]; exact hb) (sd := .lst ((allW ps).map nD)) rfl
  refine ⟨_, e, ?_⟩
  unfold can
  rw [Bool.not_not]
  exact eq_nilP _
theorem stand2_bd {ds : List D} {ps : List Plug} (hw : w ≤ 24) (hk : k ≤ 3) (R : RwOk w k r) (P : LotOk ps) {ω : Om} :
    bd__law_stand_2_1 [some (SV.val (tD r)), some (SV.val (.lst ds)), some (SV.val (plugsD ps))] ω = if can (sI r) ps = true then .next [some (SV.val (tD r)), some (SV.val (.lst ds)), some (SV.val (plugsD ps))] ω else .ret (.val (.bl false)) ω := by
  have hl := P.len
  have hS := socks_row hw R
  have hsl : (sI r).length ≤ 4 := by rw [List.length_map, R.len]; omega
  have hr : rgD D.lst (.int 0) (.int (ps.length : Int)) = some (.lst ((allW ps).map nD)) := rgD_run (n := ps.length) (by omega)
  obtain ⟨L, e1, e2⟩ := placings_nil (psOk_row hw hk R P) P.ne (List.length_pos_iff.mpr hS.ne) (by
    have k1 : (2 * (sI r).length) ^ ps.length ≤ 8 ^ ps.length := Nat.pow_le_pow_left (by omega) _
    have k2 : 8 ^ ps.length ≤ 8 ^ 3 := Nat.pow_le_pow_right (by decide) hl
    show _ ≤ 16777216
    omega)
  rw [← tD_socks] at e1
  unfold bd__law_stand_2_1
  generalize can (sI r) ps = b at e2
  generalize tD r = T at e1
  cases b <;> push_cast [len_plugs, hr, e1, e2, Bool.not_true, Bool.not_false]
theorem stand2_run (hL : ∀ ps ∈ LS, LotOk ps) (hw : w ≤ 24) (hk : k ≤ 3) (R : RwOk w k r) : F__law_stand_2 [tD r, .lst (LS.map plugsD)] = some (.ok (.bl (okR LS r))) := by
  have i : itSeq (.lst (LS.map plugsD)) = some (LS.map plugsD) := rfl
  have L := forL_findW (tg := gN 2) (b := bd__law_stand_2_1) plugsD (fun ps => if (!can (sI r) ps) = true then some (D.bl false) else none) (fun ρ ω => ω = [] ∧ ∃ x3, ρ = [some (SV.val (tD r)), some (SV.val (.lst (LS.map plugsD))), x3]) LS [some (SV.val (tD r)), some (SV.val (.lst (LS.map plugsD))), none] [] ⟨rfl, none, rfl⟩ (by
    rintro ps hp ρ ω ⟨rfl, x3, rfl⟩
    have e := stand2_bd (ds := LS.map plugsD) hw hk R (hL ps hp) (ω := [])
    refine ⟨_, rfl, ?_⟩
    cases h : can (sI r) ps with
    | true =>
      rw [h, if_pos rfl] at e
      rw [if_neg (by decide)]
      exact ⟨_, _, e, rfl, _, rfl⟩
    | false =>
      rw [h, if_neg (by decide)] at e
      rw [if_pos (by decide)]
      exact ⟨_, e⟩)
  rw [findSome_if (fun ps => !can (sI r) ps) fun _ => D.bl false] at L
  unfold F__law_stand_2
  rw [fnP_run (by rfl)]
  unfold f__law_stand_2
  generalize hG : LS.map plugsD = G at i L
  generalize hT : tD r = T at L
  cases hf : LS.find? (fun ps => !can (sI r) ps) with
  | some ps =>
    rw [hf] at L
    obtain ⟨ω', e⟩ := L
    have o : okR LS r = false := by
      unfold okR
      rw [List.all_eq_false]
      have := List.find?_some hf
      exact ⟨ps, List.mem_of_find?_eq_some hf, by simpa using this⟩
    push_cast [i, e, o]
  | none =>
    rw [hf] at L
    obtain ⟨ρ', ω', e, rfl, x3, rfl⟩ := L
    have o : okR LS r = true := by
      unfold okR
      rw [List.all_eq_true]
      intro ps hp
      have := List.find?_eq_none.mp hf ps hp
      simpa using this
    push_cast [i, e, o]
end
theorem common_errL {V S W : D} {x : Exn} (h : F_check_lots [V] = some (.error x)) : F_common_strip [V, S, W] = some (.error x) := by
  unfold F_common_strip
  rw [fnP_run (by rfl)]
  unfold f_common_strip
  push_cast [h]
theorem common_errM {V S W : D} (h : F_check_lots [V] = some (.ok .non)) (hS : S ∈ [D.int 0, .int 5, .non, .bl true, .str "1"]) : F_common_strip [V, S, W] = some (.error (bare "BadMany")) := by
  have c : F_is_from [S, .int 1, .int 4] = some (.ok (.bl false)) := by
    simp only [List.mem_cons, List.not_mem_nil, or_false] at hS
    rcases hS with rfl | rfl | rfl | rfl | rfl <;> rfl
  unfold F_common_strip
  rw [fnP_run (by rfl)]
  unfold f_common_strip
  push_cast [h, c]
theorem common_errW {V W : D} (h : F_check_lots [V] = some (.ok .non)) (hW : W ∈ [D.int (-1), .int 25, .non, .bl true, .str "1"]) : F_common_strip [V, .int 2, W] = some (.error (bare "BadWidth")) := by
  have c : F_is_from [W, .int 0, .int 24] = some (.ok (.bl false)) := by
    simp only [List.mem_cons, List.not_mem_nil, or_false] at hW
    rcases hW with rfl | rfl | rfl | rfl | rfl <;> rfl
  have c1 : F_is_from [.int 2, .int 1, .int 4] = some (.ok (.bl true)) := rfl
  unfold F_common_strip
  rw [fnP_run (by rfl)]
  unfold f_common_strip
  push_cast [h, c1, c]
abbrev w5R (V S W : D) : Rho := [some (SV.val (V)), some (SV.val (S)), some (SV.val (W)), some (SV.val (.non)), none]
theorem wrong5_lots {V S W d : D} (h : F_common_strip [V, S, W] = some (.error (badLots d))) : F__law_wrong_5 [V, S, W] = some (.ok (.lst [.str "lots", d])) := by
  have t : tr__law_wrong_5_1 (w5R V S W) [] = .exc (badLots d) (w5R V S W) [] := by
    unfold tr__law_wrong_5_1
    push_cast [w5R, h]
  unfold F__law_wrong_5; rw [fnP_run (by rfl)]; unfold f__law_wrong_5
  have s1 : subX "BadLots" "BadLots" = true := by decide +kernel
  have s2 : subX "BadLots" "StripError" = true := by decide +kernel
  simp only [w5R] at t
  push_cast [t]
  rw [tryO_exc (c := "BadLots"), tryH_yes s1]
  · push_cast [s2, List.lookup, beq_self_eq_true]
  · decide +kernel
  · show 4 < 5; decide
theorem wrong5_many {V S W : D} (h : F_common_strip [V, S, W] = some (.error (bare "BadMany"))) : F__law_wrong_5 [V, S, W] = some (.ok (.str "many")) := by
  have t : tr__law_wrong_5_1 (w5R V S W) [] = .exc (bare "BadMany") (w5R V S W) [] := by
    unfold tr__law_wrong_5_1
    push_cast [w5R, h]
  unfold F__law_wrong_5; rw [fnP_run (by rfl)]; unfold f__law_wrong_5
  have s1 : subX "BadMany" "BadLots" = false := by decide +kernel
  have s2 : subX "BadMany" "BadMany" = true := by decide +kernel
  have s3 : subX "BadMany" "StripError" = true := by decide +kernel
  simp only [w5R] at t
  push_cast [t]
  rw [tryO_exc (c := "BadMany"), tryH_no s1, tryH_yes s2]
  · push_cast [s3]
  · decide +kernel
  · show 4 < 5; decide
theorem wrong5_width {V S W : D} (h : F_common_strip [V, S, W] = some (.error (bare "BadWidth"))) : F__law_wrong_5 [V, S, W] = some (.ok (.str "width")) := by
  have t : tr__law_wrong_5_1 (w5R V S W) [] = .exc (bare "BadWidth") (w5R V S W) [] := by
    unfold tr__law_wrong_5_1
    push_cast [w5R, h]
  unfold F__law_wrong_5; rw [fnP_run (by rfl)]; unfold f__law_wrong_5
  have s1 : subX "BadWidth" "BadLots" = false := by decide +kernel
  have s2 : subX "BadWidth" "BadMany" = false := by decide +kernel
  have s3 : subX "BadWidth" "BadWidth" = true := by decide +kernel
  have s4 : subX "BadWidth" "StripError" = true := by decide +kernel
  simp only [w5R] at t
  push_cast [t]
  rw [tryO_exc (c := "BadWidth"), tryH_no s1, tryH_no s2, tryH_yes s3]
  · push_cast [s4]
  · decide +kernel
  · show 4 < 5; decide
end Pk
namespace Pk
open PySem Dl L2
local macro_rules
  | `(tactic| push_cast [$xs,*]) => `(tactic| simp -implicitDefEqProofs only [↓eC_run, ↓eVar_run, ↓eSlot_run, ↓eBin_run, ↓eUn_run, ↓eTest_run, ↓eAndT_run, ↓eOrT_run, ↓eNotT_run, ↓eTrue_run, ↓eAnd_run, ↓eOr_run, ↓eNot_run, ↓eIf_run, ↓aNil_run, ↓aCons_run, ↓aVal_run, ↓eTup_run, ↓eList_run, ↓eLst_run, ↓eCallB_run, ↓eOnL_run, ↓eIsi_run, ↓eSl_run, ↓ePart_run, ↓eNoPart_run, ↓eChain_run, ↓eIxO_run, ↓eOwnL_run, ↓sNext_run, ↓sSeq_run, ↓sIf_run, ↓sExpr_run, ↓sRet_run, ↓sRetS_run, ↓sRetN_run, ↓sBreak_run, ↓sCont_run, ↓sAsg_run, ↓sSetS_run, ↓sPar_run, ↓sFor_run, ↓sWhile_run, ↓eIt1_run, ↓eIt2_run, ↓eIt3_run, ↓eLc_run, ↓eLc2_run, ↓sNewL_run, ↓sApp_run, ↓sSetIx_run, ↓sRetL_run, ↓sRetNew_run, ↓eCallP_run, ↓eCallE_run, ↓eVal_run, ↓eMake_run, ↓eFld_run, ↓sRaise_run, ↓sRaiseI_run, ↓sTry_run, ↓eIsx_run, ↓sPar3_run, ↓eNewL_run, ↓eNDisp_run, ↓eKDisp_run, ↓eEmptyK_run, ↓eNewN_run, ↓eKM_run, ↓eNGet_run, ↓eKGet_run, ↓eNGetO_run, ↓eCopyN_run, ↓sNPut_run, ↓aStar_run, ↓eRg1_run, ↓eIsi2_run, ↓eCopyL_run, ↓eNVals_run, bind_ok, bind_exc, out_ok, out_exc, lift_some, obind_next, obind_ret, obind_exc, obind_brk, obind_cont, varR_run, slotR_run, asBl_run, allD_nil, allD_cons, asLst_run, asI_run, chR_run, ownK_run, ownKR_run, ownL_run, ownLR_run, someR_run, someO_run, ixI_run, parR_run, gN_run, gsNil_run, gsCons_run, itSeq_lst, itSeq_tup, itEn_lst, itEn_tup, itZ_lst, itZ_tup, wipeR_nil, wipeR_cons, setIxR_run, finP_ret, finP_next, finP_exc, finE_ret, finE_next, finE_exc, callR_ok, callR_err, valR_run, makeR_ok, makeR_exc, opAdd_int, opI_run, opB_run, opMulA_int, opEq_run, opNe_run, opIsN_run, opNotN_run, opIx_tup, opIx_lst, opNeg_run, oLen_tup, oLen_lst, oInt_int, oInt_bl, oTuple_tup, oTuple_lst, oList_tup, oList_lst, oTupleL_run, oListL_run, oLenL_run, isi_int_non, isi_int_bl, isi_int_int, isi_int_str, isi_int_tup, isi_int_lst, isi_bool_non, isi_bool_bl, isi_bool_int, isi_bool_str, isi_bool_tup, isi_bool_lst, isi_tuple_non, isi_tuple_bl, isi_tuple_int, isi_tuple_str, isi_tuple_tup, isi_tuple_lst, isi_str_non, isi_str_bl, isi_str_int, isi_str_str, isi_str_tup, isi_str_lst, isi_list_non, isi_list_bl, isi_list_int, isi_list_str, isi_list_tup, isi_list_lst, atI_0, atI_1, atI_2, atI_3, atI_4, atI_5, atI_6, atI_7, atI_8, ixN_1_0, ixN_2_0, ixN_2_1, ixN_3_0, ixN_3_1, ixN_3_2, ixN_4_0, ixN_4_1, ixN_4_2, ixN_4_3, ixN_5_0, ixN_5_1, ixN_5_2, ixN_5_3, ixN_5_4, eqD_int, eqD_bl, eqD_non_non, isNon_non, isNon_bl, isNon_int, isNon_str, isNon_tup, isNon_lst, Option.map_some, Option.map_none, Option.bind_some, List.getElem?_cons_zero, List.getElem?_cons_succ, List.set_cons_zero, List.set_cons_succ, List.map_cons, List.map_nil, List.length_cons, List.length_nil, List.cons_append, List.nil_append, rho0, List.replicate, List.take_succ_cons, List.take_zero, List.take_nil, List.take_length, and_self, Bool.false_eq_true, Bool.not_true, Bool.not_false, decide_true, decide_false, raiseI_run1, raiseI_run2, tryO_next, tryO_ret, tryH_nil, unbind_next, unbind_ret, eXf_run, par3R_run, newLR_0, newLR_1, kmR_run, kmR2_run, asK_run, asN_run, getRL_run, getKL_run, ngo0_run, ngo1_run, ngoR_run, ownN_run, ownNR_run, npK_run, starR_run, itNItems_run, itNKeys_run, oDictK_run, opIn2_K, opKIx_run, keyK_int, copyLR_lst, copyLR_tup, gT2_run, nValsD_run, Option.getD_some, tup_0, lst_0, tup_1, lst_1, tup_2, lst_2, tup_3, lst_3, tup_4, lst_4, tup_5, lst_5, tup_6, lst_6, tup_7, lst_7, tup_8, lst_8, tup_9, lst_9, tup_10, lst_10, tup_11, lst_11, tup_12, lst_12, new_0, new_1, new_2, new_3, new_4, new_5, ↓reduceIte, Nat.reduceAdd, $xs,*])
  | `(tactic| push_cast [$xs,*] at $h:ident) => `(tactic| simp -implicitDefEqProofs only [↓eC_run, ↓eVar_run, ↓eSlot_run, ↓eBin_run, ↓eUn_run, ↓eTest_run, ↓eAndT_run, ↓eOrT_run, ↓eNotT_run, ↓eTrue_run, ↓eAnd_run, ↓eOr_run, ↓eNot_run, ↓eIf_run, ↓aNil_run, ↓aCons_run, ↓aVal_run, ↓eTup_run, ↓eList_run, ↓eLst_run, ↓eCallB_run, ↓eOnL_run, ↓eIsi_run, ↓eSl_run, ↓ePart_run, ↓eNoPart_run, ↓eChain_run, ↓eIxO_run, ↓eOwnL_run, ↓sNext_run, ↓sSeq_run, ↓sIf_run, ↓sExpr_run, ↓sRet_run, ↓sRetS_run, ↓sRetN_run, ↓sBreak_run, ↓sCont_run, ↓sAsg_run, ↓sSetS_run, ↓sPar_run, ↓sFor_run, ↓sWhile_run, ↓eIt1_run, ↓eIt2_run, ↓eIt3_run, ↓eLc_run, ↓eLc2_run, ↓sNewL_run, ↓sApp_run, ↓sSetIx_run, ↓sRetL_run, ↓sRetNew_run, ↓eCallP_run, ↓eCallE_run, ↓eVal_run, ↓eMake_run, ↓eFld_run, ↓sRaise_run, ↓sRaiseI_run, ↓sTry_run, ↓eIsx_run, ↓sPar3_run, ↓eNewL_run, ↓eNDisp_run, ↓eKDisp_run, ↓eEmptyK_run, ↓eNewN_run, ↓eKM_run, ↓eNGet_run, ↓eKGet_run, ↓eNGetO_run, ↓eCopyN_run, ↓sNPut_run, ↓aStar_run, ↓eRg1_run, ↓eIsi2_run, ↓eCopyL_run, ↓eNVals_run, bind_ok, bind_exc, out_ok, out_exc, lift_some, obind_next, obind_ret, obind_exc, obind_brk, obind_cont, varR_run, slotR_run, asBl_run, allD_nil, allD_cons, asLst_run, asI_run, chR_run, ownK_run, ownKR_run, ownL_run, ownLR_run, someR_run, someO_run, ixI_run, parR_run, gN_run, gsNil_run, gsCons_run, itSeq_lst, itSeq_tup, itEn_lst, itEn_tup, itZ_lst, itZ_tup, wipeR_nil, wipeR_cons, setIxR_run, finP_ret, finP_next, finP_exc, finE_ret, finE_next, finE_exc, callR_ok, callR_err, valR_run, makeR_ok, makeR_exc, opAdd_int, opI_run, opB_run, opMulA_int, opEq_run, opNe_run, opIsN_run, opNotN_run, opIx_tup, opIx_lst, opNeg_run, oLen_tup, oLen_lst, oInt_int, oInt_bl, oTuple_tup, oTuple_lst, oList_tup, oList_lst, oTupleL_run, oListL_run, oLenL_run, isi_int_non, isi_int_bl, isi_int_int, isi_int_str, isi_int_tup, isi_int_lst, isi_bool_non, isi_bool_bl, isi_bool_int, isi_bool_str, isi_bool_tup, isi_bool_lst, isi_tuple_non, isi_tuple_bl, isi_tuple_int, isi_tuple_str, isi_tuple_tup, isi_tuple_lst, isi_str_non, isi_str_bl, isi_str_int, isi_str_str, isi_str_tup, isi_str_lst, isi_list_non, isi_list_bl, isi_list_int, isi_list_str, isi_list_tup, isi_list_lst, atI_0, atI_1, atI_2, atI_3, atI_4, atI_5, atI_6, atI_7, atI_8, ixN_1_0, ixN_2_0, ixN_2_1, ixN_3_0, ixN_3_1, ixN_3_2, ixN_4_0, ixN_4_1, ixN_4_2, ixN_4_3, ixN_5_0, ixN_5_1, ixN_5_2, ixN_5_3, ixN_5_4, eqD_int, eqD_bl, eqD_non_non, isNon_non, isNon_bl, isNon_int, isNon_str, isNon_tup, isNon_lst, Option.map_some, Option.map_none, Option.bind_some, List.getElem?_cons_zero, List.getElem?_cons_succ, List.set_cons_zero, List.set_cons_succ, List.map_cons, List.map_nil, List.length_cons, List.length_nil, List.cons_append, List.nil_append, rho0, List.replicate, List.take_succ_cons, List.take_zero, List.take_nil, List.take_length, and_self, Bool.false_eq_true, Bool.not_true, Bool.not_false, decide_true, decide_false, raiseI_run1, raiseI_run2, tryO_next, tryO_ret, tryH_nil, unbind_next, unbind_ret, eXf_run, par3R_run, newLR_0, newLR_1, kmR_run, kmR2_run, asK_run, asN_run, getRL_run, getKL_run, ngo0_run, ngo1_run, ngoR_run, ownN_run, ownNR_run, npK_run, starR_run, itNItems_run, itNKeys_run, oDictK_run, opIn2_K, opKIx_run, keyK_int, copyLR_lst, copyLR_tup, gT2_run, nValsD_run, Option.getD_some, tup_0, lst_0, tup_1, lst_1, tup_2, lst_2, tup_3, lst_3, tup_4, lst_4, tup_5, lst_5, tup_6, lst_6, tup_7, lst_7, tup_8, lst_8, tup_9, lst_9, tup_10, lst_10, tup_11, lst_11, tup_12, lst_12, new_0, new_1, new_2, new_3, new_4, new_5, ↓reduceIte, Nat.reduceAdd, $xs,*] at $h:ident)
theorem plug_beq (r : Int) : eqD (.int r) (.int 0) = some (r == 0) := eqD_int r 0
abbrev smR (most : Int) (ps : List Plug) (x3 : Option SV) : Rho := [some (SV.own 0), some (SV.val (.int most)), some (SV.val (plugsD ps)), x3]
theorem small {ns : List Int} {rest ω : Om} {most : Int} (h : IsRow ns rest ω) (hm : 0 < most) (hm' : most ≤ 3) : ∃ ps ω', IsRow ns rest ω' ∧ LotOk ps ∧ (ps.length : Int) ≤ most ∧ F__law_small [.own 0, .val (.int most)] ω = .ok (.val (plugsD ps)) ω' := by
  obtain ⟨r, ω1, w1, a1, b1, e1⟩ := pick (m := most) h hm (by omega)
  have i1 : itR1 (.int (1 + r)) = some (rngD 0 (1 + r)) := itR1_run (by omega) (by omega)
  obtain ⟨ρ', ω', e, hi, ps, x3, rfl, w, hp, hl⟩ := forL_all (tg := gN 3) (b := bd__law_small_1) (ds := rngD 0 (1 + r)) (ω := ω1) (ρ := smR most [] none)
    (fun i ρ ω => i ≤ (1 + r).toNat ∧ ∃ ps x3, ρ = smR most ps x3 ∧ IsRow ns rest ω ∧ (∀ p ∈ ps, PlugOk p) ∧ ps.length = i)
    ⟨by omega, [], none, rfl, w1, (fun p hp => by cases hp), rfl⟩ (by
    rintro i d ρ ω' hd ⟨hi, ps, x3, rfl, w, hp, hl⟩
    obtain ⟨rfl, hlt⟩ := rngD_get hd
    obtain ⟨r2, ω2, w2, a2, b2, e2⟩ := pick (m := 7) w (by decide) (by decide)
    obtain ⟨r3, ω3, w3, a3, b3, e3⟩ := pick (m := 7) w2 (by decide) (by decide)
    obtain ⟨r4, ω4, w4, a4, b4, e4⟩ := pick (m := 2) w3 (by decide) (by decide)
    have hlen : (ps.map encP).length + 1 ≤ lim := by rw [List.length_map]; show _ ≤ 16777216; omega
    have ap : opAdd (.tup (ps.map encP)) (.tup [.tup [.int r2, .int r3, .bl (r4 == 0)]]) = some (.tup ((ps ++ [(r2, r3, r4 == 0)]).map encP)) := by
      rw [opAdd_tup (by simpa using hlen), List.map_append]; rfl
    refine ⟨_, _, ω4, rfl, ?_, by omega, ps ++ [(r2, r3, r4 == 0)], some (SV.val (D.int (0 + i))), rfl, w4, fun p hp' => ?_, by rw [List.length_append, hl]; rfl⟩
    · unfold bd__law_small_1
      have pd : ∀ l : List Plug, plugsD l = .tup (l.map encP) := fun _ => rfl
      generalize hT : (ps ++ [(r2, r3, r4 == 0)]).map encP = T at ap
      generalize hS : ps.map encP = S at ap
      push_cast [smR, e2, e3, e4, plug_beq, pd, hS, hT, ap]
    · rcases List.mem_append.mp hp' with hp' | hp'
      · exact hp p hp'
      · rw [List.mem_singleton] at hp'
        subst hp'
        exact ⟨a2, by show r2 ≤ 60; omega, a3, by show r3 ≤ 60; omega⟩)
  rw [rngD_len] at hl
  refine ⟨ps, ω', w, ⟨hp, fun z => by rw [z] at hl; simp at hl; omega, by omega⟩, by omega, ?_⟩
  have e0 : D.tup [] = plugsD [] := rfl
  unfold F__law_small
  rw [fnE_run (by rfl)]
  unfold f__law_small
  simp only [smR] at e
  generalize hP : plugsD ps = P at e
  generalize hQ : plugsD [] = Q at e e0
  push_cast [e1, i1, e0, e, row_take h w]
abbrev lR (ns : List Int) (x2 x3 x4 x5 x6 x7 x8 x9 x10 x11 x12 x13 : Option SV) : Rho := [some (SV.val (.lst (ns.map D.int))), some (SV.own 0), x2, x3, x4, x5, x6, x7, x8, x9, x10, x11, x12, x13, none]
theorem lots {ns : List Int} {rest ω : Om} {most : Int} {m : Int} (h : IsRow ns rest ω) (hm : 0 < most) (hm' : most ≤ 3) (h0 : 0 < m) (h3 : m ≤ 3) {x2 x3 x4 x5 x6 x7 x8 x9 x10 x11 x12 x13 : Option SV} :
    ∃ (LS : List (List Plug)) (ω' : Om), IsRow ns rest ω' ∧ (∀ ps ∈ LS, LotOk ps) ∧ 1 ≤ LS.length ∧ LS.length ≤ 3 ∧
    eLc [14] (eIt1 itR1 (eBin opAdd (eC (.int 1)) (eVal (eCallE F__law_pick (aCons (eSlot 1) (aCons (aVal (eC (.int m))) aNil)))))) (gN 14) eTrue (eVal (eCallE F__law_small (aCons (eSlot 1) (aCons (aVal (eC (.int most))) aNil)))) (lR ns x2 x3 x4 x5 x6 x7 x8 x9 x10 x11 x12 x13) ω = .ok (.lst (LS.map plugsD)) ω' := by
  obtain ⟨r, ω1, w1, a1, b1, e1⟩ := pick (m := m) h h0 (by omega)
  have i1 : itR1 (.int (1 + r)) = some (rngD 0 (1 + r)) := itR1_run (by omega) (by omega)
  obtain ⟨ys, ω', g1, w', g3, g4⟩ := lcL_draw (tg := gN 14) (tt := eTrue) (el := eVal (eCallE F__law_small (aCons (eSlot 1) (aCons (aVal (eC (.int most))) aNil)))) (ρ := lR ns x2 x3 x4 x5 x6 x7 x8 x9 x10 x11 x12 x13) (IsRow ns rest) (fun y => ∃ ps, y = plugsD ps ∧ LotOk ps) (rngD 0 (1 + r)) [] ω1 w1 (by rw [rngD_len]; show _ ≤ 16777216; simp; omega) (by
    intro d hd ω w
    obtain ⟨ps, ω2, w2, hp, _, e⟩ := small w hm hm'
    refine ⟨_, plugsD ps, ω2, rfl, rfl, ?_, w2, ps, rfl, hp⟩
    push_cast [lR, e])
  obtain ⟨LS, rfl, hLS⟩ := enc_list plugsD LotOk ys g4
  rw [List.length_map, rngD_len] at g3
  refine ⟨LS, ω', w', hLS, by omega, by omega, ?_⟩
  rw [List.nil_append] at g1
  simp only [lR] at g1
  push_cast [lR, e1, i1, g1]
theorem opAdd_row (r : List Nat) (x : Nat) (h : r.length ≤ 100) : opAdd (tD r) (.tup [nD x]) = some (tD (r ++ [x])) := by
  unfold tD
  rw [opAdd_tup (by rw [List.length_map]; show _ + 1 ≤ 16777216; omega), List.map_append]; rfl
theorem l19_bd3 {ns : List Int} {w i : Nat} {r : List Nat} {acc : List (List Nat)} (hw : w ≤ 24) (hi : i ≤ 4) (R : RwOk w i r) (ha : acc.length ≤ 1000000) {x2 x3 x4 x6 x7 x8 x9 x10 x13 : Option SV} {ω : Om} :
    bd_law_19_3 (lR ns x2 x3 x4 (some (.val (tD r))) x6 x7 x8 x9 x10 (iV w) (some (.val (.lst (acc.map tD)))) x13) ω = .next (lR ns x2 x3 x4 (some (.val (tD r))) x6 x7 x8 x9 x10 (iV w) (some (.val (.lst ((acc ++ (froms (lastN r + 1) (w + 1)).map fun x => r ++ [x]).map tD)))) x13) ω := by
  have hne : r ≠ [] := fun z => by have := R.len; rw [z] at this; cases this
  have h1 := ixT_last hne
  have h2 : lastN r ≤ w := R.le _ (last_mem hne)
  have h3 := it_two (a := lastN r + 1) (b := w + 1) (by omega) (by omega)
  have h3 : itR2 (.int ((lastN r : Int) + 1)) (.int ((w : Int) + 1)) = some ((froms (lastN r + 1) (w + 1)).map nD) := h3
  have hf := froms_len (lastN r + 1) (w + 1)
  have hrl : r.length ≤ 100 := by rw [R.len]; omega
  have lc : lc_law_19_2 (lR ns x2 x3 x4 (some (.val (tD r))) x6 x7 x8 x9 x10 (iV w) (some (.val (.lst (acc.map tD)))) x13) ω = .ok (.lst (((froms (lastN r + 1) (w + 1)).map fun x => r ++ [x]).map tD)) ω := by
    unfold lc_law_19_2
    generalize hT : tD r = T at h1
    push_cast [lR, iV, h1, h3]
    subst hT
    rw [lcT nD (fun _ => true) (fun x => tD (r ++ [x])) _ [] (by rw [List.length_nil, froms_len]; show _ ≤ 16777216; omega)]
    · rw [List.nil_append, List.filter_eq_self.mpr fun _ _ => rfl, List.map_map]; rfl
    · intro x hx
      refine ⟨_, rfl, rfl, fun _ => ?_⟩
      have := opAdd_row r x hrl
      generalize tD r = T at this
      generalize tD (r ++ [x]) = T2 at this
      have nd : nD x = .int (x : Int) := rfl
      rw [nd] at this
      push_cast [this, nd]
  have ad : opAdd (.lst (acc.map tD)) (.lst (((froms (lastN r + 1) (w + 1)).map fun x => r ++ [x]).map tD)) = some (.lst ((acc ++ (froms (lastN r + 1) (w + 1)).map fun x => r ++ [x]).map tD)) := by
    rw [opAdd_lst (by rw [List.length_map, List.length_map, List.length_map, hf]; show _ ≤ 16777216; omega), List.map_append]
  unfold bd_law_19_3
  simp only [lR] at lc
  generalize D.lst (acc.map tD) = A at lc ad
  generalize D.lst (((froms (lastN r + 1) (w + 1)).map fun x => r ++ [x]).map tD) = B at lc ad
  push_cast [lR, lc, ad]
theorem foldl_ext (w : Nat) : ∀ (L acc : List (List Nat)), L.foldl (fun acc r => acc ++ (froms (lastN r + 1) (w + 1)).map fun x => r ++ [x]) acc = acc ++ extW w L
  | [], acc => by rw [List.foldl_nil]; unfold extW; simp
  | r :: L, acc => by
    rw [List.foldl_cons, foldl_ext w L]
    unfold extW
    rw [List.flatMap_cons, List.append_assoc]
theorem l19_bd4 {ns : List Int} {w i : Nat} (hw : w ≤ 24) (hi : i ≤ 2) {x2 x3 x4 x5 x7 x8 x9 x10 x12 x13 : Option SV} {ω : Om} :
    ∃ y5 y12, bd_law_19_4 (lR ns x2 x3 x4 x5 (some (.val (.lst ((rowsF w i).map tD)))) x7 x8 x9 x10 (iV w) x12 x13) ω = .next (lR ns x2 x3 x4 y5 (some (.val (.lst ((rowsF w (i + 1)).map tD)))) x7 x8 x9 x10 (iV w) y12 x13) ω := by
  have hl : (rowsF w i).length ≤ 625 := by
    have := rows_len hw i
    have : 25 ^ i ≤ 25 ^ 2 := Nat.pow_le_pow_right (by decide) hi
    omega
  obtain ⟨ρ', ω', e, hacc, x5', rfl, rfl⟩ := forL_foldI (tg := gN 5) (b := bd_law_19_3) tD (fun acc r => acc ++ (froms (lastN r + 1) (w + 1)).map fun x => r ++ [x]) (fun n acc ρ ω' => acc.length ≤ 25 * n ∧ ∃ x5, ρ = lR ns x2 x3 x4 x5 (some (.val (.lst ((rowsF w i).map tD)))) x7 x8 x9 x10 (iV w) (some (.val (.lst (acc.map tD)))) x13 ∧ ω' = ω)
    (rowsF w i) 0 [] (lR ns x2 x3 x4 x5 (some (.val (.lst ((rowsF w i).map tD)))) x7 x8 x9 x10 (iV w) (some (.val (.lst (([] : List (List Nat)).map tD)))) x13) ω ⟨Nat.zero_le _, x5, rfl, rfl⟩ (by
    rintro n acc r ρ ω' hr hn ⟨ha, x5, rfl, rfl⟩
    refine ⟨_, _, _, rfl, l19_bd3 hw (by omega) (memRows.mp hr) (by omega), ?_, _, rfl, rfl⟩
    rw [List.length_append, List.length_map, froms_len]
    omega)
  rw [foldl_ext, List.nil_append] at e
  refine ⟨x5', some (.val (.lst ((rowsF w (i + 1)).map tD))), ?_⟩
  have it : itSeq (.lst ((rowsF w i).map tD)) = some ((rowsF w i).map tD) := rfl
  have ee : extW w (rowsF w i) = rowsF w (i + 1) := rfl
  rw [ee] at e
  unfold bd_law_19_4
  simp only [lR, List.map_nil] at e
  generalize hA : (rowsF w i).map tD = A at it e
  generalize hB : (rowsF w (i + 1)).map tD = B at e
  simp only [lR, hA, hB]
  push_cast [it, e]
theorem l19_bd5 {ns : List Int} {LS : List (List Plug)} {w k : Nat} {r : List Nat} {d : Option (List Nat)} (hL : ∀ ps ∈ LS, LotOk ps) (hw : w ≤ 24) (hk : k ≤ 3) (R : RwOk w k r) {x3 x6 x7 x8 x9 x10 x11 x12 x13 : Option SV} {ω : Om} :
    bd_law_19_5 (lR ns (some (.val (.lst (LS.map plugsD)))) x3 (some (.val (optT d))) (some (.val (tD r))) x6 x7 x8 x9 x10 x11 x12 x13) ω = .next (lR ns (some (.val (.lst (LS.map plugsD)))) x3 (some (.val (optT (d.or (if okR LS r = true then some r else none))))) (some (.val (tD r))) x6 x7 x8 x9 x10 x11 x12 x13) ω := by
  have e := stand2_run hL hw hk R
  unfold bd_law_19_5
  generalize hG : LS.map plugsD = G at e
  cases d with
  | some q =>
    have n : opIsN (tD q) .non = some (.bl false) := rfl
    have o : optT (some q) = tD q := rfl
    rw [Option.some_or]
    simp only [o]
    generalize tD q = T at n
    push_cast [lR, n]
  | none =>
    have n : opIsN .non .non = some (.bl true) := rfl
    have o : optT none = .non := rfl
    rw [Option.none_or]
    simp only [o]
    cases h : okR LS r with
    | true =>
      rw [h] at e
      rw [if_pos rfl]
      have o : optT (some r) = tD r := rfl
      simp only [o]
      generalize tD r = T at e
      push_cast [lR, n, e]
    | false =>
      rw [h] at e
      rw [if_neg (by decide)]
      simp only [o]
      generalize tD r = T at e
      push_cast [lR, n, e]
theorem foldl_or {α : Type} (p : α → Bool) : ∀ (l : List α) (d : Option α), l.foldl (fun d r => d.or (if p r = true then some r else none)) d = d.or (l.find? p)
  | [], d => by simp
  | a :: l, d => by
    rw [List.foldl_cons, foldl_or p l, Option.or_assoc, List.find?_cons]
    cases h : p a with
    | true => rw [if_pos rfl]; rfl
    | false => rw [if_neg (by decide)]; rfl
end Pk
namespace Pk
open PySem Dl L2
local macro_rules
  | `(tactic| push_cast [$xs,*]) => `(tactic| simp -implicitDefEqProofs only [↓eC_run, ↓eVar_run, ↓eSlot_run, ↓eBin_run, ↓eUn_run, ↓eTest_run, ↓eAndT_run, ↓eOrT_run, ↓eNotT_run, ↓eTrue_run, ↓eAnd_run, ↓eOr_run, ↓eNot_run, ↓eIf_run, ↓aNil_run, ↓aCons_run, ↓aVal_run, ↓eTup_run, ↓eList_run, ↓eLst_run, ↓eCallB_run, ↓eOnL_run, ↓eIsi_run, ↓eSl_run, ↓ePart_run, ↓eNoPart_run, ↓eChain_run, ↓eIxO_run, ↓eOwnL_run, ↓sNext_run, ↓sSeq_run, ↓sIf_run, ↓sExpr_run, ↓sRet_run, ↓sRetS_run, ↓sRetN_run, ↓sBreak_run, ↓sCont_run, ↓sAsg_run, ↓sSetS_run, ↓sPar_run, ↓sFor_run, ↓sWhile_run, ↓eIt1_run, ↓eIt2_run, ↓eIt3_run, ↓eLc_run, ↓eLc2_run, ↓sNewL_run, ↓sApp_run, ↓sSetIx_run, ↓sRetL_run, ↓sRetNew_run, ↓eCallP_run, ↓eCallE_run, ↓eVal_run, ↓eMake_run, ↓eFld_run, ↓sRaise_run, ↓sRaiseI_run, ↓sTry_run, ↓eIsx_run, ↓sPar3_run, ↓eNewL_run, ↓eNDisp_run, ↓eKDisp_run, ↓eEmptyK_run, ↓eNewN_run, ↓eKM_run, ↓eNGet_run, ↓eKGet_run, ↓eNGetO_run, ↓eCopyN_run, ↓sNPut_run, ↓aStar_run, ↓eRg1_run, ↓eIsi2_run, ↓eCopyL_run, ↓eNVals_run, ↓eSortSet_run, bind_ok, bind_exc, out_ok, out_exc, lift_some, obind_next, obind_ret, obind_exc, obind_brk, obind_cont, varR_run, slotR_run, asBl_run, allD_nil, allD_cons, asLst_run, asI_run, chR_run, ownK_run, ownKR_run, ownL_run, ownLR_run, someR_run, someO_run, ixI_run, parR_run, gN_run, gsNil_run, gsCons_run, itSeq_lst, itSeq_tup, itEn_lst, itEn_tup, itZ_lst, itZ_tup, wipeR_nil, wipeR_cons, setIxR_run, finP_ret, finP_next, finP_exc, finE_ret, finE_next, finE_exc, callR_ok, callR_err, valR_run, makeR_ok, makeR_exc, opAdd_int, opI_run, opB_run, opMulA_int, opEq_run, opNe_run, opIsN_run, opNotN_run, opIx_tup, opIx_lst, opNeg_run, oLen_tup, oLen_lst, oInt_int, oInt_bl, oTuple_tup, oTuple_lst, oList_tup, oList_lst, oTupleL_run, oListL_run, oLenL_run, isi_int_non, isi_int_bl, isi_int_int, isi_int_str, isi_int_tup, isi_int_lst, isi_bool_non, isi_bool_bl, isi_bool_int, isi_bool_str, isi_bool_tup, isi_bool_lst, isi_tuple_non, isi_tuple_bl, isi_tuple_int, isi_tuple_str, isi_tuple_tup, isi_tuple_lst, isi_str_non, isi_str_bl, isi_str_int, isi_str_str, isi_str_tup, isi_str_lst, isi_list_non, isi_list_bl, isi_list_int, isi_list_str, isi_list_tup, isi_list_lst, atI_0, atI_1, atI_2, atI_3, atI_4, atI_5, atI_6, atI_7, atI_8, ixN_1_0, ixN_2_0, ixN_2_1, ixN_3_0, ixN_3_1, ixN_3_2, ixN_4_0, ixN_4_1, ixN_4_2, ixN_4_3, ixN_5_0, ixN_5_1, ixN_5_2, ixN_5_3, ixN_5_4, eqD_int, eqD_bl, eqD_non_non, isNon_non, isNon_bl, isNon_int, isNon_str, isNon_tup, isNon_lst, Option.map_some, Option.map_none, Option.bind_some, List.getElem?_cons_zero, List.getElem?_cons_succ, List.set_cons_zero, List.set_cons_succ, List.map_cons, List.map_nil, List.length_cons, List.length_nil, List.cons_append, List.nil_append, rho0, List.replicate, List.take_succ_cons, List.take_zero, List.take_nil, List.take_length, and_self, Bool.false_eq_true, Bool.not_true, Bool.not_false, decide_true, decide_false, raiseI_run1, raiseI_run2, tryO_next, tryO_ret, tryH_nil, unbind_next, unbind_ret, eXf_run, par3R_run, newLR_0, newLR_1, kmR_run, kmR2_run, asK_run, asN_run, getRL_run, getKL_run, ngo0_run, ngo1_run, ngoR_run, ownN_run, ownNR_run, npK_run, starR_run, itNItems_run, itNKeys_run, oDictK_run, opIn2_K, opKIx_run, keyK_int, copyLR_lst, copyLR_tup, gT2_run, nValsD_run, Option.getD_some, tup_0, lst_0, tup_1, lst_1, tup_2, lst_2, tup_3, lst_3, tup_4, lst_4, tup_5, lst_5, tup_6, lst_6, tup_7, lst_7, tup_8, lst_8, tup_9, lst_9, tup_10, lst_10, tup_11, lst_11, tup_12, lst_12, new_0, new_1, new_2, new_3, new_4, new_5, ↓reduceIte, Nat.reduceAdd, $xs,*])
  | `(tactic| push_cast [$xs,*] at $h:ident) => `(tactic| simp -implicitDefEqProofs only [↓eC_run, ↓eVar_run, ↓eSlot_run, ↓eBin_run, ↓eUn_run, ↓eTest_run, ↓eAndT_run, ↓eOrT_run, ↓eNotT_run, ↓eTrue_run, ↓eAnd_run, ↓eOr_run, ↓eNot_run, ↓eIf_run, ↓aNil_run, ↓aCons_run, ↓aVal_run, ↓eTup_run, ↓eList_run, ↓eLst_run, ↓eCallB_run, ↓eOnL_run, ↓eIsi_run, ↓eSl_run, ↓ePart_run, ↓eNoPart_run, ↓eChain_run, ↓eIxO_run, ↓eOwnL_run, ↓sNext_run, ↓sSeq_run, ↓sIf_run, ↓sExpr_run, ↓sRet_run, ↓sRetS_run, ↓sRetN_run, ↓sBreak_run, ↓sCont_run, ↓sAsg_run, ↓sSetS_run, ↓sPar_run, ↓sFor_run, ↓sWhile_run, ↓eIt1_run, ↓eIt2_run, ↓eIt3_run, ↓eLc_run, ↓eLc2_run, ↓sNewL_run, ↓sApp_run, ↓sSetIx_run, ↓sRetL_run, ↓sRetNew_run, ↓eCallP_run, ↓eCallE_run, ↓eVal_run, ↓eMake_run, ↓eFld_run, ↓sRaise_run, ↓sRaiseI_run, ↓sTry_run, ↓eIsx_run, ↓sPar3_run, ↓eNewL_run, ↓eNDisp_run, ↓eKDisp_run, ↓eEmptyK_run, ↓eNewN_run, ↓eKM_run, ↓eNGet_run, ↓eKGet_run, ↓eNGetO_run, ↓eCopyN_run, ↓sNPut_run, ↓aStar_run, ↓eRg1_run, ↓eIsi2_run, ↓eCopyL_run, ↓eNVals_run, ↓eSortSet_run, bind_ok, bind_exc, out_ok, out_exc, lift_some, obind_next, obind_ret, obind_exc, obind_brk, obind_cont, varR_run, slotR_run, asBl_run, allD_nil, allD_cons, asLst_run, asI_run, chR_run, ownK_run, ownKR_run, ownL_run, ownLR_run, someR_run, someO_run, ixI_run, parR_run, gN_run, gsNil_run, gsCons_run, itSeq_lst, itSeq_tup, itEn_lst, itEn_tup, itZ_lst, itZ_tup, wipeR_nil, wipeR_cons, setIxR_run, finP_ret, finP_next, finP_exc, finE_ret, finE_next, finE_exc, callR_ok, callR_err, valR_run, makeR_ok, makeR_exc, opAdd_int, opI_run, opB_run, opMulA_int, opEq_run, opNe_run, opIsN_run, opNotN_run, opIx_tup, opIx_lst, opNeg_run, oLen_tup, oLen_lst, oInt_int, oInt_bl, oTuple_tup, oTuple_lst, oList_tup, oList_lst, oTupleL_run, oListL_run, oLenL_run, isi_int_non, isi_int_bl, isi_int_int, isi_int_str, isi_int_tup, isi_int_lst, isi_bool_non, isi_bool_bl, isi_bool_int, isi_bool_str, isi_bool_tup, isi_bool_lst, isi_tuple_non, isi_tuple_bl, isi_tuple_int, isi_tuple_str, isi_tuple_tup, isi_tuple_lst, isi_str_non, isi_str_bl, isi_str_int, isi_str_str, isi_str_tup, isi_str_lst, isi_list_non, isi_list_bl, isi_list_int, isi_list_str, isi_list_tup, isi_list_lst, atI_0, atI_1, atI_2, atI_3, atI_4, atI_5, atI_6, atI_7, atI_8, ixN_1_0, ixN_2_0, ixN_2_1, ixN_3_0, ixN_3_1, ixN_3_2, ixN_4_0, ixN_4_1, ixN_4_2, ixN_4_3, ixN_5_0, ixN_5_1, ixN_5_2, ixN_5_3, ixN_5_4, eqD_int, eqD_bl, eqD_non_non, isNon_non, isNon_bl, isNon_int, isNon_str, isNon_tup, isNon_lst, Option.map_some, Option.map_none, Option.bind_some, List.getElem?_cons_zero, List.getElem?_cons_succ, List.set_cons_zero, List.set_cons_succ, List.map_cons, List.map_nil, List.length_cons, List.length_nil, List.cons_append, List.nil_append, rho0, List.replicate, List.take_succ_cons, List.take_zero, List.take_nil, List.take_length, and_self, Bool.false_eq_true, Bool.not_true, Bool.not_false, decide_true, decide_false, raiseI_run1, raiseI_run2, tryO_next, tryO_ret, tryH_nil, unbind_next, unbind_ret, eXf_run, par3R_run, newLR_0, newLR_1, kmR_run, kmR2_run, asK_run, asN_run, getRL_run, getKL_run, ngo0_run, ngo1_run, ngoR_run, ownN_run, ownNR_run, npK_run, starR_run, itNItems_run, itNKeys_run, oDictK_run, opIn2_K, opKIx_run, keyK_int, copyLR_lst, copyLR_tup, gT2_run, nValsD_run, Option.getD_some, tup_0, lst_0, tup_1, lst_1, tup_2, lst_2, tup_3, lst_3, tup_4, lst_4, tup_5, lst_5, tup_6, lst_6, tup_7, lst_7, tup_8, lst_8, tup_9, lst_9, tup_10, lst_10, tup_11, lst_11, tup_12, lst_12, new_0, new_1, new_2, new_3, new_4, new_5, ↓reduceIte, Nat.reduceAdd, $xs,*] at $h:ident)
def tl_f_law_19_11 : FS :=
  (sSeq (sSet 8 (eVal (eCallE F__law_pick (aCons (eSlot 1) (aCons (aVal (eCallB oLen (aCons (aVal (eVar 2)) aNil))) aNil)))))
    (sSeq (sSet 9 (eIx (eList (aCons (aVal (eC .non)) (aCons (aVal (eTup aNil)) (aCons (aVal (eList (aCons (aVal (eIx (eIx (eVar 2) (eC (.int 0))) (eC (.int 0)))) aNil))) (aCons (aVal (eBin opMulA (eSl (eIx (eVar 2) (eC (.int 0))) eNoPart (ePart (eC (.int 1)))) (eC (.int 4)))) (aCons (aVal (eTup (aCons (aVal (eVal (eCallE F__law_odd_plug (aCons (eSlot 1) aNil)))) aNil))) (aCons (aVal (eC (.str "0"))) aNil))))))) (eVal (eCallE F__law_pick (aCons (eSlot 1) (aCons (aVal (eC (.int 6))) aNil))))))
    (sSeq (sIf (eTest (eBin opNe (eCallP F__law_wrong_5 (aCons (aVal (eBin opAdd (eBin opAdd (eSl (eVar 2) eNoPart (ePart (eVar 8))) (eList (aCons (aVal (eVar 9)) aNil))) (eSl (eVar 2) (ePart (eBin opAdd (eVar 8) (eC (.int 1)))) eNoPart))) (aCons (aVal (eC .non)) (aCons (aVal (eC .non)) aNil)))) (eList (aCons (aVal (eC (.str "lots"))) (aCons (aVal (eVar 8)) aNil))))) (sRet (eC (.bl false))) sNext)
    (sSeq (sIf (eTest (eBin opNe (eCallP F__law_wrong_5 (aCons (aVal (eIx (eList (aCons (aVal (eC .non)) (aCons (aVal (eList aNil)) (aCons (aVal (eBin opMulB (eSl (eVar 2) eNoPart (ePart (eC (.int 1)))) (eC (.int 4)))) (aCons (aVal (eC (.int 5))) (aCons (aVal (eC (.str "0"))) aNil)))))) (eVal (eCallE F__law_pick (aCons (eSlot 1) (aCons (aVal (eC (.int 5))) aNil)))))) (aCons (aVal (eC .non)) (aCons (aVal (eC .non)) aNil)))) (eList (aCons (aVal (eC (.str "lots"))) (aCons (aVal (eC .non)) aNil))))) (sRet (eC (.bl false))) sNext)
    (sSeq (sIf (eTest (eBin opNe (eCallP F__law_wrong_5 (aCons (aVal (eVar 2)) (aCons (aVal (eIx (eList (aCons (aVal (eC (.int 0))) (aCons (aVal (eC (.int 5))) (aCons (aVal (eC .non)) (aCons (aVal (eC (.bl true))) (aCons (aVal (eC (.str "1"))) aNil)))))) (eVal (eCallE F__law_pick (aCons (eSlot 1) (aCons (aVal (eC (.int 5))) aNil)))))) (aCons (aVal (eC .non)) aNil)))) (eC (.str "many")))) (sRet (eC (.bl false))) sNext)
    (sRet (eBin opEq (eCallP F__law_wrong_5 (aCons (aVal (eVar 2)) (aCons (aVal (eC (.int 2))) (aCons (aVal (eIx (eList (aCons (aVal (eUn opNeg (eC (.int 1)))) (aCons (aVal (eC (.int 25))) (aCons (aVal (eC .non)) (aCons (aVal (eC (.bl true))) (aCons (aVal (eC (.str "1"))) aNil)))))) (eVal (eCallE F__law_pick (aCons (eSlot 1) (aCons (aVal (eC (.int 5))) aNil)))))) aNil)))) (eC (.str "width")))))))))
def tl_f_law_19_10 : FS :=
  (sSeq (sFor (eIt1 itR1 (eC (.int 6))) (gN 3) bd_law_19_8)
    tl_f_law_19_11)
def tl_f_law_19_7 : FS :=
  (sSeq (sSet 2 lc_law_19_6)
    (sSeq (sSet 7 (eCallP F_common_strip (aCons (aVal (eVar 2)) (aCons (aVal (eC (.int 4))) (aCons (aVal (eC (.int 24))) aNil)))))
    (sSeq (sIf (eTest (eBin opNotN (eVar 7) (eC .non))) (sIf (eOrT (eTest (eBin opNe (eCallB oLen (aCons (aVal (eVar 7)) aNil)) (eC (.int 4)))) (eOrT (eTest (eBin opNe (eIx (eVar 7) (eC (.int 0))) (eC (.int 0)))) (eOrT (eTest (eBin opGt (eIx (eVar 7) (eC (.int 3))) (eC (.int 24)))) (eNotT (eTest (eCallP F__law_stand_2 (aCons (aVal (eVar 7)) (aCons (aVal (eVar 2)) aNil)))))))) (sRet (eC (.bl false))) sNext) sNext)
    tl_f_law_19_10)))
theorem sp_f_law_19 : f_law_19 = (sSeq (sSetS 1 (eCallE F__law_draws (aCons (aVal (eVar 0)) aNil)))
    (sSeq (sSet 2 lc_law_19_1)
    (sSeq (sPar3 10 11 6 (aCons (aVal (eBin opAdd (eC (.int 1)) (eVal (eCallE F__law_pick (aCons (eSlot 1) (aCons (aVal (eC (.int 3))) aNil)))))) (aCons (aVal (eVal (eCallE F__law_pick (aCons (eSlot 1) (aCons (aVal (eC (.int 13))) aNil))))) (aCons (aVal (eList (aCons (aVal (eTup (aCons (aVal (eC (.int 0))) aNil))) aNil))) aNil))))
    (sSeq (sFor (eIt1 itR1 (eBin opSub (eVar 10) (eC (.int 1)))) (gN 3) bd_law_19_4)
    (sSeq (sSet 4 (eC .non))
    (sSeq (sFor (eIt1 itSeq (eVar 6)) (gN 5) bd_law_19_5)
    (sSeq (sIf (eOrT (eTest (eBin opNe (eCallP F_common_strip (aCons (aVal (eVar 2)) (aCons (aVal (eVar 10)) (aCons (aVal (eVar 11)) aNil)))) (eVar 4))) (eTest (eBin opNe (eCallP F_common_strip (aCons (aVal (eCallB oTuple (aCons (aVal (eVar 2)) aNil))) (aCons (aVal (eVar 10)) (aCons (aVal (eVar 11)) aNil)))) (eVar 4)))) (sRet (eC (.bl false))) sNext)
    tl_f_law_19_7))))))) := rfl
theorem ltD_t (a b : List Nat) : opLtD (tD a) (tD b) = some (.bl (ltN a b)) := by
  unfold opLtD
  rw [toPy_tD, toPy_tD]
  dsimp only
  rw [if_pos, lt_pyN]
  have al := alike_tD [a, b]
  have dp := depth_tD [a, b]
  simp only [List.map_cons, List.map_nil] at al dp
  unfold okP
  rw [al, decide_eq_true (show _ ≤ 50 by omega)]
  rfl
theorem ltN_irr (a : List Nat) : ltN a a = false := by
  cases h : ltN a a with
  | false => rfl
  | true => have := ltN_asymm h; rw [h] at this; cases this
theorem find_le {p : List Nat → Bool} {r : List Nat} (hp : p r = true) : ∀ {L : List (List Nat)}, L.Pairwise (fun a b => ltN a b = true) → r ∈ L → ∃ f, L.find? p = some f ∧ ltN r f = false
  | [], _, h => by cases h
  | a :: L, hL, h => by
    rw [List.find?_cons]
    rw [List.pairwise_cons] at hL
    cases q : p a with
    | true =>
      refine ⟨a, rfl, ?_⟩
      rcases List.mem_cons.mp h with rfl | h
      · exact ltN_irr _
      · exact ltN_asymm (hL.1 r h)
    | false =>
      rcases List.mem_cons.mp h with rfl | h
      · rw [hp] at q; cases q
      · exact find_le hp hL.2 h
theorem asc_int_nat {V : List Int} (h0 : ∀ x ∈ V, 0 ≤ x) : sI (V.map Int.toNat) = V := by
  show (V.map Int.toNat).map (fun n : Nat => (n : Int)) = V
  rw [List.map_map]
  conv => rhs; rw [← List.map_id V]
  refine List.map_congr_left fun x hx => ?_
  have := h0 x hx
  show ((x.toNat : Nat) : Int) = x
  omega
theorem set_row {Y : List Int} (hY : ∀ y ∈ Y, 1 ≤ y ∧ y ≤ 24) (h4 : (ssI (0 :: Y)).length = 4) : ∃ r, RwOk 24 3 r ∧ (ssI (0 :: Y)).map D.int = r.map nD := by
  have hm : ∀ x ∈ ssI (0 :: Y), 0 ≤ x ∧ x ≤ 24 := fun x hx => by
    rcases List.mem_cons.mp (ssI_mem.mp hx) with rfl | hx
    · omega
    · have := hY x hx; omega
  have ha := ssI_asc (0 :: Y)
  have e := asc_int_nat (V := ssI (0 :: Y)) fun x hx => (hm x hx).1
  refine ⟨(ssI (0 :: Y)).map Int.toNat, ⟨by rw [List.length_map, h4], ?_, ?_, fun x hx => ?_⟩, ?_⟩
  · rw [List.pairwise_map]
    refine ha.imp_of_mem fun {x y} hx hy h => ?_
    have := hm x hx
    omega
  · have h0 : (0 : Int) ∈ ssI (0 :: Y) := ssI_mem.mpr List.mem_cons_self
    cases hV : ssI (0 :: Y) with
    | nil => rw [hV] at h0; cases h0
    | cons a V =>
      rw [hV] at h0 ha
      rw [List.pairwise_cons] at ha
      have a0 : a = 0 := by
        have := hm a (by rw [hV]; exact List.mem_cons_self)
        rcases List.mem_cons.mp h0 with z | z
        · exact z.symm
        · have := ha.1 0 z; omega
      subst a0
      rfl
  · obtain ⟨z, hz, rfl⟩ := List.mem_map.mp hx
    have := hm z hz
    omega
  · conv => lhs; rw [← e]
    rw [List.map_map]; rfl
abbrev frst (LS : List (List Plug)) : Option (List Nat) := (rowsF 24 3).find? (okR LS)
theorem l19_bd8 {ns : List Int} {ω : Om} {LS : List (List Plug)} (hr : IsRow ns [] ω) (hL : ∀ ps ∈ LS, LotOk ps) {x3 x4 x5 x6 x8 x9 x10 x11 x12 x13 : Option SV} :
    ∃ ω' y13, IsRow ns [] ω' ∧ bd_law_19_8 (lR ns (some (.val (.lst (LS.map plugsD)))) x3 x4 x5 x6 (some (.val (optT (frst LS)))) x8 x9 x10 x11 x12 x13) ω = .next (lR ns (some (.val (.lst (LS.map plugsD)))) x3 x4 x5 x6 (some (.val (optT (frst LS)))) x8 x9 x10 x11 x12 y13) ω' := by
  have i3 : itR1 (.int 3) = some (rngD 0 3) := itR1_run (by decide) (by decide)
  obtain ⟨ys, ω', g1, w', g3, g4⟩ := lcL_draw (tg := gN 14) (tt := eTrue) (el := eBin opAdd (eC (.int 1)) (eVal (eCallE F__law_pick (aCons (eSlot 1) (aCons (aVal (eC (.int 24))) aNil))))) (ρ := lR ns (some (.val (.lst (LS.map plugsD)))) x3 x4 x5 x6 (some (.val (optT (frst LS)))) x8 x9 x10 x11 x12 x13) (IsRow ns []) (fun y => ∃ z : Int, y = .int z ∧ (1 ≤ z ∧ z ≤ 24)) (rngD 0 3) [] ω hr (by rw [rngD_len]; show _ ≤ 16777216; simp) (by
    intro d hd ω w
    obtain ⟨r, ω2, w2, a, b, e⟩ := pick (m := 24) w (by decide) (by decide)
    refine ⟨_, .int (1 + r), ω2, rfl, rfl, ?_, w2, 1 + r, rfl, by omega, by omega⟩
    push_cast [lR, e])
  obtain ⟨Y, rfl, hY⟩ := enc_list D.int (fun z => 1 ≤ z ∧ z ≤ 24) ys g4
  rw [List.length_map, rngD_len] at g3
  have hY3 : Y.length = 3 := by omega
  rw [List.nil_append] at g1
  have lc : lc_law_19_7 (lR ns (some (.val (.lst (LS.map plugsD)))) x3 x4 x5 x6 (some (.val (optT (frst LS)))) x8 x9 x10 x11 x12 x13) ω = .ok (.lst (Y.map D.int)) ω' := by
    unfold lc_law_19_7
    simp only [lR] at g1
    generalize Y.map D.int = T at g1
    generalize optT (frst LS) = F at g1
    push_cast [lR, i3, g1]
  have ad : opAdd (.lst [.int 0]) (.lst (Y.map D.int)) = some (.lst ((0 :: Y).map D.int)) := by
    rw [opAdd_lst (by rw [List.length_map]; show 1 + _ ≤ 16777216; omega)]; rfl
  have ss := oSortSet_run (ns := 0 :: Y) (by rw [List.length_cons]; omega)
  refine ⟨ω', some (.val (.lst ((ssI (0 :: Y)).map D.int))), w', ?_⟩
  have ll : oLen [D.lst ((ssI (0 :: Y)).map D.int)] = some (.int ((ssI (0 :: Y)).length : Int)) := by rw [oLen_lst, List.length_map]
  have tt : oTuple [D.lst ((ssI (0 :: Y)).map D.int)] = some (.tup ((ssI (0 :: Y)).map D.int)) := rfl
  unfold bd_law_19_8
  simp only [lR] at lc
  generalize hZ : (0 :: Y).map D.int = Z at ad ss
  by_cases h4 : (ssI (0 :: Y)).length = 4
  · obtain ⟨r, R, er⟩ := set_row hY h4
    rw [h4] at ll
    have b4 : (((4 : Nat) : Int) == 4) = true := rfl
    have st := stand2_run hL (by decide) (by decide) R
    rw [er] at tt ss ll
    rw [er]
    have et : D.tup (r.map nD) = tD r := rfl
    rw [et] at tt
    cases hok : okR LS r with
    | false =>
      rw [hok] at st
      generalize hM : r.map nD = M at tt ss ll
      generalize tD r = T at st tt
      generalize LS.map plugsD = G at *
      generalize optT (frst LS) = F at *
      push_cast [lR, lc, ad, ss, ll, b4, tt, st]
    | true =>
      rw [hok] at st
      obtain ⟨f, hf, hlt⟩ := find_le hok (rows_asc 24 3) (memRows.mpr R)
      have hf' : frst LS = some f := hf
      have lt := ltD_t r f
      rw [hlt] at lt
      rw [hf'] at lc ⊢
      have o : optT (some f) = tD f := rfl
      have nn : opIsN (tD f) .non = some (.bl false) := rfl
      simp only [o] at lc ⊢
      generalize hM : r.map nD = M at tt ss ll
      generalize tD r = T at st tt lt
      generalize tD f = F at lc nn lt ⊢
      generalize LS.map plugsD = G at *
      push_cast [lR, lc, ad, ss, ll, b4, tt, st, nn, lt]
  · have b4 : (((ssI (0 :: Y)).length : Int) == 4) = false := by rw [beq_eq_false_iff_ne]; omega
    generalize (ssI (0 :: Y)).map D.int = V at *
    generalize LS.map plugsD = G at *
    generalize optT (frst LS) = F at *
    push_cast [lR, lc, ad, ss, ll, b4]
end Pk
namespace Pk
open PySem Dl L2
local macro_rules
  | `(tactic| push_cast [$xs,*]) => `(tactic| simp -implicitDefEqProofs only [↓eC_run, ↓eVar_run, ↓eSlot_run, ↓eBin_run, ↓eUn_run, ↓eTest_run, ↓eAndT_run, ↓eOrT_run, ↓eNotT_run, ↓eTrue_run, ↓eAnd_run, ↓eOr_run, ↓eNot_run, ↓eIf_run, ↓aNil_run, ↓aCons_run, ↓aVal_run, ↓eTup_run, ↓eList_run, ↓eLst_run, ↓eCallB_run, ↓eOnL_run, ↓eIsi_run, ↓eSl_run, ↓ePart_run, ↓eNoPart_run, ↓eChain_run, ↓eIxO_run, ↓eOwnL_run, ↓sNext_run, ↓sSeq_run, ↓sIf_run, ↓sExpr_run, ↓sRet_run, ↓sRetS_run, ↓sRetN_run, ↓sBreak_run, ↓sCont_run, ↓sAsg_run, ↓sSetS_run, ↓sPar_run, ↓sFor_run, ↓sWhile_run, ↓eIt1_run, ↓eIt2_run, ↓eIt3_run, ↓eLc_run, ↓eLc2_run, ↓sNewL_run, ↓sApp_run, ↓sSetIx_run, ↓sRetL_run, ↓sRetNew_run, ↓eCallP_run, ↓eCallE_run, ↓eVal_run, ↓eMake_run, ↓eFld_run, ↓sRaise_run, ↓sRaiseI_run, ↓sTry_run, ↓eIsx_run, ↓sPar3_run, ↓eNewL_run, ↓eNDisp_run, ↓eKDisp_run, ↓eEmptyK_run, ↓eNewN_run, ↓eKM_run, ↓eNGet_run, ↓eKGet_run, ↓eNGetO_run, ↓eCopyN_run, ↓sNPut_run, ↓aStar_run, ↓eRg1_run, ↓eIsi2_run, ↓eCopyL_run, ↓eNVals_run, bind_ok, bind_exc, out_ok, out_exc, lift_some, obind_next, obind_ret, obind_exc, obind_brk, obind_cont, varR_run, slotR_run, asBl_run, allD_nil, allD_cons, asLst_run, asI_run, chR_run, ownK_run, ownKR_run, ownL_run, ownLR_run, someR_run, someO_run, ixI_run, parR_run, gN_run, gsNil_run, gsCons_run, itSeq_lst, itSeq_tup, itEn_lst, itEn_tup, itZ_lst, itZ_tup, wipeR_nil, wipeR_cons, setIxR_run, finP_ret, finP_next, finP_exc, finE_ret, finE_next, finE_exc, callR_ok, callR_err, valR_run, makeR_ok, makeR_exc, opAdd_int, opI_run, opB_run, opMulA_int, opEq_run, opNe_run, opIsN_run, opNotN_run, opIx_tup, opIx_lst, opNeg_run, oLen_tup, oLen_lst, oInt_int, oInt_bl, oTuple_tup, oTuple_lst, oList_tup, oList_lst, oTupleL_run, oListL_run, oLenL_run, isi_int_non, isi_int_bl, isi_int_int, isi_int_str, isi_int_tup, isi_int_lst, isi_bool_non, isi_bool_bl, isi_bool_int, isi_bool_str, isi_bool_tup, isi_bool_lst, isi_tuple_non, isi_tuple_bl, isi_tuple_int, isi_tuple_str, isi_tuple_tup, isi_tuple_lst, isi_str_non, isi_str_bl, isi_str_int, isi_str_str, isi_str_tup, isi_str_lst, isi_list_non, isi_list_bl, isi_list_int, isi_list_str, isi_list_tup, isi_list_lst, atI_0, atI_1, atI_2, atI_3, atI_4, atI_5, atI_6, atI_7, atI_8, ixN_1_0, ixN_2_0, ixN_2_1, ixN_3_0, ixN_3_1, ixN_3_2, ixN_4_0, ixN_4_1, ixN_4_2, ixN_4_3, ixN_5_0, ixN_5_1, ixN_5_2, ixN_5_3, ixN_5_4, eqD_int, eqD_bl, eqD_non_non, isNon_non, isNon_bl, isNon_int, isNon_str, isNon_tup, isNon_lst, Option.map_some, Option.map_none, Option.bind_some, List.getElem?_cons_zero, List.getElem?_cons_succ, List.set_cons_zero, List.set_cons_succ, List.map_cons, List.map_nil, List.length_cons, List.length_nil, List.cons_append, List.nil_append, rho0, List.replicate, List.take_succ_cons, List.take_zero, List.take_nil, List.take_length, and_self, Bool.false_eq_true, Bool.not_true, Bool.not_false, decide_true, decide_false, raiseI_run1, raiseI_run2, tryO_next, tryO_ret, tryH_nil, unbind_next, unbind_ret, eXf_run, par3R_run, newLR_0, newLR_1, kmR_run, kmR2_run, asK_run, asN_run, getRL_run, getKL_run, ngo0_run, ngo1_run, ngoR_run, ownN_run, ownNR_run, npK_run, starR_run, itNItems_run, itNKeys_run, oDictK_run, opIn2_K, opKIx_run, keyK_int, copyLR_lst, copyLR_tup, gT2_run, nValsD_run, Option.getD_some, tup_0, lst_0, tup_1, lst_1, tup_2, lst_2, tup_3, lst_3, tup_4, lst_4, tup_5, lst_5, tup_6, lst_6, tup_7, lst_7, tup_8, lst_8, tup_9, lst_9, tup_10, lst_10, tup_11, lst_11, tup_12, lst_12, new_0, new_1, new_2, new_3, new_4, new_5, ↓reduceIte, Nat.reduceAdd, $xs,*])
  | `(tactic| push_cast [$xs,*] at $h:ident) => `(tactic| simp -implicitDefEqProofs only [↓eC_run, ↓eVar_run, ↓eSlot_run, ↓eBin_run, ↓eUn_run, ↓eTest_run, ↓eAndT_run, ↓eOrT_run, ↓eNotT_run, ↓eTrue_run, ↓eAnd_run, ↓eOr_run, ↓eNot_run, ↓eIf_run, ↓aNil_run, ↓aCons_run, ↓aVal_run, ↓eTup_run, ↓eList_run, ↓eLst_run, ↓eCallB_run, ↓eOnL_run, ↓eIsi_run, ↓eSl_run, ↓ePart_run, ↓eNoPart_run, ↓eChain_run, ↓eIxO_run, ↓eOwnL_run, ↓sNext_run, ↓sSeq_run, ↓sIf_run, ↓sExpr_run, ↓sRet_run, ↓sRetS_run, ↓sRetN_run, ↓sBreak_run, ↓sCont_run, ↓sAsg_run, ↓sSetS_run, ↓sPar_run, ↓sFor_run, ↓sWhile_run, ↓eIt1_run, ↓eIt2_run, ↓eIt3_run, ↓eLc_run, ↓eLc2_run, ↓sNewL_run, ↓sApp_run, ↓sSetIx_run, ↓sRetL_run, ↓sRetNew_run, ↓eCallP_run, ↓eCallE_run, ↓eVal_run, ↓eMake_run, ↓eFld_run, ↓sRaise_run, ↓sRaiseI_run, ↓sTry_run, ↓eIsx_run, ↓sPar3_run, ↓eNewL_run, ↓eNDisp_run, ↓eKDisp_run, ↓eEmptyK_run, ↓eNewN_run, ↓eKM_run, ↓eNGet_run, ↓eKGet_run, ↓eNGetO_run, ↓eCopyN_run, ↓sNPut_run, ↓aStar_run, ↓eRg1_run, ↓eIsi2_run, ↓eCopyL_run, ↓eNVals_run, bind_ok, bind_exc, out_ok, out_exc, lift_some, obind_next, obind_ret, obind_exc, obind_brk, obind_cont, varR_run, slotR_run, asBl_run, allD_nil, allD_cons, asLst_run, asI_run, chR_run, ownK_run, ownKR_run, ownL_run, ownLR_run, someR_run, someO_run, ixI_run, parR_run, gN_run, gsNil_run, gsCons_run, itSeq_lst, itSeq_tup, itEn_lst, itEn_tup, itZ_lst, itZ_tup, wipeR_nil, wipeR_cons, setIxR_run, finP_ret, finP_next, finP_exc, finE_ret, finE_next, finE_exc, callR_ok, callR_err, valR_run, makeR_ok, makeR_exc, opAdd_int, opI_run, opB_run, opMulA_int, opEq_run, opNe_run, opIsN_run, opNotN_run, opIx_tup, opIx_lst, opNeg_run, oLen_tup, oLen_lst, oInt_int, oInt_bl, oTuple_tup, oTuple_lst, oList_tup, oList_lst, oTupleL_run, oListL_run, oLenL_run, isi_int_non, isi_int_bl, isi_int_int, isi_int_str, isi_int_tup, isi_int_lst, isi_bool_non, isi_bool_bl, isi_bool_int, isi_bool_str, isi_bool_tup, isi_bool_lst, isi_tuple_non, isi_tuple_bl, isi_tuple_int, isi_tuple_str, isi_tuple_tup, isi_tuple_lst, isi_str_non, isi_str_bl, isi_str_int, isi_str_str, isi_str_tup, isi_str_lst, isi_list_non, isi_list_bl, isi_list_int, isi_list_str, isi_list_tup, isi_list_lst, atI_0, atI_1, atI_2, atI_3, atI_4, atI_5, atI_6, atI_7, atI_8, ixN_1_0, ixN_2_0, ixN_2_1, ixN_3_0, ixN_3_1, ixN_3_2, ixN_4_0, ixN_4_1, ixN_4_2, ixN_4_3, ixN_5_0, ixN_5_1, ixN_5_2, ixN_5_3, ixN_5_4, eqD_int, eqD_bl, eqD_non_non, isNon_non, isNon_bl, isNon_int, isNon_str, isNon_tup, isNon_lst, Option.map_some, Option.map_none, Option.bind_some, List.getElem?_cons_zero, List.getElem?_cons_succ, List.set_cons_zero, List.set_cons_succ, List.map_cons, List.map_nil, List.length_cons, List.length_nil, List.cons_append, List.nil_append, rho0, List.replicate, List.take_succ_cons, List.take_zero, List.take_nil, List.take_length, and_self, Bool.false_eq_true, Bool.not_true, Bool.not_false, decide_true, decide_false, raiseI_run1, raiseI_run2, tryO_next, tryO_ret, tryH_nil, unbind_next, unbind_ret, eXf_run, par3R_run, newLR_0, newLR_1, kmR_run, kmR2_run, asK_run, asN_run, getRL_run, getKL_run, ngo0_run, ngo1_run, ngoR_run, ownN_run, ownNR_run, npK_run, starR_run, itNItems_run, itNKeys_run, oDictK_run, opIn2_K, opKIx_run, keyK_int, copyLR_lst, copyLR_tup, gT2_run, nValsD_run, Option.getD_some, tup_0, lst_0, tup_1, lst_1, tup_2, lst_2, tup_3, lst_3, tup_4, lst_4, tup_5, lst_5, tup_6, lst_6, tup_7, lst_7, tup_8, lst_8, tup_9, lst_9, tup_10, lst_10, tup_11, lst_11, tup_12, lst_12, new_0, new_1, new_2, new_3, new_4, new_5, ↓reduceIte, Nat.reduceAdd, $xs,*] at $h:ident)
theorem eqD_optT (o : Option (List Nat)) : eqD (optT o) (optT o) = some true := by
  refine eqD_refl 3 ?_ (by decide)
  cases o with
  | none => rfl
  | some c => exact dOk_tD 2 c
def oddLot (p : Plug) (o : D) : List D := [.non, .tup [], .lst [encP p], .tup (List.replicate 4 (encP p)), .tup [o], .str "0"]
theorem oddLot_bad {p : Plug} {o d : D} (ho : o ∈ oddP) (h : d ∈ oddLot p o) : ∃ z, F_check_plugs_2 [d, .int 3] = some (.error (badPlugs z)) := by
  unfold oddLot at h
  simp only [List.mem_cons, List.not_mem_nil, or_false] at h
  rcases h with rfl | rfl | rfl | rfl | rfl | rfl
  · exact ⟨.non, rfl⟩
  · exact ⟨.non, rfl⟩
  · exact ⟨.non, rfl⟩
  · exact ⟨.non, rfl⟩
  · exact ⟨_, check_plugs_bad (pre := []) (post := []) (fun d hd => by cases hd) (oddP_bad ho) (show ((1 : Nat) : Int) ≤ 3 by decide)⟩
  · exact ⟨.non, rfl⟩
theorem lots_none {d x : D} (h : d ∈ [D.non, .lst [], .lst [x, x, x, x], .int 5, .str "0"]) : F_check_lots [d] = some (.error (badLots .non)) := by
  simp only [List.mem_cons, List.not_mem_nil, or_false] at h
  rcases h with rfl | rfl | rfl | rfl | rfl <;> rfl
theorem dOk_lotsE (d : D) (h : dOk 2 d = true) : eqD (.lst [.str "lots", d]) (.lst [.str "lots", d]) = some true := by
  refine eqD_refl 3 ?_ (by decide)
  have h1 : dOk 2 (.str "lots") = true := by decide +kernel
  show (dOk 2 (.str "lots") && (dOk 2 d && true)) = true
  rw [h1, h]; rfl
theorem tail19 {ns : List Int} {ω : Om} {LS : List (List Plug)} (hr : IsRow ns [] ω) (hL : ∀ ps ∈ LS, LotOk ps) (h1 : 1 ≤ LS.length) (h3 : LS.length ≤ 3) {x3 x4 x5 x6 x7 x8 x9 x10 x11 x12 x13 : Option SV} :
    finP (tl_f_law_19_11 (lR ns (some (.val (.lst (LS.map plugsD)))) x3 x4 x5 x6 x7 x8 x9 x10 x11 x12 x13) ω) = some (.ok (.bl true)) := by
  obtain ⟨r1, ω1, w1, a1, b1, e1⟩ := pick (m := (LS.length : Int)) hr (by omega) (by omega)
  obtain ⟨k, rfl⟩ : ∃ k : Nat, r1 = k := ⟨r1.toNat, by omega⟩
  have hk : k < LS.length := by omega
  obtain ⟨o, ω2, w2, ho, e2⟩ := odd_plug w1
  obtain ⟨r3, ω3, w3, a3, b3, e3⟩ := pick (m := 6) w2 (by decide) (by decide)
  obtain ⟨r4, ω4, w4, a4, b4, e4⟩ := pick (m := 5) w3 (by decide) (by decide)
  obtain ⟨r5, ω5, w5, a5, b5, e5⟩ := pick (m := 5) w4 (by decide) (by decide)
  obtain ⟨r6, ω6, w6, a6, b6, e6⟩ := pick (m := 5) w5 (by decide) (by decide)
  obtain ⟨P0, Lr, hLS⟩ : ∃ P0 Lr, LS = P0 :: Lr := by
    cases LS with
    | nil => simp at h1
    | cons a b => exact ⟨a, b, rfl⟩
  have L0 := hL P0 (by rw [hLS]; exact List.mem_cons_self)
  obtain ⟨g0, Pr, hP⟩ : ∃ g0 Pr, P0 = g0 :: Pr := by
    cases P0 with
    | nil => exact absurd rfl L0.ne
    | cons a b => exact ⟨a, b, rfl⟩
  have ll : oLen [D.lst (LS.map plugsD)] = some (.int (LS.length : Int)) := by rw [oLen_lst, List.length_map]
  have ix0 : opIx (.lst (LS.map plugsD)) (.int 0) = some (plugsD P0) := by rw [hLS, opIx_lst]; exact atI_map plugsD (i := 0) rfl
  have ix1 : opIx (plugsD P0) (.int 0) = some (encP g0) := by rw [hP]; unfold plugsD; rw [opIx_tup]; exact atI_map encP (i := 0) rfl
  have s1 : slD none (some 1) (plugsD P0) = some (.tup [encP g0]) := by rw [hP]; exact cut_lo _ 1
  have m1 : opMulA (.tup [encP g0]) (.int 4) = some (.tup (List.replicate 4 (encP g0))) := rfl
  obtain ⟨d3, hd3, e3'⟩ := atI_mem (xs := oddLot g0 o) a3 (by show r3 < 6; omega)
  obtain ⟨z, hz⟩ := oddLot_bad ho hd3
  have c1 : slD none (some (k : Int)) (.lst (LS.map plugsD)) = some (.lst ((LS.map plugsD).take k)) := cutL _ _
  have c2 : slD (some ((k : Int) + 1)) none (.lst (LS.map plugsD)) = some (.lst ((LS.map plugsD).drop (k + 1))) := slL_hi _ _
  have d1 : opAdd (.lst ((LS.map plugsD).take k)) (.lst [d3]) = some (.lst ((LS.map plugsD).take k ++ [d3])) := opAdd_lst (by
    simp only [List.length_take, List.length_map, List.length_cons, List.length_nil]; show _ ≤ 16777216; omega)
  have d2 : opAdd (.lst ((LS.map plugsD).take k ++ [d3])) (.lst ((LS.map plugsD).drop (k + 1))) = some (.lst ((LS.map plugsD).take k ++ d3 :: (LS.map plugsD).drop (k + 1))) := by
    rw [opAdd_lst (by simp only [List.length_append, List.length_take, List.length_drop, List.length_map, List.length_cons, List.length_nil]; show _ ≤ 16777216; omega), List.append_assoc]; rfl
  have ok : ∀ d ∈ LS.map plugsD, F_check_plugs_2 [d, .int 3] = some (.ok .non) := fun d hd => by
    obtain ⟨ps, hp, rfl⟩ := List.mem_map.mp hd
    exact (hL ps hp).chk
  have t1 := wrong5_lots (S := .non) (W := .non) (common_errL (check_lots_bad (V := .lst ((LS.map plugsD).take k ++ d3 :: (LS.map plugsD).drop (k + 1))) (.inl rfl) (by
    simp only [List.length_append, List.length_take, List.length_drop, List.length_map, List.length_cons, List.length_nil]; omega) (fun d hd => ok d (List.mem_of_mem_take hd)) hz))
  have hlk : ((LS.map plugsD).take k).length = k := by rw [List.length_take, List.length_map]; omega
  rw [hlk] at t1
  have n1 := dOk_lotsE (.int (k : Int)) rfl
  have s4 : slD none (some 1) (.lst (LS.map plugsD)) = some (.lst [plugsD P0]) := by rw [hLS]; exact cutL _ 1
  have m4 : opMulB (.lst [plugsD P0]) (.int 4) = some (.lst [plugsD P0, plugsD P0, plugsD P0, plugsD P0]) := rfl
  obtain ⟨d4, hd4, e4'⟩ := atI_mem (xs := [D.non, .lst [], .lst [plugsD P0, plugsD P0, plugsD P0, plugsD P0], .int 5, .str "0"]) a4 (by show r4 < 5; omega)
  have t2 := wrong5_lots (S := .non) (W := .non) (common_errL (lots_none hd4))
  have n2 := dOk_lotsE .non rfl
  obtain ⟨d5, hd5, e5'⟩ := atI_mem (xs := [D.int 0, .int 5, .non, .bl true, .str "1"]) a5 (by show r5 < 5; omega)
  have cl := check_lots_ok (V := .lst (LS.map plugsD)) (.inl rfl) (by rw [List.length_map]; exact h1) (by rw [List.length_map]; exact h3) ok
  have t3 := wrong5_many (W := .non) (common_errM cl hd5)
  obtain ⟨d6, hd6, e6'⟩ := atI_mem (xs := [D.int (-1), .int 25, .non, .bl true, .str "1"]) a6 (by show r6 < 5; omega)
  have t4 := wrong5_width (common_errW cl hd6)
  have n3 : eqD (.str "many") (.str "many") = some true := eqD_refl 3 (by decide +kernel) (by decide)
  have n4 : eqD (.str "width") (.str "width") = some true := eqD_refl 3 (by decide +kernel) (by decide)
  unfold tl_f_law_19_11
  unfold oddLot at e3'
  generalize hT4 : D.tup (List.replicate 4 (encP g0)) = T4 at e3' m1
  generalize plugsD P0 = PP at *
  generalize hX : (LS.map plugsD).take k ++ d3 :: (LS.map plugsD).drop (k + 1) = X at *
  generalize LS.map plugsD = G at *
  generalize encP g0 = gg at *
  push_cast [lR, ll, e1, ix0, ix1, s1, m1, e2, e3, e3', c1, d1, c2, d2, t1, n1, s4, m4, e4, e4', t2, n2, e5, e5', t3, n3, e6, e6', t4, n4]
theorem turns19 {ns : List Int} {ω : Om} {LS : List (List Plug)} (hr : IsRow ns [] ω) (hL : ∀ ps ∈ LS, LotOk ps) (h1 : 1 ≤ LS.length) (h3 : LS.length ≤ 3) {x3 x4 x5 x6 x8 x9 x10 x11 x12 x13 : Option SV} :
    finP (tl_f_law_19_10 (lR ns (some (.val (.lst (LS.map plugsD)))) x3 x4 x5 x6 (some (.val (optT (frst LS)))) x8 x9 x10 x11 x12 x13) ω) = some (.ok (.bl true)) := by
  have i6 : itR1 (.int 6) = some (rngD 0 6) := itR1_run (by decide) (by decide)
  obtain ⟨ρ', ω', e, w', x3', x13', rfl⟩ := forL_all (tg := gN 3) (b := bd_law_19_8) (ds := rngD 0 6) (ω := ω) (ρ := lR ns (some (.val (.lst (LS.map plugsD)))) x3 x4 x5 x6 (some (.val (optT (frst LS)))) x8 x9 x10 x11 x12 x13)
    (fun i ρ ω => IsRow ns [] ω ∧ ∃ x3 x13, ρ = lR ns (some (.val (.lst (LS.map plugsD)))) x3 x4 x5 x6 (some (.val (optT (frst LS)))) x8 x9 x10 x11 x12 x13)
    ⟨hr, x3, x13, rfl⟩ (by
    rintro i d ρ ω hd ⟨w, x3, x13, rfl⟩
    obtain ⟨ω', y13, w', e⟩ := l19_bd8 w hL (x3 := some (.val d)) (x4 := x4) (x5 := x5) (x6 := x6) (x8 := x8) (x9 := x9) (x10 := x10) (x11 := x11) (x12 := x12) (x13 := x13)
    exact ⟨_, _, ω', rfl, e, w', _, _, rfl⟩)
  have t := tail19 w' hL h1 h3 (x3 := x3') (x4 := x4) (x5 := x5) (x6 := x6) (x7 := some (.val (optT (frst LS)))) (x8 := x8) (x9 := x9) (x10 := x10) (x11 := x11) (x12 := x12) (x13 := x13')
  unfold tl_f_law_19_10
  generalize optT (frst LS) = F at *
  generalize LS.map plugsD = G at *
  simp only [lR] at e t
  push_cast [lR, i6, e, t]
theorem found19 {ns : List Int} {ω : Om} (hr : IsRow ns [] ω) {x2 x3 x4 x5 x6 x7 x8 x9 x10 x11 x12 x13 : Option SV} :
    finP (tl_f_law_19_7 (lR ns x2 x3 x4 x5 x6 x7 x8 x9 x10 x11 x12 x13) ω) = some (.ok (.bl true)) := by
  obtain ⟨LS, ω', w', hL, h1, h3, el⟩ := lots (most := 3) (m := 3) hr (by decide) (by decide) (by decide) (by decide) (x2 := x2) (x3 := x3) (x4 := x4) (x5 := x5) (x6 := x6) (x7 := x7) (x8 := x8) (x9 := x9) (x10 := x10) (x11 := x11) (x12 := x12) (x13 := x13)
  have lc : lc_law_19_6 (lR ns x2 x3 x4 x5 x6 x7 x8 x9 x10 x11 x12 x13) ω = .ok (.lst (LS.map plugsD)) ω' := el
  have cr := common_run (V := .lst (LS.map plugsD)) (w := 24) (k := 3) (.inl rfl) hL h1 h3 (by decide) (by decide)
  have cr : F_common_strip [.lst (LS.map plugsD), .int 4, .int 24] = some (.ok (optT (frst LS))) := cr
  have t := turns19 w' hL h1 h3 (ns := ns) (x3 := x3) (x4 := x4) (x5 := x5) (x6 := x6) (x8 := x8) (x9 := x9) (x10 := x10) (x11 := x11) (x12 := x12) (x13 := x13)
  unfold tl_f_law_19_7
  cases hf : frst LS with
  | none =>
    rw [hf] at cr t
    have o : optT none = .non := rfl
    rw [o] at cr t
    have n : opNotN .non .non = some (.bl false) := rfl
    generalize LS.map plugsD = G at *
    simp only [lR] at lc t
    push_cast [lR, lc, cr, n, t]
  | some r =>
    rw [hf] at cr t
    have R := memRows.mp (List.mem_of_find?_eq_some hf)
    have hok := List.find?_some hf
    have st := stand2_run hL (by decide) (by decide) R
    rw [hok] at st
    have o : optT (some r) = tD r := rfl
    rw [o] at cr t
    have n : opNotN (tD r) .non = some (.bl true) := rfl
    have ln : oLen [tD r] = some (.int 4) := by unfold tD; rw [oLen_tup, List.length_map, R.len]; rfl
    have i0 : opIx (tD r) (.int 0) = some (.int 0) := by
      unfold tD
      rw [opIx_tup]
      refine atI_map nD (i := 0) (x := 0) ?_
      rw [← List.head?_eq_getElem?]
      exact R.hd
    have h3' : 3 < r.length := by rw [R.len]; decide
    have i3 : opIx (tD r) (.int 3) = some (.int ((r[3] : Nat) : Int)) := by
      unfold tD
      rw [opIx_tup]
      exact atI_map nD (i := 3) (List.getElem?_eq_getElem h3')
    have g3 : decide ((24 : Int) < ((r[3] : Nat) : Int)) = false := decide_eq_false (by have := R.le r[3] (List.getElem_mem h3'); omega)
    have b4 : ((4 : Int) == 4) = true := rfl
    have b0 : ((0 : Int) == 0) = true := rfl
    generalize ((r[3] : Nat) : Int) = R3 at *
    generalize LS.map plugsD = G at *
    generalize tD r = T at *
    simp only [lR] at lc t
    push_cast [lR, lc, cr, n, ln, i0, i3, g3, b4, b0, st, t]
theorem law_true_19 (ns : List Int) : F_law_19 [.lst (ns.map D.int)] = some (.ok (.bl true)) := by
  obtain ⟨LS, ω1, w1, hL, h1, h3, el⟩ := lots (most := 2) (m := 2) (draws_row ns) (by decide) (by decide) (by decide) (by decide) (x2 := none) (x3 := none) (x4 := none) (x5 := none) (x6 := none) (x7 := none) (x8 := none) (x9 := none) (x10 := none) (x11 := none) (x12 := none) (x13 := none)
  have lc : lc_law_19_1 (lR ns none none none none none none none none none none none none) [some (.lst (rowD ns 0 0 7))] = .ok (.lst (LS.map plugsD)) ω1 := el
  obtain ⟨r2, ω2, w2, a2, b2, e2⟩ := pick (m := 3) w1 (by decide) (by decide)
  obtain ⟨r3, ω3, w3, a3, b3, e3⟩ := pick (m := 13) w2 (by decide) (by decide)
  obtain ⟨k, rfl⟩ : ∃ k : Nat, r2 = k := ⟨r2.toNat, by omega⟩
  obtain ⟨w, rfl⟩ : ∃ w : Nat, r3 = w := ⟨r3.toNat, by omega⟩
  have hk : k ≤ 2 := by omega
  have hw : w ≤ 12 := by omega
  have i1 : itR1 (.int ((1 : Int) + k - 1)) = some ((List.range k).map nD) := by
    rw [show (1 : Int) + k - 1 = k by omega, itR1_run (by omega) (by omega)]
    exact congrArg some (rng_nD k)
  obtain ⟨ρ1, ω4, g1, hn, y3, y5, y12, rfl, rfl⟩ := forL_foldI (tg := gN 3) (b := bd_law_19_4) nD (fun n _ => n + 1) (fun m n ρ ω => n = m ∧ ∃ y3 y5 y12, ρ = lR ns (some (.val (.lst (LS.map plugsD)))) y3 none y5 (some (.val (.lst ((rowsF w n).map tD)))) none none none (some (.val (.int (1 + (k : Int))))) (iV w) y12 none ∧ ω = ω3)
    (List.range k) 0 0 (lR ns (some (.val (.lst (LS.map plugsD)))) none none none (some (.val (.lst ((rowsF w 0).map tD)))) none none none (some (.val (.int (1 + (k : Int))))) (iV w) none none) ω3 ⟨rfl, none, none, none, rfl, rfl⟩ (by
    rintro m n x ρ ω hx hm ⟨rfl, y3, y5, y12, rfl, rfl⟩
    rw [List.length_range] at hm
    obtain ⟨z5, z12, e⟩ := l19_bd4 (ns := ns) (w := w) (i := n) (by omega) (by omega) (x2 := some (.val (.lst (LS.map plugsD)))) (x3 := iV x) (x4 := none) (x5 := y5) (x7 := none) (x8 := none) (x9 := none) (x10 := some (.val (.int (1 + (k : Int))))) (x12 := y12) (x13 := none) (ω := ω)
    exact ⟨_, _, _, rfl, e, rfl, _, _, _, rfl, rfl⟩)
  rw [hn, Nat.zero_add, List.length_range] at g1
  obtain ⟨ρ2, ω5, g2, z5, rfl, rfl⟩ := forL_fold (tg := gN 5) (b := bd_law_19_5) tD (fun d r => d.or (if okR LS r = true then some r else none)) (fun d ρ ω => ∃ y5, ρ = lR ns (some (.val (.lst (LS.map plugsD)))) y3 (some (.val (optT d))) y5 (some (.val (.lst ((rowsF w k).map tD)))) none none none (some (.val (.int (1 + (k : Int))))) (iV w) y12 none ∧ ω = ω4)
    (rowsF w k) none (lR ns (some (.val (.lst (LS.map plugsD)))) y3 (some (.val (optT none))) y5 (some (.val (.lst ((rowsF w k).map tD)))) none none none (some (.val (.int (1 + (k : Int))))) (iV w) y12 none) ω4 ⟨y5, rfl, rfl⟩ (by
    rintro d r ρ ω hr ⟨y5, rfl, rfl⟩
    exact ⟨_, _, _, rfl, l19_bd5 hL (by omega) (by omega) (memRows.mp hr), _, rfl, rfl⟩)
  rw [foldl_or, Option.none_or] at g2
  have cr1 := common_run (V := .lst (LS.map plugsD)) (w := w) (k := k) (.inl rfl) hL h1 h3 (by omega) (by omega)
  have cr2 := common_run (V := .tup (LS.map plugsD)) (w := w) (k := k) (.inr rfl) hL h1 h3 (by omega) (by omega)
  rw [show (k : Int) + 1 = 1 + k by omega] at cr1 cr2
  have eq := eqD_optT ((rowsF w k).find? (okR LS))
  have tt : oTuple [D.lst (LS.map plugsD)] = some (.tup (LS.map plugsD)) := rfl
  have t := found19 (ns := ns) w3 (x2 := some (.val (.lst (LS.map plugsD)))) (x3 := y3) (x4 := some (.val (optT ((rowsF w k).find? (okR LS))))) (x5 := z5) (x6 := some (.val (.lst ((rowsF w k).map tD)))) (x7 := none) (x8 := none) (x9 := none) (x10 := some (.val (.int (1 + (k : Int))))) (x11 := iV w) (x12 := y12) (x13 := none)
  have i2 : itSeq (.lst ((rowsF w k).map tD)) = some ((rowsF w k).map tD) := rfl
  have e0 : D.lst [.tup [.int 0]] = .lst ((rowsF w 0).map tD) := rfl
  have o : optT none = .non := rfl
  rw [o] at g2
  unfold F_law_19
  rw [fnP_run (by rfl), sp_f_law_19]
  simp only [lR, iV, nD] at lc g1 g2 t
  generalize optT ((rowsF w k).find? (okR LS)) = F at *
  generalize (rowsF w k).map tD = RW at *
  generalize (rowsF w 0).map tD = RW0 at *
  generalize LS.map plugsD = G at *
  push_cast [draws_run, lc, e2, e3, e0, i1, g1, i2, g2, cr1, tt, cr2, eq, t]
end Pk
namespace K28
open PySem L2 Dl
def topS (i : Nat) : Stmt := PySem.Challenge.pw_plugstrip_k28_common_strips.main.body.getD i (.Pass ⟨0, 0, 0, 0⟩)
abbrev s_BadPlugs_d__init_d_ : Stmt := inClass (topS 5) 0
abbrev N_BadPlugs_d__init_d_ : List Str := ["self", "index"]
theorem sc_BadPlugs_d__init_d_ : FnScope N_BadPlugs_d__init_d_ ["self", "index"] (defScope s_BadPlugs_d__init_d_) := ⟨rfl, rfl, rfl, by decide +kernel, rfl, by decide +kernel, by decide +kernel⟩
abbrev s_BadLots_d__init_d_ : Stmt := inClass (topS 6) 0
abbrev N_BadLots_d__init_d_ : List Str := ["self", "index"]
theorem sc_BadLots_d__init_d_ : FnScope N_BadLots_d__init_d_ ["self", "index"] (defScope s_BadLots_d__init_d_) := ⟨rfl, rfl, rfl, by decide +kernel, rfl, by decide +kernel, by decide +kernel⟩
abbrev s__law_draws : Stmt := topS 33
abbrev N__law_draws : List Str := ["_law_script"]
theorem sc__law_draws : FnScope N__law_draws ["_law_script"] (defScope s__law_draws) := ⟨rfl, rfl, rfl, by decide +kernel, rfl, by decide +kernel, by decide +kernel⟩
abbrev s__law_pick : Stmt := topS 34
abbrev N__law_pick : List Str := ["_law_row", "_law_many", "_law_found", "_law_cell"]
theorem sc__law_pick : FnScope N__law_pick ["_law_row", "_law_many"] (defScope s__law_pick) := ⟨rfl, rfl, rfl, by decide +kernel, rfl, by decide +kernel, by decide +kernel⟩
abbrev s__law_small : Stmt := topS 43
abbrev N__law_small : List Str := ["_law_row", "_law_most", "_law_found", "_law_k"]
theorem sc__law_small : FnScope N__law_small ["_law_row", "_law_most"] (defScope s__law_small) := ⟨rfl, rfl, rfl, by decide +kernel, rfl, by decide +kernel, by decide +kernel⟩
abbrev s__law_can : Stmt := topS 35
abbrev N__law_can : List Str := ["_law_plug"]
theorem sc__law_can : FnScope N__law_can ["_law_plug"] (defScope s__law_can) := ⟨rfl, rfl, rfl, by decide +kernel, rfl, by decide +kernel, by decide +kernel⟩
abbrev s__law_places : Stmt := topS 39
abbrev N__law_places : List Str := ["_law_sockets", "_law_plug", "_law_found", "_law_socket"]
theorem sc__law_places : FnScope N__law_places ["_law_sockets", "_law_plug"] (defScope s__law_places) := ⟨rfl, rfl, rfl, by decide +kernel, rfl, by decide +kernel, by decide +kernel⟩
abbrev s__law_body : Stmt := topS 36
abbrev N__law_body : List Str := ["_law_sockets", "_law_plug", "_law_place", "_law_left", "_law_right"]
theorem sc__law_body : FnScope N__law_body ["_law_sockets", "_law_plug", "_law_place"] (defScope s__law_body) := ⟨rfl, rfl, rfl, by decide +kernel, rfl, by decide +kernel, by decide +kernel⟩
abbrev s__law_meet : Stmt := topS 37
abbrev N__law_meet : List Str := ["_law_sockets", "_law_plugs", "_law_plan", "_law_one", "_law_other", "_law_first"]
theorem sc__law_meet : FnScope N__law_meet ["_law_sockets", "_law_plugs", "_law_plan", "_law_one", "_law_other"] (defScope s__law_meet) := ⟨rfl, rfl, rfl, by decide +kernel, rfl, by decide +kernel, by decide +kernel⟩
abbrev s__law_fault : Stmt := topS 38
abbrev N__law_fault : List Str := ["_law_sockets", "_law_plugs", "_law_plan", "_law_here", "_law_k", "_law_one", "_law_other"]
theorem sc__law_fault : FnScope N__law_fault ["_law_sockets", "_law_plugs", "_law_plan"] (defScope s__law_fault) := ⟨rfl, rfl, rfl, by decide +kernel, rfl, by decide +kernel, by decide +kernel⟩
abbrev s__law_placings : Stmt := topS 40
abbrev N__law_placings : List Str := ["_law_sockets", "_law_plugs", "_law_some", "_law_rows", "_law_k", "_law_longer", "_law_one", "_law_place", "_law_later"]
theorem sc__law_placings : FnScope N__law_placings ["_law_sockets", "_law_plugs", "_law_some"] (defScope s__law_placings) := ⟨rfl, rfl, rfl, by decide +kernel, rfl, by decide +kernel, by decide +kernel⟩
abbrev s__law_stand : Stmt := topS 44
abbrev N__law_stand : List Str := ["_law_sockets", "_law_lots", "_law_plugs"]
theorem sc__law_stand : FnScope N__law_stand ["_law_sockets", "_law_lots"] (defScope s__law_stand) := ⟨rfl, rfl, rfl, by decide +kernel, rfl, by decide +kernel, by decide +kernel⟩
abbrev s_is_from : Stmt := topS 11
abbrev N_is_from : List Str := ["value", "low", "high"]
theorem sc_is_from : FnScope N_is_from ["value", "low", "high"] (defScope s_is_from) := ⟨rfl, rfl, rfl, by decide +kernel, rfl, by decide +kernel, by decide +kernel⟩
abbrev s_is_plug : Stmt := topS 13
abbrev N_is_plug : List Str := ["value", "one"]
theorem sc_is_plug : FnScope N_is_plug ["value"] (defScope s_is_plug) := ⟨rfl, rfl, rfl, by decide +kernel, rfl, by decide +kernel, by decide +kernel⟩
abbrev s_check_plugs : Stmt := topS 14
abbrev N_check_plugs : List Str := ["value", "most", "index", "plug"]
theorem sc_check_plugs : FnScope N_check_plugs ["value", "most"] (defScope s_check_plugs) := ⟨rfl, rfl, rfl, by decide +kernel, rfl, by decide +kernel, by decide +kernel⟩
abbrev s_check_lots : Stmt := topS 29
abbrev N_check_lots : List Str := ["value", "index", "plugs"]
theorem sc_check_lots : FnScope N_check_lots ["value"] (defScope s_check_lots) := ⟨rfl, rfl, rfl, by decide +kernel, rfl, by decide +kernel, by decide +kernel⟩
abbrev s_rows_of : Stmt := topS 30
abbrev N_rows_of : List Str := ["sockets", "width", "found", "turn", "row", "place"]
theorem sc_rows_of : FnScope N_rows_of ["sockets", "width"] (defScope s_rows_of) := ⟨rfl, rfl, rfl, by decide +kernel, rfl, by decide +kernel, by decide +kernel⟩
abbrev s_can_turn : Stmt := topS 15
abbrev N_can_turn : List Str := ["plug"]
theorem sc_can_turn : FnScope N_can_turn ["plug"] (defScope s_can_turn) := ⟨rfl, rfl, rfl, by decide +kernel, rfl, by decide +kernel, by decide +kernel⟩
abbrev s_stands_of : Stmt := topS 17
abbrev N_stands_of : List Str := ["plug"]
theorem sc_stands_of : FnScope N_stands_of ["plug"] (defScope s_stands_of) := ⟨rfl, rfl, rfl, by decide +kernel, rfl, by decide +kernel, by decide +kernel⟩
abbrev s_sides : Stmt := topS 16
abbrev N_sides : List Str := ["plug", "turned"]
theorem sc_sides : FnScope N_sides ["plug", "turned"] (defScope s_sides) := ⟨rfl, rfl, rfl, by decide +kernel, rfl, by decide +kernel, by decide +kernel⟩
abbrev s_body : Stmt := topS 18
abbrev N_body : List Str := ["strip", "plug", "place", "left", "right"]
theorem sc_body : FnScope N_body ["strip", "plug", "place"] (defScope s_body) := ⟨rfl, rfl, rfl, by decide +kernel, rfl, by decide +kernel, by decide +kernel⟩
abbrev s_layers_of : Stmt := topS 21
abbrev N_layers_of : List Str := ["strip", "plugs", "wanted", "fixed", "layer", "socket", "later", "many", "index", "here", "end", "turned", "begin", "more", "key"]
theorem sc_layers_of : FnScope N_layers_of ["strip", "plugs", "wanted", "fixed"] (defScope s_layers_of) := ⟨rfl, rfl, rfl, by decide +kernel, rfl, by decide +kernel, by decide +kernel⟩
abbrev s_count_of : Stmt := topS 22
abbrev N_count_of : List Str := ["strip", "plugs", "wanted", "fixed", "layer", "many", "here", "end"]
theorem sc_count_of : FnScope N_count_of ["strip", "plugs", "wanted", "fixed"] (defScope s_count_of) := ⟨rfl, rfl, rfl, by decide +kernel, rfl, by decide +kernel, by decide +kernel⟩
abbrev s_everyone : Stmt := topS 23
abbrev N_everyone : List Str := ["plugs"]
theorem sc_everyone : FnScope N_everyone ["plugs"] (defScope s_everyone) := ⟨rfl, rfl, rfl, by decide +kernel, rfl, by decide +kernel, by decide +kernel⟩
abbrev s_can_all : Stmt := topS 28
abbrev N_can_all : List Str := ["strip", "plugs"]
theorem sc_can_all : FnScope N_can_all ["strip", "plugs"] (defScope s_can_all) := ⟨rfl, rfl, rfl, by decide +kernel, rfl, by decide +kernel, by decide +kernel⟩
abbrev s_Strip_d__init_d_ : Stmt := inClass (topS 12) 0
abbrev N_Strip_d__init_d_ : List Str := ["self", "sockets", "one", "other"]
theorem sc_Strip_d__init_d_ : FnScope N_Strip_d__init_d_ ["self", "sockets"] (defScope s_Strip_d__init_d_) := ⟨rfl, rfl, rfl, by decide +kernel, rfl, by decide +kernel, by decide +kernel⟩
abbrev s_common_strip : Stmt := topS 31
abbrev N_common_strip : List Str := ["lots", "sockets", "width", "row", "plugs"]
theorem sc_common_strip : FnScope N_common_strip ["lots", "sockets", "width"] (defScope s_common_strip) := ⟨rfl, rfl, rfl, by decide +kernel, rfl, by decide +kernel, by decide +kernel⟩
abbrev s__law_odd_plug : Stmt := topS 41
abbrev N__law_odd_plug : List Str := ["_law_row", "_law_odd"]
theorem sc__law_odd_plug : FnScope N__law_odd_plug ["_law_row"] (defScope s__law_odd_plug) := ⟨rfl, rfl, rfl, by decide +kernel, rfl, by decide +kernel, by decide +kernel⟩
abbrev s__law_wrong : Stmt := topS 42
abbrev N__law_wrong : List Str := ["_law_lots", "_law_sockets", "_law_width", "_law_told_there", "e"]
theorem sc__law_wrong : FnScope N__law_wrong ["_law_lots", "_law_sockets", "_law_width"] (defScope s__law_wrong) := ⟨rfl, rfl, rfl, by decide +kernel, rfl, by decide +kernel, by decide +kernel⟩
abbrev s_law : Stmt := topS 45
abbrev N_law : List Str := ["_law_script", "_law_row", "_law_lots", "_law_turn", "_law_due", "_law_one", "_law_rows", "_law_found", "_law_spot", "_law_odd", "_law_sockets", "_law_width", "_law_longer", "_law_some", "_law_k"]
theorem sc_law : FnScope N_law ["_law_script"] (defScope s_law) := ⟨rfl, rfl, rfl, by decide +kernel, rfl, by decide +kernel, by decide +kernel⟩
structure Env (K : PySem.W.Frag) (mg : MG) where
  a_BadPlugs_d__init_d_ : Addr
  d_BadPlugs_d__init_d_ : FuncData
  h_BadPlugs_d__init_d_ : DefAt K "__init__" "BadPlugs.__init__" s_BadPlugs_d__init_d_ a_BadPlugs_d__init_d_ d_BadPlugs_d__init_d_ ["self", "index"]
  a_BadLots_d__init_d_ : Addr
  d_BadLots_d__init_d_ : FuncData
  h_BadLots_d__init_d_ : DefAt K "__init__" "BadLots.__init__" s_BadLots_d__init_d_ a_BadLots_d__init_d_ d_BadLots_d__init_d_ ["self", "index"]
  a__law_draws : Addr
  d__law_draws : FuncData
  h__law_draws : DefAt K "_law_draws" "_law_draws" s__law_draws a__law_draws d__law_draws ["_law_script"]
  l__law_draws : mg "_law_draws" = some (.ref a__law_draws)
  a__law_pick : Addr
  d__law_pick : FuncData
  h__law_pick : DefAt K "_law_pick" "_law_pick" s__law_pick a__law_pick d__law_pick ["_law_row", "_law_many"]
  l__law_pick : mg "_law_pick" = some (.ref a__law_pick)
  a__law_small : Addr
  d__law_small : FuncData
  h__law_small : DefAt K "_law_small" "_law_small" s__law_small a__law_small d__law_small ["_law_row", "_law_most"]
  l__law_small : mg "_law_small" = some (.ref a__law_small)
  a__law_can : Addr
  d__law_can : FuncData
  h__law_can : DefAt K "_law_can" "_law_can" s__law_can a__law_can d__law_can ["_law_plug"]
  l__law_can : mg "_law_can" = some (.ref a__law_can)
  a__law_places : Addr
  d__law_places : FuncData
  h__law_places : DefAt K "_law_places" "_law_places" s__law_places a__law_places d__law_places ["_law_sockets", "_law_plug"]
  l__law_places : mg "_law_places" = some (.ref a__law_places)
  a__law_body : Addr
  d__law_body : FuncData
  h__law_body : DefAt K "_law_body" "_law_body" s__law_body a__law_body d__law_body ["_law_sockets", "_law_plug", "_law_place"]
  l__law_body : mg "_law_body" = some (.ref a__law_body)
  a__law_meet : Addr
  d__law_meet : FuncData
  h__law_meet : DefAt K "_law_meet" "_law_meet" s__law_meet a__law_meet d__law_meet ["_law_sockets", "_law_plugs", "_law_plan", "_law_one", "_law_other"]
  l__law_meet : mg "_law_meet" = some (.ref a__law_meet)
  a__law_fault : Addr
  d__law_fault : FuncData
  h__law_fault : DefAt K "_law_fault" "_law_fault" s__law_fault a__law_fault d__law_fault ["_law_sockets", "_law_plugs", "_law_plan"]
  l__law_fault : mg "_law_fault" = some (.ref a__law_fault)
  a__law_placings : Addr
  d__law_placings : FuncData
  h__law_placings : DefAt K "_law_placings" "_law_placings" s__law_placings a__law_placings d__law_placings ["_law_sockets", "_law_plugs", "_law_some"]
  l__law_placings : mg "_law_placings" = some (.ref a__law_placings)
  a__law_stand : Addr
  d__law_stand : FuncData
  h__law_stand : DefAt K "_law_stand" "_law_stand" s__law_stand a__law_stand d__law_stand ["_law_sockets", "_law_lots"]
  l__law_stand : mg "_law_stand" = some (.ref a__law_stand)
  a_is_from : Addr
  d_is_from : FuncData
  h_is_from : DefAt K "is_from" "is_from" s_is_from a_is_from d_is_from ["value", "low", "high"]
  l_is_from : mg "is_from" = some (.ref a_is_from)
  a_is_plug : Addr
  d_is_plug : FuncData
  h_is_plug : DefAt K "is_plug" "is_plug" s_is_plug a_is_plug d_is_plug ["value"]
  l_is_plug : mg "is_plug" = some (.ref a_is_plug)
  a_check_plugs : Addr
  d_check_plugs : FuncData
  h_check_plugs : DefAt K "check_plugs" "check_plugs" s_check_plugs a_check_plugs d_check_plugs ["value", "most"]
  l_check_plugs : mg "check_plugs" = some (.ref a_check_plugs)
  a_check_lots : Addr
  d_check_lots : FuncData
  h_check_lots : DefAt K "check_lots" "check_lots" s_check_lots a_check_lots d_check_lots ["value"]
  l_check_lots : mg "check_lots" = some (.ref a_check_lots)
  a_rows_of : Addr
  d_rows_of : FuncData
  h_rows_of : DefAt K "rows_of" "rows_of" s_rows_of a_rows_of d_rows_of ["sockets", "width"]
  l_rows_of : mg "rows_of" = some (.ref a_rows_of)
  a_can_turn : Addr
  d_can_turn : FuncData
  h_can_turn : DefAt K "can_turn" "can_turn" s_can_turn a_can_turn d_can_turn ["plug"]
  l_can_turn : mg "can_turn" = some (.ref a_can_turn)
  a_stands_of : Addr
  d_stands_of : FuncData
  h_stands_of : DefAt K "stands_of" "stands_of" s_stands_of a_stands_of d_stands_of ["plug"]
  l_stands_of : mg "stands_of" = some (.ref a_stands_of)
  a_sides : Addr
  d_sides : FuncData
  h_sides : DefAt K "sides" "sides" s_sides a_sides d_sides ["plug", "turned"]
  l_sides : mg "sides" = some (.ref a_sides)
  a_body : Addr
  d_body : FuncData
  h_body : DefAt K "body" "body" s_body a_body d_body ["strip", "plug", "place"]
  l_body : mg "body" = some (.ref a_body)
  a_layers_of : Addr
  d_layers_of : FuncData
  h_layers_of : DefAt K "layers_of" "layers_of" s_layers_of a_layers_of d_layers_of ["strip", "plugs", "wanted", "fixed"]
  l_layers_of : mg "layers_of" = some (.ref a_layers_of)
  a_count_of : Addr
  d_count_of : FuncData
  h_count_of : DefAt K "count_of" "count_of" s_count_of a_count_of d_count_of ["strip", "plugs", "wanted", "fixed"]
  l_count_of : mg "count_of" = some (.ref a_count_of)
  a_everyone : Addr
  d_everyone : FuncData
  h_everyone : DefAt K "everyone" "everyone" s_everyone a_everyone d_everyone ["plugs"]
  l_everyone : mg "everyone" = some (.ref a_everyone)
  a_can_all : Addr
  d_can_all : FuncData
  h_can_all : DefAt K "can_all" "can_all" s_can_all a_can_all d_can_all ["strip", "plugs"]
  l_can_all : mg "can_all" = some (.ref a_can_all)
  a_Strip_d__init_d_ : Addr
  d_Strip_d__init_d_ : FuncData
  h_Strip_d__init_d_ : DefAt K "__init__" "Strip.__init__" s_Strip_d__init_d_ a_Strip_d__init_d_ d_Strip_d__init_d_ ["self", "sockets"]
  a_common_strip : Addr
  d_common_strip : FuncData
  h_common_strip : DefAt K "common_strip" "common_strip" s_common_strip a_common_strip d_common_strip ["lots", "sockets", "width"]
  l_common_strip : mg "common_strip" = some (.ref a_common_strip)
  a__law_odd_plug : Addr
  d__law_odd_plug : FuncData
  h__law_odd_plug : DefAt K "_law_odd_plug" "_law_odd_plug" s__law_odd_plug a__law_odd_plug d__law_odd_plug ["_law_row"]
  l__law_odd_plug : mg "_law_odd_plug" = some (.ref a__law_odd_plug)
  a__law_wrong : Addr
  d__law_wrong : FuncData
  h__law_wrong : DefAt K "_law_wrong" "_law_wrong" s__law_wrong a__law_wrong d__law_wrong ["_law_lots", "_law_sockets", "_law_width"]
  l__law_wrong : mg "_law_wrong" = some (.ref a__law_wrong)
  a_law : Addr
  d_law : FuncData
  h_law : DefAt K "law" "law" s_law a_law d_law ["_law_script"]
  l_law : mg "law" = some (.ref a_law)
  c_Strip : Addr
  k_Strip : ClsD K mg "Strip" c_Strip
  m_Strip : Mk K c_Strip a_Strip_d__init_d_
  c_BadLots : Addr
  c_BadMany : Addr
  c_BadPlugs : Addr
  c_BadSockets : Addr
  c_BadWidth : Addr
  c_StripError : Addr
  r_BadMany : ErrC K mg "BadMany" c_BadMany
  r_BadSockets : ErrC K mg "BadSockets" c_BadSockets
  r_BadWidth : ErrC K mg "BadWidth" c_BadWidth
  r_BadLots : ErrI K mg "BadLots" c_BadLots a_BadLots_d__init_d_
  no_BadLots_index : PySem.W.findIn K (.ref c_BadLots) "index" = some none
  r_BadPlugs : ErrI K mg "BadPlugs" c_BadPlugs a_BadPlugs_d__init_d_
  no_BadPlugs_index : PySem.W.findIn K (.ref c_BadPlugs) "index" = some none
  x_BadLots : ErrX K mg "BadLots" c_BadLots
  x_BadMany : ErrX K mg "BadMany" c_BadMany
  x_BadPlugs : ErrX K mg "BadPlugs" c_BadPlugs
  x_BadSockets : ErrX K mg "BadSockets" c_BadSockets
  x_BadWidth : ErrX K mg "BadWidth" c_BadWidth
  x_StripError : ErrX K mg "StripError" c_StripError
  s_BadLots_BadLots : PySem.W.subIn K (.ref c_BadLots) (.ref c_BadLots) = some (subX "BadLots" "BadLots")
  s_BadLots_BadMany : PySem.W.subIn K (.ref c_BadLots) (.ref c_BadMany) = some (subX "BadLots" "BadMany")
  s_BadLots_BadPlugs : PySem.W.subIn K (.ref c_BadLots) (.ref c_BadPlugs) = some (subX "BadLots" "BadPlugs")
  s_BadLots_BadWidth : PySem.W.subIn K (.ref c_BadLots) (.ref c_BadWidth) = some (subX "BadLots" "BadWidth")
  s_BadLots_StripError : PySem.W.subIn K (.ref c_BadLots) (.ref c_StripError) = some (subX "BadLots" "StripError")
  s_BadMany_BadLots : PySem.W.subIn K (.ref c_BadMany) (.ref c_BadLots) = some (subX "BadMany" "BadLots")
  s_BadMany_BadMany : PySem.W.subIn K (.ref c_BadMany) (.ref c_BadMany) = some (subX "BadMany" "BadMany")
  s_BadMany_BadPlugs : PySem.W.subIn K (.ref c_BadMany) (.ref c_BadPlugs) = some (subX "BadMany" "BadPlugs")
  s_BadMany_BadWidth : PySem.W.subIn K (.ref c_BadMany) (.ref c_BadWidth) = some (subX "BadMany" "BadWidth")
  s_BadMany_StripError : PySem.W.subIn K (.ref c_BadMany) (.ref c_StripError) = some (subX "BadMany" "StripError")
  s_BadPlugs_BadLots : PySem.W.subIn K (.ref c_BadPlugs) (.ref c_BadLots) = some (subX "BadPlugs" "BadLots")
  s_BadPlugs_BadMany : PySem.W.subIn K (.ref c_BadPlugs) (.ref c_BadMany) = some (subX "BadPlugs" "BadMany")
  s_BadPlugs_BadPlugs : PySem.W.subIn K (.ref c_BadPlugs) (.ref c_BadPlugs) = some (subX "BadPlugs" "BadPlugs")
  s_BadPlugs_BadWidth : PySem.W.subIn K (.ref c_BadPlugs) (.ref c_BadWidth) = some (subX "BadPlugs" "BadWidth")
  s_BadPlugs_StripError : PySem.W.subIn K (.ref c_BadPlugs) (.ref c_StripError) = some (subX "BadPlugs" "StripError")
  s_BadSockets_BadLots : PySem.W.subIn K (.ref c_BadSockets) (.ref c_BadLots) = some (subX "BadSockets" "BadLots")
  s_BadSockets_BadMany : PySem.W.subIn K (.ref c_BadSockets) (.ref c_BadMany) = some (subX "BadSockets" "BadMany")
  s_BadSockets_BadPlugs : PySem.W.subIn K (.ref c_BadSockets) (.ref c_BadPlugs) = some (subX "BadSockets" "BadPlugs")
  s_BadSockets_BadWidth : PySem.W.subIn K (.ref c_BadSockets) (.ref c_BadWidth) = some (subX "BadSockets" "BadWidth")
  s_BadSockets_StripError : PySem.W.subIn K (.ref c_BadSockets) (.ref c_StripError) = some (subX "BadSockets" "StripError")
  s_BadWidth_BadLots : PySem.W.subIn K (.ref c_BadWidth) (.ref c_BadLots) = some (subX "BadWidth" "BadLots")
  s_BadWidth_BadMany : PySem.W.subIn K (.ref c_BadWidth) (.ref c_BadMany) = some (subX "BadWidth" "BadMany")
  s_BadWidth_BadPlugs : PySem.W.subIn K (.ref c_BadWidth) (.ref c_BadPlugs) = some (subX "BadWidth" "BadPlugs")
  s_BadWidth_BadWidth : PySem.W.subIn K (.ref c_BadWidth) (.ref c_BadWidth) = some (subX "BadWidth" "BadWidth")
  s_BadWidth_StripError : PySem.W.subIn K (.ref c_BadWidth) (.ref c_StripError) = some (subX "BadWidth" "StripError")
  f_BadLots_index : XfD K mg "BadLots" "index" c_BadLots
  n_Strip_rows : NoAttr K c_Strip "rows"
  b_all : mg "all" = none
  b_bool : mg "bool" = none
  b_dict : mg "dict" = none
  b_enumerate : mg "enumerate" = none
  b_int : mg "int" = none
  b_isinstance : mg "isinstance" = none
  b_len : mg "len" = none
  b_list : mg "list" = none
  b_range : mg "range" = none
  b_set : mg "set" = none
  b_sorted : mg "sorted" = none
  b_sum : mg "sum" = none
  b_tuple : mg "tuple" = none
  b_zip : mg "zip" = none
  t_FAR : Tok
  g_FAR : mg "FAR" = some (.int (-1000) t_FAR)
  t_MOST_AT : Tok
  g_MOST_AT : mg "MOST_AT" = some (.int (300) t_MOST_AT)
  t_MOST_FEW : Tok
  g_MOST_FEW : mg "MOST_FEW" = some (.int (3) t_MOST_FEW)
  t_MOST_SIDE : Tok
  g_MOST_SIDE : mg "MOST_SIDE" = some (.int (60) t_MOST_SIDE)
  t_MOST_SMALL : Tok
  g_MOST_SMALL : mg "MOST_SMALL" = some (.int (4) t_MOST_SMALL)
  t_MOST_SOCKETS : Tok
  g_MOST_SOCKETS : mg "MOST_SOCKETS" = some (.int (9) t_MOST_SOCKETS)
  t_MOST_WIDTH : Tok
  g_MOST_WIDTH : mg "MOST_WIDTH" = some (.int (24) t_MOST_WIDTH)
theorem ok_BadPlugs_d__init_d_ {P : Program} {w : World} {K : PySem.W.Frag} {mg : MG} {base : Heap} (T : Env K mg) : FnOk P w K mg base (L2.CX P w) 1 T.a_BadPlugs_d__init_d_ T.d_BadPlugs_d__init_d_ ["self", "index"] (spIni T.c_BadPlugs ["index"]) :=
  ini_ok1 T.h_BadPlugs_d__init_d_.fn sc_BadPlugs_d__init_d_ T.r_BadPlugs.ox T.no_BadPlugs_index rfl (fun _ _ _ _ _ _ => ⟨_, ps_ost (pe_var (i := 0) rfl (.inl rfl)) (pe_var (i := 1) rfl (.inl rfl)), rfl⟩)
theorem ok_BadLots_d__init_d_ {P : Program} {w : World} {K : PySem.W.Frag} {mg : MG} {base : Heap} (T : Env K mg) : FnOk P w K mg base (L2.CX P w) 1 T.a_BadLots_d__init_d_ T.d_BadLots_d__init_d_ ["self", "index"] (spIni T.c_BadLots ["index"]) :=
  ini_ok1 T.h_BadLots_d__init_d_.fn sc_BadLots_d__init_d_ T.r_BadLots.ox T.no_BadLots_index rfl (fun _ _ _ _ _ _ => ⟨_, ps_ost (pe_var (i := 0) rfl (.inl rfl)) (pe_var (i := 1) rfl (.inl rfl)), rfl⟩)
theorem okH_BadLots_d__init_d_ {P : Program} {w : World} {K : PySem.W.Frag} {mg : MG} {base : Heap} (T : Env K mg) : L2H.FnH P w K mg base (L2.CX P w) 1 T.a_BadLots_d__init_d_ T.d_BadLots_d__init_d_ ["self", "index"] (spIni T.c_BadLots ["index"]) :=
  ini_ok1H T.h_BadLots_d__init_d_.fn sc_BadLots_d__init_d_ T.r_BadLots.ox T.no_BadLots_index rfl (fun _ _ _ _ _ _ _ => ⟨_, ps_ost (pe_var (i := 0) rfl (.inl rfl)) (pe_var (i := 1) rfl (.inl rfl)), rfl⟩)
theorem ok__law_draws {P : Program} {w : World} {K : PySem.W.Frag} {mg : MG} {base : Heap} (T : Env K mg) : FnOk P w K mg base (L2.CX P w) 1 T.a__law_draws T.d__law_draws ["_law_script"] (spE K mg Pk.F__law_draws) := by
  refine fn_okE (k := 0) T.h__law_draws.fn sc__law_draws rfl fun cdv A outer s H E hr => ?_
  have tk : Takes (cxOf (L2.CX P w) P w K mg base N__law_draws "_law_draws" (defScope s__law_draws) T.a__law_draws cdv A outer s H E) (fun c d _ H' => E c d H') := takes_of rfl rfl rfl rfl
  exact (dss_one (ds_retNew (da_val (de_callTy T.b_list call_list_of cop_list (da_val (de_var 0) da_nil)) (da_val de_int (da_val de_int (da_val de_int da_nil))))))
theorem ok__law_pick {P : Program} {w : World} {K : PySem.W.Frag} {mg : MG} {base : Heap} (T : Env K mg) : FnOk P w K mg base (L2.CX P w) 1 T.a__law_pick T.d__law_pick ["_law_row", "_law_many"] (spE K mg Pk.F__law_pick) := by
  refine fn_okE (k := 0) T.h__law_pick.fn sc__law_pick rfl fun cdv A outer s H E hr => ?_
  have tk : Takes (cxOf (L2.CX P w) P w K mg base N__law_pick "_law_pick" (defScope s__law_pick) T.a__law_pick cdv A outer s H E) (fun c d _ H' => E c d H') := takes_of rfl rfl rfl rfl
  exact (dss_cons (ds_if (dt_c (cmp_eq hr) (de_ixO 0 de_int) de_int) (dss_one (ds_if (dt_c cmp_lt (de_ixO 0 de_int) (de_callB T.b_len call_len cop_len (da_val (de_ixO 0 de_int) da_nil))) (dss_cons (ds_set (i := 3) sc__law_pick.nd (de_sub1 (de_ixO 0 de_int) (de_ixO 0 de_int)))
      (dss_cons (ds_setIx 0 de_int (de_add (de_ixO 0 de_int) de_int))
      (dss_one (ds_if (dt_c cmp_ge (de_var 3) (de_pow de_int de_int)) (dss_one (ds_setIx 0 de_int (de_var 3))) (dss_one (ds_setIx 0 de_int (de_mod (de_callTy T.b_int call_int1 cop_int (da_val (de_add (de_add (de_mulA (de_ixO 0 de_int) de_int) (de_mulA (de_var 3) de_int)) de_int) da_nil)) de_int))))))) (dss_one (ds_setIx 0 de_int (de_mod (de_callTy T.b_int call_int1 cop_int (da_val (de_add (de_mulA (de_ixO 0 de_int) de_int) de_int) da_nil)) de_int))))) dss_nil)
      (dss_cons (ds_if (dt_c cmp_gt (de_ixO 0 de_int) de_int) (dss_cons (ds_set (i := 2) sc__law_pick.nd (de_mod (de_callTy T.b_int call_int1 cop_int (da_val (de_ixO 0 de_int) da_nil)) (de_var 1)))
      (dss_cons (ds_setIx 0 de_int (de_div (de_ixO 0 de_int) (de_var 1)))
      (dss_one (ds_ret (de_var 2))))) dss_nil)
      (dss_one (ds_ret (de_mod (de_mod (de_callTy T.b_int call_int1 cop_int (da_val (de_mulA (de_ixO 0 de_int) de_int) da_nil)) de_int) (de_var 1))))))
theorem ok__law_small {P : Program} {w : World} {K : PySem.W.Frag} {mg : MG} {base : Heap} (T : Env K mg) : FnOk P w K mg base (L2.CX P w) 2 T.a__law_small T.d__law_small ["_law_row", "_law_most"] (spE K mg Pk.F__law_small) := by
  have G__law_pick := ok__law_pick (P := P) (w := w) (base := base) T
  refine fn_okE (k := 1) T.h__law_small.fn sc__law_small rfl fun cdv A outer s H E hr => ?_
  have tk : Takes (cxOf (L2.CX P w) P w K mg base N__law_small "_law_small" (defScope s__law_small) T.a__law_small cdv A outer s H E) (fun c d _ H' => E c d H') := takes_of rfl rfl rfl rfl
  exact (dss_cons (ds_set (i := 2) sc__law_small.nd (de_tup da_nil))
      (dss_cons (ds_for (passes_of rfl) rfl (di_range1 T.b_range (de_add de_int (de_val (dv_callE tk (hr.mono (by decide)) ⟨G__law_pick, T.l__law_pick, T.h__law_pick.fn.kp, T.h__law_pick.bd⟩ (da_cons (dv_var 0) (da_val (de_var 1) da_nil)))))) (dg_name (i := 3) sc__law_small.nd)
      (dss_one (ds_set (i := 2) sc__law_small.nd (de_add (de_var 2) (de_tup (da_val (de_tup (da_val (de_val (dv_callE tk (hr.mono (by decide)) ⟨G__law_pick, T.l__law_pick, T.h__law_pick.fn.kp, T.h__law_pick.bd⟩ (da_cons (dv_var 0) (da_val de_int da_nil)))) (da_val (de_val (dv_callE tk (hr.mono (by decide)) ⟨G__law_pick, T.l__law_pick, T.h__law_pick.fn.kp, T.h__law_pick.bd⟩ (da_cons (dv_var 0) (da_val de_int da_nil)))) (da_val (de_c (cmp_eq hr) (de_val (dv_callE tk (hr.mono (by decide)) ⟨G__law_pick, T.l__law_pick, T.h__law_pick.fn.kp, T.h__law_pick.bd⟩ (da_cons (dv_var 0) (da_val de_int da_nil)))) de_int) da_nil)))) da_nil))))))
      (dss_one (ds_ret (de_var 2)))))
theorem ok__law_can {P : Program} {w : World} {K : PySem.W.Frag} {mg : MG} {base : Heap} (T : Env K mg) : FnOk P w K mg base (L2.CX P w) 1 T.a__law_can T.d__law_can ["_law_plug"] (spP K mg Pk.F__law_can) := by
  refine fn_okP (k := 0) T.h__law_can.fn sc__law_can rfl fun cdv A outer s H E hr => ?_
  have tk : Takes (cxOf (L2.CX P w) P w K mg base N__law_can "_law_can" (defScope s__law_can) T.a__law_can cdv A outer s H E) (fun c d _ H' => E c d H') := takes_of rfl rfl rfl rfl
  exact (dss_one (ds_ret (de_and (de_sub1 (de_var 0) de_int) (de_one (de_c (cmp_ne hr) (de_sub1 (de_var 0) de_int) (de_sub1 (de_var 0) de_int))))))
theorem ok__law_places {P : Program} {w : World} {K : PySem.W.Frag} {mg : MG} {base : Heap} (T : Env K mg) : FnOk P w K mg base (L2.CX P w) 2 T.a__law_places T.d__law_places ["_law_sockets", "_law_plug"] (spP K mg Pk.F__law_places) := by
  have G__law_can := ok__law_can (P := P) (w := w) (base := base) T
  refine fn_okP (k := 1) T.h__law_places.fn sc__law_places rfl fun cdv A outer s H E hr => ?_
  have tk : Takes (cxOf (L2.CX P w) P w K mg base N__law_places "_law_places" (defScope s__law_places) T.a__law_places cdv A outer s H E) (fun c d _ H' => E c d H') := takes_of rfl rfl rfl rfl
  exact (dss_cons (ds_newL (i := 2) sc__law_places.nd da_nil)
      (dss_cons (ds_for (passes_of rfl) rfl (di_range1 T.b_range (de_callB T.b_len call_len cop_len (da_val (de_var 0) da_nil))) (dg_name (i := 3) sc__law_places.nd)
      (dss_cons (ds_app 2 (de_tup (da_val (de_var 3) (da_val de_bl da_nil))))
      (dss_one (ds_if (dt_val (de_call tk (hr.mono (by decide)) ⟨G__law_can, T.l__law_can, T.h__law_can.fn.kp, T.h__law_can.bd⟩ (da_val (de_var 1) da_nil))) (dss_one (ds_app 2 (de_tup (da_val (de_var 3) (da_val de_bl da_nil))))) dss_nil))))
      (dss_one (ds_retL 2))))
theorem ok__law_body {P : Program} {w : World} {K : PySem.W.Frag} {mg : MG} {base : Heap} (T : Env K mg) : FnOk P w K mg base (L2.CX P w) 1 T.a__law_body T.d__law_body ["_law_sockets", "_law_plug", "_law_place"] (spP K mg Pk.F__law_body) := by
  refine fn_okP (k := 0) T.h__law_body.fn sc__law_body rfl fun cdv A outer s H E hr => ?_
  have tk : Takes (cxOf (L2.CX P w) P w K mg base N__law_body "_law_body" (defScope s__law_body) T.a__law_body cdv A outer s H E) (fun c d _ H' => E c d H') := takes_of rfl rfl rfl rfl
  exact (dss_cons (ds_par (i := 3) (j := 4) rfl sc__law_body.nd (by decide) (da_val (de_sub1 (de_var 1) de_int) (da_val (de_sub1 (de_var 1) de_int) da_nil)) (by rfl))
      (dss_cons (ds_if (dt_val (de_sub1 (de_var 2) de_int)) (dss_one (ds_par (i := 3) (j := 4) rfl sc__law_body.nd (by decide) (da_val (de_var 4) (da_val (de_var 3) da_nil)) (by rfl))) dss_nil)
      (dss_one (ds_ret (de_lst (da_val (de_sub (de_sub1 (de_var 0) (de_sub1 (de_var 2) de_int)) (de_var 3)) (da_val (de_add (de_sub1 (de_var 0) (de_sub1 (de_var 2) de_int)) (de_var 4)) da_nil)))))))
theorem ok__law_meet {P : Program} {w : World} {K : PySem.W.Frag} {mg : MG} {base : Heap} (T : Env K mg) : FnOk P w K mg base (L2.CX P w) 2 T.a__law_meet T.d__law_meet ["_law_sockets", "_law_plugs", "_law_plan", "_law_one", "_law_other"] (spP K mg Pk.F__law_meet) := by
  have G__law_body := ok__law_body (P := P) (w := w) (base := base) T
  refine fn_okP (k := 1) T.h__law_meet.fn sc__law_meet rfl fun cdv A outer s H E hr => ?_
  have tk : Takes (cxOf (L2.CX P w) P w K mg base N__law_meet "_law_meet" (defScope s__law_meet) T.a__law_meet cdv A outer s H E) (fun c d _ H' => E c d H') := takes_of rfl rfl rfl rfl
  exact (dss_cons (ds_if (dt_c cmp_gt (de_sub1 (de_sub1 (de_var 2) (de_var 3)) de_int) (de_sub1 (de_sub1 (de_var 2) (de_var 4)) de_int)) (dss_one (ds_par (i := 3) (j := 4) rfl sc__law_meet.nd (by decide) (da_val (de_var 4) (da_val (de_var 3) da_nil)) (by rfl))) dss_nil)
      (dss_cons (ds_set (i := 5) sc__law_meet.nd (de_call tk (hr.mono (by decide)) ⟨G__law_body, T.l__law_body, T.h__law_body.fn.kp, T.h__law_body.bd⟩ (da_val (de_var 0) (da_val (de_sub1 (de_var 1) (de_var 3)) (da_val (de_sub1 (de_var 2) (de_var 3)) da_nil)))))
      (dss_one (ds_ret (de_c cmp_gt (de_sub1 (de_var 5) de_int) (de_sub1 (de_call tk (hr.mono (by decide)) ⟨G__law_body, T.l__law_body, T.h__law_body.fn.kp, T.h__law_body.bd⟩ (da_val (de_var 0) (da_val (de_sub1 (de_var 1) (de_var 4)) (da_val (de_sub1 (de_var 2) (de_var 4)) da_nil)))) de_int))))))
theorem ok__law_fault {P : Program} {w : World} {K : PySem.W.Frag} {mg : MG} {base : Heap} (T : Env K mg) : FnOk P w K mg base (L2.CX P w) 3 T.a__law_fault T.d__law_fault ["_law_sockets", "_law_plugs", "_law_plan"] (spP K mg Pk.F__law_fault) := by
  have G__law_can := ok__law_can (P := P) (w := w) (base := base) T
  have G__law_meet := ok__law_meet (P := P) (w := w) (base := base) T
  refine fn_okP (k := 2) T.h__law_fault.fn sc__law_fault rfl fun cdv A outer s H E hr => ?_
  have tk : Takes (cxOf (L2.CX P w) P w K mg base N__law_fault "_law_fault" (defScope s__law_fault) T.a__law_fault cdv A outer s H E) (fun c d _ H' => E c d H') := takes_of rfl rfl rfl rfl
  exact (dss_cons (ds_setLc (i := 3) (own := [("_law_k", 4)]) rfl sc__law_fault.nd (sw_true rfl rfl rfl (by decide +kernel)) (di_range1 T.b_range (de_callB T.b_len call_len cop_len (da_val (de_var 2) da_nil))) (blkOk_by (own := [("_law_k", 4)]) (N := N__law_fault) (sc := defScope s__law_fault) (by decide +kernel)) (fun _ _ _ _ _ => (dg_name (i := 4) sc__law_fault.nd)) (fun _ _ _ _ _ => (dts_one (dt_c cmp_notN (de_sub1 (de_var 2) (de_var 4)) de_non))) (fun _ _ _ _ _ => (de_var 4)) (by decide))
      (dss_cons (ds_for (passes_of rfl) rfl (di_seq (de_var 3)) (dg_name (i := 4) sc__law_fault.nd)
      (dss_one (ds_if (dt_w (dw_and (dt_val (de_sub1 (de_sub1 (de_var 2) (de_var 4)) de_int)) (dw_and1 (dt_not (dt_val (de_call tk (hr.mono (by decide)) ⟨G__law_can, T.l__law_can, T.h__law_can.fn.kp, T.h__law_can.bd⟩ (da_val (de_sub1 (de_var 1) (de_var 4)) da_nil))))))) (dss_one (ds_ret (de_tup (da_val de_str (da_val (de_var 4) da_nil))))) dss_nil)))
      (dss_cons (ds_for (passes_of rfl) rfl (di_seq (de_var 3)) (dg_name (i := 5) sc__law_fault.nd)
      (dss_one (ds_for (passes_of rfl) rfl (di_seq (de_var 3)) (dg_name (i := 6) sc__law_fault.nd)
      (dss_one (ds_if (dt_w (dw_and (dt_c cmp_lt (de_var 5) (de_var 6)) (dw_and1 (dt_c (cmp_eq hr) (de_sub1 (de_sub1 (de_var 2) (de_var 5)) de_int) (de_sub1 (de_sub1 (de_var 2) (de_var 6)) de_int))))) (dss_one (ds_ret (de_tup (da_val de_str (da_val (de_var 5) (da_val (de_var 6) da_nil)))))) dss_nil)))))
      (dss_cons (ds_for (passes_of rfl) rfl (di_seq (de_var 3)) (dg_name (i := 5) sc__law_fault.nd)
      (dss_one (ds_for (passes_of rfl) rfl (di_seq (de_var 3)) (dg_name (i := 6) sc__law_fault.nd)
      (dss_one (ds_if (dt_w (dw_and (dt_c cmp_lt (de_var 5) (de_var 6)) (dw_and1 (dt_val (de_call tk (hr.mono (by decide)) ⟨G__law_meet, T.l__law_meet, T.h__law_meet.fn.kp, T.h__law_meet.bd⟩ (da_val (de_var 0) (da_val (de_var 1) (da_val (de_var 2) (da_val (de_var 5) (da_val (de_var 6) da_nil)))))))))) (dss_one (ds_ret (de_tup (da_val de_str (da_val (de_var 5) (da_val (de_var 6) da_nil)))))) dss_nil)))))
      (dss_one (ds_ret de_non))))))
theorem ok__law_placings {P : Program} {w : World} {K : PySem.W.Frag} {mg : MG} {base : Heap} (T : Env K mg) : FnOk P w K mg base (L2.CX P w) 4 T.a__law_placings T.d__law_placings ["_law_sockets", "_law_plugs", "_law_some"] (spP K mg Pk.F__law_placings) := by
  have G__law_fault := ok__law_fault (P := P) (w := w) (base := base) T
  have G__law_places := ok__law_places (P := P) (w := w) (base := base) T
  refine fn_okP (k := 3) T.h__law_placings.fn sc__law_placings rfl fun cdv A outer s H E hr => ?_
  have tk : Takes (cxOf (L2.CX P w) P w K mg base N__law_placings "_law_placings" (defScope s__law_placings) T.a__law_placings cdv A outer s H E) (fun c d _ H' => E c d H') := takes_of rfl rfl rfl rfl
  exact (dss_cons (ds_set (i := 3) sc__law_placings.nd (de_lst (da_val (de_mulA (de_tup (da_val de_non da_nil)) (de_callB T.b_len call_len cop_len (da_val (de_var 1) da_nil))) da_nil)))
      (dss_cons (ds_for (passes_of rfl) rfl (di_seq (de_var 2)) (dg_name (i := 4) sc__law_placings.nd)
      (dss_cons (ds_newL (i := 5) sc__law_placings.nd da_nil)
      (dss_cons (ds_for (passes_of rfl) rfl (di_seq (de_var 3)) (dg_name (i := 6) sc__law_placings.nd)
      (dss_one (ds_for (passes_of rfl) rfl (di_seq (de_call tk (hr.mono (by decide)) ⟨G__law_places, T.l__law_places, T.h__law_places.fn.kp, T.h__law_places.bd⟩ (da_val (de_var 0) (da_val (de_sub1 (de_var 1) (de_var 4)) da_nil)))) (dg_name (i := 7) sc__law_placings.nd)
      (dss_cons (ds_set (i := 8) sc__law_placings.nd (de_add (de_add (de_slice (de_var 6) do_none (do_some (de_var 4))) (de_tup (da_val (de_var 7) da_nil))) (de_slice (de_var 6) (do_some (de_add (de_var 4) de_int)) do_none)))
      (dss_one (ds_if (dt_c cmp_isN (de_call tk (hr.mono (by decide)) ⟨G__law_fault, T.l__law_fault, T.h__law_fault.fn.kp, T.h__law_fault.bd⟩ (da_val (de_var 0) (da_val (de_var 1) (da_val (de_var 8) da_nil)))) de_non) (dss_one (ds_app 5 (de_var 8))) dss_nil))))))
      (dss_one (ds_gf 5 (ds_set (i := 3) sc__law_placings.nd (de_var 5)))))))
      (dss_one (ds_ret (de_var 3)))))
theorem ok__law_stand {P : Program} {w : World} {K : PySem.W.Frag} {mg : MG} {base : Heap} (T : Env K mg) : FnOk P w K mg base (L2.CX P w) 5 T.a__law_stand T.d__law_stand ["_law_sockets", "_law_lots"] (spP K mg Pk.F__law_stand_2) := by
  have G__law_placings := ok__law_placings (P := P) (w := w) (base := base) T
  refine fn_okP (k := 4) T.h__law_stand.fn sc__law_stand rfl fun cdv A outer s H E hr => ?_
  have tk : Takes (cxOf (L2.CX P w) P w K mg base N__law_stand "_law_stand" (defScope s__law_stand) T.a__law_stand cdv A outer s H E) (fun c d _ H' => E c d H') := takes_of rfl rfl rfl rfl
  exact (dss_cons (ds_for (passes_of rfl) rfl (di_seq (de_var 1)) (dg_name (i := 2) sc__law_stand.nd)
      (dss_one (ds_if (dt_c (cmp_eq hr) (de_call tk (hr.mono (by decide)) ⟨G__law_placings, T.l__law_placings, T.h__law_placings.fn.kp, T.h__law_placings.bd⟩ (da_val (de_var 0) (da_val (de_var 2) (da_val (de_listRg1 T.b_list T.b_range (de_callB T.b_len call_len cop_len (da_val (de_var 2) da_nil))) da_nil)))) (de_lst da_nil)) (dss_one (ds_ret de_bl)) dss_nil)))
      (dss_one (ds_ret de_bl)))
theorem ok_is_from {P : Program} {w : World} {K : PySem.W.Frag} {mg : MG} {base : Heap} (T : Env K mg) : FnOk P w K mg base (L2.CX P w) 1 T.a_is_from T.d_is_from ["value", "low", "high"] (spP K mg Pk.F_is_from) := by
  refine fn_okP (k := 0) T.h_is_from.fn sc_is_from rfl fun cdv A outer s H E hr => ?_
  have tk : Takes (cxOf (L2.CX P w) P w K mg base N_is_from "is_from" (defScope s_is_from) T.a_is_from cdv A outer s H E) (fun c d _ H' => E c d H') := takes_of rfl rfl rfl rfl
  exact (dss_one (ds_ret (de_and (de_isi T.b_isinstance T.b_int ask_int (de_var 0)) (de_and (de_not (de_isi T.b_isinstance T.b_bool ask_bool (de_var 0))) (de_one (de_chain cmp_le cmp_le (de_var 1) (de_var 0) (de_var 2)))))))
theorem ok_is_plug {P : Program} {w : World} {K : PySem.W.Frag} {mg : MG} {base : Heap} (T : Env K mg) : FnOk P w K mg base (L2.CX P w) 2 T.a_is_plug T.d_is_plug ["value"] (spP K mg Pk.F_is_plug) := by
  have G_is_from := ok_is_from (P := P) (w := w) (base := base) T
  refine fn_okP (k := 1) T.h_is_plug.fn sc_is_plug rfl fun cdv A outer s H E hr => ?_
  have tk : Takes (cxOf (L2.CX P w) P w K mg base N_is_plug "is_plug" (defScope s_is_plug) T.a_is_plug cdv A outer s H E) (fun c d _ H' => E c d H') := takes_of rfl rfl rfl rfl
  exact (dss_cons (ds_if (dt_w (dw_or (dt_not (dt_val (de_isi T.b_isinstance T.b_tuple ask_tuple (de_var 0)))) (dw_or (dt_c (cmp_ne hr) (de_callB T.b_len call_len cop_len (da_val (de_var 0) da_nil)) de_int) (dw_or1 (dt_not (dt_val (de_callBL T.b_all (cr_all rfl) copL_all (dl_of (de_lc (own := [("one", 1)]) rfl sc_is_plug.nd (di_seq (de_slice (de_var 0) do_none (do_some de_int))) (blkOk_by (own := [("one", 1)]) (N := N_is_plug) (sc := defScope s_is_plug) (by decide +kernel)) (fun _ _ _ _ _ => (dg_name (i := 1) sc_is_plug.nd)) (fun _ _ _ _ _ => dts_nil) (fun _ _ _ _ _ => (de_call takes0 (hr.mono (by decide)) ⟨G_is_from, T.l_is_from, T.h_is_from.fn.kp, T.h_is_from.bd⟩ (da_val (de_var 1) (da_val de_int (da_val (de_globI T.g_MOST_SIDE) da_nil))))) (by decide)))))))))) (dss_one (ds_ret de_bl)) dss_nil)
      (dss_one (ds_ret (de_isi T.b_isinstance T.b_bool ask_bool (de_sub1 (de_var 0) de_int)))))
theorem okN_is_plug {P : Program} {w : World} {K : PySem.W.Frag} {mg : MG} {base : Heap} (T : Env K mg) : FnOk P w K mg base (L2N.CX P w) 2 T.a_is_plug T.d_is_plug ["value"] (spP K mg Pk.F_is_plug) := by
  have G_is_from := ok_is_from (P := P) (w := w) (base := base) T
  refine fn_okPN (k := 1) T.h_is_plug.fn sc_is_plug rfl fun cdv A outer s H E hr => ?_
  have tk : L2N.Takes (cxOf (L2N.CX P w) P w K mg base N_is_plug "is_plug" (defScope s_is_plug) T.a_is_plug cdv A outer s H E) (fun c d _ H' => E c d H') := L2N.takes_of rfl rfl rfl rfl
  exact (dss_cons (ds_if (dt_w (dw_or (dt_not (dt_val (de_isi T.b_isinstance T.b_tuple ask_tuple (de_var 0)))) (dw_or (dt_c (cmp_ne hr) (de_callB T.b_len call_len cop_len (da_val (de_var 0) da_nil)) de_int) (dw_or1 (dt_not (dt_val (de_callBL T.b_all (cr_all rfl) copL_all (dl_of (de_lc (own := [("one", 1)]) rfl sc_is_plug.nd (di_seq (de_slice (de_var 0) do_none (do_some de_int))) (blkOk_by (own := [("one", 1)]) (N := N_is_plug) (sc := defScope s_is_plug) (by decide +kernel)) (fun _ _ _ _ _ => (dg_name (i := 1) sc_is_plug.nd)) (fun _ _ _ _ _ => dts_nil) (fun _ _ _ _ _ => (de_call takes0 (hr.mono (by decide)) ⟨G_is_from, T.l_is_from, T.h_is_from.fn.kp, T.h_is_from.bd⟩ (da_val (de_var 1) (da_val de_int (da_val (de_globI T.g_MOST_SIDE) da_nil))))) (by decide)))))))))) (dss_one (ds_ret de_bl)) dss_nil)
      (dss_one (ds_ret (de_isi T.b_isinstance T.b_bool ask_bool (de_sub1 (de_var 0) de_int)))))
theorem ok_check_plugs {P : Program} {w : World} {K : PySem.W.Frag} {mg : MG} {base : Heap} (T : Env K mg) : FnOk P w K mg base (L2.CX P w) 3 T.a_check_plugs T.d_check_plugs ["value", "most"] (spP K mg Pk.F_check_plugs_2) := by
  have G_BadPlugs_d__init_d_ := ok_BadPlugs_d__init_d_ (P := P) (w := w) (base := base) T
  have G_is_plug := ok_is_plug (P := P) (w := w) (base := base) T
  refine fn_okP (k := 2) T.h_check_plugs.fn sc_check_plugs rfl fun cdv A outer s H E hr => ?_
  have tk : Takes (cxOf (L2.CX P w) P w K mg base N_check_plugs "check_plugs" (defScope s_check_plugs) T.a_check_plugs cdv A outer s H E) (fun c d _ H' => E c d H') := takes_of rfl rfl rfl rfl
  exact (dss_cons (ds_if (dt_w (dw_or (dt_not (dt_val (de_isi T.b_isinstance T.b_tuple ask_tuple (de_var 0)))) (dw_or1 (dt_not (dt_chain cmp_le cmp_le de_int (de_callB T.b_len call_len cop_len (da_val (de_var 0) da_nil)) (de_var 1)))))) (dss_one (ds_raiseI (fls := ["index"]) tk T.r_BadPlugs G_BadPlugs_d__init_d_ (hr.mono (by decide)) T.h_BadPlugs_d__init_d_.bd (da_val de_non da_nil))) dss_nil)
      (dss_one (ds_for (passes_of rfl) rfl (di_enum T.b_enumerate (de_var 0)) (dg_tup rfl (dgs_cons (dg_name (i := 2) sc_check_plugs.nd) (dgs_cons (dg_name (i := 3) sc_check_plugs.nd) dgs_nil)))
      (dss_one (ds_if (dt_not (dt_val (de_call tk (hr.mono (by decide)) ⟨G_is_plug, T.l_is_plug, T.h_is_plug.fn.kp, T.h_is_plug.bd⟩ (da_val (de_var 3) da_nil)))) (dss_one (ds_raiseI (fls := ["index"]) tk T.r_BadPlugs G_BadPlugs_d__init_d_ (hr.mono (by decide)) T.h_BadPlugs_d__init_d_.bd (da_val (de_var 2) da_nil))) dss_nil)))))
theorem okN_check_plugs {P : Program} {w : World} {K : PySem.W.Frag} {mg : MG} {base : Heap} (T : Env K mg) : FnOk P w K mg base (L2N.CX P w) 3 T.a_check_plugs T.d_check_plugs ["value", "most"] (spP K mg Pk.F_check_plugs_2) := by
  have G_BadPlugs_d__init_d_ := ok_BadPlugs_d__init_d_ (P := P) (w := w) (base := base) T
  have G_is_plug := ok_is_plug (P := P) (w := w) (base := base) T
  have GN_is_plug := okN_is_plug (P := P) (w := w) (base := base) T
  refine fn_okPN (k := 2) T.h_check_plugs.fn sc_check_plugs rfl fun cdv A outer s H E hr => ?_
  have tk : L2N.Takes (cxOf (L2N.CX P w) P w K mg base N_check_plugs "check_plugs" (defScope s_check_plugs) T.a_check_plugs cdv A outer s H E) (fun c d _ H' => E c d H') := L2N.takes_of rfl rfl rfl rfl
  exact (dss_cons (ds_if (dt_w (dw_or (dt_not (dt_val (de_isi T.b_isinstance T.b_tuple ask_tuple (de_var 0)))) (dw_or1 (dt_not (dt_chain cmp_le cmp_le de_int (de_callB T.b_len call_len cop_len (da_val (de_var 0) da_nil)) (de_var 1)))))) (dss_one (ds_raiseIN (fls := ["index"]) tk T.r_BadPlugs G_BadPlugs_d__init_d_ (hr.mono (by decide)) T.h_BadPlugs_d__init_d_.bd (da_val de_non da_nil))) dss_nil)
      (dss_one (ds_for (passes_of rfl) rfl (di_enum T.b_enumerate (de_var 0)) (dg_tup rfl (dgs_cons (dg_name (i := 2) sc_check_plugs.nd) (dgs_cons (dg_name (i := 3) sc_check_plugs.nd) dgs_nil)))
      (dss_one (ds_if (dt_not (dt_val (de_callN tk (hr.mono (by decide)) ⟨GN_is_plug, T.l_is_plug, T.h_is_plug.fn.kp, T.h_is_plug.bd⟩ (da_val (de_var 3) da_nil)))) (dss_one (ds_raiseIN (fls := ["index"]) tk T.r_BadPlugs G_BadPlugs_d__init_d_ (hr.mono (by decide)) T.h_BadPlugs_d__init_d_.bd (da_val (de_var 2) da_nil))) dss_nil)))))
theorem ok_check_lots {P : Program} {w : World} {K : PySem.W.Frag} {mg : MG} {base : Heap} (T : Env K mg) : FnOk P w K mg base (L2.CX P w) 4 T.a_check_lots T.d_check_lots ["value"] (spP K mg Pk.F_check_lots) := by
  have G_BadLots_d__init_d_ := ok_BadLots_d__init_d_ (P := P) (w := w) (base := base) T
  have G_check_plugs := ok_check_plugs (P := P) (w := w) (base := base) T
  have GN_check_plugs := okN_check_plugs (P := P) (w := w) (base := base) T
  have GH_BadLots_d__init_d_ := okH_BadLots_d__init_d_ (P := P) (w := w) (base := base) T
  refine fn_okP (k := 3) T.h_check_lots.fn sc_check_lots rfl fun cdv A outer s H E hr => ?_
  have tk : Takes (cxOf (L2.CX P w) P w K mg base N_check_lots "check_lots" (defScope s_check_lots) T.a_check_lots cdv A outer s H E) (fun c d _ H' => E c d H') := takes_of rfl rfl rfl rfl
  exact (dss_cons (ds_if (dt_w (dw_or (dt_not (dt_val (de_isi2 T.b_isinstance T.b_list T.b_tuple ask_list ask_tuple (de_var 0)))) (dw_or1 (dt_not (dt_chain cmp_le cmp_le de_int (de_callB T.b_len call_len cop_len (da_val (de_var 0) da_nil)) (de_globI T.g_MOST_FEW)))))) (dss_one (ds_raiseI (fls := ["index"]) tk T.r_BadLots G_BadLots_d__init_d_ (hr.mono (by decide)) T.h_BadLots_d__init_d_.bd (da_val de_non da_nil))) dss_nil)
      (dss_one (ds_for (passes_of rfl) rfl (di_enum T.b_enumerate (de_var 0)) (dg_tup rfl (dgs_cons (dg_name (i := 1) sc_check_lots.nd) (dgs_cons (dg_name (i := 2) sc_check_lots.nd) dgs_nil)))
      (dss_one (ds_tryR (nms := ["BadSockets", "BadMany", "BadWidth", "BadPlugs", "BadLots"]) tk (fun hd => L2H.passesAt_of rfl hd) T.x_BadPlugs.gl (catches_cons T.x_BadPlugs T.x_BadSockets T.s_BadSockets_BadPlugs (catches_cons T.x_BadPlugs T.x_BadMany T.s_BadMany_BadPlugs (catches_cons T.x_BadPlugs T.x_BadWidth T.s_BadWidth_BadPlugs (catches_cons T.x_BadPlugs T.x_BadPlugs T.s_BadPlugs_BadPlugs (catches_cons T.x_BadPlugs T.x_BadLots T.s_BadLots_BadPlugs catches_nil))))) (fun _ _ _ tk1 => (dss_one (ds_expr (de_callN tk1 (hr.mono (by decide)) ⟨GN_check_plugs, T.l_check_plugs, T.h_check_plugs.fn.kp, T.h_check_plugs.bd⟩ (da_val (de_var 2) (da_val (de_globI T.g_MOST_FEW) da_nil))))))
      (fun _ _ _ tkh hot => (dss_one (ds_raiseIH (fls := ["index"]) tkh hot T.r_BadLots GH_BadLots_d__init_d_ (L2H.roomH_mark (hr.mono (by decide)) _) T.h_BadLots_d__init_d_.bd (da_val (de_var 1) da_nil)))))))))
theorem ok_rows_of {P : Program} {w : World} {K : PySem.W.Frag} {mg : MG} {base : Heap} (T : Env K mg) : FnOk P w K mg base (L2.CX P w) 1 T.a_rows_of T.d_rows_of ["sockets", "width"] (spP K mg Pk.F_rows_of) := by
  refine fn_okP (k := 0) T.h_rows_of.fn sc_rows_of rfl fun cdv A outer s H E hr => ?_
  have tk : Takes (cxOf (L2.CX P w) P w K mg base N_rows_of "rows_of" (defScope s_rows_of) T.a_rows_of cdv A outer s H E) (fun c d _ H' => E c d H') := takes_of rfl rfl rfl rfl
  exact (dss_cons (ds_set (i := 2) sc_rows_of.nd (de_lst (da_val (de_tup (da_val de_int da_nil)) da_nil)))
      (dss_cons (ds_for (passes_of rfl) rfl (di_range1 T.b_range (de_sub (de_var 0) de_int)) (dg_name (i := 3) sc_rows_of.nd)
      (dss_one (ds_setLc2 (i := 2) (own := [("row", 4), ("place", 5)]) (vs1 := [5]) rfl sc_rows_of.nd (sw_true rfl rfl rfl (by decide +kernel)) (di_seq (de_var 2)) (blkOk_by (own := [("row", 4), ("place", 5)]) (N := N_rows_of) (sc := defScope s_rows_of) (by decide +kernel)) (by decide) (fun _ _ _ _ _ => (dg_name (i := 4) sc_rows_of.nd)) (fun _ _ _ _ _ => dts_nil) (fun _ _ _ _ _ => (di_range2 T.b_range (de_add (de_sub1 (de_var 4) (de_neg de_int)) de_int) (de_add (de_var 1) de_int))) (fun _ _ _ _ _ => (dg_name (i := 5) sc_rows_of.nd)) (fun _ _ _ _ _ => dts_nil) (fun _ _ _ _ _ => (de_tup (da_star (de_var 4) (da_val (de_var 5) da_nil)))) (by decide) (by decide))))
      (dss_one (ds_ret (de_var 2)))))
theorem ok_can_turn {P : Program} {w : World} {K : PySem.W.Frag} {mg : MG} {base : Heap} (T : Env K mg) : FnOk P w K mg base (L2.CX P w) 1 T.a_can_turn T.d_can_turn ["plug"] (spP K mg Pk.F_can_turn) := by
  refine fn_okP (k := 0) T.h_can_turn.fn sc_can_turn rfl fun cdv A outer s H E hr => ?_
  have tk : Takes (cxOf (L2.CX P w) P w K mg base N_can_turn "can_turn" (defScope s_can_turn) T.a_can_turn cdv A outer s H E) (fun c d _ H' => E c d H') := takes_of rfl rfl rfl rfl
  exact (dss_one (ds_ret (de_and (de_sub1 (de_var 0) de_int) (de_one (de_c (cmp_ne hr) (de_sub1 (de_var 0) de_int) (de_sub1 (de_var 0) de_int))))))
theorem ok_stands_of {P : Program} {w : World} {K : PySem.W.Frag} {mg : MG} {base : Heap} (T : Env K mg) : FnOk P w K mg base (L2.CX P w) 2 T.a_stands_of T.d_stands_of ["plug"] (spP K mg Pk.F_stands_of) := by
  have G_can_turn := ok_can_turn (P := P) (w := w) (base := base) T
  refine fn_okP (k := 1) T.h_stands_of.fn sc_stands_of rfl fun cdv A outer s H E hr => ?_
  have tk : Takes (cxOf (L2.CX P w) P w K mg base N_stands_of "stands_of" (defScope s_stands_of) T.a_stands_of cdv A outer s H E) (fun c d _ H' => E c d H') := takes_of rfl rfl rfl rfl
  exact (dss_one (ds_ret (de_if (dt_val (de_call tk (hr.mono (by decide)) ⟨G_can_turn, T.l_can_turn, T.h_can_turn.fn.kp, T.h_can_turn.bd⟩ (da_val (de_var 0) da_nil))) (de_lst (da_val de_bl (da_val de_bl da_nil))) (de_lst (da_val de_bl da_nil)))))
theorem ok_sides {P : Program} {w : World} {K : PySem.W.Frag} {mg : MG} {base : Heap} (T : Env K mg) : FnOk P w K mg base (L2.CX P w) 1 T.a_sides T.d_sides ["plug", "turned"] (spP K mg Pk.F_sides) := by
  refine fn_okP (k := 0) T.h_sides.fn sc_sides rfl fun cdv A outer s H E hr => ?_
  have tk : Takes (cxOf (L2.CX P w) P w K mg base N_sides "sides" (defScope s_sides) T.a_sides cdv A outer s H E) (fun c d _ H' => E c d H') := takes_of rfl rfl rfl rfl
  exact (dss_one (ds_ret (de_if (dt_val (de_var 1)) (de_tup (da_val (de_sub1 (de_var 0) de_int) (da_val (de_sub1 (de_var 0) de_int) da_nil))) (de_slice (de_var 0) do_none (do_some de_int)))))
theorem ok_body {P : Program} {w : World} {K : PySem.W.Frag} {mg : MG} {base : Heap} (T : Env K mg) : FnOk P w K mg base (L2.CX P w) 2 T.a_body T.d_body ["strip", "plug", "place"] (spP K mg Pk.F_body) := by
  have G_sides := ok_sides (P := P) (w := w) (base := base) T
  refine fn_okP (k := 1) T.h_body.fn sc_body rfl fun cdv A outer s H E hr => ?_
  have tk : Takes (cxOf (L2.CX P w) P w K mg base N_body "body" (defScope s_body) T.a_body cdv A outer s H E) (fun c d _ H' => E c d H') := takes_of rfl rfl rfl rfl
  exact (dss_cons (ds_asg (de_call tk (hr.mono (by decide)) ⟨G_sides, T.l_sides, T.h_sides.fn.kp, T.h_sides.bd⟩ (da_val (de_var 1) (da_val (de_sub1 (de_var 2) de_int) da_nil))) (dg_tup rfl (dgs_cons (dg_name (i := 3) sc_body.nd) (dgs_cons (dg_name (i := 4) sc_body.nd) dgs_nil))))
      (dss_one (ds_ret (de_tup (da_val (de_sub (de_sub1 (de_fld T.k_Strip T.n_Strip_rows (de_var 0)) (de_sub1 (de_var 2) de_int)) (de_var 3)) (da_val (de_add (de_sub1 (de_fld T.k_Strip T.n_Strip_rows (de_var 0)) (de_sub1 (de_var 2) de_int)) (de_var 4)) da_nil))))))
theorem ok_layers_of {P : Program} {w : World} {K : PySem.W.Frag} {mg : MG} {base : Heap} (T : Env K mg) : FnOk P w K mg base (L2.CX P w) 3 T.a_layers_of T.d_layers_of ["strip", "plugs", "wanted", "fixed"] (spP K mg Pk.F_layers_of) := by
  have G_body := ok_body (P := P) (w := w) (base := base) T
  have G_stands_of := ok_stands_of (P := P) (w := w) (base := base) T
  refine fn_okP (k := 2) T.h_layers_of.fn sc_layers_of rfl fun cdv A outer s H E hr => ?_
  have tk : Takes (cxOf (L2.CX P w) P w K mg base N_layers_of "layers_of" (defScope s_layers_of) T.a_layers_of cdv A outer s H E) (fun c d _ H' => E c d H') := takes_of rfl rfl rfl rfl
  exact (dss_cons (ds_set (i := 4) sc_layers_of.nd (de_ndisp (hr.mono (Nat.zero_le _)) (de_tup (da_val (de_tup da_nil) (da_val (de_globI T.g_FAR) da_nil))) de_int))
      (dss_cons (ds_for (passes_of rfl) rfl (di_range1 T.b_range (de_callB T.b_len call_len cop_len (da_val (de_fld T.k_Strip T.n_Strip_rows (de_var 0)) da_nil))) (dg_name (i := 5) sc_layers_of.nd)
      (dss_cons (ds_setS (i := 6) sc_layers_of.nd (dv_copyN (hr.mono (Nat.zero_le _)) T.b_dict (de_var 4)))
      (dss_cons (ds_for (passes_of rfl) rfl (di_nitems (de_var 4)) (dg_tup rfl (dgs_cons (dg_tup rfl (dgs_cons (dg_name (i := 9) sc_layers_of.nd) (dgs_cons (dg_name (i := 10) sc_layers_of.nd) dgs_nil))) (dgs_cons (dg_name (i := 7) sc_layers_of.nd) dgs_nil)))
      (dss_one (ds_for (passes_of rfl) rfl (di_seq (de_var 2)) (dg_name (i := 8) sc_layers_of.nd)
      (dss_one (ds_if (dt_c cmp_notIn (de_var 8) (de_var 9)) (dss_one (ds_for (passes_of rfl) rfl (di_seq (de_call tk (hr.mono (by decide)) ⟨G_stands_of, T.l_stands_of, T.h_stands_of.fn.kp, T.h_stands_of.bd⟩ (da_val (de_sub1 (de_var 1) (de_var 8)) da_nil))) (dg_name (i := 11) sc_layers_of.nd)
      (dss_cons (ds_asg (de_call tk (hr.mono (by decide)) ⟨G_body, T.l_body, T.h_body.fn.kp, T.h_body.bd⟩ (da_val (de_var 0) (da_val (de_sub1 (de_var 1) (de_var 8)) (da_val (de_tup (da_val (de_var 5) (da_val (de_var 11) da_nil))) da_nil)))) (dg_tup rfl (dgs_cons (dg_name (i := 12) sc_layers_of.nd) (dgs_cons (dg_name (i := 13) sc_layers_of.nd) dgs_nil))))
      (dss_one (ds_if (dt_w (dw_and (dt_c cmp_ge (de_var 12) (de_var 10)) (dw_and1 (dt_c (cmp_eq hr) (de_kget (hr.mono (Nat.zero_le _)) (de_var 3) (de_var 8) (de_tup (da_val (de_var 5) (da_val (de_var 11) da_nil)))) (de_tup (da_val (de_var 5) (da_val (de_var 11) da_nil))))))) (dss_cons (ds_set (i := 14) sc_layers_of.nd (de_tup (da_val (de_callTy T.b_tuple call_tuple_of cop_tuple (da_val (de_callBL T.b_sorted (call_sortD (u100 hr)) copL_sort (dl_of (de_lst (da_star (de_var 9) (da_val (de_var 8) da_nil))))) da_nil)) (da_val (de_var 13) da_nil))))
      (dss_one (ds_nput 6 (hr.mono (Nat.zero_le _)) (de_var 14) (de_add (de_ngetO 6 (hr.mono (Nat.zero_le _)) (de_var 14) de_int) (de_var 7))))) dss_nil))))) dss_nil)))))
      (dss_one (ds_gf 6 (ds_set (i := 4) sc_layers_of.nd (de_var 6)))))))
      (dss_one (ds_ret (de_var 4)))))
theorem ok_count_of {P : Program} {w : World} {K : PySem.W.Frag} {mg : MG} {base : Heap} (T : Env K mg) : FnOk P w K mg base (L2.CX P w) 4 T.a_count_of T.d_count_of ["strip", "plugs", "wanted", "fixed"] (spP K mg Pk.F_count_of) := by
  have G_layers_of := ok_layers_of (P := P) (w := w) (base := base) T
  refine fn_okP (k := 3) T.h_count_of.fn sc_count_of rfl fun cdv A outer s H E hr => ?_
  have tk : Takes (cxOf (L2.CX P w) P w K mg base N_count_of "count_of" (defScope s_count_of) T.a_count_of cdv A outer s H E) (fun c d _ H' => E c d H') := takes_of rfl rfl rfl rfl
  exact (dss_cons (ds_set (i := 4) sc_count_of.nd (de_call tk (hr.mono (by decide)) ⟨G_layers_of, T.l_layers_of, T.h_layers_of.fn.kp, T.h_layers_of.bd⟩ (da_val (de_var 0) (da_val (de_var 1) (da_val (de_var 2) (da_val (de_var 3) da_nil))))))
      (dss_one (ds_ret (de_callBL T.b_sum (cr_sum rfl) copL_sum (dl_of (de_lc (own := [("many", 5), ("here", 6), ("end", 7)]) rfl sc_count_of.nd (di_nitems (de_var 4)) (blkOk_by (own := [("many", 5), ("here", 6), ("end", 7)]) (N := N_count_of) (sc := defScope s_count_of) (by decide +kernel)) (fun _ _ _ _ _ => (dg_tup rfl (dgs_cons (dg_tup rfl (dgs_cons (dg_name (i := 6) sc_count_of.nd) (dgs_cons (dg_name (i := 7) sc_count_of.nd) dgs_nil))) (dgs_cons (dg_name (i := 5) sc_count_of.nd) dgs_nil)))) (fun _ _ _ _ _ => (dts_one (dt_c (cmp_eq hr) (de_var 6) (de_var 2)))) (fun _ _ _ _ _ => (de_var 5)) (by decide)))))))
theorem ok_everyone {P : Program} {w : World} {K : PySem.W.Frag} {mg : MG} {base : Heap} (T : Env K mg) : FnOk P w K mg base (L2.CX P w) 1 T.a_everyone T.d_everyone ["plugs"] (spP K mg Pk.F_everyone) := by
  refine fn_okP (k := 0) T.h_everyone.fn sc_everyone rfl fun cdv A outer s H E hr => ?_
  have tk : Takes (cxOf (L2.CX P w) P w K mg base N_everyone "everyone" (defScope s_everyone) T.a_everyone cdv A outer s H E) (fun c d _ H' => E c d H') := takes_of rfl rfl rfl rfl
  exact (dss_one (ds_ret (de_tupRg1 T.b_tuple T.b_range (de_callB T.b_len call_len cop_len (da_val (de_var 0) da_nil)))))
theorem ok_can_all {P : Program} {w : World} {K : PySem.W.Frag} {mg : MG} {base : Heap} (T : Env K mg) : FnOk P w K mg base (L2.CX P w) 5 T.a_can_all T.d_can_all ["strip", "plugs"] (spP K mg Pk.F_can_all) := by
  have G_count_of := ok_count_of (P := P) (w := w) (base := base) T
  have G_everyone := ok_everyone (P := P) (w := w) (base := base) T
  refine fn_okP (k := 4) T.h_can_all.fn sc_can_all rfl fun cdv A outer s H E hr => ?_
  have tk : Takes (cxOf (L2.CX P w) P w K mg base N_can_all "can_all" (defScope s_can_all) T.a_can_all cdv A outer s H E) (fun c d _ H' => E c d H') := takes_of rfl rfl rfl rfl
  exact (dss_one (ds_ret (de_c cmp_gt (de_call tk (hr.mono (by decide)) ⟨G_count_of, T.l_count_of, T.h_count_of.fn.kp, T.h_count_of.bd⟩ (da_val (de_var 0) (da_val (de_var 1) (da_val (de_call tk (hr.mono (by decide)) ⟨G_everyone, T.l_everyone, T.h_everyone.fn.kp, T.h_everyone.bd⟩ (da_val (de_var 1) da_nil)) (da_val de_emptyK da_nil))))) de_int)))
theorem ok_Strip_d__init_d_ {P : Program} {w : World} {K : PySem.W.Frag} {mg : MG} {base : Heap} (T : Env K mg) : FnOk P w K mg base (L2.CX P w) 2 T.a_Strip_d__init_d_ T.d_Strip_d__init_d_ ["self", "sockets"] (spE K mg Pk.F_Strip_d__init_d__2) := by
  have G_is_from := ok_is_from (P := P) (w := w) (base := base) T
  refine fn_okE (k := 1) T.h_Strip_d__init_d_.fn sc_Strip_d__init_d_ rfl fun cdv A outer s H E hr => ?_
  have tk : Takes (cxOf (L2.CX P w) P w K mg base N_Strip_d__init_d_ "Strip.__init__" (defScope s_Strip_d__init_d_) T.a_Strip_d__init_d_ cdv A outer s H E) (fun c d _ H' => E c d H') := takes_of rfl rfl rfl rfl
  exact (dss_cons (ds_if (dt_w (dw_or (dt_not (dt_val (de_isi T.b_isinstance T.b_tuple ask_tuple (de_var 1)))) (dw_or1 (dt_not (dt_chain cmp_le cmp_le de_int (de_callB T.b_len call_len cop_len (da_val (de_var 1) da_nil)) (de_globI T.g_MOST_SOCKETS)))))) (dss_one (ds_raise tk T.r_BadSockets)) dss_nil)
      (dss_cons (ds_if (dt_not (dt_val (de_callBL T.b_all (cr_all rfl) copL_all (dl_of (de_lc (own := [("one", 2)]) rfl sc_Strip_d__init_d_.nd (di_seq (de_var 1)) (blkOk_by (own := [("one", 2)]) (N := N_Strip_d__init_d_) (sc := defScope s_Strip_d__init_d_) (by decide +kernel)) (fun _ _ _ _ _ => (dg_name (i := 2) sc_Strip_d__init_d_.nd)) (fun _ _ _ _ _ => dts_nil) (fun _ _ _ _ _ => (de_call takes0 (hr.mono (by decide)) ⟨G_is_from, T.l_is_from, T.h_is_from.fn.kp, T.h_is_from.bd⟩ (da_val (de_var 2) (da_val de_int (da_val (de_globI T.g_MOST_AT) da_nil))))) (by decide)))))) (dss_one (ds_raise tk T.r_BadSockets)) dss_nil)
      (dss_cons (ds_if (dt_not (dt_val (de_callBL T.b_all (cr_all rfl) copL_all (dl_of (de_lc (own := [("one", 2), ("other", 3)]) rfl sc_Strip_d__init_d_.nd (di_zip T.b_zip (de_var 1) (de_slice (de_var 1) (do_some de_int) do_none)) (blkOk_by (own := [("one", 2), ("other", 3)]) (N := N_Strip_d__init_d_) (sc := defScope s_Strip_d__init_d_) (by decide +kernel)) (fun _ _ _ _ _ => (dg_tup rfl (dgs_cons (dg_name (i := 2) sc_Strip_d__init_d_.nd) (dgs_cons (dg_name (i := 3) sc_Strip_d__init_d_.nd) dgs_nil)))) (fun _ _ _ _ _ => dts_nil) (fun _ _ _ _ _ => (de_c cmp_lt (de_var 2) (de_var 3))) (by decide)))))) (dss_one (ds_raise tk T.r_BadSockets)) dss_nil)
      (dss_one (ds_fldO 0 T.k_Strip T.n_Strip_rows (de_var 1))))))
theorem ok_common_strip {P : Program} {w : World} {K : PySem.W.Frag} {mg : MG} {base : Heap} (T : Env K mg) : FnOk P w K mg base (L2.CX P w) 6 T.a_common_strip T.d_common_strip ["lots", "sockets", "width"] (spP K mg Pk.F_common_strip) := by
  have G_Strip_d__init_d_ := ok_Strip_d__init_d_ (P := P) (w := w) (base := base) T
  have G_can_all := ok_can_all (P := P) (w := w) (base := base) T
  have G_check_lots := ok_check_lots (P := P) (w := w) (base := base) T
  have G_is_from := ok_is_from (P := P) (w := w) (base := base) T
  have G_rows_of := ok_rows_of (P := P) (w := w) (base := base) T
  refine fn_okP (k := 5) T.h_common_strip.fn sc_common_strip rfl fun cdv A outer s H E hr => ?_
  have tk : Takes (cxOf (L2.CX P w) P w K mg base N_common_strip "common_strip" (defScope s_common_strip) T.a_common_strip cdv A outer s H E) (fun c d _ H' => E c d H') := takes_of rfl rfl rfl rfl
  exact (dss_cons (ds_expr (de_call tk (hr.mono (by decide)) ⟨G_check_lots, T.l_check_lots, T.h_check_lots.fn.kp, T.h_check_lots.bd⟩ (da_val (de_var 0) da_nil)))
      (dss_cons (ds_if (dt_not (dt_val (de_call tk (hr.mono (by decide)) ⟨G_is_from, T.l_is_from, T.h_is_from.fn.kp, T.h_is_from.bd⟩ (da_val (de_var 1) (da_val de_int (da_val (de_globI T.g_MOST_SMALL) da_nil)))))) (dss_one (ds_raise tk T.r_BadMany)) dss_nil)
      (dss_cons (ds_if (dt_not (dt_val (de_call tk (hr.mono (by decide)) ⟨G_is_from, T.l_is_from, T.h_is_from.fn.kp, T.h_is_from.bd⟩ (da_val (de_var 2) (da_val de_int (da_val (de_globI T.g_MOST_WIDTH) da_nil)))))) (dss_one (ds_raise tk T.r_BadWidth)) dss_nil)
      (dss_cons (ds_for (passes_of rfl) rfl (di_seq (de_call tk (hr.mono (by decide)) ⟨G_rows_of, T.l_rows_of, T.h_rows_of.fn.kp, T.h_rows_of.bd⟩ (da_val (de_var 1) (da_val (de_var 2) da_nil)))) (dg_name (i := 3) sc_common_strip.nd)
      (dss_one (ds_if (dt_val (de_callBL T.b_all (cr_all rfl) copL_all (dl_of (de_lc (own := [("plugs", 4)]) rfl sc_common_strip.nd (di_seq (de_var 0)) (blkOk_by (own := [("plugs", 4)]) (N := N_common_strip) (sc := defScope s_common_strip) (by decide +kernel)) (fun _ _ _ _ _ => (dg_name (i := 4) sc_common_strip.nd)) (fun _ _ _ _ _ => dts_nil) (fun _ _ _ _ _ => (de_call takes0 (hr.mono (by decide)) ⟨G_can_all, T.l_can_all, T.h_can_all.fn.kp, T.h_can_all.bd⟩ (da_val (de_make takes0 (hr.mono (by decide)) T.m_Strip G_Strip_d__init_d_ T.k_Strip.gl T.h_Strip_d__init_d_.bd (da_val (de_var 3) da_nil)) (da_val (de_var 4) da_nil)))) (by decide))))) (dss_one (ds_ret (de_var 3))) dss_nil)))
      (dss_one (ds_ret de_non))))))
theorem ok__law_odd_plug {P : Program} {w : World} {K : PySem.W.Frag} {mg : MG} {base : Heap} (T : Env K mg) : FnOk P w K mg base (L2.CX P w) 2 T.a__law_odd_plug T.d__law_odd_plug ["_law_row"] (spE K mg Pk.F__law_odd_plug) := by
  have G__law_pick := ok__law_pick (P := P) (w := w) (base := base) T
  refine fn_okE (k := 1) T.h__law_odd_plug.fn sc__law_odd_plug rfl fun cdv A outer s H E hr => ?_
  have tk : Takes (cxOf (L2.CX P w) P w K mg base N__law_odd_plug "_law_odd_plug" (defScope s__law_odd_plug) T.a__law_odd_plug cdv A outer s H E) (fun c d _ H' => E c d H') := takes_of rfl rfl rfl rfl
  exact (dss_cons (ds_set (i := 1) sc__law_odd_plug.nd (de_lst (da_val de_non (da_val (de_tup (da_val de_int (da_val de_int da_nil))) (da_val (de_lst (da_val de_int (da_val de_int (da_val de_bl da_nil)))) (da_val (de_tup (da_val de_int (da_val de_int (da_val de_int da_nil)))) (da_val (de_tup (da_val de_int (da_val de_int (da_val de_bl da_nil)))) (da_val (de_tup (da_val de_int (da_val (de_neg de_int) (da_val de_bl da_nil)))) (da_val (de_tup (da_val de_bl (da_val de_int (da_val de_bl da_nil)))) (da_val (de_tup (da_val de_int (da_val de_int (da_val de_non da_nil)))) (da_val de_str da_nil)))))))))))
      (dss_one (ds_ret (de_sub1 (de_var 1) (de_val (dv_callE tk (hr.mono (by decide)) ⟨G__law_pick, T.l__law_pick, T.h__law_pick.fn.kp, T.h__law_pick.bd⟩ (da_cons (dv_var 0) (da_val de_int da_nil))))))))
theorem ok__law_wrong {P : Program} {w : World} {K : PySem.W.Frag} {mg : MG} {base : Heap} (T : Env K mg) : FnOk P w K mg base (L2.CX P w) 7 T.a__law_wrong T.d__law_wrong ["_law_lots", "_law_sockets", "_law_width"] (spP K mg Pk.F__law_wrong_5) := by
  have G_common_strip := ok_common_strip (P := P) (w := w) (base := base) T
  refine fn_okP (k := 6) T.h__law_wrong.fn sc__law_wrong rfl fun cdv A outer s H E hr => ?_
  have tk : Takes (cxOf (L2.CX P w) P w K mg base N__law_wrong "_law_wrong" (defScope s__law_wrong) T.a__law_wrong cdv A outer s H E) (fun c d _ H' => E c d H') := takes_of rfl rfl rfl rfl
  exact (dss_cons (ds_set (i := 3) sc__law_wrong.nd de_non)
      (dss_cons (ds_try (nms := ["BadSockets", "BadMany", "BadWidth", "BadPlugs", "BadLots"]) (i := 4) (hN := sc__law_wrong.nd) tk (hb := fun _ _ _ tk1 hp1 => (dss_one (ds_set (i := 3) sc__law_wrong.nd (de_call tk1 (hr.mono (by decide)) ⟨G_common_strip, T.l_common_strip, T.h_common_strip.fn.kp, T.h_common_strip.bd⟩ (da_val (de_var 0) (da_val (de_var 1) (da_val (de_var 2) da_nil)))))))
      (hh := (.cons rfl (by decide) T.x_BadLots.gl (catches_cons T.x_BadLots T.x_BadSockets T.s_BadSockets_BadLots (catches_cons T.x_BadLots T.x_BadMany T.s_BadMany_BadLots (catches_cons T.x_BadLots T.x_BadWidth T.s_BadWidth_BadLots (catches_cons T.x_BadLots T.x_BadPlugs T.s_BadPlugs_BadLots (catches_cons T.x_BadLots T.x_BadLots T.s_BadLots_BadLots catches_nil))))) (su_set (j := 3) (dx_if (dx_isi T.b_isinstance T.x_StripError.gl (isx_cons T.x_StripError T.x_BadSockets T.s_BadSockets_StripError (isx_cons T.x_StripError T.x_BadMany T.s_BadMany_StripError (isx_cons T.x_StripError T.x_BadWidth T.s_BadWidth_StripError (isx_cons T.x_StripError T.x_BadPlugs T.s_BadPlugs_StripError (isx_cons T.x_StripError T.x_BadLots T.s_BadLots_StripError isx_nil)))))) (dx_lst (dxa_cons (dx_of fun _ _ _ => de_str) (dxa_cons (dx_fld T.f_BadLots_index) dxa_nil))) (dx_of fun _ _ _ => de_str)) sc__law_wrong.nd) (.cons rfl (by decide) T.x_BadMany.gl (catches_cons T.x_BadMany T.x_BadSockets T.s_BadSockets_BadMany (catches_cons T.x_BadMany T.x_BadMany T.s_BadMany_BadMany (catches_cons T.x_BadMany T.x_BadWidth T.s_BadWidth_BadMany (catches_cons T.x_BadMany T.x_BadPlugs T.s_BadPlugs_BadMany (catches_cons T.x_BadMany T.x_BadLots T.s_BadLots_BadMany catches_nil))))) (su_set (j := 3) (dx_if (dx_isi T.b_isinstance T.x_StripError.gl (isx_cons T.x_StripError T.x_BadSockets T.s_BadSockets_StripError (isx_cons T.x_StripError T.x_BadMany T.s_BadMany_StripError (isx_cons T.x_StripError T.x_BadWidth T.s_BadWidth_StripError (isx_cons T.x_StripError T.x_BadPlugs T.s_BadPlugs_StripError (isx_cons T.x_StripError T.x_BadLots T.s_BadLots_StripError isx_nil)))))) (dx_of fun _ _ _ => de_str) (dx_of fun _ _ _ => de_str)) sc__law_wrong.nd) (.cons rfl (by decide) T.x_BadWidth.gl (catches_cons T.x_BadWidth T.x_BadSockets T.s_BadSockets_BadWidth (catches_cons T.x_BadWidth T.x_BadMany T.s_BadMany_BadWidth (catches_cons T.x_BadWidth T.x_BadWidth T.s_BadWidth_BadWidth (catches_cons T.x_BadWidth T.x_BadPlugs T.s_BadPlugs_BadWidth (catches_cons T.x_BadWidth T.x_BadLots T.s_BadLots_BadWidth catches_nil))))) (su_set (j := 3) (dx_if (dx_isi T.b_isinstance T.x_StripError.gl (isx_cons T.x_StripError T.x_BadSockets T.s_BadSockets_StripError (isx_cons T.x_StripError T.x_BadMany T.s_BadMany_StripError (isx_cons T.x_StripError T.x_BadWidth T.s_BadWidth_StripError (isx_cons T.x_StripError T.x_BadPlugs T.s_BadPlugs_StripError (isx_cons T.x_StripError T.x_BadLots T.s_BadLots_StripError isx_nil)))))) (dx_of fun _ _ _ => de_str) (dx_of fun _ _ _ => de_str)) sc__law_wrong.nd) .nil)))))
      (dss_one (ds_ret (de_var 3)))))
theorem ok_law {P : Program} {w : World} {K : PySem.W.Frag} {mg : MG} {base : Heap} (T : Env K mg) : FnOk P w K mg base (L2.CX P w) 8 T.a_law T.d_law ["_law_script"] (spP K mg Pk.F_law_19) := by
  have G__law_draws := ok__law_draws (P := P) (w := w) (base := base) T
  have G__law_odd_plug := ok__law_odd_plug (P := P) (w := w) (base := base) T
  have G__law_pick := ok__law_pick (P := P) (w := w) (base := base) T
  have G__law_small := ok__law_small (P := P) (w := w) (base := base) T
  have G__law_stand := ok__law_stand (P := P) (w := w) (base := base) T
  have G__law_wrong := ok__law_wrong (P := P) (w := w) (base := base) T
  have G_common_strip := ok_common_strip (P := P) (w := w) (base := base) T
  refine fn_okP (k := 7) T.h_law.fn sc_law rfl fun cdv A outer s H E hr => ?_
  have tk : Takes (cxOf (L2.CX P w) P w K mg base N_law "law" (defScope s_law) T.a_law cdv A outer s H E) (fun c d _ H' => E c d H') := takes_of rfl rfl rfl rfl
  exact (dss_cons (ds_setS (i := 1) sc_law.nd (dv_callE tk (hr.mono (by decide)) ⟨G__law_draws, T.l__law_draws, T.h__law_draws.fn.kp, T.h__law_draws.bd⟩ (da_val (de_var 0) da_nil)))
      (dss_cons (ds_setLc (i := 2) (own := [("_law_k", 14)]) rfl sc_law.nd (sw_true rfl rfl rfl (by decide +kernel)) (di_range1 T.b_range (de_add de_int (de_val (dv_callE tk (hr.mono (by decide)) ⟨G__law_pick, T.l__law_pick, T.h__law_pick.fn.kp, T.h__law_pick.bd⟩ (da_cons (dv_var 1) (da_val de_int da_nil)))))) (blkOk_by (own := [("_law_k", 14)]) (N := N_law) (sc := defScope s_law) (by decide +kernel)) (fun _ _ _ _ _ => (dg_name (i := 14) sc_law.nd)) (fun _ _ _ _ _ => dts_nil) (fun _ _ _ _ _ => (de_val (dv_callE takes0 (hr.mono (by decide)) ⟨G__law_small, T.l__law_small, T.h__law_small.fn.kp, T.h__law_small.bd⟩ (da_cons (dv_var 1) (da_val de_int da_nil))))) (by decide))
      (dss_cons (ds_par3 (i := 10) (j := 11) (l := 6) rfl sc_law.nd (by decide) (da_val (de_add de_int (de_val (dv_callE tk (hr.mono (by decide)) ⟨G__law_pick, T.l__law_pick, T.h__law_pick.fn.kp, T.h__law_pick.bd⟩ (da_cons (dv_var 1) (da_val de_int da_nil))))) (da_val (de_val (dv_callE tk (hr.mono (by decide)) ⟨G__law_pick, T.l__law_pick, T.h__law_pick.fn.kp, T.h__law_pick.bd⟩ (da_cons (dv_var 1) (da_val de_int da_nil)))) (da_val (de_lst (da_val (de_tup (da_val de_int da_nil)) da_nil)) da_nil))) (by rfl))
      (dss_cons (ds_for (passes_of rfl) rfl (di_range1 T.b_range (de_sub (de_var 10) de_int)) (dg_name (i := 3) sc_law.nd)
      (dss_cons (ds_set (i := 12) sc_law.nd (de_lst da_nil))
      (dss_cons (ds_for (passes_of rfl) rfl (di_seq (de_var 6)) (dg_name (i := 5) sc_law.nd)
      (dss_one (ds_set (i := 12) sc_law.nd (de_add (de_var 12) (de_lc (own := [("_law_spot", 8)]) rfl sc_law.nd (di_range2 T.b_range (de_add (de_sub1 (de_var 5) (de_neg de_int)) de_int) (de_add (de_var 11) de_int)) (blkOk_by (own := [("_law_spot", 8)]) (N := N_law) (sc := defScope s_law) (by decide +kernel)) (fun _ _ _ _ _ => (dg_name (i := 8) sc_law.nd)) (fun _ _ _ _ _ => dts_nil) (fun _ _ _ _ _ => (de_add (de_var 5) (de_tup (da_val (de_var 8) da_nil)))) (by decide))))))
      (dss_one (ds_set (i := 6) sc_law.nd (de_var 12))))))
      (dss_cons (ds_set (i := 4) sc_law.nd de_non)
      (dss_cons (ds_for (passes_of rfl) rfl (di_seq (de_var 6)) (dg_name (i := 5) sc_law.nd)
      (dss_one (ds_if (dt_w (dw_and (dt_c cmp_isN (de_var 4) de_non) (dw_and1 (dt_val (de_call tk (hr.mono (by decide)) ⟨G__law_stand, T.l__law_stand, T.h__law_stand.fn.kp, T.h__law_stand.bd⟩ (da_val (de_var 5) (da_val (de_var 2) da_nil))))))) (dss_one (ds_set (i := 4) sc_law.nd (de_var 5))) dss_nil)))
      (dss_cons (ds_if (dt_w (dw_or (dt_c (cmp_ne hr) (de_call tk (hr.mono (by decide)) ⟨G_common_strip, T.l_common_strip, T.h_common_strip.fn.kp, T.h_common_strip.bd⟩ (da_val (de_var 2) (da_val (de_var 10) (da_val (de_var 11) da_nil)))) (de_var 4)) (dw_or1 (dt_c (cmp_ne hr) (de_call tk (hr.mono (by decide)) ⟨G_common_strip, T.l_common_strip, T.h_common_strip.fn.kp, T.h_common_strip.bd⟩ (da_val (de_callTy T.b_tuple call_tuple_of cop_tuple (da_val (de_var 2) da_nil)) (da_val (de_var 10) (da_val (de_var 11) da_nil)))) (de_var 4))))) (dss_one (ds_ret de_bl)) dss_nil)
      (dss_cons (ds_setLc (i := 2) (own := [("_law_k", 14)]) rfl sc_law.nd (sw_true rfl rfl rfl (by decide +kernel)) (di_range1 T.b_range (de_add de_int (de_val (dv_callE tk (hr.mono (by decide)) ⟨G__law_pick, T.l__law_pick, T.h__law_pick.fn.kp, T.h__law_pick.bd⟩ (da_cons (dv_var 1) (da_val de_int da_nil)))))) (blkOk_by (own := [("_law_k", 14)]) (N := N_law) (sc := defScope s_law) (by decide +kernel)) (fun _ _ _ _ _ => (dg_name (i := 14) sc_law.nd)) (fun _ _ _ _ _ => dts_nil) (fun _ _ _ _ _ => (de_val (dv_callE takes0 (hr.mono (by decide)) ⟨G__law_small, T.l__law_small, T.h__law_small.fn.kp, T.h__law_small.bd⟩ (da_cons (dv_var 1) (da_val de_int da_nil))))) (by decide))
      (dss_cons (ds_set (i := 7) sc_law.nd (de_call tk (hr.mono (by decide)) ⟨G_common_strip, T.l_common_strip, T.h_common_strip.fn.kp, T.h_common_strip.bd⟩ (da_val (de_var 2) (da_val de_int (da_val de_int da_nil)))))
      (dss_cons (ds_if (dt_c cmp_notN (de_var 7) de_non) (dss_one (ds_if (dt_w (dw_or (dt_c (cmp_ne hr) (de_callB T.b_len call_len cop_len (da_val (de_var 7) da_nil)) de_int) (dw_or (dt_c (cmp_ne hr) (de_sub1 (de_var 7) de_int) de_int) (dw_or (dt_c cmp_gt (de_sub1 (de_var 7) de_int) de_int) (dw_or1 (dt_not (dt_val (de_call tk (hr.mono (by decide)) ⟨G__law_stand, T.l__law_stand, T.h__law_stand.fn.kp, T.h__law_stand.bd⟩ (da_val (de_var 7) (da_val (de_var 2) da_nil)))))))))) (dss_one (ds_ret de_bl)) dss_nil)) dss_nil)
      (dss_cons (ds_for (passes_of rfl) rfl (di_range1 T.b_range de_int) (dg_name (i := 3) sc_law.nd)
      (dss_cons (ds_set (i := 13) sc_law.nd (de_sortSet T.b_sorted T.b_set (de_add (de_lst (da_val de_int da_nil)) (de_lc (own := [("_law_k", 14)]) rfl sc_law.nd (di_range1 T.b_range de_int) (blkOk_by (own := [("_law_k", 14)]) (N := N_law) (sc := defScope s_law) (by decide +kernel)) (fun _ _ _ _ _ => (dg_name (i := 14) sc_law.nd)) (fun _ _ _ _ _ => dts_nil) (fun _ _ _ _ _ => (de_add de_int (de_val (dv_callE takes0 (hr.mono (by decide)) ⟨G__law_pick, T.l__law_pick, T.h__law_pick.fn.kp, T.h__law_pick.bd⟩ (da_cons (dv_var 1) (da_val de_int da_nil)))))) (by decide)))))
      (dss_one (ds_if (dt_w (dw_and (dt_c (cmp_eq hr) (de_callB T.b_len call_len cop_len (da_val (de_var 13) da_nil)) de_int) (dw_and (dt_val (de_call tk (hr.mono (by decide)) ⟨G__law_stand, T.l__law_stand, T.h__law_stand.fn.kp, T.h__law_stand.bd⟩ (da_val (de_callTy T.b_tuple call_tuple_of cop_tuple (da_val (de_var 13) da_nil)) (da_val (de_var 2) da_nil)))) (dw_and1 (dt_w (dw_or (dt_c cmp_isN (de_var 7) de_non) (dw_or1 (dt_c (cmp_ltD (hr.mono (Nat.zero_le _))) (de_callTy T.b_tuple call_tuple_of cop_tuple (da_val (de_var 13) da_nil)) (de_var 7))))))))) (dss_one (ds_ret de_bl)) dss_nil))))
      (dss_cons (ds_set (i := 8) sc_law.nd (de_val (dv_callE tk (hr.mono (by decide)) ⟨G__law_pick, T.l__law_pick, T.h__law_pick.fn.kp, T.h__law_pick.bd⟩ (da_cons (dv_var 1) (da_val (de_callB T.b_len call_len cop_len (da_val (de_var 2) da_nil)) da_nil)))))
      (dss_cons (ds_set (i := 9) sc_law.nd (de_sub1 (de_lst (da_val de_non (da_val (de_tup da_nil) (da_val (de_lst (da_val (de_sub1 (de_sub1 (de_var 2) de_int) de_int) da_nil)) (da_val (de_mulA (de_slice (de_sub1 (de_var 2) de_int) do_none (do_some de_int)) de_int) (da_val (de_tup (da_val (de_val (dv_callE tk (hr.mono (by decide)) ⟨G__law_odd_plug, T.l__law_odd_plug, T.h__law_odd_plug.fn.kp, T.h__law_odd_plug.bd⟩ (da_cons (dv_var 1) da_nil))) da_nil)) (da_val de_str da_nil))))))) (de_val (dv_callE tk (hr.mono (by decide)) ⟨G__law_pick, T.l__law_pick, T.h__law_pick.fn.kp, T.h__law_pick.bd⟩ (da_cons (dv_var 1) (da_val de_int da_nil))))))
      (dss_cons (ds_if (dt_c (cmp_ne hr) (de_call tk (hr.mono (by decide)) ⟨G__law_wrong, T.l__law_wrong, T.h__law_wrong.fn.kp, T.h__law_wrong.bd⟩ (da_val (de_add (de_add (de_slice (de_var 2) do_none (do_some (de_var 8))) (de_lst (da_val (de_var 9) da_nil))) (de_slice (de_var 2) (do_some (de_add (de_var 8) de_int)) do_none)) (da_val de_non (da_val de_non da_nil)))) (de_lst (da_val de_str (da_val (de_var 8) da_nil)))) (dss_one (ds_ret de_bl)) dss_nil)
      (dss_cons (ds_if (dt_c (cmp_ne hr) (de_call tk (hr.mono (by decide)) ⟨G__law_wrong, T.l__law_wrong, T.h__law_wrong.fn.kp, T.h__law_wrong.bd⟩ (da_val (de_sub1 (de_lst (da_val de_non (da_val (de_lst da_nil) (da_val (de_mulB (de_slice (de_var 2) do_none (do_some de_int)) de_int) (da_val de_int (da_val de_str da_nil)))))) (de_val (dv_callE tk (hr.mono (by decide)) ⟨G__law_pick, T.l__law_pick, T.h__law_pick.fn.kp, T.h__law_pick.bd⟩ (da_cons (dv_var 1) (da_val de_int da_nil))))) (da_val de_non (da_val de_non da_nil)))) (de_lst (da_val de_str (da_val de_non da_nil)))) (dss_one (ds_ret de_bl)) dss_nil)
      (dss_cons (ds_if (dt_c (cmp_ne hr) (de_call tk (hr.mono (by decide)) ⟨G__law_wrong, T.l__law_wrong, T.h__law_wrong.fn.kp, T.h__law_wrong.bd⟩ (da_val (de_var 2) (da_val (de_sub1 (de_lst (da_val de_int (da_val de_int (da_val de_non (da_val de_bl (da_val de_str da_nil)))))) (de_val (dv_callE tk (hr.mono (by decide)) ⟨G__law_pick, T.l__law_pick, T.h__law_pick.fn.kp, T.h__law_pick.bd⟩ (da_cons (dv_var 1) (da_val de_int da_nil))))) (da_val de_non da_nil)))) de_str) (dss_one (ds_ret de_bl)) dss_nil)
      (dss_one (ds_ret (de_c (cmp_eq hr) (de_call tk (hr.mono (by decide)) ⟨G__law_wrong, T.l__law_wrong, T.h__law_wrong.fn.kp, T.h__law_wrong.bd⟩ (da_val (de_var 2) (da_val de_int (da_val (de_sub1 (de_lst (da_val (de_neg de_int) (da_val de_int (da_val de_non (da_val de_bl (da_val de_str da_nil)))))) (de_val (dv_callE tk (hr.mono (by decide)) ⟨G__law_pick, T.l__law_pick, T.h__law_pick.fn.kp, T.h__law_pick.bd⟩ (da_cons (dv_var 1) (da_val de_int da_nil))))) da_nil)))) de_str)))))))))))))))))))
end K28
namespace K28
open PySem L2 Dl
theorem all_mk {l : PySem.W.OpenLaw} {w : World} {K : PySem.W.Frag} {h : Heap} {mg : Str → Option Value} {fa : Addr} (X : K.In h) (G : h.Ns mainGlobals mg) (hfa : mg "law" = some (.ref fa))
    {c_Strip : Addr}
    {c_BadLots : Addr}
    {c_BadMany : Addr}
    {c_BadPlugs : Addr}
    {c_BadSockets : Addr}
    {c_BadWidth : Addr}
    {c_StripError : Addr}
    {f0 : Addr} {od0 an0 : Option Addr} {sl0 : Array (Option Value)} {oc0 kV0 dc0 pm0 cd0 ct0 : Value}
    {f1 : Addr} {od1 an1 : Option Addr} {sl1 : Array (Option Value)} {oc1 kV1 dc1 pm1 cd1 ct1 : Value}
    {f2 : Addr} {od2 an2 : Option Addr} {sl2 : Array (Option Value)} {oc2 kV2 dc2 pm2 cd2 ct2 : Value}
    {f3 : Addr} {od3 an3 : Option Addr} {sl3 : Array (Option Value)} {oc3 kV3 dc3 pm3 cd3 ct3 : Value}
    {f4 : Addr} {od4 an4 : Option Addr} {sl4 : Array (Option Value)} {oc4 kV4 dc4 pm4 cd4 ct4 : Value}
    {f5 : Addr} {od5 an5 : Option Addr} {sl5 : Array (Option Value)} {oc5 kV5 dc5 pm5 cd5 ct5 : Value}
    {f6 : Addr} {od6 an6 : Option Addr} {sl6 : Array (Option Value)} {oc6 kV6 dc6 pm6 cd6 ct6 : Value}
    {f7 : Addr} {od7 an7 : Option Addr} {sl7 : Array (Option Value)} {oc7 kV7 dc7 pm7 cd7 ct7 : Value}
    {f8 : Addr} {od8 an8 : Option Addr} {sl8 : Array (Option Value)} {oc8 kV8 dc8 pm8 cd8 ct8 : Value}
    {f9 : Addr} {od9 an9 : Option Addr} {sl9 : Array (Option Value)} {oc9 kV9 dc9 pm9 cd9 ct9 : Value}
    {f10 : Addr} {od10 an10 : Option Addr} {sl10 : Array (Option Value)} {oc10 kV10 dc10 pm10 cd10 ct10 : Value}
    {f11 : Addr} {od11 an11 : Option Addr} {sl11 : Array (Option Value)} {oc11 kV11 dc11 pm11 cd11 ct11 : Value}
    {f12 : Addr} {od12 an12 : Option Addr} {sl12 : Array (Option Value)} {oc12 kV12 dc12 pm12 cd12 ct12 : Value}
    {f13 : Addr} {od13 an13 : Option Addr} {sl13 : Array (Option Value)} {oc13 kV13 dc13 pm13 cd13 ct13 : Value}
    {f14 : Addr} {od14 an14 : Option Addr} {sl14 : Array (Option Value)} {oc14 kV14 dc14 pm14 cd14 ct14 : Value}
    {f15 : Addr} {od15 an15 : Option Addr} {sl15 : Array (Option Value)} {oc15 kV15 dc15 pm15 cd15 ct15 : Value}
    {f16 : Addr} {od16 an16 : Option Addr} {sl16 : Array (Option Value)} {oc16 kV16 dc16 pm16 cd16 ct16 : Value}
    {f17 : Addr} {od17 an17 : Option Addr} {sl17 : Array (Option Value)} {oc17 kV17 dc17 pm17 cd17 ct17 : Value}
    {f18 : Addr} {od18 an18 : Option Addr} {sl18 : Array (Option Value)} {oc18 kV18 dc18 pm18 cd18 ct18 : Value}
    {f19 : Addr} {od19 an19 : Option Addr} {sl19 : Array (Option Value)} {oc19 kV19 dc19 pm19 cd19 ct19 : Value}
    {f20 : Addr} {od20 an20 : Option Addr} {sl20 : Array (Option Value)} {oc20 kV20 dc20 pm20 cd20 ct20 : Value}
    {f21 : Addr} {od21 an21 : Option Addr} {sl21 : Array (Option Value)} {oc21 kV21 dc21 pm21 cd21 ct21 : Value}
    {f22 : Addr} {od22 an22 : Option Addr} {sl22 : Array (Option Value)} {oc22 kV22 dc22 pm22 cd22 ct22 : Value}
    {f23 : Addr} {od23 an23 : Option Addr} {sl23 : Array (Option Value)} {oc23 kV23 dc23 pm23 cd23 ct23 : Value}
    {f24 : Addr} {od24 an24 : Option Addr} {sl24 : Array (Option Value)} {oc24 kV24 dc24 pm24 cd24 ct24 : Value}
    {f25 : Addr} {od25 an25 : Option Addr} {sl25 : Array (Option Value)} {oc25 kV25 dc25 pm25 cd25 ct25 : Value}
    {f26 : Addr} {od26 an26 : Option Addr} {sl26 : Array (Option Value)} {oc26 kV26 dc26 pm26 cd26 ct26 : Value}
    {f27 : Addr} {od27 an27 : Option Addr} {sl27 : Array (Option Value)} {oc27 kV27 dc27 pm27 cd27 ct27 : Value}
    {f28 : Addr} {od28 an28 : Option Addr} {sl28 : Array (Option Value)} {oc28 kV28 dc28 pm28 cd28 ct28 : Value}
    {f29 : Addr} {od29 an29 : Option Addr} {sl29 : Array (Option Value)} {oc29 kV29 dc29 pm29 cd29 ct29 : Value}
    {t_FAR : Tok}
    {t_MOST_AT : Tok}
    {t_MOST_FEW : Tok}
    {t_MOST_SIDE : Tok}
    {t_MOST_SMALL : Tok}
    {t_MOST_SOCKETS : Tok}
    {t_MOST_WIDTH : Tok}
    (aC_Strip : PySem.W.nsIn K mainGlobals "Strip" = some (some (.ref c_Strip)))
    (aE_BadLots : PySem.W.nsIn K mainGlobals "BadLots" = some (some (.ref c_BadLots)))
    (aE_BadMany : PySem.W.nsIn K mainGlobals "BadMany" = some (some (.ref c_BadMany)))
    (aE_BadPlugs : PySem.W.nsIn K mainGlobals "BadPlugs" = some (some (.ref c_BadPlugs)))
    (aE_BadSockets : PySem.W.nsIn K mainGlobals "BadSockets" = some (some (.ref c_BadSockets)))
    (aE_BadWidth : PySem.W.nsIn K mainGlobals "BadWidth" = some (some (.ref c_BadWidth)))
    (aE_StripError : PySem.W.nsIn K mainGlobals "StripError" = some (some (.ref c_StripError)))
    (a0 : PySem.W.findIn K (.ref c_BadPlugs) "__init__" = some (some (.ref f0)))
    (i0 : PySem.W.isFn K (.ref f0) = true)
    (l0 : K.lookup f0 = some ⟨oc0, od0, .func (PySem.W.fnOf "__init__" "BadPlugs.__init__" (defArgs s_BadPlugs_d__init_d_) (defBody s_BadPlugs_d__init_d_) (defScope s_BadPlugs_d__init_d_) .none kV0 dc0 pm0 an0 cd0 ct0), sl0⟩)
    (c0 : PySem.W.codeIn K cd0 "BadPlugs.__init__" = true)
    (k0 : PySem.W.keepIn K (.ref f0) = true)
    (a1 : PySem.W.findIn K (.ref c_BadLots) "__init__" = some (some (.ref f1)))
    (i1 : PySem.W.isFn K (.ref f1) = true)
    (l1 : K.lookup f1 = some ⟨oc1, od1, .func (PySem.W.fnOf "__init__" "BadLots.__init__" (defArgs s_BadLots_d__init_d_) (defBody s_BadLots_d__init_d_) (defScope s_BadLots_d__init_d_) .none kV1 dc1 pm1 an1 cd1 ct1), sl1⟩)
    (c1 : PySem.W.codeIn K cd1 "BadLots.__init__" = true)
    (k1 : PySem.W.keepIn K (.ref f1) = true)
    (a2 : PySem.W.nsIn K mainGlobals "_law_draws" = some (some (.ref f2)))
    (l2 : K.lookup f2 = some ⟨oc2, od2, .func (PySem.W.fnOf "_law_draws" "_law_draws" (defArgs s__law_draws) (defBody s__law_draws) (defScope s__law_draws) .none kV2 dc2 pm2 an2 cd2 ct2), sl2⟩)
    (c2 : PySem.W.codeIn K cd2 "_law_draws" = true)
    (k2 : PySem.W.keepIn K (.ref f2) = true)
    (a3 : PySem.W.nsIn K mainGlobals "_law_pick" = some (some (.ref f3)))
    (l3 : K.lookup f3 = some ⟨oc3, od3, .func (PySem.W.fnOf "_law_pick" "_law_pick" (defArgs s__law_pick) (defBody s__law_pick) (defScope s__law_pick) .none kV3 dc3 pm3 an3 cd3 ct3), sl3⟩)
    (c3 : PySem.W.codeIn K cd3 "_law_pick" = true)
    (k3 : PySem.W.keepIn K (.ref f3) = true)
    (a4 : PySem.W.nsIn K mainGlobals "_law_small" = some (some (.ref f4)))
    (l4 : K.lookup f4 = some ⟨oc4, od4, .func (PySem.W.fnOf "_law_small" "_law_small" (defArgs s__law_small) (defBody s__law_small) (defScope s__law_small) .none kV4 dc4 pm4 an4 cd4 ct4), sl4⟩)
    (c4 : PySem.W.codeIn K cd4 "_law_small" = true)
    (k4 : PySem.W.keepIn K (.ref f4) = true)
    (a5 : PySem.W.nsIn K mainGlobals "_law_can" = some (some (.ref f5)))
    (l5 : K.lookup f5 = some ⟨oc5, od5, .func (PySem.W.fnOf "_law_can" "_law_can" (defArgs s__law_can) (defBody s__law_can) (defScope s__law_can) .none kV5 dc5 pm5 an5 cd5 ct5), sl5⟩)
    (c5 : PySem.W.codeIn K cd5 "_law_can" = true)
    (k5 : PySem.W.keepIn K (.ref f5) = true)
    (a6 : PySem.W.nsIn K mainGlobals "_law_places" = some (some (.ref f6)))
    (l6 : K.lookup f6 = some ⟨oc6, od6, .func (PySem.W.fnOf "_law_places" "_law_places" (defArgs s__law_places) (defBody s__law_places) (defScope s__law_places) .none kV6 dc6 pm6 an6 cd6 ct6), sl6⟩)
    (c6 : PySem.W.codeIn K cd6 "_law_places" = true)
    (k6 : PySem.W.keepIn K (.ref f6) = true)
    (a7 : PySem.W.nsIn K mainGlobals "_law_body" = some (some (.ref f7)))
    (l7 : K.lookup f7 = some ⟨oc7, od7, .func (PySem.W.fnOf "_law_body" "_law_body" (defArgs s__law_body) (defBody s__law_body) (defScope s__law_body) .none kV7 dc7 pm7 an7 cd7 ct7), sl7⟩)
    (c7 : PySem.W.codeIn K cd7 "_law_body" = true)
    (k7 : PySem.W.keepIn K (.ref f7) = true)
    (a8 : PySem.W.nsIn K mainGlobals "_law_meet" = some (some (.ref f8)))
    (l8 : K.lookup f8 = some ⟨oc8, od8, .func (PySem.W.fnOf "_law_meet" "_law_meet" (defArgs s__law_meet) (defBody s__law_meet) (defScope s__law_meet) .none kV8 dc8 pm8 an8 cd8 ct8), sl8⟩)
    (c8 : PySem.W.codeIn K cd8 "_law_meet" = true)
    (k8 : PySem.W.keepIn K (.ref f8) = true)
    (a9 : PySem.W.nsIn K mainGlobals "_law_fault" = some (some (.ref f9)))
    (l9 : K.lookup f9 = some ⟨oc9, od9, .func (PySem.W.fnOf "_law_fault" "_law_fault" (defArgs s__law_fault) (defBody s__law_fault) (defScope s__law_fault) .none kV9 dc9 pm9 an9 cd9 ct9), sl9⟩)
    (c9 : PySem.W.codeIn K cd9 "_law_fault" = true)
    (k9 : PySem.W.keepIn K (.ref f9) = true)
    (a10 : PySem.W.nsIn K mainGlobals "_law_placings" = some (some (.ref f10)))
    (l10 : K.lookup f10 = some ⟨oc10, od10, .func (PySem.W.fnOf "_law_placings" "_law_placings" (defArgs s__law_placings) (defBody s__law_placings) (defScope s__law_placings) .none kV10 dc10 pm10 an10 cd10 ct10), sl10⟩)
    (c10 : PySem.W.codeIn K cd10 "_law_placings" = true)
    (k10 : PySem.W.keepIn K (.ref f10) = true)
    (a11 : PySem.W.nsIn K mainGlobals "_law_stand" = some (some (.ref f11)))
    (l11 : K.lookup f11 = some ⟨oc11, od11, .func (PySem.W.fnOf "_law_stand" "_law_stand" (defArgs s__law_stand) (defBody s__law_stand) (defScope s__law_stand) .none kV11 dc11 pm11 an11 cd11 ct11), sl11⟩)
    (c11 : PySem.W.codeIn K cd11 "_law_stand" = true)
    (k11 : PySem.W.keepIn K (.ref f11) = true)
    (a12 : PySem.W.nsIn K mainGlobals "is_from" = some (some (.ref f12)))
    (l12 : K.lookup f12 = some ⟨oc12, od12, .func (PySem.W.fnOf "is_from" "is_from" (defArgs s_is_from) (defBody s_is_from) (defScope s_is_from) .none kV12 dc12 pm12 an12 cd12 ct12), sl12⟩)
    (c12 : PySem.W.codeIn K cd12 "is_from" = true)
    (k12 : PySem.W.keepIn K (.ref f12) = true)
    (a13 : PySem.W.nsIn K mainGlobals "is_plug" = some (some (.ref f13)))
    (l13 : K.lookup f13 = some ⟨oc13, od13, .func (PySem.W.fnOf "is_plug" "is_plug" (defArgs s_is_plug) (defBody s_is_plug) (defScope s_is_plug) .none kV13 dc13 pm13 an13 cd13 ct13), sl13⟩)
    (c13 : PySem.W.codeIn K cd13 "is_plug" = true)
    (k13 : PySem.W.keepIn K (.ref f13) = true)
    (a14 : PySem.W.nsIn K mainGlobals "check_plugs" = some (some (.ref f14)))
    (l14 : K.lookup f14 = some ⟨oc14, od14, .func (PySem.W.fnOf "check_plugs" "check_plugs" (defArgs s_check_plugs) (defBody s_check_plugs) (defScope s_check_plugs) .none kV14 dc14 pm14 an14 cd14 ct14), sl14⟩)
    (c14 : PySem.W.codeIn K cd14 "check_plugs" = true)
    (k14 : PySem.W.keepIn K (.ref f14) = true)
    (a15 : PySem.W.nsIn K mainGlobals "check_lots" = some (some (.ref f15)))
    (l15 : K.lookup f15 = some ⟨oc15, od15, .func (PySem.W.fnOf "check_lots" "check_lots" (defArgs s_check_lots) (defBody s_check_lots) (defScope s_check_lots) .none kV15 dc15 pm15 an15 cd15 ct15), sl15⟩)
    (c15 : PySem.W.codeIn K cd15 "check_lots" = true)
    (k15 : PySem.W.keepIn K (.ref f15) = true)
    (a16 : PySem.W.nsIn K mainGlobals "rows_of" = some (some (.ref f16)))
    (l16 : K.lookup f16 = some ⟨oc16, od16, .func (PySem.W.fnOf "rows_of" "rows_of" (defArgs s_rows_of) (defBody s_rows_of) (defScope s_rows_of) .none kV16 dc16 pm16 an16 cd16 ct16), sl16⟩)
    (c16 : PySem.W.codeIn K cd16 "rows_of" = true)
    (k16 : PySem.W.keepIn K (.ref f16) = true)
    (a17 : PySem.W.nsIn K mainGlobals "can_turn" = some (some (.ref f17)))
    (l17 : K.lookup f17 = some ⟨oc17, od17, .func (PySem.W.fnOf "can_turn" "can_turn" (defArgs s_can_turn) (defBody s_can_turn) (defScope s_can_turn) .none kV17 dc17 pm17 an17 cd17 ct17), sl17⟩)
    (c17 : PySem.W.codeIn K cd17 "can_turn" = true)
    (k17 : PySem.W.keepIn K (.ref f17) = true)
    (a18 : PySem.W.nsIn K mainGlobals "stands_of" = some (some (.ref f18)))
    (l18 : K.lookup f18 = some ⟨oc18, od18, .func (PySem.W.fnOf "stands_of" "stands_of" (defArgs s_stands_of) (defBody s_stands_of) (defScope s_stands_of) .none kV18 dc18 pm18 an18 cd18 ct18), sl18⟩)
    (c18 : PySem.W.codeIn K cd18 "stands_of" = true)
    (k18 : PySem.W.keepIn K (.ref f18) = true)
    (a19 : PySem.W.nsIn K mainGlobals "sides" = some (some (.ref f19)))
    (l19 : K.lookup f19 = some ⟨oc19, od19, .func (PySem.W.fnOf "sides" "sides" (defArgs s_sides) (defBody s_sides) (defScope s_sides) .none kV19 dc19 pm19 an19 cd19 ct19), sl19⟩)
    (c19 : PySem.W.codeIn K cd19 "sides" = true)
    (k19 : PySem.W.keepIn K (.ref f19) = true)
    (a20 : PySem.W.nsIn K mainGlobals "body" = some (some (.ref f20)))
    (l20 : K.lookup f20 = some ⟨oc20, od20, .func (PySem.W.fnOf "body" "body" (defArgs s_body) (defBody s_body) (defScope s_body) .none kV20 dc20 pm20 an20 cd20 ct20), sl20⟩)
    (c20 : PySem.W.codeIn K cd20 "body" = true)
    (k20 : PySem.W.keepIn K (.ref f20) = true)
    (a21 : PySem.W.nsIn K mainGlobals "layers_of" = some (some (.ref f21)))
    (l21 : K.lookup f21 = some ⟨oc21, od21, .func (PySem.W.fnOf "layers_of" "layers_of" (defArgs s_layers_of) (defBody s_layers_of) (defScope s_layers_of) .none kV21 dc21 pm21 an21 cd21 ct21), sl21⟩)
    (c21 : PySem.W.codeIn K cd21 "layers_of" = true)
    (k21 : PySem.W.keepIn K (.ref f21) = true)
    (a22 : PySem.W.nsIn K mainGlobals "count_of" = some (some (.ref f22)))
    (l22 : K.lookup f22 = some ⟨oc22, od22, .func (PySem.W.fnOf "count_of" "count_of" (defArgs s_count_of) (defBody s_count_of) (defScope s_count_of) .none kV22 dc22 pm22 an22 cd22 ct22), sl22⟩)
    (c22 : PySem.W.codeIn K cd22 "count_of" = true)
    (k22 : PySem.W.keepIn K (.ref f22) = true)
    (a23 : PySem.W.nsIn K mainGlobals "everyone" = some (some (.ref f23)))
    (l23 : K.lookup f23 = some ⟨oc23, od23, .func (PySem.W.fnOf "everyone" "everyone" (defArgs s_everyone) (defBody s_everyone) (defScope s_everyone) .none kV23 dc23 pm23 an23 cd23 ct23), sl23⟩)
    (c23 : PySem.W.codeIn K cd23 "everyone" = true)
    (k23 : PySem.W.keepIn K (.ref f23) = true)
    (a24 : PySem.W.nsIn K mainGlobals "can_all" = some (some (.ref f24)))
    (l24 : K.lookup f24 = some ⟨oc24, od24, .func (PySem.W.fnOf "can_all" "can_all" (defArgs s_can_all) (defBody s_can_all) (defScope s_can_all) .none kV24 dc24 pm24 an24 cd24 ct24), sl24⟩)
    (c24 : PySem.W.codeIn K cd24 "can_all" = true)
    (k24 : PySem.W.keepIn K (.ref f24) = true)
    (a25 : PySem.W.findIn K (.ref c_Strip) "__init__" = some (some (.ref f25)))
    (i25 : PySem.W.isFn K (.ref f25) = true)
    (l25 : K.lookup f25 = some ⟨oc25, od25, .func (PySem.W.fnOf "__init__" "Strip.__init__" (defArgs s_Strip_d__init_d_) (defBody s_Strip_d__init_d_) (defScope s_Strip_d__init_d_) .none kV25 dc25 pm25 an25 cd25 ct25), sl25⟩)
    (c25 : PySem.W.codeIn K cd25 "Strip.__init__" = true)
    (k25 : PySem.W.keepIn K (.ref f25) = true)
    (a26 : PySem.W.nsIn K mainGlobals "common_strip" = some (some (.ref f26)))
    (l26 : K.lookup f26 = some ⟨oc26, od26, .func (PySem.W.fnOf "common_strip" "common_strip" (defArgs s_common_strip) (defBody s_common_strip) (defScope s_common_strip) .none kV26 dc26 pm26 an26 cd26 ct26), sl26⟩)
    (c26 : PySem.W.codeIn K cd26 "common_strip" = true)
    (k26 : PySem.W.keepIn K (.ref f26) = true)
    (a27 : PySem.W.nsIn K mainGlobals "_law_odd_plug" = some (some (.ref f27)))
    (l27 : K.lookup f27 = some ⟨oc27, od27, .func (PySem.W.fnOf "_law_odd_plug" "_law_odd_plug" (defArgs s__law_odd_plug) (defBody s__law_odd_plug) (defScope s__law_odd_plug) .none kV27 dc27 pm27 an27 cd27 ct27), sl27⟩)
    (c27 : PySem.W.codeIn K cd27 "_law_odd_plug" = true)
    (k27 : PySem.W.keepIn K (.ref f27) = true)
    (a28 : PySem.W.nsIn K mainGlobals "_law_wrong" = some (some (.ref f28)))
    (l28 : K.lookup f28 = some ⟨oc28, od28, .func (PySem.W.fnOf "_law_wrong" "_law_wrong" (defArgs s__law_wrong) (defBody s__law_wrong) (defScope s__law_wrong) .none kV28 dc28 pm28 an28 cd28 ct28), sl28⟩)
    (c28 : PySem.W.codeIn K cd28 "_law_wrong" = true)
    (k28 : PySem.W.keepIn K (.ref f28) = true)
    (a29 : PySem.W.nsIn K mainGlobals "law" = some (some (.ref f29)))
    (l29 : K.lookup f29 = some ⟨oc29, od29, .func (PySem.W.fnOf "law" "law" (defArgs s_law) (defBody s_law) (defScope s_law) .none kV29 dc29 pm29 an29 cd29 ct29), sl29⟩)
    (c29 : PySem.W.codeIn K cd29 "law" = true)
    (k29 : PySem.W.keepIn K (.ref f29) = true)
    (pg_Strip : PySem.W.plainGet K c_Strip Str.empty = true)
    (hd_Strip : PySem.W.hasDictIn K c_Strip = true)
    (po_Strip : PySem.W.plainOver K c_Strip = true)
    (sa_Strip : PySem.W.findIn K (.ref c_Strip) "__setattr__" = some (some (.builtin "object.__setattr__")))
    (mk_Strip : PySem.W.makesIn K c_Strip = true)
    (kc_Strip : PySem.W.keepIn K (.ref c_Strip) = true)
    (ex_BadMany : PySem.W.excIn K c_BadMany veMro "ValueError.__new__" = true)
    (ex_BadSockets : PySem.W.excIn K c_BadSockets veMro "ValueError.__new__" = true)
    (ex_BadWidth : PySem.W.excIn K c_BadWidth veMro "ValueError.__new__" = true)
    (kp_BadLots : PySem.W.keepIn K (.ref c_BadLots) = true)
    (sb_BadLots : PySem.W.subIn K (.ref c_BadLots) (.type "BaseException") = some true)
    (ty_BadLots : PySem.W.typeIn K (.ref c_BadLots) = some (.type "type"))
    (kp_BadMany : PySem.W.keepIn K (.ref c_BadMany) = true)
    (sb_BadMany : PySem.W.subIn K (.ref c_BadMany) (.type "BaseException") = some true)
    (ty_BadMany : PySem.W.typeIn K (.ref c_BadMany) = some (.type "type"))
    (kp_BadPlugs : PySem.W.keepIn K (.ref c_BadPlugs) = true)
    (sb_BadPlugs : PySem.W.subIn K (.ref c_BadPlugs) (.type "BaseException") = some true)
    (ty_BadPlugs : PySem.W.typeIn K (.ref c_BadPlugs) = some (.type "type"))
    (kp_BadSockets : PySem.W.keepIn K (.ref c_BadSockets) = true)
    (sb_BadSockets : PySem.W.subIn K (.ref c_BadSockets) (.type "BaseException") = some true)
    (ty_BadSockets : PySem.W.typeIn K (.ref c_BadSockets) = some (.type "type"))
    (kp_BadWidth : PySem.W.keepIn K (.ref c_BadWidth) = true)
    (sb_BadWidth : PySem.W.subIn K (.ref c_BadWidth) (.type "BaseException") = some true)
    (ty_BadWidth : PySem.W.typeIn K (.ref c_BadWidth) = some (.type "type"))
    (ox_BadLots : oexB K c_BadLots = true)
    (osa_BadLots : PySem.W.findIn K (.ref c_BadLots) "__setattr__" = some (some (.builtin "object.__setattr__")))
    (ox_BadPlugs : oexB K c_BadPlugs = true)
    (osa_BadPlugs : PySem.W.findIn K (.ref c_BadPlugs) "__setattr__" = some (some (.builtin "object.__setattr__")))
    (en_BadLots_index : PySem.W.findIn K (.ref c_BadLots) "index" = some none)
    (en_BadPlugs_index : PySem.W.findIn K (.ref c_BadPlugs) "index" = some none)
    (xsp : PySem.W.specialIn K (.builtin "object.__class__") "__get__" = some (some (.builtin "getset_descriptor.__get__")))
    (xtk : PySem.W.takesIn K (.builtin "object.__class__") = some true)
    (xg_BadLots : PySem.W.findIn K (.ref c_BadLots) "__getattribute__" = some (some (.builtin "BaseException.__getattribute__")))
    (xk_BadLots : PySem.W.findIn K (.ref c_BadLots) "__getattr__" = some none)
    (xs_BadLots : PySem.W.subIn K (.ref c_BadLots) (.type "BaseException") = some true)
    (xd_BadLots : PySem.W.hasDictIn K c_BadLots = true)
    (xa_BadLots : PySem.W.findIn K (.ref c_BadLots) "__class__" = some (some (.builtin "object.__class__")))
    (xm_BadLots : PySem.W.mroIn K c_BadLots (.type "object") = some true)
    (xt_BadLots : PySem.W.typeIn K (.ref c_BadLots) = some (.type "type"))
    (xx_BadLots : PySem.W.subIn K (.ref c_BadLots) (.ref c_BadLots) = some true)
    (xg_BadMany : PySem.W.findIn K (.ref c_BadMany) "__getattribute__" = some (some (.builtin "BaseException.__getattribute__")))
    (xk_BadMany : PySem.W.findIn K (.ref c_BadMany) "__getattr__" = some none)
    (xs_BadMany : PySem.W.subIn K (.ref c_BadMany) (.type "BaseException") = some true)
    (xd_BadMany : PySem.W.hasDictIn K c_BadMany = true)
    (xa_BadMany : PySem.W.findIn K (.ref c_BadMany) "__class__" = some (some (.builtin "object.__class__")))
    (xm_BadMany : PySem.W.mroIn K c_BadMany (.type "object") = some true)
    (xt_BadMany : PySem.W.typeIn K (.ref c_BadMany) = some (.type "type"))
    (xx_BadMany : PySem.W.subIn K (.ref c_BadMany) (.ref c_BadMany) = some true)
    (xg_BadPlugs : PySem.W.findIn K (.ref c_BadPlugs) "__getattribute__" = some (some (.builtin "BaseException.__getattribute__")))
    (xk_BadPlugs : PySem.W.findIn K (.ref c_BadPlugs) "__getattr__" = some none)
    (xs_BadPlugs : PySem.W.subIn K (.ref c_BadPlugs) (.type "BaseException") = some true)
    (xd_BadPlugs : PySem.W.hasDictIn K c_BadPlugs = true)
    (xa_BadPlugs : PySem.W.findIn K (.ref c_BadPlugs) "__class__" = some (some (.builtin "object.__class__")))
    (xm_BadPlugs : PySem.W.mroIn K c_BadPlugs (.type "object") = some true)
    (xt_BadPlugs : PySem.W.typeIn K (.ref c_BadPlugs) = some (.type "type"))
    (xx_BadPlugs : PySem.W.subIn K (.ref c_BadPlugs) (.ref c_BadPlugs) = some true)
    (xg_BadSockets : PySem.W.findIn K (.ref c_BadSockets) "__getattribute__" = some (some (.builtin "BaseException.__getattribute__")))
    (xk_BadSockets : PySem.W.findIn K (.ref c_BadSockets) "__getattr__" = some none)
    (xs_BadSockets : PySem.W.subIn K (.ref c_BadSockets) (.type "BaseException") = some true)
    (xd_BadSockets : PySem.W.hasDictIn K c_BadSockets = true)
    (xa_BadSockets : PySem.W.findIn K (.ref c_BadSockets) "__class__" = some (some (.builtin "object.__class__")))
    (xm_BadSockets : PySem.W.mroIn K c_BadSockets (.type "object") = some true)
    (xt_BadSockets : PySem.W.typeIn K (.ref c_BadSockets) = some (.type "type"))
    (xx_BadSockets : PySem.W.subIn K (.ref c_BadSockets) (.ref c_BadSockets) = some true)
    (xg_BadWidth : PySem.W.findIn K (.ref c_BadWidth) "__getattribute__" = some (some (.builtin "BaseException.__getattribute__")))
    (xk_BadWidth : PySem.W.findIn K (.ref c_BadWidth) "__getattr__" = some none)
    (xs_BadWidth : PySem.W.subIn K (.ref c_BadWidth) (.type "BaseException") = some true)
    (xd_BadWidth : PySem.W.hasDictIn K c_BadWidth = true)
    (xa_BadWidth : PySem.W.findIn K (.ref c_BadWidth) "__class__" = some (some (.builtin "object.__class__")))
    (xm_BadWidth : PySem.W.mroIn K c_BadWidth (.type "object") = some true)
    (xt_BadWidth : PySem.W.typeIn K (.ref c_BadWidth) = some (.type "type"))
    (xx_BadWidth : PySem.W.subIn K (.ref c_BadWidth) (.ref c_BadWidth) = some true)
    (xg_StripError : PySem.W.findIn K (.ref c_StripError) "__getattribute__" = some (some (.builtin "BaseException.__getattribute__")))
    (xk_StripError : PySem.W.findIn K (.ref c_StripError) "__getattr__" = some none)
    (xs_StripError : PySem.W.subIn K (.ref c_StripError) (.type "BaseException") = some true)
    (xd_StripError : PySem.W.hasDictIn K c_StripError = true)
    (xa_StripError : PySem.W.findIn K (.ref c_StripError) "__class__" = some (some (.builtin "object.__class__")))
    (xm_StripError : PySem.W.mroIn K c_StripError (.type "object") = some true)
    (xt_StripError : PySem.W.typeIn K (.ref c_StripError) = some (.type "type"))
    (xx_StripError : PySem.W.subIn K (.ref c_StripError) (.ref c_StripError) = some true)
    (su_BadLots_BadLots : PySem.W.subIn K (.ref c_BadLots) (.ref c_BadLots) = some true)
    (su_BadLots_BadMany : PySem.W.subIn K (.ref c_BadLots) (.ref c_BadMany) = some false)
    (su_BadLots_BadPlugs : PySem.W.subIn K (.ref c_BadLots) (.ref c_BadPlugs) = some false)
    (su_BadLots_BadWidth : PySem.W.subIn K (.ref c_BadLots) (.ref c_BadWidth) = some false)
    (su_BadLots_StripError : PySem.W.subIn K (.ref c_BadLots) (.ref c_StripError) = some true)
    (su_BadMany_BadLots : PySem.W.subIn K (.ref c_BadMany) (.ref c_BadLots) = some false)
    (su_BadMany_BadMany : PySem.W.subIn K (.ref c_BadMany) (.ref c_BadMany) = some true)
    (su_BadMany_BadPlugs : PySem.W.subIn K (.ref c_BadMany) (.ref c_BadPlugs) = some false)
    (su_BadMany_BadWidth : PySem.W.subIn K (.ref c_BadMany) (.ref c_BadWidth) = some false)
    (su_BadMany_StripError : PySem.W.subIn K (.ref c_BadMany) (.ref c_StripError) = some true)
    (su_BadPlugs_BadLots : PySem.W.subIn K (.ref c_BadPlugs) (.ref c_BadLots) = some false)
    (su_BadPlugs_BadMany : PySem.W.subIn K (.ref c_BadPlugs) (.ref c_BadMany) = some false)
    (su_BadPlugs_BadPlugs : PySem.W.subIn K (.ref c_BadPlugs) (.ref c_BadPlugs) = some true)
    (su_BadPlugs_BadWidth : PySem.W.subIn K (.ref c_BadPlugs) (.ref c_BadWidth) = some false)
    (su_BadPlugs_StripError : PySem.W.subIn K (.ref c_BadPlugs) (.ref c_StripError) = some true)
    (su_BadSockets_BadLots : PySem.W.subIn K (.ref c_BadSockets) (.ref c_BadLots) = some false)
    (su_BadSockets_BadMany : PySem.W.subIn K (.ref c_BadSockets) (.ref c_BadMany) = some false)
    (su_BadSockets_BadPlugs : PySem.W.subIn K (.ref c_BadSockets) (.ref c_BadPlugs) = some false)
    (su_BadSockets_BadWidth : PySem.W.subIn K (.ref c_BadSockets) (.ref c_BadWidth) = some false)
    (su_BadSockets_StripError : PySem.W.subIn K (.ref c_BadSockets) (.ref c_StripError) = some true)
    (su_BadWidth_BadLots : PySem.W.subIn K (.ref c_BadWidth) (.ref c_BadLots) = some false)
    (su_BadWidth_BadMany : PySem.W.subIn K (.ref c_BadWidth) (.ref c_BadMany) = some false)
    (su_BadWidth_BadPlugs : PySem.W.subIn K (.ref c_BadWidth) (.ref c_BadPlugs) = some false)
    (su_BadWidth_BadWidth : PySem.W.subIn K (.ref c_BadWidth) (.ref c_BadWidth) = some true)
    (su_BadWidth_StripError : PySem.W.subIn K (.ref c_BadWidth) (.ref c_StripError) = some true)
    (xf_BadLots_index : PySem.W.findIn K (.ref c_BadLots) "index" = some none)
    (no_Strip_rows : PySem.W.findIn K (.ref c_Strip) "rows" = some none)
    (z_all : PySem.W.nsIn K mainGlobals "all" = some none)
    (z_bool : PySem.W.nsIn K mainGlobals "bool" = some none)
    (z_dict : PySem.W.nsIn K mainGlobals "dict" = some none)
    (z_enumerate : PySem.W.nsIn K mainGlobals "enumerate" = some none)
    (z_int : PySem.W.nsIn K mainGlobals "int" = some none)
    (z_isinstance : PySem.W.nsIn K mainGlobals "isinstance" = some none)
    (z_len : PySem.W.nsIn K mainGlobals "len" = some none)
    (z_list : PySem.W.nsIn K mainGlobals "list" = some none)
    (z_range : PySem.W.nsIn K mainGlobals "range" = some none)
    (z_set : PySem.W.nsIn K mainGlobals "set" = some none)
    (z_sorted : PySem.W.nsIn K mainGlobals "sorted" = some none)
    (z_sum : PySem.W.nsIn K mainGlobals "sum" = some none)
    (z_tuple : PySem.W.nsIn K mainGlobals "tuple" = some none)
    (z_zip : PySem.W.nsIn K mainGlobals "zip" = some none)
    (y_FAR : PySem.W.nsIn K mainGlobals "FAR" = some (some (.int (-1000) t_FAR)))
    (y_MOST_AT : PySem.W.nsIn K mainGlobals "MOST_AT" = some (some (.int (300) t_MOST_AT)))
    (y_MOST_FEW : PySem.W.nsIn K mainGlobals "MOST_FEW" = some (some (.int (3) t_MOST_FEW)))
    (y_MOST_SIDE : PySem.W.nsIn K mainGlobals "MOST_SIDE" = some (some (.int (60) t_MOST_SIDE)))
    (y_MOST_SMALL : PySem.W.nsIn K mainGlobals "MOST_SMALL" = some (some (.int (4) t_MOST_SMALL)))
    (y_MOST_SOCKETS : PySem.W.nsIn K mainGlobals "MOST_SOCKETS" = some (some (.int (9) t_MOST_SOCKETS)))
    (y_MOST_WIDTH : PySem.W.nsIn K mainGlobals "MOST_WIDTH" = some (some (.int (24) t_MOST_WIDTH)))
    : ∃ fd : FuncData, (∀ (s : Shared) (v : Value), BindsTo s fd ⟨[v], []⟩ [("_law_script", v)]) ∧ ∀ base : Heap, K.In base → base.Ns mainGlobals mg → FnOk l.prog w K mg base (L2.CX l.prog w) 8 fa fd ["_law_script"] (spLaw K) := by
  have e := hfa.symm.trans (PySem.W.mg_of X G a29)
  cases e
  have F0 := fun_mk (st := s_BadPlugs_d__init_d_) l0 c0 k0
  have B0 := F0.binds (ps := ["self", "index"]) fun _ _ _ _ _ _ us hl => match us, hl with | [_, _], _ => rfl
  have F1 := fun_mk (st := s_BadLots_d__init_d_) l1 c1 k1
  have B1 := F1.binds (ps := ["self", "index"]) fun _ _ _ _ _ _ us hl => match us, hl with | [_, _], _ => rfl
  have F2 := fun_mk (st := s__law_draws) l2 c2 k2
  have B2 := F2.binds (ps := ["_law_script"]) fun _ _ _ _ _ _ us hl => match us, hl with | [_], _ => rfl
  have F3 := fun_mk (st := s__law_pick) l3 c3 k3
  have B3 := F3.binds (ps := ["_law_row", "_law_many"]) fun _ _ _ _ _ _ us hl => match us, hl with | [_, _], _ => rfl
  have F4 := fun_mk (st := s__law_small) l4 c4 k4
  have B4 := F4.binds (ps := ["_law_row", "_law_most"]) fun _ _ _ _ _ _ us hl => match us, hl with | [_, _], _ => rfl
  have F5 := fun_mk (st := s__law_can) l5 c5 k5
  have B5 := F5.binds (ps := ["_law_plug"]) fun _ _ _ _ _ _ us hl => match us, hl with | [_], _ => rfl
  have F6 := fun_mk (st := s__law_places) l6 c6 k6
  have B6 := F6.binds (ps := ["_law_sockets", "_law_plug"]) fun _ _ _ _ _ _ us hl => match us, hl with | [_, _], _ => rfl
  have F7 := fun_mk (st := s__law_body) l7 c7 k7
  have B7 := F7.binds (ps := ["_law_sockets", "_law_plug", "_law_place"]) fun _ _ _ _ _ _ us hl => match us, hl with | [_, _, _], _ => rfl
  have F8 := fun_mk (st := s__law_meet) l8 c8 k8
  have B8 := F8.binds (ps := ["_law_sockets", "_law_plugs", "_law_plan", "_law_one", "_law_other"]) fun _ _ _ _ _ _ us hl => match us, hl with | [_, _, _, _, _], _ => rfl
  have F9 := fun_mk (st := s__law_fault) l9 c9 k9
  have B9 := F9.binds (ps := ["_law_sockets", "_law_plugs", "_law_plan"]) fun _ _ _ _ _ _ us hl => match us, hl with | [_, _, _], _ => rfl
  have F10 := fun_mk (st := s__law_placings) l10 c10 k10
  have B10 := F10.binds (ps := ["_law_sockets", "_law_plugs", "_law_some"]) fun _ _ _ _ _ _ us hl => match us, hl with | [_, _, _], _ => rfl
  have F11 := fun_mk (st := s__law_stand) l11 c11 k11
  have B11 := F11.binds (ps := ["_law_sockets", "_law_lots"]) fun _ _ _ _ _ _ us hl => match us, hl with | [_, _], _ => rfl
  have F12 := fun_mk (st := s_is_from) l12 c12 k12
  have B12 := F12.binds (ps := ["value", "low", "high"]) fun _ _ _ _ _ _ us hl => match us, hl with | [_, _, _], _ => rfl
  have F13 := fun_mk (st := s_is_plug) l13 c13 k13
  have B13 := F13.binds (ps := ["value"]) fun _ _ _ _ _ _ us hl => match us, hl with | [_], _ => rfl
  have F14 := fun_mk (st := s_check_plugs) l14 c14 k14
  have B14 := F14.binds (ps := ["value", "most"]) fun _ _ _ _ _ _ us hl => match us, hl with | [_, _], _ => rfl
  have F15 := fun_mk (st := s_check_lots) l15 c15 k15
  have B15 := F15.binds (ps := ["value"]) fun _ _ _ _ _ _ us hl => match us, hl with | [_], _ => rfl
  have F16 := fun_mk (st := s_rows_of) l16 c16 k16
  have B16 := F16.binds (ps := ["sockets", "width"]) fun _ _ _ _ _ _ us hl => match us, hl with | [_, _], _ => rfl
  have F17 := fun_mk (st := s_can_turn) l17 c17 k17
  have B17 := F17.binds (ps := ["plug"]) fun _ _ _ _ _ _ us hl => match us, hl with | [_], _ => rfl
  have F18 := fun_mk (st := s_stands_of) l18 c18 k18
  have B18 := F18.binds (ps := ["plug"]) fun _ _ _ _ _ _ us hl => match us, hl with | [_], _ => rfl
  have F19 := fun_mk (st := s_sides) l19 c19 k19
  have B19 := F19.binds (ps := ["plug", "turned"]) fun _ _ _ _ _ _ us hl => match us, hl with | [_, _], _ => rfl
  have F20 := fun_mk (st := s_body) l20 c20 k20
  have B20 := F20.binds (ps := ["strip", "plug", "place"]) fun _ _ _ _ _ _ us hl => match us, hl with | [_, _, _], _ => rfl
  have F21 := fun_mk (st := s_layers_of) l21 c21 k21
  have B21 := F21.binds (ps := ["strip", "plugs", "wanted", "fixed"]) fun _ _ _ _ _ _ us hl => match us, hl with | [_, _, _, _], _ => rfl
  have F22 := fun_mk (st := s_count_of) l22 c22 k22
  have B22 := F22.binds (ps := ["strip", "plugs", "wanted", "fixed"]) fun _ _ _ _ _ _ us hl => match us, hl with | [_, _, _, _], _ => rfl
  have F23 := fun_mk (st := s_everyone) l23 c23 k23
  have B23 := F23.binds (ps := ["plugs"]) fun _ _ _ _ _ _ us hl => match us, hl with | [_], _ => rfl
  have F24 := fun_mk (st := s_can_all) l24 c24 k24
  have B24 := F24.binds (ps := ["strip", "plugs"]) fun _ _ _ _ _ _ us hl => match us, hl with | [_, _], _ => rfl
  have F25 := fun_mk (st := s_Strip_d__init_d_) l25 c25 k25
  have B25 := F25.binds (ps := ["self", "sockets"]) fun _ _ _ _ _ _ us hl => match us, hl with | [_, _], _ => rfl
  have F26 := fun_mk (st := s_common_strip) l26 c26 k26
  have B26 := F26.binds (ps := ["lots", "sockets", "width"]) fun _ _ _ _ _ _ us hl => match us, hl with | [_, _, _], _ => rfl
  have F27 := fun_mk (st := s__law_odd_plug) l27 c27 k27
  have B27 := F27.binds (ps := ["_law_row"]) fun _ _ _ _ _ _ us hl => match us, hl with | [_], _ => rfl
  have F28 := fun_mk (st := s__law_wrong) l28 c28 k28
  have B28 := F28.binds (ps := ["_law_lots", "_law_sockets", "_law_width"]) fun _ _ _ _ _ _ us hl => match us, hl with | [_, _, _], _ => rfl
  have F29 := fun_mk (st := s_law) l29 c29 k29
  have B29 := F29.binds (ps := ["_law_script"]) fun _ _ _ _ _ _ us hl => match us, hl with | [_], _ => rfl
  let T : Env K mg := { a_BadPlugs_d__init_d_ := f0, d_BadPlugs_d__init_d_ := _, h_BadPlugs_d__init_d_ := ⟨F0, B0⟩, a_BadLots_d__init_d_ := f1, d_BadLots_d__init_d_ := _, h_BadLots_d__init_d_ := ⟨F1, B1⟩, a__law_draws := f2, d__law_draws := _, h__law_draws := ⟨F2, B2⟩, l__law_draws := PySem.W.mg_of X G a2, a__law_pick := f3, d__law_pick := _, h__law_pick := ⟨F3, B3⟩, l__law_pick := PySem.W.mg_of X G a3, a__law_small := f4, d__law_small := _, h__law_small := ⟨F4, B4⟩, l__law_small := PySem.W.mg_of X G a4, a__law_can := f5, d__law_can := _, h__law_can := ⟨F5, B5⟩, l__law_can := PySem.W.mg_of X G a5, a__law_places := f6, d__law_places := _, h__law_places := ⟨F6, B6⟩, l__law_places := PySem.W.mg_of X G a6, a__law_body := f7, d__law_body := _, h__law_body := ⟨F7, B7⟩, l__law_body := PySem.W.mg_of X G a7, a__law_meet := f8, d__law_meet := _, h__law_meet := ⟨F8, B8⟩, l__law_meet := PySem.W.mg_of X G a8, a__law_fault := f9, d__law_fault := _, h__law_fault := ⟨F9, B9⟩, l__law_fault := PySem.W.mg_of X G a9, a__law_placings := f10, d__law_placings := _, h__law_placings := ⟨F10, B10⟩, l__law_placings := PySem.W.mg_of X G a10, a__law_stand := f11, d__law_stand := _, h__law_stand := ⟨F11, B11⟩, l__law_stand := PySem.W.mg_of X G a11, a_is_from := f12, d_is_from := _, h_is_from := ⟨F12, B12⟩, l_is_from := PySem.W.mg_of X G a12, a_is_plug := f13, d_is_plug := _, h_is_plug := ⟨F13, B13⟩, l_is_plug := PySem.W.mg_of X G a13, a_check_plugs := f14, d_check_plugs := _, h_check_plugs := ⟨F14, B14⟩, l_check_plugs := PySem.W.mg_of X G a14, a_check_lots := f15, d_check_lots := _, h_check_lots := ⟨F15, B15⟩, l_check_lots := PySem.W.mg_of X G a15, a_rows_of := f16, d_rows_of := _, h_rows_of := ⟨F16, B16⟩, l_rows_of := PySem.W.mg_of X G a16, a_can_turn := f17, d_can_turn := _, h_can_turn := ⟨F17, B17⟩, l_can_turn := PySem.W.mg_of X G a17, a_stands_of := f18, d_stands_of := _, h_stands_of := ⟨F18, B18⟩, l_stands_of := PySem.W.mg_of X G a18, a_sides := f19, d_sides := _, h_sides := ⟨F19, B19⟩, l_sides := PySem.W.mg_of X G a19, a_body := f20, d_body := _, h_body := ⟨F20, B20⟩, l_body := PySem.W.mg_of X G a20, a_layers_of := f21, d_layers_of := _, h_layers_of := ⟨F21, B21⟩, l_layers_of := PySem.W.mg_of X G a21, a_count_of := f22, d_count_of := _, h_count_of := ⟨F22, B22⟩, l_count_of := PySem.W.mg_of X G a22, a_everyone := f23, d_everyone := _, h_everyone := ⟨F23, B23⟩, l_everyone := PySem.W.mg_of X G a23, a_can_all := f24, d_can_all := _, h_can_all := ⟨F24, B24⟩, l_can_all := PySem.W.mg_of X G a24, a_Strip_d__init_d_ := f25, d_Strip_d__init_d_ := _, h_Strip_d__init_d_ := ⟨F25, B25⟩, a_common_strip := f26, d_common_strip := _, h_common_strip := ⟨F26, B26⟩, l_common_strip := PySem.W.mg_of X G a26, a__law_odd_plug := f27, d__law_odd_plug := _, h__law_odd_plug := ⟨F27, B27⟩, l__law_odd_plug := PySem.W.mg_of X G a27, a__law_wrong := f28, d__law_wrong := _, h__law_wrong := ⟨F28, B28⟩, l__law_wrong := PySem.W.mg_of X G a28, a_law := fa, d_law := _, h_law := ⟨F29, B29⟩, l_law := PySem.W.mg_of X G a29, c_Strip := c_Strip, k_Strip := ⟨PySem.W.mg_of X G aC_Strip, ⟨pg_Strip, hd_Strip, po_Strip, sa_Strip⟩⟩, c_BadLots := c_BadLots, c_BadMany := c_BadMany, c_BadPlugs := c_BadPlugs, c_BadSockets := c_BadSockets, c_BadWidth := c_BadWidth, c_StripError := c_StripError, r_BadMany := ⟨PySem.W.mg_of X G aE_BadMany, ex_BadMany, kp_BadMany, sb_BadMany, ty_BadMany⟩, r_BadSockets := ⟨PySem.W.mg_of X G aE_BadSockets, ex_BadSockets, kp_BadSockets, sb_BadSockets, ty_BadSockets⟩, r_BadWidth := ⟨PySem.W.mg_of X G aE_BadWidth, ex_BadWidth, kp_BadWidth, sb_BadWidth, ty_BadWidth⟩, r_BadLots := ⟨PySem.W.mg_of X G aE_BadLots, ⟨oexB_ok ox_BadLots, osa_BadLots, sb_BadLots, ty_BadLots, kp_BadLots⟩, a1, isFn_ty i1⟩, r_BadPlugs := ⟨PySem.W.mg_of X G aE_BadPlugs, ⟨oexB_ok ox_BadPlugs, osa_BadPlugs, sb_BadPlugs, ty_BadPlugs, kp_BadPlugs⟩, a0, isFn_ty i0⟩, no_BadLots_index := en_BadLots_index, no_BadPlugs_index := en_BadPlugs_index, x_BadLots := ⟨PySem.W.mg_of X G aE_BadLots, ⟨xg_BadLots, xk_BadLots, xs_BadLots, xd_BadLots, xa_BadLots, xsp, xtk, xm_BadLots⟩, xt_BadLots, xx_BadLots⟩, x_BadMany := ⟨PySem.W.mg_of X G aE_BadMany, ⟨xg_BadMany, xk_BadMany, xs_BadMany, xd_BadMany, xa_BadMany, xsp, xtk, xm_BadMany⟩, xt_BadMany, xx_BadMany⟩, x_BadPlugs := ⟨PySem.W.mg_of X G aE_BadPlugs, ⟨xg_BadPlugs, xk_BadPlugs, xs_BadPlugs, xd_BadPlugs, xa_BadPlugs, xsp, xtk, xm_BadPlugs⟩, xt_BadPlugs, xx_BadPlugs⟩, x_BadSockets := ⟨PySem.W.mg_of X G aE_BadSockets, ⟨xg_BadSockets, xk_BadSockets, xs_BadSockets, xd_BadSockets, xa_BadSockets, xsp, xtk, xm_BadSockets⟩, xt_BadSockets, xx_BadSockets⟩, x_BadWidth := ⟨PySem.W.mg_of X G aE_BadWidth, ⟨xg_BadWidth, xk_BadWidth, xs_BadWidth, xd_BadWidth, xa_BadWidth, xsp, xtk, xm_BadWidth⟩, xt_BadWidth, xx_BadWidth⟩, x_StripError := ⟨PySem.W.mg_of X G aE_StripError, ⟨xg_StripError, xk_StripError, xs_StripError, xd_StripError, xa_StripError, xsp, xtk, xm_StripError⟩, xt_StripError, xx_StripError⟩, s_BadLots_BadLots := su_BadLots_BadLots.trans (by rw [show subX "BadLots" "BadLots" = true from by decide +kernel]), s_BadLots_BadMany := su_BadLots_BadMany.trans (by rw [show subX "BadLots" "BadMany" = false from by decide +kernel]), s_BadLots_BadPlugs := su_BadLots_BadPlugs.trans (by rw [show subX "BadLots" "BadPlugs" = false from by decide +kernel]), s_BadLots_BadWidth := su_BadLots_BadWidth.trans (by rw [show subX "BadLots" "BadWidth" = false from by decide +kernel]), s_BadLots_StripError := su_BadLots_StripError.trans (by rw [show subX "BadLots" "StripError" = true from by decide +kernel]), s_BadMany_BadLots := su_BadMany_BadLots.trans (by rw [show subX "BadMany" "BadLots" = false from by decide +kernel]), s_BadMany_BadMany := su_BadMany_BadMany.trans (by rw [show subX "BadMany" "BadMany" = true from by decide +kernel]), s_BadMany_BadPlugs := su_BadMany_BadPlugs.trans (by rw [show subX "BadMany" "BadPlugs" = false from by decide +kernel]), s_BadMany_BadWidth := su_BadMany_BadWidth.trans (by rw [show subX "BadMany" "BadWidth" = false from by decide +kernel]), s_BadMany_StripError := su_BadMany_StripError.trans (by rw [show subX "BadMany" "StripError" = true from by decide +kernel]), s_BadPlugs_BadLots := su_BadPlugs_BadLots.trans (by rw [show subX "BadPlugs" "BadLots" = false from by decide +kernel]), s_BadPlugs_BadMany := su_BadPlugs_BadMany.trans (by rw [show subX "BadPlugs" "BadMany" = false from by decide +kernel]), s_BadPlugs_BadPlugs := su_BadPlugs_BadPlugs.trans (by rw [show subX "BadPlugs" "BadPlugs" = true from by decide +kernel]), s_BadPlugs_BadWidth := su_BadPlugs_BadWidth.trans (by rw [show subX "BadPlugs" "BadWidth" = false from by decide +kernel]), s_BadPlugs_StripError := su_BadPlugs_StripError.trans (by rw [show subX "BadPlugs" "StripError" = true from by decide +kernel]), s_BadSockets_BadLots := su_BadSockets_BadLots.trans (by rw [show subX "BadSockets" "BadLots" = false from by decide +kernel]), s_BadSockets_BadMany := su_BadSockets_BadMany.trans (by rw [show subX "BadSockets" "BadMany" = false from by decide +kernel]), s_BadSockets_BadPlugs := su_BadSockets_BadPlugs.trans (by rw [show subX "BadSockets" "BadPlugs" = false from by decide +kernel]), s_BadSockets_BadWidth := su_BadSockets_BadWidth.trans (by rw [show subX "BadSockets" "BadWidth" = false from by decide +kernel]), s_BadSockets_StripError := su_BadSockets_StripError.trans (by rw [show subX "BadSockets" "StripError" = true from by decide +kernel]), s_BadWidth_BadLots := su_BadWidth_BadLots.trans (by rw [show subX "BadWidth" "BadLots" = false from by decide +kernel]), s_BadWidth_BadMany := su_BadWidth_BadMany.trans (by rw [show subX "BadWidth" "BadMany" = false from by decide +kernel]), s_BadWidth_BadPlugs := su_BadWidth_BadPlugs.trans (by rw [show subX "BadWidth" "BadPlugs" = false from by decide +kernel]), s_BadWidth_BadWidth := su_BadWidth_BadWidth.trans (by rw [show subX "BadWidth" "BadWidth" = true from by decide +kernel]), s_BadWidth_StripError := su_BadWidth_StripError.trans (by rw [show subX "BadWidth" "StripError" = true from by decide +kernel]), f_BadLots_index := ⟨PySem.W.mg_of X G aE_BadLots, ⟨xg_BadLots, xk_BadLots, xs_BadLots, xd_BadLots⟩, xf_BadLots_index⟩, m_Strip := ⟨mk_Strip, a25, i25, kc_Strip⟩, n_Strip_rows := no_Strip_rows, b_all := PySem.W.mg_none_of X G z_all, b_bool := PySem.W.mg_none_of X G z_bool, b_dict := PySem.W.mg_none_of X G z_dict, b_enumerate := PySem.W.mg_none_of X G z_enumerate, b_int := PySem.W.mg_none_of X G z_int, b_isinstance := PySem.W.mg_none_of X G z_isinstance, b_len := PySem.W.mg_none_of X G z_len, b_list := PySem.W.mg_none_of X G z_list, b_range := PySem.W.mg_none_of X G z_range, b_set := PySem.W.mg_none_of X G z_set, b_sorted := PySem.W.mg_none_of X G z_sorted, b_sum := PySem.W.mg_none_of X G z_sum, b_tuple := PySem.W.mg_none_of X G z_tuple, b_zip := PySem.W.mg_none_of X G z_zip, t_FAR := t_FAR, g_FAR := PySem.W.mg_of X G y_FAR, t_MOST_AT := t_MOST_AT, g_MOST_AT := PySem.W.mg_of X G y_MOST_AT, t_MOST_FEW := t_MOST_FEW, g_MOST_FEW := PySem.W.mg_of X G y_MOST_FEW, t_MOST_SIDE := t_MOST_SIDE, g_MOST_SIDE := PySem.W.mg_of X G y_MOST_SIDE, t_MOST_SMALL := t_MOST_SMALL, g_MOST_SMALL := PySem.W.mg_of X G y_MOST_SMALL, t_MOST_SOCKETS := t_MOST_SOCKETS, g_MOST_SOCKETS := PySem.W.mg_of X G y_MOST_SOCKETS, t_MOST_WIDTH := t_MOST_WIDTH, g_MOST_WIDTH := PySem.W.mg_of X G y_MOST_WIDTH }
  exact ⟨T.d_law, fun s v => .of_eq rfl, fun base _ _ => law_ok (fun ns _ => Pk.law_true_19 ns) (ok_law T)⟩
end K28
open PySem PySem.W PyProof.Rows
set_option maxRecDepth 100000 in
set_option maxHeartbeats 0 in
theorem PySem.Challenge.cw_plugstrip_k28_common_strips_holds : PySem.Challenge.rw_plugstrip_k28_common_strips.Holds := by
  w_on; o_law; k_head; (case hw => w_witness2)
  k_fill
  refine Dl.walk (l := PySem.Challenge.rw_plugstrip_k28_common_strips) (k := 8) (x := "_law_script") rfl rfl (by decide) (fun w h Y => PySem.W.kIn_of Y) ?F
  case F =>
    intro w mg fa h KX G hmg
    refine' K28.all_mk KX G hmg ?aC_Strip ?aE_BadLots ?aE_BadMany ?aE_BadPlugs ?aE_BadSockets ?aE_BadWidth ?aE_StripError ?a0 ?i0 ?l0 ?c0 ?k0 ?a1 ?i1 ?l1 ?c1 ?k1 ?a2 ?l2 ?c2 ?k2 ?a3 ?l3 ?c3 ?k3 ?a4 ?l4 ?c4 ?k4 ?a5 ?l5 ?c5 ?k5 ?a6 ?l6 ?c6 ?k6 ?a7 ?l7 ?c7 ?k7 ?a8 ?l8 ?c8 ?k8 ?a9 ?l9 ?c9 ?k9 ?a10 ?l10 ?c10 ?k10 ?a11 ?l11 ?c11 ?k11 ?a12 ?l12 ?c12 ?k12 ?a13 ?l13 ?c13 ?k13 ?a14 ?l14 ?c14 ?k14 ?a15 ?l15 ?c15 ?k15 ?a16 ?l16 ?c16 ?k16 ?a17 ?l17 ?c17 ?k17 ?a18 ?l18 ?c18 ?k18 ?a19 ?l19 ?c19 ?k19 ?a20 ?l20 ?c20 ?k20 ?a21 ?l21 ?c21 ?k21 ?a22 ?l22 ?c22 ?k22 ?a23 ?l23 ?c23 ?k23 ?a24 ?l24 ?c24 ?k24 ?a25 ?i25 ?l25 ?c25 ?k25 ?a26 ?l26 ?c26 ?k26 ?a27 ?l27 ?c27 ?k27 ?a28 ?l28 ?c28 ?k28 ?a29 ?l29 ?c29 ?k29 ?pg_Strip ?hd_Strip ?po_Strip ?sa_Strip ?mk_Strip ?kc_Strip ?ex_BadMany ?ex_BadSockets ?ex_BadWidth ?kp_BadLots ?sb_BadLots ?ty_BadLots ?kp_BadMany ?sb_BadMany ?ty_BadMany ?kp_BadPlugs ?sb_BadPlugs ?ty_BadPlugs ?kp_BadSockets ?sb_BadSockets ?ty_BadSockets ?kp_BadWidth ?sb_BadWidth ?ty_BadWidth ?ox_BadLots ?osa_BadLots ?ox_BadPlugs ?osa_BadPlugs ?en_BadLots_index ?en_BadPlugs_index ?xsp ?xtk ?xg_BadLots ?xk_BadLots ?xs_BadLots ?xd_BadLots ?xa_BadLots ?xm_BadLots ?xt_BadLots ?xx_BadLots ?xg_BadMany ?xk_BadMany ?xs_BadMany ?xd_BadMany ?xa_BadMany ?xm_BadMany ?xt_BadMany ?xx_BadMany ?xg_BadPlugs ?xk_BadPlugs ?xs_BadPlugs ?xd_BadPlugs ?xa_BadPlugs ?xm_BadPlugs ?xt_BadPlugs ?xx_BadPlugs ?xg_BadSockets ?xk_BadSockets ?xs_BadSockets ?xd_BadSockets ?xa_BadSockets ?xm_BadSockets ?xt_BadSockets ?xx_BadSockets ?xg_BadWidth ?xk_BadWidth ?xs_BadWidth ?xd_BadWidth ?xa_BadWidth ?xm_BadWidth ?xt_BadWidth ?xx_BadWidth ?xg_StripError ?xk_StripError ?xs_StripError ?xd_StripError ?xa_StripError ?xm_StripError ?xt_StripError ?xx_StripError ?su_BadLots_BadLots ?su_BadLots_BadMany ?su_BadLots_BadPlugs ?su_BadLots_BadWidth ?su_BadLots_StripError ?su_BadMany_BadLots ?su_BadMany_BadMany ?su_BadMany_BadPlugs ?su_BadMany_BadWidth ?su_BadMany_StripError ?su_BadPlugs_BadLots ?su_BadPlugs_BadMany ?su_BadPlugs_BadPlugs ?su_BadPlugs_BadWidth ?su_BadPlugs_StripError ?su_BadSockets_BadLots ?su_BadSockets_BadMany ?su_BadSockets_BadPlugs ?su_BadSockets_BadWidth ?su_BadSockets_StripError ?su_BadWidth_BadLots ?su_BadWidth_BadMany ?su_BadWidth_BadPlugs ?su_BadWidth_BadWidth ?su_BadWidth_StripError ?xf_BadLots_index ?no_Strip_rows ?z_all ?z_bool ?z_dict ?z_enumerate ?z_int ?z_isinstance ?z_len ?z_list ?z_range ?z_set ?z_sorted ?z_sum ?z_tuple ?z_zip ?y_FAR ?y_MOST_AT ?y_MOST_FEW ?y_MOST_SIDE ?y_MOST_SMALL ?y_MOST_SOCKETS ?y_MOST_WIDTH
    (case aC_Strip => k_is)
    (case aE_BadLots => k_is)
    (case aE_BadMany => k_is)
    (case aE_BadPlugs => k_is)
    (case aE_BadSockets => k_is)
    (case aE_BadWidth => k_is)
    (case aE_StripError => k_is)
    (case a0 => k_is)
    (case i0 => k_is)
    (case l0 => k_is)
    (case c0 => k_is)
    (case k0 => k_is)
    (case a1 => k_is)
    (case i1 => k_is)
    (case l1 => k_is)
    (case c1 => k_is)
    (case k1 => k_is)
    (case a2 => k_is)
    (case l2 => k_is)
    (case c2 => k_is)
    (case k2 => k_is)
    (case a3 => k_is)
    (case l3 => k_is)
    (case c3 => k_is)
    (case k3 => k_is)
    (case a4 => k_is)
    (case l4 => k_is)
    (case c4 => k_is)
    (case k4 => k_is)
    (case a5 => k_is)
    (case l5 => k_is)
    (case c5 => k_is)
    (case k5 => k_is)
    (case a6 => k_is)
    (case l6 => k_is)
    (case c6 => k_is)
    (case k6 => k_is)
    (case a7 => k_is)
    (case l7 => k_is)
    (case c7 => k_is)
    (case k7 => k_is)
    (case a8 => k_is)
    (case l8 => k_is)
    (case c8 => k_is)
    (case k8 => k_is)
    (case a9 => k_is)
    (case l9 => k_is)
    (case c9 => k_is)
    (case k9 => k_is)
    (case a10 => k_is)
    (case l10 => k_is)
    (case c10 => k_is)
    (case k10 => k_is)
    (case a11 => k_is)
    (case l11 => k_is)
    (case c11 => k_is)
    (case k11 => k_is)
    (case a12 => k_is)
    (case l12 => k_is)
    (case c12 => k_is)
    (case k12 => k_is)
    (case a13 => k_is)
    (case l13 => k_is)
    (case c13 => k_is)
    (case k13 => k_is)
    (case a14 => k_is)
    (case l14 => k_is)
    (case c14 => k_is)
    (case k14 => k_is)
    (case a15 => k_is)
    (case l15 => k_is)
    (case c15 => k_is)
    (case k15 => k_is)
    (case a16 => k_is)
    (case l16 => k_is)
    (case c16 => k_is)
    (case k16 => k_is)
    (case a17 => k_is)
    (case l17 => k_is)
    (case c17 => k_is)
    (case k17 => k_is)
    (case a18 => k_is)
    (case l18 => k_is)
    (case c18 => k_is)
    (case k18 => k_is)
    (case a19 => k_is)
    (case l19 => k_is)
    (case c19 => k_is)
    (case k19 => k_is)
    (case a20 => k_is)
    (case l20 => k_is)
    (case c20 => k_is)
    (case k20 => k_is)
    (case a21 => k_is)
    (case l21 => k_is)
    (case c21 => k_is)
    (case k21 => k_is)
    (case a22 => k_is)
    (case l22 => k_is)
    (case c22 => k_is)
    (case k22 => k_is)
    (case a23 => k_is)
    (case l23 => k_is)
    (case c23 => k_is)
    (case k23 => k_is)
    (case a24 => k_is)
    (case l24 => k_is)
    (case c24 => k_is)
    (case k24 => k_is)
    (case a25 => k_is)
    (case i25 => k_is)
    (case l25 => k_is)
    (case c25 => k_is)
    (case k25 => k_is)
    (case a26 => k_is)
    (case l26 => k_is)
    (case c26 => k_is)
    (case k26 => k_is)
    (case a27 => k_is)
    (case l27 => k_is)
    (case c27 => k_is)
    (case k27 => k_is)
    (case a28 => k_is)
    (case l28 => k_is)
    (case c28 => k_is)
    (case k28 => k_is)
    (case a29 => k_is)
    (case l29 => k_is)
    (case c29 => k_is)
    (case k29 => k_is)
    (case pg_Strip => k_is)
    (case hd_Strip => k_is)
    (case po_Strip => k_is)
    (case sa_Strip => k_is)
    (case mk_Strip => k_is)
    (case kc_Strip => k_is)
    (case ex_BadMany => k_exc)
    (case ex_BadSockets => k_exc)
    (case ex_BadWidth => k_exc)
    (case kp_BadLots => k_is)
    (case sb_BadLots => k_is)
    (case ty_BadLots => k_is)
    (case kp_BadMany => k_is)
    (case sb_BadMany => k_is)
    (case ty_BadMany => k_is)
    (case kp_BadPlugs => k_is)
    (case sb_BadPlugs => k_is)
    (case ty_BadPlugs => k_is)
    (case kp_BadSockets => k_is)
    (case sb_BadSockets => k_is)
    (case ty_BadSockets => k_is)
    (case kp_BadWidth => k_is)
    (case sb_BadWidth => k_is)
    (case ty_BadWidth => k_is)
    (case ox_BadLots => (first | exact Eq.refl true | decide +kernel))
    (case osa_BadLots => k_is)
    (case ox_BadPlugs => (first | exact Eq.refl true | decide +kernel))
    (case osa_BadPlugs => k_is)
    (case en_BadLots_index => k_is)
    (case en_BadPlugs_index => k_is)
    (case xsp => k_is)
    (case xtk => k_is)
    (case xg_BadLots => k_is)
    (case xk_BadLots => k_is)
    (case xs_BadLots => k_is)
    (case xd_BadLots => k_is)
    (case xa_BadLots => k_is)
    (case xm_BadLots => k_is)
    (case xt_BadLots => k_is)
    (case xx_BadLots => k_is)
    (case xg_BadMany => k_is)
    (case xk_BadMany => k_is)
    (case xs_BadMany => k_is)
    (case xd_BadMany => k_is)
    (case xa_BadMany => k_is)
    (case xm_BadMany => k_is)
    (case xt_BadMany => k_is)
    (case xx_BadMany => k_is)
    (case xg_BadPlugs => k_is)
    (case xk_BadPlugs => k_is)
    (case xs_BadPlugs => k_is)
    (case xd_BadPlugs => k_is)
    (case xa_BadPlugs => k_is)
    (case xm_BadPlugs => k_is)
    (case xt_BadPlugs => k_is)
    (case xx_BadPlugs => k_is)
    (case xg_BadSockets => k_is)
    (case xk_BadSockets => k_is)
    (case xs_BadSockets => k_is)
    (case xd_BadSockets => k_is)
    (case xa_BadSockets => k_is)
    (case xm_BadSockets => k_is)
    (case xt_BadSockets => k_is)
    (case xx_BadSockets => k_is)
    (case xg_BadWidth => k_is)
    (case xk_BadWidth => k_is)
    (case xs_BadWidth => k_is)
    (case xd_BadWidth => k_is)
    (case xa_BadWidth => k_is)
    (case xm_BadWidth => k_is)
    (case xt_BadWidth => k_is)
    (case xx_BadWidth => k_is)
    (case xg_StripError => k_is)
    (case xk_StripError => k_is)
    (case xs_StripError => k_is)
    (case xd_StripError => k_is)
    (case xa_StripError => k_is)
    (case xm_StripError => k_is)
    (case xt_StripError => k_is)
    (case xx_StripError => k_is)
    (case su_BadLots_BadLots => k_is)
    (case su_BadLots_BadMany => k_is)
    (case su_BadLots_BadPlugs => k_is)
    (case su_BadLots_BadWidth => k_is)
    (case su_BadLots_StripError => k_is)
    (case su_BadMany_BadLots => k_is)
    (case su_BadMany_BadMany => k_is)
    (case su_BadMany_BadPlugs => k_is)
    (case su_BadMany_BadWidth => k_is)
    (case su_BadMany_StripError => k_is)
    (case su_BadPlugs_BadLots => k_is)
    (case su_BadPlugs_BadMany => k_is)
    (case su_BadPlugs_BadPlugs => k_is)
    (case su_BadPlugs_BadWidth => k_is)
    (case su_BadPlugs_StripError => k_is)
    (case su_BadSockets_BadLots => k_is)
    (case su_BadSockets_BadMany => k_is)
    (case su_BadSockets_BadPlugs => k_is)
    (case su_BadSockets_BadWidth => k_is)
    (case su_BadSockets_StripError => k_is)
    (case su_BadWidth_BadLots => k_is)
    (case su_BadWidth_BadMany => k_is)
    (case su_BadWidth_BadPlugs => k_is)
    (case su_BadWidth_BadWidth => k_is)
    (case su_BadWidth_StripError => k_is)
    (case xf_BadLots_index => k_is)
    (case no_Strip_rows => k_is)
    (case z_all => k_is)
    (case z_bool => k_is)
    (case z_dict => k_is)
    (case z_enumerate => k_is)
    (case z_int => k_is)
    (case z_isinstance => k_is)
    (case z_len => k_is)
    (case z_list => k_is)
    (case z_range => k_is)
    (case z_set => k_is)
    (case z_sorted => k_is)
    (case z_sum => k_is)
    (case z_tuple => k_is)
    (case z_zip => k_is)
    (case y_FAR => k_is)
    (case y_MOST_AT => k_is)
    (case y_MOST_FEW => k_is)
    (case y_MOST_SIDE => k_is)
    (case y_MOST_SMALL => k_is)
    (case y_MOST_SOCKETS => k_is)
    (case y_MOST_WIDTH => k_is)
